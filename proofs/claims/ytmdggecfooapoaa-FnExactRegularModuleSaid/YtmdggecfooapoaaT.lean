/- The seat's functions are those of the small language: each asked by the kernel. Written by gen.py. -/
import Derived.Test.YtmdggecfooapoaaC2
import Derived.Test.YtmdggecfooapoaaProg
import Derived.KernelRfl
set_option linter.unusedVariables false
set_option linter.unusedSimpArgs false
namespace Hf
open Go Go.Proofs

def rhoL : List Nat := [10, 9, 11, 12, 3, 13, 14, 4, 15, 16, 17, 5, 18, 19, 20, 6, 22, 21, 23, 24, 7, 25, 26, 8, 27, 28, 29, 30, 31, 32, 34, 33, 35, 37, 36, 38, 39, 40, 41, 42, 43, 44, 45, 46, 47, 48, 49, 51, 52, 50, 53, 54, 55, 56, 57, 58, 60, 59, 61, 63, 62, 64, 67, 68, 69, 70, 71, 72, 73, 75, 74, 65, 77, 66, 78, 79, 80, 81, 82, 83, 84, 85, 86, 87, 88, 90, 92, 93, 94, 95, 97, 98, 76, 99, 100, 101, 102, 103, 104, 105, 106, 107, 108, 89, 109, 110, 91, 111, 112, 113, 114, 115, 96, 116, 117, 118, 119, 120, 121, 122, 123, 125, 124]
def rho (k : Nat) : FuncId := rhoL.getD k 3
theorem rho_all : (rhoL.all (fnOk Try.prog) && fnOk Try.prog 3) = true := by kernel_rfl
theorem rho_fn : ∀ f, fnOk Try.prog (rho f) = true := by
  intro f
  have h := rho_all
  rw [Bool.and_eq_true, List.all_eq_true] at h
  unfold rho
  rw [List.getD_eq_getElem?_getD]
  cases e : rhoL[f]? with
  | none => exact h.2
  | some x => exact h.1 x (List.mem_of_getElem? e)
theorem rho_mo : Try.prog.follows .mixedOrders = true := by kernel_rfl
theorem c_i_Hopf_algebra : chkFn Try.prog rho 36 pf_i_Hopf_algebra = true := by kernel_rfl
theorem c_i_IsPrime : chkFn Try.prog rho 93 pf_i_IsPrime = true := by kernel_rfl
theorem c_i_in : chkFn Try.prog rho 94 pf_i_in = true := by kernel_rfl
theorem c_i_IsVector : chkFn Try.prog rho 92 pf_i_IsVector = true := by kernel_rfl
theorem c_i_isLinear : chkFn Try.prog rho 83 pf_i_isLinear = true := by kernel_rfl
theorem c_i_isTable : chkFn Try.prog rho 102 pf_i_isTable = true := by kernel_rfl
theorem c_i_Algebra_isShaped : chkFn Try.prog rho 81 pf_i_Algebra_isShaped = true := by kernel_rfl
theorem c_i_Hopf_coalgebra : chkFn Try.prog rho 39 pf_i_Hopf_coalgebra = true := by kernel_rfl
theorem c_i_Coalgebra_isShaped : chkFn Try.prog rho 82 pf_i_Coalgebra_isShaped = true := by kernel_rfl
theorem c_i_Hopf_isShaped : chkFn Try.prog rho 67 pf_i_Hopf_isShaped = true := by kernel_rfl
theorem c_i_basis : chkFn Try.prog rho 61 pf_i_basis = true := by kernel_rfl
theorem c_i_Algebra_field : chkFn Try.prog rho 116 pf_i_Algebra_field = true := by kernel_rfl
theorem c_i_field_mod : chkFn Try.prog rho 74 pf_i_field_mod = true := by kernel_rfl
theorem c_i_field_plus : chkFn Try.prog rho 71 pf_i_field_plus = true := by kernel_rfl
theorem c_i_Algebra_product : chkFn Try.prog rho 104 pf_i_Algebra_product = true := by kernel_rfl
theorem c_i_Algebra_fault : chkFn Try.prog rho 105 pf_i_Algebra_fault = true := by kernel_rfl
theorem c_i_IsAlgebra : chkFn Try.prog rho 103 pf_i_IsAlgebra = true := by kernel_rfl
theorem c_i_Hopf_fails_1 : chkFn Try.prog rho 84 pf_i_Hopf_fails_1 = true := by kernel_rfl
theorem c_i_Coalgebra_field : chkFn Try.prog rho 117 pf_i_Coalgebra_field = true := by kernel_rfl
theorem c_i_field_dot : chkFn Try.prog rho 118 pf_i_field_dot = true := by kernel_rfl
theorem c_i_Coalgebra_isCounit : chkFn Try.prog rho 107 pf_i_Coalgebra_isCounit = true := by kernel_rfl
theorem c_i_Coalgebra_isFault : chkFn Try.prog rho 119 pf_i_Coalgebra_isFault = true := by kernel_rfl
theorem c_i_Coalgebra_fault : chkFn Try.prog rho 108 pf_i_Coalgebra_fault = true := by kernel_rfl
theorem c_i_IsCoalgebra : chkFn Try.prog rho 106 pf_i_IsCoalgebra = true := by kernel_rfl
theorem c_i_Hopf_fails_2 : chkFn Try.prog rho 85 pf_i_Hopf_fails_2 = true := by kernel_rfl
theorem c_i_Hopf_field : chkFn Try.prog rho 32 pf_i_Hopf_field = true := by kernel_rfl
theorem c_i_Hopf_coproduct : chkFn Try.prog rho 58 pf_i_Hopf_coproduct = true := by kernel_rfl
theorem c_i_Hopf_tensor_1_1 : chkFn Try.prog rho 122 pf_i_Hopf_tensor_1_1 = true := by kernel_rfl
theorem c_i_pairs : chkFn Try.prog rho 60 pf_i_pairs = true := by kernel_rfl
theorem c_i_Hopf_tensor_1 : chkFn Try.prog rho 120 pf_i_Hopf_tensor_1 = true := by kernel_rfl
theorem c_i_Hopf_tensor : chkFn Try.prog rho 109 pf_i_Hopf_tensor = true := by kernel_rfl
theorem c_i_Hopf_axiom3 : chkFn Try.prog rho 86 pf_i_Hopf_axiom3 = true := by kernel_rfl
theorem c_i_field_times : chkFn Try.prog rho 114 pf_i_field_times = true := by kernel_rfl
theorem c_i_field_pair : chkFn Try.prog rho 110 pf_i_field_pair = true := by kernel_rfl
theorem c_i_Hopf_axiom4 : chkFn Try.prog rho 87 pf_i_Hopf_axiom4 = true := by kernel_rfl
theorem c_i_Hopf_counit : chkFn Try.prog rho 111 pf_i_Hopf_counit = true := by kernel_rfl
theorem c_i_Hopf_axiom5 : chkFn Try.prog rho 88 pf_i_Hopf_axiom5 = true := by kernel_rfl
theorem c_i_Hopf_product : chkFn Try.prog rho 73 pf_i_Hopf_product = true := by kernel_rfl
theorem c_i_Hopf_folded_1 : chkFn Try.prog rho 121 pf_i_Hopf_folded_1 = true := by kernel_rfl
theorem c_i_Hopf_folded : chkFn Try.prog rho 113 pf_i_Hopf_folded = true := by kernel_rfl
theorem c_i_Hopf_axiomS : chkFn Try.prog rho 112 pf_i_Hopf_axiomS = true := by kernel_rfl
theorem c_i_Hopf_fails_3 : chkFn Try.prog rho 89 pf_i_Hopf_fails_3 = true := by kernel_rfl
theorem c_i_Hopf_fails_4 : chkFn Try.prog rho 90 pf_i_Hopf_fails_4 = true := by kernel_rfl
theorem c_i_Hopf_fails : chkFn Try.prog rho 68 pf_i_Hopf_fails = true := by kernel_rfl
theorem c_i_IsHopf : chkFn Try.prog rho 47 pf_i_IsHopf = true := by kernel_rfl
theorem c_i_Hopf_has_1 : chkFn Try.prog rho 69 pf_i_Hopf_has_1 = true := by kernel_rfl
theorem c_x_IndexFunc_V : chkFn Try.prog rho 91 pf_x_IndexFunc_V = true := by kernel_rfl
theorem c_x_ContainsFunc_V : chkFn Try.prog rho 70 pf_x_ContainsFunc_V = true := by kernel_rfl
theorem c_i_Hopf_has : chkFn Try.prog rho 48 pf_i_Hopf_has = true := by kernel_rfl
theorem c_i_unless : chkFn Try.prog rho 49 pf_i_unless = true := by kernel_rfl
theorem c_i_Hopf_code : chkFn Try.prog rho 27 pf_i_Hopf_code = true := by kernel_rfl
theorem c_i_Hopf_adjoint_1 : chkFn Try.prog rho 59 pf_i_Hopf_adjoint_1 = true := by kernel_rfl
theorem c_i_Hopf_adjoint : chkFn Try.prog rho 42 pf_i_Hopf_adjoint = true := by kernel_rfl
theorem c_i_AdjointAction : chkFn Try.prog rho 18 pf_i_AdjointAction = true := by kernel_rfl
theorem c_i_AlgebraOf : chkFn Try.prog rho 9 pf_i_AlgebraOf = true := by kernel_rfl
theorem c_i_CoalgebraOf : chkFn Try.prog rho 13 pf_i_CoalgebraOf = true := by kernel_rfl
theorem c_i_Hopf_regular : chkFn Try.prog rho 28 pf_i_Hopf_regular = true := by kernel_rfl
theorem c_i_field_identity : chkFn Try.prog rho 44 pf_i_field_identity = true := by kernel_rfl
theorem c_i_field_apply : chkFn Try.prog rho 52 pf_i_field_apply = true := by kernel_rfl
theorem c_i_field_after : chkFn Try.prog rho 33 pf_i_field_after = true := by kernel_rfl
theorem c_i_OrderOfAntipode : chkFn Try.prog rho 22 pf_i_OrderOfAntipode = true := by kernel_rfl
theorem c_i_RegularModule : chkFn Try.prog rho 2 pf_i_RegularModule = true := by kernel_rfl
theorem c_i_field_trace : chkFn Try.prog rho 34 pf_i_field_trace = true := by kernel_rfl
theorem c_i_TraceOfSquare : chkFn Try.prog rho 6 pf_i_TraceOfSquare = true := by kernel_rfl
theorem c_l_toVector : chkFn Try.prog rho 16 pf_l_toVector = true := by kernel_rfl
theorem c_l_toLinear : chkFn Try.prog rho 26 pf_l_toLinear = true := by kernel_rfl
theorem c_l_toTable : chkFn Try.prog rho 25 pf_l_toTable = true := by kernel_rfl
theorem c_l_toHopf : chkFn Try.prog rho 0 pf_l_toHopf = true := by kernel_rfl
theorem c_s_l03Algebra : chkFn Try.prog rho 35 pf_s_l03Algebra = true := by kernel_rfl
theorem c_s_l01In : chkFn Try.prog rho 96 pf_s_l01In = true := by kernel_rfl
theorem c_s_l01Prime : chkFn Try.prog rho 95 pf_s_l01Prime = true := by kernel_rfl
theorem c_s_l01Sizes : chkFn Try.prog rho 75 pf_s_l01Sizes = true := by kernel_rfl
theorem c_s_l01Vector : chkFn Try.prog rho 53 pf_s_l01Vector = true := by kernel_rfl
theorem c_s_l01Linear : chkFn Try.prog rho 64 pf_s_l01Linear = true := by kernel_rfl
theorem c_s_l01Table : chkFn Try.prog rho 63 pf_s_l01Table = true := by kernel_rfl
theorem c_s_l01Shape : chkFn Try.prog rho 62 pf_s_l01Shape = true := by kernel_rfl
theorem c_s_l03Shape : chkFn Try.prog rho 45 pf_s_l03Shape = true := by kernel_rfl
theorem c_s_l01Basis : chkFn Try.prog rho 55 pf_s_l01Basis = true := by kernel_rfl
theorem c_s_l01Mod : chkFn Try.prog rho 72 pf_s_l01Mod = true := by kernel_rfl
theorem c_s_l01Add : chkFn Try.prog rho 57 pf_s_l01Add = true := by kernel_rfl
theorem c_s_l01Apply : chkFn Try.prog rho 51 pf_s_l01Apply = true := by kernel_rfl
theorem c_s_l01Times : chkFn Try.prog rho 56 pf_s_l01Times = true := by kernel_rfl
theorem c_s_l01Fault : chkFn Try.prog rho 97 pf_s_l01Fault = true := by kernel_rfl
theorem c_s_l01Is : chkFn Try.prog rho 76 pf_s_l01Is = true := by kernel_rfl
theorem c_s_l03Coalgebra : chkFn Try.prog rho 38 pf_s_l03Coalgebra = true := by kernel_rfl
theorem c_s_l02Shape : chkFn Try.prog rho 98 pf_s_l02Shape = true := by kernel_rfl
theorem c_s_l02Sums : chkFn Try.prog rho 115 pf_s_l02Sums = true := by kernel_rfl
theorem c_s_l02Fault : chkFn Try.prog rho 99 pf_s_l02Fault = true := by kernel_rfl
theorem c_s_l02Counits : chkFn Try.prog rho 100 pf_s_l02Counits = true := by kernel_rfl
theorem c_s_l02Is : chkFn Try.prog rho 77 pf_s_l02Is = true := by kernel_rfl
theorem c_s_l03Coproduct : chkFn Try.prog rho 54 pf_s_l03Coproduct = true := by kernel_rfl
theorem c_s_l01Zero : chkFn Try.prog rho 101 pf_s_l01Zero = true := by kernel_rfl
theorem c_s_l03Pairs : chkFn Try.prog rho 78 pf_s_l03Pairs = true := by kernel_rfl
theorem c_s_l03Counit : chkFn Try.prog rho 79 pf_s_l03Counit = true := by kernel_rfl
theorem c_s_l03Bialgebra : chkFn Try.prog rho 65 pf_s_l03Bialgebra = true := by kernel_rfl
theorem c_s_l03Folded : chkFn Try.prog rho 80 pf_s_l03Folded = true := by kernel_rfl
theorem c_s_l03Antipode : chkFn Try.prog rho 66 pf_s_l03Antipode = true := by kernel_rfl
theorem c_s_l03Fails : chkFn Try.prog rho 46 pf_s_l03Fails = true := by kernel_rfl
theorem c_s_l03Is : chkFn Try.prog rho 24 pf_s_l03Is = true := by kernel_rfl
theorem c_s_l03Code : chkFn Try.prog rho 40 pf_s_l03Code = true := by kernel_rfl
theorem c_s_l07Adjoint : chkFn Try.prog rho 41 pf_s_l07Adjoint = true := by kernel_rfl
theorem c_s_AdjointAction : chkFn Try.prog rho 17 pf_s_AdjointAction = true := by kernel_rfl
theorem c_l_eqVector : chkFn Try.prog rho 19 pf_l_eqVector = true := by kernel_rfl
theorem c_l_FnExactAdjointAction : chkFn Try.prog rho 20 pf_l_FnExactAdjointAction = true := by kernel_rfl
theorem c_s_AlgebraOf : chkFn Try.prog rho 8 pf_s_AlgebraOf = true := by kernel_rfl
theorem c_l_eqLinear : chkFn Try.prog rho 50 pf_l_eqLinear = true := by kernel_rfl
theorem c_l_eqTable : chkFn Try.prog rho 37 pf_l_eqTable = true := by kernel_rfl
theorem c_l_eqAlgebra : chkFn Try.prog rho 10 pf_l_eqAlgebra = true := by kernel_rfl
theorem c_l_FnExactAlgebraOf : chkFn Try.prog rho 11 pf_l_FnExactAlgebraOf = true := by kernel_rfl
theorem c_s_CoalgebraOf : chkFn Try.prog rho 12 pf_s_CoalgebraOf = true := by kernel_rfl
theorem c_l_eqCoalgebra : chkFn Try.prog rho 14 pf_l_eqCoalgebra = true := by kernel_rfl
theorem c_l_FnExactCoalgebraOf : chkFn Try.prog rho 15 pf_l_FnExactCoalgebraOf = true := by kernel_rfl
theorem c_s_l03Same : chkFn Try.prog rho 43 pf_s_l03Same = true := by kernel_rfl
theorem c_s_l01Then : chkFn Try.prog rho 30 pf_s_l01Then = true := by kernel_rfl
theorem c_s_OrderOfAntipode : chkFn Try.prog rho 21 pf_s_OrderOfAntipode = true := by kernel_rfl
theorem c_l_FnExactOrderOfAntipode : chkFn Try.prog rho 23 pf_l_FnExactOrderOfAntipode = true := by kernel_rfl
theorem c_s_RegularModule : chkFn Try.prog rho 1 pf_s_RegularModule = true := by kernel_rfl
theorem c_l_eqLinearA8 : chkFn Try.prog rho 29 pf_l_eqLinearA8 = true := by kernel_rfl
theorem c_l_eqModule : chkFn Try.prog rho 3 pf_l_eqModule = true := by kernel_rfl
theorem c_l_FnExactRegularModule : chkFn Try.prog rho 4 pf_l_FnExactRegularModule = true := by kernel_rfl
theorem c_s_l01Trace : chkFn Try.prog rho 31 pf_s_l01Trace = true := by kernel_rfl
theorem c_s_TraceOfSquare : chkFn Try.prog rho 5 pf_s_TraceOfSquare = true := by kernel_rfl
theorem c_l_FnExactTraceOfSquare : chkFn Try.prog rho 7 pf_l_FnExactTraceOfSquare = true := by kernel_rfl
theorem e_i_Hopf_algebra : E_i_Hopf_algebra Try.prog rho := c_i_Hopf_algebra
theorem e_i_IsPrime : E_i_IsPrime Try.prog rho := c_i_IsPrime
theorem e_i_in : E_i_in Try.prog rho := c_i_in
theorem e_i_IsVector : E_i_IsVector Try.prog rho := ⟨c_i_IsVector, e_i_IsPrime, e_i_in⟩
theorem e_i_isLinear : E_i_isLinear Try.prog rho := ⟨c_i_isLinear, e_i_IsVector⟩
theorem e_i_isTable : E_i_isTable Try.prog rho := ⟨c_i_isTable, e_i_isLinear⟩
theorem e_i_Algebra_isShaped : E_i_Algebra_isShaped Try.prog rho := ⟨c_i_Algebra_isShaped, e_i_IsVector, e_i_isTable⟩
theorem e_i_Hopf_coalgebra : E_i_Hopf_coalgebra Try.prog rho := c_i_Hopf_coalgebra
theorem e_i_Coalgebra_isShaped : E_i_Coalgebra_isShaped Try.prog rho := ⟨c_i_Coalgebra_isShaped, e_i_IsVector, e_i_isTable⟩
theorem e_i_Hopf_isShaped : E_i_Hopf_isShaped Try.prog rho := ⟨c_i_Hopf_isShaped, e_i_Hopf_algebra, e_i_Algebra_isShaped, e_i_Hopf_coalgebra, e_i_Coalgebra_isShaped, e_i_isLinear⟩
theorem e_i_basis : E_i_basis Try.prog rho := c_i_basis
theorem e_i_Algebra_field : E_i_Algebra_field Try.prog rho := c_i_Algebra_field
theorem e_i_field_mod : E_i_field_mod Try.prog rho := c_i_field_mod
theorem e_i_field_plus : E_i_field_plus Try.prog rho := ⟨c_i_field_plus, e_i_field_mod⟩
theorem e_i_Algebra_product : E_i_Algebra_product Try.prog rho := ⟨c_i_Algebra_product, e_i_Algebra_field, e_i_field_plus⟩
theorem e_i_Algebra_fault : E_i_Algebra_fault Try.prog rho := ⟨c_i_Algebra_fault, e_i_basis, e_i_Algebra_product⟩
theorem e_i_IsAlgebra : E_i_IsAlgebra Try.prog rho := ⟨c_i_IsAlgebra, e_i_Algebra_isShaped, e_i_basis, e_i_Algebra_product, e_i_Algebra_fault⟩
theorem e_i_Hopf_fails_1 : E_i_Hopf_fails_1 Try.prog rho := ⟨c_i_Hopf_fails_1, e_i_Hopf_algebra, e_i_IsAlgebra⟩
theorem e_i_Coalgebra_field : E_i_Coalgebra_field Try.prog rho := c_i_Coalgebra_field
theorem e_i_field_dot : E_i_field_dot Try.prog rho := c_i_field_dot
theorem e_i_Coalgebra_isCounit : E_i_Coalgebra_isCounit Try.prog rho := ⟨c_i_Coalgebra_isCounit, e_i_Coalgebra_field, e_i_field_plus, e_i_field_dot, e_i_basis⟩
theorem e_i_Coalgebra_isFault : E_i_Coalgebra_isFault Try.prog rho := ⟨c_i_Coalgebra_isFault, e_i_Coalgebra_field⟩
theorem e_i_Coalgebra_fault : E_i_Coalgebra_fault Try.prog rho := ⟨c_i_Coalgebra_fault, e_i_Coalgebra_isFault⟩
theorem e_i_IsCoalgebra : E_i_IsCoalgebra Try.prog rho := ⟨c_i_IsCoalgebra, e_i_Coalgebra_isShaped, e_i_Coalgebra_isCounit, e_i_Coalgebra_fault⟩
theorem e_i_Hopf_fails_2 : E_i_Hopf_fails_2 Try.prog rho := ⟨c_i_Hopf_fails_2, e_i_Hopf_coalgebra, e_i_IsCoalgebra⟩
theorem e_i_Hopf_field : E_i_Hopf_field Try.prog rho := c_i_Hopf_field
theorem e_i_Hopf_coproduct : E_i_Hopf_coproduct Try.prog rho := ⟨c_i_Hopf_coproduct, e_i_Hopf_field, e_i_field_plus⟩
theorem e_i_Hopf_tensor_1_1 : E_i_Hopf_tensor_1_1 Try.prog rho := ⟨c_i_Hopf_tensor_1_1, e_i_field_plus⟩
theorem e_i_pairs : E_i_pairs Try.prog rho := c_i_pairs
theorem e_i_Hopf_tensor_1 : E_i_Hopf_tensor_1 Try.prog rho := ⟨c_i_Hopf_tensor_1, e_i_Hopf_tensor_1_1, e_i_pairs⟩
theorem e_i_Hopf_tensor : E_i_Hopf_tensor Try.prog rho := ⟨c_i_Hopf_tensor, e_i_Hopf_field, e_i_Hopf_tensor_1, e_i_pairs⟩
theorem e_i_Hopf_axiom3 : E_i_Hopf_axiom3 Try.prog rho := ⟨c_i_Hopf_axiom3, e_i_Hopf_coproduct, e_i_Hopf_tensor⟩
theorem e_i_field_times : E_i_field_times Try.prog rho := ⟨c_i_field_times, e_i_field_plus⟩
theorem e_i_field_pair : E_i_field_pair Try.prog rho := ⟨c_i_field_pair, e_i_field_times⟩
theorem e_i_Hopf_axiom4 : E_i_Hopf_axiom4 Try.prog rho := ⟨c_i_Hopf_axiom4, e_i_Hopf_coproduct, e_i_Hopf_field, e_i_field_pair⟩
theorem e_i_Hopf_counit : E_i_Hopf_counit Try.prog rho := ⟨c_i_Hopf_counit, e_i_Hopf_field, e_i_field_dot⟩
theorem e_i_Hopf_axiom5 : E_i_Hopf_axiom5 Try.prog rho := ⟨c_i_Hopf_axiom5, e_i_Hopf_field, e_i_Hopf_counit⟩
theorem e_i_Hopf_product : E_i_Hopf_product Try.prog rho := ⟨c_i_Hopf_product, e_i_Hopf_field, e_i_field_plus⟩
theorem e_i_Hopf_folded_1 : E_i_Hopf_folded_1 Try.prog rho := ⟨c_i_Hopf_folded_1, e_i_basis, e_i_Hopf_product, e_i_field_plus⟩
theorem e_i_Hopf_folded : E_i_Hopf_folded Try.prog rho := ⟨c_i_Hopf_folded, e_i_Hopf_field, e_i_Hopf_folded_1, e_i_pairs⟩
theorem e_i_Hopf_axiomS : E_i_Hopf_axiomS Try.prog rho := ⟨c_i_Hopf_axiomS, e_i_Hopf_field, e_i_Hopf_folded, e_i_field_times⟩
theorem e_i_Hopf_fails_3 : E_i_Hopf_fails_3 Try.prog rho := ⟨c_i_Hopf_fails_3, e_i_Hopf_axiomS⟩
theorem e_i_Hopf_fails_4 : E_i_Hopf_fails_4 Try.prog rho := ⟨c_i_Hopf_fails_4, e_i_Hopf_axiomS⟩
theorem e_i_Hopf_fails : E_i_Hopf_fails Try.prog rho := ⟨c_i_Hopf_fails, e_i_Hopf_fails_1, e_i_Hopf_fails_2, e_i_Hopf_axiom3, e_i_Hopf_axiom4, e_i_Hopf_axiom5, e_i_Hopf_fails_3, e_i_Hopf_fails_4⟩
theorem e_i_IsHopf : E_i_IsHopf Try.prog rho := ⟨c_i_IsHopf, e_i_Hopf_isShaped, e_i_Hopf_fails⟩
theorem e_i_Hopf_has_1 : E_i_Hopf_has_1 Try.prog rho := ⟨c_i_Hopf_has_1, e_i_IsVector⟩
theorem e_x_IndexFunc_V : E_x_IndexFunc_V Try.prog rho := c_x_IndexFunc_V
theorem e_x_ContainsFunc_V : E_x_ContainsFunc_V Try.prog rho := ⟨c_x_ContainsFunc_V, e_x_IndexFunc_V⟩
theorem e_i_Hopf_has : E_i_Hopf_has Try.prog rho := ⟨c_i_Hopf_has, e_i_Hopf_has_1, e_x_ContainsFunc_V⟩
theorem e_i_unless : E_i_unless Try.prog rho := c_i_unless
theorem e_i_Hopf_code : E_i_Hopf_code Try.prog rho := ⟨c_i_Hopf_code, e_i_IsHopf, e_i_Hopf_has, e_i_unless⟩
theorem e_i_Hopf_adjoint_1 : E_i_Hopf_adjoint_1 Try.prog rho := ⟨c_i_Hopf_adjoint_1, e_i_basis, e_i_Hopf_product, e_i_field_plus⟩
theorem e_i_Hopf_adjoint : E_i_Hopf_adjoint Try.prog rho := ⟨c_i_Hopf_adjoint, e_i_Hopf_field, e_i_Hopf_coproduct, e_i_Hopf_adjoint_1, e_i_pairs⟩
theorem e_i_AdjointAction : E_i_AdjointAction Try.prog rho := ⟨c_i_AdjointAction, e_i_Hopf_code, e_i_Hopf_adjoint⟩
theorem e_i_AlgebraOf : E_i_AlgebraOf Try.prog rho := ⟨c_i_AlgebraOf, e_i_Hopf_code, e_i_Hopf_algebra⟩
theorem e_i_CoalgebraOf : E_i_CoalgebraOf Try.prog rho := ⟨c_i_CoalgebraOf, e_i_Hopf_code, e_i_Hopf_coalgebra⟩
theorem e_i_Hopf_regular : E_i_Hopf_regular Try.prog rho := c_i_Hopf_regular
theorem e_i_field_identity : E_i_field_identity Try.prog rho := ⟨c_i_field_identity, e_i_basis⟩
theorem e_i_field_apply : E_i_field_apply Try.prog rho := ⟨c_i_field_apply, e_i_field_plus⟩
theorem e_i_field_after : E_i_field_after Try.prog rho := ⟨c_i_field_after, e_i_field_apply⟩
theorem e_i_OrderOfAntipode : E_i_OrderOfAntipode Try.prog rho := ⟨c_i_OrderOfAntipode, e_i_Hopf_code, e_i_Hopf_field, e_i_field_identity, e_i_field_after⟩
theorem e_i_RegularModule : E_i_RegularModule Try.prog rho := ⟨c_i_RegularModule, e_i_Hopf_code, e_i_Hopf_regular⟩
theorem e_i_field_trace : E_i_field_trace Try.prog rho := c_i_field_trace
theorem e_i_TraceOfSquare : E_i_TraceOfSquare Try.prog rho := ⟨c_i_TraceOfSquare, e_i_Hopf_code, e_i_Hopf_field, e_i_field_after, e_i_field_trace⟩
theorem e_l_toVector : E_l_toVector Try.prog rho := c_l_toVector
theorem e_l_toLinear : E_l_toLinear Try.prog rho := ⟨c_l_toLinear, e_l_toVector⟩
theorem e_l_toTable : E_l_toTable Try.prog rho := ⟨c_l_toTable, e_l_toLinear⟩
theorem e_l_toHopf : E_l_toHopf Try.prog rho := ⟨c_l_toHopf, e_l_toVector, e_l_toTable, e_l_toLinear⟩
theorem e_s_l03Algebra : E_s_l03Algebra Try.prog rho := c_s_l03Algebra
theorem e_s_l01In : E_s_l01In Try.prog rho := c_s_l01In
theorem e_s_l01Prime : E_s_l01Prime Try.prog rho := ⟨c_s_l01Prime, e_s_l01In⟩
theorem e_s_l01Sizes : E_s_l01Sizes Try.prog rho := ⟨c_s_l01Sizes, e_s_l01Prime, e_s_l01In⟩
theorem e_s_l01Vector : E_s_l01Vector Try.prog rho := c_s_l01Vector
theorem e_s_l01Linear : E_s_l01Linear Try.prog rho := ⟨c_s_l01Linear, e_s_l01Vector⟩
theorem e_s_l01Table : E_s_l01Table Try.prog rho := ⟨c_s_l01Table, e_s_l01Linear⟩
theorem e_s_l01Shape : E_s_l01Shape Try.prog rho := ⟨c_s_l01Shape, e_s_l01Sizes, e_s_l01Vector, e_s_l01Table⟩
theorem e_s_l03Shape : E_s_l03Shape Try.prog rho := ⟨c_s_l03Shape, e_s_l03Algebra, e_s_l01Shape, e_s_l01Vector, e_s_l01Table, e_s_l01Linear⟩
theorem e_s_l01Basis : E_s_l01Basis Try.prog rho := c_s_l01Basis
theorem e_s_l01Mod : E_s_l01Mod Try.prog rho := c_s_l01Mod
theorem e_s_l01Add : E_s_l01Add Try.prog rho := ⟨c_s_l01Add, e_s_l01Mod⟩
theorem e_s_l01Apply : E_s_l01Apply Try.prog rho := ⟨c_s_l01Apply, e_s_l01Add⟩
theorem e_s_l01Times : E_s_l01Times Try.prog rho := ⟨c_s_l01Times, e_s_l01Apply, e_s_l01Add⟩
theorem e_s_l01Fault : E_s_l01Fault Try.prog rho := ⟨c_s_l01Fault, e_s_l01Basis, e_s_l01Times⟩
theorem e_s_l01Is : E_s_l01Is Try.prog rho := ⟨c_s_l01Is, e_s_l01Shape, e_s_l01Basis, e_s_l01Times, e_s_l01Fault⟩
theorem e_s_l03Coalgebra : E_s_l03Coalgebra Try.prog rho := c_s_l03Coalgebra
theorem e_s_l02Shape : E_s_l02Shape Try.prog rho := ⟨c_s_l02Shape, e_s_l01Sizes, e_s_l01Vector, e_s_l01Table⟩
theorem e_s_l02Sums : E_s_l02Sums Try.prog rho := ⟨c_s_l02Sums, e_s_l01Mod⟩
theorem e_s_l02Fault : E_s_l02Fault Try.prog rho := ⟨c_s_l02Fault, e_s_l02Sums⟩
theorem e_s_l02Counits : E_s_l02Counits Try.prog rho := ⟨c_s_l02Counits, e_s_l01Add, e_s_l01Mod, e_s_l01Basis⟩
theorem e_s_l02Is : E_s_l02Is Try.prog rho := ⟨c_s_l02Is, e_s_l02Shape, e_s_l02Fault, e_s_l02Counits⟩
theorem e_s_l03Coproduct : E_s_l03Coproduct Try.prog rho := ⟨c_s_l03Coproduct, e_s_l01Add⟩
theorem e_s_l01Zero : E_s_l01Zero Try.prog rho := c_s_l01Zero
theorem e_s_l03Pairs : E_s_l03Pairs Try.prog rho := ⟨c_s_l03Pairs, e_s_l03Algebra, e_s_l01Times, e_s_l01Zero, e_s_l01Add⟩
theorem e_s_l03Counit : E_s_l03Counit Try.prog rho := c_s_l03Counit
theorem e_s_l03Bialgebra : E_s_l03Bialgebra Try.prog rho := ⟨c_s_l03Bialgebra, e_s_l03Algebra, e_s_l01Is, e_s_l03Coalgebra, e_s_l02Is, e_s_l03Coproduct, e_s_l03Pairs, e_s_l01Add, e_s_l03Counit⟩
theorem e_s_l03Folded : E_s_l03Folded Try.prog rho := ⟨c_s_l03Folded, e_s_l03Algebra, e_s_l01Basis, e_s_l01Times, e_s_l01Add⟩
theorem e_s_l03Antipode : E_s_l03Antipode Try.prog rho := ⟨c_s_l03Antipode, e_s_l03Folded, e_s_l01Add⟩
theorem e_s_l03Fails : E_s_l03Fails Try.prog rho := ⟨c_s_l03Fails, e_s_l03Bialgebra, e_s_l03Antipode⟩
theorem e_s_l03Is : E_s_l03Is Try.prog rho := ⟨c_s_l03Is, e_s_l03Shape, e_s_l03Fails⟩
theorem e_s_l03Code : E_s_l03Code Try.prog rho := ⟨c_s_l03Code, e_s_l03Is, e_s_l01Vector⟩
theorem e_s_l07Adjoint : E_s_l07Adjoint Try.prog rho := ⟨c_s_l07Adjoint, e_s_l03Coproduct, e_s_l03Algebra, e_s_l01Basis, e_s_l01Times, e_s_l01Add⟩
theorem e_s_AdjointAction : E_s_AdjointAction Try.prog rho := ⟨c_s_AdjointAction, e_s_l03Code, e_s_l07Adjoint⟩
theorem e_l_eqVector : E_l_eqVector Try.prog rho := c_l_eqVector
theorem e_l_FnExactAdjointAction : E_l_FnExactAdjointAction Try.prog rho := ⟨c_l_FnExactAdjointAction, e_l_toHopf, e_l_toVector, e_s_AdjointAction, e_i_AdjointAction, e_l_eqVector⟩
theorem e_s_AlgebraOf : E_s_AlgebraOf Try.prog rho := ⟨c_s_AlgebraOf, e_s_l03Is, e_s_l03Algebra⟩
theorem e_l_eqLinear : E_l_eqLinear Try.prog rho := ⟨c_l_eqLinear, e_l_eqVector⟩
theorem e_l_eqTable : E_l_eqTable Try.prog rho := ⟨c_l_eqTable, e_l_eqLinear⟩
theorem e_l_eqAlgebra : E_l_eqAlgebra Try.prog rho := ⟨c_l_eqAlgebra, e_l_eqVector, e_l_eqTable⟩
theorem e_l_FnExactAlgebraOf : E_l_FnExactAlgebraOf Try.prog rho := ⟨c_l_FnExactAlgebraOf, e_l_toHopf, e_s_AlgebraOf, e_i_AlgebraOf, e_l_eqAlgebra⟩
theorem e_s_CoalgebraOf : E_s_CoalgebraOf Try.prog rho := ⟨c_s_CoalgebraOf, e_s_l03Is, e_s_l03Coalgebra⟩
theorem e_l_eqCoalgebra : E_l_eqCoalgebra Try.prog rho := ⟨c_l_eqCoalgebra, e_l_eqVector, e_l_eqTable⟩
theorem e_l_FnExactCoalgebraOf : E_l_FnExactCoalgebraOf Try.prog rho := ⟨c_l_FnExactCoalgebraOf, e_l_toHopf, e_s_CoalgebraOf, e_i_CoalgebraOf, e_l_eqCoalgebra⟩
theorem e_s_l03Same : E_s_l03Same Try.prog rho := ⟨c_s_l03Same, e_s_l01Basis⟩
theorem e_s_l01Then : E_s_l01Then Try.prog rho := ⟨c_s_l01Then, e_s_l01Apply⟩
theorem e_s_OrderOfAntipode : E_s_OrderOfAntipode Try.prog rho := ⟨c_s_OrderOfAntipode, e_s_l03Is, e_s_l03Same, e_s_l01Then⟩
theorem e_l_FnExactOrderOfAntipode : E_l_FnExactOrderOfAntipode Try.prog rho := ⟨c_l_FnExactOrderOfAntipode, e_l_toHopf, e_s_OrderOfAntipode, e_i_OrderOfAntipode⟩
theorem e_s_RegularModule : E_s_RegularModule Try.prog rho := ⟨c_s_RegularModule, e_s_l03Is⟩
theorem e_l_eqLinearA8 : E_l_eqLinearA8 Try.prog rho := ⟨c_l_eqLinearA8, e_l_eqLinear⟩
theorem e_l_eqModule : E_l_eqModule Try.prog rho := ⟨c_l_eqModule, e_l_eqLinearA8⟩
theorem e_l_FnExactRegularModule : E_l_FnExactRegularModule Try.prog rho := ⟨c_l_FnExactRegularModule, e_l_toHopf, e_s_RegularModule, e_i_RegularModule, e_l_eqModule⟩
theorem e_s_l01Trace : E_s_l01Trace Try.prog rho := c_s_l01Trace
theorem e_s_TraceOfSquare : E_s_TraceOfSquare Try.prog rho := ⟨c_s_TraceOfSquare, e_s_l03Is, e_s_l01Then, e_s_l01Trace⟩
theorem e_l_FnExactTraceOfSquare : E_l_FnExactTraceOfSquare Try.prog rho := ⟨c_l_FnExactTraceOfSquare, e_l_toHopf, e_s_TraceOfSquare, e_i_TraceOfSquare⟩
end Hf
