/- The seat's functions are those of the small language: each asked by the kernel. Written by gen.py. -/
import Derived.Test.YtmkglhbdhhomhaaC2
import Derived.Test.YtmkglhbdhhomhaaProg
import Derived.KernelRfl
set_option linter.unusedVariables false
set_option linter.unusedSimpArgs false
namespace Hf
open Go Go.Proofs

def rhoL : List Nat := [9, 3, 3, 14, 3, 3, 3, 3, 3, 3, 3, 3, 3, 3, 3, 3, 25, 3, 3, 75, 3, 3, 3, 3, 23, 26, 27, 29, 3, 34, 3, 3, 91, 62, 3, 63, 76, 32, 103, 78, 3, 3, 66, 3, 61, 43, 44, 36, 45, 30, 46, 57, 94, 47, 104, 49, 65, 64, 96, 98, 97, 67, 68, 69, 55, 70, 71, 50, 51, 73, 72, 93, 95, 99, 119, 100, 101, 102, 105, 106, 107, 77, 79, 80, 81, 83, 85, 86, 87, 88, 90, 108, 74, 109, 31, 120, 24, 121, 122, 123, 124, 48, 110, 82, 111, 112, 84, 113, 114, 115, 116, 53, 89, 117, 118, 131, 125, 126, 92, 127, 128, 130, 129, 8, 10, 11, 3, 12, 13, 4, 16, 15, 17, 19, 18, 20, 21, 22, 7, 28, 33, 35, 37, 38, 39, 40, 41, 42, 52, 54, 56, 58, 59, 60, 5, 6]
def rho (k : Nat) : FuncId := rhoL.getD k 3
theorem rho_all : (rhoL.all (fnOk Try.prog) && fnOk Try.prog 3) = true := by kernel_rfl
theorem rho_fn : ∀ f, fnOk Try.prog (rho f) = true := by
  intro f
  have h := rho_all
  rw [Bool.and_eq_true, List.all_eq_true] at h
  unfold rho
  rw [List.getD_eq_getElem?_getD]
  cases e : rhoL[f]? with
  | none => exact h.2
  | some x => exact h.1 x (List.mem_of_getElem? e)
theorem rho_mo : Try.prog.follows .mixedOrders = true := by kernel_rfl
theorem c_i_Hopf_algebra : chkFn Try.prog rho 36 pf_i_Hopf_algebra = true := by kernel_rfl
theorem c_i_IsPrime : chkFn Try.prog rho 93 pf_i_IsPrime = true := by kernel_rfl
theorem c_i_in : chkFn Try.prog rho 94 pf_i_in = true := by kernel_rfl
theorem c_i_IsVector : chkFn Try.prog rho 92 pf_i_IsVector = true := by kernel_rfl
theorem c_i_isLinear : chkFn Try.prog rho 83 pf_i_isLinear = true := by kernel_rfl
theorem c_i_isTable : chkFn Try.prog rho 102 pf_i_isTable = true := by kernel_rfl
theorem c_i_Algebra_isShaped : chkFn Try.prog rho 81 pf_i_Algebra_isShaped = true := by kernel_rfl
theorem c_i_Hopf_coalgebra : chkFn Try.prog rho 39 pf_i_Hopf_coalgebra = true := by kernel_rfl
theorem c_i_Coalgebra_isShaped : chkFn Try.prog rho 82 pf_i_Coalgebra_isShaped = true := by kernel_rfl
theorem c_i_Hopf_isShaped : chkFn Try.prog rho 67 pf_i_Hopf_isShaped = true := by kernel_rfl
theorem c_i_basis : chkFn Try.prog rho 61 pf_i_basis = true := by kernel_rfl
theorem c_i_Algebra_field : chkFn Try.prog rho 116 pf_i_Algebra_field = true := by kernel_rfl
theorem c_i_field_mod : chkFn Try.prog rho 74 pf_i_field_mod = true := by kernel_rfl
theorem c_i_field_plus : chkFn Try.prog rho 71 pf_i_field_plus = true := by kernel_rfl
theorem c_i_Algebra_product : chkFn Try.prog rho 104 pf_i_Algebra_product = true := by kernel_rfl
theorem c_i_Algebra_fault : chkFn Try.prog rho 105 pf_i_Algebra_fault = true := by kernel_rfl
theorem c_i_IsAlgebra : chkFn Try.prog rho 103 pf_i_IsAlgebra = true := by kernel_rfl
theorem c_i_Hopf_fails_1 : chkFn Try.prog rho 84 pf_i_Hopf_fails_1 = true := by kernel_rfl
theorem c_i_Coalgebra_field : chkFn Try.prog rho 117 pf_i_Coalgebra_field = true := by kernel_rfl
theorem c_i_field_dot : chkFn Try.prog rho 118 pf_i_field_dot = true := by kernel_rfl
theorem c_i_Coalgebra_isCounit : chkFn Try.prog rho 107 pf_i_Coalgebra_isCounit = true := by kernel_rfl
theorem c_i_Coalgebra_isFault : chkFn Try.prog rho 119 pf_i_Coalgebra_isFault = true := by kernel_rfl
theorem c_i_Coalgebra_fault : chkFn Try.prog rho 108 pf_i_Coalgebra_fault = true := by kernel_rfl
theorem c_i_IsCoalgebra : chkFn Try.prog rho 106 pf_i_IsCoalgebra = true := by kernel_rfl
theorem c_i_Hopf_fails_2 : chkFn Try.prog rho 85 pf_i_Hopf_fails_2 = true := by kernel_rfl
theorem c_i_Hopf_field : chkFn Try.prog rho 32 pf_i_Hopf_field = true := by kernel_rfl
theorem c_i_Hopf_coproduct : chkFn Try.prog rho 58 pf_i_Hopf_coproduct = true := by kernel_rfl
theorem c_i_Hopf_tensor_1_1 : chkFn Try.prog rho 122 pf_i_Hopf_tensor_1_1 = true := by kernel_rfl
theorem c_i_pairs : chkFn Try.prog rho 60 pf_i_pairs = true := by kernel_rfl
theorem c_i_Hopf_tensor_1 : chkFn Try.prog rho 120 pf_i_Hopf_tensor_1 = true := by kernel_rfl
theorem c_i_Hopf_tensor : chkFn Try.prog rho 109 pf_i_Hopf_tensor = true := by kernel_rfl
theorem c_i_Hopf_axiom3 : chkFn Try.prog rho 86 pf_i_Hopf_axiom3 = true := by kernel_rfl
theorem c_i_field_times : chkFn Try.prog rho 114 pf_i_field_times = true := by kernel_rfl
theorem c_i_field_pair : chkFn Try.prog rho 110 pf_i_field_pair = true := by kernel_rfl
theorem c_i_Hopf_axiom4 : chkFn Try.prog rho 87 pf_i_Hopf_axiom4 = true := by kernel_rfl
theorem c_i_Hopf_counit : chkFn Try.prog rho 111 pf_i_Hopf_counit = true := by kernel_rfl
theorem c_i_Hopf_axiom5 : chkFn Try.prog rho 88 pf_i_Hopf_axiom5 = true := by kernel_rfl
theorem c_i_Hopf_product : chkFn Try.prog rho 73 pf_i_Hopf_product = true := by kernel_rfl
theorem c_i_Hopf_folded_1 : chkFn Try.prog rho 121 pf_i_Hopf_folded_1 = true := by kernel_rfl
theorem c_i_Hopf_folded : chkFn Try.prog rho 113 pf_i_Hopf_folded = true := by kernel_rfl
theorem c_i_Hopf_axiomS : chkFn Try.prog rho 112 pf_i_Hopf_axiomS = true := by kernel_rfl
theorem c_i_Hopf_fails_3 : chkFn Try.prog rho 89 pf_i_Hopf_fails_3 = true := by kernel_rfl
theorem c_i_Hopf_fails_4 : chkFn Try.prog rho 90 pf_i_Hopf_fails_4 = true := by kernel_rfl
theorem c_i_Hopf_fails : chkFn Try.prog rho 68 pf_i_Hopf_fails = true := by kernel_rfl
theorem c_i_IsHopf : chkFn Try.prog rho 47 pf_i_IsHopf = true := by kernel_rfl
theorem c_i_Hopf_has_1 : chkFn Try.prog rho 69 pf_i_Hopf_has_1 = true := by kernel_rfl
theorem c_x_IndexFunc_V : chkFn Try.prog rho 91 pf_x_IndexFunc_V = true := by kernel_rfl
theorem c_x_ContainsFunc_V : chkFn Try.prog rho 70 pf_x_ContainsFunc_V = true := by kernel_rfl
theorem c_i_Hopf_has : chkFn Try.prog rho 48 pf_i_Hopf_has = true := by kernel_rfl
theorem c_i_unless : chkFn Try.prog rho 49 pf_i_unless = true := by kernel_rfl
theorem c_i_Hopf_code : chkFn Try.prog rho 27 pf_i_Hopf_code = true := by kernel_rfl
theorem c_i_Hopf_adjoint_1 : chkFn Try.prog rho 59 pf_i_Hopf_adjoint_1 = true := by kernel_rfl
theorem c_i_Hopf_adjoint : chkFn Try.prog rho 42 pf_i_Hopf_adjoint = true := by kernel_rfl
theorem c_i_Hopf_adjointModule : chkFn Try.prog rho 147 pf_i_Hopf_adjointModule = true := by kernel_rfl
theorem c_i_AdjointModule : chkFn Try.prog rho 137 pf_i_AdjointModule = true := by kernel_rfl
theorem c_i_Comodule_associates : chkFn Try.prog rho 149 pf_i_Comodule_associates = true := by kernel_rfl
theorem c_i_Comodule_isShaped : chkFn Try.prog rho 148 pf_i_Comodule_isShaped = true := by kernel_rfl
theorem c_i_Comodule_isComodule : chkFn Try.prog rho 142 pf_i_Comodule_isComodule = true := by kernel_rfl
theorem c_i_IsComodule : chkFn Try.prog rho 132 pf_i_IsComodule = true := by kernel_rfl
theorem c_i_Module_field : chkFn Try.prog rho 151 pf_i_Module_field = true := by kernel_rfl
theorem c_i_Module_isShaped : chkFn Try.prog rho 152 pf_i_Module_isShaped = true := by kernel_rfl
theorem c_i_Module_acts : chkFn Try.prog rho 153 pf_i_Module_acts = true := by kernel_rfl
theorem c_i_field_identity : chkFn Try.prog rho 44 pf_i_field_identity = true := by kernel_rfl
theorem c_i_field_apply : chkFn Try.prog rho 52 pf_i_field_apply = true := by kernel_rfl
theorem c_i_field_after : chkFn Try.prog rho 33 pf_i_field_after = true := by kernel_rfl
theorem c_i_Module_isModule : chkFn Try.prog rho 145 pf_i_Module_isModule = true := by kernel_rfl
theorem c_i_IsModule : chkFn Try.prog rho 135 pf_i_IsModule = true := by kernel_rfl
theorem c_i_first : chkFn Try.prog rho 139 pf_i_first = true := by kernel_rfl
theorem c_i_TrivialComodule : chkFn Try.prog rho 124 pf_i_TrivialComodule = true := by kernel_rfl
theorem c_i_TrivialModule : chkFn Try.prog rho 128 pf_i_TrivialModule = true := by kernel_rfl
theorem c_l_toVector : chkFn Try.prog rho 16 pf_l_toVector = true := by kernel_rfl
theorem c_l_toLinear : chkFn Try.prog rho 26 pf_l_toLinear = true := by kernel_rfl
theorem c_l_toTable : chkFn Try.prog rho 25 pf_l_toTable = true := by kernel_rfl
theorem c_l_toHopf : chkFn Try.prog rho 0 pf_l_toHopf = true := by kernel_rfl
theorem c_s_l03Algebra : chkFn Try.prog rho 35 pf_s_l03Algebra = true := by kernel_rfl
theorem c_s_l01In : chkFn Try.prog rho 96 pf_s_l01In = true := by kernel_rfl
theorem c_s_l01Prime : chkFn Try.prog rho 95 pf_s_l01Prime = true := by kernel_rfl
theorem c_s_l01Sizes : chkFn Try.prog rho 75 pf_s_l01Sizes = true := by kernel_rfl
theorem c_s_l01Vector : chkFn Try.prog rho 53 pf_s_l01Vector = true := by kernel_rfl
theorem c_s_l01Linear : chkFn Try.prog rho 64 pf_s_l01Linear = true := by kernel_rfl
theorem c_s_l01Table : chkFn Try.prog rho 63 pf_s_l01Table = true := by kernel_rfl
theorem c_s_l01Shape : chkFn Try.prog rho 62 pf_s_l01Shape = true := by kernel_rfl
theorem c_s_l03Shape : chkFn Try.prog rho 45 pf_s_l03Shape = true := by kernel_rfl
theorem c_s_l01Basis : chkFn Try.prog rho 55 pf_s_l01Basis = true := by kernel_rfl
theorem c_s_l01Mod : chkFn Try.prog rho 72 pf_s_l01Mod = true := by kernel_rfl
theorem c_s_l01Add : chkFn Try.prog rho 57 pf_s_l01Add = true := by kernel_rfl
theorem c_s_l01Apply : chkFn Try.prog rho 51 pf_s_l01Apply = true := by kernel_rfl
theorem c_s_l01Times : chkFn Try.prog rho 56 pf_s_l01Times = true := by kernel_rfl
theorem c_s_l01Fault : chkFn Try.prog rho 97 pf_s_l01Fault = true := by kernel_rfl
theorem c_s_l01Is : chkFn Try.prog rho 76 pf_s_l01Is = true := by kernel_rfl
theorem c_s_l03Coalgebra : chkFn Try.prog rho 38 pf_s_l03Coalgebra = true := by kernel_rfl
theorem c_s_l02Shape : chkFn Try.prog rho 98 pf_s_l02Shape = true := by kernel_rfl
theorem c_s_l02Sums : chkFn Try.prog rho 115 pf_s_l02Sums = true := by kernel_rfl
theorem c_s_l02Fault : chkFn Try.prog rho 99 pf_s_l02Fault = true := by kernel_rfl
theorem c_s_l02Counits : chkFn Try.prog rho 100 pf_s_l02Counits = true := by kernel_rfl
theorem c_s_l02Is : chkFn Try.prog rho 77 pf_s_l02Is = true := by kernel_rfl
theorem c_s_l03Coproduct : chkFn Try.prog rho 54 pf_s_l03Coproduct = true := by kernel_rfl
theorem c_s_l01Zero : chkFn Try.prog rho 101 pf_s_l01Zero = true := by kernel_rfl
theorem c_s_l03Pairs : chkFn Try.prog rho 78 pf_s_l03Pairs = true := by kernel_rfl
theorem c_s_l03Counit : chkFn Try.prog rho 79 pf_s_l03Counit = true := by kernel_rfl
theorem c_s_l03Bialgebra : chkFn Try.prog rho 65 pf_s_l03Bialgebra = true := by kernel_rfl
theorem c_s_l03Folded : chkFn Try.prog rho 80 pf_s_l03Folded = true := by kernel_rfl
theorem c_s_l03Antipode : chkFn Try.prog rho 66 pf_s_l03Antipode = true := by kernel_rfl
theorem c_s_l03Fails : chkFn Try.prog rho 46 pf_s_l03Fails = true := by kernel_rfl
theorem c_s_l03Is : chkFn Try.prog rho 24 pf_s_l03Is = true := by kernel_rfl
theorem c_l_eqVector : chkFn Try.prog rho 19 pf_l_eqVector = true := by kernel_rfl
theorem c_s_l08Adjoint : chkFn Try.prog rho 146 pf_s_l08Adjoint = true := by kernel_rfl
theorem c_s_AdjointModule : chkFn Try.prog rho 136 pf_s_AdjointModule = true := by kernel_rfl
theorem c_l_eqLinear : chkFn Try.prog rho 50 pf_l_eqLinear = true := by kernel_rfl
theorem c_l_eqLinearA8 : chkFn Try.prog rho 29 pf_l_eqLinearA8 = true := by kernel_rfl
theorem c_l_eqModule : chkFn Try.prog rho 3 pf_l_eqModule = true := by kernel_rfl
theorem c_l_FnExactAdjointModule : chkFn Try.prog rho 138 pf_l_FnExactAdjointModule = true := by kernel_rfl
theorem c_l_eqTable : chkFn Try.prog rho 37 pf_l_eqTable = true := by kernel_rfl
theorem c_l_toComodule : chkFn Try.prog rho 130 pf_l_toComodule = true := by kernel_rfl
theorem c_s_l08Holds : chkFn Try.prog rho 141 pf_s_l08Holds = true := by kernel_rfl
theorem c_s_IsComodule : chkFn Try.prog rho 131 pf_s_IsComodule = true := by kernel_rfl
theorem c_l_FnExactIsComodule : chkFn Try.prog rho 154 pf_l_FnExactIsComodule = true := by kernel_rfl
theorem c_l_toLinearA8 : chkFn Try.prog rho 144 pf_l_toLinearA8 = true := by kernel_rfl
theorem c_l_toModule : chkFn Try.prog rho 133 pf_l_toModule = true := by kernel_rfl
theorem c_s_l06Act : chkFn Try.prog rho 150 pf_s_l06Act = true := by kernel_rfl
theorem c_s_l06Holds : chkFn Try.prog rho 143 pf_s_l06Holds = true := by kernel_rfl
theorem c_s_IsModule : chkFn Try.prog rho 134 pf_s_IsModule = true := by kernel_rfl
theorem c_l_FnExactIsModule : chkFn Try.prog rho 155 pf_l_FnExactIsModule = true := by kernel_rfl
theorem c_s_TrivialComodule : chkFn Try.prog rho 123 pf_s_TrivialComodule = true := by kernel_rfl
theorem c_l_eqComodule : chkFn Try.prog rho 125 pf_l_eqComodule = true := by kernel_rfl
theorem c_l_FnExactTrivialComodule : chkFn Try.prog rho 126 pf_l_FnExactTrivialComodule = true := by kernel_rfl
theorem c_s_l06Trivial : chkFn Try.prog rho 140 pf_s_l06Trivial = true := by kernel_rfl
theorem c_s_TrivialModule : chkFn Try.prog rho 127 pf_s_TrivialModule = true := by kernel_rfl
theorem c_l_FnExactTrivialModule : chkFn Try.prog rho 129 pf_l_FnExactTrivialModule = true := by kernel_rfl
theorem e_i_Hopf_algebra : E_i_Hopf_algebra Try.prog rho := c_i_Hopf_algebra
theorem e_i_IsPrime : E_i_IsPrime Try.prog rho := c_i_IsPrime
theorem e_i_in : E_i_in Try.prog rho := c_i_in
theorem e_i_IsVector : E_i_IsVector Try.prog rho := ⟨c_i_IsVector, e_i_IsPrime, e_i_in⟩
theorem e_i_isLinear : E_i_isLinear Try.prog rho := ⟨c_i_isLinear, e_i_IsVector⟩
theorem e_i_isTable : E_i_isTable Try.prog rho := ⟨c_i_isTable, e_i_isLinear⟩
theorem e_i_Algebra_isShaped : E_i_Algebra_isShaped Try.prog rho := ⟨c_i_Algebra_isShaped, e_i_IsVector, e_i_isTable⟩
theorem e_i_Hopf_coalgebra : E_i_Hopf_coalgebra Try.prog rho := c_i_Hopf_coalgebra
theorem e_i_Coalgebra_isShaped : E_i_Coalgebra_isShaped Try.prog rho := ⟨c_i_Coalgebra_isShaped, e_i_IsVector, e_i_isTable⟩
theorem e_i_Hopf_isShaped : E_i_Hopf_isShaped Try.prog rho := ⟨c_i_Hopf_isShaped, e_i_Hopf_algebra, e_i_Algebra_isShaped, e_i_Hopf_coalgebra, e_i_Coalgebra_isShaped, e_i_isLinear⟩
theorem e_i_basis : E_i_basis Try.prog rho := c_i_basis
theorem e_i_Algebra_field : E_i_Algebra_field Try.prog rho := c_i_Algebra_field
theorem e_i_field_mod : E_i_field_mod Try.prog rho := c_i_field_mod
theorem e_i_field_plus : E_i_field_plus Try.prog rho := ⟨c_i_field_plus, e_i_field_mod⟩
theorem e_i_Algebra_product : E_i_Algebra_product Try.prog rho := ⟨c_i_Algebra_product, e_i_Algebra_field, e_i_field_plus⟩
theorem e_i_Algebra_fault : E_i_Algebra_fault Try.prog rho := ⟨c_i_Algebra_fault, e_i_basis, e_i_Algebra_product⟩
theorem e_i_IsAlgebra : E_i_IsAlgebra Try.prog rho := ⟨c_i_IsAlgebra, e_i_Algebra_isShaped, e_i_basis, e_i_Algebra_product, e_i_Algebra_fault⟩
theorem e_i_Hopf_fails_1 : E_i_Hopf_fails_1 Try.prog rho := ⟨c_i_Hopf_fails_1, e_i_Hopf_algebra, e_i_IsAlgebra⟩
theorem e_i_Coalgebra_field : E_i_Coalgebra_field Try.prog rho := c_i_Coalgebra_field
theorem e_i_field_dot : E_i_field_dot Try.prog rho := c_i_field_dot
theorem e_i_Coalgebra_isCounit : E_i_Coalgebra_isCounit Try.prog rho := ⟨c_i_Coalgebra_isCounit, e_i_Coalgebra_field, e_i_field_plus, e_i_field_dot, e_i_basis⟩
theorem e_i_Coalgebra_isFault : E_i_Coalgebra_isFault Try.prog rho := ⟨c_i_Coalgebra_isFault, e_i_Coalgebra_field⟩
theorem e_i_Coalgebra_fault : E_i_Coalgebra_fault Try.prog rho := ⟨c_i_Coalgebra_fault, e_i_Coalgebra_isFault⟩
theorem e_i_IsCoalgebra : E_i_IsCoalgebra Try.prog rho := ⟨c_i_IsCoalgebra, e_i_Coalgebra_isShaped, e_i_Coalgebra_isCounit, e_i_Coalgebra_fault⟩
theorem e_i_Hopf_fails_2 : E_i_Hopf_fails_2 Try.prog rho := ⟨c_i_Hopf_fails_2, e_i_Hopf_coalgebra, e_i_IsCoalgebra⟩
theorem e_i_Hopf_field : E_i_Hopf_field Try.prog rho := c_i_Hopf_field
theorem e_i_Hopf_coproduct : E_i_Hopf_coproduct Try.prog rho := ⟨c_i_Hopf_coproduct, e_i_Hopf_field, e_i_field_plus⟩
theorem e_i_Hopf_tensor_1_1 : E_i_Hopf_tensor_1_1 Try.prog rho := ⟨c_i_Hopf_tensor_1_1, e_i_field_plus⟩
theorem e_i_pairs : E_i_pairs Try.prog rho := c_i_pairs
theorem e_i_Hopf_tensor_1 : E_i_Hopf_tensor_1 Try.prog rho := ⟨c_i_Hopf_tensor_1, e_i_Hopf_tensor_1_1, e_i_pairs⟩
theorem e_i_Hopf_tensor : E_i_Hopf_tensor Try.prog rho := ⟨c_i_Hopf_tensor, e_i_Hopf_field, e_i_Hopf_tensor_1, e_i_pairs⟩
theorem e_i_Hopf_axiom3 : E_i_Hopf_axiom3 Try.prog rho := ⟨c_i_Hopf_axiom3, e_i_Hopf_coproduct, e_i_Hopf_tensor⟩
theorem e_i_field_times : E_i_field_times Try.prog rho := ⟨c_i_field_times, e_i_field_plus⟩
theorem e_i_field_pair : E_i_field_pair Try.prog rho := ⟨c_i_field_pair, e_i_field_times⟩
theorem e_i_Hopf_axiom4 : E_i_Hopf_axiom4 Try.prog rho := ⟨c_i_Hopf_axiom4, e_i_Hopf_coproduct, e_i_Hopf_field, e_i_field_pair⟩
theorem e_i_Hopf_counit : E_i_Hopf_counit Try.prog rho := ⟨c_i_Hopf_counit, e_i_Hopf_field, e_i_field_dot⟩
theorem e_i_Hopf_axiom5 : E_i_Hopf_axiom5 Try.prog rho := ⟨c_i_Hopf_axiom5, e_i_Hopf_field, e_i_Hopf_counit⟩
theorem e_i_Hopf_product : E_i_Hopf_product Try.prog rho := ⟨c_i_Hopf_product, e_i_Hopf_field, e_i_field_plus⟩
theorem e_i_Hopf_folded_1 : E_i_Hopf_folded_1 Try.prog rho := ⟨c_i_Hopf_folded_1, e_i_basis, e_i_Hopf_product, e_i_field_plus⟩
theorem e_i_Hopf_folded : E_i_Hopf_folded Try.prog rho := ⟨c_i_Hopf_folded, e_i_Hopf_field, e_i_Hopf_folded_1, e_i_pairs⟩
theorem e_i_Hopf_axiomS : E_i_Hopf_axiomS Try.prog rho := ⟨c_i_Hopf_axiomS, e_i_Hopf_field, e_i_Hopf_folded, e_i_field_times⟩
theorem e_i_Hopf_fails_3 : E_i_Hopf_fails_3 Try.prog rho := ⟨c_i_Hopf_fails_3, e_i_Hopf_axiomS⟩
theorem e_i_Hopf_fails_4 : E_i_Hopf_fails_4 Try.prog rho := ⟨c_i_Hopf_fails_4, e_i_Hopf_axiomS⟩
theorem e_i_Hopf_fails : E_i_Hopf_fails Try.prog rho := ⟨c_i_Hopf_fails, e_i_Hopf_fails_1, e_i_Hopf_fails_2, e_i_Hopf_axiom3, e_i_Hopf_axiom4, e_i_Hopf_axiom5, e_i_Hopf_fails_3, e_i_Hopf_fails_4⟩
theorem e_i_IsHopf : E_i_IsHopf Try.prog rho := ⟨c_i_IsHopf, e_i_Hopf_isShaped, e_i_Hopf_fails⟩
theorem e_i_Hopf_has_1 : E_i_Hopf_has_1 Try.prog rho := ⟨c_i_Hopf_has_1, e_i_IsVector⟩
theorem e_x_IndexFunc_V : E_x_IndexFunc_V Try.prog rho := c_x_IndexFunc_V
theorem e_x_ContainsFunc_V : E_x_ContainsFunc_V Try.prog rho := ⟨c_x_ContainsFunc_V, e_x_IndexFunc_V⟩
theorem e_i_Hopf_has : E_i_Hopf_has Try.prog rho := ⟨c_i_Hopf_has, e_i_Hopf_has_1, e_x_ContainsFunc_V⟩
theorem e_i_unless : E_i_unless Try.prog rho := c_i_unless
theorem e_i_Hopf_code : E_i_Hopf_code Try.prog rho := ⟨c_i_Hopf_code, e_i_IsHopf, e_i_Hopf_has, e_i_unless⟩
theorem e_i_Hopf_adjoint_1 : E_i_Hopf_adjoint_1 Try.prog rho := ⟨c_i_Hopf_adjoint_1, e_i_basis, e_i_Hopf_product, e_i_field_plus⟩
theorem e_i_Hopf_adjoint : E_i_Hopf_adjoint Try.prog rho := ⟨c_i_Hopf_adjoint, e_i_Hopf_field, e_i_Hopf_coproduct, e_i_Hopf_adjoint_1, e_i_pairs⟩
theorem e_i_Hopf_adjointModule : E_i_Hopf_adjointModule Try.prog rho := ⟨c_i_Hopf_adjointModule, e_i_basis, e_i_Hopf_adjoint⟩
theorem e_i_AdjointModule : E_i_AdjointModule Try.prog rho := ⟨c_i_AdjointModule, e_i_Hopf_code, e_i_Hopf_adjointModule⟩
theorem e_i_Comodule_associates : E_i_Comodule_associates Try.prog rho := c_i_Comodule_associates
theorem e_i_Comodule_isShaped : E_i_Comodule_isShaped Try.prog rho := ⟨c_i_Comodule_isShaped, e_i_in, e_i_IsVector⟩
theorem e_i_Comodule_isComodule : E_i_Comodule_isComodule Try.prog rho := ⟨c_i_Comodule_isComodule, e_i_Comodule_isShaped, e_i_Hopf_counit, e_i_Comodule_associates⟩
theorem e_i_IsComodule : E_i_IsComodule Try.prog rho := ⟨c_i_IsComodule, e_i_IsHopf, e_i_Comodule_isComodule⟩
theorem e_i_Module_field : E_i_Module_field Try.prog rho := c_i_Module_field
theorem e_i_Module_isShaped : E_i_Module_isShaped Try.prog rho := ⟨c_i_Module_isShaped, e_i_isLinear⟩
theorem e_i_Module_acts : E_i_Module_acts Try.prog rho := ⟨c_i_Module_acts, e_i_Module_field, e_i_field_plus⟩
theorem e_i_field_identity : E_i_field_identity Try.prog rho := ⟨c_i_field_identity, e_i_basis⟩
theorem e_i_field_apply : E_i_field_apply Try.prog rho := ⟨c_i_field_apply, e_i_field_plus⟩
theorem e_i_field_after : E_i_field_after Try.prog rho := ⟨c_i_field_after, e_i_field_apply⟩
theorem e_i_Module_isModule : E_i_Module_isModule Try.prog rho := ⟨c_i_Module_isModule, e_i_Module_field, e_i_Module_isShaped, e_i_Module_acts, e_i_field_identity, e_i_field_after⟩
theorem e_i_IsModule : E_i_IsModule Try.prog rho := ⟨c_i_IsModule, e_i_IsHopf, e_i_Module_isModule⟩
theorem e_i_first : E_i_first Try.prog rho := c_i_first
theorem e_i_TrivialComodule : E_i_TrivialComodule Try.prog rho := ⟨c_i_TrivialComodule, e_i_Hopf_code, e_i_in, e_i_unless, e_i_first⟩
theorem e_i_TrivialModule : E_i_TrivialModule Try.prog rho := ⟨c_i_TrivialModule, e_i_Hopf_code, e_i_in, e_i_unless, e_i_first⟩
theorem e_l_toVector : E_l_toVector Try.prog rho := c_l_toVector
theorem e_l_toLinear : E_l_toLinear Try.prog rho := ⟨c_l_toLinear, e_l_toVector⟩
theorem e_l_toTable : E_l_toTable Try.prog rho := ⟨c_l_toTable, e_l_toLinear⟩
theorem e_l_toHopf : E_l_toHopf Try.prog rho := ⟨c_l_toHopf, e_l_toVector, e_l_toTable, e_l_toLinear⟩
theorem e_s_l03Algebra : E_s_l03Algebra Try.prog rho := c_s_l03Algebra
theorem e_s_l01In : E_s_l01In Try.prog rho := c_s_l01In
theorem e_s_l01Prime : E_s_l01Prime Try.prog rho := ⟨c_s_l01Prime, e_s_l01In⟩
theorem e_s_l01Sizes : E_s_l01Sizes Try.prog rho := ⟨c_s_l01Sizes, e_s_l01Prime, e_s_l01In⟩
theorem e_s_l01Vector : E_s_l01Vector Try.prog rho := c_s_l01Vector
theorem e_s_l01Linear : E_s_l01Linear Try.prog rho := ⟨c_s_l01Linear, e_s_l01Vector⟩
theorem e_s_l01Table : E_s_l01Table Try.prog rho := ⟨c_s_l01Table, e_s_l01Linear⟩
theorem e_s_l01Shape : E_s_l01Shape Try.prog rho := ⟨c_s_l01Shape, e_s_l01Sizes, e_s_l01Vector, e_s_l01Table⟩
theorem e_s_l03Shape : E_s_l03Shape Try.prog rho := ⟨c_s_l03Shape, e_s_l03Algebra, e_s_l01Shape, e_s_l01Vector, e_s_l01Table, e_s_l01Linear⟩
theorem e_s_l01Basis : E_s_l01Basis Try.prog rho := c_s_l01Basis
theorem e_s_l01Mod : E_s_l01Mod Try.prog rho := c_s_l01Mod
theorem e_s_l01Add : E_s_l01Add Try.prog rho := ⟨c_s_l01Add, e_s_l01Mod⟩
theorem e_s_l01Apply : E_s_l01Apply Try.prog rho := ⟨c_s_l01Apply, e_s_l01Add⟩
theorem e_s_l01Times : E_s_l01Times Try.prog rho := ⟨c_s_l01Times, e_s_l01Apply, e_s_l01Add⟩
theorem e_s_l01Fault : E_s_l01Fault Try.prog rho := ⟨c_s_l01Fault, e_s_l01Basis, e_s_l01Times⟩
theorem e_s_l01Is : E_s_l01Is Try.prog rho := ⟨c_s_l01Is, e_s_l01Shape, e_s_l01Basis, e_s_l01Times, e_s_l01Fault⟩
theorem e_s_l03Coalgebra : E_s_l03Coalgebra Try.prog rho := c_s_l03Coalgebra
theorem e_s_l02Shape : E_s_l02Shape Try.prog rho := ⟨c_s_l02Shape, e_s_l01Sizes, e_s_l01Vector, e_s_l01Table⟩
theorem e_s_l02Sums : E_s_l02Sums Try.prog rho := ⟨c_s_l02Sums, e_s_l01Mod⟩
theorem e_s_l02Fault : E_s_l02Fault Try.prog rho := ⟨c_s_l02Fault, e_s_l02Sums⟩
theorem e_s_l02Counits : E_s_l02Counits Try.prog rho := ⟨c_s_l02Counits, e_s_l01Add, e_s_l01Mod, e_s_l01Basis⟩
theorem e_s_l02Is : E_s_l02Is Try.prog rho := ⟨c_s_l02Is, e_s_l02Shape, e_s_l02Fault, e_s_l02Counits⟩
theorem e_s_l03Coproduct : E_s_l03Coproduct Try.prog rho := ⟨c_s_l03Coproduct, e_s_l01Add⟩
theorem e_s_l01Zero : E_s_l01Zero Try.prog rho := c_s_l01Zero
theorem e_s_l03Pairs : E_s_l03Pairs Try.prog rho := ⟨c_s_l03Pairs, e_s_l03Algebra, e_s_l01Times, e_s_l01Zero, e_s_l01Add⟩
theorem e_s_l03Counit : E_s_l03Counit Try.prog rho := c_s_l03Counit
theorem e_s_l03Bialgebra : E_s_l03Bialgebra Try.prog rho := ⟨c_s_l03Bialgebra, e_s_l03Algebra, e_s_l01Is, e_s_l03Coalgebra, e_s_l02Is, e_s_l03Coproduct, e_s_l03Pairs, e_s_l01Add, e_s_l03Counit⟩
theorem e_s_l03Folded : E_s_l03Folded Try.prog rho := ⟨c_s_l03Folded, e_s_l03Algebra, e_s_l01Basis, e_s_l01Times, e_s_l01Add⟩
theorem e_s_l03Antipode : E_s_l03Antipode Try.prog rho := ⟨c_s_l03Antipode, e_s_l03Folded, e_s_l01Add⟩
theorem e_s_l03Fails : E_s_l03Fails Try.prog rho := ⟨c_s_l03Fails, e_s_l03Bialgebra, e_s_l03Antipode⟩
theorem e_s_l03Is : E_s_l03Is Try.prog rho := ⟨c_s_l03Is, e_s_l03Shape, e_s_l03Fails⟩
theorem e_l_eqVector : E_l_eqVector Try.prog rho := c_l_eqVector
theorem e_s_l08Adjoint : E_s_l08Adjoint Try.prog rho := ⟨c_s_l08Adjoint, e_s_l03Algebra, e_s_l01Times, e_s_l01Add⟩
theorem e_s_AdjointModule : E_s_AdjointModule Try.prog rho := ⟨c_s_AdjointModule, e_s_l03Is, e_s_l08Adjoint⟩
theorem e_l_eqLinear : E_l_eqLinear Try.prog rho := ⟨c_l_eqLinear, e_l_eqVector⟩
theorem e_l_eqLinearA8 : E_l_eqLinearA8 Try.prog rho := ⟨c_l_eqLinearA8, e_l_eqLinear⟩
theorem e_l_eqModule : E_l_eqModule Try.prog rho := ⟨c_l_eqModule, e_l_eqLinearA8⟩
theorem e_l_FnExactAdjointModule : E_l_FnExactAdjointModule Try.prog rho := ⟨c_l_FnExactAdjointModule, e_l_toHopf, e_s_AdjointModule, e_i_AdjointModule, e_l_eqModule⟩
theorem e_l_eqTable : E_l_eqTable Try.prog rho := ⟨c_l_eqTable, e_l_eqLinear⟩
theorem e_l_toComodule : E_l_toComodule Try.prog rho := ⟨c_l_toComodule, e_l_toTable⟩
theorem e_s_l08Holds : E_s_l08Holds Try.prog rho := ⟨c_s_l08Holds, e_s_l01In, e_s_l01Vector, e_s_l01Zero, e_s_l01Basis⟩
theorem e_s_IsComodule : E_s_IsComodule Try.prog rho := ⟨c_s_IsComodule, e_s_l03Is, e_s_l08Holds⟩
theorem e_l_FnExactIsComodule : E_l_FnExactIsComodule Try.prog rho := ⟨c_l_FnExactIsComodule, e_l_toHopf, e_l_toComodule, e_s_IsComodule, e_i_IsComodule⟩
theorem e_l_toLinearA8 : E_l_toLinearA8 Try.prog rho := ⟨c_l_toLinearA8, e_l_toLinear⟩
theorem e_l_toModule : E_l_toModule Try.prog rho := ⟨c_l_toModule, e_l_toLinearA8⟩
theorem e_s_l06Act : E_s_l06Act Try.prog rho := ⟨c_s_l06Act, e_s_l01Apply, e_s_l01Add⟩
theorem e_s_l06Holds : E_s_l06Holds Try.prog rho := ⟨c_s_l06Holds, e_s_l01In, e_s_l01Linear, e_s_l01Basis, e_s_l06Act, e_s_l01Apply⟩
theorem e_s_IsModule : E_s_IsModule Try.prog rho := ⟨c_s_IsModule, e_s_l03Is, e_s_l06Holds⟩
theorem e_l_FnExactIsModule : E_l_FnExactIsModule Try.prog rho := ⟨c_l_FnExactIsModule, e_l_toHopf, e_l_toModule, e_s_IsModule, e_i_IsModule⟩
theorem e_s_TrivialComodule : E_s_TrivialComodule Try.prog rho := ⟨c_s_TrivialComodule, e_s_l03Is, e_s_l01In⟩
theorem e_l_eqComodule : E_l_eqComodule Try.prog rho := ⟨c_l_eqComodule, e_l_eqTable⟩
theorem e_l_FnExactTrivialComodule : E_l_FnExactTrivialComodule Try.prog rho := ⟨c_l_FnExactTrivialComodule, e_l_toHopf, e_s_TrivialComodule, e_i_TrivialComodule, e_l_eqComodule⟩
theorem e_s_l06Trivial : E_s_l06Trivial Try.prog rho := c_s_l06Trivial
theorem e_s_TrivialModule : E_s_TrivialModule Try.prog rho := ⟨c_s_TrivialModule, e_s_l03Is, e_s_l01In, e_s_l06Trivial⟩
theorem e_l_FnExactTrivialModule : E_l_FnExactTrivialModule Try.prog rho := ⟨c_l_FnExactTrivialModule, e_l_toHopf, e_s_TrivialModule, e_i_TrivialModule, e_l_eqModule⟩
end Hf
