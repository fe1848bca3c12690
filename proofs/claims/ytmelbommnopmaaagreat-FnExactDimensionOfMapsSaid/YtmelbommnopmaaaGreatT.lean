/- The seat's functions are those of the small languages: each asked by the kernel. Written by gen2.py. -/
import Derived.Test.YtmelbommnopmaaaGreatC3
import Derived.Test.YtmelbommnopmaaaGreatProg
import Derived.KernelRfl
set_option linter.unusedVariables false
set_option linter.unusedSimpArgs false
namespace Hf
open Go Go.Proofs

def rhoL : List Nat := [7, 3, 3, 3, 3, 3, 3, 3, 3, 3, 3, 3, 3, 3, 3, 3, 9, 3, 3, 32, 3, 3, 3, 3, 59, 24, 25, 3, 3, 3, 3, 3, 116, 73, 3, 105, 87, 3, 126, 89, 3, 3, 3, 3, 72, 80, 81, 49, 3, 51, 3, 23, 57, 43, 127, 84, 141, 47, 114, 3, 135, 102, 104, 106, 83, 107, 108, 68, 69, 3, 52, 77, 67, 139, 61, 123, 124, 125, 128, 129, 130, 88, 90, 91, 92, 94, 96, 97, 98, 99, 101, 74, 54, 75, 76, 140, 82, 142, 143, 144, 145, 45, 109, 93, 110, 111, 95, 112, 113, 115, 117, 118, 100, 119, 120, 146, 131, 132, 133, 134, 136, 138, 137, 3, 3, 3, 3, 3, 3, 3, 3, 3, 3, 8, 3, 3, 3, 3, 3, 28, 3, 3, 3, 60, 26, 50, 3, 3, 3, 3, 85, 56, 70, 71, 3, 3, 3, 3, 3, 3, 3, 3, 37, 3, 27, 3, 3, 3, 3, 3, 3, 3, 3, 3, 53, 29, 3, 3, 3, 3, 3, 3, 3, 3, 3, 3, 3, 3, 3, 3, 3, 3, 3, 3, 3, 3, 3, 3, 3, 3, 3, 3, 3, 3, 3, 3, 3, 3, 3, 3, 3, 3, 3, 3, 3, 3, 3, 3, 3, 3, 3, 3, 3, 3, 3, 3, 3, 3, 3, 3, 3, 3, 3, 3, 3, 3, 3, 3, 3, 3, 3, 3, 3, 3, 3, 3, 3, 11, 12, 13, 3, 3, 3, 3, 3, 3, 3, 3, 3, 3, 3, 3, 3, 3, 3, 3, 22, 30, 3, 3, 34, 39, 44, 46, 48, 3, 63, 62, 3, 86, 64, 65, 66, 3, 3, 3, 40, 41, 3, 55, 3, 3, 3, 3, 3, 3, 3, 3, 3, 3, 3, 3, 3, 3, 3, 3, 3, 3, 3, 3, 3, 3, 3, 3, 3, 3, 103, 3, 3, 121, 122, 3, 3, 3, 3, 3, 3, 3, 3, 3, 3, 3, 3, 3, 3, 3, 3, 3, 3, 3, 3, 3, 3, 3, 3, 3, 3, 3, 14, 16, 3, 3, 18, 3, 3, 3, 3, 3, 3, 3, 3, 3, 3, 3, 35, 3, 3, 3, 3, 3, 3, 3, 3, 3, 3, 3, 3, 3, 58, 79, 78, 6, 10, 3, 15, 17, 4, 19, 20, 5, 21, 31, 33, 36, 38, 42]
def rho (k : Nat) : FuncId := rhoL.getD k 3
theorem rho_all : (rhoL.all (fnOk Tryz.prog) && fnOk Tryz.prog 3) = true := by kernel_rfl
theorem rho_fn : ∀ f, fnOk Tryz.prog (rho f) = true := by
  intro f
  have h := rho_all
  rw [Bool.and_eq_true, List.all_eq_true] at h
  unfold rho
  rw [List.getD_eq_getElem?_getD]
  cases e : rhoL[f]? with
  | none => exact h.2
  | some x => exact h.1 x (List.mem_of_getElem? e)
theorem rho_mo : Tryz.prog.follows .mixedOrders = true := by kernel_rfl
theorem c_i_basis : chkFn Tryz.prog rho 61 pf_i_basis = true := by kernel_rfl
theorem c_i_Algebra_field : chkFn Tryz.prog rho 116 pf_i_Algebra_field = true := by kernel_rfl
theorem c_i_field_mod : chkFn Tryz.prog rho 74 pf_i_field_mod = true := by kernel_rfl
theorem c_i_field_plus : chkFn Tryz.prog rho 71 pf_i_field_plus = true := by kernel_rfl
theorem c_i_Algebra_product : chkFn Tryz.prog rho 104 pf_i_Algebra_product = true := by kernel_rfl
theorem c_i_Algebra_fault : chkFn Tryz.prog rho 105 pf_i_Algebra_fault = true := by kernel_rfl
theorem c_i_IsPrime : chkFn Tryz.prog rho 93 pf_i_IsPrime = true := by kernel_rfl
theorem c_i_in : chkFn Tryz.prog rho 94 pf_i_in = true := by kernel_rfl
theorem c_i_IsVector : chkFn Tryz.prog rho 92 pf_i_IsVector = true := by kernel_rfl
theorem c_i_isLinear : chkFn Tryz.prog rho 83 pf_i_isLinear = true := by kernel_rfl
theorem c_i_isTable : chkFn Tryz.prog rho 102 pf_i_isTable = true := by kernel_rfl
theorem c_i_Algebra_isShaped : chkFn Tryz.prog rho 81 pf_i_Algebra_isShaped = true := by kernel_rfl
theorem c_i_Coalgebra_field : chkFn Tryz.prog rho 117 pf_i_Coalgebra_field = true := by kernel_rfl
theorem c_i_Coalgebra_isFault : chkFn Tryz.prog rho 119 pf_i_Coalgebra_isFault = true := by kernel_rfl
theorem c_i_Coalgebra_fault : chkFn Tryz.prog rho 108 pf_i_Coalgebra_fault = true := by kernel_rfl
theorem c_i_field_dot : chkFn Tryz.prog rho 118 pf_i_field_dot = true := by kernel_rfl
theorem c_i_Coalgebra_isCounit : chkFn Tryz.prog rho 107 pf_i_Coalgebra_isCounit = true := by kernel_rfl
theorem c_i_Coalgebra_isShaped : chkFn Tryz.prog rho 82 pf_i_Coalgebra_isShaped = true := by kernel_rfl
theorem c_i_Hopf_field : chkFn Tryz.prog rho 32 pf_i_Hopf_field = true := by kernel_rfl
theorem c_i_Hopf_counit : chkFn Tryz.prog rho 111 pf_i_Hopf_counit = true := by kernel_rfl
theorem c_i_Hopf_coproduct : chkFn Tryz.prog rho 58 pf_i_Hopf_coproduct = true := by kernel_rfl
theorem c_i_Hopf_product : chkFn Tryz.prog rho 73 pf_i_Hopf_product = true := by kernel_rfl
theorem c_i_pairs : chkFn Tryz.prog rho 60 pf_i_pairs = true := by kernel_rfl
theorem c_i_Hopf_algebra : chkFn Tryz.prog rho 36 pf_i_Hopf_algebra = true := by kernel_rfl
theorem c_i_Hopf_tensor_1_1 : chkFn Tryz.prog rho 122 pf_i_Hopf_tensor_1_1 = true := by kernel_rfl
theorem c_i_Hopf_tensor_1 : chkFn Tryz.prog rho 120 pf_i_Hopf_tensor_1 = true := by kernel_rfl
theorem c_i_Hopf_tensor : chkFn Tryz.prog rho 109 pf_i_Hopf_tensor = true := by kernel_rfl
theorem c_i_Hopf_axiom3 : chkFn Tryz.prog rho 86 pf_i_Hopf_axiom3 = true := by kernel_rfl
theorem c_i_field_times : chkFn Tryz.prog rho 114 pf_i_field_times = true := by kernel_rfl
theorem c_i_field_pair : chkFn Tryz.prog rho 110 pf_i_field_pair = true := by kernel_rfl
theorem c_i_Hopf_axiom4 : chkFn Tryz.prog rho 87 pf_i_Hopf_axiom4 = true := by kernel_rfl
theorem c_i_Hopf_axiom5 : chkFn Tryz.prog rho 88 pf_i_Hopf_axiom5 = true := by kernel_rfl
theorem c_i_Hopf_folded_1 : chkFn Tryz.prog rho 121 pf_i_Hopf_folded_1 = true := by kernel_rfl
theorem c_i_Hopf_folded : chkFn Tryz.prog rho 113 pf_i_Hopf_folded = true := by kernel_rfl
theorem c_i_Hopf_axiomS : chkFn Tryz.prog rho 112 pf_i_Hopf_axiomS = true := by kernel_rfl
theorem c_i_Hopf_coalgebra : chkFn Tryz.prog rho 39 pf_i_Hopf_coalgebra = true := by kernel_rfl
theorem c_i_Hopf_isShaped : chkFn Tryz.prog rho 67 pf_i_Hopf_isShaped = true := by kernel_rfl
theorem c_i_IsAlgebra : chkFn Tryz.prog rho 103 pf_i_IsAlgebra = true := by kernel_rfl
theorem c_i_Hopf_fails_1 : chkFn Tryz.prog rho 84 pf_i_Hopf_fails_1 = true := by kernel_rfl
theorem c_i_IsCoalgebra : chkFn Tryz.prog rho 106 pf_i_IsCoalgebra = true := by kernel_rfl
theorem c_i_Hopf_fails_2 : chkFn Tryz.prog rho 85 pf_i_Hopf_fails_2 = true := by kernel_rfl
theorem c_i_Hopf_fails_3 : chkFn Tryz.prog rho 89 pf_i_Hopf_fails_3 = true := by kernel_rfl
theorem c_i_Hopf_fails_4 : chkFn Tryz.prog rho 90 pf_i_Hopf_fails_4 = true := by kernel_rfl
theorem c_i_Hopf_fails : chkFn Tryz.prog rho 68 pf_i_Hopf_fails = true := by kernel_rfl
theorem c_i_IsHopf : chkFn Tryz.prog rho 47 pf_i_IsHopf = true := by kernel_rfl
theorem c_i_unless : chkFn Tryz.prog rho 49 pf_i_unless = true := by kernel_rfl
theorem c_i_Module_field : chkFn Tryz.prog rho 151 pf_i_Module_field = true := by kernel_rfl
theorem c_i_Module_acts : chkFn Tryz.prog rho 153 pf_i_Module_acts = true := by kernel_rfl
theorem c_i_Module_isShaped : chkFn Tryz.prog rho 152 pf_i_Module_isShaped = true := by kernel_rfl
theorem c_i_field_identity : chkFn Tryz.prog rho 44 pf_i_field_identity = true := by kernel_rfl
theorem c_i_field_apply : chkFn Tryz.prog rho 52 pf_i_field_apply = true := by kernel_rfl
theorem c_i_field_after : chkFn Tryz.prog rho 33 pf_i_field_after = true := by kernel_rfl
theorem c_i_Module_isModule : chkFn Tryz.prog rho 145 pf_i_Module_isModule = true := by kernel_rfl
theorem c_i_modulesCode : chkFn Tryz.prog rho 164 pf_i_modulesCode = true := by kernel_rfl
theorem c_l_toVector : chkFn Tryz.prog rho 16 pf_l_toVector = true := by kernel_rfl
theorem c_l_toLinear : chkFn Tryz.prog rho 26 pf_l_toLinear = true := by kernel_rfl
theorem c_l_toTable : chkFn Tryz.prog rho 25 pf_l_toTable = true := by kernel_rfl
theorem c_l_toHopf : chkFn Tryz.prog rho 0 pf_l_toHopf = true := by kernel_rfl
theorem c_l_toLinearA8 : chkFn Tryz.prog rho 144 pf_l_toLinearA8 = true := by kernel_rfl
theorem c_l_toModule : chkFn Tryz.prog rho 133 pf_l_toModule = true := by kernel_rfl
theorem c_s_l03Algebra : chkFn Tryz.prog rho 35 pf_s_l03Algebra = true := by kernel_rfl
theorem c_s_l01In : chkFn Tryz.prog rho 96 pf_s_l01In = true := by kernel_rfl
theorem c_s_l01Prime : chkFn Tryz.prog rho 95 pf_s_l01Prime = true := by kernel_rfl
theorem c_s_l01Sizes : chkFn Tryz.prog rho 75 pf_s_l01Sizes = true := by kernel_rfl
theorem c_s_l01Vector : chkFn Tryz.prog rho 53 pf_s_l01Vector = true := by kernel_rfl
theorem c_s_l01Linear : chkFn Tryz.prog rho 64 pf_s_l01Linear = true := by kernel_rfl
theorem c_s_l01Table : chkFn Tryz.prog rho 63 pf_s_l01Table = true := by kernel_rfl
theorem c_s_l01Shape : chkFn Tryz.prog rho 62 pf_s_l01Shape = true := by kernel_rfl
theorem c_s_l03Shape : chkFn Tryz.prog rho 45 pf_s_l03Shape = true := by kernel_rfl
theorem c_s_l01Basis : chkFn Tryz.prog rho 55 pf_s_l01Basis = true := by kernel_rfl
theorem c_s_l01Mod : chkFn Tryz.prog rho 72 pf_s_l01Mod = true := by kernel_rfl
theorem c_s_l01Add : chkFn Tryz.prog rho 57 pf_s_l01Add = true := by kernel_rfl
theorem c_s_l01Apply : chkFn Tryz.prog rho 51 pf_s_l01Apply = true := by kernel_rfl
theorem c_s_l01Times : chkFn Tryz.prog rho 56 pf_s_l01Times = true := by kernel_rfl
theorem c_s_l01Fault : chkFn Tryz.prog rho 97 pf_s_l01Fault = true := by kernel_rfl
theorem c_s_l01Is : chkFn Tryz.prog rho 76 pf_s_l01Is = true := by kernel_rfl
theorem c_s_l03Coalgebra : chkFn Tryz.prog rho 38 pf_s_l03Coalgebra = true := by kernel_rfl
theorem c_s_l02Shape : chkFn Tryz.prog rho 98 pf_s_l02Shape = true := by kernel_rfl
theorem c_s_l02Sums : chkFn Tryz.prog rho 115 pf_s_l02Sums = true := by kernel_rfl
theorem c_s_l02Fault : chkFn Tryz.prog rho 99 pf_s_l02Fault = true := by kernel_rfl
theorem c_s_l02Counits : chkFn Tryz.prog rho 100 pf_s_l02Counits = true := by kernel_rfl
theorem c_s_l02Is : chkFn Tryz.prog rho 77 pf_s_l02Is = true := by kernel_rfl
theorem c_s_l03Coproduct : chkFn Tryz.prog rho 54 pf_s_l03Coproduct = true := by kernel_rfl
theorem c_s_l01Zero : chkFn Tryz.prog rho 101 pf_s_l01Zero = true := by kernel_rfl
theorem c_s_l03Pairs : chkFn Tryz.prog rho 78 pf_s_l03Pairs = true := by kernel_rfl
theorem c_s_l03Counit : chkFn Tryz.prog rho 79 pf_s_l03Counit = true := by kernel_rfl
theorem c_s_l03Bialgebra : chkFn Tryz.prog rho 65 pf_s_l03Bialgebra = true := by kernel_rfl
theorem c_s_l03Folded : chkFn Tryz.prog rho 80 pf_s_l03Folded = true := by kernel_rfl
theorem c_s_l03Antipode : chkFn Tryz.prog rho 66 pf_s_l03Antipode = true := by kernel_rfl
theorem c_s_l03Fails : chkFn Tryz.prog rho 46 pf_s_l03Fails = true := by kernel_rfl
theorem c_s_l03Is : chkFn Tryz.prog rho 24 pf_s_l03Is = true := by kernel_rfl
theorem c_s_l06Act : chkFn Tryz.prog rho 150 pf_s_l06Act = true := by kernel_rfl
theorem c_s_l06Holds : chkFn Tryz.prog rho 143 pf_s_l06Holds = true := by kernel_rfl
theorem c_s_l06Code : chkFn Tryz.prog rho 162 pf_s_l06Code = true := by kernel_rfl
theorem c_i_newSystem : chkQF Tryz.prog rho 271 qf_i_newSystem = true := by kernel_rfl
theorem c_i_system_add : chkQF Tryz.prog rho 286 qf_i_system_add = true := by kernel_rfl
theorem c_i_system_solve_1 : chkQF Tryz.prog rho 276 qf_i_system_solve_1 = true := by kernel_rfl
theorem c_x_IndexFunc_R : chkQF Tryz.prog rho 277 qf_x_IndexFunc_R = true := by kernel_rfl
theorem c_i_field_inverse : chkQF Tryz.prog rho 279 qf_i_field_inverse = true := by kernel_rfl
theorem c_i_system_clear : chkQF Tryz.prog rho 280 qf_i_system_clear = true := by kernel_rfl
theorem c_i_system_solve_2 : chkQF Tryz.prog rho 282 qf_i_system_solve_2 = true := by kernel_rfl
theorem c_x_ContainsFunc_R : chkQF Tryz.prog rho 281 qf_x_ContainsFunc_R = true := by kernel_rfl
theorem c_i_system_solve : chkQF Tryz.prog rho 287 qf_i_system_solve = true := by kernel_rfl
theorem c_i_system_free : chkQF Tryz.prog rho 395 qf_i_system_free = true := by kernel_rfl
theorem c_i_DimensionOfMaps : chkQF Tryz.prog rho 388 qf_i_DimensionOfMaps = true := by kernel_rfl
theorem c_s_l01Inverse : chkQF Tryz.prog rho 274 qf_s_l01Inverse = true := by kernel_rfl
theorem c_s_l06Rank : chkQF Tryz.prog rho 394 qf_s_l06Rank = true := by kernel_rfl
theorem c_s_DimensionOfMaps : chkQF Tryz.prog rho 387 qf_s_DimensionOfMaps = true := by kernel_rfl
theorem c_l_FnExactDimensionOfMaps : chkQF Tryz.prog rho 389 qf_l_FnExactDimensionOfMaps = true := by kernel_rfl
theorem e_i_basis : E_i_basis Tryz.prog rho := c_i_basis
theorem e_i_Algebra_field : E_i_Algebra_field Tryz.prog rho := c_i_Algebra_field
theorem e_i_field_mod : E_i_field_mod Tryz.prog rho := c_i_field_mod
theorem e_i_field_plus : E_i_field_plus Tryz.prog rho := ⟨c_i_field_plus, e_i_field_mod⟩
theorem e_i_Algebra_product : E_i_Algebra_product Tryz.prog rho := ⟨c_i_Algebra_product, e_i_Algebra_field, e_i_field_plus⟩
theorem e_i_Algebra_fault : E_i_Algebra_fault Tryz.prog rho := ⟨c_i_Algebra_fault, e_i_basis, e_i_Algebra_product⟩
theorem e_i_IsPrime : E_i_IsPrime Tryz.prog rho := c_i_IsPrime
theorem e_i_in : E_i_in Tryz.prog rho := c_i_in
theorem e_i_IsVector : E_i_IsVector Tryz.prog rho := ⟨c_i_IsVector, e_i_IsPrime, e_i_in⟩
theorem e_i_isLinear : E_i_isLinear Tryz.prog rho := ⟨c_i_isLinear, e_i_IsVector⟩
theorem e_i_isTable : E_i_isTable Tryz.prog rho := ⟨c_i_isTable, e_i_isLinear⟩
theorem e_i_Algebra_isShaped : E_i_Algebra_isShaped Tryz.prog rho := ⟨c_i_Algebra_isShaped, e_i_IsVector, e_i_isTable⟩
theorem e_i_Coalgebra_field : E_i_Coalgebra_field Tryz.prog rho := c_i_Coalgebra_field
theorem e_i_Coalgebra_isFault : E_i_Coalgebra_isFault Tryz.prog rho := ⟨c_i_Coalgebra_isFault, e_i_Coalgebra_field⟩
theorem e_i_Coalgebra_fault : E_i_Coalgebra_fault Tryz.prog rho := ⟨c_i_Coalgebra_fault, e_i_Coalgebra_isFault⟩
theorem e_i_field_dot : E_i_field_dot Tryz.prog rho := c_i_field_dot
theorem e_i_Coalgebra_isCounit : E_i_Coalgebra_isCounit Tryz.prog rho := ⟨c_i_Coalgebra_isCounit, e_i_Coalgebra_field, e_i_field_plus, e_i_field_dot, e_i_basis⟩
theorem e_i_Coalgebra_isShaped : E_i_Coalgebra_isShaped Tryz.prog rho := ⟨c_i_Coalgebra_isShaped, e_i_IsVector, e_i_isTable⟩
theorem e_i_Hopf_field : E_i_Hopf_field Tryz.prog rho := c_i_Hopf_field
theorem e_i_Hopf_counit : E_i_Hopf_counit Tryz.prog rho := ⟨c_i_Hopf_counit, e_i_Hopf_field, e_i_field_dot⟩
theorem e_i_Hopf_coproduct : E_i_Hopf_coproduct Tryz.prog rho := ⟨c_i_Hopf_coproduct, e_i_Hopf_field, e_i_field_plus⟩
theorem e_i_Hopf_product : E_i_Hopf_product Tryz.prog rho := ⟨c_i_Hopf_product, e_i_Hopf_field, e_i_field_plus⟩
theorem e_i_pairs : E_i_pairs Tryz.prog rho := c_i_pairs
theorem e_i_Hopf_algebra : E_i_Hopf_algebra Tryz.prog rho := c_i_Hopf_algebra
theorem e_i_Hopf_tensor_1_1 : E_i_Hopf_tensor_1_1 Tryz.prog rho := ⟨c_i_Hopf_tensor_1_1, e_i_field_plus⟩
theorem e_i_Hopf_tensor_1 : E_i_Hopf_tensor_1 Tryz.prog rho := ⟨c_i_Hopf_tensor_1, e_i_Hopf_tensor_1_1, e_i_pairs⟩
theorem e_i_Hopf_tensor : E_i_Hopf_tensor Tryz.prog rho := ⟨c_i_Hopf_tensor, e_i_Hopf_field, e_i_Hopf_tensor_1, e_i_pairs⟩
theorem e_i_Hopf_axiom3 : E_i_Hopf_axiom3 Tryz.prog rho := ⟨c_i_Hopf_axiom3, e_i_Hopf_coproduct, e_i_Hopf_tensor⟩
theorem e_i_field_times : E_i_field_times Tryz.prog rho := ⟨c_i_field_times, e_i_field_plus⟩
theorem e_i_field_pair : E_i_field_pair Tryz.prog rho := ⟨c_i_field_pair, e_i_field_times⟩
theorem e_i_Hopf_axiom4 : E_i_Hopf_axiom4 Tryz.prog rho := ⟨c_i_Hopf_axiom4, e_i_Hopf_coproduct, e_i_Hopf_field, e_i_field_pair⟩
theorem e_i_Hopf_axiom5 : E_i_Hopf_axiom5 Tryz.prog rho := ⟨c_i_Hopf_axiom5, e_i_Hopf_field, e_i_Hopf_counit⟩
theorem e_i_Hopf_folded_1 : E_i_Hopf_folded_1 Tryz.prog rho := ⟨c_i_Hopf_folded_1, e_i_basis, e_i_Hopf_product, e_i_field_plus⟩
theorem e_i_Hopf_folded : E_i_Hopf_folded Tryz.prog rho := ⟨c_i_Hopf_folded, e_i_Hopf_field, e_i_Hopf_folded_1, e_i_pairs⟩
theorem e_i_Hopf_axiomS : E_i_Hopf_axiomS Tryz.prog rho := ⟨c_i_Hopf_axiomS, e_i_Hopf_field, e_i_Hopf_folded, e_i_field_times⟩
theorem e_i_Hopf_coalgebra : E_i_Hopf_coalgebra Tryz.prog rho := c_i_Hopf_coalgebra
theorem e_i_Hopf_isShaped : E_i_Hopf_isShaped Tryz.prog rho := ⟨c_i_Hopf_isShaped, e_i_Hopf_algebra, e_i_Algebra_isShaped, e_i_Hopf_coalgebra, e_i_Coalgebra_isShaped, e_i_isLinear⟩
theorem e_i_IsAlgebra : E_i_IsAlgebra Tryz.prog rho := ⟨c_i_IsAlgebra, e_i_Algebra_isShaped, e_i_basis, e_i_Algebra_product, e_i_Algebra_fault⟩
theorem e_i_Hopf_fails_1 : E_i_Hopf_fails_1 Tryz.prog rho := ⟨c_i_Hopf_fails_1, e_i_Hopf_algebra, e_i_IsAlgebra⟩
theorem e_i_IsCoalgebra : E_i_IsCoalgebra Tryz.prog rho := ⟨c_i_IsCoalgebra, e_i_Coalgebra_isShaped, e_i_Coalgebra_isCounit, e_i_Coalgebra_fault⟩
theorem e_i_Hopf_fails_2 : E_i_Hopf_fails_2 Tryz.prog rho := ⟨c_i_Hopf_fails_2, e_i_Hopf_coalgebra, e_i_IsCoalgebra⟩
theorem e_i_Hopf_fails_3 : E_i_Hopf_fails_3 Tryz.prog rho := ⟨c_i_Hopf_fails_3, e_i_Hopf_axiomS⟩
theorem e_i_Hopf_fails_4 : E_i_Hopf_fails_4 Tryz.prog rho := ⟨c_i_Hopf_fails_4, e_i_Hopf_axiomS⟩
theorem e_i_Hopf_fails : E_i_Hopf_fails Tryz.prog rho := ⟨c_i_Hopf_fails, e_i_Hopf_fails_1, e_i_Hopf_fails_2, e_i_Hopf_axiom3, e_i_Hopf_axiom4, e_i_Hopf_axiom5, e_i_Hopf_fails_3, e_i_Hopf_fails_4⟩
theorem e_i_IsHopf : E_i_IsHopf Tryz.prog rho := ⟨c_i_IsHopf, e_i_Hopf_isShaped, e_i_Hopf_fails⟩
theorem e_i_unless : E_i_unless Tryz.prog rho := c_i_unless
theorem e_i_Module_field : E_i_Module_field Tryz.prog rho := c_i_Module_field
theorem e_i_Module_acts : E_i_Module_acts Tryz.prog rho := ⟨c_i_Module_acts, e_i_Module_field, e_i_field_plus⟩
theorem e_i_Module_isShaped : E_i_Module_isShaped Tryz.prog rho := ⟨c_i_Module_isShaped, e_i_isLinear⟩
theorem e_i_field_identity : E_i_field_identity Tryz.prog rho := ⟨c_i_field_identity, e_i_basis⟩
theorem e_i_field_apply : E_i_field_apply Tryz.prog rho := ⟨c_i_field_apply, e_i_field_plus⟩
theorem e_i_field_after : E_i_field_after Tryz.prog rho := ⟨c_i_field_after, e_i_field_apply⟩
theorem e_i_Module_isModule : E_i_Module_isModule Tryz.prog rho := ⟨c_i_Module_isModule, e_i_Module_field, e_i_Module_isShaped, e_i_Module_acts, e_i_field_identity, e_i_field_after⟩
theorem e_i_modulesCode : E_i_modulesCode Tryz.prog rho := ⟨c_i_modulesCode, e_i_IsHopf, e_i_Module_isModule, e_i_unless⟩
theorem e_l_toVector : E_l_toVector Tryz.prog rho := c_l_toVector
theorem e_l_toLinear : E_l_toLinear Tryz.prog rho := ⟨c_l_toLinear, e_l_toVector⟩
theorem e_l_toTable : E_l_toTable Tryz.prog rho := ⟨c_l_toTable, e_l_toLinear⟩
theorem e_l_toHopf : E_l_toHopf Tryz.prog rho := ⟨c_l_toHopf, e_l_toVector, e_l_toTable, e_l_toLinear⟩
theorem e_l_toLinearA8 : E_l_toLinearA8 Tryz.prog rho := ⟨c_l_toLinearA8, e_l_toLinear⟩
theorem e_l_toModule : E_l_toModule Tryz.prog rho := ⟨c_l_toModule, e_l_toLinearA8⟩
theorem e_s_l03Algebra : E_s_l03Algebra Tryz.prog rho := c_s_l03Algebra
theorem e_s_l01In : E_s_l01In Tryz.prog rho := c_s_l01In
theorem e_s_l01Prime : E_s_l01Prime Tryz.prog rho := ⟨c_s_l01Prime, e_s_l01In⟩
theorem e_s_l01Sizes : E_s_l01Sizes Tryz.prog rho := ⟨c_s_l01Sizes, e_s_l01Prime, e_s_l01In⟩
theorem e_s_l01Vector : E_s_l01Vector Tryz.prog rho := c_s_l01Vector
theorem e_s_l01Linear : E_s_l01Linear Tryz.prog rho := ⟨c_s_l01Linear, e_s_l01Vector⟩
theorem e_s_l01Table : E_s_l01Table Tryz.prog rho := ⟨c_s_l01Table, e_s_l01Linear⟩
theorem e_s_l01Shape : E_s_l01Shape Tryz.prog rho := ⟨c_s_l01Shape, e_s_l01Sizes, e_s_l01Vector, e_s_l01Table⟩
theorem e_s_l03Shape : E_s_l03Shape Tryz.prog rho := ⟨c_s_l03Shape, e_s_l03Algebra, e_s_l01Shape, e_s_l01Vector, e_s_l01Table, e_s_l01Linear⟩
theorem e_s_l01Basis : E_s_l01Basis Tryz.prog rho := c_s_l01Basis
theorem e_s_l01Mod : E_s_l01Mod Tryz.prog rho := c_s_l01Mod
theorem e_s_l01Add : E_s_l01Add Tryz.prog rho := ⟨c_s_l01Add, e_s_l01Mod⟩
theorem e_s_l01Apply : E_s_l01Apply Tryz.prog rho := ⟨c_s_l01Apply, e_s_l01Add⟩
theorem e_s_l01Times : E_s_l01Times Tryz.prog rho := ⟨c_s_l01Times, e_s_l01Apply, e_s_l01Add⟩
theorem e_s_l01Fault : E_s_l01Fault Tryz.prog rho := ⟨c_s_l01Fault, e_s_l01Basis, e_s_l01Times⟩
theorem e_s_l01Is : E_s_l01Is Tryz.prog rho := ⟨c_s_l01Is, e_s_l01Shape, e_s_l01Basis, e_s_l01Times, e_s_l01Fault⟩
theorem e_s_l03Coalgebra : E_s_l03Coalgebra Tryz.prog rho := c_s_l03Coalgebra
theorem e_s_l02Shape : E_s_l02Shape Tryz.prog rho := ⟨c_s_l02Shape, e_s_l01Sizes, e_s_l01Vector, e_s_l01Table⟩
theorem e_s_l02Sums : E_s_l02Sums Tryz.prog rho := ⟨c_s_l02Sums, e_s_l01Mod⟩
theorem e_s_l02Fault : E_s_l02Fault Tryz.prog rho := ⟨c_s_l02Fault, e_s_l02Sums⟩
theorem e_s_l02Counits : E_s_l02Counits Tryz.prog rho := ⟨c_s_l02Counits, e_s_l01Add, e_s_l01Mod, e_s_l01Basis⟩
theorem e_s_l02Is : E_s_l02Is Tryz.prog rho := ⟨c_s_l02Is, e_s_l02Shape, e_s_l02Fault, e_s_l02Counits⟩
theorem e_s_l03Coproduct : E_s_l03Coproduct Tryz.prog rho := ⟨c_s_l03Coproduct, e_s_l01Add⟩
theorem e_s_l01Zero : E_s_l01Zero Tryz.prog rho := c_s_l01Zero
theorem e_s_l03Pairs : E_s_l03Pairs Tryz.prog rho := ⟨c_s_l03Pairs, e_s_l03Algebra, e_s_l01Times, e_s_l01Zero, e_s_l01Add⟩
theorem e_s_l03Counit : E_s_l03Counit Tryz.prog rho := c_s_l03Counit
theorem e_s_l03Bialgebra : E_s_l03Bialgebra Tryz.prog rho := ⟨c_s_l03Bialgebra, e_s_l03Algebra, e_s_l01Is, e_s_l03Coalgebra, e_s_l02Is, e_s_l03Coproduct, e_s_l03Pairs, e_s_l01Add, e_s_l03Counit⟩
theorem e_s_l03Folded : E_s_l03Folded Tryz.prog rho := ⟨c_s_l03Folded, e_s_l03Algebra, e_s_l01Basis, e_s_l01Times, e_s_l01Add⟩
theorem e_s_l03Antipode : E_s_l03Antipode Tryz.prog rho := ⟨c_s_l03Antipode, e_s_l03Folded, e_s_l01Add⟩
theorem e_s_l03Fails : E_s_l03Fails Tryz.prog rho := ⟨c_s_l03Fails, e_s_l03Bialgebra, e_s_l03Antipode⟩
theorem e_s_l03Is : E_s_l03Is Tryz.prog rho := ⟨c_s_l03Is, e_s_l03Shape, e_s_l03Fails⟩
theorem e_s_l06Act : E_s_l06Act Tryz.prog rho := ⟨c_s_l06Act, e_s_l01Apply, e_s_l01Add⟩
theorem e_s_l06Holds : E_s_l06Holds Tryz.prog rho := ⟨c_s_l06Holds, e_s_l01In, e_s_l01Linear, e_s_l01Basis, e_s_l06Act, e_s_l01Apply⟩
theorem e_s_l06Code : E_s_l06Code Tryz.prog rho := ⟨c_s_l06Code, e_s_l03Is, e_s_l06Holds⟩
theorem e_i_newSystem : F_i_newSystem Tryz.prog rho := c_i_newSystem
theorem e_i_system_add : F_i_system_add Tryz.prog rho := ⟨c_i_system_add, e_i_field_mod⟩
theorem e_i_system_solve_1 : F_i_system_solve_1 Tryz.prog rho := c_i_system_solve_1
theorem e_x_IndexFunc_R : F_x_IndexFunc_R Tryz.prog rho := c_x_IndexFunc_R
theorem e_i_field_inverse : F_i_field_inverse Tryz.prog rho := c_i_field_inverse
theorem e_i_system_clear : F_i_system_clear Tryz.prog rho := ⟨c_i_system_clear, e_i_field_inverse, e_i_field_mod⟩
theorem e_i_system_solve_2 : F_i_system_solve_2 Tryz.prog rho := c_i_system_solve_2
theorem e_x_ContainsFunc_R : F_x_ContainsFunc_R Tryz.prog rho := ⟨c_x_ContainsFunc_R, e_x_IndexFunc_R⟩
theorem e_i_system_solve : F_i_system_solve Tryz.prog rho := ⟨c_i_system_solve, e_i_system_solve_1, e_x_IndexFunc_R, e_i_system_clear, e_i_system_solve_2, e_x_ContainsFunc_R⟩
theorem e_i_system_free : F_i_system_free Tryz.prog rho := c_i_system_free
theorem e_i_DimensionOfMaps : F_i_DimensionOfMaps Tryz.prog rho := ⟨c_i_DimensionOfMaps, e_i_modulesCode, e_i_newSystem, e_i_system_add, e_i_system_solve, e_i_system_free⟩
theorem e_s_l01Inverse : F_s_l01Inverse Tryz.prog rho := c_s_l01Inverse
theorem e_s_l06Rank : F_s_l06Rank Tryz.prog rho := ⟨c_s_l06Rank, e_s_l01Inverse⟩
theorem e_s_DimensionOfMaps : F_s_DimensionOfMaps Tryz.prog rho := ⟨c_s_DimensionOfMaps, e_s_l06Code, e_s_l06Rank⟩
theorem e_l_FnExactDimensionOfMaps : F_l_FnExactDimensionOfMaps Tryz.prog rho := ⟨c_l_FnExactDimensionOfMaps, e_l_toHopf, e_l_toModule, e_s_DimensionOfMaps, e_i_DimensionOfMaps⟩
end Hf
