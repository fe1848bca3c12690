/- The seat's functions are those of the small language: each asked by the kernel. Written by gen.py. -/
import Derived.Test.YtfiiiedgnckppaaC2
import Derived.Test.YtfiiiedgnckppaaProg
import Derived.KernelRfl
set_option linter.unusedVariables false
set_option linter.unusedSimpArgs false
namespace Hf
open Go Go.Proofs

def rhoL : List Nat := [6, 3, 3, 9, 3, 3, 3, 3, 3, 3, 3, 3, 3, 3, 3, 3, 15, 3, 3, 51, 3, 3, 3, 3, 30, 16, 12, 3, 3, 18, 3, 3, 28, 29, 3, 62, 66, 3, 86, 68, 3, 3, 3, 3, 57, 42, 43, 32, 3, 26, 34, 22, 41, 36, 87, 45, 102, 21, 96, 3, 110, 81, 61, 63, 52, 64, 65, 46, 47, 3, 3, 60, 38, 114, 82, 83, 84, 85, 88, 89, 90, 67, 69, 27, 70, 72, 74, 75, 76, 77, 79, 3, 40, 58, 59, 101, 44, 103, 104, 105, 106, 37, 91, 71, 92, 93, 73, 94, 95, 97, 98, 49, 78, 99, 100, 115, 107, 108, 80, 109, 111, 113, 112, 3, 3, 3, 3, 3, 3, 3, 7, 14, 17, 11, 3, 3, 3, 3, 3, 25, 3, 31, 33, 35, 23, 39, 3, 3, 48, 50, 53, 54, 55, 56, 3, 3, 5, 8, 3, 10, 13, 4, 19, 20, 24]
def rho (k : Nat) : FuncId := rhoL.getD k 3
theorem rho_all : (rhoL.all (fnOk Try.prog) && fnOk Try.prog 3) = true := by kernel_rfl
theorem rho_fn : ∀ f, fnOk Try.prog (rho f) = true := by
  intro f
  have h := rho_all
  rw [Bool.and_eq_true, List.all_eq_true] at h
  unfold rho
  rw [List.getD_eq_getElem?_getD]
  cases e : rhoL[f]? with
  | none => exact h.2
  | some x => exact h.1 x (List.mem_of_getElem? e)
theorem rho_mo : Try.prog.follows .mixedOrders = true := by kernel_rfl
theorem c_i_Hopf_algebra : chkFn Try.prog rho 36 pf_i_Hopf_algebra = true := by kernel_rfl
theorem c_i_IsPrime : chkFn Try.prog rho 93 pf_i_IsPrime = true := by kernel_rfl
theorem c_i_in : chkFn Try.prog rho 94 pf_i_in = true := by kernel_rfl
theorem c_i_IsVector : chkFn Try.prog rho 92 pf_i_IsVector = true := by kernel_rfl
theorem c_i_isLinear : chkFn Try.prog rho 83 pf_i_isLinear = true := by kernel_rfl
theorem c_i_isTable : chkFn Try.prog rho 102 pf_i_isTable = true := by kernel_rfl
theorem c_i_Algebra_isShaped : chkFn Try.prog rho 81 pf_i_Algebra_isShaped = true := by kernel_rfl
theorem c_i_Hopf_coalgebra : chkFn Try.prog rho 39 pf_i_Hopf_coalgebra = true := by kernel_rfl
theorem c_i_Coalgebra_isShaped : chkFn Try.prog rho 82 pf_i_Coalgebra_isShaped = true := by kernel_rfl
theorem c_i_Hopf_isShaped : chkFn Try.prog rho 67 pf_i_Hopf_isShaped = true := by kernel_rfl
theorem c_i_basis : chkFn Try.prog rho 61 pf_i_basis = true := by kernel_rfl
theorem c_i_Algebra_field : chkFn Try.prog rho 116 pf_i_Algebra_field = true := by kernel_rfl
theorem c_i_field_mod : chkFn Try.prog rho 74 pf_i_field_mod = true := by kernel_rfl
theorem c_i_field_plus : chkFn Try.prog rho 71 pf_i_field_plus = true := by kernel_rfl
theorem c_i_Algebra_product : chkFn Try.prog rho 104 pf_i_Algebra_product = true := by kernel_rfl
theorem c_i_Algebra_fault : chkFn Try.prog rho 105 pf_i_Algebra_fault = true := by kernel_rfl
theorem c_i_IsAlgebra : chkFn Try.prog rho 103 pf_i_IsAlgebra = true := by kernel_rfl
theorem c_i_Hopf_fails_1 : chkFn Try.prog rho 84 pf_i_Hopf_fails_1 = true := by kernel_rfl
theorem c_i_Coalgebra_field : chkFn Try.prog rho 117 pf_i_Coalgebra_field = true := by kernel_rfl
theorem c_i_field_dot : chkFn Try.prog rho 118 pf_i_field_dot = true := by kernel_rfl
theorem c_i_Coalgebra_isCounit : chkFn Try.prog rho 107 pf_i_Coalgebra_isCounit = true := by kernel_rfl
theorem c_i_Coalgebra_isFault : chkFn Try.prog rho 119 pf_i_Coalgebra_isFault = true := by kernel_rfl
theorem c_i_Coalgebra_fault : chkFn Try.prog rho 108 pf_i_Coalgebra_fault = true := by kernel_rfl
theorem c_i_IsCoalgebra : chkFn Try.prog rho 106 pf_i_IsCoalgebra = true := by kernel_rfl
theorem c_i_Hopf_fails_2 : chkFn Try.prog rho 85 pf_i_Hopf_fails_2 = true := by kernel_rfl
theorem c_i_Hopf_field : chkFn Try.prog rho 32 pf_i_Hopf_field = true := by kernel_rfl
theorem c_i_Hopf_coproduct : chkFn Try.prog rho 58 pf_i_Hopf_coproduct = true := by kernel_rfl
theorem c_i_Hopf_tensor_1_1 : chkFn Try.prog rho 122 pf_i_Hopf_tensor_1_1 = true := by kernel_rfl
theorem c_i_pairs : chkFn Try.prog rho 60 pf_i_pairs = true := by kernel_rfl
theorem c_i_Hopf_tensor_1 : chkFn Try.prog rho 120 pf_i_Hopf_tensor_1 = true := by kernel_rfl
theorem c_i_Hopf_tensor : chkFn Try.prog rho 109 pf_i_Hopf_tensor = true := by kernel_rfl
theorem c_i_Hopf_axiom3 : chkFn Try.prog rho 86 pf_i_Hopf_axiom3 = true := by kernel_rfl
theorem c_i_field_times : chkFn Try.prog rho 114 pf_i_field_times = true := by kernel_rfl
theorem c_i_field_pair : chkFn Try.prog rho 110 pf_i_field_pair = true := by kernel_rfl
theorem c_i_Hopf_axiom4 : chkFn Try.prog rho 87 pf_i_Hopf_axiom4 = true := by kernel_rfl
theorem c_i_Hopf_counit : chkFn Try.prog rho 111 pf_i_Hopf_counit = true := by kernel_rfl
theorem c_i_Hopf_axiom5 : chkFn Try.prog rho 88 pf_i_Hopf_axiom5 = true := by kernel_rfl
theorem c_i_Hopf_product : chkFn Try.prog rho 73 pf_i_Hopf_product = true := by kernel_rfl
theorem c_i_Hopf_folded_1 : chkFn Try.prog rho 121 pf_i_Hopf_folded_1 = true := by kernel_rfl
theorem c_i_Hopf_folded : chkFn Try.prog rho 113 pf_i_Hopf_folded = true := by kernel_rfl
theorem c_i_Hopf_axiomS : chkFn Try.prog rho 112 pf_i_Hopf_axiomS = true := by kernel_rfl
theorem c_i_Hopf_fails_3 : chkFn Try.prog rho 89 pf_i_Hopf_fails_3 = true := by kernel_rfl
theorem c_i_Hopf_fails_4 : chkFn Try.prog rho 90 pf_i_Hopf_fails_4 = true := by kernel_rfl
theorem c_i_Hopf_fails : chkFn Try.prog rho 68 pf_i_Hopf_fails = true := by kernel_rfl
theorem c_i_IsHopf : chkFn Try.prog rho 47 pf_i_IsHopf = true := by kernel_rfl
theorem c_i_unless : chkFn Try.prog rho 49 pf_i_unless = true := by kernel_rfl
theorem c_i_Module_field : chkFn Try.prog rho 151 pf_i_Module_field = true := by kernel_rfl
theorem c_i_Module_isShaped : chkFn Try.prog rho 152 pf_i_Module_isShaped = true := by kernel_rfl
theorem c_i_Module_acts : chkFn Try.prog rho 153 pf_i_Module_acts = true := by kernel_rfl
theorem c_i_field_identity : chkFn Try.prog rho 44 pf_i_field_identity = true := by kernel_rfl
theorem c_i_field_apply : chkFn Try.prog rho 52 pf_i_field_apply = true := by kernel_rfl
theorem c_i_field_after : chkFn Try.prog rho 33 pf_i_field_after = true := by kernel_rfl
theorem c_i_Module_isModule : chkFn Try.prog rho 145 pf_i_Module_isModule = true := by kernel_rfl
theorem c_i_modulesCode : chkFn Try.prog rho 164 pf_i_modulesCode = true := by kernel_rfl
theorem c_i_first : chkFn Try.prog rho 139 pf_i_first = true := by kernel_rfl
theorem c_i_IsModuleMap : chkFn Try.prog rho 160 pf_i_IsModuleMap = true := by kernel_rfl
theorem c_l_toVector : chkFn Try.prog rho 16 pf_l_toVector = true := by kernel_rfl
theorem c_l_toLinear : chkFn Try.prog rho 26 pf_l_toLinear = true := by kernel_rfl
theorem c_l_toTable : chkFn Try.prog rho 25 pf_l_toTable = true := by kernel_rfl
theorem c_l_toHopf : chkFn Try.prog rho 0 pf_l_toHopf = true := by kernel_rfl
theorem c_l_toLinearA8 : chkFn Try.prog rho 144 pf_l_toLinearA8 = true := by kernel_rfl
theorem c_l_toModule : chkFn Try.prog rho 133 pf_l_toModule = true := by kernel_rfl
theorem c_s_l03Algebra : chkFn Try.prog rho 35 pf_s_l03Algebra = true := by kernel_rfl
theorem c_s_l01In : chkFn Try.prog rho 96 pf_s_l01In = true := by kernel_rfl
theorem c_s_l01Prime : chkFn Try.prog rho 95 pf_s_l01Prime = true := by kernel_rfl
theorem c_s_l01Sizes : chkFn Try.prog rho 75 pf_s_l01Sizes = true := by kernel_rfl
theorem c_s_l01Vector : chkFn Try.prog rho 53 pf_s_l01Vector = true := by kernel_rfl
theorem c_s_l01Linear : chkFn Try.prog rho 64 pf_s_l01Linear = true := by kernel_rfl
theorem c_s_l01Table : chkFn Try.prog rho 63 pf_s_l01Table = true := by kernel_rfl
theorem c_s_l01Shape : chkFn Try.prog rho 62 pf_s_l01Shape = true := by kernel_rfl
theorem c_s_l03Shape : chkFn Try.prog rho 45 pf_s_l03Shape = true := by kernel_rfl
theorem c_s_l01Basis : chkFn Try.prog rho 55 pf_s_l01Basis = true := by kernel_rfl
theorem c_s_l01Mod : chkFn Try.prog rho 72 pf_s_l01Mod = true := by kernel_rfl
theorem c_s_l01Add : chkFn Try.prog rho 57 pf_s_l01Add = true := by kernel_rfl
theorem c_s_l01Apply : chkFn Try.prog rho 51 pf_s_l01Apply = true := by kernel_rfl
theorem c_s_l01Times : chkFn Try.prog rho 56 pf_s_l01Times = true := by kernel_rfl
theorem c_s_l01Fault : chkFn Try.prog rho 97 pf_s_l01Fault = true := by kernel_rfl
theorem c_s_l01Is : chkFn Try.prog rho 76 pf_s_l01Is = true := by kernel_rfl
theorem c_s_l03Coalgebra : chkFn Try.prog rho 38 pf_s_l03Coalgebra = true := by kernel_rfl
theorem c_s_l02Shape : chkFn Try.prog rho 98 pf_s_l02Shape = true := by kernel_rfl
theorem c_s_l02Sums : chkFn Try.prog rho 115 pf_s_l02Sums = true := by kernel_rfl
theorem c_s_l02Fault : chkFn Try.prog rho 99 pf_s_l02Fault = true := by kernel_rfl
theorem c_s_l02Counits : chkFn Try.prog rho 100 pf_s_l02Counits = true := by kernel_rfl
theorem c_s_l02Is : chkFn Try.prog rho 77 pf_s_l02Is = true := by kernel_rfl
theorem c_s_l03Coproduct : chkFn Try.prog rho 54 pf_s_l03Coproduct = true := by kernel_rfl
theorem c_s_l01Zero : chkFn Try.prog rho 101 pf_s_l01Zero = true := by kernel_rfl
theorem c_s_l03Pairs : chkFn Try.prog rho 78 pf_s_l03Pairs = true := by kernel_rfl
theorem c_s_l03Counit : chkFn Try.prog rho 79 pf_s_l03Counit = true := by kernel_rfl
theorem c_s_l03Bialgebra : chkFn Try.prog rho 65 pf_s_l03Bialgebra = true := by kernel_rfl
theorem c_s_l03Folded : chkFn Try.prog rho 80 pf_s_l03Folded = true := by kernel_rfl
theorem c_s_l03Antipode : chkFn Try.prog rho 66 pf_s_l03Antipode = true := by kernel_rfl
theorem c_s_l03Fails : chkFn Try.prog rho 46 pf_s_l03Fails = true := by kernel_rfl
theorem c_s_l03Is : chkFn Try.prog rho 24 pf_s_l03Is = true := by kernel_rfl
theorem c_s_l06Act : chkFn Try.prog rho 150 pf_s_l06Act = true := by kernel_rfl
theorem c_s_l06Holds : chkFn Try.prog rho 143 pf_s_l06Holds = true := by kernel_rfl
theorem c_s_l06Code : chkFn Try.prog rho 162 pf_s_l06Code = true := by kernel_rfl
theorem c_s_l06Images : chkFn Try.prog rho 163 pf_s_l06Images = true := by kernel_rfl
theorem c_s_IsModuleMap : chkFn Try.prog rho 159 pf_s_IsModuleMap = true := by kernel_rfl
theorem c_l_FnExactIsModuleMap : chkFn Try.prog rho 161 pf_l_FnExactIsModuleMap = true := by kernel_rfl
theorem e_i_Hopf_algebra : E_i_Hopf_algebra Try.prog rho := c_i_Hopf_algebra
theorem e_i_IsPrime : E_i_IsPrime Try.prog rho := c_i_IsPrime
theorem e_i_in : E_i_in Try.prog rho := c_i_in
theorem e_i_IsVector : E_i_IsVector Try.prog rho := ⟨c_i_IsVector, e_i_IsPrime, e_i_in⟩
theorem e_i_isLinear : E_i_isLinear Try.prog rho := ⟨c_i_isLinear, e_i_IsVector⟩
theorem e_i_isTable : E_i_isTable Try.prog rho := ⟨c_i_isTable, e_i_isLinear⟩
theorem e_i_Algebra_isShaped : E_i_Algebra_isShaped Try.prog rho := ⟨c_i_Algebra_isShaped, e_i_IsVector, e_i_isTable⟩
theorem e_i_Hopf_coalgebra : E_i_Hopf_coalgebra Try.prog rho := c_i_Hopf_coalgebra
theorem e_i_Coalgebra_isShaped : E_i_Coalgebra_isShaped Try.prog rho := ⟨c_i_Coalgebra_isShaped, e_i_IsVector, e_i_isTable⟩
theorem e_i_Hopf_isShaped : E_i_Hopf_isShaped Try.prog rho := ⟨c_i_Hopf_isShaped, e_i_Hopf_algebra, e_i_Algebra_isShaped, e_i_Hopf_coalgebra, e_i_Coalgebra_isShaped, e_i_isLinear⟩
theorem e_i_basis : E_i_basis Try.prog rho := c_i_basis
theorem e_i_Algebra_field : E_i_Algebra_field Try.prog rho := c_i_Algebra_field
theorem e_i_field_mod : E_i_field_mod Try.prog rho := c_i_field_mod
theorem e_i_field_plus : E_i_field_plus Try.prog rho := ⟨c_i_field_plus, e_i_field_mod⟩
theorem e_i_Algebra_product : E_i_Algebra_product Try.prog rho := ⟨c_i_Algebra_product, e_i_Algebra_field, e_i_field_plus⟩
theorem e_i_Algebra_fault : E_i_Algebra_fault Try.prog rho := ⟨c_i_Algebra_fault, e_i_basis, e_i_Algebra_product⟩
theorem e_i_IsAlgebra : E_i_IsAlgebra Try.prog rho := ⟨c_i_IsAlgebra, e_i_Algebra_isShaped, e_i_basis, e_i_Algebra_product, e_i_Algebra_fault⟩
theorem e_i_Hopf_fails_1 : E_i_Hopf_fails_1 Try.prog rho := ⟨c_i_Hopf_fails_1, e_i_Hopf_algebra, e_i_IsAlgebra⟩
theorem e_i_Coalgebra_field : E_i_Coalgebra_field Try.prog rho := c_i_Coalgebra_field
theorem e_i_field_dot : E_i_field_dot Try.prog rho := c_i_field_dot
theorem e_i_Coalgebra_isCounit : E_i_Coalgebra_isCounit Try.prog rho := ⟨c_i_Coalgebra_isCounit, e_i_Coalgebra_field, e_i_field_plus, e_i_field_dot, e_i_basis⟩
theorem e_i_Coalgebra_isFault : E_i_Coalgebra_isFault Try.prog rho := ⟨c_i_Coalgebra_isFault, e_i_Coalgebra_field⟩
theorem e_i_Coalgebra_fault : E_i_Coalgebra_fault Try.prog rho := ⟨c_i_Coalgebra_fault, e_i_Coalgebra_isFault⟩
theorem e_i_IsCoalgebra : E_i_IsCoalgebra Try.prog rho := ⟨c_i_IsCoalgebra, e_i_Coalgebra_isShaped, e_i_Coalgebra_isCounit, e_i_Coalgebra_fault⟩
theorem e_i_Hopf_fails_2 : E_i_Hopf_fails_2 Try.prog rho := ⟨c_i_Hopf_fails_2, e_i_Hopf_coalgebra, e_i_IsCoalgebra⟩
theorem e_i_Hopf_field : E_i_Hopf_field Try.prog rho := c_i_Hopf_field
theorem e_i_Hopf_coproduct : E_i_Hopf_coproduct Try.prog rho := ⟨c_i_Hopf_coproduct, e_i_Hopf_field, e_i_field_plus⟩
theorem e_i_Hopf_tensor_1_1 : E_i_Hopf_tensor_1_1 Try.prog rho := ⟨c_i_Hopf_tensor_1_1, e_i_field_plus⟩
theorem e_i_pairs : E_i_pairs Try.prog rho := c_i_pairs
theorem e_i_Hopf_tensor_1 : E_i_Hopf_tensor_1 Try.prog rho := ⟨c_i_Hopf_tensor_1, e_i_Hopf_tensor_1_1, e_i_pairs⟩
theorem e_i_Hopf_tensor : E_i_Hopf_tensor Try.prog rho := ⟨c_i_Hopf_tensor, e_i_Hopf_field, e_i_Hopf_tensor_1, e_i_pairs⟩
theorem e_i_Hopf_axiom3 : E_i_Hopf_axiom3 Try.prog rho := ⟨c_i_Hopf_axiom3, e_i_Hopf_coproduct, e_i_Hopf_tensor⟩
theorem e_i_field_times : E_i_field_times Try.prog rho := ⟨c_i_field_times, e_i_field_plus⟩
theorem e_i_field_pair : E_i_field_pair Try.prog rho := ⟨c_i_field_pair, e_i_field_times⟩
theorem e_i_Hopf_axiom4 : E_i_Hopf_axiom4 Try.prog rho := ⟨c_i_Hopf_axiom4, e_i_Hopf_coproduct, e_i_Hopf_field, e_i_field_pair⟩
theorem e_i_Hopf_counit : E_i_Hopf_counit Try.prog rho := ⟨c_i_Hopf_counit, e_i_Hopf_field, e_i_field_dot⟩
theorem e_i_Hopf_axiom5 : E_i_Hopf_axiom5 Try.prog rho := ⟨c_i_Hopf_axiom5, e_i_Hopf_field, e_i_Hopf_counit⟩
theorem e_i_Hopf_product : E_i_Hopf_product Try.prog rho := ⟨c_i_Hopf_product, e_i_Hopf_field, e_i_field_plus⟩
theorem e_i_Hopf_folded_1 : E_i_Hopf_folded_1 Try.prog rho := ⟨c_i_Hopf_folded_1, e_i_basis, e_i_Hopf_product, e_i_field_plus⟩
theorem e_i_Hopf_folded : E_i_Hopf_folded Try.prog rho := ⟨c_i_Hopf_folded, e_i_Hopf_field, e_i_Hopf_folded_1, e_i_pairs⟩
theorem e_i_Hopf_axiomS : E_i_Hopf_axiomS Try.prog rho := ⟨c_i_Hopf_axiomS, e_i_Hopf_field, e_i_Hopf_folded, e_i_field_times⟩
theorem e_i_Hopf_fails_3 : E_i_Hopf_fails_3 Try.prog rho := ⟨c_i_Hopf_fails_3, e_i_Hopf_axiomS⟩
theorem e_i_Hopf_fails_4 : E_i_Hopf_fails_4 Try.prog rho := ⟨c_i_Hopf_fails_4, e_i_Hopf_axiomS⟩
theorem e_i_Hopf_fails : E_i_Hopf_fails Try.prog rho := ⟨c_i_Hopf_fails, e_i_Hopf_fails_1, e_i_Hopf_fails_2, e_i_Hopf_axiom3, e_i_Hopf_axiom4, e_i_Hopf_axiom5, e_i_Hopf_fails_3, e_i_Hopf_fails_4⟩
theorem e_i_IsHopf : E_i_IsHopf Try.prog rho := ⟨c_i_IsHopf, e_i_Hopf_isShaped, e_i_Hopf_fails⟩
theorem e_i_unless : E_i_unless Try.prog rho := c_i_unless
theorem e_i_Module_field : E_i_Module_field Try.prog rho := c_i_Module_field
theorem e_i_Module_isShaped : E_i_Module_isShaped Try.prog rho := ⟨c_i_Module_isShaped, e_i_isLinear⟩
theorem e_i_Module_acts : E_i_Module_acts Try.prog rho := ⟨c_i_Module_acts, e_i_Module_field, e_i_field_plus⟩
theorem e_i_field_identity : E_i_field_identity Try.prog rho := ⟨c_i_field_identity, e_i_basis⟩
theorem e_i_field_apply : E_i_field_apply Try.prog rho := ⟨c_i_field_apply, e_i_field_plus⟩
theorem e_i_field_after : E_i_field_after Try.prog rho := ⟨c_i_field_after, e_i_field_apply⟩
theorem e_i_Module_isModule : E_i_Module_isModule Try.prog rho := ⟨c_i_Module_isModule, e_i_Module_field, e_i_Module_isShaped, e_i_Module_acts, e_i_field_identity, e_i_field_after⟩
theorem e_i_modulesCode : E_i_modulesCode Try.prog rho := ⟨c_i_modulesCode, e_i_IsHopf, e_i_Module_isModule, e_i_unless⟩
theorem e_i_first : E_i_first Try.prog rho := c_i_first
theorem e_i_IsModuleMap : E_i_IsModuleMap Try.prog rho := ⟨c_i_IsModuleMap, e_i_modulesCode, e_i_isLinear, e_i_unless, e_i_first, e_i_Hopf_field, e_i_field_after⟩
theorem e_l_toVector : E_l_toVector Try.prog rho := c_l_toVector
theorem e_l_toLinear : E_l_toLinear Try.prog rho := ⟨c_l_toLinear, e_l_toVector⟩
theorem e_l_toTable : E_l_toTable Try.prog rho := ⟨c_l_toTable, e_l_toLinear⟩
theorem e_l_toHopf : E_l_toHopf Try.prog rho := ⟨c_l_toHopf, e_l_toVector, e_l_toTable, e_l_toLinear⟩
theorem e_l_toLinearA8 : E_l_toLinearA8 Try.prog rho := ⟨c_l_toLinearA8, e_l_toLinear⟩
theorem e_l_toModule : E_l_toModule Try.prog rho := ⟨c_l_toModule, e_l_toLinearA8⟩
theorem e_s_l03Algebra : E_s_l03Algebra Try.prog rho := c_s_l03Algebra
theorem e_s_l01In : E_s_l01In Try.prog rho := c_s_l01In
theorem e_s_l01Prime : E_s_l01Prime Try.prog rho := ⟨c_s_l01Prime, e_s_l01In⟩
theorem e_s_l01Sizes : E_s_l01Sizes Try.prog rho := ⟨c_s_l01Sizes, e_s_l01Prime, e_s_l01In⟩
theorem e_s_l01Vector : E_s_l01Vector Try.prog rho := c_s_l01Vector
theorem e_s_l01Linear : E_s_l01Linear Try.prog rho := ⟨c_s_l01Linear, e_s_l01Vector⟩
theorem e_s_l01Table : E_s_l01Table Try.prog rho := ⟨c_s_l01Table, e_s_l01Linear⟩
theorem e_s_l01Shape : E_s_l01Shape Try.prog rho := ⟨c_s_l01Shape, e_s_l01Sizes, e_s_l01Vector, e_s_l01Table⟩
theorem e_s_l03Shape : E_s_l03Shape Try.prog rho := ⟨c_s_l03Shape, e_s_l03Algebra, e_s_l01Shape, e_s_l01Vector, e_s_l01Table, e_s_l01Linear⟩
theorem e_s_l01Basis : E_s_l01Basis Try.prog rho := c_s_l01Basis
theorem e_s_l01Mod : E_s_l01Mod Try.prog rho := c_s_l01Mod
theorem e_s_l01Add : E_s_l01Add Try.prog rho := ⟨c_s_l01Add, e_s_l01Mod⟩
theorem e_s_l01Apply : E_s_l01Apply Try.prog rho := ⟨c_s_l01Apply, e_s_l01Add⟩
theorem e_s_l01Times : E_s_l01Times Try.prog rho := ⟨c_s_l01Times, e_s_l01Apply, e_s_l01Add⟩
theorem e_s_l01Fault : E_s_l01Fault Try.prog rho := ⟨c_s_l01Fault, e_s_l01Basis, e_s_l01Times⟩
theorem e_s_l01Is : E_s_l01Is Try.prog rho := ⟨c_s_l01Is, e_s_l01Shape, e_s_l01Basis, e_s_l01Times, e_s_l01Fault⟩
theorem e_s_l03Coalgebra : E_s_l03Coalgebra Try.prog rho := c_s_l03Coalgebra
theorem e_s_l02Shape : E_s_l02Shape Try.prog rho := ⟨c_s_l02Shape, e_s_l01Sizes, e_s_l01Vector, e_s_l01Table⟩
theorem e_s_l02Sums : E_s_l02Sums Try.prog rho := ⟨c_s_l02Sums, e_s_l01Mod⟩
theorem e_s_l02Fault : E_s_l02Fault Try.prog rho := ⟨c_s_l02Fault, e_s_l02Sums⟩
theorem e_s_l02Counits : E_s_l02Counits Try.prog rho := ⟨c_s_l02Counits, e_s_l01Add, e_s_l01Mod, e_s_l01Basis⟩
theorem e_s_l02Is : E_s_l02Is Try.prog rho := ⟨c_s_l02Is, e_s_l02Shape, e_s_l02Fault, e_s_l02Counits⟩
theorem e_s_l03Coproduct : E_s_l03Coproduct Try.prog rho := ⟨c_s_l03Coproduct, e_s_l01Add⟩
theorem e_s_l01Zero : E_s_l01Zero Try.prog rho := c_s_l01Zero
theorem e_s_l03Pairs : E_s_l03Pairs Try.prog rho := ⟨c_s_l03Pairs, e_s_l03Algebra, e_s_l01Times, e_s_l01Zero, e_s_l01Add⟩
theorem e_s_l03Counit : E_s_l03Counit Try.prog rho := c_s_l03Counit
theorem e_s_l03Bialgebra : E_s_l03Bialgebra Try.prog rho := ⟨c_s_l03Bialgebra, e_s_l03Algebra, e_s_l01Is, e_s_l03Coalgebra, e_s_l02Is, e_s_l03Coproduct, e_s_l03Pairs, e_s_l01Add, e_s_l03Counit⟩
theorem e_s_l03Folded : E_s_l03Folded Try.prog rho := ⟨c_s_l03Folded, e_s_l03Algebra, e_s_l01Basis, e_s_l01Times, e_s_l01Add⟩
theorem e_s_l03Antipode : E_s_l03Antipode Try.prog rho := ⟨c_s_l03Antipode, e_s_l03Folded, e_s_l01Add⟩
theorem e_s_l03Fails : E_s_l03Fails Try.prog rho := ⟨c_s_l03Fails, e_s_l03Bialgebra, e_s_l03Antipode⟩
theorem e_s_l03Is : E_s_l03Is Try.prog rho := ⟨c_s_l03Is, e_s_l03Shape, e_s_l03Fails⟩
theorem e_s_l06Act : E_s_l06Act Try.prog rho := ⟨c_s_l06Act, e_s_l01Apply, e_s_l01Add⟩
theorem e_s_l06Holds : E_s_l06Holds Try.prog rho := ⟨c_s_l06Holds, e_s_l01In, e_s_l01Linear, e_s_l01Basis, e_s_l06Act, e_s_l01Apply⟩
theorem e_s_l06Code : E_s_l06Code Try.prog rho := ⟨c_s_l06Code, e_s_l03Is, e_s_l06Holds⟩
theorem e_s_l06Images : E_s_l06Images Try.prog rho := ⟨c_s_l06Images, e_s_l01Vector, e_s_l01Zero⟩
theorem e_s_IsModuleMap : E_s_IsModuleMap Try.prog rho := ⟨c_s_IsModuleMap, e_s_l06Code, e_s_l06Images, e_s_l01Add, e_s_l01Apply⟩
theorem e_l_FnExactIsModuleMap : E_l_FnExactIsModuleMap Try.prog rho := ⟨c_l_FnExactIsModuleMap, e_l_toHopf, e_l_toModule, e_l_toLinear, e_s_IsModuleMap, e_i_IsModuleMap⟩
end Hf
