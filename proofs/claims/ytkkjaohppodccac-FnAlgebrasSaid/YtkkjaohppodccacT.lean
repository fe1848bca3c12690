/- The seat's functions are those of the small languages: each asked by the kernel. Written by gen2.py. -/
import Derived.Test.YtkkjaohppodccacC3
import Derived.Test.YtkkjaohppodccacProg
import Derived.KernelRfl
set_option linter.unusedVariables false
set_option linter.unusedSimpArgs false
namespace Hf
open Go Go.Proofs

def rhoL : List Nat := [3, 3, 3, 3, 3, 3, 3, 3, 3, 3, 3, 3, 3, 3, 3, 3, 3, 3, 3, 3, 3, 3, 3, 3, 3, 3, 3, 3, 3, 3, 3, 3, 3, 3, 3, 3, 3, 3, 3, 3, 3, 3, 3, 3, 3, 3, 3, 3, 3, 48, 3, 86, 3, 74, 3, 62, 61, 54, 3, 3, 3, 35, 51, 75, 95, 3, 3, 3, 3, 3, 41, 49, 76, 3, 72, 73, 30, 3, 3, 3, 3, 34, 3, 88, 3, 3, 3, 3, 3, 3, 3, 69, 43, 26, 70, 58, 82, 52, 3, 3, 3, 97, 64, 8, 36, 37, 3, 3, 3, 3, 3, 3, 3, 3, 3, 3, 39, 3, 3, 3, 3, 3, 3, 3, 3, 3, 3, 3, 3, 3, 3, 3, 3, 3, 3, 3, 3, 3, 3, 47, 3, 3, 3, 3, 3, 3, 3, 3, 3, 3, 3, 3, 3, 3, 3, 3, 3, 3, 3, 3, 3, 3, 3, 3, 3, 3, 3, 3, 3, 3, 3, 3, 3, 3, 3, 3, 4, 3, 3, 3, 3, 3, 3, 3, 3, 3, 29, 3, 3, 3, 3, 3, 3, 3, 28, 45, 46, 85, 3, 3, 3, 3, 3, 60, 59, 81, 83, 3, 84, 14, 3, 3, 3, 3, 3, 3, 3, 3, 3, 3, 3, 3, 3, 3, 3, 3, 3, 3, 3, 50, 3, 3, 3, 3, 3, 3, 3, 3, 3, 3, 32, 3, 3, 63, 87, 3, 3, 3, 3, 3, 3, 3, 3, 3, 3, 3, 3, 3, 3, 3, 3, 3, 3, 3, 3, 38, 78, 44, 56, 3, 80, 65, 77, 96, 98, 79, 90, 89, 94, 99, 91, 92, 93, 100, 3, 3, 66, 67, 68, 71, 3, 3, 3, 3, 3, 3, 3, 3, 3, 3, 3, 3, 3, 3, 3, 3, 3, 3, 3, 3, 3, 3, 3, 3, 3, 3, 3, 53, 55, 3, 3, 3, 3, 3, 3, 3, 3, 3, 3, 3, 3, 3, 3, 3, 3, 3, 3, 3, 3, 3, 3, 3, 3, 3, 3, 3, 3, 3, 3, 3, 3, 3, 3, 3, 3, 3, 3, 3, 3, 3, 3, 3, 3, 3, 3, 3, 3, 3, 3, 3, 3, 3, 3, 3, 3, 3, 3, 3, 3, 3, 3, 3, 3, 3, 3, 3, 3, 3, 3, 3, 3, 3, 3, 3, 3, 3, 3, 3, 3, 3, 3, 3, 3, 3, 3, 3, 3, 3, 3, 3, 3, 3, 12, 3, 3, 3, 3, 3, 3, 3, 3, 3, 3, 3, 3, 3, 3, 3, 42, 3, 3, 3, 3, 3, 5, 6, 7, 31, 33, 9, 40, 10, 15, 16, 17, 18, 19, 20, 21, 22, 57, 23, 24, 25, 27, 3, 3, 3, 3, 3, 3, 3, 3, 3, 3, 3, 3, 3, 3, 3, 3, 11, 13, 3]
def rho (k : Nat) : FuncId := rhoL.getD k 3
theorem rho_all : (rhoL.all (fnOk Try.prog) && fnOk Try.prog 3) = true := by kernel_rfl
theorem rho_fn : ∀ f, fnOk Try.prog (rho f) = true := by
  intro f
  have h := rho_all
  rw [Bool.and_eq_true, List.all_eq_true] at h
  unfold rho
  rw [List.getD_eq_getElem?_getD]
  cases e : rhoL[f]? with
  | none => exact h.2
  | some x => exact h.1 x (List.mem_of_getElem? e)
theorem rho_mo : Try.prog.follows .mixedOrders = true := by kernel_rfl
theorem c_i_IsPrime : chkFn Try.prog rho 93 pf_i_IsPrime = true := by kernel_rfl
theorem c_i_in : chkFn Try.prog rho 94 pf_i_in = true := by kernel_rfl
theorem c_i_IsVector : chkFn Try.prog rho 92 pf_i_IsVector = true := by kernel_rfl
theorem c_i_isLinear : chkFn Try.prog rho 83 pf_i_isLinear = true := by kernel_rfl
theorem c_i_isTable : chkFn Try.prog rho 102 pf_i_isTable = true := by kernel_rfl
theorem c_i_Algebra_isShaped : chkFn Try.prog rho 81 pf_i_Algebra_isShaped = true := by kernel_rfl
theorem c_i_basis : chkFn Try.prog rho 61 pf_i_basis = true := by kernel_rfl
theorem c_i_Algebra_field : chkFn Try.prog rho 116 pf_i_Algebra_field = true := by kernel_rfl
theorem c_i_field_mod : chkFn Try.prog rho 74 pf_i_field_mod = true := by kernel_rfl
theorem c_i_field_plus : chkFn Try.prog rho 71 pf_i_field_plus = true := by kernel_rfl
theorem c_i_Algebra_product : chkFn Try.prog rho 104 pf_i_Algebra_product = true := by kernel_rfl
theorem c_i_Algebra_fault : chkFn Try.prog rho 105 pf_i_Algebra_fault = true := by kernel_rfl
theorem c_i_IsAlgebra : chkFn Try.prog rho 103 pf_i_IsAlgebra = true := by kernel_rfl
theorem c_x_IndexFunc_V : chkFn Try.prog rho 91 pf_x_IndexFunc_V = true := by kernel_rfl
theorem c_x_ContainsFunc_V : chkFn Try.prog rho 70 pf_x_ContainsFunc_V = true := by kernel_rfl
theorem c_i_Algebra_has : chkFn Try.prog rho 243 pf_i_Algebra_has = true := by kernel_rfl
theorem c_i_unless : chkFn Try.prog rho 49 pf_i_unless = true := by kernel_rfl
theorem c_i_Algebra_code : chkFn Try.prog rho 240 pf_i_Algebra_code = true := by kernel_rfl
theorem c_i_first : chkFn Try.prog rho 139 pf_i_first = true := by kernel_rfl
theorem c_i_moved : chkFn Try.prog rho 229 pf_i_moved = true := by kernel_rfl
theorem c_s_l01In : chkFn Try.prog rho 96 pf_s_l01In = true := by kernel_rfl
theorem c_s_l01Prime : chkFn Try.prog rho 95 pf_s_l01Prime = true := by kernel_rfl
theorem c_s_l01Sizes : chkFn Try.prog rho 75 pf_s_l01Sizes = true := by kernel_rfl
theorem c_s_l01Vector : chkFn Try.prog rho 53 pf_s_l01Vector = true := by kernel_rfl
theorem c_s_l01Linear : chkFn Try.prog rho 64 pf_s_l01Linear = true := by kernel_rfl
theorem c_s_l01Table : chkFn Try.prog rho 63 pf_s_l01Table = true := by kernel_rfl
theorem c_s_l01Shape : chkFn Try.prog rho 62 pf_s_l01Shape = true := by kernel_rfl
theorem c_s_l01Basis : chkFn Try.prog rho 55 pf_s_l01Basis = true := by kernel_rfl
theorem c_s_l01Mod : chkFn Try.prog rho 72 pf_s_l01Mod = true := by kernel_rfl
theorem c_s_l01Add : chkFn Try.prog rho 57 pf_s_l01Add = true := by kernel_rfl
theorem c_s_l01Apply : chkFn Try.prog rho 51 pf_s_l01Apply = true := by kernel_rfl
theorem c_s_l01Times : chkFn Try.prog rho 56 pf_s_l01Times = true := by kernel_rfl
theorem c_s_l01Fault : chkFn Try.prog rho 97 pf_s_l01Fault = true := by kernel_rfl
theorem c_s_l01Is : chkFn Try.prog rho 76 pf_s_l01Is = true := by kernel_rfl
theorem c_s_l01Zero : chkFn Try.prog rho 101 pf_s_l01Zero = true := by kernel_rfl
theorem c_i_Algebra_opposite : chkQF Try.prog rho 438 qf_i_Algebra_opposite = true := by kernel_rfl
theorem c_i_CentreOf_1 : chkQF Try.prog rho 440 qf_i_CentreOf_1 = true := by kernel_rfl
theorem c_i_newSystem : chkQF Try.prog rho 271 qf_i_newSystem = true := by kernel_rfl
theorem c_i_system_add : chkQF Try.prog rho 286 qf_i_system_add = true := by kernel_rfl
theorem c_i_system_solve_1 : chkQF Try.prog rho 276 qf_i_system_solve_1 = true := by kernel_rfl
theorem c_x_IndexFunc_R : chkQF Try.prog rho 277 qf_x_IndexFunc_R = true := by kernel_rfl
theorem c_i_field_inverse : chkQF Try.prog rho 279 qf_i_field_inverse = true := by kernel_rfl
theorem c_i_system_clear : chkQF Try.prog rho 280 qf_i_system_clear = true := by kernel_rfl
theorem c_i_system_solve_2 : chkQF Try.prog rho 282 qf_i_system_solve_2 = true := by kernel_rfl
theorem c_x_ContainsFunc_R : chkQF Try.prog rho 281 qf_x_ContainsFunc_R = true := by kernel_rfl
theorem c_i_system_solve : chkQF Try.prog rho 287 qf_i_system_solve = true := by kernel_rfl
theorem c_x_Index_I : chkQF Try.prog rho 283 qf_x_Index_I = true := by kernel_rfl
theorem c_x_Contains_I : chkQF Try.prog rho 278 qf_x_Contains_I = true := by kernel_rfl
theorem c_x_Clone_B : chkQF Try.prog rho 289 qf_x_Clone_B = true := by kernel_rfl
theorem c_i_reduced : chkQF Try.prog rho 267 qf_i_reduced = true := by kernel_rfl
theorem c_i_system_spaces : chkQF Try.prog rho 288 qf_i_system_spaces = true := by kernel_rfl
theorem c_i_kernel : chkQF Try.prog rho 265 qf_i_kernel = true := by kernel_rfl
theorem c_i_CentreOf : chkQF Try.prog rho 441 qf_i_CentreOf = true := by kernel_rfl
theorem c_x_IndexFunc_V2 : chkQF Try.prog rho 91 qf_x_IndexFunc_V2 = true := by kernel_rfl
theorem c_x_ContainsFunc_V2 : chkQF Try.prog rho 70 qf_x_ContainsFunc_V2 = true := by kernel_rfl
theorem c_i_FirstFault : chkQF Try.prog rho 445 qf_i_FirstFault = true := by kernel_rfl
theorem c_i_IsCommutative : chkQF Try.prog rho 471 qf_i_IsCommutative = true := by kernel_rfl
theorem c_i_OppositeAlgebra : chkQF Try.prog rho 436 qf_i_OppositeAlgebra = true := by kernel_rfl
theorem c_i_ProductAlgebra : chkQF Try.prog rho 442 qf_i_ProductAlgebra = true := by kernel_rfl
theorem c_i_ReduceVectors_1 : chkQF Try.prog rho 428 qf_i_ReduceVectors_1 = true := by kernel_rfl
theorem c_i_ReduceVectors : chkQF Try.prog rho 412 qf_i_ReduceVectors = true := by kernel_rfl
theorem c_l_big : chkQF Try.prog rho 176 qf_l_big = true := by kernel_rfl
theorem c_s_l01From : chkQF Try.prog rho 186 qf_s_l01From = true := by kernel_rfl
theorem c_s_l01Next : chkQF Try.prog rho 195 qf_s_l01Next = true := by kernel_rfl
theorem c_s_l01Pick : chkQF Try.prog rho 205 qf_s_l01Pick = true := by kernel_rfl
theorem c_s_l01DrawPrime : chkQF Try.prog rho 206 qf_s_l01DrawPrime = true := by kernel_rfl
theorem c_s_l01Cyclic : chkQF Try.prog rho 196 qf_s_l01Cyclic = true := by kernel_rfl
theorem c_s_l01Powers : chkQF Try.prog rho 208 qf_s_l01Powers = true := by kernel_rfl
theorem c_s_l01Matrices : chkQF Try.prog rho 197 qf_s_l01Matrices = true := by kernel_rfl
theorem c_s_ProductAlgebra : chkQF Try.prog rho 209 qf_s_ProductAlgebra = true := by kernel_rfl
theorem c_s_l01Draw : chkQF Try.prog rho 203 qf_s_l01Draw = true := by kernel_rfl
theorem c_s_l01Bad : chkQF Try.prog rho 204 qf_s_l01Bad = true := by kernel_rfl
theorem c_s_l01Spoil : chkQF Try.prog rho 194 qf_s_l01Spoil = true := by kernel_rfl
theorem c_s_DrawOppositeAlgebra : chkQF Try.prog rho 434 qf_s_DrawOppositeAlgebra = true := by kernel_rfl
theorem c_s_l01Opposite : chkQF Try.prog rho 437 qf_s_l01Opposite = true := by kernel_rfl
theorem c_s_OppositeAlgebra : chkQF Try.prog rho 435 qf_s_OppositeAlgebra = true := by kernel_rfl
theorem c_s_IsAlgebra : chkQF Try.prog rho 439 qf_s_IsAlgebra = true := by kernel_rfl
theorem c_s_DrawProductAlgebra : chkQF Try.prog rho 472 qf_s_DrawProductAlgebra = true := by kernel_rfl
theorem c_s_DrawFirstFault : chkQF Try.prog rho 443 qf_s_DrawFirstFault = true := by kernel_rfl
theorem c_s_FirstFault : chkQF Try.prog rho 444 qf_s_FirstFault = true := by kernel_rfl
theorem c_s_DrawCentreOf : chkQF Try.prog rho 446 qf_s_DrawCentreOf = true := by kernel_rfl
theorem c_s_l01Whole : chkQF Try.prog rho 317 qf_s_l01Whole = true := by kernel_rfl
theorem c_s_l01First : chkQF Try.prog rho 273 qf_s_l01First = true := by kernel_rfl
theorem c_s_l01Inverse : chkQF Try.prog rho 274 qf_s_l01Inverse = true := by kernel_rfl
theorem c_s_l01Solve : chkQF Try.prog rho 275 qf_s_l01Solve = true := by kernel_rfl
theorem c_s_l01By : chkQF Try.prog rho 272 qf_s_l01By = true := by kernel_rfl
theorem c_s_l01Put : chkQF Try.prog rho 266 qf_s_l01Put = true := by kernel_rfl
theorem c_s_l01Reduce : chkQF Try.prog rho 270 qf_s_l01Reduce = true := by kernel_rfl
theorem c_s_l01Kernel : chkQF Try.prog rho 268 qf_s_l01Kernel = true := by kernel_rfl
theorem c_s_l01Meet : chkQF Try.prog rho 318 qf_s_l01Meet = true := by kernel_rfl
theorem c_s_CentreOf : chkQF Try.prog rho 447 qf_s_CentreOf = true := by kernel_rfl
theorem c_s_DrawIsCommutative : chkQF Try.prog rho 448 qf_s_DrawIsCommutative = true := by kernel_rfl
theorem c_s_IsCommutative : chkQF Try.prog rho 449 qf_s_IsCommutative = true := by kernel_rfl
theorem c_s_l01Near : chkQF Try.prog rho 450 qf_s_l01Near = true := by kernel_rfl
theorem c_s_DrawIsPrime : chkQF Try.prog rho 451 qf_s_DrawIsPrime = true := by kernel_rfl
theorem c_l_likeInts : chkQF Try.prog rho 452 qf_l_likeInts = true := by kernel_rfl
theorem c_l_vectors5 : chkQF Try.prog rho 453 qf_l_vectors5 = true := by kernel_rfl
theorem c_s_IsPrime : chkQF Try.prog rho 454 qf_s_IsPrime = true := by kernel_rfl
theorem c_l_FnAlgebras : chkQF Try.prog rho 473 qf_l_FnAlgebras = true := by kernel_rfl
theorem e_i_IsPrime : E_i_IsPrime Try.prog rho := c_i_IsPrime
theorem e_i_in : E_i_in Try.prog rho := c_i_in
theorem e_i_IsVector : E_i_IsVector Try.prog rho := ⟨c_i_IsVector, e_i_IsPrime, e_i_in⟩
theorem e_i_isLinear : E_i_isLinear Try.prog rho := ⟨c_i_isLinear, e_i_IsVector⟩
theorem e_i_isTable : E_i_isTable Try.prog rho := ⟨c_i_isTable, e_i_isLinear⟩
theorem e_i_Algebra_isShaped : E_i_Algebra_isShaped Try.prog rho := ⟨c_i_Algebra_isShaped, e_i_IsVector, e_i_isTable⟩
theorem e_i_basis : E_i_basis Try.prog rho := c_i_basis
theorem e_i_Algebra_field : E_i_Algebra_field Try.prog rho := c_i_Algebra_field
theorem e_i_field_mod : E_i_field_mod Try.prog rho := c_i_field_mod
theorem e_i_field_plus : E_i_field_plus Try.prog rho := ⟨c_i_field_plus, e_i_field_mod⟩
theorem e_i_Algebra_product : E_i_Algebra_product Try.prog rho := ⟨c_i_Algebra_product, e_i_Algebra_field, e_i_field_plus⟩
theorem e_i_Algebra_fault : E_i_Algebra_fault Try.prog rho := ⟨c_i_Algebra_fault, e_i_basis, e_i_Algebra_product⟩
theorem e_i_IsAlgebra : E_i_IsAlgebra Try.prog rho := ⟨c_i_IsAlgebra, e_i_Algebra_isShaped, e_i_basis, e_i_Algebra_product, e_i_Algebra_fault⟩
theorem e_x_IndexFunc_V : E_x_IndexFunc_V Try.prog rho := c_x_IndexFunc_V
theorem e_x_ContainsFunc_V : E_x_ContainsFunc_V Try.prog rho := ⟨c_x_ContainsFunc_V, e_x_IndexFunc_V⟩
theorem e_i_Algebra_has : E_i_Algebra_has Try.prog rho := ⟨c_i_Algebra_has, e_x_ContainsFunc_V⟩
theorem e_i_unless : E_i_unless Try.prog rho := c_i_unless
theorem e_i_Algebra_code : E_i_Algebra_code Try.prog rho := ⟨c_i_Algebra_code, e_i_IsAlgebra, e_i_Algebra_has, e_i_unless⟩
theorem e_i_first : E_i_first Try.prog rho := c_i_first
theorem e_i_moved : E_i_moved Try.prog rho := c_i_moved
theorem e_s_l01In : E_s_l01In Try.prog rho := c_s_l01In
theorem e_s_l01Prime : E_s_l01Prime Try.prog rho := ⟨c_s_l01Prime, e_s_l01In⟩
theorem e_s_l01Sizes : E_s_l01Sizes Try.prog rho := ⟨c_s_l01Sizes, e_s_l01Prime, e_s_l01In⟩
theorem e_s_l01Vector : E_s_l01Vector Try.prog rho := c_s_l01Vector
theorem e_s_l01Linear : E_s_l01Linear Try.prog rho := ⟨c_s_l01Linear, e_s_l01Vector⟩
theorem e_s_l01Table : E_s_l01Table Try.prog rho := ⟨c_s_l01Table, e_s_l01Linear⟩
theorem e_s_l01Shape : E_s_l01Shape Try.prog rho := ⟨c_s_l01Shape, e_s_l01Sizes, e_s_l01Vector, e_s_l01Table⟩
theorem e_s_l01Basis : E_s_l01Basis Try.prog rho := c_s_l01Basis
theorem e_s_l01Mod : E_s_l01Mod Try.prog rho := c_s_l01Mod
theorem e_s_l01Add : E_s_l01Add Try.prog rho := ⟨c_s_l01Add, e_s_l01Mod⟩
theorem e_s_l01Apply : E_s_l01Apply Try.prog rho := ⟨c_s_l01Apply, e_s_l01Add⟩
theorem e_s_l01Times : E_s_l01Times Try.prog rho := ⟨c_s_l01Times, e_s_l01Apply, e_s_l01Add⟩
theorem e_s_l01Fault : E_s_l01Fault Try.prog rho := ⟨c_s_l01Fault, e_s_l01Basis, e_s_l01Times⟩
theorem e_s_l01Is : E_s_l01Is Try.prog rho := ⟨c_s_l01Is, e_s_l01Shape, e_s_l01Basis, e_s_l01Times, e_s_l01Fault⟩
theorem e_s_l01Zero : E_s_l01Zero Try.prog rho := c_s_l01Zero
theorem e_i_Algebra_opposite : F_i_Algebra_opposite Try.prog rho := c_i_Algebra_opposite
theorem e_i_CentreOf_1 : F_i_CentreOf_1 Try.prog rho := c_i_CentreOf_1
theorem e_i_newSystem : F_i_newSystem Try.prog rho := c_i_newSystem
theorem e_i_system_add : F_i_system_add Try.prog rho := ⟨c_i_system_add, e_i_field_mod⟩
theorem e_i_system_solve_1 : F_i_system_solve_1 Try.prog rho := c_i_system_solve_1
theorem e_x_IndexFunc_R : F_x_IndexFunc_R Try.prog rho := c_x_IndexFunc_R
theorem e_i_field_inverse : F_i_field_inverse Try.prog rho := c_i_field_inverse
theorem e_i_system_clear : F_i_system_clear Try.prog rho := ⟨c_i_system_clear, e_i_field_inverse, e_i_field_mod⟩
theorem e_i_system_solve_2 : F_i_system_solve_2 Try.prog rho := c_i_system_solve_2
theorem e_x_ContainsFunc_R : F_x_ContainsFunc_R Try.prog rho := ⟨c_x_ContainsFunc_R, e_x_IndexFunc_R⟩
theorem e_i_system_solve : F_i_system_solve Try.prog rho := ⟨c_i_system_solve, e_i_system_solve_1, e_x_IndexFunc_R, e_i_system_clear, e_i_system_solve_2, e_x_ContainsFunc_R⟩
theorem e_x_Index_I : F_x_Index_I Try.prog rho := c_x_Index_I
theorem e_x_Contains_I : F_x_Contains_I Try.prog rho := ⟨c_x_Contains_I, e_x_Index_I⟩
theorem e_x_Clone_B : F_x_Clone_B Try.prog rho := c_x_Clone_B
theorem e_i_reduced : F_i_reduced Try.prog rho := ⟨c_i_reduced, e_i_newSystem, e_x_Clone_B, e_i_system_solve⟩
theorem e_i_system_spaces : F_i_system_spaces Try.prog rho := ⟨c_i_system_spaces, e_x_Contains_I, e_i_basis, e_i_field_mod, e_i_reduced⟩
theorem e_i_kernel : F_i_kernel Try.prog rho := ⟨c_i_kernel, e_i_newSystem, e_i_system_add, e_i_system_solve, e_i_system_spaces⟩
theorem e_i_CentreOf : F_i_CentreOf Try.prog rho := ⟨c_i_CentreOf, e_i_Algebra_code, e_i_Algebra_field, e_i_CentreOf_1, e_i_kernel⟩
theorem e_x_IndexFunc_V2 : F_x_IndexFunc_V2 Try.prog rho := c_x_IndexFunc_V2
theorem e_x_ContainsFunc_V2 : F_x_ContainsFunc_V2 Try.prog rho := ⟨c_x_ContainsFunc_V2, e_x_IndexFunc_V2⟩
theorem e_i_FirstFault : F_i_FirstFault Try.prog rho := ⟨c_i_FirstFault, e_i_Algebra_isShaped, e_i_Algebra_fault, e_i_unless⟩
theorem e_i_IsCommutative : F_i_IsCommutative Try.prog rho := ⟨c_i_IsCommutative, e_i_Algebra_code, e_i_Algebra_opposite⟩
theorem e_i_OppositeAlgebra : F_i_OppositeAlgebra Try.prog rho := ⟨c_i_OppositeAlgebra, e_i_Algebra_code, e_i_Algebra_opposite⟩
theorem e_i_ProductAlgebra : F_i_ProductAlgebra Try.prog rho := ⟨c_i_ProductAlgebra, e_i_Algebra_code, e_i_unless, e_i_first, e_i_Algebra_field, e_i_moved, e_i_field_plus⟩
theorem e_i_ReduceVectors_1 : F_i_ReduceVectors_1 Try.prog rho := ⟨c_i_ReduceVectors_1, e_i_IsVector⟩
theorem e_i_ReduceVectors : F_i_ReduceVectors Try.prog rho := ⟨c_i_ReduceVectors, e_i_ReduceVectors_1, e_x_ContainsFunc_V2, e_i_IsVector, e_i_reduced⟩
theorem e_l_big : F_l_big Try.prog rho := c_l_big
theorem e_s_l01From : F_s_l01From Try.prog rho := c_s_l01From
theorem e_s_l01Next : F_s_l01Next Try.prog rho := c_s_l01Next
theorem e_s_l01Pick : F_s_l01Pick Try.prog rho := ⟨c_s_l01Pick, e_s_l01Next⟩
theorem e_s_l01DrawPrime : F_s_l01DrawPrime Try.prog rho := ⟨c_s_l01DrawPrime, e_s_l01Pick⟩
theorem e_s_l01Cyclic : F_s_l01Cyclic Try.prog rho := c_s_l01Cyclic
theorem e_s_l01Powers : F_s_l01Powers Try.prog rho := c_s_l01Powers
theorem e_s_l01Matrices : F_s_l01Matrices Try.prog rho := c_s_l01Matrices
theorem e_s_ProductAlgebra : F_s_ProductAlgebra Try.prog rho := ⟨c_s_ProductAlgebra, e_s_l01Is⟩
theorem e_s_l01Draw : F_s_l01Draw Try.prog rho := ⟨c_s_l01Draw, e_s_l01DrawPrime, e_s_l01Next, e_s_l01Cyclic, e_s_l01Powers, e_s_l01Matrices, e_s_ProductAlgebra⟩
theorem e_s_l01Bad : F_s_l01Bad Try.prog rho := ⟨c_s_l01Bad, e_s_l01Next, e_s_l01Pick⟩
theorem e_s_l01Spoil : F_s_l01Spoil Try.prog rho := ⟨c_s_l01Spoil, e_s_l01Draw, e_s_l01Bad⟩
theorem e_s_DrawOppositeAlgebra : F_s_DrawOppositeAlgebra Try.prog rho := ⟨c_s_DrawOppositeAlgebra, e_s_l01From, e_s_l01Spoil⟩
theorem e_s_l01Opposite : F_s_l01Opposite Try.prog rho := c_s_l01Opposite
theorem e_s_OppositeAlgebra : F_s_OppositeAlgebra Try.prog rho := ⟨c_s_OppositeAlgebra, e_s_l01Is, e_s_l01Opposite⟩
theorem e_s_IsAlgebra : F_s_IsAlgebra Try.prog rho := ⟨c_s_IsAlgebra, e_s_l01Is⟩
theorem e_s_DrawProductAlgebra : F_s_DrawProductAlgebra Try.prog rho := ⟨c_s_DrawProductAlgebra, e_s_l01From, e_s_l01Spoil, e_s_l01Next, e_s_l01Cyclic⟩
theorem e_s_DrawFirstFault : F_s_DrawFirstFault Try.prog rho := ⟨c_s_DrawFirstFault, e_s_l01From, e_s_l01Spoil, e_s_l01Next, e_s_l01Shape⟩
theorem e_s_FirstFault : F_s_FirstFault Try.prog rho := ⟨c_s_FirstFault, e_s_l01Shape, e_s_l01Fault⟩
theorem e_s_DrawCentreOf : F_s_DrawCentreOf Try.prog rho := ⟨c_s_DrawCentreOf, e_s_l01From, e_s_l01Spoil⟩
theorem e_s_l01Whole : F_s_l01Whole Try.prog rho := ⟨c_s_l01Whole, e_s_l01Basis⟩
theorem e_s_l01First : F_s_l01First Try.prog rho := c_s_l01First
theorem e_s_l01Inverse : F_s_l01Inverse Try.prog rho := c_s_l01Inverse
theorem e_s_l01Solve : F_s_l01Solve Try.prog rho := ⟨c_s_l01Solve, e_s_l01Basis, e_s_l01First, e_s_l01Add, e_s_l01Zero, e_s_l01Inverse⟩
theorem e_s_l01By : F_s_l01By Try.prog rho := ⟨c_s_l01By, e_s_l01First, e_s_l01Add⟩
theorem e_s_l01Put : F_s_l01Put Try.prog rho := ⟨c_s_l01Put, e_s_l01By, e_s_l01Zero, e_s_l01First, e_s_l01Inverse, e_s_l01Add⟩
theorem e_s_l01Reduce : F_s_l01Reduce Try.prog rho := ⟨c_s_l01Reduce, e_s_l01Put⟩
theorem e_s_l01Kernel : F_s_l01Kernel Try.prog rho := ⟨c_s_l01Kernel, e_s_l01Solve, e_s_l01Reduce⟩
theorem e_s_l01Meet : F_s_l01Meet Try.prog rho := ⟨c_s_l01Meet, e_s_l01By, e_s_l01Kernel, e_s_l01Add, e_s_l01Put⟩
theorem e_s_CentreOf : F_s_CentreOf Try.prog rho := ⟨c_s_CentreOf, e_s_l01Is, e_s_l01Whole, e_s_l01Add, e_s_l01Kernel, e_s_l01Meet⟩
theorem e_s_DrawIsCommutative : F_s_DrawIsCommutative Try.prog rho := ⟨c_s_DrawIsCommutative, e_s_l01From, e_s_l01Spoil⟩
theorem e_s_IsCommutative : F_s_IsCommutative Try.prog rho := ⟨c_s_IsCommutative, e_s_l01Is⟩
theorem e_s_l01Near : F_s_l01Near Try.prog rho := ⟨c_s_l01Near, e_s_l01Next, e_s_l01Pick⟩
theorem e_s_DrawIsPrime : F_s_DrawIsPrime Try.prog rho := ⟨c_s_DrawIsPrime, e_s_l01From, e_s_l01Near⟩
theorem e_l_likeInts : F_l_likeInts Try.prog rho := c_l_likeInts
theorem e_l_vectors5 : F_l_vectors5 Try.prog rho := c_l_vectors5
theorem e_s_IsPrime : F_s_IsPrime Try.prog rho := ⟨c_s_IsPrime, e_s_l01Prime⟩
theorem e_l_FnAlgebras : F_l_FnAlgebras Try.prog rho := ⟨c_l_FnAlgebras, e_l_big, e_s_DrawOppositeAlgebra, e_s_OppositeAlgebra, e_i_OppositeAlgebra, e_i_IsAlgebra, e_s_IsAlgebra, e_i_CentreOf, e_i_IsCommutative, e_i_ReduceVectors, e_s_DrawProductAlgebra, e_s_ProductAlgebra, e_i_ProductAlgebra, e_s_DrawFirstFault, e_s_FirstFault, e_i_FirstFault, e_s_DrawCentreOf, e_s_CentreOf, e_s_DrawIsCommutative, e_s_IsCommutative, e_s_DrawIsPrime, e_l_likeInts, e_l_vectors5, e_i_IsPrime, e_s_IsPrime⟩
end Hf
