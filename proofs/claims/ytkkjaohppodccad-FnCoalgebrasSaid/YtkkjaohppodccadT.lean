/- The seat's functions are those of the small languages: each asked by the kernel. Written by gen2.py. -/
import Derived.Test.YtkkjaohppodccadC3
import Derived.Test.YtkkjaohppodccadProg
import Derived.KernelRfl
set_option linter.unusedVariables false
set_option linter.unusedSimpArgs false
namespace Hf
open Go Go.Proofs

def rhoL : List Nat := [3, 3, 3, 3, 3, 3, 3, 3, 3, 3, 3, 3, 3, 3, 3, 3, 3, 3, 3, 3, 3, 3, 3, 3, 3, 3, 3, 3, 3, 3, 3, 3, 3, 3, 3, 3, 3, 3, 3, 3, 3, 3, 3, 3, 3, 3, 3, 3, 3, 38, 3, 99, 3, 68, 3, 72, 79, 74, 3, 3, 3, 56, 78, 69, 91, 3, 3, 3, 3, 3, 93, 64, 89, 3, 88, 67, 48, 34, 3, 3, 3, 55, 31, 87, 3, 3, 3, 3, 3, 3, 3, 101, 62, 85, 86, 90, 71, 80, 36, 37, 66, 3, 63, 25, 57, 58, 6, 32, 33, 3, 3, 3, 3, 3, 3, 70, 82, 45, 46, 65, 3, 3, 3, 3, 3, 3, 3, 3, 3, 3, 3, 3, 3, 3, 3, 3, 3, 3, 3, 3, 3, 3, 3, 3, 3, 3, 3, 3, 3, 3, 3, 3, 3, 3, 3, 3, 3, 3, 3, 3, 3, 3, 3, 3, 3, 3, 3, 3, 3, 3, 3, 3, 3, 3, 3, 3, 4, 3, 3, 3, 3, 3, 3, 27, 3, 3, 30, 3, 3, 3, 3, 3, 26, 29, 47, 35, 95, 97, 92, 3, 59, 61, 60, 77, 76, 83, 84, 18, 96, 98, 49, 3, 3, 3, 3, 3, 3, 3, 3, 3, 3, 3, 3, 3, 3, 3, 3, 53, 3, 3, 3, 3, 3, 3, 3, 3, 3, 3, 3, 3, 50, 3, 3, 81, 100, 3, 3, 3, 3, 3, 3, 3, 3, 3, 3, 3, 3, 3, 3, 3, 3, 3, 3, 3, 3, 3, 3, 3, 3, 3, 3, 3, 3, 3, 3, 3, 3, 3, 3, 3, 3, 3, 3, 3, 3, 3, 3, 3, 3, 3, 3, 3, 3, 3, 3, 3, 3, 3, 3, 3, 3, 3, 3, 3, 3, 3, 3, 3, 3, 3, 3, 3, 3, 3, 3, 3, 3, 3, 3, 3, 3, 3, 3, 3, 3, 3, 3, 3, 3, 3, 3, 3, 3, 3, 3, 3, 3, 3, 3, 3, 3, 3, 3, 3, 3, 3, 52, 51, 3, 3, 3, 3, 3, 3, 3, 3, 3, 3, 3, 3, 3, 3, 3, 3, 3, 3, 3, 3, 3, 3, 3, 3, 3, 3, 3, 3, 3, 3, 3, 3, 3, 3, 3, 3, 3, 3, 3, 3, 3, 3, 3, 3, 3, 3, 3, 3, 3, 3, 3, 3, 3, 3, 3, 3, 3, 3, 3, 3, 3, 3, 3, 3, 3, 14, 3, 39, 40, 3, 42, 3, 3, 3, 73, 3, 3, 3, 43, 3, 3, 44, 41, 3, 75, 94, 3, 3, 3, 3, 54, 3, 3, 3, 3, 3, 3, 3, 3, 3, 3, 3, 3, 3, 11, 3, 3, 5, 7, 8, 9, 10, 12, 13, 15, 16, 17, 19, 20, 21, 22, 23, 28, 24, 3, 3, 3]
def rho (k : Nat) : FuncId := rhoL.getD k 3
theorem rho_all : (rhoL.all (fnOk Try.prog) && fnOk Try.prog 3) = true := by kernel_rfl
theorem rho_fn : ∀ f, fnOk Try.prog (rho f) = true := by
  intro f
  have h := rho_all
  rw [Bool.and_eq_true, List.all_eq_true] at h
  unfold rho
  rw [List.getD_eq_getElem?_getD]
  cases e : rhoL[f]? with
  | none => exact h.2
  | some x => exact h.1 x (List.mem_of_getElem? e)
theorem rho_mo : Try.prog.follows .mixedOrders = true := by kernel_rfl
theorem c_i_IsPrime : chkFn Try.prog rho 93 pf_i_IsPrime = true := by kernel_rfl
theorem c_i_in : chkFn Try.prog rho 94 pf_i_in = true := by kernel_rfl
theorem c_i_IsVector : chkFn Try.prog rho 92 pf_i_IsVector = true := by kernel_rfl
theorem c_i_isLinear : chkFn Try.prog rho 83 pf_i_isLinear = true := by kernel_rfl
theorem c_i_isTable : chkFn Try.prog rho 102 pf_i_isTable = true := by kernel_rfl
theorem c_i_Algebra_isShaped : chkFn Try.prog rho 81 pf_i_Algebra_isShaped = true := by kernel_rfl
theorem c_i_basis : chkFn Try.prog rho 61 pf_i_basis = true := by kernel_rfl
theorem c_i_Algebra_field : chkFn Try.prog rho 116 pf_i_Algebra_field = true := by kernel_rfl
theorem c_i_field_mod : chkFn Try.prog rho 74 pf_i_field_mod = true := by kernel_rfl
theorem c_i_field_plus : chkFn Try.prog rho 71 pf_i_field_plus = true := by kernel_rfl
theorem c_i_Algebra_product : chkFn Try.prog rho 104 pf_i_Algebra_product = true := by kernel_rfl
theorem c_i_Algebra_fault : chkFn Try.prog rho 105 pf_i_Algebra_fault = true := by kernel_rfl
theorem c_i_IsAlgebra : chkFn Try.prog rho 103 pf_i_IsAlgebra = true := by kernel_rfl
theorem c_x_IndexFunc_V : chkFn Try.prog rho 91 pf_x_IndexFunc_V = true := by kernel_rfl
theorem c_x_ContainsFunc_V : chkFn Try.prog rho 70 pf_x_ContainsFunc_V = true := by kernel_rfl
theorem c_i_Algebra_has : chkFn Try.prog rho 243 pf_i_Algebra_has = true := by kernel_rfl
theorem c_i_unless : chkFn Try.prog rho 49 pf_i_unless = true := by kernel_rfl
theorem c_i_Algebra_code : chkFn Try.prog rho 240 pf_i_Algebra_code = true := by kernel_rfl
theorem c_i_Coalgebra_field : chkFn Try.prog rho 117 pf_i_Coalgebra_field = true := by kernel_rfl
theorem c_i_Coalgebra_isFault : chkFn Try.prog rho 119 pf_i_Coalgebra_isFault = true := by kernel_rfl
theorem c_i_Coalgebra_fault : chkFn Try.prog rho 108 pf_i_Coalgebra_fault = true := by kernel_rfl
theorem c_i_field_dot : chkFn Try.prog rho 118 pf_i_field_dot = true := by kernel_rfl
theorem c_i_Coalgebra_isCounit : chkFn Try.prog rho 107 pf_i_Coalgebra_isCounit = true := by kernel_rfl
theorem c_i_Coalgebra_isShaped : chkFn Try.prog rho 82 pf_i_Coalgebra_isShaped = true := by kernel_rfl
theorem c_i_IsCoalgebra : chkFn Try.prog rho 106 pf_i_IsCoalgebra = true := by kernel_rfl
theorem c_i_transposed : chkFn Try.prog rho 227 pf_i_transposed = true := by kernel_rfl
theorem c_s_l01In : chkFn Try.prog rho 96 pf_s_l01In = true := by kernel_rfl
theorem c_s_l01Prime : chkFn Try.prog rho 95 pf_s_l01Prime = true := by kernel_rfl
theorem c_s_l01Sizes : chkFn Try.prog rho 75 pf_s_l01Sizes = true := by kernel_rfl
theorem c_s_l01Vector : chkFn Try.prog rho 53 pf_s_l01Vector = true := by kernel_rfl
theorem c_s_l01Linear : chkFn Try.prog rho 64 pf_s_l01Linear = true := by kernel_rfl
theorem c_s_l01Table : chkFn Try.prog rho 63 pf_s_l01Table = true := by kernel_rfl
theorem c_s_l01Shape : chkFn Try.prog rho 62 pf_s_l01Shape = true := by kernel_rfl
theorem c_s_l01Basis : chkFn Try.prog rho 55 pf_s_l01Basis = true := by kernel_rfl
theorem c_s_l01Mod : chkFn Try.prog rho 72 pf_s_l01Mod = true := by kernel_rfl
theorem c_s_l01Add : chkFn Try.prog rho 57 pf_s_l01Add = true := by kernel_rfl
theorem c_s_l01Apply : chkFn Try.prog rho 51 pf_s_l01Apply = true := by kernel_rfl
theorem c_s_l01Times : chkFn Try.prog rho 56 pf_s_l01Times = true := by kernel_rfl
theorem c_s_l01Fault : chkFn Try.prog rho 97 pf_s_l01Fault = true := by kernel_rfl
theorem c_s_l01Is : chkFn Try.prog rho 76 pf_s_l01Is = true := by kernel_rfl
theorem c_s_l02Shape : chkFn Try.prog rho 98 pf_s_l02Shape = true := by kernel_rfl
theorem c_s_l02Sums : chkFn Try.prog rho 115 pf_s_l02Sums = true := by kernel_rfl
theorem c_s_l02Fault : chkFn Try.prog rho 99 pf_s_l02Fault = true := by kernel_rfl
theorem c_s_l02Counits : chkFn Try.prog rho 100 pf_s_l02Counits = true := by kernel_rfl
theorem c_s_l02Is : chkFn Try.prog rho 77 pf_s_l02Is = true := by kernel_rfl
theorem c_i_Algebra_opposite : chkQF Try.prog rho 438 qf_i_Algebra_opposite = true := by kernel_rfl
theorem c_i_Coalgebra_has_1 : chkQF Try.prog rho 433 qf_i_Coalgebra_has_1 = true := by kernel_rfl
theorem c_x_IndexFunc_V2 : chkQF Try.prog rho 91 qf_x_IndexFunc_V2 = true := by kernel_rfl
theorem c_x_ContainsFunc_V2 : chkQF Try.prog rho 70 qf_x_ContainsFunc_V2 = true := by kernel_rfl
theorem c_i_Coalgebra_has : chkQF Try.prog rho 432 qf_i_Coalgebra_has = true := by kernel_rfl
theorem c_i_Coalgebra_code : chkQF Try.prog rho 418 qf_i_Coalgebra_code = true := by kernel_rfl
theorem c_i_Coalgebra_coproduct : chkQF Try.prog rho 426 qf_i_Coalgebra_coproduct = true := by kernel_rfl
theorem c_i_dualBack : chkQF Try.prog rho 346 qf_i_dualBack = true := by kernel_rfl
theorem c_i_dualTable : chkQF Try.prog rho 347 qf_i_dualTable = true := by kernel_rfl
theorem c_i_CoproductIn : chkQF Try.prog rho 413 qf_i_CoproductIn = true := by kernel_rfl
theorem c_i_CounitIn : chkQF Try.prog rho 463 qf_i_CounitIn = true := by kernel_rfl
theorem c_i_DualAlgebra : chkQF Try.prog rho 467 qf_i_DualAlgebra = true := by kernel_rfl
theorem c_i_DualCoalgebra : chkQF Try.prog rho 465 qf_i_DualCoalgebra = true := by kernel_rfl
theorem c_i_FirstCoFault : chkQF Try.prog rho 459 qf_i_FirstCoFault = true := by kernel_rfl
theorem c_i_IsCocommutative : chkQF Try.prog rho 469 qf_i_IsCocommutative = true := by kernel_rfl
theorem c_i_IsCommutative : chkQF Try.prog rho 471 qf_i_IsCommutative = true := by kernel_rfl
theorem c_l_big : chkQF Try.prog rho 176 qf_l_big = true := by kernel_rfl
theorem c_s_l01From : chkQF Try.prog rho 186 qf_s_l01From = true := by kernel_rfl
theorem c_s_l01Next : chkQF Try.prog rho 195 qf_s_l01Next = true := by kernel_rfl
theorem c_s_l01Pick : chkQF Try.prog rho 205 qf_s_l01Pick = true := by kernel_rfl
theorem c_s_l01DrawPrime : chkQF Try.prog rho 206 qf_s_l01DrawPrime = true := by kernel_rfl
theorem c_s_l01Cyclic : chkQF Try.prog rho 196 qf_s_l01Cyclic = true := by kernel_rfl
theorem c_s_l01Powers : chkQF Try.prog rho 208 qf_s_l01Powers = true := by kernel_rfl
theorem c_s_l01Matrices : chkQF Try.prog rho 197 qf_s_l01Matrices = true := by kernel_rfl
theorem c_s_ProductAlgebra : chkQF Try.prog rho 209 qf_s_ProductAlgebra = true := by kernel_rfl
theorem c_s_l01Draw : chkQF Try.prog rho 203 qf_s_l01Draw = true := by kernel_rfl
theorem c_s_l01Bad : chkQF Try.prog rho 204 qf_s_l01Bad = true := by kernel_rfl
theorem c_s_l01Spoil : chkQF Try.prog rho 194 qf_s_l01Spoil = true := by kernel_rfl
theorem c_l_likeInts : chkQF Try.prog rho 452 qf_l_likeInts = true := by kernel_rfl
theorem c_s_l02Turned : chkQF Try.prog rho 210 qf_s_l02Turned = true := by kernel_rfl
theorem c_s_DualCoalgebra : chkQF Try.prog rho 207 qf_s_DualCoalgebra = true := by kernel_rfl
theorem c_s_l02Draw : chkQF Try.prog rho 201 qf_s_l02Draw = true := by kernel_rfl
theorem c_s_l02Bad : chkQF Try.prog rho 202 qf_s_l02Bad = true := by kernel_rfl
theorem c_s_l02Spoil : chkQF Try.prog rho 193 qf_s_l02Spoil = true := by kernel_rfl
theorem c_s_DrawIsCoalgebra : chkQF Try.prog rho 455 qf_s_DrawIsCoalgebra = true := by kernel_rfl
theorem c_s_IsCoalgebra : chkQF Try.prog rho 456 qf_s_IsCoalgebra = true := by kernel_rfl
theorem c_s_DrawFirstCoFault : chkQF Try.prog rho 457 qf_s_DrawFirstCoFault = true := by kernel_rfl
theorem c_s_FirstCoFault : chkQF Try.prog rho 458 qf_s_FirstCoFault = true := by kernel_rfl
theorem c_s_l01DrawVector : chkQF Try.prog rho 198 qf_s_l01DrawVector = true := by kernel_rfl
theorem c_s_l02Any : chkQF Try.prog rho 422 qf_s_l02Any = true := by kernel_rfl
theorem c_s_l02One : chkQF Try.prog rho 415 qf_s_l02One = true := by kernel_rfl
theorem c_s_DrawCoproductIn : chkQF Try.prog rho 460 qf_s_DrawCoproductIn = true := by kernel_rfl
theorem c_s_l02Code : chkQF Try.prog rho 416 qf_s_l02Code = true := by kernel_rfl
theorem c_s_l02Coproduct : chkQF Try.prog rho 430 qf_s_l02Coproduct = true := by kernel_rfl
theorem c_s_CoproductIn : chkQF Try.prog rho 461 qf_s_CoproductIn = true := by kernel_rfl
theorem c_s_l02Counit : chkQF Try.prog rho 429 qf_s_l02Counit = true := by kernel_rfl
theorem c_s_CounitIn : chkQF Try.prog rho 462 qf_s_CounitIn = true := by kernel_rfl
theorem c_s_DrawDualCoalgebra : chkQF Try.prog rho 464 qf_s_DrawDualCoalgebra = true := by kernel_rfl
theorem c_s_DualAlgebra : chkQF Try.prog rho 466 qf_s_DualAlgebra = true := by kernel_rfl
theorem c_s_IsCocommutative : chkQF Try.prog rho 468 qf_s_IsCocommutative = true := by kernel_rfl
theorem c_l_roll : chkQF Try.prog rho 183 qf_l_roll = true := by kernel_rfl
theorem c_l_dice_below : chkQF Try.prog rho 200 qf_l_dice_below = true := by kernel_rfl
theorem c_l_vector9 : chkQF Try.prog rho 192 qf_l_vector9 = true := by kernel_rfl
theorem c_l_plus9 : chkQF Try.prog rho 470 qf_l_plus9 = true := by kernel_rfl
theorem c_l_FnCoalgebras : chkQF Try.prog rho 474 qf_l_FnCoalgebras = true := by kernel_rfl
theorem e_i_IsPrime : E_i_IsPrime Try.prog rho := c_i_IsPrime
theorem e_i_in : E_i_in Try.prog rho := c_i_in
theorem e_i_IsVector : E_i_IsVector Try.prog rho := ⟨c_i_IsVector, e_i_IsPrime, e_i_in⟩
theorem e_i_isLinear : E_i_isLinear Try.prog rho := ⟨c_i_isLinear, e_i_IsVector⟩
theorem e_i_isTable : E_i_isTable Try.prog rho := ⟨c_i_isTable, e_i_isLinear⟩
theorem e_i_Algebra_isShaped : E_i_Algebra_isShaped Try.prog rho := ⟨c_i_Algebra_isShaped, e_i_IsVector, e_i_isTable⟩
theorem e_i_basis : E_i_basis Try.prog rho := c_i_basis
theorem e_i_Algebra_field : E_i_Algebra_field Try.prog rho := c_i_Algebra_field
theorem e_i_field_mod : E_i_field_mod Try.prog rho := c_i_field_mod
theorem e_i_field_plus : E_i_field_plus Try.prog rho := ⟨c_i_field_plus, e_i_field_mod⟩
theorem e_i_Algebra_product : E_i_Algebra_product Try.prog rho := ⟨c_i_Algebra_product, e_i_Algebra_field, e_i_field_plus⟩
theorem e_i_Algebra_fault : E_i_Algebra_fault Try.prog rho := ⟨c_i_Algebra_fault, e_i_basis, e_i_Algebra_product⟩
theorem e_i_IsAlgebra : E_i_IsAlgebra Try.prog rho := ⟨c_i_IsAlgebra, e_i_Algebra_isShaped, e_i_basis, e_i_Algebra_product, e_i_Algebra_fault⟩
theorem e_x_IndexFunc_V : E_x_IndexFunc_V Try.prog rho := c_x_IndexFunc_V
theorem e_x_ContainsFunc_V : E_x_ContainsFunc_V Try.prog rho := ⟨c_x_ContainsFunc_V, e_x_IndexFunc_V⟩
theorem e_i_Algebra_has : E_i_Algebra_has Try.prog rho := ⟨c_i_Algebra_has, e_x_ContainsFunc_V⟩
theorem e_i_unless : E_i_unless Try.prog rho := c_i_unless
theorem e_i_Algebra_code : E_i_Algebra_code Try.prog rho := ⟨c_i_Algebra_code, e_i_IsAlgebra, e_i_Algebra_has, e_i_unless⟩
theorem e_i_Coalgebra_field : E_i_Coalgebra_field Try.prog rho := c_i_Coalgebra_field
theorem e_i_Coalgebra_isFault : E_i_Coalgebra_isFault Try.prog rho := ⟨c_i_Coalgebra_isFault, e_i_Coalgebra_field⟩
theorem e_i_Coalgebra_fault : E_i_Coalgebra_fault Try.prog rho := ⟨c_i_Coalgebra_fault, e_i_Coalgebra_isFault⟩
theorem e_i_field_dot : E_i_field_dot Try.prog rho := c_i_field_dot
theorem e_i_Coalgebra_isCounit : E_i_Coalgebra_isCounit Try.prog rho := ⟨c_i_Coalgebra_isCounit, e_i_Coalgebra_field, e_i_field_plus, e_i_field_dot, e_i_basis⟩
theorem e_i_Coalgebra_isShaped : E_i_Coalgebra_isShaped Try.prog rho := ⟨c_i_Coalgebra_isShaped, e_i_IsVector, e_i_isTable⟩
theorem e_i_IsCoalgebra : E_i_IsCoalgebra Try.prog rho := ⟨c_i_IsCoalgebra, e_i_Coalgebra_isShaped, e_i_Coalgebra_isCounit, e_i_Coalgebra_fault⟩
theorem e_i_transposed : E_i_transposed Try.prog rho := c_i_transposed
theorem e_s_l01In : E_s_l01In Try.prog rho := c_s_l01In
theorem e_s_l01Prime : E_s_l01Prime Try.prog rho := ⟨c_s_l01Prime, e_s_l01In⟩
theorem e_s_l01Sizes : E_s_l01Sizes Try.prog rho := ⟨c_s_l01Sizes, e_s_l01Prime, e_s_l01In⟩
theorem e_s_l01Vector : E_s_l01Vector Try.prog rho := c_s_l01Vector
theorem e_s_l01Linear : E_s_l01Linear Try.prog rho := ⟨c_s_l01Linear, e_s_l01Vector⟩
theorem e_s_l01Table : E_s_l01Table Try.prog rho := ⟨c_s_l01Table, e_s_l01Linear⟩
theorem e_s_l01Shape : E_s_l01Shape Try.prog rho := ⟨c_s_l01Shape, e_s_l01Sizes, e_s_l01Vector, e_s_l01Table⟩
theorem e_s_l01Basis : E_s_l01Basis Try.prog rho := c_s_l01Basis
theorem e_s_l01Mod : E_s_l01Mod Try.prog rho := c_s_l01Mod
theorem e_s_l01Add : E_s_l01Add Try.prog rho := ⟨c_s_l01Add, e_s_l01Mod⟩
theorem e_s_l01Apply : E_s_l01Apply Try.prog rho := ⟨c_s_l01Apply, e_s_l01Add⟩
theorem e_s_l01Times : E_s_l01Times Try.prog rho := ⟨c_s_l01Times, e_s_l01Apply, e_s_l01Add⟩
theorem e_s_l01Fault : E_s_l01Fault Try.prog rho := ⟨c_s_l01Fault, e_s_l01Basis, e_s_l01Times⟩
theorem e_s_l01Is : E_s_l01Is Try.prog rho := ⟨c_s_l01Is, e_s_l01Shape, e_s_l01Basis, e_s_l01Times, e_s_l01Fault⟩
theorem e_s_l02Shape : E_s_l02Shape Try.prog rho := ⟨c_s_l02Shape, e_s_l01Sizes, e_s_l01Vector, e_s_l01Table⟩
theorem e_s_l02Sums : E_s_l02Sums Try.prog rho := ⟨c_s_l02Sums, e_s_l01Mod⟩
theorem e_s_l02Fault : E_s_l02Fault Try.prog rho := ⟨c_s_l02Fault, e_s_l02Sums⟩
theorem e_s_l02Counits : E_s_l02Counits Try.prog rho := ⟨c_s_l02Counits, e_s_l01Add, e_s_l01Mod, e_s_l01Basis⟩
theorem e_s_l02Is : E_s_l02Is Try.prog rho := ⟨c_s_l02Is, e_s_l02Shape, e_s_l02Fault, e_s_l02Counits⟩
theorem e_i_Algebra_opposite : F_i_Algebra_opposite Try.prog rho := c_i_Algebra_opposite
theorem e_i_Coalgebra_has_1 : F_i_Coalgebra_has_1 Try.prog rho := ⟨c_i_Coalgebra_has_1, e_i_IsVector⟩
theorem e_x_IndexFunc_V2 : F_x_IndexFunc_V2 Try.prog rho := c_x_IndexFunc_V2
theorem e_x_ContainsFunc_V2 : F_x_ContainsFunc_V2 Try.prog rho := ⟨c_x_ContainsFunc_V2, e_x_IndexFunc_V2⟩
theorem e_i_Coalgebra_has : F_i_Coalgebra_has Try.prog rho := ⟨c_i_Coalgebra_has, e_i_Coalgebra_has_1, e_x_ContainsFunc_V2⟩
theorem e_i_Coalgebra_code : F_i_Coalgebra_code Try.prog rho := ⟨c_i_Coalgebra_code, e_i_IsCoalgebra, e_i_Coalgebra_has, e_i_unless⟩
theorem e_i_Coalgebra_coproduct : F_i_Coalgebra_coproduct Try.prog rho := ⟨c_i_Coalgebra_coproduct, e_i_Coalgebra_field, e_i_field_plus⟩
theorem e_i_dualBack : F_i_dualBack Try.prog rho := c_i_dualBack
theorem e_i_dualTable : F_i_dualTable Try.prog rho := c_i_dualTable
theorem e_i_CoproductIn : F_i_CoproductIn Try.prog rho := ⟨c_i_CoproductIn, e_i_Coalgebra_code, e_i_Coalgebra_coproduct⟩
theorem e_i_CounitIn : F_i_CounitIn Try.prog rho := ⟨c_i_CounitIn, e_i_Coalgebra_code, e_i_Coalgebra_field, e_i_field_dot⟩
theorem e_i_DualAlgebra : F_i_DualAlgebra Try.prog rho := ⟨c_i_DualAlgebra, e_i_Coalgebra_code, e_i_dualBack⟩
theorem e_i_DualCoalgebra : F_i_DualCoalgebra Try.prog rho := ⟨c_i_DualCoalgebra, e_i_Algebra_code, e_i_dualTable⟩
theorem e_i_FirstCoFault : F_i_FirstCoFault Try.prog rho := ⟨c_i_FirstCoFault, e_i_Coalgebra_isShaped, e_i_Coalgebra_fault, e_i_unless⟩
theorem e_i_IsCocommutative : F_i_IsCocommutative Try.prog rho := ⟨c_i_IsCocommutative, e_i_Coalgebra_code, e_i_transposed⟩
theorem e_i_IsCommutative : F_i_IsCommutative Try.prog rho := ⟨c_i_IsCommutative, e_i_Algebra_code, e_i_Algebra_opposite⟩
theorem e_l_big : F_l_big Try.prog rho := c_l_big
theorem e_s_l01From : F_s_l01From Try.prog rho := c_s_l01From
theorem e_s_l01Next : F_s_l01Next Try.prog rho := c_s_l01Next
theorem e_s_l01Pick : F_s_l01Pick Try.prog rho := ⟨c_s_l01Pick, e_s_l01Next⟩
theorem e_s_l01DrawPrime : F_s_l01DrawPrime Try.prog rho := ⟨c_s_l01DrawPrime, e_s_l01Pick⟩
theorem e_s_l01Cyclic : F_s_l01Cyclic Try.prog rho := c_s_l01Cyclic
theorem e_s_l01Powers : F_s_l01Powers Try.prog rho := c_s_l01Powers
theorem e_s_l01Matrices : F_s_l01Matrices Try.prog rho := c_s_l01Matrices
theorem e_s_ProductAlgebra : F_s_ProductAlgebra Try.prog rho := ⟨c_s_ProductAlgebra, e_s_l01Is⟩
theorem e_s_l01Draw : F_s_l01Draw Try.prog rho := ⟨c_s_l01Draw, e_s_l01DrawPrime, e_s_l01Next, e_s_l01Cyclic, e_s_l01Powers, e_s_l01Matrices, e_s_ProductAlgebra⟩
theorem e_s_l01Bad : F_s_l01Bad Try.prog rho := ⟨c_s_l01Bad, e_s_l01Next, e_s_l01Pick⟩
theorem e_s_l01Spoil : F_s_l01Spoil Try.prog rho := ⟨c_s_l01Spoil, e_s_l01Draw, e_s_l01Bad⟩
theorem e_l_likeInts : F_l_likeInts Try.prog rho := c_l_likeInts
theorem e_s_l02Turned : F_s_l02Turned Try.prog rho := c_s_l02Turned
theorem e_s_DualCoalgebra : F_s_DualCoalgebra Try.prog rho := ⟨c_s_DualCoalgebra, e_s_l01Is, e_s_l02Turned⟩
theorem e_s_l02Draw : F_s_l02Draw Try.prog rho := ⟨c_s_l02Draw, e_s_l01Next, e_s_l01DrawPrime, e_s_l01Draw, e_s_DualCoalgebra⟩
theorem e_s_l02Bad : F_s_l02Bad Try.prog rho := ⟨c_s_l02Bad, e_s_l01Next, e_s_l01Pick⟩
theorem e_s_l02Spoil : F_s_l02Spoil Try.prog rho := ⟨c_s_l02Spoil, e_s_l02Draw, e_s_l02Bad⟩
theorem e_s_DrawIsCoalgebra : F_s_DrawIsCoalgebra Try.prog rho := ⟨c_s_DrawIsCoalgebra, e_s_l01From, e_s_l02Spoil⟩
theorem e_s_IsCoalgebra : F_s_IsCoalgebra Try.prog rho := ⟨c_s_IsCoalgebra, e_s_l02Is⟩
theorem e_s_DrawFirstCoFault : F_s_DrawFirstCoFault Try.prog rho := ⟨c_s_DrawFirstCoFault, e_s_l01From, e_s_l02Spoil, e_s_l01Next, e_s_l02Is⟩
theorem e_s_FirstCoFault : F_s_FirstCoFault Try.prog rho := ⟨c_s_FirstCoFault, e_s_l02Shape, e_s_l02Fault⟩
theorem e_s_l01DrawVector : F_s_l01DrawVector Try.prog rho := ⟨c_s_l01DrawVector, e_s_l01Next⟩
theorem e_s_l02Any : F_s_l02Any Try.prog rho := ⟨c_s_l02Any, e_s_l01DrawVector, e_s_l01Next, e_s_l01Pick⟩
theorem e_s_l02One : F_s_l02One Try.prog rho := ⟨c_s_l02One, e_s_l01From, e_s_l02Spoil, e_s_l01Next, e_s_l01In, e_s_l01Basis, e_s_l02Any⟩
theorem e_s_DrawCoproductIn : F_s_DrawCoproductIn Try.prog rho := ⟨c_s_DrawCoproductIn, e_s_l02One⟩
theorem e_s_l02Code : F_s_l02Code Try.prog rho := ⟨c_s_l02Code, e_s_l02Is, e_s_l01Vector⟩
theorem e_s_l02Coproduct : F_s_l02Coproduct Try.prog rho := ⟨c_s_l02Coproduct, e_s_l01Add⟩
theorem e_s_CoproductIn : F_s_CoproductIn Try.prog rho := ⟨c_s_CoproductIn, e_s_l02Code, e_s_l02Coproduct⟩
theorem e_s_l02Counit : F_s_l02Counit Try.prog rho := c_s_l02Counit
theorem e_s_CounitIn : F_s_CounitIn Try.prog rho := ⟨c_s_CounitIn, e_s_l02Code, e_s_l02Counit⟩
theorem e_s_DrawDualCoalgebra : F_s_DrawDualCoalgebra Try.prog rho := ⟨c_s_DrawDualCoalgebra, e_s_l01From, e_s_l01Spoil⟩
theorem e_s_DualAlgebra : F_s_DualAlgebra Try.prog rho := ⟨c_s_DualAlgebra, e_s_l02Is, e_s_l02Turned⟩
theorem e_s_IsCocommutative : F_s_IsCocommutative Try.prog rho := ⟨c_s_IsCocommutative, e_s_l02Is⟩
theorem e_l_roll : F_l_roll Try.prog rho := c_l_roll
theorem e_l_dice_below : F_l_dice_below Try.prog rho := c_l_dice_below
theorem e_l_vector9 : F_l_vector9 Try.prog rho := ⟨c_l_vector9, e_l_dice_below⟩
theorem e_l_plus9 : F_l_plus9 Try.prog rho := c_l_plus9
theorem e_l_FnCoalgebras : F_l_FnCoalgebras Try.prog rho := ⟨c_l_FnCoalgebras, e_l_big, e_s_DrawIsCoalgebra, e_i_IsCoalgebra, e_s_IsCoalgebra, e_s_DrawFirstCoFault, e_s_FirstCoFault, e_i_FirstCoFault, e_l_likeInts, e_s_DrawCoproductIn, e_s_CoproductIn, e_i_CoproductIn, e_s_CounitIn, e_i_CounitIn, e_s_DrawDualCoalgebra, e_s_DualCoalgebra, e_i_DualCoalgebra, e_s_DualAlgebra, e_i_DualAlgebra, e_s_IsCocommutative, e_i_IsCocommutative, e_i_IsCommutative, e_i_IsAlgebra, e_l_roll, e_l_vector9, e_l_plus9⟩
end Hf
