/- The seat's functions are those of the small languages: each asked by the kernel. Written by gen2.py. -/
import Derived.Test.YtkkjaohppodccabGreatC3
import Derived.Test.YtkkjaohppodccabGreatProg
import Derived.KernelRfl
set_option linter.unusedVariables false
set_option linter.unusedSimpArgs false
namespace Hf
open Go Go.Proofs

def rhoL : List Nat := [3, 3, 3, 3, 3, 3, 3, 3, 3, 3, 3, 3, 3, 3, 3, 3, 3, 3, 3, 3, 3, 3, 3, 3, 3, 3, 3, 3, 3, 3, 3, 3, 3, 3, 3, 3, 3, 3, 3, 3, 3, 3, 3, 3, 3, 3, 3, 3, 3, 38, 3, 127, 3, 54, 3, 53, 125, 86, 3, 3, 3, 106, 124, 96, 118, 3, 3, 3, 3, 3, 49, 76, 69, 3, 99, 95, 111, 30, 3, 3, 3, 3, 87, 123, 3, 3, 3, 3, 3, 3, 3, 83, 51, 84, 85, 117, 52, 126, 64, 65, 66, 78, 109, 3, 3, 3, 58, 88, 89, 3, 61, 3, 3, 3, 91, 97, 3, 33, 60, 110, 3, 3, 3, 3, 3, 3, 3, 3, 3, 3, 3, 3, 3, 3, 3, 3, 3, 3, 3, 37, 3, 3, 3, 3, 3, 3, 3, 3, 3, 3, 3, 3, 3, 3, 3, 3, 3, 3, 3, 3, 3, 3, 3, 3, 3, 3, 3, 3, 3, 3, 3, 3, 3, 3, 3, 3, 4, 3, 3, 3, 3, 3, 3, 3, 3, 3, 29, 3, 3, 3, 3, 3, 3, 28, 3, 34, 113, 115, 67, 3, 3, 63, 62, 94, 3, 68, 92, 93, 114, 116, 112, 3, 3, 3, 3, 3, 3, 3, 3, 3, 3, 3, 3, 3, 3, 3, 3, 43, 3, 3, 3, 3, 3, 3, 3, 3, 3, 3, 3, 3, 3, 3, 3, 3, 3, 3, 3, 3, 3, 3, 3, 3, 3, 3, 3, 3, 3, 3, 3, 3, 48, 3, 3, 3, 3, 39, 75, 44, 3, 3, 46, 71, 79, 98, 107, 3, 101, 100, 105, 119, 102, 103, 104, 120, 70, 82, 72, 73, 74, 77, 3, 3, 3, 3, 3, 3, 3, 3, 3, 3, 3, 3, 3, 3, 3, 3, 3, 3, 3, 3, 3, 3, 3, 3, 3, 3, 108, 3, 3, 121, 122, 3, 3, 3, 3, 3, 3, 3, 3, 3, 3, 3, 3, 3, 3, 3, 3, 3, 3, 3, 3, 3, 3, 3, 3, 3, 3, 3, 3, 3, 3, 3, 3, 3, 3, 3, 3, 3, 3, 3, 3, 3, 3, 3, 3, 3, 3, 3, 3, 3, 3, 3, 3, 3, 3, 3, 3, 3, 47, 81, 80, 3, 3, 3, 3, 3, 3, 3, 3, 3, 3, 3, 3, 3, 3, 3, 5, 6, 7, 8, 9, 10, 11, 12, 13, 14, 15, 16, 17, 18, 19, 20, 21, 22, 3, 23, 24, 25, 26, 27, 31, 32, 35, 36, 40, 41, 42, 45, 50, 55, 56, 57, 59, 90]
def rho (k : Nat) : FuncId := rhoL.getD k 3
theorem rho_all : (rhoL.all (fnOk Tryz.prog) && fnOk Tryz.prog 3) = true := by kernel_rfl
theorem rho_fn : ∀ f, fnOk Tryz.prog (rho f) = true := by
  intro f
  have h := rho_all
  rw [Bool.and_eq_true, List.all_eq_true] at h
  unfold rho
  rw [List.getD_eq_getElem?_getD]
  cases e : rhoL[f]? with
  | none => exact h.2
  | some x => exact h.1 x (List.mem_of_getElem? e)
theorem rho_mo : Tryz.prog.follows .mixedOrders = true := by kernel_rfl
theorem c_i_IsPrime : chkFn Tryz.prog rho 93 pf_i_IsPrime = true := by kernel_rfl
theorem c_i_in : chkFn Tryz.prog rho 94 pf_i_in = true := by kernel_rfl
theorem c_i_IsVector : chkFn Tryz.prog rho 92 pf_i_IsVector = true := by kernel_rfl
theorem c_i_isLinear : chkFn Tryz.prog rho 83 pf_i_isLinear = true := by kernel_rfl
theorem c_i_isTable : chkFn Tryz.prog rho 102 pf_i_isTable = true := by kernel_rfl
theorem c_i_basis : chkFn Tryz.prog rho 61 pf_i_basis = true := by kernel_rfl
theorem c_i_field_mod : chkFn Tryz.prog rho 74 pf_i_field_mod = true := by kernel_rfl
theorem c_i_field_plus : chkFn Tryz.prog rho 71 pf_i_field_plus = true := by kernel_rfl
theorem c_i_unless : chkFn Tryz.prog rho 49 pf_i_unless = true := by kernel_rfl
theorem c_i_Coalgebra_field : chkFn Tryz.prog rho 117 pf_i_Coalgebra_field = true := by kernel_rfl
theorem c_i_Coalgebra_isFault : chkFn Tryz.prog rho 119 pf_i_Coalgebra_isFault = true := by kernel_rfl
theorem c_i_Coalgebra_fault : chkFn Tryz.prog rho 108 pf_i_Coalgebra_fault = true := by kernel_rfl
theorem c_i_field_dot : chkFn Tryz.prog rho 118 pf_i_field_dot = true := by kernel_rfl
theorem c_i_Coalgebra_isCounit : chkFn Tryz.prog rho 107 pf_i_Coalgebra_isCounit = true := by kernel_rfl
theorem c_i_Coalgebra_isShaped : chkFn Tryz.prog rho 82 pf_i_Coalgebra_isShaped = true := by kernel_rfl
theorem c_i_field_times : chkFn Tryz.prog rho 114 pf_i_field_times = true := by kernel_rfl
theorem c_i_field_pair : chkFn Tryz.prog rho 110 pf_i_field_pair = true := by kernel_rfl
theorem c_i_IsCoalgebra : chkFn Tryz.prog rho 106 pf_i_IsCoalgebra = true := by kernel_rfl
theorem c_i_first : chkFn Tryz.prog rho 139 pf_i_first = true := by kernel_rfl
theorem c_i_transposed : chkFn Tryz.prog rho 227 pf_i_transposed = true := by kernel_rfl
theorem c_s_l01In : chkFn Tryz.prog rho 96 pf_s_l01In = true := by kernel_rfl
theorem c_s_l01Prime : chkFn Tryz.prog rho 95 pf_s_l01Prime = true := by kernel_rfl
theorem c_s_l01Sizes : chkFn Tryz.prog rho 75 pf_s_l01Sizes = true := by kernel_rfl
theorem c_s_l01Vector : chkFn Tryz.prog rho 53 pf_s_l01Vector = true := by kernel_rfl
theorem c_s_l01Linear : chkFn Tryz.prog rho 64 pf_s_l01Linear = true := by kernel_rfl
theorem c_s_l01Table : chkFn Tryz.prog rho 63 pf_s_l01Table = true := by kernel_rfl
theorem c_s_l01Shape : chkFn Tryz.prog rho 62 pf_s_l01Shape = true := by kernel_rfl
theorem c_s_l01Basis : chkFn Tryz.prog rho 55 pf_s_l01Basis = true := by kernel_rfl
theorem c_s_l01Mod : chkFn Tryz.prog rho 72 pf_s_l01Mod = true := by kernel_rfl
theorem c_s_l01Add : chkFn Tryz.prog rho 57 pf_s_l01Add = true := by kernel_rfl
theorem c_s_l01Apply : chkFn Tryz.prog rho 51 pf_s_l01Apply = true := by kernel_rfl
theorem c_s_l01Times : chkFn Tryz.prog rho 56 pf_s_l01Times = true := by kernel_rfl
theorem c_s_l01Fault : chkFn Tryz.prog rho 97 pf_s_l01Fault = true := by kernel_rfl
theorem c_s_l01Is : chkFn Tryz.prog rho 76 pf_s_l01Is = true := by kernel_rfl
theorem c_s_l02Shape : chkFn Tryz.prog rho 98 pf_s_l02Shape = true := by kernel_rfl
theorem c_s_l02Sums : chkFn Tryz.prog rho 115 pf_s_l02Sums = true := by kernel_rfl
theorem c_s_l02Fault : chkFn Tryz.prog rho 99 pf_s_l02Fault = true := by kernel_rfl
theorem c_s_l02Counits : chkFn Tryz.prog rho 100 pf_s_l02Counits = true := by kernel_rfl
theorem c_s_l02Is : chkFn Tryz.prog rho 77 pf_s_l02Is = true := by kernel_rfl
theorem c_s_l01Zero : chkFn Tryz.prog rho 101 pf_s_l01Zero = true := by kernel_rfl
theorem c_i_newSystem : chkQF Tryz.prog rho 271 qf_i_newSystem = true := by kernel_rfl
theorem c_i_system_add : chkQF Tryz.prog rho 286 qf_i_system_add = true := by kernel_rfl
theorem c_i_system_solve_1 : chkQF Tryz.prog rho 276 qf_i_system_solve_1 = true := by kernel_rfl
theorem c_x_IndexFunc_R : chkQF Tryz.prog rho 277 qf_x_IndexFunc_R = true := by kernel_rfl
theorem c_i_field_inverse : chkQF Tryz.prog rho 279 qf_i_field_inverse = true := by kernel_rfl
theorem c_i_system_clear : chkQF Tryz.prog rho 280 qf_i_system_clear = true := by kernel_rfl
theorem c_i_system_solve_2 : chkQF Tryz.prog rho 282 qf_i_system_solve_2 = true := by kernel_rfl
theorem c_x_ContainsFunc_R : chkQF Tryz.prog rho 281 qf_x_ContainsFunc_R = true := by kernel_rfl
theorem c_i_system_solve : chkQF Tryz.prog rho 287 qf_i_system_solve = true := by kernel_rfl
theorem c_x_Index_I : chkQF Tryz.prog rho 283 qf_x_Index_I = true := by kernel_rfl
theorem c_x_Contains_I : chkQF Tryz.prog rho 278 qf_x_Contains_I = true := by kernel_rfl
theorem c_x_Clone_B : chkQF Tryz.prog rho 289 qf_x_Clone_B = true := by kernel_rfl
theorem c_i_reduced : chkQF Tryz.prog rho 267 qf_i_reduced = true := by kernel_rfl
theorem c_i_system_spaces : chkQF Tryz.prog rho 288 qf_i_system_spaces = true := by kernel_rfl
theorem c_i_kernel : chkQF Tryz.prog rho 265 qf_i_kernel = true := by kernel_rfl
theorem c_i_Coalgebra_has_1 : chkQF Tryz.prog rho 433 qf_i_Coalgebra_has_1 = true := by kernel_rfl
theorem c_x_IndexFunc_V2 : chkQF Tryz.prog rho 91 qf_x_IndexFunc_V2 = true := by kernel_rfl
theorem c_x_ContainsFunc_V2 : chkQF Tryz.prog rho 70 qf_x_ContainsFunc_V2 = true := by kernel_rfl
theorem c_i_Coalgebra_has : chkQF Tryz.prog rho 432 qf_i_Coalgebra_has = true := by kernel_rfl
theorem c_i_Coalgebra_code : chkQF Tryz.prog rho 418 qf_i_Coalgebra_code = true := by kernel_rfl
theorem c_i_Coalgebra_coproduct : chkQF Tryz.prog rho 426 qf_i_Coalgebra_coproduct = true := by kernel_rfl
theorem c_i_Coalgebra_isGroupLike : chkQF Tryz.prog rho 419 qf_i_Coalgebra_isGroupLike = true := by kernel_rfl
theorem c_i_CoproductIn : chkQF Tryz.prog rho 413 qf_i_CoproductIn = true := by kernel_rfl
theorem c_i_GroupLikes : chkQF Tryz.prog rho 401 qf_i_GroupLikes = true := by kernel_rfl
theorem c_x_IndexFunc_B : chkQF Tryz.prog rho 319 qf_x_IndexFunc_B = true := by kernel_rfl
theorem c_i_lead_1 : chkQF Tryz.prog rho 320 qf_i_lead_1 = true := by kernel_rfl
theorem c_i_lead : chkQF Tryz.prog rho 316 qf_i_lead = true := by kernel_rfl
theorem c_i_IsGroupLike : chkQF Tryz.prog rho 398 qf_i_IsGroupLike = true := by kernel_rfl
theorem c_x_Clone_V : chkQF Tryz.prog rho 285 qf_x_Clone_V = true := by kernel_rfl
theorem c_i_legs : chkQF Tryz.prog rho 260 qf_i_legs = true := by kernel_rfl
theorem c_i_field_rest : chkQF Tryz.prog rho 379 qf_i_field_rest = true := by kernel_rfl
theorem c_i_within_1 : chkQF Tryz.prog rho 380 qf_i_within_1 = true := by kernel_rfl
theorem c_i_within : chkQF Tryz.prog rho 378 qf_i_within = true := by kernel_rfl
theorem c_i_IsSubcoalgebra : chkQF Tryz.prog rho 411 qf_i_IsSubcoalgebra = true := by kernel_rfl
theorem c_i_LeastSubcoalgebra : chkQF Tryz.prog rho 408 qf_i_LeastSubcoalgebra = true := by kernel_rfl
theorem c_i_PrimitiveSpace_1 : chkQF Tryz.prog rho 424 qf_i_PrimitiveSpace_1 = true := by kernel_rfl
theorem c_i_PrimitiveSpace : chkQF Tryz.prog rho 405 qf_i_PrimitiveSpace = true := by kernel_rfl
theorem c_i_ReduceVectors_1 : chkQF Tryz.prog rho 428 qf_i_ReduceVectors_1 = true := by kernel_rfl
theorem c_i_ReduceVectors : chkQF Tryz.prog rho 412 qf_i_ReduceVectors = true := by kernel_rfl
theorem c_l_big : chkQF Tryz.prog rho 176 qf_l_big = true := by kernel_rfl
theorem c_s_l01From : chkQF Tryz.prog rho 186 qf_s_l01From = true := by kernel_rfl
theorem c_s_l01Next : chkQF Tryz.prog rho 195 qf_s_l01Next = true := by kernel_rfl
theorem c_s_l01Pick : chkQF Tryz.prog rho 205 qf_s_l01Pick = true := by kernel_rfl
theorem c_s_l01DrawPrime : chkQF Tryz.prog rho 206 qf_s_l01DrawPrime = true := by kernel_rfl
theorem c_s_l01Cyclic : chkQF Tryz.prog rho 196 qf_s_l01Cyclic = true := by kernel_rfl
theorem c_s_l01Powers : chkQF Tryz.prog rho 208 qf_s_l01Powers = true := by kernel_rfl
theorem c_s_l01Matrices : chkQF Tryz.prog rho 197 qf_s_l01Matrices = true := by kernel_rfl
theorem c_s_ProductAlgebra : chkQF Tryz.prog rho 209 qf_s_ProductAlgebra = true := by kernel_rfl
theorem c_s_l01Draw : chkQF Tryz.prog rho 203 qf_s_l01Draw = true := by kernel_rfl
theorem c_s_l01First : chkQF Tryz.prog rho 273 qf_s_l01First = true := by kernel_rfl
theorem c_s_l01Inverse : chkQF Tryz.prog rho 274 qf_s_l01Inverse = true := by kernel_rfl
theorem c_s_l01By : chkQF Tryz.prog rho 272 qf_s_l01By = true := by kernel_rfl
theorem c_s_l01Put : chkQF Tryz.prog rho 266 qf_s_l01Put = true := by kernel_rfl
theorem c_s_l01Reduce : chkQF Tryz.prog rho 270 qf_s_l01Reduce = true := by kernel_rfl
theorem c_s_l02Turned : chkQF Tryz.prog rho 210 qf_s_l02Turned = true := by kernel_rfl
theorem c_s_DualCoalgebra : chkQF Tryz.prog rho 207 qf_s_DualCoalgebra = true := by kernel_rfl
theorem c_s_l02Draw : chkQF Tryz.prog rho 201 qf_s_l02Draw = true := by kernel_rfl
theorem c_s_l02Bad : chkQF Tryz.prog rho 202 qf_s_l02Bad = true := by kernel_rfl
theorem c_s_l02Spoil : chkQF Tryz.prog rho 193 qf_s_l02Spoil = true := by kernel_rfl
theorem c_s_l01DrawVector : chkQF Tryz.prog rho 198 qf_s_l01DrawVector = true := by kernel_rfl
theorem c_s_l02Any : chkQF Tryz.prog rho 422 qf_s_l02Any = true := by kernel_rfl
theorem c_s_l02One : chkQF Tryz.prog rho 415 qf_s_l02One = true := by kernel_rfl
theorem c_s_l02Code : chkQF Tryz.prog rho 416 qf_s_l02Code = true := by kernel_rfl
theorem c_s_l02Coproduct : chkQF Tryz.prog rho 430 qf_s_l02Coproduct = true := by kernel_rfl
theorem c_s_l02Counit : chkQF Tryz.prog rho 429 qf_s_l02Counit = true := by kernel_rfl
theorem c_s_l02Null : chkQF Tryz.prog rho 284 qf_s_l02Null = true := by kernel_rfl
theorem c_s_DrawIsGroupLike : chkQF Tryz.prog rho 396 qf_s_DrawIsGroupLike = true := by kernel_rfl
theorem c_s_l02Outer : chkQF Tryz.prog rho 431 qf_s_l02Outer = true := by kernel_rfl
theorem c_s_l02Group : chkQF Tryz.prog rho 417 qf_s_l02Group = true := by kernel_rfl
theorem c_s_IsGroupLike : chkQF Tryz.prog rho 397 qf_s_IsGroupLike = true := by kernel_rfl
theorem c_s_DrawGroupLikes : chkQF Tryz.prog rho 399 qf_s_DrawGroupLikes = true := by kernel_rfl
theorem c_s_l02Count : chkQF Tryz.prog rho 420 qf_s_l02Count = true := by kernel_rfl
theorem c_s_l02Groups : chkQF Tryz.prog rho 421 qf_s_l02Groups = true := by kernel_rfl
theorem c_s_GroupLikes : chkQF Tryz.prog rho 400 qf_s_GroupLikes = true := by kernel_rfl
theorem c_l_vectors9 : chkQF Tryz.prog rho 402 qf_l_vectors9 = true := by kernel_rfl
theorem c_s_DrawPrimitiveSpace : chkQF Tryz.prog rho 403 qf_s_DrawPrimitiveSpace = true := by kernel_rfl
theorem c_s_l02Primitive : chkQF Tryz.prog rho 423 qf_s_l02Primitive = true := by kernel_rfl
theorem c_s_PrimitiveSpace : chkQF Tryz.prog rho 404 qf_s_PrimitiveSpace = true := by kernel_rfl
theorem c_s_DrawLeastSubcoalgebra : chkQF Tryz.prog rho 406 qf_s_DrawLeastSubcoalgebra = true := by kernel_rfl
theorem c_s_l02Sub : chkQF Tryz.prog rho 425 qf_s_l02Sub = true := by kernel_rfl
theorem c_s_LeastSubcoalgebra : chkQF Tryz.prog rho 407 qf_s_LeastSubcoalgebra = true := by kernel_rfl
theorem c_s_DrawIsSubcoalgebra : chkQF Tryz.prog rho 409 qf_s_DrawIsSubcoalgebra = true := by kernel_rfl
theorem c_s_l02Closed : chkQF Tryz.prog rho 427 qf_s_l02Closed = true := by kernel_rfl
theorem c_s_IsSubcoalgebra : chkQF Tryz.prog rho 410 qf_s_IsSubcoalgebra = true := by kernel_rfl
theorem c_l_FnGroupLikes : chkQF Tryz.prog rho 414 qf_l_FnGroupLikes = true := by kernel_rfl
theorem e_i_IsPrime : E_i_IsPrime Tryz.prog rho := c_i_IsPrime
theorem e_i_in : E_i_in Tryz.prog rho := c_i_in
theorem e_i_IsVector : E_i_IsVector Tryz.prog rho := ⟨c_i_IsVector, e_i_IsPrime, e_i_in⟩
theorem e_i_isLinear : E_i_isLinear Tryz.prog rho := ⟨c_i_isLinear, e_i_IsVector⟩
theorem e_i_isTable : E_i_isTable Tryz.prog rho := ⟨c_i_isTable, e_i_isLinear⟩
theorem e_i_basis : E_i_basis Tryz.prog rho := c_i_basis
theorem e_i_field_mod : E_i_field_mod Tryz.prog rho := c_i_field_mod
theorem e_i_field_plus : E_i_field_plus Tryz.prog rho := ⟨c_i_field_plus, e_i_field_mod⟩
theorem e_i_unless : E_i_unless Tryz.prog rho := c_i_unless
theorem e_i_Coalgebra_field : E_i_Coalgebra_field Tryz.prog rho := c_i_Coalgebra_field
theorem e_i_Coalgebra_isFault : E_i_Coalgebra_isFault Tryz.prog rho := ⟨c_i_Coalgebra_isFault, e_i_Coalgebra_field⟩
theorem e_i_Coalgebra_fault : E_i_Coalgebra_fault Tryz.prog rho := ⟨c_i_Coalgebra_fault, e_i_Coalgebra_isFault⟩
theorem e_i_field_dot : E_i_field_dot Tryz.prog rho := c_i_field_dot
theorem e_i_Coalgebra_isCounit : E_i_Coalgebra_isCounit Tryz.prog rho := ⟨c_i_Coalgebra_isCounit, e_i_Coalgebra_field, e_i_field_plus, e_i_field_dot, e_i_basis⟩
theorem e_i_Coalgebra_isShaped : E_i_Coalgebra_isShaped Tryz.prog rho := ⟨c_i_Coalgebra_isShaped, e_i_IsVector, e_i_isTable⟩
theorem e_i_field_times : E_i_field_times Tryz.prog rho := ⟨c_i_field_times, e_i_field_plus⟩
theorem e_i_field_pair : E_i_field_pair Tryz.prog rho := ⟨c_i_field_pair, e_i_field_times⟩
theorem e_i_IsCoalgebra : E_i_IsCoalgebra Tryz.prog rho := ⟨c_i_IsCoalgebra, e_i_Coalgebra_isShaped, e_i_Coalgebra_isCounit, e_i_Coalgebra_fault⟩
theorem e_i_first : E_i_first Tryz.prog rho := c_i_first
theorem e_i_transposed : E_i_transposed Tryz.prog rho := c_i_transposed
theorem e_s_l01In : E_s_l01In Tryz.prog rho := c_s_l01In
theorem e_s_l01Prime : E_s_l01Prime Tryz.prog rho := ⟨c_s_l01Prime, e_s_l01In⟩
theorem e_s_l01Sizes : E_s_l01Sizes Tryz.prog rho := ⟨c_s_l01Sizes, e_s_l01Prime, e_s_l01In⟩
theorem e_s_l01Vector : E_s_l01Vector Tryz.prog rho := c_s_l01Vector
theorem e_s_l01Linear : E_s_l01Linear Tryz.prog rho := ⟨c_s_l01Linear, e_s_l01Vector⟩
theorem e_s_l01Table : E_s_l01Table Tryz.prog rho := ⟨c_s_l01Table, e_s_l01Linear⟩
theorem e_s_l01Shape : E_s_l01Shape Tryz.prog rho := ⟨c_s_l01Shape, e_s_l01Sizes, e_s_l01Vector, e_s_l01Table⟩
theorem e_s_l01Basis : E_s_l01Basis Tryz.prog rho := c_s_l01Basis
theorem e_s_l01Mod : E_s_l01Mod Tryz.prog rho := c_s_l01Mod
theorem e_s_l01Add : E_s_l01Add Tryz.prog rho := ⟨c_s_l01Add, e_s_l01Mod⟩
theorem e_s_l01Apply : E_s_l01Apply Tryz.prog rho := ⟨c_s_l01Apply, e_s_l01Add⟩
theorem e_s_l01Times : E_s_l01Times Tryz.prog rho := ⟨c_s_l01Times, e_s_l01Apply, e_s_l01Add⟩
theorem e_s_l01Fault : E_s_l01Fault Tryz.prog rho := ⟨c_s_l01Fault, e_s_l01Basis, e_s_l01Times⟩
theorem e_s_l01Is : E_s_l01Is Tryz.prog rho := ⟨c_s_l01Is, e_s_l01Shape, e_s_l01Basis, e_s_l01Times, e_s_l01Fault⟩
theorem e_s_l02Shape : E_s_l02Shape Tryz.prog rho := ⟨c_s_l02Shape, e_s_l01Sizes, e_s_l01Vector, e_s_l01Table⟩
theorem e_s_l02Sums : E_s_l02Sums Tryz.prog rho := ⟨c_s_l02Sums, e_s_l01Mod⟩
theorem e_s_l02Fault : E_s_l02Fault Tryz.prog rho := ⟨c_s_l02Fault, e_s_l02Sums⟩
theorem e_s_l02Counits : E_s_l02Counits Tryz.prog rho := ⟨c_s_l02Counits, e_s_l01Add, e_s_l01Mod, e_s_l01Basis⟩
theorem e_s_l02Is : E_s_l02Is Tryz.prog rho := ⟨c_s_l02Is, e_s_l02Shape, e_s_l02Fault, e_s_l02Counits⟩
theorem e_s_l01Zero : E_s_l01Zero Tryz.prog rho := c_s_l01Zero
theorem e_i_newSystem : F_i_newSystem Tryz.prog rho := c_i_newSystem
theorem e_i_system_add : F_i_system_add Tryz.prog rho := ⟨c_i_system_add, e_i_field_mod⟩
theorem e_i_system_solve_1 : F_i_system_solve_1 Tryz.prog rho := c_i_system_solve_1
theorem e_x_IndexFunc_R : F_x_IndexFunc_R Tryz.prog rho := c_x_IndexFunc_R
theorem e_i_field_inverse : F_i_field_inverse Tryz.prog rho := c_i_field_inverse
theorem e_i_system_clear : F_i_system_clear Tryz.prog rho := ⟨c_i_system_clear, e_i_field_inverse, e_i_field_mod⟩
theorem e_i_system_solve_2 : F_i_system_solve_2 Tryz.prog rho := c_i_system_solve_2
theorem e_x_ContainsFunc_R : F_x_ContainsFunc_R Tryz.prog rho := ⟨c_x_ContainsFunc_R, e_x_IndexFunc_R⟩
theorem e_i_system_solve : F_i_system_solve Tryz.prog rho := ⟨c_i_system_solve, e_i_system_solve_1, e_x_IndexFunc_R, e_i_system_clear, e_i_system_solve_2, e_x_ContainsFunc_R⟩
theorem e_x_Index_I : F_x_Index_I Tryz.prog rho := c_x_Index_I
theorem e_x_Contains_I : F_x_Contains_I Tryz.prog rho := ⟨c_x_Contains_I, e_x_Index_I⟩
theorem e_x_Clone_B : F_x_Clone_B Tryz.prog rho := c_x_Clone_B
theorem e_i_reduced : F_i_reduced Tryz.prog rho := ⟨c_i_reduced, e_i_newSystem, e_x_Clone_B, e_i_system_solve⟩
theorem e_i_system_spaces : F_i_system_spaces Tryz.prog rho := ⟨c_i_system_spaces, e_x_Contains_I, e_i_basis, e_i_field_mod, e_i_reduced⟩
theorem e_i_kernel : F_i_kernel Tryz.prog rho := ⟨c_i_kernel, e_i_newSystem, e_i_system_add, e_i_system_solve, e_i_system_spaces⟩
theorem e_i_Coalgebra_has_1 : F_i_Coalgebra_has_1 Tryz.prog rho := ⟨c_i_Coalgebra_has_1, e_i_IsVector⟩
theorem e_x_IndexFunc_V2 : F_x_IndexFunc_V2 Tryz.prog rho := c_x_IndexFunc_V2
theorem e_x_ContainsFunc_V2 : F_x_ContainsFunc_V2 Tryz.prog rho := ⟨c_x_ContainsFunc_V2, e_x_IndexFunc_V2⟩
theorem e_i_Coalgebra_has : F_i_Coalgebra_has Tryz.prog rho := ⟨c_i_Coalgebra_has, e_i_Coalgebra_has_1, e_x_ContainsFunc_V2⟩
theorem e_i_Coalgebra_code : F_i_Coalgebra_code Tryz.prog rho := ⟨c_i_Coalgebra_code, e_i_IsCoalgebra, e_i_Coalgebra_has, e_i_unless⟩
theorem e_i_Coalgebra_coproduct : F_i_Coalgebra_coproduct Tryz.prog rho := ⟨c_i_Coalgebra_coproduct, e_i_Coalgebra_field, e_i_field_plus⟩
theorem e_i_Coalgebra_isGroupLike : F_i_Coalgebra_isGroupLike Tryz.prog rho := ⟨c_i_Coalgebra_isGroupLike, e_i_Coalgebra_field, e_i_field_dot, e_i_Coalgebra_coproduct, e_i_field_pair⟩
theorem e_i_CoproductIn : F_i_CoproductIn Tryz.prog rho := ⟨c_i_CoproductIn, e_i_Coalgebra_code, e_i_Coalgebra_coproduct⟩
theorem e_i_GroupLikes : F_i_GroupLikes Tryz.prog rho := ⟨c_i_GroupLikes, e_i_Coalgebra_code, e_i_Coalgebra_field, e_i_Coalgebra_isGroupLike⟩
theorem e_x_IndexFunc_B : F_x_IndexFunc_B Tryz.prog rho := c_x_IndexFunc_B
theorem e_i_lead_1 : F_i_lead_1 Tryz.prog rho := c_i_lead_1
theorem e_i_lead : F_i_lead Tryz.prog rho := ⟨c_i_lead, e_x_IndexFunc_B, e_i_lead_1⟩
theorem e_i_IsGroupLike : F_i_IsGroupLike Tryz.prog rho := ⟨c_i_IsGroupLike, e_i_Coalgebra_code, e_i_Coalgebra_isGroupLike⟩
theorem e_x_Clone_V : F_x_Clone_V Tryz.prog rho := c_x_Clone_V
theorem e_i_legs : F_i_legs Tryz.prog rho := ⟨c_i_legs, e_i_transposed, e_x_Clone_V⟩
theorem e_i_field_rest : F_i_field_rest Tryz.prog rho := ⟨c_i_field_rest, e_i_lead, e_i_field_plus⟩
theorem e_i_within_1 : F_i_within_1 Tryz.prog rho := ⟨c_i_within_1, e_i_field_rest⟩
theorem e_i_within : F_i_within Tryz.prog rho := ⟨c_i_within, e_i_within_1, e_x_ContainsFunc_V2⟩
theorem e_i_IsSubcoalgebra : F_i_IsSubcoalgebra Tryz.prog rho := ⟨c_i_IsSubcoalgebra, e_i_Coalgebra_code, e_i_reduced, e_i_Coalgebra_coproduct, e_i_legs, e_i_within⟩
theorem e_i_LeastSubcoalgebra : F_i_LeastSubcoalgebra Tryz.prog rho := ⟨c_i_LeastSubcoalgebra, e_i_Coalgebra_code, e_i_Coalgebra_field, e_i_Coalgebra_coproduct, e_i_transposed, e_i_reduced⟩
theorem e_i_PrimitiveSpace_1 : F_i_PrimitiveSpace_1 Tryz.prog rho := c_i_PrimitiveSpace_1
theorem e_i_PrimitiveSpace : F_i_PrimitiveSpace Tryz.prog rho := ⟨c_i_PrimitiveSpace, e_i_Coalgebra_code, e_i_Coalgebra_isGroupLike, e_i_unless, e_i_first, e_i_Coalgebra_field, e_i_PrimitiveSpace_1, e_i_kernel⟩
theorem e_i_ReduceVectors_1 : F_i_ReduceVectors_1 Tryz.prog rho := ⟨c_i_ReduceVectors_1, e_i_IsVector⟩
theorem e_i_ReduceVectors : F_i_ReduceVectors Tryz.prog rho := ⟨c_i_ReduceVectors, e_i_ReduceVectors_1, e_x_ContainsFunc_V2, e_i_IsVector, e_i_reduced⟩
theorem e_l_big : F_l_big Tryz.prog rho := c_l_big
theorem e_s_l01From : F_s_l01From Tryz.prog rho := c_s_l01From
theorem e_s_l01Next : F_s_l01Next Tryz.prog rho := c_s_l01Next
theorem e_s_l01Pick : F_s_l01Pick Tryz.prog rho := ⟨c_s_l01Pick, e_s_l01Next⟩
theorem e_s_l01DrawPrime : F_s_l01DrawPrime Tryz.prog rho := ⟨c_s_l01DrawPrime, e_s_l01Pick⟩
theorem e_s_l01Cyclic : F_s_l01Cyclic Tryz.prog rho := c_s_l01Cyclic
theorem e_s_l01Powers : F_s_l01Powers Tryz.prog rho := c_s_l01Powers
theorem e_s_l01Matrices : F_s_l01Matrices Tryz.prog rho := c_s_l01Matrices
theorem e_s_ProductAlgebra : F_s_ProductAlgebra Tryz.prog rho := ⟨c_s_ProductAlgebra, e_s_l01Is⟩
theorem e_s_l01Draw : F_s_l01Draw Tryz.prog rho := ⟨c_s_l01Draw, e_s_l01DrawPrime, e_s_l01Next, e_s_l01Cyclic, e_s_l01Powers, e_s_l01Matrices, e_s_ProductAlgebra⟩
theorem e_s_l01First : F_s_l01First Tryz.prog rho := c_s_l01First
theorem e_s_l01Inverse : F_s_l01Inverse Tryz.prog rho := c_s_l01Inverse
theorem e_s_l01By : F_s_l01By Tryz.prog rho := ⟨c_s_l01By, e_s_l01First, e_s_l01Add⟩
theorem e_s_l01Put : F_s_l01Put Tryz.prog rho := ⟨c_s_l01Put, e_s_l01By, e_s_l01Zero, e_s_l01First, e_s_l01Inverse, e_s_l01Add⟩
theorem e_s_l01Reduce : F_s_l01Reduce Tryz.prog rho := ⟨c_s_l01Reduce, e_s_l01Put⟩
theorem e_s_l02Turned : F_s_l02Turned Tryz.prog rho := c_s_l02Turned
theorem e_s_DualCoalgebra : F_s_DualCoalgebra Tryz.prog rho := ⟨c_s_DualCoalgebra, e_s_l01Is, e_s_l02Turned⟩
theorem e_s_l02Draw : F_s_l02Draw Tryz.prog rho := ⟨c_s_l02Draw, e_s_l01Next, e_s_l01DrawPrime, e_s_l01Draw, e_s_DualCoalgebra⟩
theorem e_s_l02Bad : F_s_l02Bad Tryz.prog rho := ⟨c_s_l02Bad, e_s_l01Next, e_s_l01Pick⟩
theorem e_s_l02Spoil : F_s_l02Spoil Tryz.prog rho := ⟨c_s_l02Spoil, e_s_l02Draw, e_s_l02Bad⟩
theorem e_s_l01DrawVector : F_s_l01DrawVector Tryz.prog rho := ⟨c_s_l01DrawVector, e_s_l01Next⟩
theorem e_s_l02Any : F_s_l02Any Tryz.prog rho := ⟨c_s_l02Any, e_s_l01DrawVector, e_s_l01Next, e_s_l01Pick⟩
theorem e_s_l02One : F_s_l02One Tryz.prog rho := ⟨c_s_l02One, e_s_l01From, e_s_l02Spoil, e_s_l01Next, e_s_l01In, e_s_l01Basis, e_s_l02Any⟩
theorem e_s_l02Code : F_s_l02Code Tryz.prog rho := ⟨c_s_l02Code, e_s_l02Is, e_s_l01Vector⟩
theorem e_s_l02Coproduct : F_s_l02Coproduct Tryz.prog rho := ⟨c_s_l02Coproduct, e_s_l01Add⟩
theorem e_s_l02Counit : F_s_l02Counit Tryz.prog rho := c_s_l02Counit
theorem e_s_l02Null : F_s_l02Null Tryz.prog rho := ⟨c_s_l02Null, e_s_l01Reduce, e_s_l01First, e_s_l01Basis, e_s_l01Mod⟩
theorem e_s_DrawIsGroupLike : F_s_DrawIsGroupLike Tryz.prog rho := ⟨c_s_DrawIsGroupLike, e_s_l02One⟩
theorem e_s_l02Outer : F_s_l02Outer Tryz.prog rho := ⟨c_s_l02Outer, e_s_l01Add⟩
theorem e_s_l02Group : F_s_l02Group Tryz.prog rho := ⟨c_s_l02Group, e_s_l02Counit, e_s_l02Coproduct, e_s_l02Outer⟩
theorem e_s_IsGroupLike : F_s_IsGroupLike Tryz.prog rho := ⟨c_s_IsGroupLike, e_s_l02Code, e_s_l02Group⟩
theorem e_s_DrawGroupLikes : F_s_DrawGroupLikes Tryz.prog rho := ⟨c_s_DrawGroupLikes, e_s_l01From, e_s_l02Spoil⟩
theorem e_s_l02Count : F_s_l02Count Tryz.prog rho := c_s_l02Count
theorem e_s_l02Groups : F_s_l02Groups Tryz.prog rho := ⟨c_s_l02Groups, e_s_l02Count, e_s_l02Counit, e_s_l02Group⟩
theorem e_s_GroupLikes : F_s_GroupLikes Tryz.prog rho := ⟨c_s_GroupLikes, e_s_l02Is, e_s_l02Count, e_s_l02Groups⟩
theorem e_l_vectors9 : F_l_vectors9 Tryz.prog rho := c_l_vectors9
theorem e_s_DrawPrimitiveSpace : F_s_DrawPrimitiveSpace Tryz.prog rho := ⟨c_s_DrawPrimitiveSpace, e_s_l01From, e_s_l02Spoil, e_s_GroupLikes, e_s_l01Next, e_s_l02Any⟩
theorem e_s_l02Primitive : F_s_l02Primitive Tryz.prog rho := ⟨c_s_l02Primitive, e_s_l01Mod, e_s_l02Null⟩
theorem e_s_PrimitiveSpace : F_s_PrimitiveSpace Tryz.prog rho := ⟨c_s_PrimitiveSpace, e_s_l02Code, e_s_l02Group, e_s_l02Primitive⟩
theorem e_s_DrawLeastSubcoalgebra : F_s_DrawLeastSubcoalgebra Tryz.prog rho := ⟨c_s_DrawLeastSubcoalgebra, e_s_l02One⟩
theorem e_s_l02Sub : F_s_l02Sub Tryz.prog rho := ⟨c_s_l02Sub, e_s_l02Coproduct, e_s_l01Put⟩
theorem e_s_LeastSubcoalgebra : F_s_LeastSubcoalgebra Tryz.prog rho := ⟨c_s_LeastSubcoalgebra, e_s_l02Code, e_s_l02Sub⟩
theorem e_s_DrawIsSubcoalgebra : F_s_DrawIsSubcoalgebra Tryz.prog rho := ⟨c_s_DrawIsSubcoalgebra, e_s_l01From, e_s_l02One, e_s_l02Code, e_s_l01Next, e_s_l02Sub, e_s_l02Any⟩
theorem e_s_l02Closed : F_s_l02Closed Tryz.prog rho := ⟨c_s_l02Closed, e_s_l02Coproduct, e_s_l01By, e_s_l01Zero⟩
theorem e_s_IsSubcoalgebra : F_s_IsSubcoalgebra Tryz.prog rho := ⟨c_s_IsSubcoalgebra, e_s_l02Code, e_s_l01Reduce, e_s_l02Closed⟩
theorem e_l_FnGroupLikes : F_l_FnGroupLikes Tryz.prog rho := ⟨c_l_FnGroupLikes, e_l_big, e_s_DrawIsGroupLike, e_s_IsGroupLike, e_i_IsGroupLike, e_s_DrawGroupLikes, e_s_GroupLikes, e_i_GroupLikes, e_l_vectors9, e_s_DrawPrimitiveSpace, e_s_PrimitiveSpace, e_i_PrimitiveSpace, e_s_DrawLeastSubcoalgebra, e_s_LeastSubcoalgebra, e_i_LeastSubcoalgebra, e_s_DrawIsSubcoalgebra, e_s_IsSubcoalgebra, e_i_IsSubcoalgebra, e_i_ReduceVectors, e_i_CoproductIn⟩
end Hf
