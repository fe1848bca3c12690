/- The seat's functions are those of the small languages: each asked by the kernel. Written by gen2.py. -/
import Derived.Test.YtkkjaohppodccaaC2
import Derived.Test.YtkkjaohppodccaaProg
import Derived.KernelRfl
set_option linter.unusedVariables false
set_option linter.unusedSimpArgs false
namespace Hf
open Go Go.Proofs

def rhoL : List Nat := [3, 3, 3, 3, 3, 3, 3, 3, 3, 3, 3, 3, 3, 3, 3, 3, 3, 3, 3, 3, 3, 3, 3, 3, 3, 3, 3, 3, 3, 3, 3, 3, 3, 3, 3, 3, 3, 3, 3, 3, 3, 3, 3, 3, 3, 3, 3, 3, 3, 40, 3, 57, 3, 55, 3, 53, 35, 22, 3, 3, 3, 62, 52, 71, 80, 3, 3, 3, 3, 3, 3, 20, 42, 3, 41, 70, 33, 32, 3, 3, 3, 61, 58, 38, 3, 3, 3, 3, 3, 3, 3, 3, 64, 77, 78, 28, 48, 54, 49, 50, 51, 56, 73, 37, 21, 63, 36, 59, 60, 3, 3, 3, 3, 3, 23, 72, 19, 74, 75, 76, 3, 3, 3, 3, 3, 3, 3, 3, 3, 3, 3, 3, 3, 3, 3, 3, 3, 3, 3, 39, 3, 3, 3, 3, 3, 3, 3, 3, 3, 3, 3, 3, 3, 3, 3, 3, 3, 3, 3, 3, 3, 3, 3, 3, 3, 3, 3, 3, 3, 3, 3, 3, 3, 3, 3, 3, 4, 5, 6, 7, 8, 9, 10, 12, 11, 3, 13, 14, 15, 16, 17, 18, 24, 25, 26, 27, 29, 30, 31, 34, 43, 45, 44, 47, 46, 65, 66, 67, 68, 69, 79]
def rho (k : Nat) : FuncId := rhoL.getD k 3
theorem rho_all : (rhoL.all (fnOk Try.prog) && fnOk Try.prog 3) = true := by kernel_rfl
theorem rho_fn : ∀ f, fnOk Try.prog (rho f) = true := by
  intro f
  have h := rho_all
  rw [Bool.and_eq_true, List.all_eq_true] at h
  unfold rho
  rw [List.getD_eq_getElem?_getD]
  cases e : rhoL[f]? with
  | none => exact h.2
  | some x => exact h.1 x (List.mem_of_getElem? e)
theorem rho_mo : Try.prog.follows .mixedOrders = true := by kernel_rfl
theorem c_i_IsPrime : chkFn Try.prog rho 93 pf_i_IsPrime = true := by kernel_rfl
theorem c_i_in : chkFn Try.prog rho 94 pf_i_in = true := by kernel_rfl
theorem c_i_IsVector : chkFn Try.prog rho 92 pf_i_IsVector = true := by kernel_rfl
theorem c_i_isLinear : chkFn Try.prog rho 83 pf_i_isLinear = true := by kernel_rfl
theorem c_i_isTable : chkFn Try.prog rho 102 pf_i_isTable = true := by kernel_rfl
theorem c_i_Algebra_isShaped : chkFn Try.prog rho 81 pf_i_Algebra_isShaped = true := by kernel_rfl
theorem c_i_basis : chkFn Try.prog rho 61 pf_i_basis = true := by kernel_rfl
theorem c_i_Algebra_field : chkFn Try.prog rho 116 pf_i_Algebra_field = true := by kernel_rfl
theorem c_i_field_mod : chkFn Try.prog rho 74 pf_i_field_mod = true := by kernel_rfl
theorem c_i_field_plus : chkFn Try.prog rho 71 pf_i_field_plus = true := by kernel_rfl
theorem c_i_Algebra_product : chkFn Try.prog rho 104 pf_i_Algebra_product = true := by kernel_rfl
theorem c_i_Algebra_fault : chkFn Try.prog rho 105 pf_i_Algebra_fault = true := by kernel_rfl
theorem c_i_IsAlgebra : chkFn Try.prog rho 103 pf_i_IsAlgebra = true := by kernel_rfl
theorem c_i_unless : chkFn Try.prog rho 49 pf_i_unless = true := by kernel_rfl
theorem c_i_Coalgebra_field : chkFn Try.prog rho 117 pf_i_Coalgebra_field = true := by kernel_rfl
theorem c_i_Coalgebra_isFault : chkFn Try.prog rho 119 pf_i_Coalgebra_isFault = true := by kernel_rfl
theorem c_i_Coalgebra_fault : chkFn Try.prog rho 108 pf_i_Coalgebra_fault = true := by kernel_rfl
theorem c_i_field_dot : chkFn Try.prog rho 118 pf_i_field_dot = true := by kernel_rfl
theorem c_i_Coalgebra_isCounit : chkFn Try.prog rho 107 pf_i_Coalgebra_isCounit = true := by kernel_rfl
theorem c_i_Coalgebra_isShaped : chkFn Try.prog rho 82 pf_i_Coalgebra_isShaped = true := by kernel_rfl
theorem c_i_field_times : chkFn Try.prog rho 114 pf_i_field_times = true := by kernel_rfl
theorem c_i_IsCoalgebra : chkFn Try.prog rho 106 pf_i_IsCoalgebra = true := by kernel_rfl
theorem c_i_first : chkFn Try.prog rho 139 pf_i_first = true := by kernel_rfl
theorem c_s_l01In : chkFn Try.prog rho 96 pf_s_l01In = true := by kernel_rfl
theorem c_s_l01Prime : chkFn Try.prog rho 95 pf_s_l01Prime = true := by kernel_rfl
theorem c_s_l01Sizes : chkFn Try.prog rho 75 pf_s_l01Sizes = true := by kernel_rfl
theorem c_s_l01Vector : chkFn Try.prog rho 53 pf_s_l01Vector = true := by kernel_rfl
theorem c_s_l01Linear : chkFn Try.prog rho 64 pf_s_l01Linear = true := by kernel_rfl
theorem c_s_l01Table : chkFn Try.prog rho 63 pf_s_l01Table = true := by kernel_rfl
theorem c_s_l01Shape : chkFn Try.prog rho 62 pf_s_l01Shape = true := by kernel_rfl
theorem c_s_l01Basis : chkFn Try.prog rho 55 pf_s_l01Basis = true := by kernel_rfl
theorem c_s_l01Mod : chkFn Try.prog rho 72 pf_s_l01Mod = true := by kernel_rfl
theorem c_s_l01Add : chkFn Try.prog rho 57 pf_s_l01Add = true := by kernel_rfl
theorem c_s_l01Apply : chkFn Try.prog rho 51 pf_s_l01Apply = true := by kernel_rfl
theorem c_s_l01Times : chkFn Try.prog rho 56 pf_s_l01Times = true := by kernel_rfl
theorem c_s_l01Fault : chkFn Try.prog rho 97 pf_s_l01Fault = true := by kernel_rfl
theorem c_s_l01Is : chkFn Try.prog rho 76 pf_s_l01Is = true := by kernel_rfl
theorem c_s_l02Shape : chkFn Try.prog rho 98 pf_s_l02Shape = true := by kernel_rfl
theorem c_s_l02Sums : chkFn Try.prog rho 115 pf_s_l02Sums = true := by kernel_rfl
theorem c_s_l02Fault : chkFn Try.prog rho 99 pf_s_l02Fault = true := by kernel_rfl
theorem c_s_l02Counits : chkFn Try.prog rho 100 pf_s_l02Counits = true := by kernel_rfl
theorem c_s_l02Is : chkFn Try.prog rho 77 pf_s_l02Is = true := by kernel_rfl
theorem c_s_l01Zero : chkFn Try.prog rho 101 pf_s_l01Zero = true := by kernel_rfl
theorem c_i_mapsCode : chkQF Try.prog rho 191 qf_i_mapsCode = true := by kernel_rfl
theorem c_i_ConvolveMaps : chkQF Try.prog rho 179 qf_i_ConvolveMaps = true := by kernel_rfl
theorem c_i_UnitMap : chkQF Try.prog rho 182 qf_i_UnitMap = true := by kernel_rfl
theorem c_l_big : chkQF Try.prog rho 176 qf_l_big = true := by kernel_rfl
theorem c_s_l01From : chkQF Try.prog rho 186 qf_s_l01From = true := by kernel_rfl
theorem c_s_l01Next : chkQF Try.prog rho 195 qf_s_l01Next = true := by kernel_rfl
theorem c_s_l01Pick : chkQF Try.prog rho 205 qf_s_l01Pick = true := by kernel_rfl
theorem c_s_l01DrawPrime : chkQF Try.prog rho 206 qf_s_l01DrawPrime = true := by kernel_rfl
theorem c_s_l01Cyclic : chkQF Try.prog rho 196 qf_s_l01Cyclic = true := by kernel_rfl
theorem c_s_l01Powers : chkQF Try.prog rho 208 qf_s_l01Powers = true := by kernel_rfl
theorem c_s_l01Matrices : chkQF Try.prog rho 197 qf_s_l01Matrices = true := by kernel_rfl
theorem c_s_ProductAlgebra : chkQF Try.prog rho 209 qf_s_ProductAlgebra = true := by kernel_rfl
theorem c_s_l01Draw : chkQF Try.prog rho 203 qf_s_l01Draw = true := by kernel_rfl
theorem c_s_l01Bad : chkQF Try.prog rho 204 qf_s_l01Bad = true := by kernel_rfl
theorem c_s_l01Spoil : chkQF Try.prog rho 194 qf_s_l01Spoil = true := by kernel_rfl
theorem c_s_l02Turned : chkQF Try.prog rho 210 qf_s_l02Turned = true := by kernel_rfl
theorem c_s_DualCoalgebra : chkQF Try.prog rho 207 qf_s_DualCoalgebra = true := by kernel_rfl
theorem c_s_l02Draw : chkQF Try.prog rho 201 qf_s_l02Draw = true := by kernel_rfl
theorem c_s_l02Bad : chkQF Try.prog rho 202 qf_s_l02Bad = true := by kernel_rfl
theorem c_s_l02Spoil : chkQF Try.prog rho 193 qf_s_l02Spoil = true := by kernel_rfl
theorem c_s_l01DrawVector : chkQF Try.prog rho 198 qf_s_l01DrawVector = true := by kernel_rfl
theorem c_l_roll : chkQF Try.prog rho 183 qf_l_roll = true := by kernel_rfl
theorem c_l_dice_below : chkQF Try.prog rho 200 qf_l_dice_below = true := by kernel_rfl
theorem c_l_vector9 : chkQF Try.prog rho 192 qf_l_vector9 = true := by kernel_rfl
theorem c_s_l02Pair : chkQF Try.prog rho 187 qf_s_l02Pair = true := by kernel_rfl
theorem c_s_l02DrawMap : chkQF Try.prog rho 188 qf_s_l02DrawMap = true := by kernel_rfl
theorem c_s_DrawConvolveMaps : chkQF Try.prog rho 177 qf_s_DrawConvolveMaps = true := by kernel_rfl
theorem c_s_l02Map : chkQF Try.prog rho 199 qf_s_l02Map = true := by kernel_rfl
theorem c_s_l02Maps : chkQF Try.prog rho 189 qf_s_l02Maps = true := by kernel_rfl
theorem c_s_l02Convolve : chkQF Try.prog rho 190 qf_s_l02Convolve = true := by kernel_rfl
theorem c_s_ConvolveMaps : chkQF Try.prog rho 178 qf_s_ConvolveMaps = true := by kernel_rfl
theorem c_s_DrawUnitMap : chkQF Try.prog rho 180 qf_s_DrawUnitMap = true := by kernel_rfl
theorem c_s_UnitMap : chkQF Try.prog rho 181 qf_s_UnitMap = true := by kernel_rfl
theorem c_l_linear9 : chkQF Try.prog rho 184 qf_l_linear9 = true := by kernel_rfl
theorem c_l_FnConvolutionMaps : chkQF Try.prog rho 185 qf_l_FnConvolutionMaps = true := by kernel_rfl
theorem e_i_IsPrime : E_i_IsPrime Try.prog rho := c_i_IsPrime
theorem e_i_in : E_i_in Try.prog rho := c_i_in
theorem e_i_IsVector : E_i_IsVector Try.prog rho := ⟨c_i_IsVector, e_i_IsPrime, e_i_in⟩
theorem e_i_isLinear : E_i_isLinear Try.prog rho := ⟨c_i_isLinear, e_i_IsVector⟩
theorem e_i_isTable : E_i_isTable Try.prog rho := ⟨c_i_isTable, e_i_isLinear⟩
theorem e_i_Algebra_isShaped : E_i_Algebra_isShaped Try.prog rho := ⟨c_i_Algebra_isShaped, e_i_IsVector, e_i_isTable⟩
theorem e_i_basis : E_i_basis Try.prog rho := c_i_basis
theorem e_i_Algebra_field : E_i_Algebra_field Try.prog rho := c_i_Algebra_field
theorem e_i_field_mod : E_i_field_mod Try.prog rho := c_i_field_mod
theorem e_i_field_plus : E_i_field_plus Try.prog rho := ⟨c_i_field_plus, e_i_field_mod⟩
theorem e_i_Algebra_product : E_i_Algebra_product Try.prog rho := ⟨c_i_Algebra_product, e_i_Algebra_field, e_i_field_plus⟩
theorem e_i_Algebra_fault : E_i_Algebra_fault Try.prog rho := ⟨c_i_Algebra_fault, e_i_basis, e_i_Algebra_product⟩
theorem e_i_IsAlgebra : E_i_IsAlgebra Try.prog rho := ⟨c_i_IsAlgebra, e_i_Algebra_isShaped, e_i_basis, e_i_Algebra_product, e_i_Algebra_fault⟩
theorem e_i_unless : E_i_unless Try.prog rho := c_i_unless
theorem e_i_Coalgebra_field : E_i_Coalgebra_field Try.prog rho := c_i_Coalgebra_field
theorem e_i_Coalgebra_isFault : E_i_Coalgebra_isFault Try.prog rho := ⟨c_i_Coalgebra_isFault, e_i_Coalgebra_field⟩
theorem e_i_Coalgebra_fault : E_i_Coalgebra_fault Try.prog rho := ⟨c_i_Coalgebra_fault, e_i_Coalgebra_isFault⟩
theorem e_i_field_dot : E_i_field_dot Try.prog rho := c_i_field_dot
theorem e_i_Coalgebra_isCounit : E_i_Coalgebra_isCounit Try.prog rho := ⟨c_i_Coalgebra_isCounit, e_i_Coalgebra_field, e_i_field_plus, e_i_field_dot, e_i_basis⟩
theorem e_i_Coalgebra_isShaped : E_i_Coalgebra_isShaped Try.prog rho := ⟨c_i_Coalgebra_isShaped, e_i_IsVector, e_i_isTable⟩
theorem e_i_field_times : E_i_field_times Try.prog rho := ⟨c_i_field_times, e_i_field_plus⟩
theorem e_i_IsCoalgebra : E_i_IsCoalgebra Try.prog rho := ⟨c_i_IsCoalgebra, e_i_Coalgebra_isShaped, e_i_Coalgebra_isCounit, e_i_Coalgebra_fault⟩
theorem e_i_first : E_i_first Try.prog rho := c_i_first
theorem e_s_l01In : E_s_l01In Try.prog rho := c_s_l01In
theorem e_s_l01Prime : E_s_l01Prime Try.prog rho := ⟨c_s_l01Prime, e_s_l01In⟩
theorem e_s_l01Sizes : E_s_l01Sizes Try.prog rho := ⟨c_s_l01Sizes, e_s_l01Prime, e_s_l01In⟩
theorem e_s_l01Vector : E_s_l01Vector Try.prog rho := c_s_l01Vector
theorem e_s_l01Linear : E_s_l01Linear Try.prog rho := ⟨c_s_l01Linear, e_s_l01Vector⟩
theorem e_s_l01Table : E_s_l01Table Try.prog rho := ⟨c_s_l01Table, e_s_l01Linear⟩
theorem e_s_l01Shape : E_s_l01Shape Try.prog rho := ⟨c_s_l01Shape, e_s_l01Sizes, e_s_l01Vector, e_s_l01Table⟩
theorem e_s_l01Basis : E_s_l01Basis Try.prog rho := c_s_l01Basis
theorem e_s_l01Mod : E_s_l01Mod Try.prog rho := c_s_l01Mod
theorem e_s_l01Add : E_s_l01Add Try.prog rho := ⟨c_s_l01Add, e_s_l01Mod⟩
theorem e_s_l01Apply : E_s_l01Apply Try.prog rho := ⟨c_s_l01Apply, e_s_l01Add⟩
theorem e_s_l01Times : E_s_l01Times Try.prog rho := ⟨c_s_l01Times, e_s_l01Apply, e_s_l01Add⟩
theorem e_s_l01Fault : E_s_l01Fault Try.prog rho := ⟨c_s_l01Fault, e_s_l01Basis, e_s_l01Times⟩
theorem e_s_l01Is : E_s_l01Is Try.prog rho := ⟨c_s_l01Is, e_s_l01Shape, e_s_l01Basis, e_s_l01Times, e_s_l01Fault⟩
theorem e_s_l02Shape : E_s_l02Shape Try.prog rho := ⟨c_s_l02Shape, e_s_l01Sizes, e_s_l01Vector, e_s_l01Table⟩
theorem e_s_l02Sums : E_s_l02Sums Try.prog rho := ⟨c_s_l02Sums, e_s_l01Mod⟩
theorem e_s_l02Fault : E_s_l02Fault Try.prog rho := ⟨c_s_l02Fault, e_s_l02Sums⟩
theorem e_s_l02Counits : E_s_l02Counits Try.prog rho := ⟨c_s_l02Counits, e_s_l01Add, e_s_l01Mod, e_s_l01Basis⟩
theorem e_s_l02Is : E_s_l02Is Try.prog rho := ⟨c_s_l02Is, e_s_l02Shape, e_s_l02Fault, e_s_l02Counits⟩
theorem e_s_l01Zero : E_s_l01Zero Try.prog rho := c_s_l01Zero
theorem e_i_mapsCode : F_i_mapsCode Try.prog rho := ⟨c_i_mapsCode, e_i_IsCoalgebra, e_i_IsAlgebra, e_i_isLinear, e_i_unless, e_i_first⟩
theorem e_i_ConvolveMaps : F_i_ConvolveMaps Try.prog rho := ⟨c_i_ConvolveMaps, e_i_mapsCode, e_i_Algebra_field, e_i_Algebra_product, e_i_field_plus⟩
theorem e_i_UnitMap : F_i_UnitMap Try.prog rho := ⟨c_i_UnitMap, e_i_mapsCode, e_i_Algebra_field, e_i_field_times⟩
theorem e_l_big : F_l_big Try.prog rho := c_l_big
theorem e_s_l01From : F_s_l01From Try.prog rho := c_s_l01From
theorem e_s_l01Next : F_s_l01Next Try.prog rho := c_s_l01Next
theorem e_s_l01Pick : F_s_l01Pick Try.prog rho := ⟨c_s_l01Pick, e_s_l01Next⟩
theorem e_s_l01DrawPrime : F_s_l01DrawPrime Try.prog rho := ⟨c_s_l01DrawPrime, e_s_l01Pick⟩
theorem e_s_l01Cyclic : F_s_l01Cyclic Try.prog rho := c_s_l01Cyclic
theorem e_s_l01Powers : F_s_l01Powers Try.prog rho := c_s_l01Powers
theorem e_s_l01Matrices : F_s_l01Matrices Try.prog rho := c_s_l01Matrices
theorem e_s_ProductAlgebra : F_s_ProductAlgebra Try.prog rho := ⟨c_s_ProductAlgebra, e_s_l01Is⟩
theorem e_s_l01Draw : F_s_l01Draw Try.prog rho := ⟨c_s_l01Draw, e_s_l01DrawPrime, e_s_l01Next, e_s_l01Cyclic, e_s_l01Powers, e_s_l01Matrices, e_s_ProductAlgebra⟩
theorem e_s_l01Bad : F_s_l01Bad Try.prog rho := ⟨c_s_l01Bad, e_s_l01Next, e_s_l01Pick⟩
theorem e_s_l01Spoil : F_s_l01Spoil Try.prog rho := ⟨c_s_l01Spoil, e_s_l01Draw, e_s_l01Bad⟩
theorem e_s_l02Turned : F_s_l02Turned Try.prog rho := c_s_l02Turned
theorem e_s_DualCoalgebra : F_s_DualCoalgebra Try.prog rho := ⟨c_s_DualCoalgebra, e_s_l01Is, e_s_l02Turned⟩
theorem e_s_l02Draw : F_s_l02Draw Try.prog rho := ⟨c_s_l02Draw, e_s_l01Next, e_s_l01DrawPrime, e_s_l01Draw, e_s_DualCoalgebra⟩
theorem e_s_l02Bad : F_s_l02Bad Try.prog rho := ⟨c_s_l02Bad, e_s_l01Next, e_s_l01Pick⟩
theorem e_s_l02Spoil : F_s_l02Spoil Try.prog rho := ⟨c_s_l02Spoil, e_s_l02Draw, e_s_l02Bad⟩
theorem e_s_l01DrawVector : F_s_l01DrawVector Try.prog rho := ⟨c_s_l01DrawVector, e_s_l01Next⟩
theorem e_l_roll : F_l_roll Try.prog rho := c_l_roll
theorem e_l_dice_below : F_l_dice_below Try.prog rho := c_l_dice_below
theorem e_l_vector9 : F_l_vector9 Try.prog rho := ⟨c_l_vector9, e_l_dice_below⟩
theorem e_s_l02Pair : F_s_l02Pair Try.prog rho := ⟨c_s_l02Pair, e_s_l02Spoil, e_s_l01Spoil, e_s_l01Next, e_s_l01Prime, e_s_l01Cyclic, e_s_l01Matrices⟩
theorem e_s_l02DrawMap : F_s_l02DrawMap Try.prog rho := ⟨c_s_l02DrawMap, e_s_l01DrawVector, e_s_l01Next⟩
theorem e_s_DrawConvolveMaps : F_s_DrawConvolveMaps Try.prog rho := ⟨c_s_DrawConvolveMaps, e_s_l01From, e_s_l02Pair, e_s_l02DrawMap⟩
theorem e_s_l02Map : F_s_l02Map Try.prog rho := ⟨c_s_l02Map, e_s_l01Vector, e_s_l01Zero⟩
theorem e_s_l02Maps : F_s_l02Maps Try.prog rho := ⟨c_s_l02Maps, e_s_l02Is, e_s_l01Is, e_s_l02Map⟩
theorem e_s_l02Convolve : F_s_l02Convolve Try.prog rho := ⟨c_s_l02Convolve, e_s_l01Times, e_s_l01Add⟩
theorem e_s_ConvolveMaps : F_s_ConvolveMaps Try.prog rho := ⟨c_s_ConvolveMaps, e_s_l02Maps, e_s_l02Convolve⟩
theorem e_s_DrawUnitMap : F_s_DrawUnitMap Try.prog rho := ⟨c_s_DrawUnitMap, e_s_l01From, e_s_l02Pair⟩
theorem e_s_UnitMap : F_s_UnitMap Try.prog rho := ⟨c_s_UnitMap, e_s_l02Maps, e_s_l01Add⟩
theorem e_l_linear9 : F_l_linear9 Try.prog rho := ⟨c_l_linear9, e_l_vector9⟩
theorem e_l_FnConvolutionMaps : F_l_FnConvolutionMaps Try.prog rho := ⟨c_l_FnConvolutionMaps, e_l_big, e_s_DrawConvolveMaps, e_s_ConvolveMaps, e_i_ConvolveMaps, e_s_DrawUnitMap, e_s_UnitMap, e_i_UnitMap, e_l_roll, e_l_linear9⟩
end Hf
