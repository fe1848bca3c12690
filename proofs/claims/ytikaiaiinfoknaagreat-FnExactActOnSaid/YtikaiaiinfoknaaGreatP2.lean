/- Functions of the program in the second layer's small language. Written by gen2.py. -/
import Derived.Test.YtikaiaiinfoknaaGreatX
import Derived.Test.YtikaiaiinfoknaaGreatP
set_option linter.unusedVariables false
set_option linter.unusedSimpArgs false
namespace Hf
open Go
def qf_i_Module_vectorsCode_1 : QF := ⟨3, 16, [.t 4],
 (.seq (.reg [⟨(some 3), none, .o (.box (.t 0))⟩,
 ⟨(some 4), none, .o (.mov (.c (.b false)))⟩])
 (.seq (.drs [0, 1, 3, 7, 0, 16, 48, 112, 0, 511, 1023, 2047]
 [(0, false, ⟨(some 5), none, .ld1 (.t 1)⟩),
 (1, false, ⟨(some 6), none, .o (.nck (.t 5))⟩),
 (2, false, ⟨(some 7), none, .o (.add (.t 6) 0)⟩),
 (3, false, ⟨(some 8), none, .ld1 (.t 7)⟩),
 (4, false, ⟨(some 9), none, .ld1 (.t 2)⟩),
 (5, false, ⟨(some 10), none, .o (.nck (.t 9))⟩),
 (6, false, ⟨(some 11), none, .o (.add (.t 10) 0)⟩),
 (7, false, ⟨(some 12), none, .ld1 (.t 11)⟩),
 (8, false, ⟨(some 13), none, .lda (.t 3) 0 8⟩),
 (9, false, ⟨(some 14), none, .calp 92 [(.t 8), (.t 12), (.t 13)]⟩),
 (10, false, ⟨(some 15), none, .o (.nt (.t 14))⟩),
 (11, false, ⟨(some 4), none, .o (.mov (.t 15))⟩)])
 .ret))⟩
def qf_x_IndexFunc_V2 : QF := ⟨2, 19, [.t 4],
 (.seq (.reg [⟨(some 4), none, .o (.mov (.c (.i .i64 (0))))⟩])
 (.seq (.seq (.reg [⟨(some 6), none, .o (.mov (.t 0))⟩,
 ⟨(some 7), none, .len (.t 6)⟩,
 ⟨(some 8), none, .o (.mov (.c (.i .i64 (0))))⟩])
 (.blk 0
 (.loop
 (.seq (.reg [⟨(some 9), none, .o (.bin .lss (.t 8) (.t 7))⟩])
 (.seq (.cond (.t 9)
 .skip
 (.exit 0))
 (.seq (.blk 1
 (.seq (.reg [⟨(some 10), none, .o (.mov (.t 8))⟩,
 ⟨(some 5), none, .o (.mov (.t 10))⟩])
 (.seq (.reg [⟨(some 11), none, .o (.mov (.t 1))⟩,
 ⟨(some 12), none, .o (.mov (.t 0))⟩,
 ⟨(some 13), none, .o (.mov (.t 5))⟩,
 ⟨(some 14), none, .ids (.t 12) (.t 13) 8⟩,
 ⟨(some 15), none, .lda (.t 14) 0 8⟩,
 ⟨(some 16), none, .calv (.t 11) [(.t 15)]⟩])
 (.cond (.t 16)
 (.seq (.reg [⟨(some 17), none, .o (.mov (.t 5))⟩,
 ⟨(some 4), none, .o (.mov (.t 17))⟩])
 .ret)
 .skip))))
 (.reg [⟨(some 18), none, .o (.bin .add (.t 8) (.c (.i .i64 (1))))⟩,
 ⟨(some 8), none, .o (.mov (.t 18))⟩])))))))
 (.seq (.reg [⟨(some 4), none, .o (.mov (.c (.i .i64 (-1))))⟩])
 .ret)))⟩
def qf_x_ContainsFunc_V2 : QF := ⟨2, 9, [.t 4],
 (.seq (.reg [⟨(some 4), none, .o (.mov (.c (.b false)))⟩])
 (.seq (.reg [⟨(some 5), none, .o (.mov (.t 0))⟩,
 ⟨(some 6), none, .o (.mov (.t 1))⟩,
 ⟨(some 7), none, .call 91 [(.t 5), (.t 6)]⟩,
 ⟨(some 8), none, .o (.bin .geq (.t 7) (.c (.i .i64 (0))))⟩,
 ⟨(some 4), none, .o (.mov (.t 8))⟩])
 .ret))⟩
def qf_i_Module_vectorsCode : QF := ⟨3, 12, [.t 6],
 (.seq (.reg [⟨(some 3), none, .o (.box (.t 0))⟩,
 ⟨(some 4), none, .o (.box (.t 1))⟩,
 ⟨(some 6), none, .o (.mov (.c (.i .i64 (0))))⟩])
 (.seq (.reg [⟨(some 7), none, .o (.mov (.t 2))⟩,
 ⟨(some 8), none, .o (.mkf 174 [] [(.t 4), (.t 3)])⟩,
 ⟨(some 9), none, .call 70 [(.t 7), (.t 8)]⟩,
 ⟨(some 10), none, .o (.nt (.t 9))⟩,
 ⟨(some 11), none, .calp 49 [(.t 10), (.c (.i .i64 (1)))]⟩,
 ⟨(some 6), none, .o (.mov (.t 11))⟩])
 .ret))⟩
def qf_i_ActOn : QF := ⟨4, 31, [.c 8 0 8, .t 9],
 (.seq (.reg [⟨(some 4), none, .o (.box (.t 0))⟩,
 ⟨(some 5), none, .o (.box (.t 1))⟩,
 ⟨(some 6), none, .o (.box (.t 2))⟩,
 ⟨(some 7), none, .o (.box (.t 3))⟩,
 ⟨(some 8), none, .o (.alo (.by 0 8))⟩,
 ⟨(some 9), none, .o (.mov (.c (.i .i64 (0))))⟩])
 (.seq (.seq (.drt [0, 1, 0, 4, 15, 0, 32, 127, 255, 511, 1023]
 [(2, true, ⟨(some 14), none, .lda (.t 6) 0 8⟩),
 (5, true, ⟨(some 17), none, .lda (.t 7) 0 8⟩)]
 [(0, false, ⟨(some 12), none, .o (.bsa [(.t 5)])⟩),
 (1, false, ⟨(some 13), none, .call 164 [(.t 4), (.t 12)]⟩),
 (3, false, ⟨(some 15), none, .o (.bsb 8 [(.t 14)])⟩),
 (4, false, ⟨(some 16), none, .call 27 [(.t 4), (.t 15)]⟩),
 (6, false, ⟨(some 18), none, .o (.bsb 8 [(.t 17)])⟩),
 (7, true, ⟨(some 19), none, .call 175 [(.t 5), (.t 4), (.t 18)]⟩),
 (8, true, ⟨(some 20), none, .o (.bsa [(.t 13), (.t 16), (.t 19)])⟩),
 (9, true, ⟨(some 21), none, .call 139 [(.t 20)]⟩),
 (10, false, ⟨(some 10), none, .o (.mov (.t 21))⟩)])
 (.seq (.reg [⟨(some 22), none, .o (.mov (.t 10))⟩,
 ⟨(some 23), none, .o (.bin .neq (.t 22) (.c (.i .i64 (0))))⟩])
 (.cond (.t 23)
 (.seq (.reg [⟨(some 24), none, .o (.bld 0 8 [])⟩,
 ⟨(some 25), none, .o (.mov (.t 10))⟩,
 ⟨none, none, .sta (.t 8) (.t 24) 8⟩,
 ⟨(some 9), none, .o (.mov (.t 25))⟩])
 .ret)
 .skip)))
 (.seq (.reg [⟨(some 26), none, .lda (.t 6) 0 8⟩,
 ⟨(some 27), none, .call 153 [(.t 5), (.t 4), (.t 26)]⟩,
 ⟨(some 11), none, .o (.alo (.by 0 64))⟩,
 ⟨none, none, .sta (.t 11) (.t 27) 64⟩])
 (.seq (.drs [0, 0, 3, 7, 15]
 [(1, true, ⟨(some 29), none, .lda (.t 7) 0 8⟩),
 (0, false, ⟨(some 28), none, .call 151 [(.t 5), (.t 4)]⟩),
 (2, true, ⟨(some 30), none, .call 52 [(.t 28), (.t 11), (.t 29)]⟩),
 (3, true, ⟨none, none, .sta (.t 8) (.t 30) 8⟩),
 (4, false, ⟨(some 9), none, .o (.mov (.c (.i .i64 (0))))⟩)])
 .ret))))⟩
def qf_s_ActOn : QF := ⟨4, 41, [.c 8 0 8, .t 9],
 (.seq (.reg [⟨(some 4), none, .o (.box (.t 0))⟩,
 ⟨(some 5), none, .o (.box (.t 1))⟩,
 ⟨(some 6), none, .o (.box (.t 2))⟩,
 ⟨(some 7), none, .o (.box (.t 3))⟩,
 ⟨(some 8), none, .o (.alo (.by 0 8))⟩,
 ⟨(some 9), none, .o (.mov (.c (.i .i64 (0))))⟩])
 (.seq (.reg [⟨(some 11), none, .lda (.t 4) 2 1106⟩,
 ⟨(some 12), none, .lda (.t 5) 1 513⟩,
 ⟨(some 13), none, .o (.bsh 1 513 [(.t 12)])⟩,
 ⟨(some 14), none, .call 162 [(.t 11), (.t 13)]⟩,
 ⟨(some 10), none, .o (.mov (.t 14))⟩])
 (.seq (.seq (.reg [⟨(some 15), none, .o (.mov (.t 10))⟩,
 ⟨(some 16), none, .o (.bin .neq (.t 15) (.c (.i .i64 (0))))⟩,
 ⟨(some 17), none, .o (.mov (.t 16))⟩,
 ⟨(some 18), (some (17, false)), .o (.add (.t 4) 0)⟩,
 ⟨(some 19), (some (17, false)), .ld1 (.t 18)⟩,
 ⟨(some 20), (some (17, false)), .o (.add (.t 4) 1)⟩,
 ⟨(some 21), (some (17, false)), .ld1 (.t 20)⟩,
 ⟨(some 22), (some (17, false)), .lda (.t 6) 0 8⟩,
 ⟨(some 23), (some (17, false)), .calp 53 [(.t 19), (.t 21), (.t 22)]⟩,
 ⟨(some 24), (some (17, false)), .o (.nt (.t 23))⟩,
 ⟨(some 25), none, .o (.pick (.t 17) (.c (.b true)) (.t 24))⟩,
 ⟨(some 26), none, .o (.mov (.t 25))⟩,
 ⟨(some 27), (some (26, false)), .o (.add (.t 4) 0)⟩,
 ⟨(some 28), (some (26, false)), .ld1 (.t 27)⟩,
 ⟨(some 29), (some (26, false)), .o (.add (.t 5) 0)⟩,
 ⟨(some 30), (some (26, false)), .ld1 (.t 29)⟩,
 ⟨(some 31), (some (26, false)), .lda (.t 7) 0 8⟩,
 ⟨(some 32), (some (26, false)), .calp 53 [(.t 28), (.t 30), (.t 31)]⟩,
 ⟨(some 33), (some (26, false)), .o (.nt (.t 32))⟩,
 ⟨(some 34), none, .o (.pick (.t 26) (.c (.b true)) (.t 33))⟩])
 (.cond (.t 34)
 (.seq (.reg [⟨(some 35), none, .o (.bld 0 8 [])⟩,
 ⟨none, none, .sta (.t 8) (.t 35) 8⟩,
 ⟨(some 9), none, .o (.mov (.c (.i .i64 (1))))⟩])
 .ret)
 .skip))
 (.seq (.reg [⟨(some 36), none, .lda (.t 4) 2 1106⟩,
 ⟨(some 37), none, .lda (.t 5) 1 513⟩,
 ⟨(some 38), none, .lda (.t 6) 0 8⟩,
 ⟨(some 39), none, .lda (.t 7) 0 8⟩,
 ⟨(some 40), none, .calp 150 [(.t 36), (.t 37), (.t 38), (.t 39)]⟩,
 ⟨none, none, .sta (.t 8) (.t 40) 8⟩,
 ⟨(some 9), none, .o (.mov (.c (.i .i64 (0))))⟩])
 .ret))))⟩
def qf_l_FnExactActOn : QF := ⟨4, 46, [.t 8],
 (.seq (.reg [⟨(some 4), none, .o (.box (.t 0))⟩,
 ⟨(some 5), none, .o (.box (.t 1))⟩,
 ⟨(some 6), none, .o (.box (.t 2))⟩,
 ⟨(some 7), none, .o (.box (.t 3))⟩,
 ⟨(some 8), none, .o (.mov (.c (.b false)))⟩])
 (.seq (.drs [0, 1, 0, 7, 0, 31, 0, 127, 255, 511, 1023, 1023, 0, 6143, 16383]
 [(0, true, ⟨(some 14), none, .lda (.t 4) 2 1106⟩),
 (1, false, ⟨(some 15), none, .calp 0 [(.t 14)]⟩),
 (2, true, ⟨(some 16), none, .lda (.t 5) 1 513⟩),
 (3, false, ⟨(some 17), none, .calp 133 [(.t 16)]⟩),
 (4, true, ⟨(some 18), none, .lda (.t 6) 0 8⟩),
 (5, false, ⟨(some 19), none, .calp 16 [(.t 18)]⟩),
 (6, true, ⟨(some 20), none, .lda (.t 7) 0 8⟩),
 (7, false, ⟨(some 21), none, .calp 16 [(.t 20)]⟩),
 (8, false, ⟨(some 22), none, .calp 168 [(.t 15), (.t 17), (.t 19), (.t 21)]⟩),
 (9, false, ⟨(some 13), none, .o (.mov (.t 22))⟩),
 (10, false, ⟨(some 23), none, .o (.ext (.t 13) 0)⟩),
 (11, false, ⟨(some 24), none, .o (.ext (.t 13) 1)⟩),
 (12, false, ⟨(some 9), none, .o (.alo (.by 0 8))⟩),
 (13, true, ⟨none, none, .sta (.t 9) (.t 23) 8⟩),
 (14, false, ⟨(some 10), none, .o (.mov (.t 24))⟩)])
 (.seq (.drs [0, 1, 0, 7, 0, 31, 0, 127, 255, 511, 1023, 1023, 0, 6143, 16383]
 [(0, true, ⟨(some 26), none, .lda (.t 4) 2 1106⟩),
 (1, false, ⟨(some 27), none, .calp 0 [(.t 26)]⟩),
 (2, true, ⟨(some 28), none, .lda (.t 5) 1 513⟩),
 (3, false, ⟨(some 29), none, .calp 133 [(.t 28)]⟩),
 (4, true, ⟨(some 30), none, .lda (.t 6) 0 8⟩),
 (5, false, ⟨(some 31), none, .calp 16 [(.t 30)]⟩),
 (6, true, ⟨(some 32), none, .lda (.t 7) 0 8⟩),
 (7, false, ⟨(some 33), none, .calp 16 [(.t 32)]⟩),
 (8, false, ⟨(some 34), none, .calp 169 [(.t 27), (.t 29), (.t 31), (.t 33)]⟩),
 (9, false, ⟨(some 25), none, .o (.mov (.t 34))⟩),
 (10, false, ⟨(some 35), none, .o (.ext (.t 25) 0)⟩),
 (11, false, ⟨(some 36), none, .o (.ext (.t 25) 1)⟩),
 (12, false, ⟨(some 11), none, .o (.alo (.by 0 8))⟩),
 (13, true, ⟨none, none, .sta (.t 11) (.t 35) 8⟩),
 (14, false, ⟨(some 12), none, .o (.mov (.t 36))⟩)])
 (.seq (.seq (.reg [⟨(some 37), none, .lda (.t 11) 0 8⟩,
 ⟨(some 38), none, .lda (.t 9) 0 8⟩,
 ⟨(some 39), none, .calp 19 [(.t 37), (.t 38)]⟩,
 ⟨(some 40), none, .o (.nt (.t 39))⟩,
 ⟨(some 41), none, .o (.mov (.t 40))⟩,
 ⟨(some 42), (some (41, false)), .o (.mov (.t 12))⟩,
 ⟨(some 43), (some (41, false)), .o (.mov (.t 10))⟩,
 ⟨(some 44), (some (41, false)), .o (.bin .neq (.t 42) (.t 43))⟩,
 ⟨(some 45), none, .o (.pick (.t 41) (.c (.b true)) (.t 44))⟩])
 (.cond (.t 45)
 (.seq (.reg [⟨(some 8), none, .o (.mov (.c (.b false)))⟩])
 .ret)
 .skip))
 (.seq (.reg [⟨(some 8), none, .o (.mov (.c (.b true)))⟩])
 .ret)))))⟩
def F_i_Module_vectorsCode_1 (P : Program) (ρ : Nat → FuncId) : Prop := chkQF P ρ 174 qf_i_Module_vectorsCode_1 = true ∧ E_i_IsVector P ρ
def F_x_IndexFunc_V2 (P : Program) (ρ : Nat → FuncId) : Prop := chkQF P ρ 91 qf_x_IndexFunc_V2 = true
def F_x_ContainsFunc_V2 (P : Program) (ρ : Nat → FuncId) : Prop := chkQF P ρ 70 qf_x_ContainsFunc_V2 = true ∧ F_x_IndexFunc_V2 P ρ
def F_i_Module_vectorsCode (P : Program) (ρ : Nat → FuncId) : Prop := chkQF P ρ 175 qf_i_Module_vectorsCode = true ∧ F_i_Module_vectorsCode_1 P ρ ∧ F_x_ContainsFunc_V2 P ρ ∧ E_i_unless P ρ
def F_i_ActOn (P : Program) (ρ : Nat → FuncId) : Prop := chkQF P ρ 169 qf_i_ActOn = true ∧ E_i_modulesCode P ρ ∧ E_i_Hopf_code P ρ ∧ F_i_Module_vectorsCode P ρ ∧ E_i_first P ρ ∧ E_i_Module_acts P ρ ∧ E_i_Module_field P ρ ∧ E_i_field_apply P ρ
def F_s_ActOn (P : Program) (ρ : Nat → FuncId) : Prop := chkQF P ρ 168 qf_s_ActOn = true ∧ E_s_l06Code P ρ ∧ E_s_l01Vector P ρ ∧ E_s_l06Act P ρ
def F_l_FnExactActOn (P : Program) (ρ : Nat → FuncId) : Prop := chkQF P ρ 170 qf_l_FnExactActOn = true ∧ E_l_toHopf P ρ ∧ E_l_toModule P ρ ∧ E_l_toVector P ρ ∧ F_s_ActOn P ρ ∧ F_i_ActOn P ρ ∧ E_l_eqVector P ρ
end Hf
