/- Functions of the program in the second layer's small language. Written by gen2.py. -/
import Derived.Test.YtnkalkaphkoamaaGreatRX
import Derived.Test.YtnkalkaphkoamaaGreatRP
set_option linter.unusedVariables false
set_option linter.unusedSimpArgs false
namespace Hf
open Go
def qf_i_Hopf_antipode : QF := ⟨2, 12, [.c 4 0 8],
 (.seq (.reg [⟨(some 3), none, .o (.box (.t 1))⟩,
 ⟨(some 4), none, .o (.alo (.by 0 8))⟩])
 (.seq (.drs [0, 1, 0, 4, 12, 0, 63, 127]
 [(0, false, ⟨(some 5), none, .o (.mov (.t 0))⟩),
 (2, false, ⟨(some 7), none, .o (.mov (.t 0))⟩),
 (3, false, ⟨(some 8), none, .o (.nck (.t 7))⟩),
 (4, false, ⟨(some 9), none, .o (.add (.t 8) 1042)⟩),
 (5, true, ⟨(some 10), none, .lda (.t 3) 0 8⟩),
 (1, false, ⟨(some 6), none, .call 32 [(.t 5)]⟩),
 (6, true, ⟨(some 11), none, .call 52 [(.t 6), (.t 9), (.t 10)]⟩),
 (7, true, ⟨none, none, .sta (.t 4) (.t 11) 8⟩)])
 .ret))⟩
def qf_x_IndexFunc_B : QF := ⟨2, 19, [.t 4],
 (.seq (.reg [⟨(some 4), none, .o (.mov (.c (.i .i64 (0))))⟩])
 (.seq (.seq (.reg [⟨(some 6), none, .o (.mov (.t 0))⟩,
 ⟨(some 7), none, .len (.t 6)⟩,
 ⟨(some 8), none, .o (.mov (.c (.i .i64 (0))))⟩])
 (.blk 0
 (.loop
 (.seq (.reg [⟨(some 9), none, .o (.bin .lss (.t 8) (.t 7))⟩])
 (.seq (.cond (.t 9)
 .skip
 (.exit 0))
 (.seq (.blk 1
 (.seq (.reg [⟨(some 10), none, .o (.mov (.t 8))⟩,
 ⟨(some 5), none, .o (.mov (.t 10))⟩])
 (.seq (.reg [⟨(some 11), none, .o (.mov (.t 1))⟩,
 ⟨(some 12), none, .o (.mov (.t 0))⟩,
 ⟨(some 13), none, .o (.mov (.t 5))⟩,
 ⟨(some 14), none, .ids (.t 12) (.t 13) 1⟩,
 ⟨(some 15), none, .ld1 (.t 14)⟩,
 ⟨(some 16), none, .calv (.t 11) [(.t 15)]⟩])
 (.cond (.t 16)
 (.seq (.reg [⟨(some 17), none, .o (.mov (.t 5))⟩,
 ⟨(some 4), none, .o (.mov (.t 17))⟩])
 .ret)
 .skip))))
 (.reg [⟨(some 18), none, .o (.bin .add (.t 8) (.c (.i .i64 (1))))⟩,
 ⟨(some 8), none, .o (.mov (.t 18))⟩])))))))
 (.seq (.reg [⟨(some 4), none, .o (.mov (.c (.i .i64 (-1))))⟩])
 .ret)))⟩
def qf_i_lead_1 : QF := ⟨1, 5, [.t 2],
 (.seq (.reg [⟨(some 2), none, .o (.mov (.c (.b false)))⟩])
 (.seq (.reg [⟨(some 3), none, .o (.mov (.t 0))⟩,
 ⟨(some 4), none, .o (.bin .neq (.t 3) (.c (.u 0)))⟩,
 ⟨(some 2), none, .o (.mov (.t 4))⟩])
 .ret))⟩
def qf_i_lead : QF := ⟨1, 5, [.t 2],
 (.seq (.reg [⟨(some 1), none, .o (.box (.t 0))⟩,
 ⟨(some 2), none, .o (.mov (.c (.i .i64 (0))))⟩])
 (.seq (.reg [⟨(some 3), none, .sla (.t 1) none none 8 1⟩,
 ⟨(some 4), none, .call 319 [(.t 3), (.c (.fn 320 [] []))]⟩,
 ⟨(some 2), none, .o (.mov (.t 4))⟩])
 .ret))⟩
def qf_i_field_rest : QF := ⟨3, 26, [.c 6 0 8],
 (.seq (.reg [⟨(some 3), none, .o (.box (.t 0))⟩,
 ⟨(some 5), none, .o (.box (.t 2))⟩,
 ⟨(some 6), none, .o (.alo (.by 0 8))⟩])
 (.seq (.seq (.reg [⟨(some 9), none, .o (.mov (.t 1))⟩,
 ⟨(some 10), none, .len (.t 9)⟩,
 ⟨(some 11), none, .o (.mov (.c (.i .i64 (0))))⟩])
 (.blk 0
 (.loop
 (.seq (.reg [⟨(some 12), none, .o (.bin .lss (.t 11) (.t 10))⟩])
 (.seq (.cond (.t 12)
 .skip
 (.exit 0))
 (.seq (.blk 1
 (.seq (.reg [⟨(some 13), none, .ids (.t 9) (.t 11) 8⟩,
 ⟨(some 14), none, .lda (.t 13) 0 8⟩,
 ⟨(some 8), none, .o (.alo (.by 0 8))⟩,
 ⟨none, none, .sta (.t 8) (.t 14) 8⟩])
 (.drs [0, 0, 2, 6, 14, 30, 62, 0, 255]
 [(0, false, ⟨(some 15), none, .lda (.t 3) 2 2⟩),
 (1, false, ⟨(some 16), none, .lda (.t 8) 0 8⟩),
 (2, false, ⟨(some 17), none, .calp 316 [(.t 16)]⟩),
 (3, false, ⟨(some 18), none, .o (.idx (.t 5) (.t 17) 8 1)⟩),
 (4, false, ⟨(some 19), none, .ld1 (.t 18)⟩),
 (5, false, ⟨(some 20), none, .o (.cvt .i64 (.t 19))⟩),
 (6, false, ⟨(some 21), none, .o (.ng (.t 20))⟩),
 (7, false, ⟨(some 22), none, .lda (.t 8) 0 8⟩),
 (8, false, ⟨(some 23), none, .call 71 [(.t 15), (.t 5), (.t 21), (.t 22)]⟩)])))
 (.reg [⟨(some 24), none, .o (.bin .add (.t 11) (.c (.i .i64 (1))))⟩,
 ⟨(some 11), none, .o (.mov (.t 24))⟩])))))))
 (.seq (.reg [⟨(some 25), none, .lda (.t 5) 0 8⟩,
 ⟨none, none, .sta (.t 6) (.t 25) 8⟩])
 .ret)))⟩
def qf_i_within_1 : QF := ⟨3, 11, [.t 4],
 (.seq (.reg [⟨(some 3), none, .o (.box (.t 0))⟩,
 ⟨(some 4), none, .o (.mov (.c (.b false)))⟩])
 (.seq (.reg [⟨(some 5), none, .lda (.t 1) 2 2⟩,
 ⟨(some 6), none, .ld1 (.t 2)⟩,
 ⟨(some 7), none, .lda (.t 3) 0 8⟩,
 ⟨(some 8), none, .call 379 [(.t 5), (.t 6), (.t 7)]⟩,
 ⟨(some 9), none, .o (.bld 0 8 [])⟩,
 ⟨(some 10), none, .o (.eqa true 8 (.t 8) (.t 9))⟩,
 ⟨(some 4), none, .o (.mov (.t 10))⟩])
 .ret))⟩
def qf_x_IndexFunc_V2 : QF := ⟨2, 19, [.t 4],
 (.seq (.reg [⟨(some 4), none, .o (.mov (.c (.i .i64 (0))))⟩])
 (.seq (.seq (.reg [⟨(some 6), none, .o (.mov (.t 0))⟩,
 ⟨(some 7), none, .len (.t 6)⟩,
 ⟨(some 8), none, .o (.mov (.c (.i .i64 (0))))⟩])
 (.blk 0
 (.loop
 (.seq (.reg [⟨(some 9), none, .o (.bin .lss (.t 8) (.t 7))⟩])
 (.seq (.cond (.t 9)
 .skip
 (.exit 0))
 (.seq (.blk 1
 (.seq (.reg [⟨(some 10), none, .o (.mov (.t 8))⟩,
 ⟨(some 5), none, .o (.mov (.t 10))⟩])
 (.seq (.reg [⟨(some 11), none, .o (.mov (.t 1))⟩,
 ⟨(some 12), none, .o (.mov (.t 0))⟩,
 ⟨(some 13), none, .o (.mov (.t 5))⟩,
 ⟨(some 14), none, .ids (.t 12) (.t 13) 8⟩,
 ⟨(some 15), none, .lda (.t 14) 0 8⟩,
 ⟨(some 16), none, .calv (.t 11) [(.t 15)]⟩])
 (.cond (.t 16)
 (.seq (.reg [⟨(some 17), none, .o (.mov (.t 5))⟩,
 ⟨(some 4), none, .o (.mov (.t 17))⟩])
 .ret)
 .skip))))
 (.reg [⟨(some 18), none, .o (.bin .add (.t 8) (.c (.i .i64 (1))))⟩,
 ⟨(some 8), none, .o (.mov (.t 18))⟩])))))))
 (.seq (.reg [⟨(some 4), none, .o (.mov (.c (.i .i64 (-1))))⟩])
 .ret)))⟩
def qf_x_ContainsFunc_V2 : QF := ⟨2, 9, [.t 4],
 (.seq (.reg [⟨(some 4), none, .o (.mov (.c (.b false)))⟩])
 (.seq (.reg [⟨(some 5), none, .o (.mov (.t 0))⟩,
 ⟨(some 6), none, .o (.mov (.t 1))⟩,
 ⟨(some 7), none, .call 91 [(.t 5), (.t 6)]⟩,
 ⟨(some 8), none, .o (.bin .geq (.t 7) (.c (.i .i64 (0))))⟩,
 ⟨(some 4), none, .o (.mov (.t 8))⟩])
 .ret))⟩
def qf_i_within : QF := ⟨3, 14, [.t 6],
 (.seq (.reg [⟨(some 4), none, .o (.box (.t 1))⟩,
 ⟨(some 6), none, .o (.mov (.c (.b false)))⟩])
 (.seq (.reg [⟨(some 8), none, .o (.mov (.t 0))⟩,
 ⟨(some 9), none, .o (.bld 2 2 [(0, 1, (.t 8)), (1, 1, (.c (.i .i64 (8))))])⟩,
 ⟨(some 7), none, .o (.alo (.by 2 2))⟩,
 ⟨none, none, .sta (.t 7) (.t 9) 2⟩])
 (.seq (.reg [⟨(some 10), none, .o (.mov (.t 2))⟩,
 ⟨(some 11), none, .o (.mkf 380 [] [(.t 7), (.t 4)])⟩,
 ⟨(some 12), none, .call 70 [(.t 10), (.t 11)]⟩,
 ⟨(some 13), none, .o (.nt (.t 12))⟩,
 ⟨(some 6), none, .o (.mov (.t 13))⟩])
 .ret)))⟩
def qf_i_Hopf_holds : QF := ⟨3, 14, [.t 6],
 (.seq (.reg [⟨(some 6), none, .o (.mov (.c (.b false)))⟩])
 (.seq (.reg [⟨(some 7), none, .o (.mov (.t 0))⟩,
 ⟨(some 8), none, .o (.nck (.t 7))⟩,
 ⟨(some 9), none, .o (.add (.t 8) 0)⟩,
 ⟨(some 10), none, .ld1 (.t 9)⟩,
 ⟨(some 11), none, .o (.mov (.t 1))⟩,
 ⟨(some 12), none, .o (.mov (.t 2))⟩,
 ⟨(some 13), none, .call 378 [(.t 10), (.t 11), (.t 12)]⟩,
 ⟨(some 6), none, .o (.mov (.t 13))⟩])
 .ret))⟩
def qf_i_field_restTable : QF := ⟨3, 35, [.c 6 0 64],
 (.seq (.reg [⟨(some 3), none, .o (.box (.t 0))⟩,
 ⟨(some 5), none, .o (.box (.t 2))⟩,
 ⟨(some 6), none, .o (.alo (.by 0 64))⟩])
 (.seq (.seq (.reg [⟨(some 9), none, .o (.mov (.c (.i .i64 (0))))⟩])
 (.blk 0
 (.loop
 (.seq (.reg [⟨(some 10), none, .o (.bin .lss (.t 9) (.c (.i .i64 (8))))⟩])
 (.seq (.cond (.t 10)
 .skip
 (.exit 0))
 (.seq (.blk 1
 (.seq (.reg [⟨(some 11), none, .o (.mov (.t 9))⟩,
 ⟨(some 7), none, .o (.mov (.t 11))⟩])
 (.drs [0, 0, 0, 0, 8, 24, 62, 127, 255]
 [(0, false, ⟨(some 12), none, .o (.mov (.t 7))⟩),
 (1, false, ⟨(some 13), none, .lda (.t 3) 2 2⟩),
 (2, false, ⟨(some 14), none, .o (.mov (.t 1))⟩),
 (3, false, ⟨(some 15), none, .o (.mov (.t 7))⟩),
 (4, false, ⟨(some 16), none, .o (.idx (.t 5) (.t 15) 8 8)⟩),
 (5, false, ⟨(some 17), none, .lda (.t 16) 0 8⟩),
 (6, false, ⟨(some 18), none, .call 379 [(.t 13), (.t 14), (.t 17)]⟩),
 (7, false, ⟨(some 19), none, .o (.idx (.t 5) (.t 12) 8 8)⟩),
 (8, false, ⟨none, none, .sta (.t 19) (.t 18) 8⟩)])))
 (.reg [⟨(some 20), none, .o (.bin .add (.t 9) (.c (.i .i64 (1))))⟩,
 ⟨(some 9), none, .o (.mov (.t 20))⟩])))))))
 (.seq (.reg [⟨(some 21), none, .call 227 [(.t 5)]⟩,
 ⟨none, none, .sta (.t 5) (.t 21) 64⟩])
 (.seq (.seq (.reg [⟨(some 22), none, .o (.mov (.c (.i .i64 (0))))⟩])
 (.blk 2
 (.loop
 (.seq (.reg [⟨(some 23), none, .o (.bin .lss (.t 22) (.c (.i .i64 (8))))⟩])
 (.seq (.cond (.t 23)
 .skip
 (.exit 2))
 (.seq (.blk 3
 (.seq (.reg [⟨(some 24), none, .o (.mov (.t 22))⟩,
 ⟨(some 8), none, .o (.mov (.t 24))⟩])
 (.drs [0, 0, 0, 0, 8, 24, 62, 127, 255]
 [(0, false, ⟨(some 25), none, .o (.mov (.t 8))⟩),
 (1, false, ⟨(some 26), none, .lda (.t 3) 2 2⟩),
 (2, false, ⟨(some 27), none, .o (.mov (.t 1))⟩),
 (3, false, ⟨(some 28), none, .o (.mov (.t 8))⟩),
 (4, false, ⟨(some 29), none, .o (.idx (.t 5) (.t 28) 8 8)⟩),
 (5, false, ⟨(some 30), none, .lda (.t 29) 0 8⟩),
 (6, false, ⟨(some 31), none, .call 379 [(.t 26), (.t 27), (.t 30)]⟩),
 (7, false, ⟨(some 32), none, .o (.idx (.t 5) (.t 25) 8 8)⟩),
 (8, false, ⟨none, none, .sta (.t 32) (.t 31) 8⟩)])))
 (.reg [⟨(some 33), none, .o (.bin .add (.t 22) (.c (.i .i64 (1))))⟩,
 ⟨(some 22), none, .o (.mov (.t 33))⟩])))))))
 (.seq (.reg [⟨(some 34), none, .call 227 [(.t 5)]⟩,
 ⟨none, none, .sta (.t 6) (.t 34) 64⟩])
 .ret)))))⟩
def qf_i_Hopf_isIdeal : QF := ⟨2, 63, [.t 4],
 (.seq (.reg [⟨(some 4), none, .o (.mov (.c (.b false)))⟩])
 (.seq (.reg [⟨(some 9), none, .o (.mov (.t 0))⟩,
 ⟨(some 10), none, .call 32 [(.t 9)]⟩,
 ⟨(some 5), none, .o (.alo (.by 2 2))⟩,
 ⟨none, none, .sta (.t 5) (.t 10) 2⟩])
 (.seq (.seq (.reg [⟨(some 11), none, .o (.mov (.t 1))⟩,
 ⟨(some 12), none, .len (.t 11)⟩,
 ⟨(some 13), none, .o (.mov (.c (.i .i64 (0))))⟩])
 (.blk 0
 (.loop
 (.seq (.reg [⟨(some 14), none, .o (.bin .lss (.t 13) (.t 12))⟩])
 (.seq (.cond (.t 14)
 .skip
 (.exit 0))
 (.seq (.blk 1
 (.seq (.reg [⟨(some 15), none, .ids (.t 11) (.t 13) 8⟩,
 ⟨(some 16), none, .lda (.t 15) 0 8⟩,
 ⟨(some 7), none, .o (.alo (.by 0 8))⟩,
 ⟨none, none, .sta (.t 7) (.t 16) 8⟩])
 (.seq (.seq (.reg [⟨(some 17), none, .o (.add (.t 5) 1)⟩,
 ⟨(some 18), none, .ld1 (.t 17)⟩,
 ⟨(some 19), none, .o (.mov (.c (.i .i64 (0))))⟩])
 (.blk 2
 (.loop
 (.seq (.reg [⟨(some 20), none, .o (.bin .lss (.t 19) (.t 18))⟩])
 (.seq (.cond (.t 20)
 .skip
 (.exit 2))
 (.seq (.blk 3
 (.seq (.reg [⟨(some 21), none, .o (.mov (.t 19))⟩,
 ⟨(some 8), none, .o (.mov (.t 21))⟩])
 (.seq (.drs [0, 0, 0, 0, 0, 16, 60, 0, 0, 380, 0, 2044, 4092, 8191, 16383]
 [(0, false, ⟨(some 22), none, .o (.mov (.t 0))⟩),
 (1, false, ⟨(some 23), none, .o (.mov (.t 1))⟩),
 (2, false, ⟨(some 24), none, .o (.mov (.t 0))⟩),
 (3, false, ⟨(some 25), none, .lda (.t 7) 0 8⟩),
 (4, false, ⟨(some 26), none, .o (.mov (.t 8))⟩),
 (5, false, ⟨(some 27), none, .calp 61 [(.t 26)]⟩),
 (7, false, ⟨(some 29), none, .o (.mov (.t 0))⟩),
 (8, false, ⟨(some 30), none, .o (.mov (.t 8))⟩),
 (10, true, ⟨(some 32), none, .lda (.t 7) 0 8⟩),
 (6, false, ⟨(some 28), none, .call 73 [(.t 24), (.t 25), (.t 27)]⟩),
 (9, false, ⟨(some 31), none, .calp 61 [(.t 30)]⟩),
 (11, true, ⟨(some 33), none, .call 73 [(.t 29), (.t 31), (.t 32)]⟩),
 (12, true, ⟨(some 34), none, .o (.bsb 8 [(.t 28), (.t 33)])⟩),
 (13, true, ⟨(some 35), none, .call 372 [(.t 22), (.t 23), (.t 34)]⟩),
 (14, false, ⟨(some 36), none, .o (.nt (.t 35))⟩)])
 (.cond (.t 36)
 (.seq (.reg [⟨(some 4), none, .o (.mov (.c (.b false)))⟩])
 .ret)
 .skip))))
 (.reg [⟨(some 37), none, .o (.bin .add (.t 19) (.c (.i .i64 (1))))⟩,
 ⟨(some 19), none, .o (.mov (.t 37))⟩])))))))
 (.seq (.drs [0, 0, 0, 0, 12, 28, 63, 127, 255, 511, 511, 2047, 4095, 8191, 16383, 32767, 32767, 32767, 32767, 425983, 1048575, 32767, 4194303, 8388607]
 [(0, false, ⟨(some 38), none, .o (.mov (.t 0))⟩),
 (1, false, ⟨(some 39), none, .o (.mov (.t 1))⟩),
 (2, false, ⟨(some 40), none, .o (.mov (.t 0))⟩),
 (3, false, ⟨(some 41), none, .lda (.t 7) 0 8⟩),
 (4, false, ⟨(some 42), none, .call 374 [(.t 40), (.t 41)]⟩),
 (5, false, ⟨(some 43), none, .o (.bsb 8 [(.t 42)])⟩),
 (6, false, ⟨(some 44), none, .call 372 [(.t 38), (.t 39), (.t 43)]⟩),
 (7, false, ⟨(some 45), none, .o (.nt (.t 44))⟩),
 (8, false, ⟨(some 46), none, .o (.mov (.t 45))⟩),
 (9, false, ⟨(some 47), (some (46, false)), .o (.mov (.t 0))⟩),
 (10, false, ⟨(some 48), (some (46, false)), .lda (.t 7) 0 8⟩),
 (11, false, ⟨(some 49), (some (46, false)), .call 111 [(.t 47), (.t 48)]⟩),
 (12, false, ⟨(some 50), (some (46, false)), .o (.bin .neq (.t 49) (.c (.i .i64 (0))))⟩),
 (13, false, ⟨(some 51), none, .o (.pick (.t 46) (.c (.b true)) (.t 50))⟩),
 (14, false, ⟨(some 52), none, .o (.mov (.t 51))⟩),
 (15, true, ⟨(some 53), (some (52, false)), .lda (.t 5) 2 2⟩),
 (16, false, ⟨(some 54), (some (52, false)), .o (.mov (.t 1))⟩),
 (17, false, ⟨(some 55), (some (52, false)), .o (.mov (.t 0))⟩),
 (18, false, ⟨(some 56), (some (52, false)), .lda (.t 7) 0 8⟩),
 (21, false, ⟨(some 59), (some (52, false)), .o (.bld 0 64 [])⟩),
 (19, false, ⟨(some 57), (some (52, false)), .call 58 [(.t 55), (.t 56)]⟩),
 (20, true, ⟨(some 58), (some (52, false)), .call 377 [(.t 53), (.t 54), (.t 57)]⟩),
 (22, false, ⟨(some 60), (some (52, false)), .o (.eqa true 64 (.t 58) (.t 59))⟩),
 (23, false, ⟨(some 61), none, .o (.pick (.t 52) (.c (.b true)) (.t 60))⟩)])
 (.cond (.t 61)
 (.seq (.reg [⟨(some 4), none, .o (.mov (.c (.b false)))⟩])
 .ret)
 .skip)))))
 (.reg [⟨(some 62), none, .o (.bin .add (.t 13) (.c (.i .i64 (1))))⟩,
 ⟨(some 13), none, .o (.mov (.t 62))⟩])))))))
 (.seq (.reg [⟨(some 4), none, .o (.mov (.c (.b true)))⟩])
 .ret))))⟩
def qf_i_newSystem : QF := ⟨2, 10, [.t 4],
 (.seq (.reg [⟨(some 4), none, .o (.mov (.c .np))⟩])
 (.seq (.reg [⟨(some 5), none, .o (.mov (.t 0))⟩,
 ⟨(some 6), none, .o (.bld 2 2 [(0, 1, (.t 5)), (1, 1, (.c (.i .i64 (0))))])⟩,
 ⟨(some 7), none, .o (.mov (.t 1))⟩,
 ⟨(some 8), none, .bac [.i 0, .i 0, .i 0, .sn, .sn] [(0, 2, (.t 6)), (2, 1, (.t 7))]⟩,
 ⟨(some 9), none, .bxc (.t 8)⟩,
 ⟨(some 4), none, .o (.mov (.t 9))⟩])
 .ret))⟩
def qf_x_Clone_B : QF := ⟨1, 8, [.t 2],
 (.seq (.reg [⟨(some 2), none, .o (.mov (.c .sn))⟩])
 (.seq (.seq (.reg [⟨(some 3), none, .o (.mov (.t 0))⟩,
 ⟨(some 4), none, .o (.eqn false (.t 3))⟩])
 (.cond (.t 4)
 (.seq (.reg [⟨(some 2), none, .o (.mov (.c .sn))⟩])
 .ret)
 .skip))
 (.seq (.reg [⟨(some 5), none, .bsy []⟩,
 ⟨(some 6), none, .o (.mov (.t 0))⟩,
 ⟨(some 7), none, .apb 1 1 (.t 5) (.t 6)⟩,
 ⟨(some 2), none, .o (.mov (.t 7))⟩])
 .ret)))⟩
def qf_i_system_solve_1 : QF := ⟨2, 9, [.t 3],
 (.seq (.reg [⟨(some 3), none, .o (.mov (.c (.b false)))⟩])
 (.seq (.reg [⟨(some 4), none, .o (.mov (.t 0))⟩,
 ⟨(some 5), none, .ld1 (.t 1)⟩,
 ⟨(some 6), none, .ids (.t 4) (.t 5) 1⟩,
 ⟨(some 7), none, .ld1 (.t 6)⟩,
 ⟨(some 8), none, .o (.bin .neq (.t 7) (.c (.u 0)))⟩,
 ⟨(some 3), none, .o (.mov (.t 8))⟩])
 .ret))⟩
def qf_x_IndexFunc_R : QF := ⟨2, 19, [.t 4],
 (.seq (.reg [⟨(some 4), none, .o (.mov (.c (.i .i64 (0))))⟩])
 (.seq (.seq (.reg [⟨(some 6), none, .o (.mov (.t 0))⟩,
 ⟨(some 7), none, .len (.t 6)⟩,
 ⟨(some 8), none, .o (.mov (.c (.i .i64 (0))))⟩])
 (.blk 0
 (.loop
 (.seq (.reg [⟨(some 9), none, .o (.bin .lss (.t 8) (.t 7))⟩])
 (.seq (.cond (.t 9)
 .skip
 (.exit 0))
 (.seq (.blk 1
 (.seq (.reg [⟨(some 10), none, .o (.mov (.t 8))⟩,
 ⟨(some 5), none, .o (.mov (.t 10))⟩])
 (.seq (.reg [⟨(some 11), none, .o (.mov (.t 1))⟩,
 ⟨(some 12), none, .o (.mov (.t 0))⟩,
 ⟨(some 13), none, .o (.mov (.t 5))⟩,
 ⟨(some 14), none, .ids (.t 12) (.t 13) 1⟩,
 ⟨(some 15), none, .ld1 (.t 14)⟩,
 ⟨(some 16), none, .calv (.t 11) [(.t 15)]⟩])
 (.cond (.t 16)
 (.seq (.reg [⟨(some 17), none, .o (.mov (.t 5))⟩,
 ⟨(some 4), none, .o (.mov (.t 17))⟩])
 .ret)
 .skip))))
 (.reg [⟨(some 18), none, .o (.bin .add (.t 8) (.c (.i .i64 (1))))⟩,
 ⟨(some 8), none, .o (.mov (.t 18))⟩])))))))
 (.seq (.reg [⟨(some 4), none, .o (.mov (.c (.i .i64 (-1))))⟩])
 .ret)))⟩
def qf_i_field_inverse : QF := ⟨2, 24, [.t 4],
 (.seq (.reg [⟨(some 2), none, .o (.box (.t 0))⟩,
 ⟨(some 4), none, .o (.mov (.c (.i .i64 (0))))⟩])
 (.seq (.seq (.reg [⟨(some 5), none, .o (.mov (.c (.i .i64 (1))))⟩])
 (.blk 0
 (.loop
 (.seq (.seq (.reg [⟨(some 6), none, .o (.mov (.t 5))⟩,
 ⟨(some 7), none, .o (.add (.t 2) 0)⟩,
 ⟨(some 8), none, .ld1 (.t 7)⟩,
 ⟨(some 9), none, .o (.bin .lss (.t 6) (.t 8))⟩])
 (.cond (.t 9)
 .skip
 (.exit 0)))
 (.seq (.blk 1
 (.seq (.reg [⟨(some 12), none, .o (.mov (.t 5))⟩,
 ⟨(some 13), none, .o (.mov (.t 1))⟩,
 ⟨(some 14), none, .o (.cvt .i64 (.t 13))⟩,
 ⟨(some 15), none, .o (.bin .mul (.t 12) (.t 14))⟩,
 ⟨(some 16), none, .o (.add (.t 2) 0)⟩,
 ⟨(some 17), none, .ld1 (.t 16)⟩,
 ⟨(some 18), none, .o (.bin .rem (.t 15) (.t 17))⟩,
 ⟨(some 19), none, .o (.bin .eql (.t 18) (.c (.i .i64 (1))))⟩])
 (.cond (.t 19)
 (.seq (.reg [⟨(some 20), none, .o (.mov (.t 5))⟩,
 ⟨(some 4), none, .o (.mov (.t 20))⟩])
 .ret)
 .skip)))
 (.reg [⟨(some 10), none, .o (.mov (.t 5))⟩,
 ⟨(some 11), none, .o (.bin .add (.t 10) (.c (.i .i64 (1))))⟩,
 ⟨(some 5), none, .o (.mov (.t 11))⟩]))))))
 (.seq (.reg [⟨(some 21), none, .o (.add (.t 2) 0)⟩,
 ⟨(some 22), none, .ld1 (.t 21)⟩,
 ⟨(some 23), none, .o (.bin .rem (.c (.i .i64 (1))) (.t 22))⟩,
 ⟨(some 4), none, .o (.mov (.t 23))⟩])
 .ret)))⟩
def qf_i_system_clear : QF := ⟨3, 103, [],
 (.seq (.reg [⟨(some 15), none, .o (.mov (.t 0))⟩,
 ⟨(some 16), none, .o (.nck (.t 15))⟩,
 ⟨(some 17), none, .o (.add (.t 16) 3)⟩,
 ⟨(some 18), none, .ld1 (.t 17)⟩,
 ⟨(some 19), none, .o (.mov (.t 1))⟩,
 ⟨(some 20), none, .ids (.t 18) (.t 19) 1⟩,
 ⟨(some 21), none, .ld1 (.t 20)⟩,
 ⟨(some 6), none, .o (.mov (.t 21))⟩])
 (.seq (.drs [0, 1, 3, 7, 0, 0, 48, 112, 255, 511]
 [(0, false, ⟨(some 22), none, .o (.mov (.t 0))⟩),
 (1, false, ⟨(some 23), none, .o (.nck (.t 22))⟩),
 (2, false, ⟨(some 24), none, .o (.add (.t 23) 0)⟩),
 (3, false, ⟨(some 25), none, .lda (.t 24) 2 2⟩),
 (4, false, ⟨(some 26), none, .o (.mov (.t 6))⟩),
 (5, false, ⟨(some 27), none, .o (.mov (.t 2))⟩),
 (6, false, ⟨(some 28), none, .ids (.t 26) (.t 27) 1⟩),
 (7, false, ⟨(some 29), none, .ld1 (.t 28)⟩),
 (8, false, ⟨(some 30), none, .calp 279 [(.t 25), (.t 29)]⟩),
 (9, false, ⟨(some 7), none, .o (.mov (.t 30))⟩)])
 (.seq (.seq (.reg [⟨(some 31), none, .o (.mov (.t 6))⟩,
 ⟨(some 32), none, .len (.t 31)⟩,
 ⟨(some 33), none, .o (.mov (.c (.i .i64 (0))))⟩])
 (.blk 0
 (.loop
 (.seq (.reg [⟨(some 34), none, .o (.bin .lss (.t 33) (.t 32))⟩])
 (.seq (.cond (.t 34)
 .skip
 (.exit 0))
 (.seq (.blk 1
 (.seq (.reg [⟨(some 35), none, .o (.mov (.t 33))⟩,
 ⟨(some 36), none, .ids (.t 31) (.t 33) 1⟩,
 ⟨(some 37), none, .ld1 (.t 36)⟩,
 ⟨(some 8), none, .o (.mov (.t 35))⟩,
 ⟨(some 9), none, .o (.mov (.t 37))⟩])
 (.reg [⟨(some 38), none, .o (.mov (.t 6))⟩,
 ⟨(some 39), none, .o (.mov (.t 8))⟩,
 ⟨(some 40), none, .o (.mov (.t 0))⟩,
 ⟨(some 41), none, .o (.nck (.t 40))⟩,
 ⟨(some 42), none, .o (.add (.t 41) 0)⟩,
 ⟨(some 43), none, .lda (.t 42) 2 2⟩,
 ⟨(some 44), none, .o (.mov (.t 7))⟩,
 ⟨(some 45), none, .o (.mov (.t 9))⟩,
 ⟨(some 46), none, .o (.cvt .i64 (.t 45))⟩,
 ⟨(some 47), none, .o (.bin .mul (.t 44) (.t 46))⟩,
 ⟨(some 48), none, .calp 74 [(.t 43), (.t 47)]⟩,
 ⟨(some 49), none, .ids (.t 38) (.t 39) 1⟩,
 ⟨none, none, .st1 (.t 49) (.t 48)⟩])))
 (.reg [⟨(some 50), none, .o (.bin .add (.t 33) (.c (.i .i64 (1))))⟩,
 ⟨(some 33), none, .o (.mov (.t 50))⟩])))))))
 (.seq (.reg [⟨(some 51), none, .o (.mov (.t 0))⟩,
 ⟨(some 52), none, .o (.nck (.t 51))⟩,
 ⟨(some 53), none, .o (.add (.t 52) 3)⟩,
 ⟨(some 54), none, .ld1 (.t 53)⟩,
 ⟨(some 55), none, .len (.t 54)⟩,
 ⟨(some 56), none, .o (.mov (.c (.i .i64 (0))))⟩])
 (.blk 2
 (.loop
 (.seq (.reg [⟨(some 57), none, .o (.bin .lss (.t 56) (.t 55))⟩])
 (.seq (.cond (.t 57)
 .skip
 (.exit 2))
 (.seq (.blk 3
 (.seq (.reg [⟨(some 58), none, .o (.mov (.t 56))⟩,
 ⟨(some 59), none, .ids (.t 54) (.t 56) 1⟩,
 ⟨(some 60), none, .ld1 (.t 59)⟩,
 ⟨(some 10), none, .o (.mov (.t 58))⟩,
 ⟨(some 11), none, .o (.mov (.t 60))⟩])
 (.seq (.seq (.reg [⟨(some 61), none, .o (.mov (.t 10))⟩,
 ⟨(some 62), none, .o (.mov (.t 1))⟩,
 ⟨(some 63), none, .o (.bin .eql (.t 61) (.t 62))⟩,
 ⟨(some 64), none, .o (.mov (.t 63))⟩,
 ⟨(some 65), (some (64, false)), .o (.mov (.t 11))⟩,
 ⟨(some 66), (some (64, false)), .o (.mov (.t 2))⟩,
 ⟨(some 67), (some (64, false)), .ids (.t 65) (.t 66) 1⟩,
 ⟨(some 68), (some (64, false)), .ld1 (.t 67)⟩,
 ⟨(some 69), (some (64, false)), .o (.bin .eql (.t 68) (.c (.u 0)))⟩,
 ⟨(some 70), none, .o (.pick (.t 64) (.c (.b true)) (.t 69))⟩])
 (.cond (.t 70)
 (.exit 3)
 .skip))
 (.seq (.reg [⟨(some 71), none, .o (.mov (.t 11))⟩,
 ⟨(some 72), none, .o (.mov (.t 2))⟩,
 ⟨(some 73), none, .ids (.t 71) (.t 72) 1⟩,
 ⟨(some 74), none, .ld1 (.t 73)⟩,
 ⟨(some 75), none, .o (.cvt .i64 (.t 74))⟩,
 ⟨(some 12), none, .o (.mov (.t 75))⟩])
 (.seq (.reg [⟨(some 76), none, .o (.mov (.t 6))⟩,
 ⟨(some 77), none, .len (.t 76)⟩,
 ⟨(some 78), none, .o (.mov (.c (.i .i64 (0))))⟩])
 (.blk 4
 (.loop
 (.seq (.reg [⟨(some 79), none, .o (.bin .lss (.t 78) (.t 77))⟩])
 (.seq (.cond (.t 79)
 .skip
 (.exit 4))
 (.seq (.blk 5
 (.seq (.reg [⟨(some 80), none, .o (.mov (.t 78))⟩,
 ⟨(some 81), none, .ids (.t 76) (.t 78) 1⟩,
 ⟨(some 82), none, .ld1 (.t 81)⟩,
 ⟨(some 13), none, .o (.mov (.t 80))⟩,
 ⟨(some 14), none, .o (.mov (.t 82))⟩])
 (.drs [0, 0, 0, 4, 12, 28, 0, 0, 192, 448, 960, 0, 0, 4096, 14336, 32704, 65532, 131071, 262143]
 [(0, false, ⟨(some 83), none, .o (.mov (.t 11))⟩),
 (1, false, ⟨(some 84), none, .o (.mov (.t 13))⟩),
 (2, false, ⟨(some 85), none, .o (.mov (.t 0))⟩),
 (3, false, ⟨(some 86), none, .o (.nck (.t 85))⟩),
 (4, false, ⟨(some 87), none, .o (.add (.t 86) 0)⟩),
 (5, false, ⟨(some 88), none, .lda (.t 87) 2 2⟩),
 (6, false, ⟨(some 89), none, .o (.mov (.t 11))⟩),
 (7, false, ⟨(some 90), none, .o (.mov (.t 13))⟩),
 (8, false, ⟨(some 91), none, .ids (.t 89) (.t 90) 1⟩),
 (9, false, ⟨(some 92), none, .ld1 (.t 91)⟩),
 (10, false, ⟨(some 93), none, .o (.cvt .i64 (.t 92))⟩),
 (11, false, ⟨(some 94), none, .o (.mov (.t 12))⟩),
 (12, false, ⟨(some 95), none, .o (.mov (.t 14))⟩),
 (13, false, ⟨(some 96), none, .o (.cvt .i64 (.t 95))⟩),
 (14, false, ⟨(some 97), none, .o (.bin .mul (.t 94) (.t 96))⟩),
 (15, false, ⟨(some 98), none, .o (.bin .sub (.t 93) (.t 97))⟩),
 (16, false, ⟨(some 99), none, .calp 74 [(.t 88), (.t 98)]⟩),
 (17, false, ⟨(some 100), none, .ids (.t 83) (.t 84) 1⟩),
 (18, false, ⟨none, none, .st1 (.t 100) (.t 99)⟩)])))
 (.reg [⟨(some 101), none, .o (.bin .add (.t 78) (.c (.i .i64 (1))))⟩,
 ⟨(some 78), none, .o (.mov (.t 101))⟩])))))))))))
 (.reg [⟨(some 102), none, .o (.bin .add (.t 56) (.c (.i .i64 (1))))⟩,
 ⟨(some 56), none, .o (.mov (.t 102))⟩]))))))))))⟩
def qf_i_system_solve_2 : QF := ⟨2, 12, [.t 3],
 (.seq (.reg [⟨(some 3), none, .o (.mov (.c (.b false)))⟩])
 (.seq (.reg [⟨(some 4), none, .o (.mov (.t 0))⟩,
 ⟨(some 5), none, .ld1 (.t 1)⟩,
 ⟨(some 6), none, .o (.nck (.t 5))⟩,
 ⟨(some 7), none, .o (.add (.t 6) 2)⟩,
 ⟨(some 8), none, .ld1 (.t 7)⟩,
 ⟨(some 9), none, .ids (.t 4) (.t 8) 1⟩,
 ⟨(some 10), none, .ld1 (.t 9)⟩,
 ⟨(some 11), none, .o (.bin .neq (.t 10) (.c (.u 0)))⟩,
 ⟨(some 3), none, .o (.mov (.t 11))⟩])
 .ret))⟩
def qf_x_ContainsFunc_R : QF := ⟨2, 9, [.t 4],
 (.seq (.reg [⟨(some 4), none, .o (.mov (.c (.b false)))⟩])
 (.seq (.reg [⟨(some 5), none, .o (.mov (.t 0))⟩,
 ⟨(some 6), none, .o (.mov (.t 1))⟩,
 ⟨(some 7), none, .call 277 [(.t 5), (.t 6)]⟩,
 ⟨(some 8), none, .o (.bin .geq (.t 7) (.c (.i .i64 (0))))⟩,
 ⟨(some 4), none, .o (.mov (.t 8))⟩])
 .ret))⟩
def qf_i_system_solve : QF := ⟨1, 103, [.t 2],
 (.seq (.reg [⟨(some 1), none, .o (.box (.t 0))⟩,
 ⟨(some 2), none, .o (.mov (.c (.b false)))⟩])
 (.seq (.reg [⟨(some 3), none, .o (.mov (.c (.i .i64 (0))))⟩])
 (.seq (.reg [⟨(some 7), none, .ld1 (.t 1)⟩,
 ⟨(some 8), none, .o (.nck (.t 7))⟩,
 ⟨(some 9), none, .o (.add (.t 8) 4)⟩,
 ⟨none, none, .st1 (.t 9) (.c .sn)⟩])
 (.seq (.seq (.reg [⟨(some 4), none, .o (.alo .i)⟩,
 ⟨none, none, .st1 (.t 4) (.c (.i .i64 (0)))⟩])
 (.blk 0
 (.loop
 (.seq (.seq (.drs [0, 0, 2, 6, 14, 31, 63, 127, 127, 383, 895, 1919, 3967, 8191, 16383]
 [(0, false, ⟨(some 10), none, .ld1 (.t 4)⟩),
 (1, false, ⟨(some 11), none, .ld1 (.t 1)⟩),
 (2, false, ⟨(some 12), none, .o (.nck (.t 11))⟩),
 (3, false, ⟨(some 13), none, .o (.add (.t 12) 2)⟩),
 (4, false, ⟨(some 14), none, .ld1 (.t 13)⟩),
 (5, false, ⟨(some 15), none, .o (.bin .lss (.t 10) (.t 14))⟩),
 (6, false, ⟨(some 16), none, .o (.mov (.t 15))⟩),
 (7, false, ⟨(some 17), (some (16, true)), .o (.mov (.t 3))⟩),
 (8, false, ⟨(some 18), (some (16, true)), .ld1 (.t 1)⟩),
 (9, false, ⟨(some 19), (some (16, true)), .o (.nck (.t 18))⟩),
 (10, false, ⟨(some 20), (some (16, true)), .o (.add (.t 19) 3)⟩),
 (11, false, ⟨(some 21), (some (16, true)), .ld1 (.t 20)⟩),
 (12, false, ⟨(some 22), (some (16, true)), .len (.t 21)⟩),
 (13, false, ⟨(some 23), (some (16, true)), .o (.bin .lss (.t 17) (.t 22))⟩),
 (14, false, ⟨(some 24), none, .o (.pick (.t 16) (.t 23) (.c (.b false)))⟩)])
 (.cond (.t 24)
 .skip
 (.exit 0)))
 (.seq (.blk 1
 (.seq (.reg [⟨(some 27), none, .ld1 (.t 1)⟩,
 ⟨(some 28), none, .o (.nck (.t 27))⟩,
 ⟨(some 29), none, .o (.add (.t 28) 3)⟩,
 ⟨(some 30), none, .ld1 (.t 29)⟩,
 ⟨(some 31), none, .o (.mov (.t 3))⟩,
 ⟨(some 32), none, .slc (.t 30) (some (.t 31)) none 1⟩,
 ⟨(some 33), none, .o (.mkf 276 [] [(.t 4)])⟩,
 ⟨(some 34), none, .call 277 [(.t 32), (.t 33)]⟩,
 ⟨(some 5), none, .o (.mov (.t 34))⟩])
 (.seq (.seq (.reg [⟨(some 35), none, .o (.mov (.t 5))⟩,
 ⟨(some 36), none, .o (.bin .lss (.t 35) (.c (.i .i64 (0))))⟩])
 (.cond (.t 36)
 (.exit 1)
 .skip))
 (.seq (.drs [0, 1, 3, 7, 0, 0, 32, 96, 224, 0, 0, 1536, 0, 4096, 12288, 28672, 0, 0, 196608, 520192, 1044480, 0, 2097152, 6291456, 14680064, 0, 65011712, 132120576, 268431871, 536867327, 1073741823, 2147483647]
 [(0, false, ⟨(some 37), none, .ld1 (.t 1)⟩),
 (1, false, ⟨(some 38), none, .o (.nck (.t 37))⟩),
 (2, false, ⟨(some 39), none, .o (.add (.t 38) 3)⟩),
 (3, false, ⟨(some 40), none, .ld1 (.t 39)⟩),
 (4, false, ⟨(some 41), none, .o (.mov (.t 3))⟩),
 (5, false, ⟨(some 42), none, .ld1 (.t 1)⟩),
 (6, false, ⟨(some 43), none, .o (.nck (.t 42))⟩),
 (7, false, ⟨(some 44), none, .o (.add (.t 43) 3)⟩),
 (8, false, ⟨(some 45), none, .ld1 (.t 44)⟩),
 (9, false, ⟨(some 46), none, .o (.mov (.t 3))⟩),
 (10, false, ⟨(some 47), none, .o (.mov (.t 5))⟩),
 (11, false, ⟨(some 48), none, .o (.bin .add (.t 46) (.t 47))⟩),
 (12, false, ⟨(some 49), none, .ld1 (.t 1)⟩),
 (13, false, ⟨(some 50), none, .o (.nck (.t 49))⟩),
 (14, false, ⟨(some 51), none, .o (.add (.t 50) 3)⟩),
 (15, false, ⟨(some 52), none, .ld1 (.t 51)⟩),
 (16, false, ⟨(some 53), none, .o (.mov (.t 3))⟩),
 (17, false, ⟨(some 54), none, .o (.mov (.t 5))⟩),
 (18, false, ⟨(some 55), none, .o (.bin .add (.t 53) (.t 54))⟩),
 (19, false, ⟨(some 56), none, .ids (.t 52) (.t 55) 1⟩),
 (20, false, ⟨(some 57), none, .ld1 (.t 56)⟩),
 (21, false, ⟨(some 58), none, .ld1 (.t 1)⟩),
 (22, false, ⟨(some 59), none, .o (.nck (.t 58))⟩),
 (23, false, ⟨(some 60), none, .o (.add (.t 59) 3)⟩),
 (24, false, ⟨(some 61), none, .ld1 (.t 60)⟩),
 (25, false, ⟨(some 62), none, .o (.mov (.t 3))⟩),
 (26, false, ⟨(some 63), none, .ids (.t 61) (.t 62) 1⟩),
 (27, false, ⟨(some 64), none, .ld1 (.t 63)⟩),
 (28, false, ⟨(some 65), none, .ids (.t 40) (.t 41) 1⟩),
 (29, false, ⟨none, none, .st1 (.t 65) (.t 57)⟩),
 (30, false, ⟨(some 66), none, .ids (.t 45) (.t 48) 1⟩),
 (31, false, ⟨none, none, .st1 (.t 66) (.t 64)⟩)])
 (.seq (.reg [⟨(some 67), none, .ld1 (.t 1)⟩,
 ⟨(some 68), none, .o (.mov (.t 3))⟩,
 ⟨(some 69), none, .ld1 (.t 4)⟩,
 ⟨(some 70), none, .call 280 [(.t 67), (.t 68), (.t 69)]⟩])
 (.seq (.drs [0, 0, 2, 6, 14, 0, 32, 126, 255, 511, 1023]
 [(0, true, ⟨(some 71), none, .ld1 (.t 1)⟩),
 (1, true, ⟨(some 72), none, .ld1 (.t 1)⟩),
 (2, false, ⟨(some 73), none, .o (.nck (.t 72))⟩),
 (3, false, ⟨(some 74), none, .o (.add (.t 73) 4)⟩),
 (4, true, ⟨(some 75), none, .ld1 (.t 74)⟩),
 (5, false, ⟨(some 76), none, .ld1 (.t 4)⟩),
 (6, false, ⟨(some 77), none, .o (.bsa [(.t 76)])⟩),
 (7, false, ⟨(some 78), none, .apr (.i 0) 8 (.t 75) (.t 77)⟩),
 (8, false, ⟨(some 79), none, .o (.nck (.t 71))⟩),
 (9, false, ⟨(some 80), none, .o (.add (.t 79) 4)⟩),
 (10, true, ⟨none, none, .st1 (.t 80) (.t 78)⟩)])
 (.reg [⟨(some 81), none, .o (.mov (.t 3))⟩,
 ⟨(some 82), none, .o (.bin .add (.t 81) (.c (.i .i64 (1))))⟩,
 ⟨(some 3), none, .o (.mov (.t 82))⟩])))))))
 (.seq (.seq (.reg [⟨(some 83), none, .ld1 (.t 4)⟩])
 (.reg [⟨(some 4), none, .o (.alo .i)⟩,
 ⟨none, none, .st1 (.t 4) (.t 83)⟩]))
 (.reg [⟨(some 25), none, .ld1 (.t 4)⟩,
 ⟨(some 26), none, .o (.bin .add (.t 25) (.c (.i .i64 (1))))⟩,
 ⟨none, none, .st1 (.t 4) (.t 26)⟩])))))))
 (.seq (.reg [⟨(some 84), none, .ld1 (.t 1)⟩,
 ⟨(some 85), none, .o (.nck (.t 84))⟩,
 ⟨(some 86), none, .o (.add (.t 85) 3)⟩,
 ⟨(some 87), none, .ld1 (.t 86)⟩,
 ⟨(some 88), none, .o (.mov (.t 3))⟩,
 ⟨(some 89), none, .slc (.t 87) (some (.t 88)) none 1⟩,
 ⟨(some 6), none, .o (.mov (.t 89))⟩])
 (.seq (.drs [0, 0, 2, 6, 14, 0, 62, 127, 255, 511]
 [(0, false, ⟨(some 90), none, .ld1 (.t 1)⟩),
 (1, false, ⟨(some 91), none, .ld1 (.t 1)⟩),
 (2, false, ⟨(some 92), none, .o (.nck (.t 91))⟩),
 (3, false, ⟨(some 93), none, .o (.add (.t 92) 3)⟩),
 (4, false, ⟨(some 94), none, .ld1 (.t 93)⟩),
 (5, false, ⟨(some 95), none, .o (.mov (.t 3))⟩),
 (6, false, ⟨(some 96), none, .slc (.t 94) none (some (.t 95)) 1⟩),
 (7, false, ⟨(some 97), none, .o (.nck (.t 90))⟩),
 (8, false, ⟨(some 98), none, .o (.add (.t 97) 3)⟩),
 (9, false, ⟨none, none, .st1 (.t 98) (.t 96)⟩)])
 (.seq (.reg [⟨(some 99), none, .o (.mov (.t 6))⟩,
 ⟨(some 100), none, .o (.mkf 282 [] [(.t 1)])⟩,
 ⟨(some 101), none, .call 281 [(.t 99), (.t 100)]⟩,
 ⟨(some 102), none, .o (.nt (.t 101))⟩,
 ⟨(some 2), none, .o (.mov (.t 102))⟩])
 .ret)))))))⟩
def qf_i_reduced : QF := ⟨2, 54, [.t 4],
 (.seq (.reg [⟨(some 4), none, .o (.mov (.c .sn))⟩])
 (.seq (.reg [⟨(some 11), none, .o (.mov (.t 0))⟩,
 ⟨(some 12), none, .call 271 [(.t 11), (.c (.i .i64 (8)))]⟩,
 ⟨(some 5), none, .o (.mov (.t 12))⟩])
 (.seq (.seq (.reg [⟨(some 13), none, .o (.mov (.t 1))⟩,
 ⟨(some 14), none, .len (.t 13)⟩,
 ⟨(some 15), none, .o (.mov (.c (.i .i64 (0))))⟩])
 (.blk 0
 (.loop
 (.seq (.reg [⟨(some 16), none, .o (.bin .lss (.t 15) (.t 14))⟩])
 (.seq (.cond (.t 16)
 .skip
 (.exit 0))
 (.seq (.blk 1
 (.seq (.reg [⟨(some 17), none, .ids (.t 13) (.t 15) 8⟩,
 ⟨(some 18), none, .lda (.t 17) 0 8⟩,
 ⟨(some 7), none, .o (.alo (.by 0 8))⟩,
 ⟨none, none, .sta (.t 7) (.t 18) 8⟩])
 (.drf [0, 0, 2, 6, 14, 0, 32, 0, 224, 480, 1022, 2047, 4095, 8191]
 [(0, false, ⟨(some 19), none, .o (.mov (.t 5))⟩),
 (1, false, ⟨(some 20), none, .o (.mov (.t 5))⟩),
 (2, false, ⟨(some 21), none, .o (.nck (.t 20))⟩),
 (3, false, ⟨(some 22), none, .o (.add (.t 21) 3)⟩),
 (4, true, ⟨(some 23), none, .ld1 (.t 22)⟩),
 (5, false, ⟨(some 24), none, .sla (.t 7) none none 8 1⟩)]
 (6, false, ⟨(some 25), none, .call 289 [(.t 24)]⟩)
 (7, false, ⟨(some 26), none, .bsy [(.c (.u 0))]⟩)
 [(8, false, ⟨(some 27), none, .apb 1 1 (.t 25) (.t 26)⟩),
 (9, false, ⟨(some 28), none, .o (.bsa [(.t 27)])⟩),
 (10, true, ⟨(some 29), none, .apr (.sn) 24 (.t 23) (.t 28)⟩),
 (11, false, ⟨(some 30), none, .o (.nck (.t 19))⟩),
 (12, false, ⟨(some 31), none, .o (.add (.t 30) 3)⟩),
 (13, true, ⟨none, none, .st1 (.t 31) (.t 29)⟩)])))
 (.reg [⟨(some 32), none, .o (.bin .add (.t 15) (.c (.i .i64 (1))))⟩,
 ⟨(some 15), none, .o (.mov (.t 32))⟩])))))))
 (.seq (.reg [⟨(some 33), none, .o (.mov (.t 5))⟩,
 ⟨(some 34), none, .call 287 [(.t 33)]⟩])
 (.seq (.reg [⟨(some 35), none, .o (.bsb 8 [])⟩,
 ⟨(some 8), none, .o (.mov (.t 35))⟩])
 (.seq (.seq (.reg [⟨(some 36), none, .o (.mov (.t 5))⟩,
 ⟨(some 37), none, .o (.nck (.t 36))⟩,
 ⟨(some 38), none, .o (.add (.t 37) 3)⟩,
 ⟨(some 39), none, .ld1 (.t 38)⟩,
 ⟨(some 40), none, .len (.t 39)⟩,
 ⟨(some 41), none, .o (.mov (.c (.i .i64 (0))))⟩])
 (.blk 2
 (.loop
 (.seq (.reg [⟨(some 42), none, .o (.bin .lss (.t 41) (.t 40))⟩])
 (.seq (.cond (.t 42)
 .skip
 (.exit 2))
 (.seq (.blk 3
 (.seq (.reg [⟨(some 43), none, .ids (.t 39) (.t 41) 1⟩,
 ⟨(some 44), none, .ld1 (.t 43)⟩,
 ⟨(some 10), none, .o (.mov (.t 44))⟩])
 (.reg [⟨(some 45), none, .o (.mov (.t 8))⟩,
 ⟨(some 46), none, .o (.mov (.t 10))⟩,
 ⟨(some 47), none, .slc (.t 46) none (some (.c (.i .i64 (8)))) 1⟩,
 ⟨(some 48), none, .sap (.t 47) 8⟩,
 ⟨(some 49), none, .lda (.t 48) 0 8⟩,
 ⟨(some 50), none, .o (.bsb 8 [(.t 49)])⟩,
 ⟨(some 51), none, .apb 8 8 (.t 45) (.t 50)⟩,
 ⟨(some 8), none, .o (.mov (.t 51))⟩])))
 (.reg [⟨(some 52), none, .o (.bin .add (.t 41) (.c (.i .i64 (1))))⟩,
 ⟨(some 41), none, .o (.mov (.t 52))⟩])))))))
 (.seq (.reg [⟨(some 53), none, .o (.mov (.t 8))⟩,
 ⟨(some 4), none, .o (.mov (.t 53))⟩])
 .ret)))))))⟩
def qf_i_Hopf_span : QF := ⟨2, 11, [.t 4],
 (.seq (.reg [⟨(some 4), none, .o (.mov (.c .sn))⟩])
 (.seq (.reg [⟨(some 5), none, .o (.mov (.t 0))⟩,
 ⟨(some 6), none, .o (.nck (.t 5))⟩,
 ⟨(some 7), none, .o (.add (.t 6) 0)⟩,
 ⟨(some 8), none, .ld1 (.t 7)⟩,
 ⟨(some 9), none, .o (.mov (.t 1))⟩,
 ⟨(some 10), none, .call 267 [(.t 8), (.t 9)]⟩,
 ⟨(some 4), none, .o (.mov (.t 10))⟩])
 .ret))⟩
def qf_i_IsHopfIdeal : QF := ⟨2, 15, [.t 4, .t 5],
 (.seq (.reg [⟨(some 2), none, .o (.box (.t 0))⟩,
 ⟨(some 4), none, .o (.mov (.c (.b false)))⟩,
 ⟨(some 5), none, .o (.mov (.c (.i .i64 (0))))⟩])
 (.seq (.seq (.reg [⟨(some 7), none, .o (.mov (.t 1))⟩,
 ⟨(some 8), none, .call 27 [(.t 2), (.t 7)]⟩,
 ⟨(some 6), none, .o (.mov (.t 8))⟩])
 (.seq (.reg [⟨(some 9), none, .o (.mov (.t 6))⟩,
 ⟨(some 10), none, .o (.bin .neq (.t 9) (.c (.i .i64 (0))))⟩])
 (.cond (.t 10)
 (.seq (.reg [⟨(some 11), none, .o (.mov (.t 6))⟩,
 ⟨(some 4), none, .o (.mov (.c (.b false)))⟩,
 ⟨(some 5), none, .o (.mov (.t 11))⟩])
 .ret)
 .skip)))
 (.seq (.reg [⟨(some 12), none, .o (.mov (.t 1))⟩,
 ⟨(some 13), none, .call 261 [(.t 2), (.t 12)]⟩,
 ⟨(some 14), none, .call 369 [(.t 2), (.t 13)]⟩,
 ⟨(some 4), none, .o (.mov (.t 14))⟩,
 ⟨(some 5), none, .o (.mov (.c (.i .i64 (0))))⟩])
 .ret)))⟩
def qf_l_szVectorS : QF := ⟨2, 12, [.t 4],
 (.seq (.reg [⟨(some 4), none, .o (.mov (.c (.i .i64 (0))))⟩])
 (.seq (.reg [⟨(some 5), none, .o (.mov (.t 1))⟩,
 ⟨(some 6), none, .o (.mov (.t 0))⟩,
 ⟨(some 7), none, .len (.t 6)⟩,
 ⟨(some 8), none, .o (.bin .sub (.t 5) (.t 7))⟩,
 ⟨(some 1), none, .o (.mov (.t 8))⟩])
 (.seq (.seq (.reg [⟨(some 9), none, .o (.mov (.t 1))⟩,
 ⟨(some 10), none, .o (.bin .lss (.t 9) (.c (.i .i64 (0))))⟩])
 (.cond (.t 10)
 (.seq (.reg [⟨(some 4), none, .o (.mov (.c (.i .i64 (-1))))⟩])
 .ret)
 .skip))
 (.seq (.reg [⟨(some 11), none, .o (.mov (.t 1))⟩,
 ⟨(some 4), none, .o (.mov (.t 11))⟩])
 .ret))))⟩
def qf_l_roomBehind : QF := ⟨1, 10, [.t 2],
 (.seq (.reg [⟨(some 2), none, .o (.mov (.c (.i .i64 (0))))⟩])
 (.seq (.seq (.reg [⟨(some 3), none, .o (.mov (.t 0))⟩,
 ⟨(some 4), none, .o (.bin .rem (.t 3) (.c (.i .i64 (6))))⟩,
 ⟨(some 5), none, .o (.bin .eql (.t 4) (.c (.i .i64 (5))))⟩])
 (.cond (.t 5)
 (.seq (.reg [⟨(some 2), none, .o (.mov (.c (.i .i64 (0))))⟩])
 .ret)
 .skip))
 (.seq (.seq (.reg [⟨(some 6), none, .o (.mov (.t 0))⟩,
 ⟨(some 7), none, .o (.bin .rem (.t 6) (.c (.i .i64 (3))))⟩,
 ⟨(some 8), none, .o (.bin .eql (.t 7) (.c (.i .i64 (0))))⟩])
 (.cond (.t 8)
 (.seq (.reg [⟨(some 2), none, .o (.mov (.c (.i .i64 (1))))⟩])
 .ret)
 .skip))
 (.seq (.reg [⟨(some 9), none, .o (.mov (.t 0))⟩,
 ⟨(some 2), none, .o (.mov (.t 9))⟩])
 .ret))))⟩
def qf_l_toVectorS : QF := ⟨2, 51, [.t 4],
 (.seq (.reg [⟨(some 4), none, .o (.mov (.c .sn))⟩])
 (.seq (.seq (.reg [⟨(some 8), none, .o (.mov (.t 1))⟩,
 ⟨(some 9), none, .o (.mov (.t 8))⟩,
 ⟨(some 10), (some (9, true)), .o (.mov (.t 0))⟩,
 ⟨(some 11), (some (9, true)), .len (.t 10)⟩,
 ⟨(some 12), (some (9, true)), .o (.bin .eql (.t 11) (.c (.i .i64 (0))))⟩,
 ⟨(some 13), none, .o (.pick (.t 9) (.t 12) (.c (.b false)))⟩])
 (.cond (.t 13)
 (.seq (.reg [⟨(some 4), none, .o (.mov (.c .sn))⟩])
 .ret)
 .skip))
 (.seq (.reg [⟨(some 14), none, .o (.mov (.t 0))⟩,
 ⟨(some 15), none, .len (.t 14)⟩,
 ⟨(some 16), none, .o (.mov (.t 0))⟩,
 ⟨(some 17), none, .len (.t 16)⟩,
 ⟨(some 18), none, .calp 364 [(.t 17)]⟩,
 ⟨(some 19), none, .o (.bin .add (.t 15) (.t 18))⟩,
 ⟨(some 20), none, .mkb 8 8 (.t 19)⟩,
 ⟨(some 5), none, .o (.mov (.t 20))⟩])
 (.seq (.seq (.reg [⟨(some 6), none, .o (.mov (.c (.i .i64 (0))))⟩])
 (.blk 0
 (.loop
 (.seq (.seq (.reg [⟨(some 21), none, .o (.mov (.t 6))⟩,
 ⟨(some 22), none, .o (.mov (.t 0))⟩,
 ⟨(some 23), none, .len (.t 22)⟩,
 ⟨(some 24), none, .o (.bin .lss (.t 21) (.t 23))⟩])
 (.cond (.t 24)
 .skip
 (.exit 0)))
 (.seq (.blk 1
 (.reg [⟨(some 27), none, .o (.mov (.t 5))⟩,
 ⟨(some 28), none, .o (.mov (.t 6))⟩,
 ⟨(some 29), none, .o (.mov (.t 0))⟩,
 ⟨(some 30), none, .o (.mov (.t 6))⟩,
 ⟨(some 31), none, .ids (.t 29) (.t 30) 8⟩,
 ⟨(some 32), none, .ldf (.t 31) 8⟩,
 ⟨(some 33), none, .calp 16 [(.t 32)]⟩,
 ⟨(some 34), none, .ids (.t 27) (.t 28) 8⟩,
 ⟨none, none, .sta (.t 34) (.t 33) 8⟩]))
 (.reg [⟨(some 25), none, .o (.mov (.t 6))⟩,
 ⟨(some 26), none, .o (.bin .add (.t 25) (.c (.i .i64 (1))))⟩,
 ⟨(some 6), none, .o (.mov (.t 26))⟩]))))))
 (.seq (.seq (.reg [⟨(some 35), none, .o (.mov (.t 0))⟩,
 ⟨(some 36), none, .len (.t 35)⟩,
 ⟨(some 7), none, .o (.mov (.t 36))⟩])
 (.blk 2
 (.loop
 (.seq (.seq (.reg [⟨(some 37), none, .o (.mov (.t 7))⟩,
 ⟨(some 38), none, .o (.mov (.t 5))⟩,
 ⟨(some 39), none, .len (.t 38)⟩,
 ⟨(some 40), none, .o (.bin .lss (.t 37) (.t 39))⟩])
 (.cond (.t 40)
 .skip
 (.exit 2)))
 (.seq (.blk 3
 (.reg [⟨(some 43), none, .o (.mov (.t 5))⟩,
 ⟨(some 44), none, .o (.mov (.t 7))⟩,
 ⟨(some 45), none, .o (.bld 0 8 [(0, 1, (.c (.u 201)))])⟩,
 ⟨(some 46), none, .ids (.t 43) (.t 44) 8⟩,
 ⟨none, none, .sta (.t 46) (.t 45) 8⟩]))
 (.reg [⟨(some 41), none, .o (.mov (.t 7))⟩,
 ⟨(some 42), none, .o (.bin .add (.t 41) (.c (.i .i64 (1))))⟩,
 ⟨(some 7), none, .o (.mov (.t 42))⟩]))))))
 (.seq (.reg [⟨(some 47), none, .o (.mov (.t 5))⟩,
 ⟨(some 48), none, .o (.mov (.t 0))⟩,
 ⟨(some 49), none, .len (.t 48)⟩,
 ⟨(some 50), none, .slc (.t 47) none (some (.t 49)) 8⟩,
 ⟨(some 4), none, .o (.mov (.t 50))⟩])
 .ret))))))⟩
def qf_s_l01First : QF := ⟨1, 15, [.t 2],
 (.seq (.reg [⟨(some 1), none, .o (.box (.t 0))⟩,
 ⟨(some 2), none, .o (.mov (.c (.i .i64 (0))))⟩])
 (.seq (.reg [⟨(some 3), none, .o (.mov (.c (.i .i64 (0))))⟩])
 (.seq (.blk 0
 (.loop
 (.seq (.seq (.reg [⟨(some 4), none, .o (.mov (.t 3))⟩,
 ⟨(some 5), none, .o (.bin .lss (.t 4) (.c (.i .i64 (8))))⟩,
 ⟨(some 6), none, .o (.mov (.t 5))⟩,
 ⟨(some 7), (some (6, true)), .o (.mov (.t 3))⟩,
 ⟨(some 8), (some (6, true)), .o (.idx (.t 1) (.t 7) 8 1)⟩,
 ⟨(some 9), (some (6, true)), .ld1 (.t 8)⟩,
 ⟨(some 10), (some (6, true)), .o (.bin .eql (.t 9) (.c (.u 0)))⟩,
 ⟨(some 11), none, .o (.pick (.t 6) (.t 10) (.c (.b false)))⟩])
 (.cond (.t 11)
 .skip
 (.exit 0)))
 (.blk 1
 (.reg [⟨(some 12), none, .o (.mov (.t 3))⟩,
 ⟨(some 13), none, .o (.bin .add (.t 12) (.c (.i .i64 (1))))⟩,
 ⟨(some 3), none, .o (.mov (.t 13))⟩])))))
 (.seq (.reg [⟨(some 14), none, .o (.mov (.t 3))⟩,
 ⟨(some 2), none, .o (.mov (.t 14))⟩])
 .ret))))⟩
def qf_s_l01By : QF := ⟨3, 37, [.c 6 0 8],
 (.seq (.reg [⟨(some 4), none, .o (.box (.t 1))⟩,
 ⟨(some 6), none, .o (.alo (.by 0 8))⟩])
 (.seq (.seq (.reg [⟨(some 7), none, .o (.mov (.c (.i .i64 (0))))⟩])
 (.blk 0
 (.loop
 (.seq (.seq (.reg [⟨(some 9), none, .o (.mov (.t 7))⟩,
 ⟨(some 10), none, .o (.mov (.t 2))⟩,
 ⟨(some 11), none, .len (.t 10)⟩,
 ⟨(some 12), none, .o (.bin .lss (.t 9) (.t 11))⟩])
 (.cond (.t 12)
 .skip
 (.exit 0)))
 (.seq (.blk 1
 (.seq (.reg [⟨(some 15), none, .o (.mov (.t 2))⟩,
 ⟨(some 16), none, .o (.mov (.t 7))⟩,
 ⟨(some 17), none, .ids (.t 15) (.t 16) 8⟩,
 ⟨(some 18), none, .lda (.t 17) 0 8⟩,
 ⟨(some 19), none, .calp 273 [(.t 18)]⟩,
 ⟨(some 8), none, .o (.mov (.t 19))⟩])
 (.seq (.reg [⟨(some 20), none, .o (.mov (.t 8))⟩,
 ⟨(some 21), none, .o (.idx (.t 4) (.t 20) 8 1)⟩,
 ⟨(some 22), none, .ld1 (.t 21)⟩,
 ⟨(some 23), none, .o (.bin .neq (.t 22) (.c (.u 0)))⟩])
 (.cond (.t 23)
 (.drs [0, 0, 0, 0, 12, 28, 0, 64, 192, 448, 960, 2047, 4095]
 [(0, false, ⟨(some 24), none, .o (.mov (.t 0))⟩),
 (1, false, ⟨(some 25), none, .lda (.t 4) 0 8⟩),
 (2, false, ⟨(some 26), none, .o (.mov (.t 2))⟩),
 (3, false, ⟨(some 27), none, .o (.mov (.t 7))⟩),
 (4, false, ⟨(some 28), none, .ids (.t 26) (.t 27) 8⟩),
 (5, false, ⟨(some 29), none, .lda (.t 28) 0 8⟩),
 (6, false, ⟨(some 30), none, .o (.mov (.t 8))⟩),
 (7, false, ⟨(some 31), none, .o (.idx (.t 4) (.t 30) 8 1)⟩),
 (8, false, ⟨(some 32), none, .ld1 (.t 31)⟩),
 (9, false, ⟨(some 33), none, .o (.cvt .i64 (.t 32))⟩),
 (10, false, ⟨(some 34), none, .o (.ng (.t 33))⟩),
 (11, false, ⟨(some 35), none, .calp 57 [(.t 24), (.t 25), (.t 29), (.t 34)]⟩),
 (12, false, ⟨none, none, .sta (.t 4) (.t 35) 8⟩)])
 .skip))))
 (.reg [⟨(some 13), none, .o (.mov (.t 7))⟩,
 ⟨(some 14), none, .o (.bin .add (.t 13) (.c (.i .i64 (1))))⟩,
 ⟨(some 7), none, .o (.mov (.t 14))⟩]))))))
 (.seq (.reg [⟨(some 36), none, .lda (.t 4) 0 8⟩,
 ⟨none, none, .sta (.t 6) (.t 36) 8⟩])
 .ret)))⟩
def qf_s_l01Inverse : QF := ⟨2, 20, [.t 4],
 (.seq (.reg [⟨(some 4), none, .o (.mov (.c (.u 0)))⟩])
 (.seq (.seq (.reg [⟨(some 5), none, .o (.mov (.c (.i .i64 (1))))⟩])
 (.blk 0
 (.loop
 (.seq (.seq (.reg [⟨(some 6), none, .o (.mov (.t 5))⟩,
 ⟨(some 7), none, .o (.mov (.t 0))⟩,
 ⟨(some 8), none, .o (.bin .lss (.t 6) (.t 7))⟩])
 (.cond (.t 8)
 .skip
 (.exit 0)))
 (.seq (.blk 1
 (.seq (.reg [⟨(some 11), none, .o (.mov (.t 5))⟩,
 ⟨(some 12), none, .o (.mov (.t 1))⟩,
 ⟨(some 13), none, .o (.cvt .i64 (.t 12))⟩,
 ⟨(some 14), none, .o (.bin .mul (.t 11) (.t 13))⟩,
 ⟨(some 15), none, .o (.mov (.t 0))⟩,
 ⟨(some 16), none, .o (.bin .rem (.t 14) (.t 15))⟩,
 ⟨(some 17), none, .o (.bin .eql (.t 16) (.c (.i .i64 (1))))⟩])
 (.cond (.t 17)
 (.seq (.reg [⟨(some 18), none, .o (.mov (.t 5))⟩,
 ⟨(some 19), none, .o (.cvt .u8 (.t 18))⟩,
 ⟨(some 4), none, .o (.mov (.t 19))⟩])
 .ret)
 .skip)))
 (.reg [⟨(some 9), none, .o (.mov (.t 5))⟩,
 ⟨(some 10), none, .o (.bin .add (.t 9) (.c (.i .i64 (1))))⟩,
 ⟨(some 5), none, .o (.mov (.t 10))⟩]))))))
 (.seq (.reg [⟨(some 4), none, .o (.mov (.c (.u 0)))⟩])
 .ret)))⟩
def qf_s_l01Put : QF := ⟨3, 77, [.t 6],
 (.seq (.reg [⟨(some 5), none, .o (.box (.t 2))⟩,
 ⟨(some 6), none, .o (.mov (.c .sn))⟩])
 (.seq (.reg [⟨(some 11), none, .o (.mov (.t 0))⟩,
 ⟨(some 12), none, .lda (.t 5) 0 8⟩,
 ⟨(some 13), none, .o (.mov (.t 1))⟩,
 ⟨(some 14), none, .call 272 [(.t 11), (.t 12), (.t 13)]⟩,
 ⟨none, none, .sta (.t 5) (.t 14) 8⟩])
 (.seq (.seq (.reg [⟨(some 15), none, .lda (.t 5) 0 8⟩,
 ⟨(some 16), none, .calp 101 [(.t 15)]⟩])
 (.cond (.t 16)
 (.seq (.reg [⟨(some 17), none, .o (.mov (.t 1))⟩,
 ⟨(some 6), none, .o (.mov (.t 17))⟩])
 .ret)
 .skip))
 (.seq (.reg [⟨(some 18), none, .lda (.t 5) 0 8⟩,
 ⟨(some 19), none, .calp 273 [(.t 18)]⟩,
 ⟨(some 7), none, .o (.mov (.t 19))⟩])
 (.seq (.drs [0, 0, 0, 0, 0, 16, 48, 120, 248, 511, 1023]
 [(0, false, ⟨(some 20), none, .o (.mov (.t 0))⟩),
 (1, false, ⟨(some 21), none, .o (.bld 0 8 [])⟩),
 (2, false, ⟨(some 22), none, .lda (.t 5) 0 8⟩),
 (3, false, ⟨(some 23), none, .o (.mov (.t 0))⟩),
 (4, false, ⟨(some 24), none, .o (.mov (.t 7))⟩),
 (5, false, ⟨(some 25), none, .o (.idx (.t 5) (.t 24) 8 1)⟩),
 (6, false, ⟨(some 26), none, .ld1 (.t 25)⟩),
 (7, false, ⟨(some 27), none, .calp 274 [(.t 23), (.t 26)]⟩),
 (8, false, ⟨(some 28), none, .o (.cvt .i64 (.t 27))⟩),
 (9, false, ⟨(some 29), none, .calp 57 [(.t 20), (.t 21), (.t 22), (.t 28)]⟩),
 (10, false, ⟨none, none, .sta (.t 5) (.t 29) 8⟩)])
 (.seq (.reg [⟨(some 30), none, .o (.bsb 8 [])⟩,
 ⟨(some 8), none, .o (.mov (.t 30))⟩,
 ⟨(some 9), none, .o (.mov (.c (.b false)))⟩])
 (.seq (.seq (.reg [⟨(some 10), none, .o (.mov (.c (.i .i64 (0))))⟩])
 (.blk 0
 (.loop
 (.seq (.seq (.reg [⟨(some 31), none, .o (.mov (.t 10))⟩,
 ⟨(some 32), none, .o (.mov (.t 1))⟩,
 ⟨(some 33), none, .len (.t 32)⟩,
 ⟨(some 34), none, .o (.bin .lss (.t 31) (.t 33))⟩])
 (.cond (.t 34)
 .skip
 (.exit 0)))
 (.seq (.blk 1
 (.seq (.seq (.reg [⟨(some 37), none, .o (.mov (.t 9))⟩,
 ⟨(some 38), none, .o (.nt (.t 37))⟩,
 ⟨(some 39), none, .o (.mov (.t 38))⟩,
 ⟨(some 40), (some (39, true)), .o (.mov (.t 1))⟩,
 ⟨(some 41), (some (39, true)), .o (.mov (.t 10))⟩,
 ⟨(some 42), (some (39, true)), .ids (.t 40) (.t 41) 8⟩,
 ⟨(some 43), (some (39, true)), .lda (.t 42) 0 8⟩,
 ⟨(some 44), (some (39, true)), .calp 273 [(.t 43)]⟩,
 ⟨(some 45), (some (39, true)), .o (.mov (.t 7))⟩,
 ⟨(some 46), (some (39, true)), .o (.bin .gtr (.t 44) (.t 45))⟩,
 ⟨(some 47), none, .o (.pick (.t 39) (.t 46) (.c (.b false)))⟩])
 (.cond (.t 47)
 (.seq (.reg [⟨(some 48), none, .o (.mov (.t 8))⟩,
 ⟨(some 49), none, .lda (.t 5) 0 8⟩,
 ⟨(some 50), none, .o (.bsb 8 [(.t 49)])⟩,
 ⟨(some 51), none, .apb 8 8 (.t 48) (.t 50)⟩,
 ⟨(some 8), none, .o (.mov (.t 51))⟩])
 (.reg [⟨(some 9), none, .o (.mov (.c (.b true)))⟩]))
 .skip))
 (.drs [0, 0, 0, 0, 12, 28, 0, 0, 0, 0, 384, 1920, 3968, 8064, 16256, 32766, 65534, 131071, 262143]
 [(0, false, ⟨(some 52), none, .o (.mov (.t 8))⟩),
 (1, false, ⟨(some 53), none, .o (.mov (.t 0))⟩),
 (2, false, ⟨(some 54), none, .o (.mov (.t 1))⟩),
 (3, false, ⟨(some 55), none, .o (.mov (.t 10))⟩),
 (4, false, ⟨(some 56), none, .ids (.t 54) (.t 55) 8⟩),
 (5, false, ⟨(some 57), none, .lda (.t 56) 0 8⟩),
 (6, false, ⟨(some 58), none, .lda (.t 5) 0 8⟩),
 (7, false, ⟨(some 59), none, .o (.mov (.t 1))⟩),
 (8, false, ⟨(some 60), none, .o (.mov (.t 10))⟩),
 (9, false, ⟨(some 61), none, .o (.mov (.t 7))⟩),
 (10, false, ⟨(some 62), none, .ids (.t 59) (.t 60) 8⟩),
 (11, false, ⟨(some 63), none, .o (.idx (.t 62) (.t 61) 8 1)⟩),
 (12, false, ⟨(some 64), none, .ld1 (.t 63)⟩),
 (13, false, ⟨(some 65), none, .o (.cvt .i64 (.t 64))⟩),
 (14, false, ⟨(some 66), none, .o (.ng (.t 65))⟩),
 (15, false, ⟨(some 67), none, .calp 57 [(.t 53), (.t 57), (.t 58), (.t 66)]⟩),
 (16, false, ⟨(some 68), none, .o (.bsb 8 [(.t 67)])⟩),
 (17, false, ⟨(some 69), none, .apb 8 8 (.t 52) (.t 68)⟩),
 (18, false, ⟨(some 8), none, .o (.mov (.t 69))⟩)])))
 (.reg [⟨(some 35), none, .o (.mov (.t 10))⟩,
 ⟨(some 36), none, .o (.bin .add (.t 35) (.c (.i .i64 (1))))⟩,
 ⟨(some 10), none, .o (.mov (.t 36))⟩]))))))
 (.seq (.seq (.reg [⟨(some 70), none, .o (.mov (.t 9))⟩,
 ⟨(some 71), none, .o (.nt (.t 70))⟩])
 (.cond (.t 71)
 (.reg [⟨(some 72), none, .o (.mov (.t 8))⟩,
 ⟨(some 73), none, .lda (.t 5) 0 8⟩,
 ⟨(some 74), none, .o (.bsb 8 [(.t 73)])⟩,
 ⟨(some 75), none, .apb 8 8 (.t 72) (.t 74)⟩,
 ⟨(some 8), none, .o (.mov (.t 75))⟩])
 .skip))
 (.seq (.reg [⟨(some 76), none, .o (.mov (.t 8))⟩,
 ⟨(some 6), none, .o (.mov (.t 76))⟩])
 .ret)))))))))⟩
def qf_s_l01Reduce : QF := ⟨2, 22, [.t 4],
 (.seq (.reg [⟨(some 4), none, .o (.mov (.c .sn))⟩])
 (.seq (.reg [⟨(some 7), none, .o (.bsb 8 [])⟩,
 ⟨(some 5), none, .o (.mov (.t 7))⟩])
 (.seq (.seq (.reg [⟨(some 6), none, .o (.mov (.c (.i .i64 (0))))⟩])
 (.blk 0
 (.loop
 (.seq (.seq (.reg [⟨(some 8), none, .o (.mov (.t 6))⟩,
 ⟨(some 9), none, .o (.mov (.t 1))⟩,
 ⟨(some 10), none, .len (.t 9)⟩,
 ⟨(some 11), none, .o (.bin .lss (.t 8) (.t 10))⟩])
 (.cond (.t 11)
 .skip
 (.exit 0)))
 (.seq (.blk 1
 (.reg [⟨(some 14), none, .o (.mov (.t 0))⟩,
 ⟨(some 15), none, .o (.mov (.t 5))⟩,
 ⟨(some 16), none, .o (.mov (.t 1))⟩,
 ⟨(some 17), none, .o (.mov (.t 6))⟩,
 ⟨(some 18), none, .ids (.t 16) (.t 17) 8⟩,
 ⟨(some 19), none, .lda (.t 18) 0 8⟩,
 ⟨(some 20), none, .call 266 [(.t 14), (.t 15), (.t 19)]⟩,
 ⟨(some 5), none, .o (.mov (.t 20))⟩]))
 (.reg [⟨(some 12), none, .o (.mov (.t 6))⟩,
 ⟨(some 13), none, .o (.bin .add (.t 12) (.c (.i .i64 (1))))⟩,
 ⟨(some 6), none, .o (.mov (.t 13))⟩]))))))
 (.seq (.reg [⟨(some 21), none, .o (.mov (.t 5))⟩,
 ⟨(some 4), none, .o (.mov (.t 21))⟩])
 .ret))))⟩
def qf_s_l07In : QF := ⟨3, 12, [.t 6],
 (.seq (.reg [⟨(some 4), none, .o (.box (.t 1))⟩,
 ⟨(some 6), none, .o (.mov (.c (.b false)))⟩])
 (.seq (.reg [⟨(some 7), none, .o (.mov (.t 0))⟩,
 ⟨(some 8), none, .lda (.t 4) 0 8⟩,
 ⟨(some 9), none, .o (.mov (.t 2))⟩,
 ⟨(some 10), none, .call 272 [(.t 7), (.t 8), (.t 9)]⟩,
 ⟨(some 11), none, .calp 101 [(.t 10)]⟩,
 ⟨(some 6), none, .o (.mov (.t 11))⟩])
 .ret))⟩
def qf_s_l07Reduced : QF := ⟨3, 70, [.c 6 0 64],
 (.seq (.reg [⟨(some 3), none, .o (.box (.t 0))⟩,
 ⟨(some 4), none, .o (.box (.t 1))⟩,
 ⟨(some 6), none, .o (.alo (.by 0 64))⟩])
 (.seq (.reg [⟨(some 15), none, .o (.bld 0 64 [])⟩,
 ⟨(some 16), none, .o (.bld 0 64 [])⟩,
 ⟨(some 7), none, .o (.alo (.by 0 64))⟩,
 ⟨(some 8), none, .o (.alo (.by 0 64))⟩,
 ⟨none, none, .sta (.t 7) (.t 15) 64⟩,
 ⟨none, none, .sta (.t 8) (.t 16) 64⟩])
 (.seq (.seq (.reg [⟨(some 9), none, .o (.mov (.c (.i .i64 (0))))⟩])
 (.blk 0
 (.loop
 (.seq (.seq (.reg [⟨(some 17), none, .o (.mov (.t 9))⟩,
 ⟨(some 18), none, .o (.add (.t 3) 1)⟩,
 ⟨(some 19), none, .ld1 (.t 18)⟩,
 ⟨(some 20), none, .o (.bin .lss (.t 17) (.t 19))⟩])
 (.cond (.t 20)
 .skip
 (.exit 0)))
 (.seq (.blk 1
 (.seq (.drf [0, 1, 0, 4, 12, 0, 63, 0, 255]
 [(0, false, ⟨(some 23), none, .o (.add (.t 3) 0)⟩),
 (1, true, ⟨(some 24), none, .ld1 (.t 23)⟩),
 (2, false, ⟨(some 25), none, .o (.mov (.t 9))⟩),
 (3, false, ⟨(some 26), none, .o (.idx (.t 4) (.t 25) 8 8)⟩),
 (4, true, ⟨(some 27), none, .lda (.t 26) 0 8⟩),
 (5, false, ⟨(some 28), none, .o (.mov (.t 2))⟩)]
 (6, true, ⟨(some 29), none, .call 272 [(.t 24), (.t 27), (.t 28)]⟩)
 (7, false, ⟨(some 10), none, .o (.alo (.by 0 8))⟩)
 [(8, true, ⟨none, none, .sta (.t 10) (.t 29) 8⟩)])
 (.seq (.reg [⟨(some 11), none, .o (.mov (.c (.i .i64 (0))))⟩])
 (.blk 2
 (.loop
 (.seq (.seq (.reg [⟨(some 30), none, .o (.mov (.t 11))⟩,
 ⟨(some 31), none, .o (.add (.t 3) 1)⟩,
 ⟨(some 32), none, .ld1 (.t 31)⟩,
 ⟨(some 33), none, .o (.bin .lss (.t 30) (.t 32))⟩])
 (.cond (.t 33)
 .skip
 (.exit 2)))
 (.seq (.blk 3
 (.drs [0, 0, 0, 4, 12, 1, 63, 127]
 [(0, false, ⟨(some 36), none, .o (.mov (.t 11))⟩),
 (1, false, ⟨(some 37), none, .o (.mov (.t 9))⟩),
 (2, false, ⟨(some 38), none, .o (.mov (.t 11))⟩),
 (3, false, ⟨(some 39), none, .o (.idx (.t 10) (.t 38) 8 1)⟩),
 (4, false, ⟨(some 40), none, .ld1 (.t 39)⟩),
 (5, false, ⟨(some 41), none, .o (.idx (.t 8) (.t 36) 8 8)⟩),
 (6, false, ⟨(some 42), none, .o (.idx (.t 41) (.t 37) 8 1)⟩),
 (7, false, ⟨none, none, .st1 (.t 42) (.t 40)⟩)]))
 (.reg [⟨(some 34), none, .o (.mov (.t 11))⟩,
 ⟨(some 35), none, .o (.bin .add (.t 34) (.c (.i .i64 (1))))⟩,
 ⟨(some 11), none, .o (.mov (.t 35))⟩]))))))))
 (.reg [⟨(some 21), none, .o (.mov (.t 9))⟩,
 ⟨(some 22), none, .o (.bin .add (.t 21) (.c (.i .i64 (1))))⟩,
 ⟨(some 9), none, .o (.mov (.t 22))⟩]))))))
 (.seq (.seq (.reg [⟨(some 12), none, .o (.mov (.c (.i .i64 (0))))⟩])
 (.blk 4
 (.loop
 (.seq (.seq (.reg [⟨(some 43), none, .o (.mov (.t 12))⟩,
 ⟨(some 44), none, .o (.add (.t 3) 1)⟩,
 ⟨(some 45), none, .ld1 (.t 44)⟩,
 ⟨(some 46), none, .o (.bin .lss (.t 43) (.t 45))⟩])
 (.cond (.t 46)
 .skip
 (.exit 4)))
 (.seq (.blk 5
 (.seq (.drf [0, 1, 0, 4, 12, 0, 63, 0, 255]
 [(0, false, ⟨(some 49), none, .o (.add (.t 3) 0)⟩),
 (1, true, ⟨(some 50), none, .ld1 (.t 49)⟩),
 (2, false, ⟨(some 51), none, .o (.mov (.t 12))⟩),
 (3, false, ⟨(some 52), none, .o (.idx (.t 8) (.t 51) 8 8)⟩),
 (4, true, ⟨(some 53), none, .lda (.t 52) 0 8⟩),
 (5, false, ⟨(some 54), none, .o (.mov (.t 2))⟩)]
 (6, true, ⟨(some 55), none, .call 272 [(.t 50), (.t 53), (.t 54)]⟩)
 (7, false, ⟨(some 13), none, .o (.alo (.by 0 8))⟩)
 [(8, true, ⟨none, none, .sta (.t 13) (.t 55) 8⟩)])
 (.seq (.reg [⟨(some 14), none, .o (.mov (.c (.i .i64 (0))))⟩])
 (.blk 6
 (.loop
 (.seq (.seq (.reg [⟨(some 56), none, .o (.mov (.t 14))⟩,
 ⟨(some 57), none, .o (.add (.t 3) 1)⟩,
 ⟨(some 58), none, .ld1 (.t 57)⟩,
 ⟨(some 59), none, .o (.bin .lss (.t 56) (.t 58))⟩])
 (.cond (.t 59)
 .skip
 (.exit 6)))
 (.seq (.blk 7
 (.drs [0, 0, 0, 4, 12, 1, 63, 127]
 [(0, false, ⟨(some 62), none, .o (.mov (.t 14))⟩),
 (1, false, ⟨(some 63), none, .o (.mov (.t 12))⟩),
 (2, false, ⟨(some 64), none, .o (.mov (.t 14))⟩),
 (3, false, ⟨(some 65), none, .o (.idx (.t 13) (.t 64) 8 1)⟩),
 (4, false, ⟨(some 66), none, .ld1 (.t 65)⟩),
 (5, false, ⟨(some 67), none, .o (.idx (.t 7) (.t 62) 8 8)⟩),
 (6, false, ⟨(some 68), none, .o (.idx (.t 67) (.t 63) 8 1)⟩),
 (7, false, ⟨none, none, .st1 (.t 68) (.t 66)⟩)]))
 (.reg [⟨(some 60), none, .o (.mov (.t 14))⟩,
 ⟨(some 61), none, .o (.bin .add (.t 60) (.c (.i .i64 (1))))⟩,
 ⟨(some 14), none, .o (.mov (.t 61))⟩]))))))))
 (.reg [⟨(some 47), none, .o (.mov (.t 12))⟩,
 ⟨(some 48), none, .o (.bin .add (.t 47) (.c (.i .i64 (1))))⟩,
 ⟨(some 12), none, .o (.mov (.t 48))⟩]))))))
 (.seq (.reg [⟨(some 69), none, .lda (.t 7) 0 64⟩,
 ⟨none, none, .sta (.t 6) (.t 69) 64⟩])
 .ret)))))⟩
def qf_s_l07Ideal : QF := ⟨2, 86, [.t 4],
 (.seq (.reg [⟨(some 2), none, .o (.box (.t 0))⟩,
 ⟨(some 4), none, .o (.mov (.c (.b false)))⟩])
 (.seq (.drs [0, 1, 0, 4, 0, 16, 0, 115, 255, 511]
 [(0, false, ⟨(some 10), none, .o (.add (.t 2) 0)⟩),
 (1, true, ⟨(some 11), none, .ld1 (.t 10)⟩),
 (2, false, ⟨(some 12), none, .o (.add (.t 2) 1)⟩),
 (3, true, ⟨(some 13), none, .ld1 (.t 12)⟩),
 (4, true, ⟨(some 14), none, .lda (.t 2) 2 1106⟩),
 (5, false, ⟨(some 15), none, .calp 35 [(.t 14)]⟩),
 (6, false, ⟨(some 7), none, .o (.alo (.by 2 522))⟩),
 (7, false, ⟨(some 5), none, .o (.mov (.t 11))⟩),
 (8, false, ⟨(some 6), none, .o (.mov (.t 13))⟩),
 (9, true, ⟨none, none, .sta (.t 7) (.t 15) 522⟩)])
 (.seq (.seq (.reg [⟨(some 8), none, .o (.mov (.c (.i .i64 (0))))⟩])
 (.blk 0
 (.loop
 (.seq (.seq (.reg [⟨(some 16), none, .o (.mov (.t 8))⟩,
 ⟨(some 17), none, .o (.mov (.t 1))⟩,
 ⟨(some 18), none, .len (.t 17)⟩,
 ⟨(some 19), none, .o (.bin .lss (.t 16) (.t 18))⟩])
 (.cond (.t 19)
 .skip
 (.exit 0)))
 (.seq (.blk 1
 (.seq (.seq (.drs [0, 0, 0, 6, 14, 31, 63, 127, 255, 255, 255, 255, 2303, 255, 255, 24831, 57599, 130815, 255, 524287, 1048575, 2097151]
 [(0, false, ⟨(some 22), none, .lda (.t 2) 2 1106⟩),
 (1, false, ⟨(some 23), none, .o (.mov (.t 1))⟩),
 (2, false, ⟨(some 24), none, .o (.mov (.t 8))⟩),
 (3, false, ⟨(some 25), none, .ids (.t 23) (.t 24) 8⟩),
 (4, false, ⟨(some 26), none, .lda (.t 25) 0 8⟩),
 (5, false, ⟨(some 27), none, .calp 79 [(.t 22), (.t 26)]⟩),
 (6, false, ⟨(some 28), none, .o (.bin .neq (.t 27) (.c (.i .i64 (0))))⟩),
 (7, false, ⟨(some 29), none, .o (.mov (.t 28))⟩),
 (8, false, ⟨(some 30), (some (29, false)), .o (.mov (.t 5))⟩),
 (9, false, ⟨(some 31), (some (29, false)), .o (.mov (.t 5))⟩),
 (10, false, ⟨(some 32), (some (29, false)), .o (.mov (.t 6))⟩),
 (11, false, ⟨(some 33), (some (29, false)), .o (.add (.t 2) 1042)⟩),
 (12, false, ⟨(some 34), (some (29, false)), .lda (.t 33) 0 64⟩),
 (13, false, ⟨(some 35), (some (29, false)), .o (.mov (.t 1))⟩),
 (14, false, ⟨(some 36), (some (29, false)), .o (.mov (.t 8))⟩),
 (15, false, ⟨(some 37), (some (29, false)), .ids (.t 35) (.t 36) 8⟩),
 (16, false, ⟨(some 38), (some (29, false)), .lda (.t 37) 0 8⟩),
 (17, false, ⟨(some 39), (some (29, false)), .calp 51 [(.t 31), (.t 32), (.t 34), (.t 38)]⟩),
 (18, false, ⟨(some 40), (some (29, false)), .o (.mov (.t 1))⟩),
 (19, false, ⟨(some 41), (some (29, false)), .call 375 [(.t 30), (.t 39), (.t 40)]⟩),
 (20, false, ⟨(some 42), (some (29, false)), .o (.nt (.t 41))⟩),
 (21, false, ⟨(some 43), none, .o (.pick (.t 29) (.c (.b true)) (.t 42))⟩)])
 (.cond (.t 43)
 (.seq (.reg [⟨(some 4), none, .o (.mov (.c (.b false)))⟩])
 .ret)
 .skip))
 (.seq (.seq (.reg [⟨(some 9), none, .o (.mov (.c (.i .i64 (0))))⟩])
 (.blk 2
 (.loop
 (.seq (.seq (.reg [⟨(some 44), none, .o (.mov (.t 9))⟩,
 ⟨(some 45), none, .o (.mov (.t 6))⟩,
 ⟨(some 46), none, .o (.bin .lss (.t 44) (.t 45))⟩])
 (.cond (.t 46)
 .skip
 (.exit 2)))
 (.seq (.blk 3
 (.seq (.drs [0, 0, 0, 4, 0, 0, 48, 112, 254, 0, 1023, 2047, 4095, 8191, 8191, 8191, 8191, 106495, 237567, 8191, 532479, 2088959, 8191, 8388607, 16777215, 33554431]
 [(0, false, ⟨(some 49), none, .o (.mov (.t 5))⟩),
 (1, false, ⟨(some 50), none, .lda (.t 7) 2 522⟩),
 (2, false, ⟨(some 51), none, .o (.mov (.t 9))⟩),
 (3, false, ⟨(some 52), none, .calp 55 [(.t 51)]⟩),
 (4, false, ⟨(some 53), none, .o (.mov (.t 1))⟩),
 (5, false, ⟨(some 54), none, .o (.mov (.t 8))⟩),
 (6, false, ⟨(some 55), none, .ids (.t 53) (.t 54) 8⟩),
 (7, false, ⟨(some 56), none, .lda (.t 55) 0 8⟩),
 (8, false, ⟨(some 57), none, .calp 56 [(.t 50), (.t 52), (.t 56)]⟩),
 (9, false, ⟨(some 58), none, .o (.mov (.t 1))⟩),
 (10, false, ⟨(some 59), none, .call 375 [(.t 49), (.t 57), (.t 58)]⟩),
 (11, false, ⟨(some 60), none, .o (.nt (.t 59))⟩),
 (12, false, ⟨(some 61), none, .o (.mov (.t 60))⟩),
 (13, false, ⟨(some 62), (some (61, false)), .o (.mov (.t 5))⟩),
 (14, false, ⟨(some 63), (some (61, false)), .lda (.t 7) 2 522⟩),
 (15, false, ⟨(some 64), (some (61, false)), .o (.mov (.t 1))⟩),
 (16, false, ⟨(some 65), (some (61, false)), .o (.mov (.t 8))⟩),
 (17, false, ⟨(some 66), (some (61, false)), .ids (.t 64) (.t 65) 8⟩),
 (18, false, ⟨(some 67), (some (61, false)), .lda (.t 66) 0 8⟩),
 (19, false, ⟨(some 68), (some (61, false)), .o (.mov (.t 9))⟩),
 (20, false, ⟨(some 69), (some (61, false)), .calp 55 [(.t 68)]⟩),
 (21, false, ⟨(some 70), (some (61, false)), .calp 56 [(.t 63), (.t 67), (.t 69)]⟩),
 (22, false, ⟨(some 71), (some (61, false)), .o (.mov (.t 1))⟩),
 (23, false, ⟨(some 72), (some (61, false)), .call 375 [(.t 62), (.t 70), (.t 71)]⟩),
 (24, false, ⟨(some 73), (some (61, false)), .o (.nt (.t 72))⟩),
 (25, false, ⟨(some 74), none, .o (.pick (.t 61) (.c (.b true)) (.t 73))⟩)])
 (.cond (.t 74)
 (.seq (.reg [⟨(some 4), none, .o (.mov (.c (.b false)))⟩])
 .ret)
 .skip)))
 (.reg [⟨(some 47), none, .o (.mov (.t 9))⟩,
 ⟨(some 48), none, .o (.bin .add (.t 47) (.c (.i .i64 (1))))⟩,
 ⟨(some 9), none, .o (.mov (.t 48))⟩]))))))
 (.seq (.drs [0, 0, 0, 0, 12, 28, 62, 0, 255, 0, 1023]
 [(0, false, ⟨(some 75), none, .lda (.t 2) 2 1106⟩),
 (1, false, ⟨(some 76), none, .lda (.t 2) 2 1106⟩),
 (2, false, ⟨(some 77), none, .o (.mov (.t 1))⟩),
 (3, false, ⟨(some 78), none, .o (.mov (.t 8))⟩),
 (4, false, ⟨(some 79), none, .ids (.t 77) (.t 78) 8⟩),
 (5, false, ⟨(some 80), none, .lda (.t 79) 0 8⟩),
 (6, false, ⟨(some 81), none, .calp 54 [(.t 76), (.t 80)]⟩),
 (7, false, ⟨(some 82), none, .o (.mov (.t 1))⟩),
 (9, false, ⟨(some 84), none, .o (.bld 0 64 [])⟩),
 (8, false, ⟨(some 83), none, .call 376 [(.t 75), (.t 81), (.t 82)]⟩),
 (10, false, ⟨(some 85), none, .o (.eqa true 64 (.t 83) (.t 84))⟩)])
 (.cond (.t 85)
 (.seq (.reg [⟨(some 4), none, .o (.mov (.c (.b false)))⟩])
 .ret)
 .skip)))))
 (.reg [⟨(some 20), none, .o (.mov (.t 8))⟩,
 ⟨(some 21), none, .o (.bin .add (.t 20) (.c (.i .i64 (1))))⟩,
 ⟨(some 8), none, .o (.mov (.t 21))⟩]))))))
 (.seq (.reg [⟨(some 4), none, .o (.mov (.c (.b true)))⟩])
 .ret))))⟩
def qf_s_IsHopfIdeal : QF := ⟨2, 19, [.t 4, .t 5],
 (.seq (.reg [⟨(some 2), none, .o (.box (.t 0))⟩,
 ⟨(some 4), none, .o (.mov (.c (.b false)))⟩,
 ⟨(some 5), none, .o (.mov (.c (.i .i64 (0))))⟩])
 (.seq (.seq (.reg [⟨(some 7), none, .lda (.t 2) 2 1106⟩,
 ⟨(some 8), none, .o (.mov (.t 1))⟩,
 ⟨(some 9), none, .call 40 [(.t 7), (.t 8)]⟩,
 ⟨(some 6), none, .o (.mov (.t 9))⟩])
 (.seq (.reg [⟨(some 10), none, .o (.mov (.t 6))⟩,
 ⟨(some 11), none, .o (.bin .neq (.t 10) (.c (.i .i64 (0))))⟩])
 (.cond (.t 11)
 (.seq (.reg [⟨(some 12), none, .o (.mov (.t 6))⟩,
 ⟨(some 4), none, .o (.mov (.c (.b false)))⟩,
 ⟨(some 5), none, .o (.mov (.t 12))⟩])
 .ret)
 .skip)))
 (.seq (.drs [0, 0, 2, 0, 14, 31, 63, 127]
 [(0, true, ⟨(some 13), none, .lda (.t 2) 2 1106⟩),
 (1, false, ⟨(some 14), none, .o (.add (.t 2) 0)⟩),
 (2, false, ⟨(some 15), none, .ld1 (.t 14)⟩),
 (3, false, ⟨(some 16), none, .o (.mov (.t 1))⟩),
 (4, false, ⟨(some 17), none, .call 270 [(.t 15), (.t 16)]⟩),
 (5, true, ⟨(some 18), none, .call 368 [(.t 13), (.t 17)]⟩),
 (6, false, ⟨(some 4), none, .o (.mov (.t 18))⟩),
 (7, false, ⟨(some 5), none, .o (.mov (.c (.i .i64 (0))))⟩)])
 .ret)))⟩
def qf_l_eqVectorS : QF := ⟨2, 27, [.t 4],
 (.seq (.reg [⟨(some 4), none, .o (.mov (.c (.b false)))⟩])
 (.seq (.seq (.reg [⟨(some 6), none, .o (.mov (.t 0))⟩,
 ⟨(some 7), none, .len (.t 6)⟩,
 ⟨(some 8), none, .o (.mov (.t 1))⟩,
 ⟨(some 9), none, .len (.t 8)⟩,
 ⟨(some 10), none, .o (.bin .neq (.t 7) (.t 9))⟩])
 (.cond (.t 10)
 (.seq (.reg [⟨(some 4), none, .o (.mov (.c (.b false)))⟩])
 .ret)
 .skip))
 (.seq (.seq (.reg [⟨(some 5), none, .o (.mov (.c (.i .i64 (0))))⟩])
 (.blk 0
 (.loop
 (.seq (.seq (.reg [⟨(some 11), none, .o (.mov (.t 5))⟩,
 ⟨(some 12), none, .o (.mov (.t 0))⟩,
 ⟨(some 13), none, .len (.t 12)⟩,
 ⟨(some 14), none, .o (.bin .lss (.t 11) (.t 13))⟩])
 (.cond (.t 14)
 .skip
 (.exit 0)))
 (.seq (.blk 1
 (.seq (.drs [0, 0, 3, 7, 0, 0, 48, 112, 255, 511]
 [(0, false, ⟨(some 17), none, .o (.mov (.t 0))⟩),
 (1, false, ⟨(some 18), none, .o (.mov (.t 5))⟩),
 (2, false, ⟨(some 19), none, .ids (.t 17) (.t 18) 8⟩),
 (3, false, ⟨(some 20), none, .lda (.t 19) 0 8⟩),
 (4, false, ⟨(some 21), none, .o (.mov (.t 1))⟩),
 (5, false, ⟨(some 22), none, .o (.mov (.t 5))⟩),
 (6, false, ⟨(some 23), none, .ids (.t 21) (.t 22) 8⟩),
 (7, false, ⟨(some 24), none, .lda (.t 23) 0 8⟩),
 (8, false, ⟨(some 25), none, .calp 19 [(.t 20), (.t 24)]⟩),
 (9, false, ⟨(some 26), none, .o (.nt (.t 25))⟩)])
 (.cond (.t 26)
 (.seq (.reg [⟨(some 4), none, .o (.mov (.c (.b false)))⟩])
 .ret)
 .skip)))
 (.reg [⟨(some 15), none, .o (.mov (.t 5))⟩,
 ⟨(some 16), none, .o (.bin .add (.t 15) (.c (.i .i64 (1))))⟩,
 ⟨(some 5), none, .o (.mov (.t 16))⟩]))))))
 (.seq (.reg [⟨(some 4), none, .o (.mov (.c (.b true)))⟩])
 .ret))))⟩
def qf_l_intactVectorS : QF := ⟨2, 26, [.t 4],
 (.seq (.reg [⟨(some 4), none, .o (.mov (.c (.b false)))⟩])
 (.seq (.reg [⟨(some 6), none, .o (.mov (.t 1))⟩,
 ⟨(some 7), none, .len (.t 6)⟩,
 ⟨(some 8), none, .o (.mov (.t 1))⟩,
 ⟨(some 9), none, .len (.t 8)⟩,
 ⟨(some 10), none, .calp 364 [(.t 9)]⟩,
 ⟨(some 11), none, .o (.bin .add (.t 7) (.t 10))⟩,
 ⟨(some 5), none, .o (.mov (.t 11))⟩])
 (.seq (.drs [0, 1, 0, 4, 15, 31, 63, 63, 255, 63, 63, 1599, 4095, 8191, 16383]
 [(0, false, ⟨(some 12), none, .o (.mov (.t 0))⟩),
 (1, false, ⟨(some 13), none, .len (.t 12)⟩),
 (2, false, ⟨(some 14), none, .o (.mov (.t 1))⟩),
 (3, false, ⟨(some 15), none, .len (.t 14)⟩),
 (4, false, ⟨(some 16), none, .o (.bin .eql (.t 13) (.t 15))⟩),
 (5, false, ⟨(some 17), none, .o (.mov (.t 16))⟩),
 (6, false, ⟨(some 18), (some (17, true)), .o (.mov (.t 0))⟩),
 (7, false, ⟨(some 19), (some (17, true)), .o (.mov (.t 5))⟩),
 (8, false, ⟨(some 20), (some (17, true)), .slc (.t 18) none (some (.t 19)) 8⟩),
 (9, false, ⟨(some 21), (some (17, true)), .o (.mov (.t 1))⟩),
 (10, false, ⟨(some 22), (some (17, true)), .o (.mov (.t 5))⟩),
 (11, false, ⟨(some 23), (some (17, true)), .slc (.t 21) none (some (.t 22)) 8⟩),
 (12, false, ⟨(some 24), (some (17, true)), .call 247 [(.t 20), (.t 23)]⟩),
 (13, false, ⟨(some 25), none, .o (.pick (.t 17) (.t 24) (.c (.b false)))⟩),
 (14, false, ⟨(some 4), none, .o (.mov (.t 25))⟩)])
 .ret)))⟩
def qf_l_FnExactIsHopfIdeal : QF := ⟨2, 64, [.t 4],
 (.seq (.reg [⟨(some 2), none, .o (.box (.t 0))⟩,
 ⟨(some 4), none, .o (.mov (.c (.b false)))⟩])
 (.seq (.reg [⟨(some 5), none, .o (.mov (.c (.i .i64 (1000000))))⟩])
 (.seq (.reg [⟨(some 13), none, .o (.mov (.t 1))⟩,
 ⟨(some 14), none, .o (.mov (.t 5))⟩,
 ⟨(some 15), none, .call 348 [(.t 13), (.t 14)]⟩,
 ⟨(some 5), none, .o (.mov (.t 15))⟩])
 (.seq (.seq (.reg [⟨(some 16), none, .o (.mov (.t 5))⟩,
 ⟨(some 17), none, .o (.bin .lss (.t 16) (.c (.i .i64 (0))))⟩])
 (.cond (.t 17)
 (.seq (.reg [⟨(some 4), none, .o (.mov (.c (.b true)))⟩])
 .ret)
 .skip))
 (.seq (.reg [⟨(some 19), none, .lda (.t 2) 2 1106⟩,
 ⟨(some 20), none, .calp 0 [(.t 19)]⟩,
 ⟨(some 21), none, .o (.mov (.t 1))⟩,
 ⟨(some 22), none, .call 349 [(.t 21), (.c (.b false))]⟩,
 ⟨(some 23), none, .call 357 [(.t 20), (.t 22)]⟩,
 ⟨(some 18), none, .o (.mov (.t 23))⟩,
 ⟨(some 24), none, .o (.ext (.t 18) 0)⟩,
 ⟨(some 25), none, .o (.ext (.t 18) 1)⟩,
 ⟨(some 6), none, .o (.mov (.t 24))⟩,
 ⟨(some 7), none, .o (.mov (.t 25))⟩])
 (.seq (.reg [⟨(some 26), none, .o (.mov (.t 1))⟩,
 ⟨(some 27), none, .call 349 [(.t 26), (.c (.b false))]⟩,
 ⟨(some 8), none, .o (.mov (.t 27))⟩])
 (.seq (.reg [⟨(some 29), none, .lda (.t 2) 2 1106⟩,
 ⟨(some 30), none, .calp 0 [(.t 29)]⟩,
 ⟨(some 31), none, .o (.mov (.t 8))⟩,
 ⟨(some 32), none, .call 358 [(.t 30), (.t 31)]⟩,
 ⟨(some 28), none, .o (.mov (.t 32))⟩,
 ⟨(some 33), none, .o (.ext (.t 28) 0)⟩,
 ⟨(some 34), none, .o (.ext (.t 28) 1)⟩,
 ⟨(some 9), none, .o (.mov (.t 33))⟩,
 ⟨(some 10), none, .o (.mov (.t 34))⟩])
 (.seq (.seq (.reg [⟨(some 35), none, .o (.mov (.t 9))⟩,
 ⟨(some 36), none, .o (.mov (.t 6))⟩,
 ⟨(some 37), none, .o (.eqb true (.t 35) (.t 36))⟩,
 ⟨(some 38), none, .o (.mov (.t 37))⟩,
 ⟨(some 39), (some (38, false)), .o (.mov (.t 10))⟩,
 ⟨(some 40), (some (38, false)), .o (.mov (.t 7))⟩,
 ⟨(some 41), (some (38, false)), .o (.bin .neq (.t 39) (.t 40))⟩,
 ⟨(some 42), none, .o (.pick (.t 38) (.c (.b true)) (.t 41))⟩])
 (.cond (.t 42)
 (.seq (.reg [⟨(some 4), none, .o (.mov (.c (.b false)))⟩])
 .ret)
 .skip))
 (.seq (.seq (.reg [⟨(some 43), none, .o (.mov (.t 8))⟩,
 ⟨(some 44), none, .o (.mov (.t 1))⟩,
 ⟨(some 45), none, .call 349 [(.t 44), (.c (.b false))]⟩,
 ⟨(some 46), none, .call 352 [(.t 43), (.t 45)]⟩,
 ⟨(some 47), none, .o (.nt (.t 46))⟩])
 (.cond (.t 47)
 (.seq (.reg [⟨(some 4), none, .o (.mov (.c (.b false)))⟩])
 .ret)
 .skip))
 (.seq (.reg [⟨(some 49), none, .lda (.t 2) 2 1106⟩,
 ⟨(some 50), none, .calp 0 [(.t 49)]⟩,
 ⟨(some 51), none, .o (.mov (.t 1))⟩,
 ⟨(some 52), none, .call 349 [(.t 51), (.c (.b true))]⟩,
 ⟨(some 53), none, .call 358 [(.t 50), (.t 52)]⟩,
 ⟨(some 48), none, .o (.mov (.t 53))⟩,
 ⟨(some 54), none, .o (.ext (.t 48) 0)⟩,
 ⟨(some 55), none, .o (.ext (.t 48) 1)⟩,
 ⟨(some 11), none, .o (.mov (.t 54))⟩,
 ⟨(some 12), none, .o (.mov (.t 55))⟩])
 (.seq (.seq (.reg [⟨(some 56), none, .o (.mov (.t 11))⟩,
 ⟨(some 57), none, .o (.mov (.t 6))⟩,
 ⟨(some 58), none, .o (.eqb true (.t 56) (.t 57))⟩,
 ⟨(some 59), none, .o (.mov (.t 58))⟩,
 ⟨(some 60), (some (59, false)), .o (.mov (.t 12))⟩,
 ⟨(some 61), (some (59, false)), .o (.mov (.t 7))⟩,
 ⟨(some 62), (some (59, false)), .o (.bin .neq (.t 60) (.t 61))⟩,
 ⟨(some 63), none, .o (.pick (.t 59) (.c (.b true)) (.t 62))⟩])
 (.cond (.t 63)
 (.seq (.reg [⟨(some 4), none, .o (.mov (.c (.b false)))⟩])
 .ret)
 .skip))
 (.seq (.reg [⟨(some 4), none, .o (.mov (.c (.b true)))⟩])
 .ret))))))))))))⟩
def F_i_Hopf_antipode (P : Program) (ρ : Nat → FuncId) : Prop := chkQF P ρ 374 qf_i_Hopf_antipode = true ∧ E_i_Hopf_field P ρ ∧ E_i_field_apply P ρ
def F_x_IndexFunc_B (P : Program) (ρ : Nat → FuncId) : Prop := chkQF P ρ 319 qf_x_IndexFunc_B = true
def F_i_lead_1 (P : Program) (ρ : Nat → FuncId) : Prop := chkQF P ρ 320 qf_i_lead_1 = true
def F_i_lead (P : Program) (ρ : Nat → FuncId) : Prop := chkQF P ρ 316 qf_i_lead = true ∧ F_x_IndexFunc_B P ρ ∧ F_i_lead_1 P ρ
def F_i_field_rest (P : Program) (ρ : Nat → FuncId) : Prop := chkQF P ρ 379 qf_i_field_rest = true ∧ F_i_lead P ρ ∧ E_i_field_plus P ρ
def F_i_within_1 (P : Program) (ρ : Nat → FuncId) : Prop := chkQF P ρ 380 qf_i_within_1 = true ∧ F_i_field_rest P ρ
def F_x_IndexFunc_V2 (P : Program) (ρ : Nat → FuncId) : Prop := chkQF P ρ 91 qf_x_IndexFunc_V2 = true
def F_x_ContainsFunc_V2 (P : Program) (ρ : Nat → FuncId) : Prop := chkQF P ρ 70 qf_x_ContainsFunc_V2 = true ∧ F_x_IndexFunc_V2 P ρ
def F_i_within (P : Program) (ρ : Nat → FuncId) : Prop := chkQF P ρ 378 qf_i_within = true ∧ F_i_within_1 P ρ ∧ F_x_ContainsFunc_V2 P ρ
def F_i_Hopf_holds (P : Program) (ρ : Nat → FuncId) : Prop := chkQF P ρ 372 qf_i_Hopf_holds = true ∧ F_i_within P ρ
def F_i_field_restTable (P : Program) (ρ : Nat → FuncId) : Prop := chkQF P ρ 377 qf_i_field_restTable = true ∧ F_i_field_rest P ρ ∧ E_i_transposed P ρ
def F_i_Hopf_isIdeal (P : Program) (ρ : Nat → FuncId) : Prop := chkQF P ρ 369 qf_i_Hopf_isIdeal = true ∧ E_i_Hopf_field P ρ ∧ E_i_basis P ρ ∧ E_i_Hopf_product P ρ ∧ F_i_Hopf_holds P ρ ∧ F_i_Hopf_antipode P ρ ∧ E_i_Hopf_counit P ρ ∧ E_i_Hopf_coproduct P ρ ∧ F_i_field_restTable P ρ
def F_i_newSystem (P : Program) (ρ : Nat → FuncId) : Prop := chkQF P ρ 271 qf_i_newSystem = true
def F_x_Clone_B (P : Program) (ρ : Nat → FuncId) : Prop := chkQF P ρ 289 qf_x_Clone_B = true
def F_i_system_solve_1 (P : Program) (ρ : Nat → FuncId) : Prop := chkQF P ρ 276 qf_i_system_solve_1 = true
def F_x_IndexFunc_R (P : Program) (ρ : Nat → FuncId) : Prop := chkQF P ρ 277 qf_x_IndexFunc_R = true
def F_i_field_inverse (P : Program) (ρ : Nat → FuncId) : Prop := chkQF P ρ 279 qf_i_field_inverse = true
def F_i_system_clear (P : Program) (ρ : Nat → FuncId) : Prop := chkQF P ρ 280 qf_i_system_clear = true ∧ F_i_field_inverse P ρ ∧ E_i_field_mod P ρ
def F_i_system_solve_2 (P : Program) (ρ : Nat → FuncId) : Prop := chkQF P ρ 282 qf_i_system_solve_2 = true
def F_x_ContainsFunc_R (P : Program) (ρ : Nat → FuncId) : Prop := chkQF P ρ 281 qf_x_ContainsFunc_R = true ∧ F_x_IndexFunc_R P ρ
def F_i_system_solve (P : Program) (ρ : Nat → FuncId) : Prop := chkQF P ρ 287 qf_i_system_solve = true ∧ F_i_system_solve_1 P ρ ∧ F_x_IndexFunc_R P ρ ∧ F_i_system_clear P ρ ∧ F_i_system_solve_2 P ρ ∧ F_x_ContainsFunc_R P ρ
def F_i_reduced (P : Program) (ρ : Nat → FuncId) : Prop := chkQF P ρ 267 qf_i_reduced = true ∧ F_i_newSystem P ρ ∧ F_x_Clone_B P ρ ∧ F_i_system_solve P ρ
def F_i_Hopf_span (P : Program) (ρ : Nat → FuncId) : Prop := chkQF P ρ 261 qf_i_Hopf_span = true ∧ F_i_reduced P ρ
def F_i_IsHopfIdeal (P : Program) (ρ : Nat → FuncId) : Prop := chkQF P ρ 358 qf_i_IsHopfIdeal = true ∧ E_i_Hopf_code P ρ ∧ F_i_Hopf_span P ρ ∧ F_i_Hopf_isIdeal P ρ
def F_l_szVectorS (P : Program) (ρ : Nat → FuncId) : Prop := chkQF P ρ 348 qf_l_szVectorS = true
def F_l_roomBehind (P : Program) (ρ : Nat → FuncId) : Prop := chkQF P ρ 364 qf_l_roomBehind = true
def F_l_toVectorS (P : Program) (ρ : Nat → FuncId) : Prop := chkQF P ρ 349 qf_l_toVectorS = true ∧ F_l_roomBehind P ρ ∧ E_l_toVector P ρ
def F_s_l01First (P : Program) (ρ : Nat → FuncId) : Prop := chkQF P ρ 273 qf_s_l01First = true
def F_s_l01By (P : Program) (ρ : Nat → FuncId) : Prop := chkQF P ρ 272 qf_s_l01By = true ∧ F_s_l01First P ρ ∧ E_s_l01Add P ρ
def F_s_l01Inverse (P : Program) (ρ : Nat → FuncId) : Prop := chkQF P ρ 274 qf_s_l01Inverse = true
def F_s_l01Put (P : Program) (ρ : Nat → FuncId) : Prop := chkQF P ρ 266 qf_s_l01Put = true ∧ F_s_l01By P ρ ∧ E_s_l01Zero P ρ ∧ F_s_l01First P ρ ∧ F_s_l01Inverse P ρ ∧ E_s_l01Add P ρ
def F_s_l01Reduce (P : Program) (ρ : Nat → FuncId) : Prop := chkQF P ρ 270 qf_s_l01Reduce = true ∧ F_s_l01Put P ρ
def F_s_l07In (P : Program) (ρ : Nat → FuncId) : Prop := chkQF P ρ 375 qf_s_l07In = true ∧ F_s_l01By P ρ ∧ E_s_l01Zero P ρ
def F_s_l07Reduced (P : Program) (ρ : Nat → FuncId) : Prop := chkQF P ρ 376 qf_s_l07Reduced = true ∧ F_s_l01By P ρ
def F_s_l07Ideal (P : Program) (ρ : Nat → FuncId) : Prop := chkQF P ρ 368 qf_s_l07Ideal = true ∧ E_s_l03Algebra P ρ ∧ E_s_l03Counit P ρ ∧ E_s_l01Apply P ρ ∧ F_s_l07In P ρ ∧ E_s_l01Basis P ρ ∧ E_s_l01Times P ρ ∧ E_s_l03Coproduct P ρ ∧ F_s_l07Reduced P ρ
def F_s_IsHopfIdeal (P : Program) (ρ : Nat → FuncId) : Prop := chkQF P ρ 357 qf_s_IsHopfIdeal = true ∧ E_s_l03Code P ρ ∧ F_s_l01Reduce P ρ ∧ F_s_l07Ideal P ρ
def F_l_eqVectorS (P : Program) (ρ : Nat → FuncId) : Prop := chkQF P ρ 247 qf_l_eqVectorS = true ∧ E_l_eqVector P ρ
def F_l_intactVectorS (P : Program) (ρ : Nat → FuncId) : Prop := chkQF P ρ 352 qf_l_intactVectorS = true ∧ F_l_roomBehind P ρ ∧ F_l_eqVectorS P ρ
def F_l_FnExactIsHopfIdeal (P : Program) (ρ : Nat → FuncId) : Prop := chkQF P ρ 359 qf_l_FnExactIsHopfIdeal = true ∧ F_l_szVectorS P ρ ∧ E_l_toHopf P ρ ∧ F_l_toVectorS P ρ ∧ F_s_IsHopfIdeal P ρ ∧ F_i_IsHopfIdeal P ρ ∧ F_l_intactVectorS P ρ
end Hf
