/- Functions of the program in the second layer's small language. Written by gen2.py. -/
import Derived.Test.YtkkjaohppodccadX
import Derived.Test.YtkkjaohppodccadP
set_option linter.unusedVariables false
set_option linter.unusedSimpArgs false
namespace Hf
open Go
def qf_i_Algebra_opposite : QF := ⟨1, 27, [.c 2 2 522],
 (.seq (.reg [⟨(some 1), none, .o (.box (.t 0))⟩,
 ⟨(some 2), none, .o (.alo (.by 2 522))⟩])
 (.seq (.reg [⟨(some 6), none, .lda (.t 1) 2 522⟩,
 ⟨(some 3), none, .o (.alo (.by 2 522))⟩,
 ⟨none, none, .sta (.t 3) (.t 6) 522⟩])
 (.seq (.seq (.reg [⟨(some 7), none, .o (.mov (.c (.i .i64 (0))))⟩])
 (.blk 0
 (.loop
 (.seq (.reg [⟨(some 8), none, .o (.bin .lss (.t 7) (.c (.i .i64 (8))))⟩])
 (.seq (.cond (.t 8)
 .skip
 (.exit 0))
 (.seq (.blk 1
 (.seq (.reg [⟨(some 9), none, .o (.mov (.t 7))⟩,
 ⟨(some 4), none, .o (.mov (.t 9))⟩])
 (.seq (.reg [⟨(some 10), none, .o (.mov (.c (.i .i64 (0))))⟩])
 (.blk 2
 (.loop
 (.seq (.reg [⟨(some 11), none, .o (.bin .lss (.t 10) (.c (.i .i64 (8))))⟩])
 (.seq (.cond (.t 11)
 .skip
 (.exit 2))
 (.seq (.blk 3
 (.seq (.reg [⟨(some 12), none, .o (.mov (.t 10))⟩,
 ⟨(some 5), none, .o (.mov (.t 12))⟩])
 (.drs [0, 0, 0, 0, 0, 20, 60, 124, 0, 257, 1023, 2047]
 [(0, false, ⟨(some 13), none, .o (.mov (.t 4))⟩),
 (1, false, ⟨(some 14), none, .o (.mov (.t 5))⟩),
 (2, false, ⟨(some 15), none, .o (.mov (.t 5))⟩),
 (3, false, ⟨(some 16), none, .o (.mov (.t 4))⟩),
 (4, false, ⟨(some 17), none, .o (.add (.t 1) 10)⟩),
 (5, false, ⟨(some 18), none, .o (.idx (.t 17) (.t 15) 8 64)⟩),
 (6, false, ⟨(some 19), none, .o (.idx (.t 18) (.t 16) 8 8)⟩),
 (7, false, ⟨(some 20), none, .lda (.t 19) 0 8⟩),
 (8, false, ⟨(some 21), none, .o (.add (.t 3) 10)⟩),
 (9, false, ⟨(some 22), none, .o (.idx (.t 21) (.t 13) 8 64)⟩),
 (10, false, ⟨(some 23), none, .o (.idx (.t 22) (.t 14) 8 8)⟩),
 (11, false, ⟨none, none, .sta (.t 23) (.t 20) 8⟩)])))
 (.reg [⟨(some 24), none, .o (.bin .add (.t 10) (.c (.i .i64 (1))))⟩,
 ⟨(some 10), none, .o (.mov (.t 24))⟩])))))))))
 (.reg [⟨(some 25), none, .o (.bin .add (.t 7) (.c (.i .i64 (1))))⟩,
 ⟨(some 7), none, .o (.mov (.t 25))⟩])))))))
 (.seq (.reg [⟨(some 26), none, .lda (.t 3) 2 522⟩,
 ⟨none, none, .sta (.t 2) (.t 26) 522⟩])
 .ret))))⟩
def qf_i_Coalgebra_has_1 : QF := ⟨2, 15, [.t 3],
 (.seq (.reg [⟨(some 2), none, .o (.box (.t 0))⟩,
 ⟨(some 3), none, .o (.mov (.c (.b false)))⟩])
 (.seq (.drs [0, 1, 3, 7, 0, 16, 48, 112, 0, 511, 1023, 2047]
 [(0, false, ⟨(some 4), none, .ld1 (.t 1)⟩),
 (1, false, ⟨(some 5), none, .o (.nck (.t 4))⟩),
 (2, false, ⟨(some 6), none, .o (.add (.t 5) 0)⟩),
 (3, false, ⟨(some 7), none, .ld1 (.t 6)⟩),
 (4, false, ⟨(some 8), none, .ld1 (.t 1)⟩),
 (5, false, ⟨(some 9), none, .o (.nck (.t 8))⟩),
 (6, false, ⟨(some 10), none, .o (.add (.t 9) 1)⟩),
 (7, false, ⟨(some 11), none, .ld1 (.t 10)⟩),
 (8, false, ⟨(some 12), none, .lda (.t 2) 0 8⟩),
 (9, false, ⟨(some 13), none, .calp 92 [(.t 7), (.t 11), (.t 12)]⟩),
 (10, false, ⟨(some 14), none, .o (.nt (.t 13))⟩),
 (11, false, ⟨(some 3), none, .o (.mov (.t 14))⟩)])
 .ret))⟩
def qf_x_IndexFunc_V2 : QF := ⟨2, 19, [.t 4],
 (.seq (.reg [⟨(some 4), none, .o (.mov (.c (.i .i64 (0))))⟩])
 (.seq (.seq (.reg [⟨(some 6), none, .o (.mov (.t 0))⟩,
 ⟨(some 7), none, .len (.t 6)⟩,
 ⟨(some 8), none, .o (.mov (.c (.i .i64 (0))))⟩])
 (.blk 0
 (.loop
 (.seq (.reg [⟨(some 9), none, .o (.bin .lss (.t 8) (.t 7))⟩])
 (.seq (.cond (.t 9)
 .skip
 (.exit 0))
 (.seq (.blk 1
 (.seq (.reg [⟨(some 10), none, .o (.mov (.t 8))⟩,
 ⟨(some 5), none, .o (.mov (.t 10))⟩])
 (.seq (.reg [⟨(some 11), none, .o (.mov (.t 1))⟩,
 ⟨(some 12), none, .o (.mov (.t 0))⟩,
 ⟨(some 13), none, .o (.mov (.t 5))⟩,
 ⟨(some 14), none, .ids (.t 12) (.t 13) 8⟩,
 ⟨(some 15), none, .lda (.t 14) 0 8⟩,
 ⟨(some 16), none, .calv (.t 11) [(.t 15)]⟩])
 (.cond (.t 16)
 (.seq (.reg [⟨(some 17), none, .o (.mov (.t 5))⟩,
 ⟨(some 4), none, .o (.mov (.t 17))⟩])
 .ret)
 .skip))))
 (.reg [⟨(some 18), none, .o (.bin .add (.t 8) (.c (.i .i64 (1))))⟩,
 ⟨(some 8), none, .o (.mov (.t 18))⟩])))))))
 (.seq (.reg [⟨(some 4), none, .o (.mov (.c (.i .i64 (-1))))⟩])
 .ret)))⟩
def qf_x_ContainsFunc_V2 : QF := ⟨2, 9, [.t 4],
 (.seq (.reg [⟨(some 4), none, .o (.mov (.c (.b false)))⟩])
 (.seq (.reg [⟨(some 5), none, .o (.mov (.t 0))⟩,
 ⟨(some 6), none, .o (.mov (.t 1))⟩,
 ⟨(some 7), none, .call 91 [(.t 5), (.t 6)]⟩,
 ⟨(some 8), none, .o (.bin .geq (.t 7) (.c (.i .i64 (0))))⟩,
 ⟨(some 4), none, .o (.mov (.t 8))⟩])
 .ret))⟩
def qf_i_Coalgebra_has : QF := ⟨2, 9, [.t 4],
 (.seq (.reg [⟨(some 2), none, .o (.box (.t 0))⟩,
 ⟨(some 4), none, .o (.mov (.c (.b false)))⟩])
 (.seq (.reg [⟨(some 5), none, .o (.mov (.t 1))⟩,
 ⟨(some 6), none, .o (.mkf 433 [] [(.t 2)])⟩,
 ⟨(some 7), none, .call 70 [(.t 5), (.t 6)]⟩,
 ⟨(some 8), none, .o (.nt (.t 7))⟩,
 ⟨(some 4), none, .o (.mov (.t 8))⟩])
 .ret))⟩
def qf_i_Coalgebra_code : QF := ⟨2, 15, [.t 4],
 (.seq (.reg [⟨(some 4), none, .o (.mov (.c (.i .i64 (0))))⟩])
 (.seq (.reg [⟨(some 5), none, .o (.mov (.t 0))⟩,
 ⟨(some 6), none, .o (.nck (.t 5))⟩,
 ⟨(some 7), none, .lda (.t 6) 2 522⟩,
 ⟨(some 8), none, .calp 106 [(.t 7)]⟩,
 ⟨(some 9), none, .o (.mov (.t 8))⟩,
 ⟨(some 10), (some (9, true)), .o (.mov (.t 0))⟩,
 ⟨(some 11), (some (9, true)), .o (.mov (.t 1))⟩,
 ⟨(some 12), (some (9, true)), .call 432 [(.t 10), (.t 11)]⟩,
 ⟨(some 13), none, .o (.pick (.t 9) (.t 12) (.c (.b false)))⟩,
 ⟨(some 14), none, .calp 49 [(.t 13), (.c (.i .i64 (1)))]⟩,
 ⟨(some 4), none, .o (.mov (.t 14))⟩])
 .ret))⟩
def qf_i_Coalgebra_coproduct : QF := ⟨2, 40, [.c 4 0 64],
 (.seq (.reg [⟨(some 3), none, .o (.box (.t 1))⟩,
 ⟨(some 4), none, .o (.alo (.by 0 64))⟩])
 (.seq (.reg [⟨(some 10), none, .o (.mov (.t 0))⟩,
 ⟨(some 11), none, .call 117 [(.t 10)]⟩,
 ⟨(some 12), none, .o (.bld 0 64 [])⟩,
 ⟨(some 5), none, .o (.alo (.by 2 2))⟩,
 ⟨(some 6), none, .o (.alo (.by 0 64))⟩,
 ⟨none, none, .sta (.t 5) (.t 11) 2⟩,
 ⟨none, none, .sta (.t 6) (.t 12) 64⟩])
 (.seq (.seq (.reg [⟨(some 13), none, .lda (.t 3) 0 8⟩,
 ⟨(some 14), none, .o (.mov (.c (.i .i64 (0))))⟩])
 (.blk 0
 (.loop
 (.seq (.reg [⟨(some 15), none, .o (.bin .lss (.t 14) (.c (.i .i64 (8))))⟩])
 (.seq (.cond (.t 15)
 .skip
 (.exit 0))
 (.seq (.blk 1
 (.seq (.reg [⟨(some 16), none, .o (.mov (.t 14))⟩,
 ⟨(some 17), none, .o (.ixb (.t 13) (.t 14) 8)⟩,
 ⟨(some 7), none, .o (.mov (.t 16))⟩,
 ⟨(some 8), none, .o (.mov (.t 17))⟩])
 (.seq (.reg [⟨(some 18), none, .o (.add (.t 5) 1)⟩,
 ⟨(some 19), none, .ld1 (.t 18)⟩,
 ⟨(some 20), none, .o (.mov (.c (.i .i64 (0))))⟩])
 (.blk 2
 (.loop
 (.seq (.reg [⟨(some 21), none, .o (.bin .lss (.t 20) (.t 19))⟩])
 (.seq (.cond (.t 21)
 .skip
 (.exit 2))
 (.seq (.blk 3
 (.seq (.reg [⟨(some 22), none, .o (.mov (.t 20))⟩,
 ⟨(some 9), none, .o (.mov (.t 22))⟩])
 (.drs [0, 0, 2, 0, 8, 0, 0, 0, 32, 288, 864, 2016, 4064, 8191]
 [(0, false, ⟨(some 23), none, .lda (.t 5) 2 2⟩),
 (1, false, ⟨(some 24), none, .o (.mov (.t 9))⟩),
 (2, false, ⟨(some 25), none, .o (.idx (.t 6) (.t 24) 8 8)⟩),
 (3, false, ⟨(some 26), none, .o (.mov (.t 8))⟩),
 (4, false, ⟨(some 27), none, .o (.cvt .i64 (.t 26))⟩),
 (5, false, ⟨(some 28), none, .o (.mov (.t 0))⟩),
 (6, false, ⟨(some 29), none, .o (.mov (.t 7))⟩),
 (7, false, ⟨(some 30), none, .o (.mov (.t 9))⟩),
 (8, false, ⟨(some 31), none, .o (.nck (.t 28))⟩),
 (9, false, ⟨(some 32), none, .o (.add (.t 31) 10)⟩),
 (10, false, ⟨(some 33), none, .o (.idx (.t 32) (.t 29) 8 64)⟩),
 (11, false, ⟨(some 34), none, .o (.idx (.t 33) (.t 30) 8 8)⟩),
 (12, false, ⟨(some 35), none, .lda (.t 34) 0 8⟩),
 (13, false, ⟨(some 36), none, .call 71 [(.t 23), (.t 25), (.t 27), (.t 35)]⟩)])))
 (.reg [⟨(some 37), none, .o (.bin .add (.t 20) (.c (.i .i64 (1))))⟩,
 ⟨(some 20), none, .o (.mov (.t 37))⟩])))))))))
 (.reg [⟨(some 38), none, .o (.bin .add (.t 14) (.c (.i .i64 (1))))⟩,
 ⟨(some 14), none, .o (.mov (.t 38))⟩])))))))
 (.seq (.reg [⟨(some 39), none, .lda (.t 6) 0 64⟩,
 ⟨none, none, .sta (.t 4) (.t 39) 64⟩])
 .ret))))⟩
def qf_i_CoproductIn : QF := ⟨2, 16, [.c 4 0 64, .t 5],
 (.seq (.reg [⟨(some 2), none, .o (.box (.t 0))⟩,
 ⟨(some 3), none, .o (.box (.t 1))⟩,
 ⟨(some 4), none, .o (.alo (.by 0 64))⟩,
 ⟨(some 5), none, .o (.mov (.c (.i .i64 (0))))⟩])
 (.seq (.seq (.reg [⟨(some 7), none, .lda (.t 3) 0 8⟩,
 ⟨(some 8), none, .o (.bsb 8 [(.t 7)])⟩,
 ⟨(some 9), none, .call 418 [(.t 2), (.t 8)]⟩,
 ⟨(some 6), none, .o (.mov (.t 9))⟩])
 (.seq (.reg [⟨(some 10), none, .o (.mov (.t 6))⟩,
 ⟨(some 11), none, .o (.bin .neq (.t 10) (.c (.i .i64 (0))))⟩])
 (.cond (.t 11)
 (.seq (.reg [⟨(some 12), none, .o (.bld 0 64 [])⟩,
 ⟨(some 13), none, .o (.mov (.t 6))⟩,
 ⟨none, none, .sta (.t 4) (.t 12) 64⟩,
 ⟨(some 5), none, .o (.mov (.t 13))⟩])
 .ret)
 .skip)))
 (.seq (.reg [⟨(some 14), none, .lda (.t 3) 0 8⟩,
 ⟨(some 15), none, .call 426 [(.t 2), (.t 14)]⟩,
 ⟨none, none, .sta (.t 4) (.t 15) 64⟩,
 ⟨(some 5), none, .o (.mov (.c (.i .i64 (0))))⟩])
 .ret)))⟩
def qf_i_CounitIn : QF := ⟨2, 18, [.t 4, .t 5],
 (.seq (.reg [⟨(some 2), none, .o (.box (.t 0))⟩,
 ⟨(some 3), none, .o (.box (.t 1))⟩,
 ⟨(some 4), none, .o (.mov (.c (.i .i64 (0))))⟩,
 ⟨(some 5), none, .o (.mov (.c (.i .i64 (0))))⟩])
 (.seq (.seq (.reg [⟨(some 7), none, .lda (.t 3) 0 8⟩,
 ⟨(some 8), none, .o (.bsb 8 [(.t 7)])⟩,
 ⟨(some 9), none, .call 418 [(.t 2), (.t 8)]⟩,
 ⟨(some 6), none, .o (.mov (.t 9))⟩])
 (.seq (.reg [⟨(some 10), none, .o (.mov (.t 6))⟩,
 ⟨(some 11), none, .o (.bin .neq (.t 10) (.c (.i .i64 (0))))⟩])
 (.cond (.t 11)
 (.seq (.reg [⟨(some 12), none, .o (.mov (.t 6))⟩,
 ⟨(some 4), none, .o (.mov (.c (.i .i64 (0))))⟩,
 ⟨(some 5), none, .o (.mov (.t 12))⟩])
 .ret)
 .skip)))
 (.seq (.drs [0, 0, 2, 0, 15, 31, 63]
 [(1, false, ⟨(some 14), none, .o (.add (.t 2) 2)⟩),
 (2, true, ⟨(some 15), none, .lda (.t 14) 0 8⟩),
 (3, true, ⟨(some 16), none, .lda (.t 3) 0 8⟩),
 (0, false, ⟨(some 13), none, .call 117 [(.t 2)]⟩),
 (4, false, ⟨(some 17), none, .calp 118 [(.t 13), (.t 15), (.t 16)]⟩),
 (5, false, ⟨(some 4), none, .o (.mov (.t 17))⟩),
 (6, false, ⟨(some 5), none, .o (.mov (.c (.i .i64 (0))))⟩)])
 .ret)))⟩
def qf_i_dualBack : QF := ⟨1, 36, [.c 2 0 512],
 (.seq (.reg [⟨(some 2), none, .o (.alo (.by 0 512))⟩])
 (.seq (.reg [⟨(some 7), none, .o (.bld 0 512 [])⟩,
 ⟨(some 3), none, .o (.alo (.by 0 512))⟩,
 ⟨none, none, .sta (.t 3) (.t 7) 512⟩])
 (.seq (.seq (.reg [⟨(some 8), none, .o (.mov (.c (.i .i64 (0))))⟩])
 (.blk 0
 (.loop
 (.seq (.reg [⟨(some 9), none, .o (.bin .lss (.t 8) (.c (.i .i64 (8))))⟩])
 (.seq (.cond (.t 9)
 .skip
 (.exit 0))
 (.seq (.blk 1
 (.seq (.reg [⟨(some 10), none, .o (.mov (.t 8))⟩,
 ⟨(some 4), none, .o (.mov (.t 10))⟩])
 (.seq (.reg [⟨(some 11), none, .o (.mov (.c (.i .i64 (0))))⟩])
 (.blk 2
 (.loop
 (.seq (.reg [⟨(some 12), none, .o (.bin .lss (.t 11) (.c (.i .i64 (8))))⟩])
 (.seq (.cond (.t 12)
 .skip
 (.exit 2))
 (.seq (.blk 3
 (.seq (.reg [⟨(some 13), none, .o (.mov (.t 11))⟩,
 ⟨(some 5), none, .o (.mov (.t 13))⟩])
 (.seq (.reg [⟨(some 14), none, .o (.mov (.c (.i .i64 (0))))⟩])
 (.blk 4
 (.loop
 (.seq (.reg [⟨(some 15), none, .o (.bin .lss (.t 14) (.c (.i .i64 (8))))⟩])
 (.seq (.cond (.t 15)
 .skip
 (.exit 4))
 (.seq (.blk 5
 (.seq (.reg [⟨(some 16), none, .o (.mov (.t 14))⟩,
 ⟨(some 6), none, .o (.mov (.t 16))⟩])
 (.drs [0, 0, 0, 0, 0, 0, 0, 8, 152, 440, 1016, 2040, 1, 4099, 16383, 32767]
 [(0, false, ⟨(some 17), none, .o (.mov (.t 5))⟩),
 (1, false, ⟨(some 18), none, .o (.mov (.t 6))⟩),
 (2, false, ⟨(some 19), none, .o (.mov (.t 4))⟩),
 (3, false, ⟨(some 20), none, .o (.mov (.t 0))⟩),
 (4, false, ⟨(some 21), none, .o (.mov (.t 4))⟩),
 (5, false, ⟨(some 22), none, .o (.mov (.t 5))⟩),
 (6, false, ⟨(some 23), none, .o (.mov (.t 6))⟩),
 (7, false, ⟨(some 24), none, .o (.nck (.t 20))⟩),
 (8, false, ⟨(some 25), none, .o (.idx (.t 24) (.t 21) 8 64)⟩),
 (9, false, ⟨(some 26), none, .o (.idx (.t 25) (.t 22) 8 8)⟩),
 (10, false, ⟨(some 27), none, .o (.idx (.t 26) (.t 23) 8 1)⟩),
 (11, false, ⟨(some 28), none, .ld1 (.t 27)⟩),
 (12, false, ⟨(some 29), none, .o (.idx (.t 3) (.t 17) 8 64)⟩),
 (13, false, ⟨(some 30), none, .o (.idx (.t 29) (.t 18) 8 8)⟩),
 (14, false, ⟨(some 31), none, .o (.idx (.t 30) (.t 19) 8 1)⟩),
 (15, false, ⟨none, none, .st1 (.t 31) (.t 28)⟩)])))
 (.reg [⟨(some 32), none, .o (.bin .add (.t 14) (.c (.i .i64 (1))))⟩,
 ⟨(some 14), none, .o (.mov (.t 32))⟩])))))))))
 (.reg [⟨(some 33), none, .o (.bin .add (.t 11) (.c (.i .i64 (1))))⟩,
 ⟨(some 11), none, .o (.mov (.t 33))⟩])))))))))
 (.reg [⟨(some 34), none, .o (.bin .add (.t 8) (.c (.i .i64 (1))))⟩,
 ⟨(some 8), none, .o (.mov (.t 34))⟩])))))))
 (.seq (.reg [⟨(some 35), none, .lda (.t 3) 0 512⟩,
 ⟨none, none, .sta (.t 2) (.t 35) 512⟩])
 .ret))))⟩
def qf_i_DualAlgebra : QF := ⟨1, 19, [.c 2 2 522, .t 3],
 (.seq (.reg [⟨(some 1), none, .o (.box (.t 0))⟩,
 ⟨(some 2), none, .o (.alo (.by 2 522))⟩,
 ⟨(some 3), none, .o (.mov (.c (.i .i64 (0))))⟩])
 (.seq (.seq (.reg [⟨(some 5), none, .call 418 [(.t 1), (.c .sn)]⟩,
 ⟨(some 4), none, .o (.mov (.t 5))⟩])
 (.seq (.reg [⟨(some 6), none, .o (.mov (.t 4))⟩,
 ⟨(some 7), none, .o (.bin .neq (.t 6) (.c (.i .i64 (0))))⟩])
 (.cond (.t 7)
 (.seq (.reg [⟨(some 8), none, .o (.bld 2 522 [])⟩,
 ⟨(some 9), none, .o (.mov (.t 4))⟩,
 ⟨none, none, .sta (.t 2) (.t 8) 522⟩,
 ⟨(some 3), none, .o (.mov (.t 9))⟩])
 .ret)
 .skip)))
 (.seq (.drs [0, 1, 0, 4, 0, 16, 0, 64, 255, 511, 1023]
 [(0, false, ⟨(some 10), none, .o (.add (.t 1) 0)⟩),
 (1, true, ⟨(some 11), none, .ld1 (.t 10)⟩),
 (2, false, ⟨(some 12), none, .o (.add (.t 1) 1)⟩),
 (3, true, ⟨(some 13), none, .ld1 (.t 12)⟩),
 (4, false, ⟨(some 14), none, .o (.add (.t 1) 2)⟩),
 (5, true, ⟨(some 15), none, .lda (.t 14) 0 8⟩),
 (6, false, ⟨(some 16), none, .o (.add (.t 1) 10)⟩),
 (7, false, ⟨(some 17), none, .call 346 [(.t 16)]⟩),
 (8, false, ⟨(some 18), none, .o (.bld 2 522 [(0, 1, (.t 11)), (1, 1, (.t 13)), (2, 8, (.t 15)), (10, 512, (.t 17))])⟩),
 (9, true, ⟨none, none, .sta (.t 2) (.t 18) 522⟩),
 (10, false, ⟨(some 3), none, .o (.mov (.c (.i .i64 (0))))⟩)])
 .ret)))⟩
def qf_i_dualTable : QF := ⟨1, 36, [.c 2 0 512],
 (.seq (.reg [⟨(some 2), none, .o (.alo (.by 0 512))⟩])
 (.seq (.reg [⟨(some 7), none, .o (.bld 0 512 [])⟩,
 ⟨(some 3), none, .o (.alo (.by 0 512))⟩,
 ⟨none, none, .sta (.t 3) (.t 7) 512⟩])
 (.seq (.seq (.reg [⟨(some 8), none, .o (.mov (.c (.i .i64 (0))))⟩])
 (.blk 0
 (.loop
 (.seq (.reg [⟨(some 9), none, .o (.bin .lss (.t 8) (.c (.i .i64 (8))))⟩])
 (.seq (.cond (.t 9)
 .skip
 (.exit 0))
 (.seq (.blk 1
 (.seq (.reg [⟨(some 10), none, .o (.mov (.t 8))⟩,
 ⟨(some 4), none, .o (.mov (.t 10))⟩])
 (.seq (.reg [⟨(some 11), none, .o (.mov (.c (.i .i64 (0))))⟩])
 (.blk 2
 (.loop
 (.seq (.reg [⟨(some 12), none, .o (.bin .lss (.t 11) (.c (.i .i64 (8))))⟩])
 (.seq (.cond (.t 12)
 .skip
 (.exit 2))
 (.seq (.blk 3
 (.seq (.reg [⟨(some 13), none, .o (.mov (.t 11))⟩,
 ⟨(some 5), none, .o (.mov (.t 13))⟩])
 (.seq (.reg [⟨(some 14), none, .o (.mov (.c (.i .i64 (0))))⟩])
 (.blk 4
 (.loop
 (.seq (.reg [⟨(some 15), none, .o (.bin .lss (.t 14) (.c (.i .i64 (8))))⟩])
 (.seq (.cond (.t 15)
 .skip
 (.exit 4))
 (.seq (.blk 5
 (.seq (.reg [⟨(some 16), none, .o (.mov (.t 14))⟩,
 ⟨(some 6), none, .o (.mov (.t 16))⟩])
 (.drs [0, 0, 0, 0, 0, 0, 0, 8, 152, 440, 1016, 2040, 1, 4099, 16383, 32767]
 [(0, false, ⟨(some 17), none, .o (.mov (.t 4))⟩),
 (1, false, ⟨(some 18), none, .o (.mov (.t 5))⟩),
 (2, false, ⟨(some 19), none, .o (.mov (.t 6))⟩),
 (3, false, ⟨(some 20), none, .o (.mov (.t 0))⟩),
 (4, false, ⟨(some 21), none, .o (.mov (.t 5))⟩),
 (5, false, ⟨(some 22), none, .o (.mov (.t 6))⟩),
 (6, false, ⟨(some 23), none, .o (.mov (.t 4))⟩),
 (7, false, ⟨(some 24), none, .o (.nck (.t 20))⟩),
 (8, false, ⟨(some 25), none, .o (.idx (.t 24) (.t 21) 8 64)⟩),
 (9, false, ⟨(some 26), none, .o (.idx (.t 25) (.t 22) 8 8)⟩),
 (10, false, ⟨(some 27), none, .o (.idx (.t 26) (.t 23) 8 1)⟩),
 (11, false, ⟨(some 28), none, .ld1 (.t 27)⟩),
 (12, false, ⟨(some 29), none, .o (.idx (.t 3) (.t 17) 8 64)⟩),
 (13, false, ⟨(some 30), none, .o (.idx (.t 29) (.t 18) 8 8)⟩),
 (14, false, ⟨(some 31), none, .o (.idx (.t 30) (.t 19) 8 1)⟩),
 (15, false, ⟨none, none, .st1 (.t 31) (.t 28)⟩)])))
 (.reg [⟨(some 32), none, .o (.bin .add (.t 14) (.c (.i .i64 (1))))⟩,
 ⟨(some 14), none, .o (.mov (.t 32))⟩])))))))))
 (.reg [⟨(some 33), none, .o (.bin .add (.t 11) (.c (.i .i64 (1))))⟩,
 ⟨(some 11), none, .o (.mov (.t 33))⟩])))))))))
 (.reg [⟨(some 34), none, .o (.bin .add (.t 8) (.c (.i .i64 (1))))⟩,
 ⟨(some 8), none, .o (.mov (.t 34))⟩])))))))
 (.seq (.reg [⟨(some 35), none, .lda (.t 3) 0 512⟩,
 ⟨none, none, .sta (.t 2) (.t 35) 512⟩])
 .ret))))⟩
def qf_i_DualCoalgebra : QF := ⟨1, 19, [.c 2 2 522, .t 3],
 (.seq (.reg [⟨(some 1), none, .o (.box (.t 0))⟩,
 ⟨(some 2), none, .o (.alo (.by 2 522))⟩,
 ⟨(some 3), none, .o (.mov (.c (.i .i64 (0))))⟩])
 (.seq (.seq (.reg [⟨(some 5), none, .call 240 [(.t 1), (.c .sn)]⟩,
 ⟨(some 4), none, .o (.mov (.t 5))⟩])
 (.seq (.reg [⟨(some 6), none, .o (.mov (.t 4))⟩,
 ⟨(some 7), none, .o (.bin .neq (.t 6) (.c (.i .i64 (0))))⟩])
 (.cond (.t 7)
 (.seq (.reg [⟨(some 8), none, .o (.bld 2 522 [])⟩,
 ⟨(some 9), none, .o (.mov (.t 4))⟩,
 ⟨none, none, .sta (.t 2) (.t 8) 522⟩,
 ⟨(some 3), none, .o (.mov (.t 9))⟩])
 .ret)
 .skip)))
 (.seq (.drs [0, 1, 0, 4, 0, 16, 0, 64, 255, 511, 1023]
 [(0, false, ⟨(some 10), none, .o (.add (.t 1) 0)⟩),
 (1, true, ⟨(some 11), none, .ld1 (.t 10)⟩),
 (2, false, ⟨(some 12), none, .o (.add (.t 1) 1)⟩),
 (3, true, ⟨(some 13), none, .ld1 (.t 12)⟩),
 (4, false, ⟨(some 14), none, .o (.add (.t 1) 2)⟩),
 (5, true, ⟨(some 15), none, .lda (.t 14) 0 8⟩),
 (6, false, ⟨(some 16), none, .o (.add (.t 1) 10)⟩),
 (7, false, ⟨(some 17), none, .call 347 [(.t 16)]⟩),
 (8, false, ⟨(some 18), none, .o (.bld 2 522 [(0, 1, (.t 11)), (1, 1, (.t 13)), (2, 8, (.t 15)), (10, 512, (.t 17))])⟩),
 (9, true, ⟨none, none, .sta (.t 2) (.t 18) 522⟩),
 (10, false, ⟨(some 3), none, .o (.mov (.c (.i .i64 (0))))⟩)])
 .ret)))⟩
def qf_i_FirstCoFault : QF := ⟨1, 12, [.t 2, .t 3],
 (.seq (.reg [⟨(some 1), none, .o (.box (.t 0))⟩,
 ⟨(some 2), none, .o (.mov (.c .sn))⟩,
 ⟨(some 3), none, .o (.mov (.c (.i .i64 (0))))⟩])
 (.seq (.seq (.reg [⟨(some 5), none, .call 82 [(.t 1)]⟩,
 ⟨(some 6), none, .o (.nt (.t 5))⟩])
 (.cond (.t 6)
 (.seq (.reg [⟨(some 2), none, .o (.mov (.c .sn))⟩,
 ⟨(some 3), none, .o (.mov (.c (.i .i64 (1))))⟩])
 .ret)
 .skip))
 (.seq (.reg [⟨(some 7), none, .call 108 [(.t 1)]⟩,
 ⟨(some 4), none, .o (.mov (.t 7))⟩])
 (.seq (.reg [⟨(some 8), none, .o (.mov (.t 4))⟩,
 ⟨(some 9), none, .o (.mov (.t 4))⟩,
 ⟨(some 10), none, .o (.eqn true (.t 9))⟩,
 ⟨(some 11), none, .calp 49 [(.t 10), (.c (.i .i64 (4)))]⟩,
 ⟨(some 2), none, .o (.mov (.t 8))⟩,
 ⟨(some 3), none, .o (.mov (.t 11))⟩])
 .ret))))⟩
def qf_i_IsCocommutative : QF := ⟨1, 23, [.t 2, .t 3],
 (.seq (.reg [⟨(some 1), none, .o (.box (.t 0))⟩,
 ⟨(some 2), none, .o (.mov (.c (.b false)))⟩,
 ⟨(some 3), none, .o (.mov (.c (.i .i64 (0))))⟩])
 (.seq (.seq (.reg [⟨(some 6), none, .call 418 [(.t 1), (.c .sn)]⟩,
 ⟨(some 4), none, .o (.mov (.t 6))⟩])
 (.seq (.reg [⟨(some 7), none, .o (.mov (.t 4))⟩,
 ⟨(some 8), none, .o (.bin .neq (.t 7) (.c (.i .i64 (0))))⟩])
 (.cond (.t 8)
 (.seq (.reg [⟨(some 9), none, .o (.mov (.t 4))⟩,
 ⟨(some 2), none, .o (.mov (.c (.b false)))⟩,
 ⟨(some 3), none, .o (.mov (.t 9))⟩])
 .ret)
 .skip)))
 (.seq (.seq (.reg [⟨(some 10), none, .o (.mov (.c (.i .i64 (0))))⟩])
 (.blk 0
 (.loop
 (.seq (.reg [⟨(some 11), none, .o (.bin .lss (.t 10) (.c (.i .i64 (8))))⟩])
 (.seq (.cond (.t 11)
 .skip
 (.exit 0))
 (.seq (.blk 1
 (.seq (.reg [⟨(some 12), none, .o (.mov (.t 10))⟩,
 ⟨(some 5), none, .o (.mov (.t 12))⟩])
 (.seq (.drs [0, 0, 3, 7, 0, 0, 48, 112, 255]
 [(0, false, ⟨(some 13), none, .o (.mov (.t 5))⟩),
 (1, false, ⟨(some 14), none, .o (.add (.t 1) 10)⟩),
 (2, false, ⟨(some 15), none, .o (.idx (.t 14) (.t 13) 8 64)⟩),
 (4, false, ⟨(some 17), none, .o (.mov (.t 5))⟩),
 (5, false, ⟨(some 18), none, .o (.add (.t 1) 10)⟩),
 (6, false, ⟨(some 19), none, .o (.idx (.t 18) (.t 17) 8 64)⟩),
 (7, true, ⟨(some 20), none, .lda (.t 19) 0 64⟩),
 (3, false, ⟨(some 16), none, .call 227 [(.t 15)]⟩),
 (8, false, ⟨(some 21), none, .o (.eqa true 64 (.t 16) (.t 20))⟩)])
 (.cond (.t 21)
 (.seq (.reg [⟨(some 2), none, .o (.mov (.c (.b false)))⟩,
 ⟨(some 3), none, .o (.mov (.c (.i .i64 (0))))⟩])
 .ret)
 .skip))))
 (.reg [⟨(some 22), none, .o (.bin .add (.t 10) (.c (.i .i64 (1))))⟩,
 ⟨(some 10), none, .o (.mov (.t 22))⟩])))))))
 (.seq (.reg [⟨(some 2), none, .o (.mov (.c (.b true)))⟩,
 ⟨(some 3), none, .o (.mov (.c (.i .i64 (0))))⟩])
 .ret))))⟩
def qf_i_IsCommutative : QF := ⟨1, 15, [.t 2, .t 3],
 (.seq (.reg [⟨(some 1), none, .o (.box (.t 0))⟩,
 ⟨(some 2), none, .o (.mov (.c (.b false)))⟩,
 ⟨(some 3), none, .o (.mov (.c (.i .i64 (0))))⟩])
 (.seq (.seq (.reg [⟨(some 5), none, .call 240 [(.t 1), (.c .sn)]⟩,
 ⟨(some 4), none, .o (.mov (.t 5))⟩])
 (.seq (.reg [⟨(some 6), none, .o (.mov (.t 4))⟩,
 ⟨(some 7), none, .o (.bin .neq (.t 6) (.c (.i .i64 (0))))⟩])
 (.cond (.t 7)
 (.seq (.reg [⟨(some 8), none, .o (.mov (.t 4))⟩,
 ⟨(some 2), none, .o (.mov (.c (.b false)))⟩,
 ⟨(some 3), none, .o (.mov (.t 8))⟩])
 .ret)
 .skip)))
 (.seq (.drs [0, 1, 3, 0, 8, 31, 63, 127]
 [(0, false, ⟨(some 9), none, .lda (.t 1) 2 522⟩),
 (1, false, ⟨(some 10), none, .calp 438 [(.t 9)]⟩),
 (2, false, ⟨(some 11), none, .fld (.t 10) 10 512⟩),
 (3, false, ⟨(some 12), none, .o (.add (.t 1) 10)⟩),
 (4, false, ⟨(some 13), none, .lda (.t 12) 0 512⟩),
 (5, false, ⟨(some 14), none, .o (.eqa false 512 (.t 11) (.t 13))⟩),
 (6, false, ⟨(some 2), none, .o (.mov (.t 14))⟩),
 (7, false, ⟨(some 3), none, .o (.mov (.c (.i .i64 (0))))⟩)])
 .ret)))⟩
def qf_l_big : QF := ⟨1, 6, [.t 2],
 (.seq (.reg [⟨(some 2), none, .o (.mov (.c (.b false)))⟩])
 (.seq (.reg [⟨(some 3), none, .o (.mov (.t 0))⟩,
 ⟨(some 4), none, .len (.t 3)⟩,
 ⟨(some 5), none, .o (.bin .gtr (.t 4) (.c (.i .i64 (4096))))⟩,
 ⟨(some 2), none, .o (.mov (.t 5))⟩])
 .ret))⟩
def qf_s_l01From : QF := ⟨1, 38, [.t 2],
 (.seq (.reg [⟨(some 2), none, .o (.mov (.c .np))⟩])
 (.seq (.reg [⟨(some 5), none, .o (.mov (.t 0))⟩,
 ⟨(some 6), none, .o (.mov (.t 0))⟩,
 ⟨(some 7), none, .len (.t 6)⟩,
 ⟨(some 8), none, .cvu (.t 7)⟩,
 ⟨(some 9), none, .bnu .add (.c (.i .u64 (11071))) (.t 8)⟩,
 ⟨(some 10), none, .brc [.sn, .i .i64 0, .i .u64 0] [(0, 1, (.t 5)), (2, 1, (.t 9))]⟩,
 ⟨(some 11), none, .bxr (.t 10)⟩,
 ⟨(some 3), none, .o (.mov (.t 11))⟩])
 (.seq (.seq (.reg [⟨(some 4), none, .o (.mov (.c (.i .i64 (0))))⟩])
 (.blk 0
 (.loop
 (.seq (.seq (.reg [⟨(some 12), none, .o (.mov (.t 4))⟩,
 ⟨(some 13), none, .o (.mov (.t 0))⟩,
 ⟨(some 14), none, .len (.t 13)⟩,
 ⟨(some 15), none, .o (.bin .lss (.t 12) (.t 14))⟩,
 ⟨(some 16), none, .o (.mov (.t 15))⟩,
 ⟨(some 17), (some (16, true)), .o (.mov (.t 4))⟩,
 ⟨(some 18), (some (16, true)), .o (.bin .lss (.t 17) (.c (.i .i64 (4096))))⟩,
 ⟨(some 19), none, .o (.pick (.t 16) (.t 18) (.c (.b false)))⟩])
 (.cond (.t 19)
 .skip
 (.exit 0)))
 (.seq (.blk 1
 (.drs [0, 0, 2, 6, 14, 30, 0, 0, 192, 448, 960, 2046, 4094, 8191, 16383, 32767]
 [(0, false, ⟨(some 22), none, .o (.mov (.t 3))⟩),
 (1, false, ⟨(some 23), none, .o (.mov (.t 3))⟩),
 (2, false, ⟨(some 24), none, .o (.nck (.t 23))⟩),
 (3, false, ⟨(some 25), none, .o (.add (.t 24) 2)⟩),
 (4, false, ⟨(some 26), none, .ld1 (.t 25)⟩),
 (5, false, ⟨(some 27), none, .bnu .mul (.t 26) (.c (.i .u64 (1099511628211)))⟩),
 (6, false, ⟨(some 28), none, .o (.mov (.t 0))⟩),
 (7, false, ⟨(some 29), none, .o (.mov (.t 4))⟩),
 (8, false, ⟨(some 30), none, .ids (.t 28) (.t 29) 1⟩),
 (9, false, ⟨(some 31), none, .ld1 (.t 30)⟩),
 (10, false, ⟨(some 32), none, .cvu (.t 31)⟩),
 (11, false, ⟨(some 33), none, .bnu .add (.t 27) (.t 32)⟩),
 (12, false, ⟨(some 34), none, .bnu .add (.t 33) (.c (.i .u64 (47)))⟩),
 (13, false, ⟨(some 35), none, .o (.nck (.t 22))⟩),
 (14, false, ⟨(some 36), none, .o (.add (.t 35) 2)⟩),
 (15, false, ⟨none, none, .st1 (.t 36) (.t 34)⟩)]))
 (.reg [⟨(some 20), none, .o (.mov (.t 4))⟩,
 ⟨(some 21), none, .o (.bin .add (.t 20) (.c (.i .i64 (1))))⟩,
 ⟨(some 4), none, .o (.mov (.t 21))⟩]))))))
 (.seq (.reg [⟨(some 37), none, .o (.mov (.t 3))⟩,
 ⟨(some 2), none, .o (.mov (.t 37))⟩])
 .ret))))⟩
def qf_s_l01Next : QF := ⟨2, 58, [.t 4],
 (.seq (.reg [⟨(some 4), none, .o (.mov (.c (.i .i64 (0))))⟩])
 (.seq (.seq (.reg [⟨(some 6), none, .o (.mov (.t 1))⟩,
 ⟨(some 7), none, .o (.bin .lss (.t 6) (.c (.i .i64 (1))))⟩])
 (.cond (.t 7)
 (.seq (.reg [⟨(some 4), none, .o (.mov (.c (.i .i64 (0))))⟩])
 .ret)
 .skip))
 (.seq (.reg [⟨(some 8), none, .o (.mov (.t 0))⟩,
 ⟨(some 9), none, .o (.mov (.t 0))⟩,
 ⟨(some 10), none, .o (.nck (.t 9))⟩,
 ⟨(some 11), none, .o (.add (.t 10) 2)⟩,
 ⟨(some 12), none, .ld1 (.t 11)⟩,
 ⟨(some 13), none, .bnu .mul (.t 12) (.c (.i .u64 (6364136223846793005)))⟩,
 ⟨(some 14), none, .bnu .add (.t 13) (.c (.i .u64 (1442695040888963407)))⟩,
 ⟨(some 15), none, .o (.nck (.t 8))⟩,
 ⟨(some 16), none, .o (.add (.t 15) 2)⟩,
 ⟨none, none, .st1 (.t 16) (.t 14)⟩])
 (.seq (.reg [⟨(some 17), none, .o (.mov (.t 0))⟩,
 ⟨(some 18), none, .o (.nck (.t 17))⟩,
 ⟨(some 19), none, .o (.add (.t 18) 2)⟩,
 ⟨(some 20), none, .ld1 (.t 19)⟩,
 ⟨(some 21), none, .bnu .shr (.t 20) (.c (.i .u64 (33)))⟩,
 ⟨(some 22), none, .bnu .and (.t 21) (.c (.i .u64 (16777215)))⟩,
 ⟨(some 23), none, .o (.cvt .i64 (.t 22))⟩,
 ⟨(some 5), none, .o (.mov (.t 23))⟩])
 (.seq (.seq (.drs [0, 1, 3, 7, 0, 16, 48, 112, 240, 511]
 [(0, false, ⟨(some 24), none, .o (.mov (.t 0))⟩),
 (1, false, ⟨(some 25), none, .o (.nck (.t 24))⟩),
 (2, false, ⟨(some 26), none, .o (.add (.t 25) 1)⟩),
 (3, false, ⟨(some 27), none, .ld1 (.t 26)⟩),
 (4, false, ⟨(some 28), none, .o (.mov (.t 0))⟩),
 (5, false, ⟨(some 29), none, .o (.nck (.t 28))⟩),
 (6, false, ⟨(some 30), none, .o (.add (.t 29) 0)⟩),
 (7, false, ⟨(some 31), none, .ld1 (.t 30)⟩),
 (8, false, ⟨(some 32), none, .len (.t 31)⟩),
 (9, false, ⟨(some 33), none, .o (.bin .lss (.t 27) (.t 32))⟩)])
 (.cond (.t 33)
 (.seq (.drs [0, 0, 2, 6, 14, 0, 32, 96, 224, 510, 1022, 2046, 4095, 8191]
 [(0, false, ⟨(some 34), none, .o (.mov (.t 5))⟩),
 (1, false, ⟨(some 35), none, .o (.mov (.t 0))⟩),
 (2, false, ⟨(some 36), none, .o (.nck (.t 35))⟩),
 (3, false, ⟨(some 37), none, .o (.add (.t 36) 0)⟩),
 (4, false, ⟨(some 38), none, .ld1 (.t 37)⟩),
 (5, false, ⟨(some 39), none, .o (.mov (.t 0))⟩),
 (6, false, ⟨(some 40), none, .o (.nck (.t 39))⟩),
 (7, false, ⟨(some 41), none, .o (.add (.t 40) 1)⟩),
 (8, false, ⟨(some 42), none, .ld1 (.t 41)⟩),
 (9, false, ⟨(some 43), none, .ids (.t 38) (.t 42) 1⟩),
 (10, false, ⟨(some 44), none, .ld1 (.t 43)⟩),
 (11, false, ⟨(some 45), none, .o (.cvt .i64 (.t 44))⟩),
 (12, false, ⟨(some 46), none, .o (.bin .add (.t 34) (.t 45))⟩),
 (13, false, ⟨(some 5), none, .o (.mov (.t 46))⟩)])
 (.reg [⟨(some 47), none, .o (.mov (.t 0))⟩,
 ⟨(some 48), none, .o (.mov (.t 0))⟩,
 ⟨(some 49), none, .o (.nck (.t 48))⟩,
 ⟨(some 50), none, .o (.add (.t 49) 1)⟩,
 ⟨(some 51), none, .ld1 (.t 50)⟩,
 ⟨(some 52), none, .o (.bin .add (.t 51) (.c (.i .i64 (1))))⟩,
 ⟨(some 53), none, .o (.nck (.t 47))⟩,
 ⟨(some 54), none, .o (.add (.t 53) 1)⟩,
 ⟨none, none, .st1 (.t 54) (.t 52)⟩]))
 .skip))
 (.seq (.reg [⟨(some 55), none, .o (.mov (.t 5))⟩,
 ⟨(some 56), none, .o (.mov (.t 1))⟩,
 ⟨(some 57), none, .o (.bin .rem (.t 55) (.t 56))⟩,
 ⟨(some 4), none, .o (.mov (.t 57))⟩])
 .ret))))))⟩
def qf_s_l01Pick : QF := ⟨2, 12, [.t 4],
 (.seq (.reg [⟨(some 4), none, .o (.mov (.c (.i .i64 (0))))⟩])
 (.seq (.reg [⟨(some 5), none, .o (.mov (.t 1))⟩,
 ⟨(some 6), none, .o (.mov (.t 0))⟩,
 ⟨(some 7), none, .o (.mov (.t 1))⟩,
 ⟨(some 8), none, .len (.t 7)⟩,
 ⟨(some 9), none, .call 195 [(.t 6), (.t 8)]⟩,
 ⟨(some 10), none, .ids (.t 5) (.t 9) 1⟩,
 ⟨(some 11), none, .ld1 (.t 10)⟩,
 ⟨(some 4), none, .o (.mov (.t 11))⟩])
 .ret))⟩
def qf_s_l01DrawPrime : QF := ⟨1, 6, [.t 2],
 (.seq (.reg [⟨(some 2), none, .o (.mov (.c (.i .i64 (0))))⟩])
 (.seq (.reg [⟨(some 3), none, .o (.mov (.t 0))⟩,
 ⟨(some 4), none, .o (.bsa [(.c (.i .i64 (2))), (.c (.i .i64 (2))), (.c (.i .i64 (3))), (.c (.i .i64 (3))), (.c (.i .i64 (5))), (.c (.i .i64 (5))), (.c (.i .i64 (7))), (.c (.i .i64 (11))), (.c (.i .i64 (31)))])⟩,
 ⟨(some 5), none, .call 205 [(.t 3), (.t 4)]⟩,
 ⟨(some 2), none, .o (.mov (.t 5))⟩])
 .ret))⟩
def qf_s_l01Cyclic : QF := ⟨2, 35, [.c 4 2 522],
 (.seq (.reg [⟨(some 4), none, .o (.alo (.by 2 522))⟩])
 (.seq (.reg [⟨(some 8), none, .o (.mov (.t 0))⟩,
 ⟨(some 9), none, .o (.mov (.t 1))⟩,
 ⟨(some 10), none, .o (.bld 2 522 [(0, 1, (.t 8)), (1, 1, (.t 9))])⟩,
 ⟨(some 5), none, .o (.alo (.by 2 522))⟩,
 ⟨none, none, .sta (.t 5) (.t 10) 522⟩])
 (.seq (.reg [⟨(some 11), none, .o (.add (.t 5) 2)⟩,
 ⟨(some 12), none, .o (.idx (.t 11) (.c (.i .i64 (0))) 8 1)⟩,
 ⟨none, none, .st1 (.t 12) (.c (.u 1))⟩])
 (.seq (.seq (.reg [⟨(some 6), none, .o (.mov (.c (.i .i64 (0))))⟩])
 (.blk 0
 (.loop
 (.seq (.seq (.reg [⟨(some 13), none, .o (.mov (.t 6))⟩,
 ⟨(some 14), none, .o (.mov (.t 1))⟩,
 ⟨(some 15), none, .o (.bin .lss (.t 13) (.t 14))⟩])
 (.cond (.t 15)
 .skip
 (.exit 0)))
 (.seq (.blk 1
 (.seq (.reg [⟨(some 7), none, .o (.mov (.c (.i .i64 (0))))⟩])
 (.blk 2
 (.loop
 (.seq (.seq (.reg [⟨(some 18), none, .o (.mov (.t 7))⟩,
 ⟨(some 19), none, .o (.mov (.t 1))⟩,
 ⟨(some 20), none, .o (.bin .lss (.t 18) (.t 19))⟩])
 (.cond (.t 20)
 .skip
 (.exit 2)))
 (.seq (.blk 3
 (.drs [0, 0, 0, 0, 12, 0, 60, 0, 129, 387, 1023, 2047]
 [(0, false, ⟨(some 23), none, .o (.mov (.t 6))⟩),
 (1, false, ⟨(some 24), none, .o (.mov (.t 7))⟩),
 (2, false, ⟨(some 25), none, .o (.mov (.t 6))⟩),
 (3, false, ⟨(some 26), none, .o (.mov (.t 7))⟩),
 (4, false, ⟨(some 27), none, .o (.bin .add (.t 25) (.t 26))⟩),
 (5, false, ⟨(some 28), none, .o (.mov (.t 1))⟩),
 (6, false, ⟨(some 29), none, .o (.bin .rem (.t 27) (.t 28))⟩),
 (7, false, ⟨(some 30), none, .o (.add (.t 5) 10)⟩),
 (8, false, ⟨(some 31), none, .o (.idx (.t 30) (.t 23) 8 64)⟩),
 (9, false, ⟨(some 32), none, .o (.idx (.t 31) (.t 24) 8 8)⟩),
 (10, false, ⟨(some 33), none, .o (.idx (.t 32) (.t 29) 8 1)⟩),
 (11, false, ⟨none, none, .st1 (.t 33) (.c (.u 1))⟩)]))
 (.reg [⟨(some 21), none, .o (.mov (.t 7))⟩,
 ⟨(some 22), none, .o (.bin .add (.t 21) (.c (.i .i64 (1))))⟩,
 ⟨(some 7), none, .o (.mov (.t 22))⟩])))))))
 (.reg [⟨(some 16), none, .o (.mov (.t 6))⟩,
 ⟨(some 17), none, .o (.bin .add (.t 16) (.c (.i .i64 (1))))⟩,
 ⟨(some 6), none, .o (.mov (.t 17))⟩]))))))
 (.seq (.reg [⟨(some 34), none, .lda (.t 5) 2 522⟩,
 ⟨none, none, .sta (.t 4) (.t 34) 522⟩])
 .ret)))))⟩
def qf_s_l01Powers : QF := ⟨4, 55, [.c 8 2 522],
 (.seq (.reg [⟨(some 8), none, .o (.alo (.by 2 522))⟩])
 (.seq (.reg [⟨(some 14), none, .o (.mov (.t 0))⟩,
 ⟨(some 15), none, .o (.mov (.t 1))⟩,
 ⟨(some 16), none, .o (.bld 2 522 [(0, 1, (.t 14)), (1, 1, (.t 15))])⟩,
 ⟨(some 9), none, .o (.alo (.by 2 522))⟩,
 ⟨none, none, .sta (.t 9) (.t 16) 522⟩])
 (.seq (.reg [⟨(some 17), none, .o (.add (.t 9) 2)⟩,
 ⟨(some 18), none, .o (.idx (.t 17) (.c (.i .i64 (0))) 8 1)⟩,
 ⟨none, none, .st1 (.t 18) (.c (.u 1))⟩])
 (.seq (.seq (.reg [⟨(some 10), none, .o (.mov (.c (.i .i64 (0))))⟩])
 (.blk 0
 (.loop
 (.seq (.seq (.reg [⟨(some 19), none, .o (.mov (.t 10))⟩,
 ⟨(some 20), none, .o (.mov (.t 1))⟩,
 ⟨(some 21), none, .o (.bin .lss (.t 19) (.t 20))⟩])
 (.cond (.t 21)
 .skip
 (.exit 0)))
 (.seq (.blk 1
 (.seq (.reg [⟨(some 11), none, .o (.mov (.c (.i .i64 (0))))⟩])
 (.blk 2
 (.loop
 (.seq (.seq (.reg [⟨(some 24), none, .o (.mov (.t 11))⟩,
 ⟨(some 25), none, .o (.mov (.t 1))⟩,
 ⟨(some 26), none, .o (.bin .lss (.t 24) (.t 25))⟩])
 (.cond (.t 26)
 .skip
 (.exit 2)))
 (.seq (.blk 3
 (.seq (.reg [⟨(some 29), none, .o (.mov (.t 10))⟩,
 ⟨(some 30), none, .o (.mov (.t 11))⟩,
 ⟨(some 31), none, .o (.bin .add (.t 29) (.t 30))⟩,
 ⟨(some 12), none, .o (.mov (.t 31))⟩,
 ⟨(some 13), none, .o (.mov (.c (.i .i64 (1))))⟩])
 (.seq (.blk 4
 (.loop
 (.seq (.seq (.reg [⟨(some 32), none, .o (.mov (.t 12))⟩,
 ⟨(some 33), none, .o (.mov (.t 1))⟩,
 ⟨(some 34), none, .o (.bin .geq (.t 32) (.t 33))⟩])
 (.cond (.t 34)
 .skip
 (.exit 4)))
 (.blk 5
 (.seq (.reg [⟨(some 35), none, .o (.mov (.t 12))⟩,
 ⟨(some 36), none, .o (.mov (.t 1))⟩,
 ⟨(some 37), none, .o (.bin .sub (.t 35) (.t 36))⟩,
 ⟨(some 38), none, .o (.mov (.t 3))⟩,
 ⟨(some 39), none, .o (.bin .add (.t 37) (.t 38))⟩,
 ⟨(some 12), none, .o (.mov (.t 39))⟩])
 (.reg [⟨(some 40), none, .o (.mov (.t 13))⟩,
 ⟨(some 41), none, .o (.mov (.t 2))⟩,
 ⟨(some 42), none, .o (.bin .mul (.t 40) (.t 41))⟩,
 ⟨(some 43), none, .o (.mov (.t 0))⟩,
 ⟨(some 44), none, .o (.bin .rem (.t 42) (.t 43))⟩,
 ⟨(some 13), none, .o (.mov (.t 44))⟩]))))))
 (.reg [⟨(some 45), none, .o (.mov (.t 10))⟩,
 ⟨(some 46), none, .o (.mov (.t 11))⟩,
 ⟨(some 47), none, .o (.mov (.t 12))⟩,
 ⟨(some 48), none, .o (.mov (.t 13))⟩,
 ⟨(some 49), none, .o (.cvt .u8 (.t 48))⟩,
 ⟨(some 50), none, .o (.add (.t 9) 10)⟩,
 ⟨(some 51), none, .o (.idx (.t 50) (.t 45) 8 64)⟩,
 ⟨(some 52), none, .o (.idx (.t 51) (.t 46) 8 8)⟩,
 ⟨(some 53), none, .o (.idx (.t 52) (.t 47) 8 1)⟩,
 ⟨none, none, .st1 (.t 53) (.t 49)⟩]))))
 (.reg [⟨(some 27), none, .o (.mov (.t 11))⟩,
 ⟨(some 28), none, .o (.bin .add (.t 27) (.c (.i .i64 (1))))⟩,
 ⟨(some 11), none, .o (.mov (.t 28))⟩])))))))
 (.reg [⟨(some 22), none, .o (.mov (.t 10))⟩,
 ⟨(some 23), none, .o (.bin .add (.t 22) (.c (.i .i64 (1))))⟩,
 ⟨(some 10), none, .o (.mov (.t 23))⟩]))))))
 (.seq (.reg [⟨(some 54), none, .lda (.t 9) 2 522⟩,
 ⟨none, none, .sta (.t 8) (.t 54) 522⟩])
 .ret)))))⟩
def qf_s_l01Matrices : QF := ⟨1, 42, [.c 2 2 522],
 (.seq (.reg [⟨(some 2), none, .o (.alo (.by 2 522))⟩])
 (.seq (.reg [⟨(some 7), none, .o (.mov (.t 0))⟩,
 ⟨(some 8), none, .o (.bld 2 522 [(0, 1, (.t 7)), (1, 1, (.c (.i .i64 (4))))])⟩,
 ⟨(some 3), none, .o (.alo (.by 2 522))⟩,
 ⟨none, none, .sta (.t 3) (.t 8) 522⟩])
 (.seq (.reg [⟨(some 9), none, .o (.add (.t 3) 2)⟩,
 ⟨(some 10), none, .o (.idx (.t 9) (.c (.i .i64 (0))) 8 1)⟩,
 ⟨none, none, .st1 (.t 10) (.c (.u 1))⟩])
 (.seq (.reg [⟨(some 11), none, .o (.add (.t 3) 2)⟩,
 ⟨(some 12), none, .o (.idx (.t 11) (.c (.i .i64 (3))) 8 1)⟩,
 ⟨none, none, .st1 (.t 12) (.c (.u 1))⟩])
 (.seq (.seq (.reg [⟨(some 4), none, .o (.mov (.c (.i .i64 (0))))⟩])
 (.blk 0
 (.loop
 (.seq (.seq (.reg [⟨(some 13), none, .o (.mov (.t 4))⟩,
 ⟨(some 14), none, .o (.bin .lss (.t 13) (.c (.i .i64 (2))))⟩])
 (.cond (.t 14)
 .skip
 (.exit 0)))
 (.seq (.blk 1
 (.seq (.reg [⟨(some 5), none, .o (.mov (.c (.i .i64 (0))))⟩])
 (.blk 2
 (.loop
 (.seq (.seq (.reg [⟨(some 17), none, .o (.mov (.t 5))⟩,
 ⟨(some 18), none, .o (.bin .lss (.t 17) (.c (.i .i64 (2))))⟩])
 (.cond (.t 18)
 .skip
 (.exit 2)))
 (.seq (.blk 3
 (.seq (.reg [⟨(some 6), none, .o (.mov (.c (.i .i64 (0))))⟩])
 (.blk 4
 (.loop
 (.seq (.seq (.reg [⟨(some 21), none, .o (.mov (.t 6))⟩,
 ⟨(some 22), none, .o (.bin .lss (.t 21) (.c (.i .i64 (2))))⟩])
 (.cond (.t 22)
 .skip
 (.exit 4)))
 (.seq (.blk 5
 (.reg [⟨(some 25), none, .o (.mov (.t 4))⟩,
 ⟨(some 26), none, .o (.bin .mul (.c (.i .i64 (2))) (.t 25))⟩,
 ⟨(some 27), none, .o (.mov (.t 5))⟩,
 ⟨(some 28), none, .o (.bin .add (.t 26) (.t 27))⟩,
 ⟨(some 29), none, .o (.mov (.t 5))⟩,
 ⟨(some 30), none, .o (.bin .mul (.c (.i .i64 (2))) (.t 29))⟩,
 ⟨(some 31), none, .o (.mov (.t 6))⟩,
 ⟨(some 32), none, .o (.bin .add (.t 30) (.t 31))⟩,
 ⟨(some 33), none, .o (.mov (.t 4))⟩,
 ⟨(some 34), none, .o (.bin .mul (.c (.i .i64 (2))) (.t 33))⟩,
 ⟨(some 35), none, .o (.mov (.t 6))⟩,
 ⟨(some 36), none, .o (.bin .add (.t 34) (.t 35))⟩,
 ⟨(some 37), none, .o (.add (.t 3) 10)⟩,
 ⟨(some 38), none, .o (.idx (.t 37) (.t 28) 8 64)⟩,
 ⟨(some 39), none, .o (.idx (.t 38) (.t 32) 8 8)⟩,
 ⟨(some 40), none, .o (.idx (.t 39) (.t 36) 8 1)⟩,
 ⟨none, none, .st1 (.t 40) (.c (.u 1))⟩]))
 (.reg [⟨(some 23), none, .o (.mov (.t 6))⟩,
 ⟨(some 24), none, .o (.bin .add (.t 23) (.c (.i .i64 (1))))⟩,
 ⟨(some 6), none, .o (.mov (.t 24))⟩])))))))
 (.reg [⟨(some 19), none, .o (.mov (.t 5))⟩,
 ⟨(some 20), none, .o (.bin .add (.t 19) (.c (.i .i64 (1))))⟩,
 ⟨(some 5), none, .o (.mov (.t 20))⟩])))))))
 (.reg [⟨(some 15), none, .o (.mov (.t 4))⟩,
 ⟨(some 16), none, .o (.bin .add (.t 15) (.c (.i .i64 (1))))⟩,
 ⟨(some 4), none, .o (.mov (.t 16))⟩]))))))
 (.seq (.reg [⟨(some 41), none, .lda (.t 3) 2 522⟩,
 ⟨none, none, .sta (.t 2) (.t 41) 522⟩])
 .ret))))))⟩
def qf_s_ProductAlgebra : QF := ⟨2, 91, [.c 4 2 522, .t 5],
 (.seq (.reg [⟨(some 2), none, .o (.box (.t 0))⟩,
 ⟨(some 3), none, .o (.box (.t 1))⟩,
 ⟨(some 4), none, .o (.alo (.by 2 522))⟩,
 ⟨(some 5), none, .o (.mov (.c (.i .i64 (0))))⟩])
 (.seq (.blk 0
 (.seq (.reg [⟨(some 11), none, .lda (.t 2) 2 522⟩,
 ⟨(some 12), none, .calp 76 [(.t 11)]⟩,
 ⟨(some 13), none, .o (.nt (.t 12))⟩,
 ⟨(some 14), none, .o (.mov (.t 13))⟩,
 ⟨(some 15), (some (14, false)), .lda (.t 3) 2 522⟩,
 ⟨(some 16), (some (14, false)), .calp 76 [(.t 15)]⟩,
 ⟨(some 17), (some (14, false)), .o (.nt (.t 16))⟩,
 ⟨(some 18), none, .o (.pick (.t 14) (.c (.b true)) (.t 17))⟩,
 ⟨(some 10), none, .o (.mov (.t 18))⟩])
 (.cond (.t 10)
 (.seq (.reg [⟨(some 19), none, .o (.bld 2 522 [])⟩,
 ⟨none, none, .sta (.t 4) (.t 19) 522⟩,
 ⟨(some 5), none, .o (.mov (.c (.i .i64 (1))))⟩])
 .ret)
 (.seq (.reg [⟨(some 21), none, .o (.add (.t 2) 0)⟩,
 ⟨(some 22), none, .ld1 (.t 21)⟩,
 ⟨(some 23), none, .o (.add (.t 3) 0)⟩,
 ⟨(some 24), none, .ld1 (.t 23)⟩,
 ⟨(some 25), none, .o (.bin .neq (.t 22) (.t 24))⟩,
 ⟨(some 20), none, .o (.mov (.t 25))⟩])
 (.cond (.t 20)
 (.seq (.reg [⟨(some 26), none, .o (.bld 2 522 [])⟩,
 ⟨none, none, .sta (.t 4) (.t 26) 522⟩,
 ⟨(some 5), none, .o (.mov (.c (.i .i64 (2))))⟩])
 .ret)
 (.seq (.reg [⟨(some 28), none, .o (.add (.t 2) 1)⟩,
 ⟨(some 29), none, .ld1 (.t 28)⟩,
 ⟨(some 30), none, .o (.add (.t 3) 1)⟩,
 ⟨(some 31), none, .ld1 (.t 30)⟩,
 ⟨(some 32), none, .o (.bin .add (.t 29) (.t 31))⟩,
 ⟨(some 33), none, .o (.bin .gtr (.t 32) (.c (.i .i64 (8))))⟩,
 ⟨(some 27), none, .o (.mov (.t 33))⟩])
 (.cond (.t 27)
 (.seq (.reg [⟨(some 34), none, .o (.bld 2 522 [])⟩,
 ⟨none, none, .sta (.t 4) (.t 34) 522⟩,
 ⟨(some 5), none, .o (.mov (.c (.i .i64 (3))))⟩])
 .ret)
 .skip)))))))
 (.seq (.reg [⟨(some 35), none, .o (.add (.t 2) 1)⟩,
 ⟨(some 36), none, .ld1 (.t 35)⟩,
 ⟨(some 6), none, .o (.mov (.t 36))⟩])
 (.seq (.seq (.reg [⟨(some 7), none, .o (.mov (.c (.i .i64 (0))))⟩])
 (.blk 1
 (.loop
 (.seq (.seq (.reg [⟨(some 37), none, .o (.mov (.t 7))⟩,
 ⟨(some 38), none, .o (.add (.t 3) 1)⟩,
 ⟨(some 39), none, .ld1 (.t 38)⟩,
 ⟨(some 40), none, .o (.bin .lss (.t 37) (.t 39))⟩])
 (.cond (.t 40)
 .skip
 (.exit 1)))
 (.seq (.blk 2
 (.seq (.reg [⟨(some 43), none, .o (.mov (.t 6))⟩,
 ⟨(some 44), none, .o (.mov (.t 7))⟩,
 ⟨(some 45), none, .o (.bin .add (.t 43) (.t 44))⟩,
 ⟨(some 46), none, .o (.mov (.t 7))⟩,
 ⟨(some 47), none, .o (.add (.t 3) 2)⟩,
 ⟨(some 48), none, .o (.idx (.t 47) (.t 46) 8 1)⟩,
 ⟨(some 49), none, .ld1 (.t 48)⟩,
 ⟨(some 50), none, .o (.add (.t 2) 2)⟩,
 ⟨(some 51), none, .o (.idx (.t 50) (.t 45) 8 1)⟩,
 ⟨none, none, .st1 (.t 51) (.t 49)⟩])
 (.seq (.reg [⟨(some 8), none, .o (.mov (.c (.i .i64 (0))))⟩])
 (.blk 3
 (.loop
 (.seq (.seq (.reg [⟨(some 52), none, .o (.mov (.t 8))⟩,
 ⟨(some 53), none, .o (.add (.t 3) 1)⟩,
 ⟨(some 54), none, .ld1 (.t 53)⟩,
 ⟨(some 55), none, .o (.bin .lss (.t 52) (.t 54))⟩])
 (.cond (.t 55)
 .skip
 (.exit 3)))
 (.seq (.blk 4
 (.seq (.reg [⟨(some 9), none, .o (.mov (.c (.i .i64 (0))))⟩])
 (.blk 5
 (.loop
 (.seq (.seq (.reg [⟨(some 58), none, .o (.mov (.t 9))⟩,
 ⟨(some 59), none, .o (.add (.t 3) 1)⟩,
 ⟨(some 60), none, .ld1 (.t 59)⟩,
 ⟨(some 61), none, .o (.bin .lss (.t 58) (.t 60))⟩])
 (.cond (.t 61)
 .skip
 (.exit 5)))
 (.seq (.blk 6
 (.drs [0, 0, 3, 0, 0, 24, 0, 0, 192, 0, 0, 0, 0, 4608, 13824, 32256, 65024, 0, 131079, 393279, 1048575, 2097151]
 [(0, false, ⟨(some 64), none, .o (.mov (.t 6))⟩),
 (1, false, ⟨(some 65), none, .o (.mov (.t 7))⟩),
 (2, false, ⟨(some 66), none, .o (.bin .add (.t 64) (.t 65))⟩),
 (3, false, ⟨(some 67), none, .o (.mov (.t 6))⟩),
 (4, false, ⟨(some 68), none, .o (.mov (.t 8))⟩),
 (5, false, ⟨(some 69), none, .o (.bin .add (.t 67) (.t 68))⟩),
 (6, false, ⟨(some 70), none, .o (.mov (.t 6))⟩),
 (7, false, ⟨(some 71), none, .o (.mov (.t 9))⟩),
 (8, false, ⟨(some 72), none, .o (.bin .add (.t 70) (.t 71))⟩),
 (9, false, ⟨(some 73), none, .o (.mov (.t 7))⟩),
 (10, false, ⟨(some 74), none, .o (.mov (.t 8))⟩),
 (11, false, ⟨(some 75), none, .o (.mov (.t 9))⟩),
 (12, false, ⟨(some 76), none, .o (.add (.t 3) 10)⟩),
 (13, false, ⟨(some 77), none, .o (.idx (.t 76) (.t 73) 8 64)⟩),
 (14, false, ⟨(some 78), none, .o (.idx (.t 77) (.t 74) 8 8)⟩),
 (15, false, ⟨(some 79), none, .o (.idx (.t 78) (.t 75) 8 1)⟩),
 (16, false, ⟨(some 80), none, .ld1 (.t 79)⟩),
 (17, false, ⟨(some 81), none, .o (.add (.t 2) 10)⟩),
 (18, false, ⟨(some 82), none, .o (.idx (.t 81) (.t 66) 8 64)⟩),
 (19, false, ⟨(some 83), none, .o (.idx (.t 82) (.t 69) 8 8)⟩),
 (20, false, ⟨(some 84), none, .o (.idx (.t 83) (.t 72) 8 1)⟩),
 (21, false, ⟨none, none, .st1 (.t 84) (.t 80)⟩)]))
 (.reg [⟨(some 62), none, .o (.mov (.t 9))⟩,
 ⟨(some 63), none, .o (.bin .add (.t 62) (.c (.i .i64 (1))))⟩,
 ⟨(some 9), none, .o (.mov (.t 63))⟩])))))))
 (.reg [⟨(some 56), none, .o (.mov (.t 8))⟩,
 ⟨(some 57), none, .o (.bin .add (.t 56) (.c (.i .i64 (1))))⟩,
 ⟨(some 8), none, .o (.mov (.t 57))⟩]))))))))
 (.reg [⟨(some 41), none, .o (.mov (.t 7))⟩,
 ⟨(some 42), none, .o (.bin .add (.t 41) (.c (.i .i64 (1))))⟩,
 ⟨(some 7), none, .o (.mov (.t 42))⟩]))))))
 (.seq (.reg [⟨(some 85), none, .o (.mov (.t 6))⟩,
 ⟨(some 86), none, .o (.add (.t 3) 1)⟩,
 ⟨(some 87), none, .ld1 (.t 86)⟩,
 ⟨(some 88), none, .o (.bin .add (.t 85) (.t 87))⟩,
 ⟨(some 89), none, .o (.add (.t 2) 1)⟩,
 ⟨none, none, .st1 (.t 89) (.t 88)⟩])
 (.seq (.reg [⟨(some 90), none, .lda (.t 2) 2 522⟩,
 ⟨none, none, .sta (.t 4) (.t 90) 522⟩,
 ⟨(some 5), none, .o (.mov (.c (.i .i64 (0))))⟩])
 .ret))))))⟩
def qf_s_l01Draw : QF := ⟨1, 81, [.c 2 2 522],
 (.seq (.reg [⟨(some 2), none, .o (.alo (.by 2 522))⟩])
 (.seq (.reg [⟨(some 9), none, .o (.mov (.t 0))⟩,
 ⟨(some 10), none, .call 206 [(.t 9)]⟩,
 ⟨(some 3), none, .o (.mov (.t 10))⟩])
 (.seq (.seq (.reg [⟨(some 11), none, .o (.mov (.t 0))⟩,
 ⟨(some 12), none, .call 195 [(.t 11), (.c (.i .i64 (6)))]⟩])
 (.blk 0
 (.seq (.reg [⟨(some 14), none, .o (.bin .eql (.t 12) (.c (.i .i64 (0))))⟩,
 ⟨(some 13), none, .o (.mov (.t 14))⟩])
 (.cond (.t 13)
 (.seq (.reg [⟨(some 15), none, .o (.mov (.t 3))⟩,
 ⟨(some 16), none, .o (.mov (.t 0))⟩,
 ⟨(some 17), none, .call 195 [(.t 16), (.c (.i .i64 (8)))]⟩,
 ⟨(some 18), none, .o (.bin .add (.c (.i .i64 (1))) (.t 17))⟩,
 ⟨(some 19), none, .call 196 [(.t 15), (.t 18)]⟩,
 ⟨none, none, .sta (.t 2) (.t 19) 522⟩])
 .ret)
 (.seq (.reg [⟨(some 21), none, .o (.bin .eql (.t 12) (.c (.i .i64 (1))))⟩,
 ⟨(some 20), none, .o (.mov (.t 21))⟩])
 (.cond (.t 20)
 (.seq (.reg [⟨(some 22), none, .o (.mov (.t 0))⟩,
 ⟨(some 23), none, .call 195 [(.t 22), (.c (.i .i64 (6)))]⟩,
 ⟨(some 24), none, .o (.bin .add (.c (.i .i64 (1))) (.t 23))⟩,
 ⟨(some 4), none, .o (.mov (.t 24))⟩])
 (.seq (.reg [⟨(some 25), none, .o (.mov (.t 3))⟩,
 ⟨(some 26), none, .o (.mov (.t 4))⟩,
 ⟨(some 27), none, .o (.mov (.t 0))⟩,
 ⟨(some 28), none, .o (.mov (.t 3))⟩,
 ⟨(some 29), none, .call 195 [(.t 27), (.t 28)]⟩,
 ⟨(some 30), none, .o (.mov (.t 0))⟩,
 ⟨(some 31), none, .o (.mov (.t 4))⟩,
 ⟨(some 32), none, .call 195 [(.t 30), (.t 31)]⟩,
 ⟨(some 33), none, .call 208 [(.t 25), (.t 26), (.t 29), (.t 32)]⟩,
 ⟨none, none, .sta (.t 2) (.t 33) 522⟩])
 .ret))
 (.seq (.reg [⟨(some 35), none, .o (.bin .eql (.t 12) (.c (.i .i64 (2))))⟩,
 ⟨(some 34), none, .o (.mov (.t 35))⟩])
 (.cond (.t 34)
 (.seq (.reg [⟨(some 36), none, .o (.mov (.t 3))⟩,
 ⟨(some 37), none, .call 197 [(.t 36)]⟩,
 ⟨none, none, .sta (.t 2) (.t 37) 522⟩])
 .ret)
 (.seq (.reg [⟨(some 39), none, .o (.bin .eql (.t 12) (.c (.i .i64 (3))))⟩,
 ⟨(some 38), none, .o (.mov (.t 39))⟩])
 (.cond (.t 38)
 (.seq (.reg [⟨(some 41), none, .o (.mov (.t 3))⟩,
 ⟨(some 42), none, .o (.mov (.t 0))⟩,
 ⟨(some 43), none, .call 195 [(.t 42), (.c (.i .i64 (3)))]⟩,
 ⟨(some 44), none, .o (.bin .add (.c (.i .i64 (1))) (.t 43))⟩,
 ⟨(some 45), none, .call 196 [(.t 41), (.t 44)]⟩,
 ⟨(some 46), none, .o (.mov (.t 3))⟩,
 ⟨(some 47), none, .call 197 [(.t 46)]⟩,
 ⟨(some 48), none, .calp 209 [(.t 45), (.t 47)]⟩,
 ⟨(some 40), none, .o (.mov (.t 48))⟩,
 ⟨(some 49), none, .o (.ext (.t 40) 0)⟩,
 ⟨(some 50), none, .o (.ext (.t 40) 1)⟩,
 ⟨(some 5), none, .o (.alo (.by 2 522))⟩,
 ⟨none, none, .sta (.t 5) (.t 49) 522⟩,
 ⟨(some 6), none, .o (.mov (.t 50))⟩])
 (.seq (.reg [⟨(some 51), none, .o (.mov (.t 6))⟩,
 ⟨(some 52), none, .o (.bin .eql (.t 51) (.c (.i .i64 (0))))⟩])
 (.cond (.t 52)
 (.seq (.reg [⟨(some 53), none, .lda (.t 5) 2 522⟩,
 ⟨none, none, .sta (.t 2) (.t 53) 522⟩])
 .ret)
 .skip)))
 (.seq (.reg [⟨(some 55), none, .o (.bin .eql (.t 12) (.c (.i .i64 (4))))⟩,
 ⟨(some 54), none, .o (.mov (.t 55))⟩])
 (.cond (.t 54)
 (.seq (.reg [⟨(some 57), none, .o (.mov (.t 3))⟩,
 ⟨(some 58), none, .o (.mov (.t 0))⟩,
 ⟨(some 59), none, .call 195 [(.t 58), (.c (.i .i64 (3)))]⟩,
 ⟨(some 60), none, .o (.bin .add (.c (.i .i64 (1))) (.t 59))⟩,
 ⟨(some 61), none, .call 208 [(.t 57), (.t 60), (.c (.i .i64 (0))), (.c (.i .i64 (0)))]⟩,
 ⟨(some 62), none, .o (.mov (.t 3))⟩,
 ⟨(some 63), none, .o (.mov (.t 0))⟩,
 ⟨(some 64), none, .call 195 [(.t 63), (.c (.i .i64 (4)))]⟩,
 ⟨(some 65), none, .o (.bin .add (.c (.i .i64 (1))) (.t 64))⟩,
 ⟨(some 66), none, .o (.mov (.t 0))⟩,
 ⟨(some 67), none, .o (.mov (.t 3))⟩,
 ⟨(some 68), none, .call 195 [(.t 66), (.t 67)]⟩,
 ⟨(some 69), none, .call 208 [(.t 62), (.t 65), (.t 68), (.c (.i .i64 (0)))]⟩,
 ⟨(some 70), none, .calp 209 [(.t 61), (.t 69)]⟩,
 ⟨(some 56), none, .o (.mov (.t 70))⟩,
 ⟨(some 71), none, .o (.ext (.t 56) 0)⟩,
 ⟨(some 72), none, .o (.ext (.t 56) 1)⟩,
 ⟨(some 7), none, .o (.alo (.by 2 522))⟩,
 ⟨none, none, .sta (.t 7) (.t 71) 522⟩,
 ⟨(some 8), none, .o (.mov (.t 72))⟩])
 (.seq (.reg [⟨(some 73), none, .o (.mov (.t 8))⟩,
 ⟨(some 74), none, .o (.bin .eql (.t 73) (.c (.i .i64 (0))))⟩])
 (.cond (.t 74)
 (.seq (.reg [⟨(some 75), none, .lda (.t 7) 2 522⟩,
 ⟨none, none, .sta (.t 2) (.t 75) 522⟩])
 .ret)
 .skip)))
 .skip))))))))))))
 (.seq (.reg [⟨(some 76), none, .o (.mov (.t 3))⟩,
 ⟨(some 77), none, .o (.mov (.t 0))⟩,
 ⟨(some 78), none, .call 195 [(.t 77), (.c (.i .i64 (3)))]⟩,
 ⟨(some 79), none, .o (.bin .add (.c (.i .i64 (1))) (.t 78))⟩,
 ⟨(some 80), none, .call 208 [(.t 76), (.t 79), (.c (.i .i64 (0))), (.c (.i .i64 (0)))]⟩,
 ⟨none, none, .sta (.t 2) (.t 80) 522⟩])
 .ret))))⟩
def qf_s_l02Turned : QF := ⟨1, 34, [.c 2 0 512],
 (.seq (.reg [⟨(some 1), none, .o (.box (.t 0))⟩,
 ⟨(some 2), none, .o (.alo (.by 0 512))⟩])
 (.seq (.reg [⟨(some 7), none, .o (.bld 0 512 [])⟩,
 ⟨(some 3), none, .o (.alo (.by 0 512))⟩,
 ⟨none, none, .sta (.t 3) (.t 7) 512⟩])
 (.seq (.seq (.reg [⟨(some 4), none, .o (.mov (.c (.i .i64 (0))))⟩])
 (.blk 0
 (.loop
 (.seq (.seq (.reg [⟨(some 8), none, .o (.mov (.t 4))⟩,
 ⟨(some 9), none, .o (.bin .lss (.t 8) (.c (.i .i64 (8))))⟩])
 (.cond (.t 9)
 .skip
 (.exit 0)))
 (.seq (.blk 1
 (.seq (.reg [⟨(some 5), none, .o (.mov (.c (.i .i64 (0))))⟩])
 (.blk 2
 (.loop
 (.seq (.seq (.reg [⟨(some 12), none, .o (.mov (.t 5))⟩,
 ⟨(some 13), none, .o (.bin .lss (.t 12) (.c (.i .i64 (8))))⟩])
 (.cond (.t 13)
 .skip
 (.exit 2)))
 (.seq (.blk 3
 (.seq (.reg [⟨(some 6), none, .o (.mov (.c (.i .i64 (0))))⟩])
 (.blk 4
 (.loop
 (.seq (.seq (.reg [⟨(some 16), none, .o (.mov (.t 6))⟩,
 ⟨(some 17), none, .o (.bin .lss (.t 16) (.c (.i .i64 (8))))⟩])
 (.cond (.t 17)
 .skip
 (.exit 4)))
 (.seq (.blk 5
 (.drs [0, 0, 0, 0, 0, 0, 8, 88, 248, 504, 1, 1027, 4095, 8191]
 [(0, false, ⟨(some 20), none, .o (.mov (.t 5))⟩),
 (1, false, ⟨(some 21), none, .o (.mov (.t 6))⟩),
 (2, false, ⟨(some 22), none, .o (.mov (.t 4))⟩),
 (3, false, ⟨(some 23), none, .o (.mov (.t 4))⟩),
 (4, false, ⟨(some 24), none, .o (.mov (.t 5))⟩),
 (5, false, ⟨(some 25), none, .o (.mov (.t 6))⟩),
 (6, false, ⟨(some 26), none, .o (.idx (.t 1) (.t 23) 8 64)⟩),
 (7, false, ⟨(some 27), none, .o (.idx (.t 26) (.t 24) 8 8)⟩),
 (8, false, ⟨(some 28), none, .o (.idx (.t 27) (.t 25) 8 1)⟩),
 (9, false, ⟨(some 29), none, .ld1 (.t 28)⟩),
 (10, false, ⟨(some 30), none, .o (.idx (.t 3) (.t 20) 8 64)⟩),
 (11, false, ⟨(some 31), none, .o (.idx (.t 30) (.t 21) 8 8)⟩),
 (12, false, ⟨(some 32), none, .o (.idx (.t 31) (.t 22) 8 1)⟩),
 (13, false, ⟨none, none, .st1 (.t 32) (.t 29)⟩)]))
 (.reg [⟨(some 18), none, .o (.mov (.t 6))⟩,
 ⟨(some 19), none, .o (.bin .add (.t 18) (.c (.i .i64 (1))))⟩,
 ⟨(some 6), none, .o (.mov (.t 19))⟩])))))))
 (.reg [⟨(some 14), none, .o (.mov (.t 5))⟩,
 ⟨(some 15), none, .o (.bin .add (.t 14) (.c (.i .i64 (1))))⟩,
 ⟨(some 5), none, .o (.mov (.t 15))⟩])))))))
 (.reg [⟨(some 10), none, .o (.mov (.t 4))⟩,
 ⟨(some 11), none, .o (.bin .add (.t 10) (.c (.i .i64 (1))))⟩,
 ⟨(some 4), none, .o (.mov (.t 11))⟩]))))))
 (.seq (.reg [⟨(some 33), none, .lda (.t 3) 0 512⟩,
 ⟨none, none, .sta (.t 2) (.t 33) 512⟩])
 .ret))))⟩
def qf_s_DualCoalgebra : QF := ⟨1, 19, [.c 2 2 522, .t 3],
 (.seq (.reg [⟨(some 1), none, .o (.box (.t 0))⟩,
 ⟨(some 2), none, .o (.alo (.by 2 522))⟩,
 ⟨(some 3), none, .o (.mov (.c (.i .i64 (0))))⟩])
 (.seq (.seq (.reg [⟨(some 4), none, .lda (.t 1) 2 522⟩,
 ⟨(some 5), none, .calp 76 [(.t 4)]⟩,
 ⟨(some 6), none, .o (.nt (.t 5))⟩])
 (.cond (.t 6)
 (.seq (.reg [⟨(some 7), none, .o (.bld 2 522 [])⟩,
 ⟨none, none, .sta (.t 2) (.t 7) 522⟩,
 ⟨(some 3), none, .o (.mov (.c (.i .i64 (1))))⟩])
 .ret)
 .skip))
 (.seq (.drs [0, 1, 0, 4, 0, 16, 0, 64, 192, 448, 1023, 2047, 4095]
 [(0, false, ⟨(some 8), none, .o (.add (.t 1) 0)⟩),
 (1, false, ⟨(some 9), none, .ld1 (.t 8)⟩),
 (2, false, ⟨(some 10), none, .o (.add (.t 1) 1)⟩),
 (3, false, ⟨(some 11), none, .ld1 (.t 10)⟩),
 (4, false, ⟨(some 12), none, .o (.add (.t 1) 2)⟩),
 (5, false, ⟨(some 13), none, .lda (.t 12) 0 8⟩),
 (6, false, ⟨(some 14), none, .o (.add (.t 1) 10)⟩),
 (7, false, ⟨(some 15), none, .lda (.t 14) 0 512⟩),
 (8, false, ⟨(some 16), none, .calp 210 [(.t 15)]⟩),
 (9, false, ⟨(some 17), none, .calp 210 [(.t 16)]⟩),
 (10, false, ⟨(some 18), none, .o (.bld 2 522 [(0, 1, (.t 9)), (1, 1, (.t 11)), (2, 8, (.t 13)), (10, 512, (.t 17))])⟩),
 (11, false, ⟨none, none, .sta (.t 2) (.t 18) 522⟩),
 (12, false, ⟨(some 3), none, .o (.mov (.c (.i .i64 (0))))⟩)])
 .ret)))⟩
def qf_s_l02Draw : QF := ⟨1, 74, [.c 2 2 522],
 (.seq (.reg [⟨(some 2), none, .o (.alo (.by 2 522))⟩])
 (.seq (.seq (.reg [⟨(some 10), none, .o (.mov (.t 0))⟩,
 ⟨(some 11), none, .call 195 [(.t 10), (.c (.i .i64 (4)))]⟩])
 (.blk 0
 (.seq (.reg [⟨(some 13), none, .o (.bin .eql (.t 11) (.c (.i .i64 (0))))⟩,
 ⟨(some 12), none, .o (.mov (.t 13))⟩])
 (.cond (.t 12)
 (.seq (.reg [⟨(some 14), none, .o (.mov (.t 0))⟩,
 ⟨(some 15), none, .call 206 [(.t 14)]⟩,
 ⟨(some 16), none, .o (.mov (.t 0))⟩,
 ⟨(some 17), none, .call 195 [(.t 16), (.c (.i .i64 (6)))]⟩,
 ⟨(some 18), none, .o (.bin .add (.c (.i .i64 (1))) (.t 17))⟩,
 ⟨(some 19), none, .o (.bld 2 522 [(0, 1, (.t 15)), (1, 1, (.t 18))])⟩,
 ⟨(some 3), none, .o (.alo (.by 2 522))⟩,
 ⟨none, none, .sta (.t 3) (.t 19) 522⟩])
 (.seq (.seq (.reg [⟨(some 4), none, .o (.mov (.c (.i .i64 (0))))⟩])
 (.blk 1
 (.loop
 (.seq (.seq (.reg [⟨(some 20), none, .o (.mov (.t 4))⟩,
 ⟨(some 21), none, .o (.add (.t 3) 1)⟩,
 ⟨(some 22), none, .ld1 (.t 21)⟩,
 ⟨(some 23), none, .o (.bin .lss (.t 20) (.t 22))⟩])
 (.cond (.t 23)
 .skip
 (.exit 1)))
 (.seq (.blk 2
 (.seq (.reg [⟨(some 26), none, .o (.mov (.t 4))⟩,
 ⟨(some 27), none, .o (.add (.t 3) 2)⟩,
 ⟨(some 28), none, .o (.idx (.t 27) (.t 26) 8 1)⟩,
 ⟨none, none, .st1 (.t 28) (.c (.u 1))⟩])
 (.reg [⟨(some 29), none, .o (.mov (.t 4))⟩,
 ⟨(some 30), none, .o (.mov (.t 4))⟩,
 ⟨(some 31), none, .o (.mov (.t 4))⟩,
 ⟨(some 32), none, .o (.add (.t 3) 10)⟩,
 ⟨(some 33), none, .o (.idx (.t 32) (.t 29) 8 64)⟩,
 ⟨(some 34), none, .o (.idx (.t 33) (.t 30) 8 8)⟩,
 ⟨(some 35), none, .o (.idx (.t 34) (.t 31) 8 1)⟩,
 ⟨none, none, .st1 (.t 35) (.c (.u 1))⟩])))
 (.reg [⟨(some 24), none, .o (.mov (.t 4))⟩,
 ⟨(some 25), none, .o (.bin .add (.t 24) (.c (.i .i64 (1))))⟩,
 ⟨(some 4), none, .o (.mov (.t 25))⟩]))))))
 (.seq (.reg [⟨(some 36), none, .lda (.t 3) 2 522⟩,
 ⟨none, none, .sta (.t 2) (.t 36) 522⟩])
 .ret)))
 (.seq (.reg [⟨(some 38), none, .o (.bin .eql (.t 11) (.c (.i .i64 (1))))⟩,
 ⟨(some 37), none, .o (.mov (.t 38))⟩])
 (.cond (.t 37)
 (.seq (.reg [⟨(some 39), none, .o (.mov (.t 0))⟩,
 ⟨(some 40), none, .call 206 [(.t 39)]⟩,
 ⟨(some 41), none, .o (.mov (.t 0))⟩,
 ⟨(some 42), none, .call 195 [(.t 41), (.c (.i .i64 (6)))]⟩,
 ⟨(some 43), none, .o (.bin .add (.c (.i .i64 (1))) (.t 42))⟩,
 ⟨(some 44), none, .o (.bld 0 8 [(0, 1, (.c (.u 1)))])⟩,
 ⟨(some 45), none, .o (.bld 2 522 [(0, 1, (.t 40)), (1, 1, (.t 43)), (2, 8, (.t 44))])⟩,
 ⟨(some 5), none, .o (.alo (.by 2 522))⟩,
 ⟨none, none, .sta (.t 5) (.t 45) 522⟩])
 (.seq (.seq (.reg [⟨(some 6), none, .o (.mov (.c (.i .i64 (0))))⟩])
 (.blk 3
 (.loop
 (.seq (.seq (.reg [⟨(some 46), none, .o (.mov (.t 6))⟩,
 ⟨(some 47), none, .o (.add (.t 5) 1)⟩,
 ⟨(some 48), none, .ld1 (.t 47)⟩,
 ⟨(some 49), none, .o (.bin .lss (.t 46) (.t 48))⟩])
 (.cond (.t 49)
 .skip
 (.exit 3)))
 (.seq (.blk 4
 (.seq (.reg [⟨(some 7), none, .o (.mov (.c (.i .i64 (0))))⟩])
 (.blk 5
 (.loop
 (.seq (.seq (.reg [⟨(some 52), none, .o (.mov (.t 7))⟩,
 ⟨(some 53), none, .o (.mov (.t 6))⟩,
 ⟨(some 54), none, .o (.bin .leq (.t 52) (.t 53))⟩])
 (.cond (.t 54)
 .skip
 (.exit 5)))
 (.seq (.blk 6
 (.reg [⟨(some 57), none, .o (.mov (.t 6))⟩,
 ⟨(some 58), none, .o (.mov (.t 7))⟩,
 ⟨(some 59), none, .o (.mov (.t 6))⟩,
 ⟨(some 60), none, .o (.mov (.t 7))⟩,
 ⟨(some 61), none, .o (.bin .sub (.t 59) (.t 60))⟩,
 ⟨(some 62), none, .o (.add (.t 5) 10)⟩,
 ⟨(some 63), none, .o (.idx (.t 62) (.t 57) 8 64)⟩,
 ⟨(some 64), none, .o (.idx (.t 63) (.t 58) 8 8)⟩,
 ⟨(some 65), none, .o (.idx (.t 64) (.t 61) 8 1)⟩,
 ⟨none, none, .st1 (.t 65) (.c (.u 1))⟩]))
 (.reg [⟨(some 55), none, .o (.mov (.t 7))⟩,
 ⟨(some 56), none, .o (.bin .add (.t 55) (.c (.i .i64 (1))))⟩,
 ⟨(some 7), none, .o (.mov (.t 56))⟩])))))))
 (.reg [⟨(some 50), none, .o (.mov (.t 6))⟩,
 ⟨(some 51), none, .o (.bin .add (.t 50) (.c (.i .i64 (1))))⟩,
 ⟨(some 6), none, .o (.mov (.t 51))⟩]))))))
 (.seq (.reg [⟨(some 66), none, .lda (.t 5) 2 522⟩,
 ⟨none, none, .sta (.t 2) (.t 66) 522⟩])
 .ret)))
 .skip))))))
 (.seq (.reg [⟨(some 68), none, .o (.mov (.t 0))⟩,
 ⟨(some 69), none, .call 203 [(.t 68)]⟩,
 ⟨(some 70), none, .calp 207 [(.t 69)]⟩,
 ⟨(some 67), none, .o (.mov (.t 70))⟩,
 ⟨(some 71), none, .o (.ext (.t 67) 0)⟩,
 ⟨(some 72), none, .o (.ext (.t 67) 1)⟩,
 ⟨(some 8), none, .o (.alo (.by 2 522))⟩,
 ⟨none, none, .sta (.t 8) (.t 71) 522⟩,
 ⟨(some 9), none, .o (.mov (.t 72))⟩])
 (.seq (.reg [⟨(some 73), none, .lda (.t 8) 2 522⟩,
 ⟨none, none, .sta (.t 2) (.t 73) 522⟩])
 .ret))))⟩
def qf_s_l02Bad : QF := ⟨2, 47, [.c 4 2 522],
 (.seq (.reg [⟨(some 3), none, .o (.box (.t 1))⟩,
 ⟨(some 4), none, .o (.alo (.by 2 522))⟩])
 (.seq (.seq (.reg [⟨(some 5), none, .o (.mov (.t 0))⟩,
 ⟨(some 6), none, .call 195 [(.t 5), (.c (.i .i64 (40)))]⟩])
 (.blk 0
 (.seq (.reg [⟨(some 8), none, .o (.bin .eql (.t 6) (.c (.i .i64 (0))))⟩,
 ⟨(some 7), none, .o (.mov (.t 8))⟩])
 (.cond (.t 7)
 (.reg [⟨(some 9), none, .o (.mov (.t 0))⟩,
 ⟨(some 10), none, .o (.bsa [(.c (.i .i64 (0))), (.c (.i .i64 (4))), (.c (.i .i64 (37)))])⟩,
 ⟨(some 11), none, .call 205 [(.t 9), (.t 10)]⟩,
 ⟨(some 12), none, .o (.add (.t 3) 0)⟩,
 ⟨none, none, .st1 (.t 12) (.t 11)⟩])
 (.seq (.reg [⟨(some 14), none, .o (.bin .eql (.t 6) (.c (.i .i64 (1))))⟩,
 ⟨(some 13), none, .o (.mov (.t 14))⟩])
 (.cond (.t 13)
 (.reg [⟨(some 15), none, .o (.mov (.t 0))⟩,
 ⟨(some 16), none, .o (.add (.t 3) 1)⟩,
 ⟨(some 17), none, .ld1 (.t 16)⟩,
 ⟨(some 18), none, .o (.bin .sub (.t 17) (.c (.i .i64 (1))))⟩,
 ⟨(some 19), none, .o (.bsa [(.c (.i .i64 (0))), (.c (.i .i64 (9))), (.t 18)])⟩,
 ⟨(some 20), none, .call 205 [(.t 15), (.t 19)]⟩,
 ⟨(some 21), none, .o (.add (.t 3) 1)⟩,
 ⟨none, none, .st1 (.t 21) (.t 20)⟩])
 (.seq (.reg [⟨(some 23), none, .o (.bin .eql (.t 6) (.c (.i .i64 (2))))⟩,
 ⟨(some 22), none, .o (.mov (.t 23))⟩])
 (.cond (.t 22)
 (.drs [0, 1, 0, 7, 0, 31, 0, 127, 255, 0, 515, 1551, 4095, 8191]
 [(0, false, ⟨(some 24), none, .o (.mov (.t 0))⟩),
 (2, false, ⟨(some 26), none, .o (.mov (.t 0))⟩),
 (4, false, ⟨(some 28), none, .o (.mov (.t 0))⟩),
 (6, false, ⟨(some 30), none, .o (.mov (.t 0))⟩),
 (9, false, ⟨(some 33), none, .o (.add (.t 3) 10)⟩),
 (1, false, ⟨(some 25), none, .call 195 [(.t 24), (.c (.i .i64 (4)))]⟩),
 (10, false, ⟨(some 34), none, .o (.idx (.t 33) (.t 25) 8 64)⟩),
 (3, false, ⟨(some 27), none, .call 195 [(.t 26), (.c (.i .i64 (4)))]⟩),
 (11, false, ⟨(some 35), none, .o (.idx (.t 34) (.t 27) 8 8)⟩),
 (5, false, ⟨(some 29), none, .call 195 [(.t 28), (.c (.i .i64 (4)))]⟩),
 (7, false, ⟨(some 31), none, .call 195 [(.t 30), (.c (.i .i64 (3)))]⟩),
 (8, false, ⟨(some 32), none, .o (.cvt .u8 (.t 31))⟩),
 (12, false, ⟨(some 36), none, .o (.idx (.t 35) (.t 29) 8 1)⟩),
 (13, false, ⟨none, none, .st1 (.t 36) (.t 32)⟩)])
 (.seq (.reg [⟨(some 38), none, .o (.bin .eql (.t 6) (.c (.i .i64 (3))))⟩,
 ⟨(some 37), none, .o (.mov (.t 38))⟩])
 (.cond (.t 37)
 (.reg [⟨(some 39), none, .o (.mov (.t 0))⟩,
 ⟨(some 40), none, .call 195 [(.t 39), (.c (.i .i64 (8)))]⟩,
 ⟨(some 41), none, .o (.mov (.t 0))⟩,
 ⟨(some 42), none, .call 195 [(.t 41), (.c (.i .i64 (3)))]⟩,
 ⟨(some 43), none, .o (.cvt .u8 (.t 42))⟩,
 ⟨(some 44), none, .o (.add (.t 3) 2)⟩,
 ⟨(some 45), none, .o (.idx (.t 44) (.t 40) 8 1)⟩,
 ⟨none, none, .st1 (.t 45) (.t 43)⟩])
 .skip))))))))))
 (.seq (.reg [⟨(some 46), none, .lda (.t 3) 2 522⟩,
 ⟨none, none, .sta (.t 4) (.t 46) 522⟩])
 .ret)))⟩
def qf_s_l02Spoil : QF := ⟨1, 7, [.c 2 2 522],
 (.seq (.reg [⟨(some 2), none, .o (.alo (.by 2 522))⟩])
 (.seq (.reg [⟨(some 3), none, .o (.mov (.t 0))⟩,
 ⟨(some 4), none, .o (.mov (.t 0))⟩,
 ⟨(some 5), none, .call 201 [(.t 4)]⟩,
 ⟨(some 6), none, .call 202 [(.t 3), (.t 5)]⟩,
 ⟨none, none, .sta (.t 2) (.t 6) 522⟩])
 .ret))⟩
def qf_s_DrawIsCoalgebra : QF := ⟨1, 6, [.c 2 2 522],
 (.seq (.reg [⟨(some 2), none, .o (.alo (.by 2 522))⟩])
 (.seq (.reg [⟨(some 3), none, .o (.mov (.t 0))⟩,
 ⟨(some 4), none, .call 186 [(.t 3)]⟩,
 ⟨(some 5), none, .call 193 [(.t 4)]⟩,
 ⟨none, none, .sta (.t 2) (.t 5) 522⟩])
 .ret))⟩
def qf_s_IsCoalgebra : QF := ⟨1, 5, [.t 2],
 (.seq (.reg [⟨(some 1), none, .o (.box (.t 0))⟩,
 ⟨(some 2), none, .o (.mov (.c (.b false)))⟩])
 (.seq (.reg [⟨(some 3), none, .lda (.t 1) 2 522⟩,
 ⟨(some 4), none, .calp 77 [(.t 3)]⟩,
 ⟨(some 2), none, .o (.mov (.t 4))⟩])
 .ret))⟩
def qf_s_DrawFirstCoFault : QF := ⟨1, 38, [.c 2 2 522],
 (.seq (.reg [⟨(some 2), none, .o (.alo (.by 2 522))⟩])
 (.seq (.reg [⟨(some 5), none, .o (.mov (.t 0))⟩,
 ⟨(some 6), none, .call 186 [(.t 5)]⟩,
 ⟨(some 3), none, .o (.mov (.t 6))⟩])
 (.seq (.reg [⟨(some 7), none, .o (.mov (.t 3))⟩,
 ⟨(some 8), none, .call 193 [(.t 7)]⟩,
 ⟨(some 4), none, .o (.alo (.by 2 522))⟩,
 ⟨none, none, .sta (.t 4) (.t 8) 522⟩])
 (.seq (.seq (.reg [⟨(some 9), none, .o (.mov (.t 3))⟩,
 ⟨(some 10), none, .call 195 [(.t 9), (.c (.i .i64 (2)))]⟩,
 ⟨(some 11), none, .o (.bin .eql (.t 10) (.c (.i .i64 (0))))⟩,
 ⟨(some 12), none, .o (.mov (.t 11))⟩,
 ⟨(some 13), (some (12, true)), .lda (.t 4) 2 522⟩,
 ⟨(some 14), (some (12, true)), .calp 77 [(.t 13)]⟩,
 ⟨(some 15), none, .o (.pick (.t 12) (.t 14) (.c (.b false)))⟩])
 (.cond (.t 15)
 (.drs [0, 0, 2, 7, 0, 0, 32, 127, 0, 0, 512, 2047, 0, 0, 8192, 32767, 65535, 0, 131087, 393471, 1048575, 2097151]
 [(0, false, ⟨(some 16), none, .o (.mov (.t 3))⟩),
 (1, false, ⟨(some 17), none, .o (.add (.t 4) 1)⟩),
 (2, false, ⟨(some 18), none, .ld1 (.t 17)⟩),
 (4, false, ⟨(some 20), none, .o (.mov (.t 3))⟩),
 (5, false, ⟨(some 21), none, .o (.add (.t 4) 1)⟩),
 (6, true, ⟨(some 22), none, .ld1 (.t 21)⟩),
 (8, false, ⟨(some 24), none, .o (.mov (.t 3))⟩),
 (9, false, ⟨(some 25), none, .o (.add (.t 4) 1)⟩),
 (10, true, ⟨(some 26), none, .ld1 (.t 25)⟩),
 (12, false, ⟨(some 28), none, .o (.mov (.t 3))⟩),
 (13, false, ⟨(some 29), none, .o (.add (.t 4) 0)⟩),
 (14, true, ⟨(some 30), none, .ld1 (.t 29)⟩),
 (17, false, ⟨(some 33), none, .o (.add (.t 4) 10)⟩),
 (3, false, ⟨(some 19), none, .call 195 [(.t 16), (.t 18)]⟩),
 (18, false, ⟨(some 34), none, .o (.idx (.t 33) (.t 19) 8 64)⟩),
 (7, false, ⟨(some 23), none, .call 195 [(.t 20), (.t 22)]⟩),
 (19, false, ⟨(some 35), none, .o (.idx (.t 34) (.t 23) 8 8)⟩),
 (11, false, ⟨(some 27), none, .call 195 [(.t 24), (.t 26)]⟩),
 (15, true, ⟨(some 31), none, .call 195 [(.t 28), (.t 30)]⟩),
 (16, false, ⟨(some 32), none, .o (.cvt .u8 (.t 31))⟩),
 (20, false, ⟨(some 36), none, .o (.idx (.t 35) (.t 27) 8 1)⟩),
 (21, true, ⟨none, none, .st1 (.t 36) (.t 32)⟩)])
 .skip))
 (.seq (.reg [⟨(some 37), none, .lda (.t 4) 2 522⟩,
 ⟨none, none, .sta (.t 2) (.t 37) 522⟩])
 .ret)))))⟩
def qf_s_FirstCoFault : QF := ⟨1, 17, [.t 2, .t 3],
 (.seq (.reg [⟨(some 1), none, .o (.box (.t 0))⟩,
 ⟨(some 2), none, .o (.mov (.c .sn))⟩,
 ⟨(some 3), none, .o (.mov (.c (.i .i64 (0))))⟩])
 (.seq (.seq (.reg [⟨(some 6), none, .lda (.t 1) 2 522⟩,
 ⟨(some 7), none, .calp 98 [(.t 6)]⟩,
 ⟨(some 8), none, .o (.nt (.t 7))⟩])
 (.cond (.t 8)
 (.seq (.reg [⟨(some 2), none, .o (.mov (.c .sn))⟩,
 ⟨(some 3), none, .o (.mov (.c (.i .i64 (1))))⟩])
 .ret)
 .skip))
 (.seq (.reg [⟨(some 10), none, .lda (.t 1) 2 522⟩,
 ⟨(some 11), none, .call 99 [(.t 10)]⟩,
 ⟨(some 9), none, .o (.mov (.t 11))⟩,
 ⟨(some 12), none, .o (.ext (.t 9) 0)⟩,
 ⟨(some 13), none, .o (.ext (.t 9) 1)⟩,
 ⟨(some 4), none, .o (.mov (.t 12))⟩,
 ⟨(some 5), none, .o (.mov (.t 13))⟩])
 (.seq (.seq (.reg [⟨(some 14), none, .o (.mov (.t 5))⟩,
 ⟨(some 15), none, .o (.nt (.t 14))⟩])
 (.cond (.t 15)
 (.seq (.reg [⟨(some 2), none, .o (.mov (.c .sn))⟩,
 ⟨(some 3), none, .o (.mov (.c (.i .i64 (4))))⟩])
 .ret)
 .skip))
 (.seq (.reg [⟨(some 16), none, .o (.mov (.t 4))⟩,
 ⟨(some 2), none, .o (.mov (.t 16))⟩,
 ⟨(some 3), none, .o (.mov (.c (.i .i64 (0))))⟩])
 .ret)))))⟩
def qf_l_likeInts : QF := ⟨2, 26, [.t 4],
 (.seq (.reg [⟨(some 4), none, .o (.mov (.c (.b false)))⟩])
 (.seq (.seq (.reg [⟨(some 6), none, .o (.mov (.t 0))⟩,
 ⟨(some 7), none, .len (.t 6)⟩,
 ⟨(some 8), none, .o (.mov (.t 1))⟩,
 ⟨(some 9), none, .len (.t 8)⟩,
 ⟨(some 10), none, .o (.bin .neq (.t 7) (.t 9))⟩])
 (.cond (.t 10)
 (.seq (.reg [⟨(some 4), none, .o (.mov (.c (.b false)))⟩])
 .ret)
 .skip))
 (.seq (.seq (.reg [⟨(some 5), none, .o (.mov (.c (.i .i64 (0))))⟩])
 (.blk 0
 (.loop
 (.seq (.seq (.reg [⟨(some 11), none, .o (.mov (.t 5))⟩,
 ⟨(some 12), none, .o (.mov (.t 0))⟩,
 ⟨(some 13), none, .len (.t 12)⟩,
 ⟨(some 14), none, .o (.bin .lss (.t 11) (.t 13))⟩])
 (.cond (.t 14)
 .skip
 (.exit 0)))
 (.seq (.blk 1
 (.seq (.drs [0, 0, 3, 7, 0, 0, 48, 112, 255]
 [(0, false, ⟨(some 17), none, .o (.mov (.t 0))⟩),
 (1, false, ⟨(some 18), none, .o (.mov (.t 5))⟩),
 (2, false, ⟨(some 19), none, .ids (.t 17) (.t 18) 1⟩),
 (3, false, ⟨(some 20), none, .ld1 (.t 19)⟩),
 (4, false, ⟨(some 21), none, .o (.mov (.t 1))⟩),
 (5, false, ⟨(some 22), none, .o (.mov (.t 5))⟩),
 (6, false, ⟨(some 23), none, .ids (.t 21) (.t 22) 1⟩),
 (7, false, ⟨(some 24), none, .ld1 (.t 23)⟩),
 (8, false, ⟨(some 25), none, .o (.bin .neq (.t 20) (.t 24))⟩)])
 (.cond (.t 25)
 (.seq (.reg [⟨(some 4), none, .o (.mov (.c (.b false)))⟩])
 .ret)
 .skip)))
 (.reg [⟨(some 15), none, .o (.mov (.t 5))⟩,
 ⟨(some 16), none, .o (.bin .add (.t 15) (.c (.i .i64 (1))))⟩,
 ⟨(some 5), none, .o (.mov (.t 16))⟩]))))))
 (.seq (.reg [⟨(some 4), none, .o (.mov (.c (.b true)))⟩])
 .ret))))⟩
def qf_s_l01DrawVector : QF := ⟨3, 31, [.c 6 0 8],
 (.seq (.reg [⟨(some 6), none, .o (.alo (.by 0 8))⟩])
 (.seq (.reg [⟨(some 9), none, .o (.bld 0 8 [])⟩,
 ⟨(some 7), none, .o (.alo (.by 0 8))⟩,
 ⟨none, none, .sta (.t 7) (.t 9) 8⟩])
 (.seq (.seq (.reg [⟨(some 8), none, .o (.mov (.c (.i .i64 (0))))⟩])
 (.blk 0
 (.loop
 (.seq (.seq (.reg [⟨(some 10), none, .o (.mov (.t 8))⟩,
 ⟨(some 11), none, .o (.mov (.t 2))⟩,
 ⟨(some 12), none, .o (.bin .lss (.t 10) (.t 11))⟩,
 ⟨(some 13), none, .o (.mov (.t 12))⟩,
 ⟨(some 14), (some (13, true)), .o (.mov (.t 8))⟩,
 ⟨(some 15), (some (13, true)), .o (.bin .lss (.t 14) (.c (.i .i64 (8))))⟩,
 ⟨(some 16), none, .o (.pick (.t 13) (.t 15) (.c (.b false)))⟩])
 (.cond (.t 16)
 .skip
 (.exit 0)))
 (.seq (.blk 1
 (.seq (.reg [⟨(some 19), none, .o (.mov (.t 0))⟩,
 ⟨(some 20), none, .call 195 [(.t 19), (.c (.i .i64 (2)))]⟩,
 ⟨(some 21), none, .o (.bin .eql (.t 20) (.c (.i .i64 (0))))⟩])
 (.cond (.t 21)
 (.reg [⟨(some 22), none, .o (.mov (.t 8))⟩,
 ⟨(some 23), none, .o (.mov (.t 0))⟩,
 ⟨(some 24), none, .o (.mov (.t 1))⟩,
 ⟨(some 25), none, .mxm false (.t 24) (.c (.i .i64 (1)))⟩,
 ⟨(some 26), none, .mxm true (.t 25) (.c (.i .i64 (255)))⟩,
 ⟨(some 27), none, .call 195 [(.t 23), (.t 26)]⟩,
 ⟨(some 28), none, .o (.cvt .u8 (.t 27))⟩,
 ⟨(some 29), none, .o (.idx (.t 7) (.t 22) 8 1)⟩,
 ⟨none, none, .st1 (.t 29) (.t 28)⟩])
 .skip)))
 (.reg [⟨(some 17), none, .o (.mov (.t 8))⟩,
 ⟨(some 18), none, .o (.bin .add (.t 17) (.c (.i .i64 (1))))⟩,
 ⟨(some 8), none, .o (.mov (.t 18))⟩]))))))
 (.seq (.reg [⟨(some 30), none, .lda (.t 7) 0 8⟩,
 ⟨none, none, .sta (.t 6) (.t 30) 8⟩])
 .ret))))⟩
def qf_s_l02Any : QF := ⟨2, 23, [.c 4 0 8],
 (.seq (.reg [⟨(some 3), none, .o (.box (.t 1))⟩,
 ⟨(some 4), none, .o (.alo (.by 0 8))⟩])
 (.seq (.reg [⟨(some 6), none, .o (.mov (.t 0))⟩,
 ⟨(some 7), none, .o (.add (.t 3) 0)⟩,
 ⟨(some 8), none, .ld1 (.t 7)⟩,
 ⟨(some 9), none, .o (.add (.t 3) 1)⟩,
 ⟨(some 10), none, .ld1 (.t 9)⟩,
 ⟨(some 11), none, .call 198 [(.t 6), (.t 8), (.t 10)]⟩,
 ⟨(some 5), none, .o (.alo (.by 0 8))⟩,
 ⟨none, none, .sta (.t 5) (.t 11) 8⟩])
 (.seq (.seq (.reg [⟨(some 12), none, .o (.mov (.t 0))⟩,
 ⟨(some 13), none, .call 195 [(.t 12), (.c (.i .i64 (30)))]⟩,
 ⟨(some 14), none, .o (.bin .eql (.t 13) (.c (.i .i64 (0))))⟩])
 (.cond (.t 14)
 (.reg [⟨(some 15), none, .o (.mov (.t 0))⟩,
 ⟨(some 16), none, .call 195 [(.t 15), (.c (.i .i64 (8)))]⟩,
 ⟨(some 17), none, .o (.mov (.t 0))⟩,
 ⟨(some 18), none, .o (.bsa [(.c (.i .i64 (1))), (.c (.i .i64 (31))), (.c (.i .i64 (255)))])⟩,
 ⟨(some 19), none, .call 205 [(.t 17), (.t 18)]⟩,
 ⟨(some 20), none, .o (.cvt .u8 (.t 19))⟩,
 ⟨(some 21), none, .o (.idx (.t 5) (.t 16) 8 1)⟩,
 ⟨none, none, .st1 (.t 21) (.t 20)⟩])
 .skip))
 (.seq (.reg [⟨(some 22), none, .lda (.t 5) 0 8⟩,
 ⟨none, none, .sta (.t 4) (.t 22) 8⟩])
 .ret))))⟩
def qf_s_l02One : QF := ⟨1, 28, [.c 2 2 522, .c 3 0 8],
 (.seq (.reg [⟨(some 2), none, .o (.alo (.by 2 522))⟩,
 ⟨(some 3), none, .o (.alo (.by 0 8))⟩])
 (.seq (.reg [⟨(some 6), none, .o (.mov (.t 0))⟩,
 ⟨(some 7), none, .call 186 [(.t 6)]⟩,
 ⟨(some 4), none, .o (.mov (.t 7))⟩])
 (.seq (.reg [⟨(some 8), none, .o (.mov (.t 4))⟩,
 ⟨(some 9), none, .call 193 [(.t 8)]⟩,
 ⟨(some 5), none, .o (.alo (.by 2 522))⟩,
 ⟨none, none, .sta (.t 5) (.t 9) 522⟩])
 (.seq (.seq (.reg [⟨(some 10), none, .o (.mov (.t 4))⟩,
 ⟨(some 11), none, .call 195 [(.t 10), (.c (.i .i64 (3)))]⟩,
 ⟨(some 12), none, .o (.bin .eql (.t 11) (.c (.i .i64 (0))))⟩,
 ⟨(some 13), none, .o (.mov (.t 12))⟩,
 ⟨(some 14), (some (13, true)), .o (.add (.t 5) 1)⟩,
 ⟨(some 15), (some (13, true)), .ld1 (.t 14)⟩,
 ⟨(some 16), (some (13, true)), .calp 96 [(.t 15), (.c (.i .i64 (1))), (.c (.i .i64 (8)))]⟩,
 ⟨(some 17), none, .o (.pick (.t 13) (.t 16) (.c (.b false)))⟩])
 (.cond (.t 17)
 (.seq (.drs [0, 0, 0, 4, 14, 30, 63, 127]
 [(0, true, ⟨(some 18), none, .lda (.t 5) 2 522⟩),
 (1, false, ⟨(some 19), none, .o (.mov (.t 4))⟩),
 (2, false, ⟨(some 20), none, .o (.add (.t 5) 1)⟩),
 (3, false, ⟨(some 21), none, .ld1 (.t 20)⟩),
 (4, false, ⟨(some 22), none, .call 195 [(.t 19), (.t 21)]⟩),
 (5, false, ⟨(some 23), none, .calp 55 [(.t 22)]⟩),
 (6, true, ⟨none, none, .sta (.t 2) (.t 18) 522⟩),
 (7, true, ⟨none, none, .sta (.t 3) (.t 23) 8⟩)])
 .ret)
 .skip))
 (.seq (.drs [0, 0, 0, 6, 15, 31]
 [(0, true, ⟨(some 24), none, .lda (.t 5) 2 522⟩),
 (1, false, ⟨(some 25), none, .o (.mov (.t 4))⟩),
 (2, false, ⟨(some 26), none, .lda (.t 5) 2 522⟩),
 (3, false, ⟨(some 27), none, .call 422 [(.t 25), (.t 26)]⟩),
 (4, true, ⟨none, none, .sta (.t 2) (.t 24) 522⟩),
 (5, true, ⟨none, none, .sta (.t 3) (.t 27) 8⟩)])
 .ret)))))⟩
def qf_s_DrawCoproductIn : QF := ⟨1, 8, [.c 2 2 522, .c 3 0 8],
 (.seq (.reg [⟨(some 2), none, .o (.alo (.by 2 522))⟩,
 ⟨(some 3), none, .o (.alo (.by 0 8))⟩])
 (.seq (.reg [⟨(some 4), none, .o (.mov (.t 0))⟩,
 ⟨(some 5), none, .call 415 [(.t 4)]⟩,
 ⟨(some 6), none, .o (.ext (.t 5) 0)⟩,
 ⟨(some 7), none, .o (.ext (.t 5) 1)⟩,
 ⟨none, none, .sta (.t 2) (.t 6) 522⟩,
 ⟨none, none, .sta (.t 3) (.t 7) 8⟩])
 .ret))⟩
def qf_s_l02Code : QF := ⟨2, 25, [.t 4],
 (.seq (.reg [⟨(some 2), none, .o (.box (.t 0))⟩,
 ⟨(some 4), none, .o (.mov (.c (.i .i64 (0))))⟩])
 (.seq (.seq (.reg [⟨(some 6), none, .lda (.t 2) 2 522⟩,
 ⟨(some 7), none, .calp 77 [(.t 6)]⟩,
 ⟨(some 8), none, .o (.nt (.t 7))⟩])
 (.cond (.t 8)
 (.seq (.reg [⟨(some 4), none, .o (.mov (.c (.i .i64 (1))))⟩])
 .ret)
 .skip))
 (.seq (.seq (.reg [⟨(some 5), none, .o (.mov (.c (.i .i64 (0))))⟩])
 (.blk 0
 (.loop
 (.seq (.seq (.reg [⟨(some 9), none, .o (.mov (.t 5))⟩,
 ⟨(some 10), none, .o (.mov (.t 1))⟩,
 ⟨(some 11), none, .len (.t 10)⟩,
 ⟨(some 12), none, .o (.bin .lss (.t 9) (.t 11))⟩])
 (.cond (.t 12)
 .skip
 (.exit 0)))
 (.seq (.blk 1
 (.seq (.drs [0, 1, 0, 4, 0, 0, 48, 112, 255, 511]
 [(0, false, ⟨(some 15), none, .o (.add (.t 2) 0)⟩),
 (1, false, ⟨(some 16), none, .ld1 (.t 15)⟩),
 (2, false, ⟨(some 17), none, .o (.add (.t 2) 1)⟩),
 (3, false, ⟨(some 18), none, .ld1 (.t 17)⟩),
 (4, false, ⟨(some 19), none, .o (.mov (.t 1))⟩),
 (5, false, ⟨(some 20), none, .o (.mov (.t 5))⟩),
 (6, false, ⟨(some 21), none, .ids (.t 19) (.t 20) 8⟩),
 (7, false, ⟨(some 22), none, .lda (.t 21) 0 8⟩),
 (8, false, ⟨(some 23), none, .calp 53 [(.t 16), (.t 18), (.t 22)]⟩),
 (9, false, ⟨(some 24), none, .o (.nt (.t 23))⟩)])
 (.cond (.t 24)
 (.seq (.reg [⟨(some 4), none, .o (.mov (.c (.i .i64 (1))))⟩])
 .ret)
 .skip)))
 (.reg [⟨(some 13), none, .o (.mov (.t 5))⟩,
 ⟨(some 14), none, .o (.bin .add (.t 13) (.c (.i .i64 (1))))⟩,
 ⟨(some 5), none, .o (.mov (.t 14))⟩]))))))
 (.seq (.reg [⟨(some 4), none, .o (.mov (.c (.i .i64 (0))))⟩])
 .ret))))⟩
def qf_s_l02Coproduct : QF := ⟨2, 40, [.c 4 0 64],
 (.seq (.reg [⟨(some 2), none, .o (.box (.t 0))⟩,
 ⟨(some 3), none, .o (.box (.t 1))⟩,
 ⟨(some 4), none, .o (.alo (.by 0 64))⟩])
 (.seq (.reg [⟨(some 8), none, .o (.bld 0 64 [])⟩,
 ⟨(some 5), none, .o (.alo (.by 0 64))⟩,
 ⟨none, none, .sta (.t 5) (.t 8) 64⟩])
 (.seq (.seq (.reg [⟨(some 6), none, .o (.mov (.c (.i .i64 (0))))⟩])
 (.blk 0
 (.loop
 (.seq (.seq (.reg [⟨(some 9), none, .o (.mov (.t 6))⟩,
 ⟨(some 10), none, .o (.add (.t 2) 1)⟩,
 ⟨(some 11), none, .ld1 (.t 10)⟩,
 ⟨(some 12), none, .o (.bin .lss (.t 9) (.t 11))⟩])
 (.cond (.t 12)
 .skip
 (.exit 0)))
 (.seq (.blk 1
 (.seq (.reg [⟨(some 7), none, .o (.mov (.c (.i .i64 (0))))⟩])
 (.blk 2
 (.loop
 (.seq (.seq (.reg [⟨(some 15), none, .o (.mov (.t 7))⟩,
 ⟨(some 16), none, .o (.add (.t 2) 1)⟩,
 ⟨(some 17), none, .ld1 (.t 16)⟩,
 ⟨(some 18), none, .o (.bin .lss (.t 15) (.t 17))⟩])
 (.cond (.t 18)
 .skip
 (.exit 2)))
 (.seq (.blk 3
 (.drs [0, 0, 2, 0, 8, 24, 0, 0, 0, 320, 960, 1984, 0, 4096, 12288, 28672, 65534, 131071, 262143]
 [(0, false, ⟨(some 21), none, .o (.mov (.t 7))⟩),
 (1, false, ⟨(some 22), none, .o (.add (.t 2) 0)⟩),
 (2, false, ⟨(some 23), none, .ld1 (.t 22)⟩),
 (3, false, ⟨(some 24), none, .o (.mov (.t 7))⟩),
 (4, false, ⟨(some 25), none, .o (.idx (.t 5) (.t 24) 8 8)⟩),
 (5, false, ⟨(some 26), none, .lda (.t 25) 0 8⟩),
 (6, false, ⟨(some 27), none, .o (.mov (.t 6))⟩),
 (7, false, ⟨(some 28), none, .o (.mov (.t 7))⟩),
 (8, false, ⟨(some 29), none, .o (.add (.t 2) 10)⟩),
 (9, false, ⟨(some 30), none, .o (.idx (.t 29) (.t 27) 8 64)⟩),
 (10, false, ⟨(some 31), none, .o (.idx (.t 30) (.t 28) 8 8)⟩),
 (11, false, ⟨(some 32), none, .lda (.t 31) 0 8⟩),
 (12, false, ⟨(some 33), none, .o (.mov (.t 6))⟩),
 (13, false, ⟨(some 34), none, .o (.idx (.t 3) (.t 33) 8 1)⟩),
 (14, false, ⟨(some 35), none, .ld1 (.t 34)⟩),
 (15, false, ⟨(some 36), none, .o (.cvt .i64 (.t 35))⟩),
 (16, false, ⟨(some 37), none, .calp 57 [(.t 23), (.t 26), (.t 32), (.t 36)]⟩),
 (17, false, ⟨(some 38), none, .o (.idx (.t 5) (.t 21) 8 8)⟩),
 (18, false, ⟨none, none, .sta (.t 38) (.t 37) 8⟩)]))
 (.reg [⟨(some 19), none, .o (.mov (.t 7))⟩,
 ⟨(some 20), none, .o (.bin .add (.t 19) (.c (.i .i64 (1))))⟩,
 ⟨(some 7), none, .o (.mov (.t 20))⟩])))))))
 (.reg [⟨(some 13), none, .o (.mov (.t 6))⟩,
 ⟨(some 14), none, .o (.bin .add (.t 13) (.c (.i .i64 (1))))⟩,
 ⟨(some 6), none, .o (.mov (.t 14))⟩]))))))
 (.seq (.reg [⟨(some 39), none, .lda (.t 5) 0 64⟩,
 ⟨none, none, .sta (.t 4) (.t 39) 64⟩])
 .ret))))⟩
def qf_s_CoproductIn : QF := ⟨2, 18, [.c 4 0 64, .t 5],
 (.seq (.reg [⟨(some 2), none, .o (.box (.t 0))⟩,
 ⟨(some 3), none, .o (.box (.t 1))⟩,
 ⟨(some 4), none, .o (.alo (.by 0 64))⟩,
 ⟨(some 5), none, .o (.mov (.c (.i .i64 (0))))⟩])
 (.seq (.seq (.reg [⟨(some 7), none, .lda (.t 2) 2 522⟩,
 ⟨(some 8), none, .lda (.t 3) 0 8⟩,
 ⟨(some 9), none, .o (.bsb 8 [(.t 8)])⟩,
 ⟨(some 10), none, .call 416 [(.t 7), (.t 9)]⟩,
 ⟨(some 6), none, .o (.mov (.t 10))⟩])
 (.seq (.reg [⟨(some 11), none, .o (.mov (.t 6))⟩,
 ⟨(some 12), none, .o (.bin .neq (.t 11) (.c (.i .i64 (0))))⟩])
 (.cond (.t 12)
 (.seq (.reg [⟨(some 13), none, .o (.bld 0 64 [])⟩,
 ⟨(some 14), none, .o (.mov (.t 6))⟩,
 ⟨none, none, .sta (.t 4) (.t 13) 64⟩,
 ⟨(some 5), none, .o (.mov (.t 14))⟩])
 .ret)
 .skip)))
 (.seq (.reg [⟨(some 15), none, .lda (.t 2) 2 522⟩,
 ⟨(some 16), none, .lda (.t 3) 0 8⟩,
 ⟨(some 17), none, .calp 430 [(.t 15), (.t 16)]⟩,
 ⟨none, none, .sta (.t 4) (.t 17) 64⟩,
 ⟨(some 5), none, .o (.mov (.c (.i .i64 (0))))⟩])
 .ret)))⟩
def qf_s_l02Counit : QF := ⟨2, 27, [.t 4],
 (.seq (.reg [⟨(some 2), none, .o (.box (.t 0))⟩,
 ⟨(some 3), none, .o (.box (.t 1))⟩,
 ⟨(some 4), none, .o (.mov (.c (.i .i64 (0))))⟩])
 (.seq (.reg [⟨(some 5), none, .o (.mov (.c (.i .i64 (0))))⟩])
 (.seq (.seq (.reg [⟨(some 6), none, .o (.mov (.c (.i .i64 (0))))⟩])
 (.blk 0
 (.loop
 (.seq (.seq (.reg [⟨(some 7), none, .o (.mov (.t 6))⟩,
 ⟨(some 8), none, .o (.bin .lss (.t 7) (.c (.i .i64 (8))))⟩])
 (.cond (.t 8)
 .skip
 (.exit 0)))
 (.seq (.blk 1
 (.drs [0, 0, 2, 6, 14, 0, 0, 96, 224, 480, 1022, 2047, 4095]
 [(0, false, ⟨(some 11), none, .o (.mov (.t 5))⟩),
 (1, false, ⟨(some 12), none, .o (.mov (.t 6))⟩),
 (2, false, ⟨(some 13), none, .o (.idx (.t 3) (.t 12) 8 1)⟩),
 (3, false, ⟨(some 14), none, .ld1 (.t 13)⟩),
 (4, false, ⟨(some 15), none, .o (.cvt .i64 (.t 14))⟩),
 (5, false, ⟨(some 16), none, .o (.mov (.t 6))⟩),
 (6, false, ⟨(some 17), none, .o (.add (.t 2) 2)⟩),
 (7, false, ⟨(some 18), none, .o (.idx (.t 17) (.t 16) 8 1)⟩),
 (8, false, ⟨(some 19), none, .ld1 (.t 18)⟩),
 (9, false, ⟨(some 20), none, .o (.cvt .i64 (.t 19))⟩),
 (10, false, ⟨(some 21), none, .o (.bin .mul (.t 15) (.t 20))⟩),
 (11, false, ⟨(some 22), none, .o (.bin .add (.t 11) (.t 21))⟩),
 (12, false, ⟨(some 5), none, .o (.mov (.t 22))⟩)]))
 (.reg [⟨(some 9), none, .o (.mov (.t 6))⟩,
 ⟨(some 10), none, .o (.bin .add (.t 9) (.c (.i .i64 (1))))⟩,
 ⟨(some 6), none, .o (.mov (.t 10))⟩]))))))
 (.seq (.reg [⟨(some 23), none, .o (.mov (.t 5))⟩,
 ⟨(some 24), none, .o (.add (.t 2) 0)⟩,
 ⟨(some 25), none, .ld1 (.t 24)⟩,
 ⟨(some 26), none, .o (.bin .rem (.t 23) (.t 25))⟩,
 ⟨(some 4), none, .o (.mov (.t 26))⟩])
 .ret))))⟩
def qf_s_CounitIn : QF := ⟨2, 17, [.t 4, .t 5],
 (.seq (.reg [⟨(some 2), none, .o (.box (.t 0))⟩,
 ⟨(some 3), none, .o (.box (.t 1))⟩,
 ⟨(some 4), none, .o (.mov (.c (.i .i64 (0))))⟩,
 ⟨(some 5), none, .o (.mov (.c (.i .i64 (0))))⟩])
 (.seq (.seq (.reg [⟨(some 7), none, .lda (.t 2) 2 522⟩,
 ⟨(some 8), none, .lda (.t 3) 0 8⟩,
 ⟨(some 9), none, .o (.bsb 8 [(.t 8)])⟩,
 ⟨(some 10), none, .call 416 [(.t 7), (.t 9)]⟩,
 ⟨(some 6), none, .o (.mov (.t 10))⟩])
 (.seq (.reg [⟨(some 11), none, .o (.mov (.t 6))⟩,
 ⟨(some 12), none, .o (.bin .neq (.t 11) (.c (.i .i64 (0))))⟩])
 (.cond (.t 12)
 (.seq (.reg [⟨(some 13), none, .o (.mov (.t 6))⟩,
 ⟨(some 4), none, .o (.mov (.c (.i .i64 (0))))⟩,
 ⟨(some 5), none, .o (.mov (.t 13))⟩])
 .ret)
 .skip)))
 (.seq (.reg [⟨(some 14), none, .lda (.t 2) 2 522⟩,
 ⟨(some 15), none, .lda (.t 3) 0 8⟩,
 ⟨(some 16), none, .calp 429 [(.t 14), (.t 15)]⟩,
 ⟨(some 4), none, .o (.mov (.t 16))⟩,
 ⟨(some 5), none, .o (.mov (.c (.i .i64 (0))))⟩])
 .ret)))⟩
def qf_s_l01Bad : QF := ⟨2, 47, [.c 4 2 522],
 (.seq (.reg [⟨(some 3), none, .o (.box (.t 1))⟩,
 ⟨(some 4), none, .o (.alo (.by 2 522))⟩])
 (.seq (.seq (.reg [⟨(some 5), none, .o (.mov (.t 0))⟩,
 ⟨(some 6), none, .call 195 [(.t 5), (.c (.i .i64 (40)))]⟩])
 (.blk 0
 (.seq (.reg [⟨(some 8), none, .o (.bin .eql (.t 6) (.c (.i .i64 (0))))⟩,
 ⟨(some 7), none, .o (.mov (.t 8))⟩])
 (.cond (.t 7)
 (.reg [⟨(some 9), none, .o (.mov (.t 0))⟩,
 ⟨(some 10), none, .o (.bsa [(.c (.i .i64 (0))), (.c (.i .i64 (1))), (.c (.i .i64 (4))), (.c (.i .i64 (9))), (.c (.i .i64 (37))), (.c (.i .i64 (-5)))])⟩,
 ⟨(some 11), none, .call 205 [(.t 9), (.t 10)]⟩,
 ⟨(some 12), none, .o (.add (.t 3) 0)⟩,
 ⟨none, none, .st1 (.t 12) (.t 11)⟩])
 (.seq (.reg [⟨(some 14), none, .o (.bin .eql (.t 6) (.c (.i .i64 (1))))⟩,
 ⟨(some 13), none, .o (.mov (.t 14))⟩])
 (.cond (.t 13)
 (.reg [⟨(some 15), none, .o (.mov (.t 0))⟩,
 ⟨(some 16), none, .o (.add (.t 3) 1)⟩,
 ⟨(some 17), none, .ld1 (.t 16)⟩,
 ⟨(some 18), none, .o (.bin .sub (.t 17) (.c (.i .i64 (1))))⟩,
 ⟨(some 19), none, .o (.bsa [(.c (.i .i64 (0))), (.c (.i .i64 (9))), (.c (.i .i64 (-1))), (.t 18)])⟩,
 ⟨(some 20), none, .call 205 [(.t 15), (.t 19)]⟩,
 ⟨(some 21), none, .o (.add (.t 3) 1)⟩,
 ⟨none, none, .st1 (.t 21) (.t 20)⟩])
 (.seq (.reg [⟨(some 23), none, .o (.bin .eql (.t 6) (.c (.i .i64 (2))))⟩,
 ⟨(some 22), none, .o (.mov (.t 23))⟩])
 (.cond (.t 22)
 (.drs [0, 1, 0, 7, 0, 31, 0, 127, 255, 0, 515, 1551, 4095, 8191]
 [(0, false, ⟨(some 24), none, .o (.mov (.t 0))⟩),
 (2, false, ⟨(some 26), none, .o (.mov (.t 0))⟩),
 (4, false, ⟨(some 28), none, .o (.mov (.t 0))⟩),
 (6, false, ⟨(some 30), none, .o (.mov (.t 0))⟩),
 (9, false, ⟨(some 33), none, .o (.add (.t 3) 10)⟩),
 (1, false, ⟨(some 25), none, .call 195 [(.t 24), (.c (.i .i64 (8)))]⟩),
 (10, false, ⟨(some 34), none, .o (.idx (.t 33) (.t 25) 8 64)⟩),
 (3, false, ⟨(some 27), none, .call 195 [(.t 26), (.c (.i .i64 (8)))]⟩),
 (11, false, ⟨(some 35), none, .o (.idx (.t 34) (.t 27) 8 8)⟩),
 (5, false, ⟨(some 29), none, .call 195 [(.t 28), (.c (.i .i64 (8)))]⟩),
 (7, false, ⟨(some 31), none, .call 195 [(.t 30), (.c (.i .i64 (40)))]⟩),
 (8, false, ⟨(some 32), none, .o (.cvt .u8 (.t 31))⟩),
 (12, false, ⟨(some 36), none, .o (.idx (.t 35) (.t 29) 8 1)⟩),
 (13, false, ⟨none, none, .st1 (.t 36) (.t 32)⟩)])
 (.seq (.reg [⟨(some 38), none, .o (.bin .eql (.t 6) (.c (.i .i64 (3))))⟩,
 ⟨(some 37), none, .o (.mov (.t 38))⟩])
 (.cond (.t 37)
 (.reg [⟨(some 39), none, .o (.mov (.t 0))⟩,
 ⟨(some 40), none, .call 195 [(.t 39), (.c (.i .i64 (8)))]⟩,
 ⟨(some 41), none, .o (.mov (.t 0))⟩,
 ⟨(some 42), none, .call 195 [(.t 41), (.c (.i .i64 (3)))]⟩,
 ⟨(some 43), none, .o (.cvt .u8 (.t 42))⟩,
 ⟨(some 44), none, .o (.add (.t 3) 2)⟩,
 ⟨(some 45), none, .o (.idx (.t 44) (.t 40) 8 1)⟩,
 ⟨none, none, .st1 (.t 45) (.t 43)⟩])
 .skip))))))))))
 (.seq (.reg [⟨(some 46), none, .lda (.t 3) 2 522⟩,
 ⟨none, none, .sta (.t 4) (.t 46) 522⟩])
 .ret)))⟩
def qf_s_l01Spoil : QF := ⟨1, 7, [.c 2 2 522],
 (.seq (.reg [⟨(some 2), none, .o (.alo (.by 2 522))⟩])
 (.seq (.reg [⟨(some 3), none, .o (.mov (.t 0))⟩,
 ⟨(some 4), none, .o (.mov (.t 0))⟩,
 ⟨(some 5), none, .call 203 [(.t 4)]⟩,
 ⟨(some 6), none, .call 204 [(.t 3), (.t 5)]⟩,
 ⟨none, none, .sta (.t 2) (.t 6) 522⟩])
 .ret))⟩
def qf_s_DrawDualCoalgebra : QF := ⟨1, 6, [.c 2 2 522],
 (.seq (.reg [⟨(some 2), none, .o (.alo (.by 2 522))⟩])
 (.seq (.reg [⟨(some 3), none, .o (.mov (.t 0))⟩,
 ⟨(some 4), none, .call 186 [(.t 3)]⟩,
 ⟨(some 5), none, .call 194 [(.t 4)]⟩,
 ⟨none, none, .sta (.t 2) (.t 5) 522⟩])
 .ret))⟩
def qf_s_DualAlgebra : QF := ⟨1, 18, [.c 2 2 522, .t 3],
 (.seq (.reg [⟨(some 1), none, .o (.box (.t 0))⟩,
 ⟨(some 2), none, .o (.alo (.by 2 522))⟩,
 ⟨(some 3), none, .o (.mov (.c (.i .i64 (0))))⟩])
 (.seq (.seq (.reg [⟨(some 4), none, .lda (.t 1) 2 522⟩,
 ⟨(some 5), none, .calp 77 [(.t 4)]⟩,
 ⟨(some 6), none, .o (.nt (.t 5))⟩])
 (.cond (.t 6)
 (.seq (.reg [⟨(some 7), none, .o (.bld 2 522 [])⟩,
 ⟨none, none, .sta (.t 2) (.t 7) 522⟩,
 ⟨(some 3), none, .o (.mov (.c (.i .i64 (1))))⟩])
 .ret)
 .skip))
 (.seq (.drs [0, 1, 0, 4, 0, 16, 0, 64, 192, 511, 1023, 2047]
 [(0, false, ⟨(some 8), none, .o (.add (.t 1) 0)⟩),
 (1, false, ⟨(some 9), none, .ld1 (.t 8)⟩),
 (2, false, ⟨(some 10), none, .o (.add (.t 1) 1)⟩),
 (3, false, ⟨(some 11), none, .ld1 (.t 10)⟩),
 (4, false, ⟨(some 12), none, .o (.add (.t 1) 2)⟩),
 (5, false, ⟨(some 13), none, .lda (.t 12) 0 8⟩),
 (6, false, ⟨(some 14), none, .o (.add (.t 1) 10)⟩),
 (7, false, ⟨(some 15), none, .lda (.t 14) 0 512⟩),
 (8, false, ⟨(some 16), none, .calp 210 [(.t 15)]⟩),
 (9, false, ⟨(some 17), none, .o (.bld 2 522 [(0, 1, (.t 9)), (1, 1, (.t 11)), (2, 8, (.t 13)), (10, 512, (.t 16))])⟩),
 (10, false, ⟨none, none, .sta (.t 2) (.t 17) 522⟩),
 (11, false, ⟨(some 3), none, .o (.mov (.c (.i .i64 (0))))⟩)])
 .ret)))⟩
def qf_s_IsCocommutative : QF := ⟨1, 40, [.t 2, .t 3],
 (.seq (.reg [⟨(some 1), none, .o (.box (.t 0))⟩,
 ⟨(some 2), none, .o (.mov (.c (.b false)))⟩,
 ⟨(some 3), none, .o (.mov (.c (.i .i64 (0))))⟩])
 (.seq (.seq (.reg [⟨(some 7), none, .lda (.t 1) 2 522⟩,
 ⟨(some 8), none, .calp 77 [(.t 7)]⟩,
 ⟨(some 9), none, .o (.nt (.t 8))⟩])
 (.cond (.t 9)
 (.seq (.reg [⟨(some 2), none, .o (.mov (.c (.b false)))⟩,
 ⟨(some 3), none, .o (.mov (.c (.i .i64 (1))))⟩])
 .ret)
 .skip))
 (.seq (.seq (.reg [⟨(some 4), none, .o (.mov (.c (.i .i64 (0))))⟩])
 (.blk 0
 (.loop
 (.seq (.seq (.reg [⟨(some 10), none, .o (.mov (.t 4))⟩,
 ⟨(some 11), none, .o (.bin .lss (.t 10) (.c (.i .i64 (8))))⟩])
 (.cond (.t 11)
 .skip
 (.exit 0)))
 (.seq (.blk 1
 (.seq (.reg [⟨(some 5), none, .o (.mov (.c (.i .i64 (0))))⟩])
 (.blk 2
 (.loop
 (.seq (.seq (.reg [⟨(some 14), none, .o (.mov (.t 5))⟩,
 ⟨(some 15), none, .o (.bin .lss (.t 14) (.c (.i .i64 (8))))⟩])
 (.cond (.t 15)
 .skip
 (.exit 2)))
 (.seq (.blk 3
 (.seq (.reg [⟨(some 6), none, .o (.mov (.c (.i .i64 (0))))⟩])
 (.blk 4
 (.loop
 (.seq (.seq (.reg [⟨(some 18), none, .o (.mov (.t 6))⟩,
 ⟨(some 19), none, .o (.mov (.t 5))⟩,
 ⟨(some 20), none, .o (.bin .lss (.t 18) (.t 19))⟩])
 (.cond (.t 20)
 .skip
 (.exit 4)))
 (.seq (.blk 5
 (.seq (.drs [0, 0, 0, 0, 9, 27, 63, 127, 0, 0, 0, 0, 2304, 6912, 16128, 32512, 65535]
 [(0, false, ⟨(some 23), none, .o (.mov (.t 4))⟩),
 (1, false, ⟨(some 24), none, .o (.mov (.t 5))⟩),
 (2, false, ⟨(some 25), none, .o (.mov (.t 6))⟩),
 (3, false, ⟨(some 26), none, .o (.add (.t 1) 10)⟩),
 (4, false, ⟨(some 27), none, .o (.idx (.t 26) (.t 23) 8 64)⟩),
 (5, false, ⟨(some 28), none, .o (.idx (.t 27) (.t 24) 8 8)⟩),
 (6, false, ⟨(some 29), none, .o (.idx (.t 28) (.t 25) 8 1)⟩),
 (7, false, ⟨(some 30), none, .ld1 (.t 29)⟩),
 (8, false, ⟨(some 31), none, .o (.mov (.t 4))⟩),
 (9, false, ⟨(some 32), none, .o (.mov (.t 6))⟩),
 (10, false, ⟨(some 33), none, .o (.mov (.t 5))⟩),
 (11, false, ⟨(some 34), none, .o (.add (.t 1) 10)⟩),
 (12, false, ⟨(some 35), none, .o (.idx (.t 34) (.t 31) 8 64)⟩),
 (13, false, ⟨(some 36), none, .o (.idx (.t 35) (.t 32) 8 8)⟩),
 (14, false, ⟨(some 37), none, .o (.idx (.t 36) (.t 33) 8 1)⟩),
 (15, false, ⟨(some 38), none, .ld1 (.t 37)⟩),
 (16, false, ⟨(some 39), none, .o (.bin .neq (.t 30) (.t 38))⟩)])
 (.cond (.t 39)
 (.seq (.reg [⟨(some 2), none, .o (.mov (.c (.b false)))⟩,
 ⟨(some 3), none, .o (.mov (.c (.i .i64 (0))))⟩])
 .ret)
 .skip)))
 (.reg [⟨(some 21), none, .o (.mov (.t 6))⟩,
 ⟨(some 22), none, .o (.bin .add (.t 21) (.c (.i .i64 (1))))⟩,
 ⟨(some 6), none, .o (.mov (.t 22))⟩])))))))
 (.reg [⟨(some 16), none, .o (.mov (.t 5))⟩,
 ⟨(some 17), none, .o (.bin .add (.t 16) (.c (.i .i64 (1))))⟩,
 ⟨(some 5), none, .o (.mov (.t 17))⟩])))))))
 (.reg [⟨(some 12), none, .o (.mov (.t 4))⟩,
 ⟨(some 13), none, .o (.bin .add (.t 12) (.c (.i .i64 (1))))⟩,
 ⟨(some 4), none, .o (.mov (.t 13))⟩]))))))
 (.seq (.reg [⟨(some 2), none, .o (.mov (.c (.b true)))⟩,
 ⟨(some 3), none, .o (.mov (.c (.i .i64 (0))))⟩])
 .ret))))⟩
def qf_l_roll : QF := ⟨2, 38, [.t 4],
 (.seq (.reg [⟨(some 4), none, .o (.mov (.c .np))⟩])
 (.seq (.reg [⟨(some 7), none, .o (.mov (.t 0))⟩,
 ⟨(some 8), none, .o (.mov (.t 1))⟩,
 ⟨(some 9), none, .bnu .mul (.t 8) (.c (.i .u64 (6257)))⟩,
 ⟨(some 10), none, .o (.mov (.t 0))⟩,
 ⟨(some 11), none, .len (.t 10)⟩,
 ⟨(some 12), none, .cvu (.t 11)⟩,
 ⟨(some 13), none, .bnu .add (.t 9) (.t 12)⟩,
 ⟨(some 14), none, .brc [.sn, .i .i64 0, .i .u64 0] [(0, 1, (.t 7)), (2, 1, (.t 13))]⟩,
 ⟨(some 15), none, .bxr (.t 14)⟩,
 ⟨(some 5), none, .o (.mov (.t 15))⟩])
 (.seq (.seq (.reg [⟨(some 6), none, .o (.mov (.c (.i .i64 (0))))⟩])
 (.blk 0
 (.loop
 (.seq (.seq (.reg [⟨(some 16), none, .o (.mov (.t 6))⟩,
 ⟨(some 17), none, .o (.mov (.t 0))⟩,
 ⟨(some 18), none, .len (.t 17)⟩,
 ⟨(some 19), none, .o (.bin .lss (.t 16) (.t 18))⟩])
 (.cond (.t 19)
 .skip
 (.exit 0)))
 (.seq (.blk 1
 (.drs [0, 0, 2, 6, 14, 30, 0, 0, 192, 448, 960, 2046, 4094, 8191, 16383, 32767]
 [(0, false, ⟨(some 22), none, .o (.mov (.t 5))⟩),
 (1, false, ⟨(some 23), none, .o (.mov (.t 5))⟩),
 (2, false, ⟨(some 24), none, .o (.nck (.t 23))⟩),
 (3, false, ⟨(some 25), none, .o (.add (.t 24) 2)⟩),
 (4, false, ⟨(some 26), none, .ld1 (.t 25)⟩),
 (5, false, ⟨(some 27), none, .bnu .mul (.t 26) (.c (.i .u64 (1099511628211)))⟩),
 (6, false, ⟨(some 28), none, .o (.mov (.t 0))⟩),
 (7, false, ⟨(some 29), none, .o (.mov (.t 6))⟩),
 (8, false, ⟨(some 30), none, .ids (.t 28) (.t 29) 1⟩),
 (9, false, ⟨(some 31), none, .ld1 (.t 30)⟩),
 (10, false, ⟨(some 32), none, .cvu (.t 31)⟩),
 (11, false, ⟨(some 33), none, .bnu .add (.t 27) (.t 32)⟩),
 (12, false, ⟨(some 34), none, .bnu .add (.t 33) (.c (.i .u64 (5)))⟩),
 (13, false, ⟨(some 35), none, .o (.nck (.t 22))⟩),
 (14, false, ⟨(some 36), none, .o (.add (.t 35) 2)⟩),
 (15, false, ⟨none, none, .st1 (.t 36) (.t 34)⟩)]))
 (.reg [⟨(some 20), none, .o (.mov (.t 6))⟩,
 ⟨(some 21), none, .o (.bin .add (.t 20) (.c (.i .i64 (1))))⟩,
 ⟨(some 6), none, .o (.mov (.t 21))⟩]))))))
 (.seq (.reg [⟨(some 37), none, .o (.mov (.t 5))⟩,
 ⟨(some 4), none, .o (.mov (.t 37))⟩])
 .ret))))⟩
def qf_l_dice_below : QF := ⟨2, 58, [.t 4],
 (.seq (.reg [⟨(some 4), none, .o (.mov (.c (.i .i64 (0))))⟩])
 (.seq (.seq (.reg [⟨(some 6), none, .o (.mov (.t 1))⟩,
 ⟨(some 7), none, .o (.bin .lss (.t 6) (.c (.i .i64 (1))))⟩])
 (.cond (.t 7)
 (.seq (.reg [⟨(some 4), none, .o (.mov (.c (.i .i64 (0))))⟩])
 .ret)
 .skip))
 (.seq (.reg [⟨(some 8), none, .o (.mov (.t 0))⟩,
 ⟨(some 9), none, .o (.mov (.t 0))⟩,
 ⟨(some 10), none, .o (.nck (.t 9))⟩,
 ⟨(some 11), none, .o (.add (.t 10) 2)⟩,
 ⟨(some 12), none, .ld1 (.t 11)⟩,
 ⟨(some 13), none, .bnu .mul (.t 12) (.c (.i .u64 (6364136223846793005)))⟩,
 ⟨(some 14), none, .bnu .add (.t 13) (.c (.i .u64 (1442695040888963407)))⟩,
 ⟨(some 15), none, .o (.nck (.t 8))⟩,
 ⟨(some 16), none, .o (.add (.t 15) 2)⟩,
 ⟨none, none, .st1 (.t 16) (.t 14)⟩])
 (.seq (.reg [⟨(some 17), none, .o (.mov (.t 0))⟩,
 ⟨(some 18), none, .o (.nck (.t 17))⟩,
 ⟨(some 19), none, .o (.add (.t 18) 2)⟩,
 ⟨(some 20), none, .ld1 (.t 19)⟩,
 ⟨(some 21), none, .bnu .shr (.t 20) (.c (.i .u64 (33)))⟩,
 ⟨(some 22), none, .bnu .and (.t 21) (.c (.i .u64 (16777215)))⟩,
 ⟨(some 23), none, .o (.cvt .i64 (.t 22))⟩,
 ⟨(some 5), none, .o (.mov (.t 23))⟩])
 (.seq (.seq (.drs [0, 1, 3, 7, 0, 16, 48, 112, 240, 511]
 [(0, false, ⟨(some 24), none, .o (.mov (.t 0))⟩),
 (1, false, ⟨(some 25), none, .o (.nck (.t 24))⟩),
 (2, false, ⟨(some 26), none, .o (.add (.t 25) 1)⟩),
 (3, false, ⟨(some 27), none, .ld1 (.t 26)⟩),
 (4, false, ⟨(some 28), none, .o (.mov (.t 0))⟩),
 (5, false, ⟨(some 29), none, .o (.nck (.t 28))⟩),
 (6, false, ⟨(some 30), none, .o (.add (.t 29) 0)⟩),
 (7, false, ⟨(some 31), none, .ld1 (.t 30)⟩),
 (8, false, ⟨(some 32), none, .len (.t 31)⟩),
 (9, false, ⟨(some 33), none, .o (.bin .lss (.t 27) (.t 32))⟩)])
 (.cond (.t 33)
 (.seq (.drs [0, 0, 2, 6, 14, 0, 32, 96, 224, 510, 1022, 2046, 4095, 8191]
 [(0, false, ⟨(some 34), none, .o (.mov (.t 5))⟩),
 (1, false, ⟨(some 35), none, .o (.mov (.t 0))⟩),
 (2, false, ⟨(some 36), none, .o (.nck (.t 35))⟩),
 (3, false, ⟨(some 37), none, .o (.add (.t 36) 0)⟩),
 (4, false, ⟨(some 38), none, .ld1 (.t 37)⟩),
 (5, false, ⟨(some 39), none, .o (.mov (.t 0))⟩),
 (6, false, ⟨(some 40), none, .o (.nck (.t 39))⟩),
 (7, false, ⟨(some 41), none, .o (.add (.t 40) 1)⟩),
 (8, false, ⟨(some 42), none, .ld1 (.t 41)⟩),
 (9, false, ⟨(some 43), none, .ids (.t 38) (.t 42) 1⟩),
 (10, false, ⟨(some 44), none, .ld1 (.t 43)⟩),
 (11, false, ⟨(some 45), none, .o (.cvt .i64 (.t 44))⟩),
 (12, false, ⟨(some 46), none, .o (.bin .add (.t 34) (.t 45))⟩),
 (13, false, ⟨(some 5), none, .o (.mov (.t 46))⟩)])
 (.reg [⟨(some 47), none, .o (.mov (.t 0))⟩,
 ⟨(some 48), none, .o (.mov (.t 0))⟩,
 ⟨(some 49), none, .o (.nck (.t 48))⟩,
 ⟨(some 50), none, .o (.add (.t 49) 1)⟩,
 ⟨(some 51), none, .ld1 (.t 50)⟩,
 ⟨(some 52), none, .o (.bin .add (.t 51) (.c (.i .i64 (1))))⟩,
 ⟨(some 53), none, .o (.nck (.t 47))⟩,
 ⟨(some 54), none, .o (.add (.t 53) 1)⟩,
 ⟨none, none, .st1 (.t 54) (.t 52)⟩]))
 .skip))
 (.seq (.reg [⟨(some 55), none, .o (.mov (.t 5))⟩,
 ⟨(some 56), none, .o (.mov (.t 1))⟩,
 ⟨(some 57), none, .o (.bin .rem (.t 55) (.t 56))⟩,
 ⟨(some 4), none, .o (.mov (.t 57))⟩])
 .ret))))))⟩
def qf_l_vector9 : QF := ⟨3, 22, [.c 6 0 8],
 (.seq (.reg [⟨(some 6), none, .o (.alo (.by 0 8))⟩])
 (.seq (.reg [⟨(some 9), none, .o (.bld 0 8 [])⟩,
 ⟨(some 7), none, .o (.alo (.by 0 8))⟩,
 ⟨none, none, .sta (.t 7) (.t 9) 8⟩])
 (.seq (.seq (.reg [⟨(some 8), none, .o (.mov (.c (.i .i64 (0))))⟩])
 (.blk 0
 (.loop
 (.seq (.seq (.reg [⟨(some 10), none, .o (.mov (.t 8))⟩,
 ⟨(some 11), none, .o (.mov (.t 2))⟩,
 ⟨(some 12), none, .o (.bin .lss (.t 10) (.t 11))⟩])
 (.cond (.t 12)
 .skip
 (.exit 0)))
 (.seq (.blk 1
 (.reg [⟨(some 15), none, .o (.mov (.t 8))⟩,
 ⟨(some 16), none, .o (.mov (.t 0))⟩,
 ⟨(some 17), none, .o (.mov (.t 1))⟩,
 ⟨(some 18), none, .call 200 [(.t 16), (.t 17)]⟩,
 ⟨(some 19), none, .o (.cvt .u8 (.t 18))⟩,
 ⟨(some 20), none, .o (.idx (.t 7) (.t 15) 8 1)⟩,
 ⟨none, none, .st1 (.t 20) (.t 19)⟩]))
 (.reg [⟨(some 13), none, .o (.mov (.t 8))⟩,
 ⟨(some 14), none, .o (.bin .add (.t 13) (.c (.i .i64 (1))))⟩,
 ⟨(some 8), none, .o (.mov (.t 14))⟩]))))))
 (.seq (.reg [⟨(some 21), none, .lda (.t 7) 0 8⟩,
 ⟨none, none, .sta (.t 6) (.t 21) 8⟩])
 .ret))))⟩
def qf_l_plus9 : QF := ⟨3, 29, [.c 6 0 8],
 (.seq (.reg [⟨(some 4), none, .o (.box (.t 1))⟩,
 ⟨(some 5), none, .o (.box (.t 2))⟩,
 ⟨(some 6), none, .o (.alo (.by 0 8))⟩])
 (.seq (.reg [⟨(some 9), none, .o (.bld 0 8 [])⟩,
 ⟨(some 7), none, .o (.alo (.by 0 8))⟩,
 ⟨none, none, .sta (.t 7) (.t 9) 8⟩])
 (.seq (.seq (.reg [⟨(some 8), none, .o (.mov (.c (.i .i64 (0))))⟩])
 (.blk 0
 (.loop
 (.seq (.seq (.reg [⟨(some 10), none, .o (.mov (.t 8))⟩,
 ⟨(some 11), none, .o (.bin .lss (.t 10) (.c (.i .i64 (8))))⟩])
 (.cond (.t 11)
 .skip
 (.exit 0)))
 (.seq (.blk 1
 (.drs [0, 0, 2, 6, 14, 0, 32, 96, 224, 510, 0, 2046, 4094, 8191, 16383]
 [(0, false, ⟨(some 14), none, .o (.mov (.t 8))⟩),
 (1, false, ⟨(some 15), none, .o (.mov (.t 8))⟩),
 (2, false, ⟨(some 16), none, .o (.idx (.t 4) (.t 15) 8 1)⟩),
 (3, false, ⟨(some 17), none, .ld1 (.t 16)⟩),
 (4, false, ⟨(some 18), none, .o (.cvt .i64 (.t 17))⟩),
 (5, false, ⟨(some 19), none, .o (.mov (.t 8))⟩),
 (6, false, ⟨(some 20), none, .o (.idx (.t 5) (.t 19) 8 1)⟩),
 (7, false, ⟨(some 21), none, .ld1 (.t 20)⟩),
 (8, false, ⟨(some 22), none, .o (.cvt .i64 (.t 21))⟩),
 (9, false, ⟨(some 23), none, .o (.bin .add (.t 18) (.t 22))⟩),
 (10, false, ⟨(some 24), none, .o (.mov (.t 0))⟩),
 (11, false, ⟨(some 25), none, .o (.bin .rem (.t 23) (.t 24))⟩),
 (12, false, ⟨(some 26), none, .o (.cvt .u8 (.t 25))⟩),
 (13, false, ⟨(some 27), none, .o (.idx (.t 7) (.t 14) 8 1)⟩),
 (14, false, ⟨none, none, .st1 (.t 27) (.t 26)⟩)]))
 (.reg [⟨(some 12), none, .o (.mov (.t 8))⟩,
 ⟨(some 13), none, .o (.bin .add (.t 12) (.c (.i .i64 (1))))⟩,
 ⟨(some 8), none, .o (.mov (.t 13))⟩]))))))
 (.seq (.reg [⟨(some 28), none, .lda (.t 7) 0 8⟩,
 ⟨none, none, .sta (.t 6) (.t 28) 8⟩])
 .ret))))⟩
def qf_l_FnCoalgebras : QF := ⟨1, 367, [.t 2],
 (.seq (.reg [⟨(some 2), none, .o (.mov (.c (.b false)))⟩])
 (.seq (.seq (.reg [⟨(some 54), none, .o (.mov (.t 0))⟩,
 ⟨(some 55), none, .call 176 [(.t 54)]⟩])
 (.cond (.t 55)
 (.seq (.reg [⟨(some 2), none, .o (.mov (.c (.b true)))⟩])
 .ret)
 .skip))
 (.seq (.reg [⟨(some 56), none, .o (.mov (.t 0))⟩,
 ⟨(some 57), none, .call 455 [(.t 56)]⟩,
 ⟨(some 3), none, .o (.alo (.by 2 522))⟩,
 ⟨none, none, .sta (.t 3) (.t 57) 522⟩])
 (.seq (.seq (.drs [0, 1, 0, 7, 15]
 [(0, false, ⟨(some 58), none, .lda (.t 3) 2 522⟩),
 (1, false, ⟨(some 59), none, .calp 106 [(.t 58)]⟩),
 (2, false, ⟨(some 60), none, .lda (.t 3) 2 522⟩),
 (3, false, ⟨(some 61), none, .calp 456 [(.t 60)]⟩),
 (4, false, ⟨(some 62), none, .o (.eqb true (.t 59) (.t 61))⟩)])
 (.cond (.t 62)
 (.seq (.reg [⟨(some 2), none, .o (.mov (.c (.b false)))⟩])
 .ret)
 .skip))
 (.seq (.reg [⟨(some 63), none, .o (.mov (.t 0))⟩,
 ⟨(some 64), none, .call 457 [(.t 63)]⟩,
 ⟨(some 4), none, .o (.alo (.by 2 522))⟩,
 ⟨none, none, .sta (.t 4) (.t 64) 522⟩])
 (.seq (.reg [⟨(some 66), none, .lda (.t 4) 2 522⟩,
 ⟨(some 67), none, .call 458 [(.t 66)]⟩,
 ⟨(some 65), none, .o (.mov (.t 67))⟩,
 ⟨(some 68), none, .o (.ext (.t 65) 0)⟩,
 ⟨(some 69), none, .o (.ext (.t 65) 1)⟩,
 ⟨(some 5), none, .o (.mov (.t 68))⟩,
 ⟨(some 6), none, .o (.mov (.t 69))⟩])
 (.seq (.reg [⟨(some 71), none, .lda (.t 4) 2 522⟩,
 ⟨(some 72), none, .call 459 [(.t 71)]⟩,
 ⟨(some 70), none, .o (.mov (.t 72))⟩,
 ⟨(some 73), none, .o (.ext (.t 70) 0)⟩,
 ⟨(some 74), none, .o (.ext (.t 70) 1)⟩,
 ⟨(some 7), none, .o (.mov (.t 73))⟩,
 ⟨(some 8), none, .o (.mov (.t 74))⟩])
 (.seq (.seq (.reg [⟨(some 75), none, .o (.mov (.t 8))⟩,
 ⟨(some 76), none, .o (.mov (.t 6))⟩,
 ⟨(some 77), none, .o (.bin .neq (.t 75) (.t 76))⟩,
 ⟨(some 78), none, .o (.mov (.t 77))⟩,
 ⟨(some 79), (some (78, false)), .o (.mov (.t 7))⟩,
 ⟨(some 80), (some (78, false)), .o (.mov (.t 5))⟩,
 ⟨(some 81), (some (78, false)), .call 452 [(.t 79), (.t 80)]⟩,
 ⟨(some 82), (some (78, false)), .o (.nt (.t 81))⟩,
 ⟨(some 83), none, .o (.pick (.t 78) (.c (.b true)) (.t 82))⟩])
 (.cond (.t 83)
 (.seq (.reg [⟨(some 2), none, .o (.mov (.c (.b false)))⟩])
 .ret)
 .skip))
 (.seq (.reg [⟨(some 85), none, .o (.mov (.t 0))⟩,
 ⟨(some 86), none, .call 460 [(.t 85)]⟩,
 ⟨(some 84), none, .o (.mov (.t 86))⟩,
 ⟨(some 87), none, .o (.ext (.t 84) 0)⟩,
 ⟨(some 88), none, .o (.ext (.t 84) 1)⟩,
 ⟨(some 9), none, .o (.alo (.by 2 522))⟩,
 ⟨(some 10), none, .o (.alo (.by 0 8))⟩,
 ⟨none, none, .sta (.t 9) (.t 87) 522⟩,
 ⟨none, none, .sta (.t 10) (.t 88) 8⟩])
 (.seq (.reg [⟨(some 90), none, .lda (.t 9) 2 522⟩,
 ⟨(some 91), none, .lda (.t 10) 0 8⟩,
 ⟨(some 92), none, .calp 461 [(.t 90), (.t 91)]⟩,
 ⟨(some 89), none, .o (.mov (.t 92))⟩,
 ⟨(some 93), none, .o (.ext (.t 89) 0)⟩,
 ⟨(some 94), none, .o (.ext (.t 89) 1)⟩,
 ⟨(some 11), none, .o (.alo (.by 0 64))⟩,
 ⟨none, none, .sta (.t 11) (.t 93) 64⟩,
 ⟨(some 12), none, .o (.mov (.t 94))⟩])
 (.seq (.reg [⟨(some 96), none, .lda (.t 9) 2 522⟩,
 ⟨(some 97), none, .lda (.t 10) 0 8⟩,
 ⟨(some 98), none, .calp 413 [(.t 96), (.t 97)]⟩,
 ⟨(some 95), none, .o (.mov (.t 98))⟩,
 ⟨(some 99), none, .o (.ext (.t 95) 0)⟩,
 ⟨(some 100), none, .o (.ext (.t 95) 1)⟩,
 ⟨(some 13), none, .o (.alo (.by 0 64))⟩,
 ⟨none, none, .sta (.t 13) (.t 99) 64⟩,
 ⟨(some 14), none, .o (.mov (.t 100))⟩])
 (.seq (.seq (.reg [⟨(some 101), none, .o (.mov (.t 14))⟩,
 ⟨(some 102), none, .o (.mov (.t 12))⟩,
 ⟨(some 103), none, .o (.bin .neq (.t 101) (.t 102))⟩,
 ⟨(some 104), none, .o (.mov (.t 103))⟩,
 ⟨(some 105), (some (104, false)), .lda (.t 13) 0 64⟩,
 ⟨(some 106), (some (104, false)), .lda (.t 11) 0 64⟩,
 ⟨(some 107), (some (104, false)), .o (.eqa true 64 (.t 105) (.t 106))⟩,
 ⟨(some 108), none, .o (.pick (.t 104) (.c (.b true)) (.t 107))⟩])
 (.cond (.t 108)
 (.seq (.reg [⟨(some 2), none, .o (.mov (.c (.b false)))⟩])
 .ret)
 .skip))
 (.seq (.reg [⟨(some 110), none, .lda (.t 9) 2 522⟩,
 ⟨(some 111), none, .lda (.t 10) 0 8⟩,
 ⟨(some 112), none, .calp 462 [(.t 110), (.t 111)]⟩,
 ⟨(some 109), none, .o (.mov (.t 112))⟩,
 ⟨(some 113), none, .o (.ext (.t 109) 0)⟩,
 ⟨(some 114), none, .o (.ext (.t 109) 1)⟩,
 ⟨(some 15), none, .o (.mov (.t 113))⟩,
 ⟨(some 16), none, .o (.mov (.t 114))⟩])
 (.seq (.reg [⟨(some 116), none, .lda (.t 9) 2 522⟩,
 ⟨(some 117), none, .lda (.t 10) 0 8⟩,
 ⟨(some 118), none, .calp 463 [(.t 116), (.t 117)]⟩,
 ⟨(some 115), none, .o (.mov (.t 118))⟩,
 ⟨(some 119), none, .o (.ext (.t 115) 0)⟩,
 ⟨(some 120), none, .o (.ext (.t 115) 1)⟩,
 ⟨(some 17), none, .o (.mov (.t 119))⟩,
 ⟨(some 18), none, .o (.mov (.t 120))⟩])
 (.seq (.seq (.reg [⟨(some 121), none, .o (.mov (.t 18))⟩,
 ⟨(some 122), none, .o (.mov (.t 16))⟩,
 ⟨(some 123), none, .o (.bin .neq (.t 121) (.t 122))⟩,
 ⟨(some 124), none, .o (.mov (.t 123))⟩,
 ⟨(some 125), (some (124, false)), .o (.mov (.t 17))⟩,
 ⟨(some 126), (some (124, false)), .o (.mov (.t 15))⟩,
 ⟨(some 127), (some (124, false)), .o (.bin .neq (.t 125) (.t 126))⟩,
 ⟨(some 128), none, .o (.pick (.t 124) (.c (.b true)) (.t 127))⟩])
 (.cond (.t 128)
 (.seq (.reg [⟨(some 2), none, .o (.mov (.c (.b false)))⟩])
 .ret)
 .skip))
 (.seq (.reg [⟨(some 129), none, .o (.mov (.t 0))⟩,
 ⟨(some 130), none, .call 464 [(.t 129)]⟩,
 ⟨(some 19), none, .o (.alo (.by 2 522))⟩,
 ⟨none, none, .sta (.t 19) (.t 130) 522⟩])
 (.seq (.reg [⟨(some 132), none, .lda (.t 19) 2 522⟩,
 ⟨(some 133), none, .calp 207 [(.t 132)]⟩,
 ⟨(some 131), none, .o (.mov (.t 133))⟩,
 ⟨(some 134), none, .o (.ext (.t 131) 0)⟩,
 ⟨(some 135), none, .o (.ext (.t 131) 1)⟩,
 ⟨(some 20), none, .o (.alo (.by 2 522))⟩,
 ⟨none, none, .sta (.t 20) (.t 134) 522⟩,
 ⟨(some 21), none, .o (.mov (.t 135))⟩])
 (.seq (.reg [⟨(some 137), none, .lda (.t 19) 2 522⟩,
 ⟨(some 138), none, .calp 465 [(.t 137)]⟩,
 ⟨(some 136), none, .o (.mov (.t 138))⟩,
 ⟨(some 139), none, .o (.ext (.t 136) 0)⟩,
 ⟨(some 140), none, .o (.ext (.t 136) 1)⟩,
 ⟨(some 22), none, .o (.alo (.by 2 522))⟩,
 ⟨none, none, .sta (.t 22) (.t 139) 522⟩,
 ⟨(some 23), none, .o (.mov (.t 140))⟩])
 (.seq (.seq (.reg [⟨(some 141), none, .o (.mov (.t 23))⟩,
 ⟨(some 142), none, .o (.mov (.t 21))⟩,
 ⟨(some 143), none, .o (.bin .neq (.t 141) (.t 142))⟩,
 ⟨(some 144), none, .o (.mov (.t 143))⟩,
 ⟨(some 145), (some (144, false)), .lda (.t 22) 2 522⟩,
 ⟨(some 146), (some (144, false)), .lda (.t 20) 2 522⟩,
 ⟨(some 147), (some (144, false)), .eqs true 2 522 [(2, 8), (10, 512)] (.t 145) (.t 146)⟩,
 ⟨(some 148), none, .o (.pick (.t 144) (.c (.b true)) (.t 147))⟩])
 (.cond (.t 148)
 (.seq (.reg [⟨(some 2), none, .o (.mov (.c (.b false)))⟩])
 .ret)
 .skip))
 (.seq (.reg [⟨(some 150), none, .lda (.t 3) 2 522⟩,
 ⟨(some 151), none, .calp 466 [(.t 150)]⟩,
 ⟨(some 149), none, .o (.mov (.t 151))⟩,
 ⟨(some 152), none, .o (.ext (.t 149) 0)⟩,
 ⟨(some 153), none, .o (.ext (.t 149) 1)⟩,
 ⟨(some 24), none, .o (.alo (.by 2 522))⟩,
 ⟨none, none, .sta (.t 24) (.t 152) 522⟩,
 ⟨(some 25), none, .o (.mov (.t 153))⟩])
 (.seq (.reg [⟨(some 155), none, .lda (.t 3) 2 522⟩,
 ⟨(some 156), none, .calp 467 [(.t 155)]⟩,
 ⟨(some 154), none, .o (.mov (.t 156))⟩,
 ⟨(some 157), none, .o (.ext (.t 154) 0)⟩,
 ⟨(some 158), none, .o (.ext (.t 154) 1)⟩,
 ⟨(some 26), none, .o (.alo (.by 2 522))⟩,
 ⟨none, none, .sta (.t 26) (.t 157) 522⟩,
 ⟨(some 27), none, .o (.mov (.t 158))⟩])
 (.seq (.seq (.reg [⟨(some 159), none, .o (.mov (.t 27))⟩,
 ⟨(some 160), none, .o (.mov (.t 25))⟩,
 ⟨(some 161), none, .o (.bin .neq (.t 159) (.t 160))⟩,
 ⟨(some 162), none, .o (.mov (.t 161))⟩,
 ⟨(some 163), (some (162, false)), .lda (.t 26) 2 522⟩,
 ⟨(some 164), (some (162, false)), .lda (.t 24) 2 522⟩,
 ⟨(some 165), (some (162, false)), .eqs true 2 522 [(2, 8), (10, 512)] (.t 163) (.t 164)⟩,
 ⟨(some 166), none, .o (.pick (.t 162) (.c (.b true)) (.t 165))⟩])
 (.cond (.t 166)
 (.seq (.reg [⟨(some 2), none, .o (.mov (.c (.b false)))⟩])
 .ret)
 .skip))
 (.seq (.reg [⟨(some 168), none, .lda (.t 3) 2 522⟩,
 ⟨(some 169), none, .calp 468 [(.t 168)]⟩,
 ⟨(some 167), none, .o (.mov (.t 169))⟩,
 ⟨(some 170), none, .o (.ext (.t 167) 0)⟩,
 ⟨(some 171), none, .o (.ext (.t 167) 1)⟩,
 ⟨(some 28), none, .o (.mov (.t 170))⟩,
 ⟨(some 29), none, .o (.mov (.t 171))⟩])
 (.seq (.reg [⟨(some 173), none, .lda (.t 3) 2 522⟩,
 ⟨(some 174), none, .calp 469 [(.t 173)]⟩,
 ⟨(some 172), none, .o (.mov (.t 174))⟩,
 ⟨(some 175), none, .o (.ext (.t 172) 0)⟩,
 ⟨(some 176), none, .o (.ext (.t 172) 1)⟩,
 ⟨(some 30), none, .o (.mov (.t 175))⟩,
 ⟨(some 31), none, .o (.mov (.t 176))⟩])
 (.seq (.seq (.reg [⟨(some 177), none, .o (.mov (.t 31))⟩,
 ⟨(some 178), none, .o (.mov (.t 29))⟩,
 ⟨(some 179), none, .o (.bin .neq (.t 177) (.t 178))⟩,
 ⟨(some 180), none, .o (.mov (.t 179))⟩,
 ⟨(some 181), (some (180, false)), .o (.mov (.t 30))⟩,
 ⟨(some 182), (some (180, false)), .o (.mov (.t 28))⟩,
 ⟨(some 183), (some (180, false)), .o (.eqb true (.t 181) (.t 182))⟩,
 ⟨(some 184), none, .o (.pick (.t 180) (.c (.b true)) (.t 183))⟩])
 (.cond (.t 184)
 (.seq (.reg [⟨(some 2), none, .o (.mov (.c (.b false)))⟩])
 .ret)
 .skip))
 (.cut (.seq (.reg [⟨(some 185), none, .o (.mov (.t 23))⟩,
 ⟨(some 186), none, .o (.bin .eql (.t 185) (.c (.i .i64 (0))))⟩])
 (.cond (.t 186)
 (.seq (.reg [⟨(some 188), none, .lda (.t 22) 2 522⟩,
 ⟨(some 189), none, .calp 467 [(.t 188)]⟩,
 ⟨(some 187), none, .o (.mov (.t 189))⟩,
 ⟨(some 190), none, .o (.ext (.t 187) 0)⟩,
 ⟨(some 191), none, .o (.ext (.t 187) 1)⟩,
 ⟨(some 32), none, .o (.alo (.by 2 522))⟩,
 ⟨none, none, .sta (.t 32) (.t 190) 522⟩,
 ⟨(some 33), none, .o (.mov (.t 191))⟩])
 (.seq (.reg [⟨(some 193), none, .lda (.t 19) 2 522⟩,
 ⟨(some 194), none, .calp 471 [(.t 193)]⟩,
 ⟨(some 192), none, .o (.mov (.t 194))⟩,
 ⟨(some 195), none, .o (.ext (.t 192) 0)⟩,
 ⟨(some 196), none, .o (.ext (.t 192) 1)⟩,
 ⟨(some 34), none, .o (.mov (.t 195))⟩,
 ⟨(some 35), none, .o (.mov (.t 196))⟩])
 (.seq (.reg [⟨(some 198), none, .lda (.t 22) 2 522⟩,
 ⟨(some 199), none, .calp 469 [(.t 198)]⟩,
 ⟨(some 197), none, .o (.mov (.t 199))⟩,
 ⟨(some 200), none, .o (.ext (.t 197) 0)⟩,
 ⟨(some 201), none, .o (.ext (.t 197) 1)⟩,
 ⟨(some 36), none, .o (.mov (.t 200))⟩,
 ⟨(some 37), none, .o (.mov (.t 201))⟩])
 (.seq (.reg [⟨(some 202), none, .o (.mov (.t 33))⟩,
 ⟨(some 203), none, .o (.bin .neq (.t 202) (.c (.i .i64 (0))))⟩,
 ⟨(some 204), none, .o (.mov (.t 203))⟩,
 ⟨(some 205), (some (204, false)), .lda (.t 32) 2 522⟩,
 ⟨(some 206), (some (204, false)), .lda (.t 19) 2 522⟩,
 ⟨(some 207), (some (204, false)), .eqs true 2 522 [(2, 8), (10, 512)] (.t 205) (.t 206)⟩,
 ⟨(some 208), none, .o (.pick (.t 204) (.c (.b true)) (.t 207))⟩,
 ⟨(some 209), none, .o (.mov (.t 208))⟩,
 ⟨(some 210), (some (209, false)), .o (.mov (.t 35))⟩,
 ⟨(some 211), (some (209, false)), .o (.bin .neq (.t 210) (.c (.i .i64 (0))))⟩,
 ⟨(some 212), none, .o (.pick (.t 209) (.c (.b true)) (.t 211))⟩,
 ⟨(some 213), none, .o (.mov (.t 212))⟩,
 ⟨(some 214), (some (213, false)), .o (.mov (.t 37))⟩,
 ⟨(some 215), (some (213, false)), .o (.bin .neq (.t 214) (.c (.i .i64 (0))))⟩,
 ⟨(some 216), none, .o (.pick (.t 213) (.c (.b true)) (.t 215))⟩,
 ⟨(some 217), none, .o (.mov (.t 216))⟩,
 ⟨(some 218), (some (217, false)), .o (.mov (.t 34))⟩,
 ⟨(some 219), (some (217, false)), .o (.mov (.t 36))⟩,
 ⟨(some 220), (some (217, false)), .o (.eqb true (.t 218) (.t 219))⟩,
 ⟨(some 221), none, .o (.pick (.t 217) (.c (.b true)) (.t 220))⟩])
 (.cond (.t 221)
 (.seq (.reg [⟨(some 2), none, .o (.mov (.c (.b false)))⟩])
 .ret)
 .skip)))))
 .skip))
 (.cut (.seq (.reg [⟨(some 222), none, .o (.mov (.t 27))⟩,
 ⟨(some 223), none, .o (.bin .eql (.t 222) (.c (.i .i64 (0))))⟩])
 (.cond (.t 223)
 (.seq (.reg [⟨(some 225), none, .lda (.t 26) 2 522⟩,
 ⟨(some 226), none, .calp 465 [(.t 225)]⟩,
 ⟨(some 224), none, .o (.mov (.t 226))⟩,
 ⟨(some 227), none, .o (.ext (.t 224) 0)⟩,
 ⟨(some 228), none, .o (.ext (.t 224) 1)⟩,
 ⟨(some 38), none, .o (.alo (.by 2 522))⟩,
 ⟨none, none, .sta (.t 38) (.t 227) 522⟩,
 ⟨(some 39), none, .o (.mov (.t 228))⟩])
 (.seq (.reg [⟨(some 229), none, .o (.mov (.t 39))⟩,
 ⟨(some 230), none, .o (.bin .neq (.t 229) (.c (.i .i64 (0))))⟩,
 ⟨(some 231), none, .o (.mov (.t 230))⟩,
 ⟨(some 232), (some (231, false)), .lda (.t 38) 2 522⟩,
 ⟨(some 233), (some (231, false)), .lda (.t 3) 2 522⟩,
 ⟨(some 234), (some (231, false)), .eqs true 2 522 [(2, 8), (10, 512)] (.t 232) (.t 233)⟩,
 ⟨(some 235), none, .o (.pick (.t 231) (.c (.b true)) (.t 234))⟩,
 ⟨(some 236), none, .o (.mov (.t 235))⟩,
 ⟨(some 237), (some (236, false)), .lda (.t 26) 2 522⟩,
 ⟨(some 238), (some (236, false)), .calp 103 [(.t 237)]⟩,
 ⟨(some 239), (some (236, false)), .o (.nt (.t 238))⟩,
 ⟨(some 240), none, .o (.pick (.t 236) (.c (.b true)) (.t 239))⟩])
 (.cond (.t 240)
 (.seq (.reg [⟨(some 2), none, .o (.mov (.c (.b false)))⟩])
 .ret)
 .skip)))
 .skip))
 (.seq (.seq (.reg [⟨(some 241), none, .o (.mov (.t 14))⟩,
 ⟨(some 242), none, .o (.bin .neq (.t 241) (.c (.i .i64 (0))))⟩])
 (.cond (.t 242)
 (.seq (.reg [⟨(some 243), none, .lda (.t 13) 0 64⟩,
 ⟨(some 244), none, .o (.bld 0 64 [])⟩,
 ⟨(some 245), none, .o (.eqa false 64 (.t 243) (.t 244))⟩,
 ⟨(some 2), none, .o (.mov (.t 245))⟩])
 .ret)
 .skip))
 (.cut (.drt [0, 1, 0, 4, 0, 16, 63, 0, 255]
 [(0, false, ⟨(some 246), none, .o (.mov (.t 0))⟩),
 (2, false, ⟨(some 248), none, .o (.add (.t 9) 0)⟩),
 (3, true, ⟨(some 249), none, .ld1 (.t 248)⟩),
 (4, false, ⟨(some 250), none, .o (.add (.t 9) 1)⟩),
 (5, true, ⟨(some 251), none, .ld1 (.t 250)⟩)]
 [(1, false, ⟨(some 247), none, .call 183 [(.t 246), (.c (.i .u64 (9803)))]⟩),
 (6, true, ⟨(some 252), none, .call 192 [(.t 247), (.t 249), (.t 251)]⟩),
 (7, false, ⟨(some 40), none, .o (.alo (.by 0 8))⟩),
 (8, true, ⟨none, none, .sta (.t 40) (.t 252) 8⟩)])
 (.seq (.reg [⟨(some 254), none, .lda (.t 9) 2 522⟩,
 ⟨(some 255), none, .lda (.t 40) 0 8⟩,
 ⟨(some 256), none, .calp 413 [(.t 254), (.t 255)]⟩,
 ⟨(some 253), none, .o (.mov (.t 256))⟩,
 ⟨(some 257), none, .o (.ext (.t 253) 0)⟩,
 ⟨(some 258), none, .o (.ext (.t 253) 1)⟩,
 ⟨(some 41), none, .o (.alo (.by 0 64))⟩,
 ⟨none, none, .sta (.t 41) (.t 257) 64⟩,
 ⟨(some 42), none, .o (.mov (.t 258))⟩])
 (.seq (.reg [⟨(some 260), none, .lda (.t 9) 2 522⟩,
 ⟨(some 261), none, .lda (.t 40) 0 8⟩,
 ⟨(some 262), none, .calp 463 [(.t 260), (.t 261)]⟩,
 ⟨(some 259), none, .o (.mov (.t 262))⟩,
 ⟨(some 263), none, .o (.ext (.t 259) 0)⟩,
 ⟨(some 264), none, .o (.ext (.t 259) 1)⟩,
 ⟨(some 43), none, .o (.mov (.t 263))⟩,
 ⟨(some 44), none, .o (.mov (.t 264))⟩])
 (.seq (.drs [0, 0, 2, 0, 0, 30, 63, 127, 255, 255, 0, 1535, 4095]
 [(0, true, ⟨(some 266), none, .lda (.t 9) 2 522⟩),
 (1, false, ⟨(some 267), none, .o (.add (.t 9) 0)⟩),
 (2, true, ⟨(some 268), none, .ld1 (.t 267)⟩),
 (3, true, ⟨(some 269), none, .lda (.t 10) 0 8⟩),
 (4, true, ⟨(some 270), none, .lda (.t 40) 0 8⟩),
 (5, false, ⟨(some 271), none, .calp 470 [(.t 268), (.t 269), (.t 270)]⟩),
 (6, false, ⟨(some 272), none, .calp 413 [(.t 266), (.t 271)]⟩),
 (7, false, ⟨(some 265), none, .o (.mov (.t 272))⟩),
 (8, false, ⟨(some 273), none, .o (.ext (.t 265) 0)⟩),
 (9, false, ⟨(some 274), none, .o (.ext (.t 265) 1)⟩),
 (10, false, ⟨(some 45), none, .o (.alo (.by 0 64))⟩),
 (11, true, ⟨none, none, .sta (.t 45) (.t 273) 64⟩),
 (12, false, ⟨(some 46), none, .o (.mov (.t 274))⟩)])
 (.seq (.drs [0, 0, 2, 0, 0, 30, 63, 127, 255, 255, 511, 2047]
 [(0, false, ⟨(some 276), none, .lda (.t 9) 2 522⟩),
 (1, false, ⟨(some 277), none, .o (.add (.t 9) 0)⟩),
 (2, false, ⟨(some 278), none, .ld1 (.t 277)⟩),
 (3, false, ⟨(some 279), none, .lda (.t 10) 0 8⟩),
 (4, false, ⟨(some 280), none, .lda (.t 40) 0 8⟩),
 (5, false, ⟨(some 281), none, .calp 470 [(.t 278), (.t 279), (.t 280)]⟩),
 (6, false, ⟨(some 282), none, .calp 463 [(.t 276), (.t 281)]⟩),
 (7, false, ⟨(some 275), none, .o (.mov (.t 282))⟩),
 (8, false, ⟨(some 283), none, .o (.ext (.t 275) 0)⟩),
 (9, false, ⟨(some 284), none, .o (.ext (.t 275) 1)⟩),
 (10, false, ⟨(some 47), none, .o (.mov (.t 283))⟩),
 (11, false, ⟨(some 48), none, .o (.mov (.t 284))⟩)])
 (.seq (.seq (.reg [⟨(some 285), none, .o (.mov (.t 18))⟩,
 ⟨(some 286), none, .o (.bin .neq (.t 285) (.c (.i .i64 (0))))⟩,
 ⟨(some 287), none, .o (.mov (.t 286))⟩,
 ⟨(some 288), (some (287, false)), .o (.mov (.t 42))⟩,
 ⟨(some 289), (some (287, false)), .o (.bin .neq (.t 288) (.c (.i .i64 (0))))⟩,
 ⟨(some 290), none, .o (.pick (.t 287) (.c (.b true)) (.t 289))⟩,
 ⟨(some 291), none, .o (.mov (.t 290))⟩,
 ⟨(some 292), (some (291, false)), .o (.mov (.t 44))⟩,
 ⟨(some 293), (some (291, false)), .o (.bin .neq (.t 292) (.c (.i .i64 (0))))⟩,
 ⟨(some 294), none, .o (.pick (.t 291) (.c (.b true)) (.t 293))⟩,
 ⟨(some 295), none, .o (.mov (.t 294))⟩,
 ⟨(some 296), (some (295, false)), .o (.mov (.t 46))⟩,
 ⟨(some 297), (some (295, false)), .o (.bin .neq (.t 296) (.c (.i .i64 (0))))⟩,
 ⟨(some 298), none, .o (.pick (.t 295) (.c (.b true)) (.t 297))⟩,
 ⟨(some 299), none, .o (.mov (.t 298))⟩,
 ⟨(some 300), (some (299, false)), .o (.mov (.t 48))⟩,
 ⟨(some 301), (some (299, false)), .o (.bin .neq (.t 300) (.c (.i .i64 (0))))⟩,
 ⟨(some 302), none, .o (.pick (.t 299) (.c (.b true)) (.t 301))⟩,
 ⟨(some 303), none, .o (.mov (.t 302))⟩,
 ⟨(some 304), (some (303, false)), .o (.mov (.t 47))⟩,
 ⟨(some 305), (some (303, false)), .o (.mov (.t 17))⟩,
 ⟨(some 306), (some (303, false)), .o (.mov (.t 43))⟩,
 ⟨(some 307), (some (303, false)), .o (.bin .add (.t 305) (.t 306))⟩,
 ⟨(some 308), (some (303, false)), .o (.add (.t 9) 0)⟩,
 ⟨(some 309), (some (303, false)), .ld1 (.t 308)⟩,
 ⟨(some 310), (some (303, false)), .o (.bin .rem (.t 307) (.t 309))⟩,
 ⟨(some 311), (some (303, false)), .o (.bin .neq (.t 304) (.t 310))⟩,
 ⟨(some 312), none, .o (.pick (.t 303) (.c (.b true)) (.t 311))⟩])
 (.cond (.t 312)
 (.seq (.reg [⟨(some 2), none, .o (.mov (.c (.b false)))⟩])
 .ret)
 .skip))
 (.seq (.seq (.reg [⟨(some 49), none, .o (.mov (.c (.i .i64 (0))))⟩])
 (.blk 0
 (.loop
 (.seq (.seq (.reg [⟨(some 313), none, .o (.mov (.t 49))⟩,
 ⟨(some 314), none, .o (.bin .lss (.t 313) (.c (.i .i64 (8))))⟩])
 (.cond (.t 314)
 .skip
 (.exit 0)))
 (.seq (.blk 1
 (.seq (.drs [0, 1, 3, 0, 8, 0, 32, 96, 0, 256, 768, 2040, 4095]
 [(0, false, ⟨(some 317), none, .o (.mov (.t 49))⟩),
 (1, false, ⟨(some 318), none, .o (.idx (.t 45) (.t 317) 8 8)⟩),
 (2, false, ⟨(some 319), none, .lda (.t 318) 0 8⟩),
 (3, false, ⟨(some 320), none, .o (.add (.t 9) 0)⟩),
 (4, false, ⟨(some 321), none, .ld1 (.t 320)⟩),
 (5, false, ⟨(some 322), none, .o (.mov (.t 49))⟩),
 (6, false, ⟨(some 323), none, .o (.idx (.t 13) (.t 322) 8 8)⟩),
 (7, false, ⟨(some 324), none, .lda (.t 323) 0 8⟩),
 (8, false, ⟨(some 325), none, .o (.mov (.t 49))⟩),
 (9, false, ⟨(some 326), none, .o (.idx (.t 41) (.t 325) 8 8)⟩),
 (10, false, ⟨(some 327), none, .lda (.t 326) 0 8⟩),
 (11, false, ⟨(some 328), none, .calp 470 [(.t 321), (.t 324), (.t 327)]⟩),
 (12, false, ⟨(some 329), none, .o (.eqa true 8 (.t 319) (.t 328))⟩)])
 (.cond (.t 329)
 (.seq (.reg [⟨(some 2), none, .o (.mov (.c (.b false)))⟩])
 .ret)
 .skip)))
 (.reg [⟨(some 315), none, .o (.mov (.t 49))⟩,
 ⟨(some 316), none, .o (.bin .add (.t 315) (.c (.i .i64 (1))))⟩,
 ⟨(some 49), none, .o (.mov (.t 316))⟩]))))))
 (.seq (.reg [⟨(some 330), none, .o (.bld 0 8 [])⟩,
 ⟨(some 50), none, .o (.alo (.by 0 8))⟩,
 ⟨none, none, .sta (.t 50) (.t 330) 8⟩])
 (.seq (.seq (.reg [⟨(some 51), none, .o (.mov (.c (.i .i64 (0))))⟩])
 (.blk 2
 (.loop
 (.seq (.seq (.reg [⟨(some 331), none, .o (.mov (.t 51))⟩,
 ⟨(some 332), none, .o (.add (.t 9) 1)⟩,
 ⟨(some 333), none, .ld1 (.t 332)⟩,
 ⟨(some 334), none, .o (.bin .lss (.t 331) (.t 333))⟩])
 (.cond (.t 334)
 .skip
 (.exit 2)))
 (.seq (.blk 3
 (.seq (.reg [⟨(some 52), none, .o (.mov (.c (.i .i64 (0))))⟩])
 (.seq (.seq (.reg [⟨(some 53), none, .o (.mov (.c (.i .i64 (0))))⟩])
 (.blk 4
 (.loop
 (.seq (.seq (.reg [⟨(some 337), none, .o (.mov (.t 53))⟩,
 ⟨(some 338), none, .o (.add (.t 9) 1)⟩,
 ⟨(some 339), none, .ld1 (.t 338)⟩,
 ⟨(some 340), none, .o (.bin .lss (.t 337) (.t 339))⟩])
 (.cond (.t 340)
 .skip
 (.exit 4)))
 (.seq (.blk 5
 (.drs [0, 0, 0, 6, 14, 30, 0, 0, 64, 448, 960, 1984, 4094, 8191, 16383]
 [(0, false, ⟨(some 343), none, .o (.mov (.t 52))⟩),
 (1, false, ⟨(some 344), none, .o (.mov (.t 53))⟩),
 (2, false, ⟨(some 345), none, .o (.add (.t 9) 2)⟩),
 (3, false, ⟨(some 346), none, .o (.idx (.t 345) (.t 344) 8 1)⟩),
 (4, false, ⟨(some 347), none, .ld1 (.t 346)⟩),
 (5, false, ⟨(some 348), none, .o (.cvt .i64 (.t 347))⟩),
 (6, false, ⟨(some 349), none, .o (.mov (.t 53))⟩),
 (7, false, ⟨(some 350), none, .o (.mov (.t 51))⟩),
 (8, false, ⟨(some 351), none, .o (.idx (.t 13) (.t 349) 8 8)⟩),
 (9, false, ⟨(some 352), none, .o (.idx (.t 351) (.t 350) 8 1)⟩),
 (10, false, ⟨(some 353), none, .ld1 (.t 352)⟩),
 (11, false, ⟨(some 354), none, .o (.cvt .i64 (.t 353))⟩),
 (12, false, ⟨(some 355), none, .o (.bin .mul (.t 348) (.t 354))⟩),
 (13, false, ⟨(some 356), none, .o (.bin .add (.t 343) (.t 355))⟩),
 (14, false, ⟨(some 52), none, .o (.mov (.t 356))⟩)]))
 (.reg [⟨(some 341), none, .o (.mov (.t 53))⟩,
 ⟨(some 342), none, .o (.bin .add (.t 341) (.c (.i .i64 (1))))⟩,
 ⟨(some 53), none, .o (.mov (.t 342))⟩]))))))
 (.reg [⟨(some 357), none, .o (.mov (.t 51))⟩,
 ⟨(some 358), none, .o (.mov (.t 52))⟩,
 ⟨(some 359), none, .o (.add (.t 9) 0)⟩,
 ⟨(some 360), none, .ld1 (.t 359)⟩,
 ⟨(some 361), none, .o (.bin .rem (.t 358) (.t 360))⟩,
 ⟨(some 362), none, .o (.cvt .u8 (.t 361))⟩,
 ⟨(some 363), none, .o (.idx (.t 50) (.t 357) 8 1)⟩,
 ⟨none, none, .st1 (.t 363) (.t 362)⟩]))))
 (.reg [⟨(some 335), none, .o (.mov (.t 51))⟩,
 ⟨(some 336), none, .o (.bin .add (.t 335) (.c (.i .i64 (1))))⟩,
 ⟨(some 51), none, .o (.mov (.t 336))⟩]))))))
 (.seq (.reg [⟨(some 364), none, .lda (.t 50) 0 8⟩,
 ⟨(some 365), none, .lda (.t 10) 0 8⟩,
 ⟨(some 366), none, .o (.eqa false 8 (.t 364) (.t 365))⟩,
 ⟨(some 2), none, .o (.mov (.t 366))⟩])
 .ret))))))))))))))))))))))))))))))))))))))⟩
def F_i_Algebra_opposite (P : Program) (ρ : Nat → FuncId) : Prop := chkQF P ρ 438 qf_i_Algebra_opposite = true
def F_i_Coalgebra_has_1 (P : Program) (ρ : Nat → FuncId) : Prop := chkQF P ρ 433 qf_i_Coalgebra_has_1 = true ∧ E_i_IsVector P ρ
def F_x_IndexFunc_V2 (P : Program) (ρ : Nat → FuncId) : Prop := chkQF P ρ 91 qf_x_IndexFunc_V2 = true
def F_x_ContainsFunc_V2 (P : Program) (ρ : Nat → FuncId) : Prop := chkQF P ρ 70 qf_x_ContainsFunc_V2 = true ∧ F_x_IndexFunc_V2 P ρ
def F_i_Coalgebra_has (P : Program) (ρ : Nat → FuncId) : Prop := chkQF P ρ 432 qf_i_Coalgebra_has = true ∧ F_i_Coalgebra_has_1 P ρ ∧ F_x_ContainsFunc_V2 P ρ
def F_i_Coalgebra_code (P : Program) (ρ : Nat → FuncId) : Prop := chkQF P ρ 418 qf_i_Coalgebra_code = true ∧ E_i_IsCoalgebra P ρ ∧ F_i_Coalgebra_has P ρ ∧ E_i_unless P ρ
def F_i_Coalgebra_coproduct (P : Program) (ρ : Nat → FuncId) : Prop := chkQF P ρ 426 qf_i_Coalgebra_coproduct = true ∧ E_i_Coalgebra_field P ρ ∧ E_i_field_plus P ρ
def F_i_CoproductIn (P : Program) (ρ : Nat → FuncId) : Prop := chkQF P ρ 413 qf_i_CoproductIn = true ∧ F_i_Coalgebra_code P ρ ∧ F_i_Coalgebra_coproduct P ρ
def F_i_CounitIn (P : Program) (ρ : Nat → FuncId) : Prop := chkQF P ρ 463 qf_i_CounitIn = true ∧ F_i_Coalgebra_code P ρ ∧ E_i_Coalgebra_field P ρ ∧ E_i_field_dot P ρ
def F_i_dualBack (P : Program) (ρ : Nat → FuncId) : Prop := chkQF P ρ 346 qf_i_dualBack = true
def F_i_DualAlgebra (P : Program) (ρ : Nat → FuncId) : Prop := chkQF P ρ 467 qf_i_DualAlgebra = true ∧ F_i_Coalgebra_code P ρ ∧ F_i_dualBack P ρ
def F_i_dualTable (P : Program) (ρ : Nat → FuncId) : Prop := chkQF P ρ 347 qf_i_dualTable = true
def F_i_DualCoalgebra (P : Program) (ρ : Nat → FuncId) : Prop := chkQF P ρ 465 qf_i_DualCoalgebra = true ∧ E_i_Algebra_code P ρ ∧ F_i_dualTable P ρ
def F_i_FirstCoFault (P : Program) (ρ : Nat → FuncId) : Prop := chkQF P ρ 459 qf_i_FirstCoFault = true ∧ E_i_Coalgebra_isShaped P ρ ∧ E_i_Coalgebra_fault P ρ ∧ E_i_unless P ρ
def F_i_IsCocommutative (P : Program) (ρ : Nat → FuncId) : Prop := chkQF P ρ 469 qf_i_IsCocommutative = true ∧ F_i_Coalgebra_code P ρ ∧ E_i_transposed P ρ
def F_i_IsCommutative (P : Program) (ρ : Nat → FuncId) : Prop := chkQF P ρ 471 qf_i_IsCommutative = true ∧ E_i_Algebra_code P ρ ∧ F_i_Algebra_opposite P ρ
def F_l_big (P : Program) (ρ : Nat → FuncId) : Prop := chkQF P ρ 176 qf_l_big = true
def F_s_l01From (P : Program) (ρ : Nat → FuncId) : Prop := chkQF P ρ 186 qf_s_l01From = true
def F_s_l01Next (P : Program) (ρ : Nat → FuncId) : Prop := chkQF P ρ 195 qf_s_l01Next = true
def F_s_l01Pick (P : Program) (ρ : Nat → FuncId) : Prop := chkQF P ρ 205 qf_s_l01Pick = true ∧ F_s_l01Next P ρ
def F_s_l01DrawPrime (P : Program) (ρ : Nat → FuncId) : Prop := chkQF P ρ 206 qf_s_l01DrawPrime = true ∧ F_s_l01Pick P ρ
def F_s_l01Cyclic (P : Program) (ρ : Nat → FuncId) : Prop := chkQF P ρ 196 qf_s_l01Cyclic = true
def F_s_l01Powers (P : Program) (ρ : Nat → FuncId) : Prop := chkQF P ρ 208 qf_s_l01Powers = true
def F_s_l01Matrices (P : Program) (ρ : Nat → FuncId) : Prop := chkQF P ρ 197 qf_s_l01Matrices = true
def F_s_ProductAlgebra (P : Program) (ρ : Nat → FuncId) : Prop := chkQF P ρ 209 qf_s_ProductAlgebra = true ∧ E_s_l01Is P ρ
def F_s_l01Draw (P : Program) (ρ : Nat → FuncId) : Prop := chkQF P ρ 203 qf_s_l01Draw = true ∧ F_s_l01DrawPrime P ρ ∧ F_s_l01Next P ρ ∧ F_s_l01Cyclic P ρ ∧ F_s_l01Powers P ρ ∧ F_s_l01Matrices P ρ ∧ F_s_ProductAlgebra P ρ
def F_s_l02Turned (P : Program) (ρ : Nat → FuncId) : Prop := chkQF P ρ 210 qf_s_l02Turned = true
def F_s_DualCoalgebra (P : Program) (ρ : Nat → FuncId) : Prop := chkQF P ρ 207 qf_s_DualCoalgebra = true ∧ E_s_l01Is P ρ ∧ F_s_l02Turned P ρ
def F_s_l02Draw (P : Program) (ρ : Nat → FuncId) : Prop := chkQF P ρ 201 qf_s_l02Draw = true ∧ F_s_l01Next P ρ ∧ F_s_l01DrawPrime P ρ ∧ F_s_l01Draw P ρ ∧ F_s_DualCoalgebra P ρ
def F_s_l02Bad (P : Program) (ρ : Nat → FuncId) : Prop := chkQF P ρ 202 qf_s_l02Bad = true ∧ F_s_l01Next P ρ ∧ F_s_l01Pick P ρ
def F_s_l02Spoil (P : Program) (ρ : Nat → FuncId) : Prop := chkQF P ρ 193 qf_s_l02Spoil = true ∧ F_s_l02Draw P ρ ∧ F_s_l02Bad P ρ
def F_s_DrawIsCoalgebra (P : Program) (ρ : Nat → FuncId) : Prop := chkQF P ρ 455 qf_s_DrawIsCoalgebra = true ∧ F_s_l01From P ρ ∧ F_s_l02Spoil P ρ
def F_s_IsCoalgebra (P : Program) (ρ : Nat → FuncId) : Prop := chkQF P ρ 456 qf_s_IsCoalgebra = true ∧ E_s_l02Is P ρ
def F_s_DrawFirstCoFault (P : Program) (ρ : Nat → FuncId) : Prop := chkQF P ρ 457 qf_s_DrawFirstCoFault = true ∧ F_s_l01From P ρ ∧ F_s_l02Spoil P ρ ∧ F_s_l01Next P ρ ∧ E_s_l02Is P ρ
def F_s_FirstCoFault (P : Program) (ρ : Nat → FuncId) : Prop := chkQF P ρ 458 qf_s_FirstCoFault = true ∧ E_s_l02Shape P ρ ∧ E_s_l02Fault P ρ
def F_l_likeInts (P : Program) (ρ : Nat → FuncId) : Prop := chkQF P ρ 452 qf_l_likeInts = true
def F_s_l01DrawVector (P : Program) (ρ : Nat → FuncId) : Prop := chkQF P ρ 198 qf_s_l01DrawVector = true ∧ F_s_l01Next P ρ
def F_s_l02Any (P : Program) (ρ : Nat → FuncId) : Prop := chkQF P ρ 422 qf_s_l02Any = true ∧ F_s_l01DrawVector P ρ ∧ F_s_l01Next P ρ ∧ F_s_l01Pick P ρ
def F_s_l02One (P : Program) (ρ : Nat → FuncId) : Prop := chkQF P ρ 415 qf_s_l02One = true ∧ F_s_l01From P ρ ∧ F_s_l02Spoil P ρ ∧ F_s_l01Next P ρ ∧ E_s_l01In P ρ ∧ E_s_l01Basis P ρ ∧ F_s_l02Any P ρ
def F_s_DrawCoproductIn (P : Program) (ρ : Nat → FuncId) : Prop := chkQF P ρ 460 qf_s_DrawCoproductIn = true ∧ F_s_l02One P ρ
def F_s_l02Code (P : Program) (ρ : Nat → FuncId) : Prop := chkQF P ρ 416 qf_s_l02Code = true ∧ E_s_l02Is P ρ ∧ E_s_l01Vector P ρ
def F_s_l02Coproduct (P : Program) (ρ : Nat → FuncId) : Prop := chkQF P ρ 430 qf_s_l02Coproduct = true ∧ E_s_l01Add P ρ
def F_s_CoproductIn (P : Program) (ρ : Nat → FuncId) : Prop := chkQF P ρ 461 qf_s_CoproductIn = true ∧ F_s_l02Code P ρ ∧ F_s_l02Coproduct P ρ
def F_s_l02Counit (P : Program) (ρ : Nat → FuncId) : Prop := chkQF P ρ 429 qf_s_l02Counit = true
def F_s_CounitIn (P : Program) (ρ : Nat → FuncId) : Prop := chkQF P ρ 462 qf_s_CounitIn = true ∧ F_s_l02Code P ρ ∧ F_s_l02Counit P ρ
def F_s_l01Bad (P : Program) (ρ : Nat → FuncId) : Prop := chkQF P ρ 204 qf_s_l01Bad = true ∧ F_s_l01Next P ρ ∧ F_s_l01Pick P ρ
def F_s_l01Spoil (P : Program) (ρ : Nat → FuncId) : Prop := chkQF P ρ 194 qf_s_l01Spoil = true ∧ F_s_l01Draw P ρ ∧ F_s_l01Bad P ρ
def F_s_DrawDualCoalgebra (P : Program) (ρ : Nat → FuncId) : Prop := chkQF P ρ 464 qf_s_DrawDualCoalgebra = true ∧ F_s_l01From P ρ ∧ F_s_l01Spoil P ρ
def F_s_DualAlgebra (P : Program) (ρ : Nat → FuncId) : Prop := chkQF P ρ 466 qf_s_DualAlgebra = true ∧ E_s_l02Is P ρ ∧ F_s_l02Turned P ρ
def F_s_IsCocommutative (P : Program) (ρ : Nat → FuncId) : Prop := chkQF P ρ 468 qf_s_IsCocommutative = true ∧ E_s_l02Is P ρ
def F_l_roll (P : Program) (ρ : Nat → FuncId) : Prop := chkQF P ρ 183 qf_l_roll = true
def F_l_dice_below (P : Program) (ρ : Nat → FuncId) : Prop := chkQF P ρ 200 qf_l_dice_below = true
def F_l_vector9 (P : Program) (ρ : Nat → FuncId) : Prop := chkQF P ρ 192 qf_l_vector9 = true ∧ F_l_dice_below P ρ
def F_l_plus9 (P : Program) (ρ : Nat → FuncId) : Prop := chkQF P ρ 470 qf_l_plus9 = true
def F_l_FnCoalgebras (P : Program) (ρ : Nat → FuncId) : Prop := chkQF P ρ 474 qf_l_FnCoalgebras = true ∧ F_l_big P ρ ∧ F_s_DrawIsCoalgebra P ρ ∧ E_i_IsCoalgebra P ρ ∧ F_s_IsCoalgebra P ρ ∧ F_s_DrawFirstCoFault P ρ ∧ F_s_FirstCoFault P ρ ∧ F_i_FirstCoFault P ρ ∧ F_l_likeInts P ρ ∧ F_s_DrawCoproductIn P ρ ∧ F_s_CoproductIn P ρ ∧ F_i_CoproductIn P ρ ∧ F_s_CounitIn P ρ ∧ F_i_CounitIn P ρ ∧ F_s_DrawDualCoalgebra P ρ ∧ F_s_DualCoalgebra P ρ ∧ F_i_DualCoalgebra P ρ ∧ F_s_DualAlgebra P ρ ∧ F_i_DualAlgebra P ρ ∧ F_s_IsCocommutative P ρ ∧ F_i_IsCocommutative P ρ ∧ F_i_IsCommutative P ρ ∧ E_i_IsAlgebra P ρ ∧ F_l_roll P ρ ∧ F_l_vector9 P ρ ∧ F_l_plus9 P ρ
end Hf
