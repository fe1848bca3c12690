/- Functions of the program in the second layer's small language. Written by gen2.py. -/
import Derived.Test.YtkkjaohppodccacX
import Derived.Test.YtkkjaohppodccacP
set_option linter.unusedVariables false
set_option linter.unusedSimpArgs false
namespace Hf
open Go
def qf_i_Algebra_opposite : QF := ⟨1, 27, [.c 2 2 522],
 (.seq (.reg [⟨(some 1), none, .o (.box (.t 0))⟩,
 ⟨(some 2), none, .o (.alo (.by 2 522))⟩])
 (.seq (.reg [⟨(some 6), none, .lda (.t 1) 2 522⟩,
 ⟨(some 3), none, .o (.alo (.by 2 522))⟩,
 ⟨none, none, .sta (.t 3) (.t 6) 522⟩])
 (.seq (.seq (.reg [⟨(some 7), none, .o (.mov (.c (.i .i64 (0))))⟩])
 (.blk 0
 (.loop
 (.seq (.reg [⟨(some 8), none, .o (.bin .lss (.t 7) (.c (.i .i64 (8))))⟩])
 (.seq (.cond (.t 8)
 .skip
 (.exit 0))
 (.seq (.blk 1
 (.seq (.reg [⟨(some 9), none, .o (.mov (.t 7))⟩,
 ⟨(some 4), none, .o (.mov (.t 9))⟩])
 (.seq (.reg [⟨(some 10), none, .o (.mov (.c (.i .i64 (0))))⟩])
 (.blk 2
 (.loop
 (.seq (.reg [⟨(some 11), none, .o (.bin .lss (.t 10) (.c (.i .i64 (8))))⟩])
 (.seq (.cond (.t 11)
 .skip
 (.exit 2))
 (.seq (.blk 3
 (.seq (.reg [⟨(some 12), none, .o (.mov (.t 10))⟩,
 ⟨(some 5), none, .o (.mov (.t 12))⟩])
 (.drs [0, 0, 0, 0, 0, 20, 60, 124, 0, 257, 1023, 2047]
 [(0, false, ⟨(some 13), none, .o (.mov (.t 4))⟩),
 (1, false, ⟨(some 14), none, .o (.mov (.t 5))⟩),
 (2, false, ⟨(some 15), none, .o (.mov (.t 5))⟩),
 (3, false, ⟨(some 16), none, .o (.mov (.t 4))⟩),
 (4, false, ⟨(some 17), none, .o (.add (.t 1) 10)⟩),
 (5, false, ⟨(some 18), none, .o (.idx (.t 17) (.t 15) 8 64)⟩),
 (6, false, ⟨(some 19), none, .o (.idx (.t 18) (.t 16) 8 8)⟩),
 (7, false, ⟨(some 20), none, .lda (.t 19) 0 8⟩),
 (8, false, ⟨(some 21), none, .o (.add (.t 3) 10)⟩),
 (9, false, ⟨(some 22), none, .o (.idx (.t 21) (.t 13) 8 64)⟩),
 (10, false, ⟨(some 23), none, .o (.idx (.t 22) (.t 14) 8 8)⟩),
 (11, false, ⟨none, none, .sta (.t 23) (.t 20) 8⟩)])))
 (.reg [⟨(some 24), none, .o (.bin .add (.t 10) (.c (.i .i64 (1))))⟩,
 ⟨(some 10), none, .o (.mov (.t 24))⟩])))))))))
 (.reg [⟨(some 25), none, .o (.bin .add (.t 7) (.c (.i .i64 (1))))⟩,
 ⟨(some 7), none, .o (.mov (.t 25))⟩])))))))
 (.seq (.reg [⟨(some 26), none, .lda (.t 3) 2 522⟩,
 ⟨none, none, .sta (.t 2) (.t 26) 522⟩])
 .ret))))⟩
def qf_i_CentreOf_1 : QF := ⟨4, 34, [.t 6],
 (.seq (.reg [⟨(some 6), none, .o (.mov (.c (.i .i64 (0))))⟩])
 (.seq (.drs [0, 0, 3, 0, 0, 24, 7, 127]
 [(0, false, ⟨(some 9), none, .o (.mov (.t 0))⟩),
 (1, false, ⟨(some 10), none, .ld1 (.t 2)⟩),
 (2, false, ⟨(some 11), none, .o (.bin .quo (.t 9) (.t 10))⟩),
 (3, false, ⟨(some 12), none, .o (.mov (.t 0))⟩),
 (4, false, ⟨(some 13), none, .ld1 (.t 2)⟩),
 (5, false, ⟨(some 14), none, .o (.bin .rem (.t 12) (.t 13))⟩),
 (6, false, ⟨(some 7), none, .o (.mov (.t 11))⟩),
 (7, false, ⟨(some 8), none, .o (.mov (.t 14))⟩)])
 (.seq (.drs [0, 0, 0, 0, 9, 27, 63, 127, 255, 0, 0, 0, 0, 4608, 13824, 32256, 65024, 130560, 262143, 524287]
 [(0, false, ⟨(some 15), none, .o (.mov (.t 1))⟩),
 (1, false, ⟨(some 16), none, .o (.mov (.t 7))⟩),
 (2, false, ⟨(some 17), none, .o (.mov (.t 8))⟩),
 (3, false, ⟨(some 18), none, .o (.add (.t 3) 10)⟩),
 (4, false, ⟨(some 19), none, .o (.idx (.t 18) (.t 15) 8 64)⟩),
 (5, false, ⟨(some 20), none, .o (.idx (.t 19) (.t 16) 8 8)⟩),
 (6, false, ⟨(some 21), none, .o (.idx (.t 20) (.t 17) 8 1)⟩),
 (7, false, ⟨(some 22), none, .ld1 (.t 21)⟩),
 (8, false, ⟨(some 23), none, .o (.cvt .i64 (.t 22))⟩),
 (9, false, ⟨(some 24), none, .o (.mov (.t 7))⟩),
 (10, false, ⟨(some 25), none, .o (.mov (.t 1))⟩),
 (11, false, ⟨(some 26), none, .o (.mov (.t 8))⟩),
 (12, false, ⟨(some 27), none, .o (.add (.t 3) 10)⟩),
 (13, false, ⟨(some 28), none, .o (.idx (.t 27) (.t 24) 8 64)⟩),
 (14, false, ⟨(some 29), none, .o (.idx (.t 28) (.t 25) 8 8)⟩),
 (15, false, ⟨(some 30), none, .o (.idx (.t 29) (.t 26) 8 1)⟩),
 (16, false, ⟨(some 31), none, .ld1 (.t 30)⟩),
 (17, false, ⟨(some 32), none, .o (.cvt .i64 (.t 31))⟩),
 (18, false, ⟨(some 33), none, .o (.bin .sub (.t 23) (.t 32))⟩),
 (19, false, ⟨(some 6), none, .o (.mov (.t 33))⟩)])
 .ret)))⟩
def qf_i_newSystem : QF := ⟨2, 10, [.t 4],
 (.seq (.reg [⟨(some 4), none, .o (.mov (.c .np))⟩])
 (.seq (.reg [⟨(some 5), none, .o (.mov (.t 0))⟩,
 ⟨(some 6), none, .o (.bld 2 2 [(0, 1, (.t 5)), (1, 1, (.c (.i .i64 (0))))])⟩,
 ⟨(some 7), none, .o (.mov (.t 1))⟩,
 ⟨(some 8), none, .bac [.i 0, .i 0, .i 0, .sn, .sn] [(0, 2, (.t 6)), (2, 1, (.t 7))]⟩,
 ⟨(some 9), none, .bxc (.t 8)⟩,
 ⟨(some 4), none, .o (.mov (.t 9))⟩])
 .ret))⟩
def qf_i_system_add : QF := ⟨3, 54, [],
 (.seq (.reg [⟨(some 9), none, .o (.mov (.t 0))⟩,
 ⟨(some 10), none, .o (.nck (.t 9))⟩,
 ⟨(some 11), none, .o (.add (.t 10) 2)⟩,
 ⟨(some 12), none, .ld1 (.t 11)⟩,
 ⟨(some 13), none, .o (.bin .add (.t 12) (.c (.i .i64 (1))))⟩,
 ⟨(some 14), none, .mkb 1 1 (.t 13)⟩,
 ⟨(some 6), none, .o (.mov (.t 14))⟩])
 (.seq (.seq (.reg [⟨(some 15), none, .o (.mov (.t 1))⟩,
 ⟨(some 16), none, .len (.t 15)⟩,
 ⟨(some 17), none, .o (.mov (.c (.i .i64 (0))))⟩])
 (.blk 0
 (.loop
 (.seq (.reg [⟨(some 18), none, .o (.bin .lss (.t 17) (.t 16))⟩])
 (.seq (.cond (.t 18)
 .skip
 (.exit 0))
 (.seq (.blk 1
 (.seq (.reg [⟨(some 19), none, .o (.mov (.t 17))⟩,
 ⟨(some 20), none, .ids (.t 15) (.t 17) 1⟩,
 ⟨(some 21), none, .ld1 (.t 20)⟩,
 ⟨(some 7), none, .o (.mov (.t 19))⟩,
 ⟨(some 8), none, .o (.mov (.t 21))⟩])
 (.reg [⟨(some 22), none, .o (.mov (.t 6))⟩,
 ⟨(some 23), none, .o (.mov (.t 7))⟩,
 ⟨(some 24), none, .o (.mov (.t 0))⟩,
 ⟨(some 25), none, .o (.nck (.t 24))⟩,
 ⟨(some 26), none, .o (.add (.t 25) 0)⟩,
 ⟨(some 27), none, .lda (.t 26) 2 2⟩,
 ⟨(some 28), none, .o (.mov (.t 8))⟩,
 ⟨(some 29), none, .calp 74 [(.t 27), (.t 28)]⟩,
 ⟨(some 30), none, .ids (.t 22) (.t 23) 1⟩,
 ⟨none, none, .st1 (.t 30) (.t 29)⟩])))
 (.reg [⟨(some 31), none, .o (.bin .add (.t 17) (.c (.i .i64 (1))))⟩,
 ⟨(some 17), none, .o (.mov (.t 31))⟩])))))))
 (.seq (.drs [0, 0, 2, 6, 14, 0, 32, 96, 224, 0, 992, 2047, 4095]
 [(0, false, ⟨(some 32), none, .o (.mov (.t 6))⟩),
 (1, false, ⟨(some 33), none, .o (.mov (.t 0))⟩),
 (2, false, ⟨(some 34), none, .o (.nck (.t 33))⟩),
 (3, false, ⟨(some 35), none, .o (.add (.t 34) 2)⟩),
 (4, false, ⟨(some 36), none, .ld1 (.t 35)⟩),
 (5, false, ⟨(some 37), none, .o (.mov (.t 0))⟩),
 (6, false, ⟨(some 38), none, .o (.nck (.t 37))⟩),
 (7, false, ⟨(some 39), none, .o (.add (.t 38) 0)⟩),
 (8, false, ⟨(some 40), none, .lda (.t 39) 2 2⟩),
 (9, false, ⟨(some 41), none, .o (.mov (.t 2))⟩),
 (10, false, ⟨(some 42), none, .calp 74 [(.t 40), (.t 41)]⟩),
 (11, false, ⟨(some 43), none, .ids (.t 32) (.t 36) 1⟩),
 (12, false, ⟨none, none, .st1 (.t 43) (.t 42)⟩)])
 (.reg [⟨(some 44), none, .o (.mov (.t 0))⟩,
 ⟨(some 45), none, .o (.mov (.t 0))⟩,
 ⟨(some 46), none, .o (.nck (.t 45))⟩,
 ⟨(some 47), none, .o (.add (.t 46) 3)⟩,
 ⟨(some 48), none, .ld1 (.t 47)⟩,
 ⟨(some 49), none, .o (.mov (.t 6))⟩,
 ⟨(some 50), none, .o (.bsa [(.t 49)])⟩,
 ⟨(some 51), none, .apr (.sn) 24 (.t 48) (.t 50)⟩,
 ⟨(some 52), none, .o (.nck (.t 44))⟩,
 ⟨(some 53), none, .o (.add (.t 52) 3)⟩,
 ⟨none, none, .st1 (.t 53) (.t 51)⟩]))))⟩
def qf_i_system_solve_1 : QF := ⟨2, 9, [.t 3],
 (.seq (.reg [⟨(some 3), none, .o (.mov (.c (.b false)))⟩])
 (.seq (.reg [⟨(some 4), none, .o (.mov (.t 0))⟩,
 ⟨(some 5), none, .ld1 (.t 1)⟩,
 ⟨(some 6), none, .ids (.t 4) (.t 5) 1⟩,
 ⟨(some 7), none, .ld1 (.t 6)⟩,
 ⟨(some 8), none, .o (.bin .neq (.t 7) (.c (.u 0)))⟩,
 ⟨(some 3), none, .o (.mov (.t 8))⟩])
 .ret))⟩
def qf_x_IndexFunc_R : QF := ⟨2, 19, [.t 4],
 (.seq (.reg [⟨(some 4), none, .o (.mov (.c (.i .i64 (0))))⟩])
 (.seq (.seq (.reg [⟨(some 6), none, .o (.mov (.t 0))⟩,
 ⟨(some 7), none, .len (.t 6)⟩,
 ⟨(some 8), none, .o (.mov (.c (.i .i64 (0))))⟩])
 (.blk 0
 (.loop
 (.seq (.reg [⟨(some 9), none, .o (.bin .lss (.t 8) (.t 7))⟩])
 (.seq (.cond (.t 9)
 .skip
 (.exit 0))
 (.seq (.blk 1
 (.seq (.reg [⟨(some 10), none, .o (.mov (.t 8))⟩,
 ⟨(some 5), none, .o (.mov (.t 10))⟩])
 (.seq (.reg [⟨(some 11), none, .o (.mov (.t 1))⟩,
 ⟨(some 12), none, .o (.mov (.t 0))⟩,
 ⟨(some 13), none, .o (.mov (.t 5))⟩,
 ⟨(some 14), none, .ids (.t 12) (.t 13) 1⟩,
 ⟨(some 15), none, .ld1 (.t 14)⟩,
 ⟨(some 16), none, .calv (.t 11) [(.t 15)]⟩])
 (.cond (.t 16)
 (.seq (.reg [⟨(some 17), none, .o (.mov (.t 5))⟩,
 ⟨(some 4), none, .o (.mov (.t 17))⟩])
 .ret)
 .skip))))
 (.reg [⟨(some 18), none, .o (.bin .add (.t 8) (.c (.i .i64 (1))))⟩,
 ⟨(some 8), none, .o (.mov (.t 18))⟩])))))))
 (.seq (.reg [⟨(some 4), none, .o (.mov (.c (.i .i64 (-1))))⟩])
 .ret)))⟩
def qf_i_field_inverse : QF := ⟨2, 24, [.t 4],
 (.seq (.reg [⟨(some 2), none, .o (.box (.t 0))⟩,
 ⟨(some 4), none, .o (.mov (.c (.i .i64 (0))))⟩])
 (.seq (.seq (.reg [⟨(some 5), none, .o (.mov (.c (.i .i64 (1))))⟩])
 (.blk 0
 (.loop
 (.seq (.seq (.reg [⟨(some 6), none, .o (.mov (.t 5))⟩,
 ⟨(some 7), none, .o (.add (.t 2) 0)⟩,
 ⟨(some 8), none, .ld1 (.t 7)⟩,
 ⟨(some 9), none, .o (.bin .lss (.t 6) (.t 8))⟩])
 (.cond (.t 9)
 .skip
 (.exit 0)))
 (.seq (.blk 1
 (.seq (.reg [⟨(some 12), none, .o (.mov (.t 5))⟩,
 ⟨(some 13), none, .o (.mov (.t 1))⟩,
 ⟨(some 14), none, .o (.cvt .i64 (.t 13))⟩,
 ⟨(some 15), none, .o (.bin .mul (.t 12) (.t 14))⟩,
 ⟨(some 16), none, .o (.add (.t 2) 0)⟩,
 ⟨(some 17), none, .ld1 (.t 16)⟩,
 ⟨(some 18), none, .o (.bin .rem (.t 15) (.t 17))⟩,
 ⟨(some 19), none, .o (.bin .eql (.t 18) (.c (.i .i64 (1))))⟩])
 (.cond (.t 19)
 (.seq (.reg [⟨(some 20), none, .o (.mov (.t 5))⟩,
 ⟨(some 4), none, .o (.mov (.t 20))⟩])
 .ret)
 .skip)))
 (.reg [⟨(some 10), none, .o (.mov (.t 5))⟩,
 ⟨(some 11), none, .o (.bin .add (.t 10) (.c (.i .i64 (1))))⟩,
 ⟨(some 5), none, .o (.mov (.t 11))⟩]))))))
 (.seq (.reg [⟨(some 21), none, .o (.add (.t 2) 0)⟩,
 ⟨(some 22), none, .ld1 (.t 21)⟩,
 ⟨(some 23), none, .o (.bin .rem (.c (.i .i64 (1))) (.t 22))⟩,
 ⟨(some 4), none, .o (.mov (.t 23))⟩])
 .ret)))⟩
def qf_i_system_clear : QF := ⟨3, 103, [],
 (.seq (.reg [⟨(some 15), none, .o (.mov (.t 0))⟩,
 ⟨(some 16), none, .o (.nck (.t 15))⟩,
 ⟨(some 17), none, .o (.add (.t 16) 3)⟩,
 ⟨(some 18), none, .ld1 (.t 17)⟩,
 ⟨(some 19), none, .o (.mov (.t 1))⟩,
 ⟨(some 20), none, .ids (.t 18) (.t 19) 1⟩,
 ⟨(some 21), none, .ld1 (.t 20)⟩,
 ⟨(some 6), none, .o (.mov (.t 21))⟩])
 (.seq (.drs [0, 1, 3, 7, 0, 0, 48, 112, 255, 511]
 [(0, false, ⟨(some 22), none, .o (.mov (.t 0))⟩),
 (1, false, ⟨(some 23), none, .o (.nck (.t 22))⟩),
 (2, false, ⟨(some 24), none, .o (.add (.t 23) 0)⟩),
 (3, false, ⟨(some 25), none, .lda (.t 24) 2 2⟩),
 (4, false, ⟨(some 26), none, .o (.mov (.t 6))⟩),
 (5, false, ⟨(some 27), none, .o (.mov (.t 2))⟩),
 (6, false, ⟨(some 28), none, .ids (.t 26) (.t 27) 1⟩),
 (7, false, ⟨(some 29), none, .ld1 (.t 28)⟩),
 (8, false, ⟨(some 30), none, .calp 279 [(.t 25), (.t 29)]⟩),
 (9, false, ⟨(some 7), none, .o (.mov (.t 30))⟩)])
 (.seq (.seq (.reg [⟨(some 31), none, .o (.mov (.t 6))⟩,
 ⟨(some 32), none, .len (.t 31)⟩,
 ⟨(some 33), none, .o (.mov (.c (.i .i64 (0))))⟩])
 (.blk 0
 (.loop
 (.seq (.reg [⟨(some 34), none, .o (.bin .lss (.t 33) (.t 32))⟩])
 (.seq (.cond (.t 34)
 .skip
 (.exit 0))
 (.seq (.blk 1
 (.seq (.reg [⟨(some 35), none, .o (.mov (.t 33))⟩,
 ⟨(some 36), none, .ids (.t 31) (.t 33) 1⟩,
 ⟨(some 37), none, .ld1 (.t 36)⟩,
 ⟨(some 8), none, .o (.mov (.t 35))⟩,
 ⟨(some 9), none, .o (.mov (.t 37))⟩])
 (.reg [⟨(some 38), none, .o (.mov (.t 6))⟩,
 ⟨(some 39), none, .o (.mov (.t 8))⟩,
 ⟨(some 40), none, .o (.mov (.t 0))⟩,
 ⟨(some 41), none, .o (.nck (.t 40))⟩,
 ⟨(some 42), none, .o (.add (.t 41) 0)⟩,
 ⟨(some 43), none, .lda (.t 42) 2 2⟩,
 ⟨(some 44), none, .o (.mov (.t 7))⟩,
 ⟨(some 45), none, .o (.mov (.t 9))⟩,
 ⟨(some 46), none, .o (.cvt .i64 (.t 45))⟩,
 ⟨(some 47), none, .o (.bin .mul (.t 44) (.t 46))⟩,
 ⟨(some 48), none, .calp 74 [(.t 43), (.t 47)]⟩,
 ⟨(some 49), none, .ids (.t 38) (.t 39) 1⟩,
 ⟨none, none, .st1 (.t 49) (.t 48)⟩])))
 (.reg [⟨(some 50), none, .o (.bin .add (.t 33) (.c (.i .i64 (1))))⟩,
 ⟨(some 33), none, .o (.mov (.t 50))⟩])))))))
 (.seq (.reg [⟨(some 51), none, .o (.mov (.t 0))⟩,
 ⟨(some 52), none, .o (.nck (.t 51))⟩,
 ⟨(some 53), none, .o (.add (.t 52) 3)⟩,
 ⟨(some 54), none, .ld1 (.t 53)⟩,
 ⟨(some 55), none, .len (.t 54)⟩,
 ⟨(some 56), none, .o (.mov (.c (.i .i64 (0))))⟩])
 (.blk 2
 (.loop
 (.seq (.reg [⟨(some 57), none, .o (.bin .lss (.t 56) (.t 55))⟩])
 (.seq (.cond (.t 57)
 .skip
 (.exit 2))
 (.seq (.blk 3
 (.seq (.reg [⟨(some 58), none, .o (.mov (.t 56))⟩,
 ⟨(some 59), none, .ids (.t 54) (.t 56) 1⟩,
 ⟨(some 60), none, .ld1 (.t 59)⟩,
 ⟨(some 10), none, .o (.mov (.t 58))⟩,
 ⟨(some 11), none, .o (.mov (.t 60))⟩])
 (.seq (.seq (.reg [⟨(some 61), none, .o (.mov (.t 10))⟩,
 ⟨(some 62), none, .o (.mov (.t 1))⟩,
 ⟨(some 63), none, .o (.bin .eql (.t 61) (.t 62))⟩,
 ⟨(some 64), none, .o (.mov (.t 63))⟩,
 ⟨(some 65), (some (64, false)), .o (.mov (.t 11))⟩,
 ⟨(some 66), (some (64, false)), .o (.mov (.t 2))⟩,
 ⟨(some 67), (some (64, false)), .ids (.t 65) (.t 66) 1⟩,
 ⟨(some 68), (some (64, false)), .ld1 (.t 67)⟩,
 ⟨(some 69), (some (64, false)), .o (.bin .eql (.t 68) (.c (.u 0)))⟩,
 ⟨(some 70), none, .o (.pick (.t 64) (.c (.b true)) (.t 69))⟩])
 (.cond (.t 70)
 (.exit 3)
 .skip))
 (.seq (.reg [⟨(some 71), none, .o (.mov (.t 11))⟩,
 ⟨(some 72), none, .o (.mov (.t 2))⟩,
 ⟨(some 73), none, .ids (.t 71) (.t 72) 1⟩,
 ⟨(some 74), none, .ld1 (.t 73)⟩,
 ⟨(some 75), none, .o (.cvt .i64 (.t 74))⟩,
 ⟨(some 12), none, .o (.mov (.t 75))⟩])
 (.seq (.reg [⟨(some 76), none, .o (.mov (.t 6))⟩,
 ⟨(some 77), none, .len (.t 76)⟩,
 ⟨(some 78), none, .o (.mov (.c (.i .i64 (0))))⟩])
 (.blk 4
 (.loop
 (.seq (.reg [⟨(some 79), none, .o (.bin .lss (.t 78) (.t 77))⟩])
 (.seq (.cond (.t 79)
 .skip
 (.exit 4))
 (.seq (.blk 5
 (.seq (.reg [⟨(some 80), none, .o (.mov (.t 78))⟩,
 ⟨(some 81), none, .ids (.t 76) (.t 78) 1⟩,
 ⟨(some 82), none, .ld1 (.t 81)⟩,
 ⟨(some 13), none, .o (.mov (.t 80))⟩,
 ⟨(some 14), none, .o (.mov (.t 82))⟩])
 (.drs [0, 0, 0, 4, 12, 28, 0, 0, 192, 448, 960, 0, 0, 4096, 14336, 32704, 65532, 131071, 262143]
 [(0, false, ⟨(some 83), none, .o (.mov (.t 11))⟩),
 (1, false, ⟨(some 84), none, .o (.mov (.t 13))⟩),
 (2, false, ⟨(some 85), none, .o (.mov (.t 0))⟩),
 (3, false, ⟨(some 86), none, .o (.nck (.t 85))⟩),
 (4, false, ⟨(some 87), none, .o (.add (.t 86) 0)⟩),
 (5, false, ⟨(some 88), none, .lda (.t 87) 2 2⟩),
 (6, false, ⟨(some 89), none, .o (.mov (.t 11))⟩),
 (7, false, ⟨(some 90), none, .o (.mov (.t 13))⟩),
 (8, false, ⟨(some 91), none, .ids (.t 89) (.t 90) 1⟩),
 (9, false, ⟨(some 92), none, .ld1 (.t 91)⟩),
 (10, false, ⟨(some 93), none, .o (.cvt .i64 (.t 92))⟩),
 (11, false, ⟨(some 94), none, .o (.mov (.t 12))⟩),
 (12, false, ⟨(some 95), none, .o (.mov (.t 14))⟩),
 (13, false, ⟨(some 96), none, .o (.cvt .i64 (.t 95))⟩),
 (14, false, ⟨(some 97), none, .o (.bin .mul (.t 94) (.t 96))⟩),
 (15, false, ⟨(some 98), none, .o (.bin .sub (.t 93) (.t 97))⟩),
 (16, false, ⟨(some 99), none, .calp 74 [(.t 88), (.t 98)]⟩),
 (17, false, ⟨(some 100), none, .ids (.t 83) (.t 84) 1⟩),
 (18, false, ⟨none, none, .st1 (.t 100) (.t 99)⟩)])))
 (.reg [⟨(some 101), none, .o (.bin .add (.t 78) (.c (.i .i64 (1))))⟩,
 ⟨(some 78), none, .o (.mov (.t 101))⟩])))))))))))
 (.reg [⟨(some 102), none, .o (.bin .add (.t 56) (.c (.i .i64 (1))))⟩,
 ⟨(some 56), none, .o (.mov (.t 102))⟩]))))))))))⟩
def qf_i_system_solve_2 : QF := ⟨2, 12, [.t 3],
 (.seq (.reg [⟨(some 3), none, .o (.mov (.c (.b false)))⟩])
 (.seq (.reg [⟨(some 4), none, .o (.mov (.t 0))⟩,
 ⟨(some 5), none, .ld1 (.t 1)⟩,
 ⟨(some 6), none, .o (.nck (.t 5))⟩,
 ⟨(some 7), none, .o (.add (.t 6) 2)⟩,
 ⟨(some 8), none, .ld1 (.t 7)⟩,
 ⟨(some 9), none, .ids (.t 4) (.t 8) 1⟩,
 ⟨(some 10), none, .ld1 (.t 9)⟩,
 ⟨(some 11), none, .o (.bin .neq (.t 10) (.c (.u 0)))⟩,
 ⟨(some 3), none, .o (.mov (.t 11))⟩])
 .ret))⟩
def qf_x_ContainsFunc_R : QF := ⟨2, 9, [.t 4],
 (.seq (.reg [⟨(some 4), none, .o (.mov (.c (.b false)))⟩])
 (.seq (.reg [⟨(some 5), none, .o (.mov (.t 0))⟩,
 ⟨(some 6), none, .o (.mov (.t 1))⟩,
 ⟨(some 7), none, .call 277 [(.t 5), (.t 6)]⟩,
 ⟨(some 8), none, .o (.bin .geq (.t 7) (.c (.i .i64 (0))))⟩,
 ⟨(some 4), none, .o (.mov (.t 8))⟩])
 .ret))⟩
def qf_i_system_solve : QF := ⟨1, 103, [.t 2],
 (.seq (.reg [⟨(some 1), none, .o (.box (.t 0))⟩,
 ⟨(some 2), none, .o (.mov (.c (.b false)))⟩])
 (.seq (.reg [⟨(some 3), none, .o (.mov (.c (.i .i64 (0))))⟩])
 (.seq (.reg [⟨(some 7), none, .ld1 (.t 1)⟩,
 ⟨(some 8), none, .o (.nck (.t 7))⟩,
 ⟨(some 9), none, .o (.add (.t 8) 4)⟩,
 ⟨none, none, .st1 (.t 9) (.c .sn)⟩])
 (.seq (.seq (.reg [⟨(some 4), none, .o (.alo .i)⟩,
 ⟨none, none, .st1 (.t 4) (.c (.i .i64 (0)))⟩])
 (.blk 0
 (.loop
 (.seq (.seq (.drs [0, 0, 2, 6, 14, 31, 63, 127, 127, 383, 895, 1919, 3967, 8191, 16383]
 [(0, false, ⟨(some 10), none, .ld1 (.t 4)⟩),
 (1, false, ⟨(some 11), none, .ld1 (.t 1)⟩),
 (2, false, ⟨(some 12), none, .o (.nck (.t 11))⟩),
 (3, false, ⟨(some 13), none, .o (.add (.t 12) 2)⟩),
 (4, false, ⟨(some 14), none, .ld1 (.t 13)⟩),
 (5, false, ⟨(some 15), none, .o (.bin .lss (.t 10) (.t 14))⟩),
 (6, false, ⟨(some 16), none, .o (.mov (.t 15))⟩),
 (7, false, ⟨(some 17), (some (16, true)), .o (.mov (.t 3))⟩),
 (8, false, ⟨(some 18), (some (16, true)), .ld1 (.t 1)⟩),
 (9, false, ⟨(some 19), (some (16, true)), .o (.nck (.t 18))⟩),
 (10, false, ⟨(some 20), (some (16, true)), .o (.add (.t 19) 3)⟩),
 (11, false, ⟨(some 21), (some (16, true)), .ld1 (.t 20)⟩),
 (12, false, ⟨(some 22), (some (16, true)), .len (.t 21)⟩),
 (13, false, ⟨(some 23), (some (16, true)), .o (.bin .lss (.t 17) (.t 22))⟩),
 (14, false, ⟨(some 24), none, .o (.pick (.t 16) (.t 23) (.c (.b false)))⟩)])
 (.cond (.t 24)
 .skip
 (.exit 0)))
 (.seq (.blk 1
 (.seq (.reg [⟨(some 27), none, .ld1 (.t 1)⟩,
 ⟨(some 28), none, .o (.nck (.t 27))⟩,
 ⟨(some 29), none, .o (.add (.t 28) 3)⟩,
 ⟨(some 30), none, .ld1 (.t 29)⟩,
 ⟨(some 31), none, .o (.mov (.t 3))⟩,
 ⟨(some 32), none, .slc (.t 30) (some (.t 31)) none 1⟩,
 ⟨(some 33), none, .o (.mkf 276 [] [(.t 4)])⟩,
 ⟨(some 34), none, .call 277 [(.t 32), (.t 33)]⟩,
 ⟨(some 5), none, .o (.mov (.t 34))⟩])
 (.seq (.seq (.reg [⟨(some 35), none, .o (.mov (.t 5))⟩,
 ⟨(some 36), none, .o (.bin .lss (.t 35) (.c (.i .i64 (0))))⟩])
 (.cond (.t 36)
 (.exit 1)
 .skip))
 (.seq (.drs [0, 1, 3, 7, 0, 0, 32, 96, 224, 0, 0, 1536, 0, 4096, 12288, 28672, 0, 0, 196608, 520192, 1044480, 0, 2097152, 6291456, 14680064, 0, 65011712, 132120576, 268431871, 536867327, 1073741823, 2147483647]
 [(0, false, ⟨(some 37), none, .ld1 (.t 1)⟩),
 (1, false, ⟨(some 38), none, .o (.nck (.t 37))⟩),
 (2, false, ⟨(some 39), none, .o (.add (.t 38) 3)⟩),
 (3, false, ⟨(some 40), none, .ld1 (.t 39)⟩),
 (4, false, ⟨(some 41), none, .o (.mov (.t 3))⟩),
 (5, false, ⟨(some 42), none, .ld1 (.t 1)⟩),
 (6, false, ⟨(some 43), none, .o (.nck (.t 42))⟩),
 (7, false, ⟨(some 44), none, .o (.add (.t 43) 3)⟩),
 (8, false, ⟨(some 45), none, .ld1 (.t 44)⟩),
 (9, false, ⟨(some 46), none, .o (.mov (.t 3))⟩),
 (10, false, ⟨(some 47), none, .o (.mov (.t 5))⟩),
 (11, false, ⟨(some 48), none, .o (.bin .add (.t 46) (.t 47))⟩),
 (12, false, ⟨(some 49), none, .ld1 (.t 1)⟩),
 (13, false, ⟨(some 50), none, .o (.nck (.t 49))⟩),
 (14, false, ⟨(some 51), none, .o (.add (.t 50) 3)⟩),
 (15, false, ⟨(some 52), none, .ld1 (.t 51)⟩),
 (16, false, ⟨(some 53), none, .o (.mov (.t 3))⟩),
 (17, false, ⟨(some 54), none, .o (.mov (.t 5))⟩),
 (18, false, ⟨(some 55), none, .o (.bin .add (.t 53) (.t 54))⟩),
 (19, false, ⟨(some 56), none, .ids (.t 52) (.t 55) 1⟩),
 (20, false, ⟨(some 57), none, .ld1 (.t 56)⟩),
 (21, false, ⟨(some 58), none, .ld1 (.t 1)⟩),
 (22, false, ⟨(some 59), none, .o (.nck (.t 58))⟩),
 (23, false, ⟨(some 60), none, .o (.add (.t 59) 3)⟩),
 (24, false, ⟨(some 61), none, .ld1 (.t 60)⟩),
 (25, false, ⟨(some 62), none, .o (.mov (.t 3))⟩),
 (26, false, ⟨(some 63), none, .ids (.t 61) (.t 62) 1⟩),
 (27, false, ⟨(some 64), none, .ld1 (.t 63)⟩),
 (28, false, ⟨(some 65), none, .ids (.t 40) (.t 41) 1⟩),
 (29, false, ⟨none, none, .st1 (.t 65) (.t 57)⟩),
 (30, false, ⟨(some 66), none, .ids (.t 45) (.t 48) 1⟩),
 (31, false, ⟨none, none, .st1 (.t 66) (.t 64)⟩)])
 (.seq (.reg [⟨(some 67), none, .ld1 (.t 1)⟩,
 ⟨(some 68), none, .o (.mov (.t 3))⟩,
 ⟨(some 69), none, .ld1 (.t 4)⟩,
 ⟨(some 70), none, .call 280 [(.t 67), (.t 68), (.t 69)]⟩])
 (.seq (.drs [0, 0, 2, 6, 14, 0, 32, 126, 255, 511, 1023]
 [(0, true, ⟨(some 71), none, .ld1 (.t 1)⟩),
 (1, true, ⟨(some 72), none, .ld1 (.t 1)⟩),
 (2, false, ⟨(some 73), none, .o (.nck (.t 72))⟩),
 (3, false, ⟨(some 74), none, .o (.add (.t 73) 4)⟩),
 (4, true, ⟨(some 75), none, .ld1 (.t 74)⟩),
 (5, false, ⟨(some 76), none, .ld1 (.t 4)⟩),
 (6, false, ⟨(some 77), none, .o (.bsa [(.t 76)])⟩),
 (7, false, ⟨(some 78), none, .apr (.i 0) 8 (.t 75) (.t 77)⟩),
 (8, false, ⟨(some 79), none, .o (.nck (.t 71))⟩),
 (9, false, ⟨(some 80), none, .o (.add (.t 79) 4)⟩),
 (10, true, ⟨none, none, .st1 (.t 80) (.t 78)⟩)])
 (.reg [⟨(some 81), none, .o (.mov (.t 3))⟩,
 ⟨(some 82), none, .o (.bin .add (.t 81) (.c (.i .i64 (1))))⟩,
 ⟨(some 3), none, .o (.mov (.t 82))⟩])))))))
 (.seq (.seq (.reg [⟨(some 83), none, .ld1 (.t 4)⟩])
 (.reg [⟨(some 4), none, .o (.alo .i)⟩,
 ⟨none, none, .st1 (.t 4) (.t 83)⟩]))
 (.reg [⟨(some 25), none, .ld1 (.t 4)⟩,
 ⟨(some 26), none, .o (.bin .add (.t 25) (.c (.i .i64 (1))))⟩,
 ⟨none, none, .st1 (.t 4) (.t 26)⟩])))))))
 (.seq (.reg [⟨(some 84), none, .ld1 (.t 1)⟩,
 ⟨(some 85), none, .o (.nck (.t 84))⟩,
 ⟨(some 86), none, .o (.add (.t 85) 3)⟩,
 ⟨(some 87), none, .ld1 (.t 86)⟩,
 ⟨(some 88), none, .o (.mov (.t 3))⟩,
 ⟨(some 89), none, .slc (.t 87) (some (.t 88)) none 1⟩,
 ⟨(some 6), none, .o (.mov (.t 89))⟩])
 (.seq (.drs [0, 0, 2, 6, 14, 0, 62, 127, 255, 511]
 [(0, false, ⟨(some 90), none, .ld1 (.t 1)⟩),
 (1, false, ⟨(some 91), none, .ld1 (.t 1)⟩),
 (2, false, ⟨(some 92), none, .o (.nck (.t 91))⟩),
 (3, false, ⟨(some 93), none, .o (.add (.t 92) 3)⟩),
 (4, false, ⟨(some 94), none, .ld1 (.t 93)⟩),
 (5, false, ⟨(some 95), none, .o (.mov (.t 3))⟩),
 (6, false, ⟨(some 96), none, .slc (.t 94) none (some (.t 95)) 1⟩),
 (7, false, ⟨(some 97), none, .o (.nck (.t 90))⟩),
 (8, false, ⟨(some 98), none, .o (.add (.t 97) 3)⟩),
 (9, false, ⟨none, none, .st1 (.t 98) (.t 96)⟩)])
 (.seq (.reg [⟨(some 99), none, .o (.mov (.t 6))⟩,
 ⟨(some 100), none, .o (.mkf 282 [] [(.t 1)])⟩,
 ⟨(some 101), none, .call 281 [(.t 99), (.t 100)]⟩,
 ⟨(some 102), none, .o (.nt (.t 101))⟩,
 ⟨(some 2), none, .o (.mov (.t 102))⟩])
 .ret)))))))⟩
def qf_x_Index_I : QF := ⟨2, 19, [.t 4],
 (.seq (.reg [⟨(some 4), none, .o (.mov (.c (.i .i64 (0))))⟩])
 (.seq (.seq (.reg [⟨(some 6), none, .o (.mov (.t 0))⟩,
 ⟨(some 7), none, .len (.t 6)⟩,
 ⟨(some 8), none, .o (.mov (.c (.i .i64 (0))))⟩])
 (.blk 0
 (.loop
 (.seq (.reg [⟨(some 9), none, .o (.bin .lss (.t 8) (.t 7))⟩])
 (.seq (.cond (.t 9)
 .skip
 (.exit 0))
 (.seq (.blk 1
 (.seq (.reg [⟨(some 10), none, .o (.mov (.t 8))⟩,
 ⟨(some 5), none, .o (.mov (.t 10))⟩])
 (.seq (.reg [⟨(some 11), none, .o (.mov (.t 1))⟩,
 ⟨(some 12), none, .o (.mov (.t 0))⟩,
 ⟨(some 13), none, .o (.mov (.t 5))⟩,
 ⟨(some 14), none, .ids (.t 12) (.t 13) 1⟩,
 ⟨(some 15), none, .ld1 (.t 14)⟩,
 ⟨(some 16), none, .o (.bin .eql (.t 11) (.t 15))⟩])
 (.cond (.t 16)
 (.seq (.reg [⟨(some 17), none, .o (.mov (.t 5))⟩,
 ⟨(some 4), none, .o (.mov (.t 17))⟩])
 .ret)
 .skip))))
 (.reg [⟨(some 18), none, .o (.bin .add (.t 8) (.c (.i .i64 (1))))⟩,
 ⟨(some 8), none, .o (.mov (.t 18))⟩])))))))
 (.seq (.reg [⟨(some 4), none, .o (.mov (.c (.i .i64 (-1))))⟩])
 .ret)))⟩
def qf_x_Contains_I : QF := ⟨2, 9, [.t 4],
 (.seq (.reg [⟨(some 4), none, .o (.mov (.c (.b false)))⟩])
 (.seq (.reg [⟨(some 5), none, .o (.mov (.t 0))⟩,
 ⟨(some 6), none, .o (.mov (.t 1))⟩,
 ⟨(some 7), none, .call 283 [(.t 5), (.t 6)]⟩,
 ⟨(some 8), none, .o (.bin .geq (.t 7) (.c (.i .i64 (0))))⟩,
 ⟨(some 4), none, .o (.mov (.t 8))⟩])
 .ret))⟩
def qf_x_Clone_B : QF := ⟨1, 8, [.t 2],
 (.seq (.reg [⟨(some 2), none, .o (.mov (.c .sn))⟩])
 (.seq (.seq (.reg [⟨(some 3), none, .o (.mov (.t 0))⟩,
 ⟨(some 4), none, .o (.eqn false (.t 3))⟩])
 (.cond (.t 4)
 (.seq (.reg [⟨(some 2), none, .o (.mov (.c .sn))⟩])
 .ret)
 .skip))
 (.seq (.reg [⟨(some 5), none, .bsy []⟩,
 ⟨(some 6), none, .o (.mov (.t 0))⟩,
 ⟨(some 7), none, .apb 1 1 (.t 5) (.t 6)⟩,
 ⟨(some 2), none, .o (.mov (.t 7))⟩])
 .ret)))⟩
def qf_i_reduced : QF := ⟨2, 54, [.t 4],
 (.seq (.reg [⟨(some 4), none, .o (.mov (.c .sn))⟩])
 (.seq (.reg [⟨(some 11), none, .o (.mov (.t 0))⟩,
 ⟨(some 12), none, .call 271 [(.t 11), (.c (.i .i64 (8)))]⟩,
 ⟨(some 5), none, .o (.mov (.t 12))⟩])
 (.seq (.seq (.reg [⟨(some 13), none, .o (.mov (.t 1))⟩,
 ⟨(some 14), none, .len (.t 13)⟩,
 ⟨(some 15), none, .o (.mov (.c (.i .i64 (0))))⟩])
 (.blk 0
 (.loop
 (.seq (.reg [⟨(some 16), none, .o (.bin .lss (.t 15) (.t 14))⟩])
 (.seq (.cond (.t 16)
 .skip
 (.exit 0))
 (.seq (.blk 1
 (.seq (.reg [⟨(some 17), none, .ids (.t 13) (.t 15) 8⟩,
 ⟨(some 18), none, .lda (.t 17) 0 8⟩,
 ⟨(some 7), none, .o (.alo (.by 0 8))⟩,
 ⟨none, none, .sta (.t 7) (.t 18) 8⟩])
 (.drf [0, 0, 2, 6, 14, 0, 32, 0, 224, 480, 1022, 2047, 4095, 8191]
 [(0, false, ⟨(some 19), none, .o (.mov (.t 5))⟩),
 (1, false, ⟨(some 20), none, .o (.mov (.t 5))⟩),
 (2, false, ⟨(some 21), none, .o (.nck (.t 20))⟩),
 (3, false, ⟨(some 22), none, .o (.add (.t 21) 3)⟩),
 (4, true, ⟨(some 23), none, .ld1 (.t 22)⟩),
 (5, false, ⟨(some 24), none, .sla (.t 7) none none 8 1⟩)]
 (6, false, ⟨(some 25), none, .call 289 [(.t 24)]⟩)
 (7, false, ⟨(some 26), none, .bsy [(.c (.u 0))]⟩)
 [(8, false, ⟨(some 27), none, .apb 1 1 (.t 25) (.t 26)⟩),
 (9, false, ⟨(some 28), none, .o (.bsa [(.t 27)])⟩),
 (10, true, ⟨(some 29), none, .apr (.sn) 24 (.t 23) (.t 28)⟩),
 (11, false, ⟨(some 30), none, .o (.nck (.t 19))⟩),
 (12, false, ⟨(some 31), none, .o (.add (.t 30) 3)⟩),
 (13, true, ⟨none, none, .st1 (.t 31) (.t 29)⟩)])))
 (.reg [⟨(some 32), none, .o (.bin .add (.t 15) (.c (.i .i64 (1))))⟩,
 ⟨(some 15), none, .o (.mov (.t 32))⟩])))))))
 (.seq (.reg [⟨(some 33), none, .o (.mov (.t 5))⟩,
 ⟨(some 34), none, .call 287 [(.t 33)]⟩])
 (.seq (.reg [⟨(some 35), none, .o (.bsb 8 [])⟩,
 ⟨(some 8), none, .o (.mov (.t 35))⟩])
 (.seq (.seq (.reg [⟨(some 36), none, .o (.mov (.t 5))⟩,
 ⟨(some 37), none, .o (.nck (.t 36))⟩,
 ⟨(some 38), none, .o (.add (.t 37) 3)⟩,
 ⟨(some 39), none, .ld1 (.t 38)⟩,
 ⟨(some 40), none, .len (.t 39)⟩,
 ⟨(some 41), none, .o (.mov (.c (.i .i64 (0))))⟩])
 (.blk 2
 (.loop
 (.seq (.reg [⟨(some 42), none, .o (.bin .lss (.t 41) (.t 40))⟩])
 (.seq (.cond (.t 42)
 .skip
 (.exit 2))
 (.seq (.blk 3
 (.seq (.reg [⟨(some 43), none, .ids (.t 39) (.t 41) 1⟩,
 ⟨(some 44), none, .ld1 (.t 43)⟩,
 ⟨(some 10), none, .o (.mov (.t 44))⟩])
 (.reg [⟨(some 45), none, .o (.mov (.t 8))⟩,
 ⟨(some 46), none, .o (.mov (.t 10))⟩,
 ⟨(some 47), none, .slc (.t 46) none (some (.c (.i .i64 (8)))) 1⟩,
 ⟨(some 48), none, .sap (.t 47) 8⟩,
 ⟨(some 49), none, .lda (.t 48) 0 8⟩,
 ⟨(some 50), none, .o (.bsb 8 [(.t 49)])⟩,
 ⟨(some 51), none, .apb 8 8 (.t 45) (.t 50)⟩,
 ⟨(some 8), none, .o (.mov (.t 51))⟩])))
 (.reg [⟨(some 52), none, .o (.bin .add (.t 41) (.c (.i .i64 (1))))⟩,
 ⟨(some 41), none, .o (.mov (.t 52))⟩])))))))
 (.seq (.reg [⟨(some 53), none, .o (.mov (.t 8))⟩,
 ⟨(some 4), none, .o (.mov (.t 53))⟩])
 .ret)))))))⟩
def qf_i_system_spaces : QF := ⟨1, 66, [.t 2],
 (.seq (.reg [⟨(some 2), none, .o (.mov (.c .sn))⟩])
 (.seq (.reg [⟨(some 8), none, .o (.bsb 8 [])⟩,
 ⟨(some 3), none, .o (.mov (.t 8))⟩])
 (.seq (.seq (.reg [⟨(some 9), none, .o (.mov (.t 0))⟩,
 ⟨(some 10), none, .o (.nck (.t 9))⟩,
 ⟨(some 11), none, .o (.add (.t 10) 2)⟩,
 ⟨(some 12), none, .ld1 (.t 11)⟩,
 ⟨(some 13), none, .o (.mov (.c (.i .i64 (0))))⟩])
 (.blk 0
 (.loop
 (.seq (.reg [⟨(some 14), none, .o (.bin .lss (.t 13) (.t 12))⟩])
 (.seq (.cond (.t 14)
 .skip
 (.exit 0))
 (.seq (.blk 1
 (.seq (.reg [⟨(some 15), none, .o (.mov (.t 13))⟩,
 ⟨(some 4), none, .o (.mov (.t 15))⟩])
 (.seq (.seq (.reg [⟨(some 16), none, .o (.mov (.t 0))⟩,
 ⟨(some 17), none, .o (.nck (.t 16))⟩,
 ⟨(some 18), none, .o (.add (.t 17) 4)⟩,
 ⟨(some 19), none, .ld1 (.t 18)⟩,
 ⟨(some 20), none, .o (.mov (.t 4))⟩,
 ⟨(some 21), none, .call 278 [(.t 19), (.t 20)]⟩])
 (.cond (.t 21)
 (.exit 1)
 .skip))
 (.seq (.reg [⟨(some 22), none, .o (.mov (.t 4))⟩,
 ⟨(some 23), none, .calp 61 [(.t 22)]⟩,
 ⟨(some 5), none, .o (.alo (.by 0 8))⟩,
 ⟨none, none, .sta (.t 5) (.t 23) 8⟩])
 (.seq (.seq (.reg [⟨(some 24), none, .o (.mov (.t 0))⟩,
 ⟨(some 25), none, .o (.nck (.t 24))⟩,
 ⟨(some 26), none, .o (.add (.t 25) 4)⟩,
 ⟨(some 27), none, .ld1 (.t 26)⟩,
 ⟨(some 28), none, .len (.t 27)⟩,
 ⟨(some 29), none, .o (.mov (.c (.i .i64 (0))))⟩])
 (.blk 2
 (.loop
 (.seq (.reg [⟨(some 30), none, .o (.bin .lss (.t 29) (.t 28))⟩])
 (.seq (.cond (.t 30)
 .skip
 (.exit 2))
 (.seq (.blk 3
 (.seq (.reg [⟨(some 31), none, .o (.mov (.t 29))⟩,
 ⟨(some 32), none, .ids (.t 27) (.t 29) 1⟩,
 ⟨(some 33), none, .ld1 (.t 32)⟩,
 ⟨(some 6), none, .o (.mov (.t 31))⟩,
 ⟨(some 7), none, .o (.mov (.t 33))⟩])
 (.drs [0, 0, 2, 6, 14, 0, 32, 96, 224, 0, 992, 2016, 0, 8160, 16352, 32736, 65504, 131070, 262143, 524287]
 [(0, false, ⟨(some 34), none, .o (.mov (.t 7))⟩),
 (1, false, ⟨(some 35), none, .o (.mov (.t 0))⟩),
 (2, false, ⟨(some 36), none, .o (.nck (.t 35))⟩),
 (3, false, ⟨(some 37), none, .o (.add (.t 36) 0)⟩),
 (4, false, ⟨(some 38), none, .lda (.t 37) 2 2⟩),
 (5, false, ⟨(some 39), none, .o (.mov (.t 0))⟩),
 (6, false, ⟨(some 40), none, .o (.nck (.t 39))⟩),
 (7, false, ⟨(some 41), none, .o (.add (.t 40) 3)⟩),
 (8, false, ⟨(some 42), none, .ld1 (.t 41)⟩),
 (9, false, ⟨(some 43), none, .o (.mov (.t 6))⟩),
 (10, false, ⟨(some 44), none, .ids (.t 42) (.t 43) 1⟩),
 (11, false, ⟨(some 45), none, .ld1 (.t 44)⟩),
 (12, false, ⟨(some 46), none, .o (.mov (.t 4))⟩),
 (13, false, ⟨(some 47), none, .ids (.t 45) (.t 46) 1⟩),
 (14, false, ⟨(some 48), none, .ld1 (.t 47)⟩),
 (15, false, ⟨(some 49), none, .o (.cvt .i64 (.t 48))⟩),
 (16, false, ⟨(some 50), none, .o (.ng (.t 49))⟩),
 (17, false, ⟨(some 51), none, .calp 74 [(.t 38), (.t 50)]⟩),
 (18, false, ⟨(some 52), none, .o (.idx (.t 5) (.t 34) 8 1)⟩),
 (19, false, ⟨none, none, .st1 (.t 52) (.t 51)⟩)])))
 (.reg [⟨(some 53), none, .o (.bin .add (.t 29) (.c (.i .i64 (1))))⟩,
 ⟨(some 29), none, .o (.mov (.t 53))⟩])))))))
 (.reg [⟨(some 54), none, .o (.mov (.t 3))⟩,
 ⟨(some 55), none, .lda (.t 5) 0 8⟩,
 ⟨(some 56), none, .o (.bsb 8 [(.t 55)])⟩,
 ⟨(some 57), none, .apb 8 8 (.t 54) (.t 56)⟩,
 ⟨(some 3), none, .o (.mov (.t 57))⟩]))))))
 (.reg [⟨(some 58), none, .o (.bin .add (.t 13) (.c (.i .i64 (1))))⟩,
 ⟨(some 13), none, .o (.mov (.t 58))⟩])))))))
 (.seq (.reg [⟨(some 59), none, .o (.mov (.t 0))⟩,
 ⟨(some 60), none, .o (.nck (.t 59))⟩,
 ⟨(some 61), none, .o (.add (.t 60) 0)⟩,
 ⟨(some 62), none, .o (.add (.t 61) 0)⟩,
 ⟨(some 63), none, .ld1 (.t 62)⟩,
 ⟨(some 64), none, .o (.mov (.t 3))⟩,
 ⟨(some 65), none, .call 267 [(.t 63), (.t 64)]⟩,
 ⟨(some 2), none, .o (.mov (.t 65))⟩])
 .ret))))⟩
def qf_i_kernel : QF := ⟨3, 44, [.t 6],
 (.seq (.reg [⟨(some 3), none, .o (.box (.t 0))⟩,
 ⟨(some 6), none, .o (.mov (.c .sn))⟩])
 (.seq (.reg [⟨(some 11), none, .o (.add (.t 3) 0)⟩,
 ⟨(some 12), none, .ld1 (.t 11)⟩,
 ⟨(some 13), none, .o (.add (.t 3) 1)⟩,
 ⟨(some 14), none, .ld1 (.t 13)⟩,
 ⟨(some 15), none, .call 271 [(.t 12), (.t 14)]⟩,
 ⟨(some 7), none, .o (.mov (.t 15))⟩])
 (.seq (.seq (.reg [⟨(some 16), none, .o (.mov (.t 1))⟩,
 ⟨(some 17), none, .o (.mov (.c (.i .i64 (0))))⟩])
 (.blk 0
 (.loop
 (.seq (.reg [⟨(some 18), none, .o (.bin .lss (.t 17) (.t 16))⟩])
 (.seq (.cond (.t 18)
 .skip
 (.exit 0))
 (.seq (.blk 1
 (.seq (.reg [⟨(some 19), none, .o (.mov (.t 17))⟩,
 ⟨(some 8), none, .o (.mov (.t 19))⟩])
 (.seq (.reg [⟨(some 20), none, .o (.add (.t 3) 1)⟩,
 ⟨(some 21), none, .ld1 (.t 20)⟩,
 ⟨(some 22), none, .mkr (.i 0) 8 (.t 21)⟩,
 ⟨(some 9), none, .o (.mov (.t 22))⟩])
 (.seq (.seq (.reg [⟨(some 23), none, .o (.mov (.t 9))⟩,
 ⟨(some 24), none, .len (.t 23)⟩,
 ⟨(some 25), none, .o (.mov (.c (.i .i64 (0))))⟩])
 (.blk 2
 (.loop
 (.seq (.reg [⟨(some 26), none, .o (.bin .lss (.t 25) (.t 24))⟩])
 (.seq (.cond (.t 26)
 .skip
 (.exit 2))
 (.seq (.blk 3
 (.seq (.reg [⟨(some 27), none, .o (.mov (.t 25))⟩,
 ⟨(some 10), none, .o (.mov (.t 27))⟩])
 (.reg [⟨(some 28), none, .o (.mov (.t 9))⟩,
 ⟨(some 29), none, .o (.mov (.t 10))⟩,
 ⟨(some 30), none, .o (.mov (.t 2))⟩,
 ⟨(some 31), none, .o (.mov (.t 8))⟩,
 ⟨(some 32), none, .o (.mov (.t 10))⟩,
 ⟨(some 33), none, .calv (.t 30) [(.t 31), (.t 32)]⟩,
 ⟨(some 34), none, .ids (.t 28) (.t 29) 1⟩,
 ⟨none, none, .st1 (.t 34) (.t 33)⟩])))
 (.reg [⟨(some 35), none, .o (.bin .add (.t 25) (.c (.i .i64 (1))))⟩,
 ⟨(some 25), none, .o (.mov (.t 35))⟩])))))))
 (.reg [⟨(some 36), none, .o (.mov (.t 7))⟩,
 ⟨(some 37), none, .o (.mov (.t 9))⟩,
 ⟨(some 38), none, .call 286 [(.t 36), (.t 37), (.c (.i .i64 (0)))]⟩])))))
 (.reg [⟨(some 39), none, .o (.bin .add (.t 17) (.c (.i .i64 (1))))⟩,
 ⟨(some 17), none, .o (.mov (.t 39))⟩])))))))
 (.seq (.reg [⟨(some 40), none, .o (.mov (.t 7))⟩,
 ⟨(some 41), none, .call 287 [(.t 40)]⟩])
 (.seq (.reg [⟨(some 42), none, .o (.mov (.t 7))⟩,
 ⟨(some 43), none, .call 288 [(.t 42)]⟩,
 ⟨(some 6), none, .o (.mov (.t 43))⟩])
 .ret)))))⟩
def qf_i_CentreOf : QF := ⟨1, 18, [.t 2, .t 3],
 (.seq (.reg [⟨(some 1), none, .o (.box (.t 0))⟩,
 ⟨(some 2), none, .o (.mov (.c .sn))⟩,
 ⟨(some 3), none, .o (.mov (.c (.i .i64 (0))))⟩])
 (.seq (.seq (.reg [⟨(some 6), none, .call 240 [(.t 1), (.c .sn)]⟩,
 ⟨(some 4), none, .o (.mov (.t 6))⟩])
 (.seq (.reg [⟨(some 7), none, .o (.mov (.t 4))⟩,
 ⟨(some 8), none, .o (.bin .neq (.t 7) (.c (.i .i64 (0))))⟩])
 (.cond (.t 8)
 (.seq (.reg [⟨(some 9), none, .o (.mov (.t 4))⟩,
 ⟨(some 2), none, .o (.mov (.c .sn))⟩,
 ⟨(some 3), none, .o (.mov (.t 9))⟩])
 .ret)
 .skip)))
 (.seq (.reg [⟨(some 10), none, .o (.add (.t 1) 1)⟩,
 ⟨(some 11), none, .ld1 (.t 10)⟩,
 ⟨(some 5), none, .o (.alo .i)⟩,
 ⟨none, none, .st1 (.t 5) (.t 11)⟩])
 (.seq (.drs [0, 0, 0, 6, 0, 31, 63, 127]
 [(1, true, ⟨(some 13), none, .ld1 (.t 5)⟩),
 (2, true, ⟨(some 14), none, .ld1 (.t 5)⟩),
 (3, false, ⟨(some 15), none, .o (.bin .mul (.t 13) (.t 14))⟩),
 (4, false, ⟨(some 16), none, .o (.mkf 440 [] [(.t 5), (.t 1)])⟩),
 (0, false, ⟨(some 12), none, .call 116 [(.t 1)]⟩),
 (5, true, ⟨(some 17), none, .call 265 [(.t 12), (.t 15), (.t 16)]⟩),
 (6, false, ⟨(some 2), none, .o (.mov (.t 17))⟩),
 (7, false, ⟨(some 3), none, .o (.mov (.c (.i .i64 (0))))⟩)])
 .ret))))⟩
def qf_i_FirstFault : QF := ⟨1, 12, [.t 2, .t 3],
 (.seq (.reg [⟨(some 1), none, .o (.box (.t 0))⟩,
 ⟨(some 2), none, .o (.mov (.c .sn))⟩,
 ⟨(some 3), none, .o (.mov (.c (.i .i64 (0))))⟩])
 (.seq (.seq (.reg [⟨(some 5), none, .call 81 [(.t 1)]⟩,
 ⟨(some 6), none, .o (.nt (.t 5))⟩])
 (.cond (.t 6)
 (.seq (.reg [⟨(some 2), none, .o (.mov (.c .sn))⟩,
 ⟨(some 3), none, .o (.mov (.c (.i .i64 (1))))⟩])
 .ret)
 .skip))
 (.seq (.reg [⟨(some 7), none, .call 105 [(.t 1)]⟩,
 ⟨(some 4), none, .o (.mov (.t 7))⟩])
 (.seq (.reg [⟨(some 8), none, .o (.mov (.t 4))⟩,
 ⟨(some 9), none, .o (.mov (.t 4))⟩,
 ⟨(some 10), none, .o (.eqn true (.t 9))⟩,
 ⟨(some 11), none, .calp 49 [(.t 10), (.c (.i .i64 (4)))]⟩,
 ⟨(some 2), none, .o (.mov (.t 8))⟩,
 ⟨(some 3), none, .o (.mov (.t 11))⟩])
 .ret))))⟩
def qf_i_IsCommutative : QF := ⟨1, 15, [.t 2, .t 3],
 (.seq (.reg [⟨(some 1), none, .o (.box (.t 0))⟩,
 ⟨(some 2), none, .o (.mov (.c (.b false)))⟩,
 ⟨(some 3), none, .o (.mov (.c (.i .i64 (0))))⟩])
 (.seq (.seq (.reg [⟨(some 5), none, .call 240 [(.t 1), (.c .sn)]⟩,
 ⟨(some 4), none, .o (.mov (.t 5))⟩])
 (.seq (.reg [⟨(some 6), none, .o (.mov (.t 4))⟩,
 ⟨(some 7), none, .o (.bin .neq (.t 6) (.c (.i .i64 (0))))⟩])
 (.cond (.t 7)
 (.seq (.reg [⟨(some 8), none, .o (.mov (.t 4))⟩,
 ⟨(some 2), none, .o (.mov (.c (.b false)))⟩,
 ⟨(some 3), none, .o (.mov (.t 8))⟩])
 .ret)
 .skip)))
 (.seq (.drs [0, 1, 3, 0, 8, 31, 63, 127]
 [(0, false, ⟨(some 9), none, .lda (.t 1) 2 522⟩),
 (1, false, ⟨(some 10), none, .calp 438 [(.t 9)]⟩),
 (2, false, ⟨(some 11), none, .fld (.t 10) 10 512⟩),
 (3, false, ⟨(some 12), none, .o (.add (.t 1) 10)⟩),
 (4, false, ⟨(some 13), none, .lda (.t 12) 0 512⟩),
 (5, false, ⟨(some 14), none, .o (.eqa false 512 (.t 11) (.t 13))⟩),
 (6, false, ⟨(some 2), none, .o (.mov (.t 14))⟩),
 (7, false, ⟨(some 3), none, .o (.mov (.c (.i .i64 (0))))⟩)])
 .ret)))⟩
def qf_i_OppositeAlgebra : QF := ⟨1, 12, [.c 2 2 522, .t 3],
 (.seq (.reg [⟨(some 1), none, .o (.box (.t 0))⟩,
 ⟨(some 2), none, .o (.alo (.by 2 522))⟩,
 ⟨(some 3), none, .o (.mov (.c (.i .i64 (0))))⟩])
 (.seq (.seq (.reg [⟨(some 5), none, .call 240 [(.t 1), (.c .sn)]⟩,
 ⟨(some 4), none, .o (.mov (.t 5))⟩])
 (.seq (.reg [⟨(some 6), none, .o (.mov (.t 4))⟩,
 ⟨(some 7), none, .o (.bin .neq (.t 6) (.c (.i .i64 (0))))⟩])
 (.cond (.t 7)
 (.seq (.reg [⟨(some 8), none, .o (.bld 2 522 [])⟩,
 ⟨(some 9), none, .o (.mov (.t 4))⟩,
 ⟨none, none, .sta (.t 2) (.t 8) 522⟩,
 ⟨(some 3), none, .o (.mov (.t 9))⟩])
 .ret)
 .skip)))
 (.seq (.reg [⟨(some 10), none, .lda (.t 1) 2 522⟩,
 ⟨(some 11), none, .calp 438 [(.t 10)]⟩,
 ⟨none, none, .sta (.t 2) (.t 11) 522⟩,
 ⟨(some 3), none, .o (.mov (.c (.i .i64 (0))))⟩])
 .ret)))⟩
def qf_i_ProductAlgebra : QF := ⟨2, 86, [.c 4 2 522, .t 5],
 (.seq (.reg [⟨(some 2), none, .o (.box (.t 0))⟩,
 ⟨(some 3), none, .o (.box (.t 1))⟩,
 ⟨(some 4), none, .o (.alo (.by 2 522))⟩,
 ⟨(some 5), none, .o (.mov (.c (.i .i64 (0))))⟩])
 (.seq (.drs [0, 1, 0, 4, 0, 16, 60, 127, 0, 256, 0, 1024, 3840, 7936, 16383, 32767, 65535, 131071]
 [(2, false, ⟨(some 14), none, .o (.add (.t 2) 0)⟩),
 (3, true, ⟨(some 15), none, .ld1 (.t 14)⟩),
 (4, false, ⟨(some 16), none, .o (.add (.t 3) 0)⟩),
 (5, true, ⟨(some 17), none, .ld1 (.t 16)⟩),
 (6, false, ⟨(some 18), none, .o (.bin .eql (.t 15) (.t 17))⟩),
 (8, false, ⟨(some 20), none, .o (.add (.t 2) 1)⟩),
 (9, true, ⟨(some 21), none, .ld1 (.t 20)⟩),
 (10, false, ⟨(some 22), none, .o (.add (.t 3) 1)⟩),
 (11, true, ⟨(some 23), none, .ld1 (.t 22)⟩),
 (12, false, ⟨(some 24), none, .o (.bin .add (.t 21) (.t 23))⟩),
 (13, false, ⟨(some 25), none, .o (.bin .leq (.t 24) (.c (.i .i64 (8))))⟩),
 (0, false, ⟨(some 12), none, .call 240 [(.t 2), (.c .sn)]⟩),
 (1, false, ⟨(some 13), none, .call 240 [(.t 3), (.c .sn)]⟩),
 (7, false, ⟨(some 19), none, .calp 49 [(.t 18), (.c (.i .i64 (2)))]⟩),
 (14, false, ⟨(some 26), none, .calp 49 [(.t 25), (.c (.i .i64 (3)))]⟩),
 (15, true, ⟨(some 27), none, .o (.bsa [(.t 12), (.t 13), (.t 19), (.t 26)])⟩),
 (16, true, ⟨(some 28), none, .call 139 [(.t 27)]⟩),
 (17, false, ⟨(some 6), none, .o (.mov (.t 28))⟩)])
 (.seq (.seq (.reg [⟨(some 29), none, .o (.mov (.t 6))⟩,
 ⟨(some 30), none, .o (.bin .neq (.t 29) (.c (.i .i64 (0))))⟩])
 (.cond (.t 30)
 (.seq (.reg [⟨(some 31), none, .o (.bld 2 522 [])⟩,
 ⟨(some 32), none, .o (.mov (.t 6))⟩,
 ⟨none, none, .sta (.t 4) (.t 31) 522⟩,
 ⟨(some 5), none, .o (.mov (.t 32))⟩])
 .ret)
 .skip))
 (.seq (.reg [⟨(some 33), none, .o (.add (.t 2) 1)⟩,
 ⟨(some 34), none, .ld1 (.t 33)⟩,
 ⟨(some 7), none, .o (.mov (.t 34))⟩])
 (.seq (.reg [⟨(some 35), none, .o (.add (.t 2) 0)⟩,
 ⟨(some 36), none, .ld1 (.t 35)⟩,
 ⟨(some 37), none, .o (.add (.t 2) 1)⟩,
 ⟨(some 38), none, .ld1 (.t 37)⟩,
 ⟨(some 39), none, .o (.add (.t 3) 1)⟩,
 ⟨(some 40), none, .ld1 (.t 39)⟩,
 ⟨(some 41), none, .o (.bin .add (.t 38) (.t 40))⟩,
 ⟨(some 42), none, .o (.add (.t 2) 10)⟩,
 ⟨(some 43), none, .lda (.t 42) 0 512⟩,
 ⟨(some 44), none, .o (.bld 2 522 [(0, 1, (.t 36)), (1, 1, (.t 41)), (10, 512, (.t 43))])⟩,
 ⟨(some 8), none, .o (.alo (.by 2 522))⟩,
 ⟨none, none, .sta (.t 8) (.t 44) 522⟩])
 (.seq (.reg [⟨(some 45), none, .call 116 [(.t 8)]⟩,
 ⟨(some 9), none, .o (.alo (.by 2 2))⟩,
 ⟨none, none, .sta (.t 9) (.t 45) 2⟩])
 (.seq (.reg [⟨(some 46), none, .o (.add (.t 2) 2)⟩,
 ⟨(some 47), none, .lda (.t 46) 0 8⟩,
 ⟨(some 48), none, .o (.add (.t 8) 2)⟩,
 ⟨none, none, .sta (.t 48) (.t 47) 8⟩])
 (.seq (.drs [0, 0, 0, 4, 0, 28, 63]
 [(0, false, ⟨(some 49), none, .lda (.t 9) 2 2⟩),
 (1, false, ⟨(some 50), none, .o (.add (.t 8) 2)⟩),
 (2, false, ⟨(some 51), none, .o (.add (.t 3) 2)⟩),
 (3, false, ⟨(some 52), none, .lda (.t 51) 0 8⟩),
 (4, false, ⟨(some 53), none, .o (.mov (.t 7))⟩),
 (5, false, ⟨(some 54), none, .calp 229 [(.t 52), (.t 53)]⟩),
 (6, false, ⟨(some 55), none, .call 71 [(.t 49), (.t 50), (.c (.i .i64 (1))), (.t 54)]⟩)])
 (.seq (.seq (.reg [⟨(some 56), none, .o (.add (.t 3) 1)⟩,
 ⟨(some 57), none, .ld1 (.t 56)⟩,
 ⟨(some 58), none, .o (.mov (.c (.i .i64 (0))))⟩])
 (.blk 0
 (.loop
 (.seq (.reg [⟨(some 59), none, .o (.bin .lss (.t 58) (.t 57))⟩])
 (.seq (.cond (.t 59)
 .skip
 (.exit 0))
 (.seq (.blk 1
 (.seq (.reg [⟨(some 60), none, .o (.mov (.t 58))⟩,
 ⟨(some 10), none, .o (.mov (.t 60))⟩])
 (.seq (.reg [⟨(some 61), none, .o (.add (.t 3) 1)⟩,
 ⟨(some 62), none, .ld1 (.t 61)⟩,
 ⟨(some 63), none, .o (.mov (.c (.i .i64 (0))))⟩])
 (.blk 2
 (.loop
 (.seq (.reg [⟨(some 64), none, .o (.bin .lss (.t 63) (.t 62))⟩])
 (.seq (.cond (.t 64)
 .skip
 (.exit 2))
 (.seq (.blk 3
 (.seq (.reg [⟨(some 65), none, .o (.mov (.t 63))⟩,
 ⟨(some 11), none, .o (.mov (.t 65))⟩])
 (.drs [0, 0, 3, 0, 0, 24, 0, 0, 0, 320, 960, 1984, 0, 8128, 0, 16391, 65535, 131071]
 [(0, false, ⟨(some 66), none, .o (.mov (.t 7))⟩),
 (1, false, ⟨(some 67), none, .o (.mov (.t 10))⟩),
 (2, false, ⟨(some 68), none, .o (.bin .add (.t 66) (.t 67))⟩),
 (3, false, ⟨(some 69), none, .o (.mov (.t 7))⟩),
 (4, false, ⟨(some 70), none, .o (.mov (.t 11))⟩),
 (5, false, ⟨(some 71), none, .o (.bin .add (.t 69) (.t 70))⟩),
 (6, false, ⟨(some 72), none, .o (.mov (.t 10))⟩),
 (7, false, ⟨(some 73), none, .o (.mov (.t 11))⟩),
 (8, false, ⟨(some 74), none, .o (.add (.t 3) 10)⟩),
 (9, false, ⟨(some 75), none, .o (.idx (.t 74) (.t 72) 8 64)⟩),
 (10, false, ⟨(some 76), none, .o (.idx (.t 75) (.t 73) 8 8)⟩),
 (11, false, ⟨(some 77), none, .lda (.t 76) 0 8⟩),
 (12, false, ⟨(some 78), none, .o (.mov (.t 7))⟩),
 (13, false, ⟨(some 79), none, .calp 229 [(.t 77), (.t 78)]⟩),
 (14, false, ⟨(some 80), none, .o (.add (.t 8) 10)⟩),
 (15, false, ⟨(some 81), none, .o (.idx (.t 80) (.t 68) 8 64)⟩),
 (16, false, ⟨(some 82), none, .o (.idx (.t 81) (.t 71) 8 8)⟩),
 (17, false, ⟨none, none, .sta (.t 82) (.t 79) 8⟩)])))
 (.reg [⟨(some 83), none, .o (.bin .add (.t 63) (.c (.i .i64 (1))))⟩,
 ⟨(some 63), none, .o (.mov (.t 83))⟩])))))))))
 (.reg [⟨(some 84), none, .o (.bin .add (.t 58) (.c (.i .i64 (1))))⟩,
 ⟨(some 58), none, .o (.mov (.t 84))⟩])))))))
 (.seq (.reg [⟨(some 85), none, .lda (.t 8) 2 522⟩,
 ⟨none, none, .sta (.t 4) (.t 85) 522⟩,
 ⟨(some 5), none, .o (.mov (.c (.i .i64 (0))))⟩])
 .ret))))))))))⟩
def qf_i_ReduceVectors_1 : QF := ⟨3, 10, [.t 4],
 (.seq (.reg [⟨(some 3), none, .o (.box (.t 0))⟩,
 ⟨(some 4), none, .o (.mov (.c (.b false)))⟩])
 (.seq (.reg [⟨(some 5), none, .ld1 (.t 1)⟩,
 ⟨(some 6), none, .ld1 (.t 2)⟩,
 ⟨(some 7), none, .lda (.t 3) 0 8⟩,
 ⟨(some 8), none, .calp 92 [(.t 5), (.t 6), (.t 7)]⟩,
 ⟨(some 9), none, .o (.nt (.t 8))⟩,
 ⟨(some 4), none, .o (.mov (.t 9))⟩])
 .ret))⟩
def qf_x_IndexFunc_V2 : QF := ⟨2, 19, [.t 4],
 (.seq (.reg [⟨(some 4), none, .o (.mov (.c (.i .i64 (0))))⟩])
 (.seq (.seq (.reg [⟨(some 6), none, .o (.mov (.t 0))⟩,
 ⟨(some 7), none, .len (.t 6)⟩,
 ⟨(some 8), none, .o (.mov (.c (.i .i64 (0))))⟩])
 (.blk 0
 (.loop
 (.seq (.reg [⟨(some 9), none, .o (.bin .lss (.t 8) (.t 7))⟩])
 (.seq (.cond (.t 9)
 .skip
 (.exit 0))
 (.seq (.blk 1
 (.seq (.reg [⟨(some 10), none, .o (.mov (.t 8))⟩,
 ⟨(some 5), none, .o (.mov (.t 10))⟩])
 (.seq (.reg [⟨(some 11), none, .o (.mov (.t 1))⟩,
 ⟨(some 12), none, .o (.mov (.t 0))⟩,
 ⟨(some 13), none, .o (.mov (.t 5))⟩,
 ⟨(some 14), none, .ids (.t 12) (.t 13) 8⟩,
 ⟨(some 15), none, .lda (.t 14) 0 8⟩,
 ⟨(some 16), none, .calv (.t 11) [(.t 15)]⟩])
 (.cond (.t 16)
 (.seq (.reg [⟨(some 17), none, .o (.mov (.t 5))⟩,
 ⟨(some 4), none, .o (.mov (.t 17))⟩])
 .ret)
 .skip))))
 (.reg [⟨(some 18), none, .o (.bin .add (.t 8) (.c (.i .i64 (1))))⟩,
 ⟨(some 8), none, .o (.mov (.t 18))⟩])))))))
 (.seq (.reg [⟨(some 4), none, .o (.mov (.c (.i .i64 (-1))))⟩])
 .ret)))⟩
def qf_x_ContainsFunc_V2 : QF := ⟨2, 9, [.t 4],
 (.seq (.reg [⟨(some 4), none, .o (.mov (.c (.b false)))⟩])
 (.seq (.reg [⟨(some 5), none, .o (.mov (.t 0))⟩,
 ⟨(some 6), none, .o (.mov (.t 1))⟩,
 ⟨(some 7), none, .call 91 [(.t 5), (.t 6)]⟩,
 ⟨(some 8), none, .o (.bin .geq (.t 7) (.c (.i .i64 (0))))⟩,
 ⟨(some 4), none, .o (.mov (.t 8))⟩])
 .ret))⟩
def qf_i_ReduceVectors : QF := ⟨3, 23, [.t 6, .t 7],
 (.seq (.reg [⟨(some 3), none, .o (.box (.t 0))⟩,
 ⟨(some 4), none, .o (.box (.t 1))⟩,
 ⟨(some 6), none, .o (.mov (.c .sn))⟩,
 ⟨(some 7), none, .o (.mov (.c (.i .i64 (0))))⟩])
 (.seq (.reg [⟨(some 9), none, .o (.mov (.t 2))⟩,
 ⟨(some 10), none, .o (.mkf 428 [] [(.t 3), (.t 4)])⟩,
 ⟨(some 11), none, .call 70 [(.t 9), (.t 10)]⟩,
 ⟨(some 8), none, .o (.mov (.t 11))⟩])
 (.seq (.seq (.reg [⟨(some 12), none, .ld1 (.t 3)⟩,
 ⟨(some 13), none, .ld1 (.t 4)⟩,
 ⟨(some 14), none, .o (.bld 0 8 [])⟩,
 ⟨(some 15), none, .calp 92 [(.t 12), (.t 13), (.t 14)]⟩,
 ⟨(some 16), none, .o (.nt (.t 15))⟩,
 ⟨(some 17), none, .o (.mov (.t 16))⟩,
 ⟨(some 18), (some (17, false)), .o (.mov (.t 8))⟩,
 ⟨(some 19), none, .o (.pick (.t 17) (.c (.b true)) (.t 18))⟩])
 (.cond (.t 19)
 (.seq (.reg [⟨(some 6), none, .o (.mov (.c .sn))⟩,
 ⟨(some 7), none, .o (.mov (.c (.i .i64 (1))))⟩])
 .ret)
 .skip))
 (.seq (.reg [⟨(some 20), none, .ld1 (.t 3)⟩,
 ⟨(some 21), none, .o (.mov (.t 2))⟩,
 ⟨(some 22), none, .call 267 [(.t 20), (.t 21)]⟩,
 ⟨(some 6), none, .o (.mov (.t 22))⟩,
 ⟨(some 7), none, .o (.mov (.c (.i .i64 (0))))⟩])
 .ret))))⟩
def qf_l_big : QF := ⟨1, 6, [.t 2],
 (.seq (.reg [⟨(some 2), none, .o (.mov (.c (.b false)))⟩])
 (.seq (.reg [⟨(some 3), none, .o (.mov (.t 0))⟩,
 ⟨(some 4), none, .len (.t 3)⟩,
 ⟨(some 5), none, .o (.bin .gtr (.t 4) (.c (.i .i64 (4096))))⟩,
 ⟨(some 2), none, .o (.mov (.t 5))⟩])
 .ret))⟩
def qf_s_l01From : QF := ⟨1, 38, [.t 2],
 (.seq (.reg [⟨(some 2), none, .o (.mov (.c .np))⟩])
 (.seq (.reg [⟨(some 5), none, .o (.mov (.t 0))⟩,
 ⟨(some 6), none, .o (.mov (.t 0))⟩,
 ⟨(some 7), none, .len (.t 6)⟩,
 ⟨(some 8), none, .cvu (.t 7)⟩,
 ⟨(some 9), none, .bnu .add (.c (.i .u64 (11071))) (.t 8)⟩,
 ⟨(some 10), none, .brc [.sn, .i .i64 0, .i .u64 0] [(0, 1, (.t 5)), (2, 1, (.t 9))]⟩,
 ⟨(some 11), none, .bxr (.t 10)⟩,
 ⟨(some 3), none, .o (.mov (.t 11))⟩])
 (.seq (.seq (.reg [⟨(some 4), none, .o (.mov (.c (.i .i64 (0))))⟩])
 (.blk 0
 (.loop
 (.seq (.seq (.reg [⟨(some 12), none, .o (.mov (.t 4))⟩,
 ⟨(some 13), none, .o (.mov (.t 0))⟩,
 ⟨(some 14), none, .len (.t 13)⟩,
 ⟨(some 15), none, .o (.bin .lss (.t 12) (.t 14))⟩,
 ⟨(some 16), none, .o (.mov (.t 15))⟩,
 ⟨(some 17), (some (16, true)), .o (.mov (.t 4))⟩,
 ⟨(some 18), (some (16, true)), .o (.bin .lss (.t 17) (.c (.i .i64 (4096))))⟩,
 ⟨(some 19), none, .o (.pick (.t 16) (.t 18) (.c (.b false)))⟩])
 (.cond (.t 19)
 .skip
 (.exit 0)))
 (.seq (.blk 1
 (.drs [0, 0, 2, 6, 14, 30, 0, 0, 192, 448, 960, 2046, 4094, 8191, 16383, 32767]
 [(0, false, ⟨(some 22), none, .o (.mov (.t 3))⟩),
 (1, false, ⟨(some 23), none, .o (.mov (.t 3))⟩),
 (2, false, ⟨(some 24), none, .o (.nck (.t 23))⟩),
 (3, false, ⟨(some 25), none, .o (.add (.t 24) 2)⟩),
 (4, false, ⟨(some 26), none, .ld1 (.t 25)⟩),
 (5, false, ⟨(some 27), none, .bnu .mul (.t 26) (.c (.i .u64 (1099511628211)))⟩),
 (6, false, ⟨(some 28), none, .o (.mov (.t 0))⟩),
 (7, false, ⟨(some 29), none, .o (.mov (.t 4))⟩),
 (8, false, ⟨(some 30), none, .ids (.t 28) (.t 29) 1⟩),
 (9, false, ⟨(some 31), none, .ld1 (.t 30)⟩),
 (10, false, ⟨(some 32), none, .cvu (.t 31)⟩),
 (11, false, ⟨(some 33), none, .bnu .add (.t 27) (.t 32)⟩),
 (12, false, ⟨(some 34), none, .bnu .add (.t 33) (.c (.i .u64 (47)))⟩),
 (13, false, ⟨(some 35), none, .o (.nck (.t 22))⟩),
 (14, false, ⟨(some 36), none, .o (.add (.t 35) 2)⟩),
 (15, false, ⟨none, none, .st1 (.t 36) (.t 34)⟩)]))
 (.reg [⟨(some 20), none, .o (.mov (.t 4))⟩,
 ⟨(some 21), none, .o (.bin .add (.t 20) (.c (.i .i64 (1))))⟩,
 ⟨(some 4), none, .o (.mov (.t 21))⟩]))))))
 (.seq (.reg [⟨(some 37), none, .o (.mov (.t 3))⟩,
 ⟨(some 2), none, .o (.mov (.t 37))⟩])
 .ret))))⟩
def qf_s_l01Next : QF := ⟨2, 58, [.t 4],
 (.seq (.reg [⟨(some 4), none, .o (.mov (.c (.i .i64 (0))))⟩])
 (.seq (.seq (.reg [⟨(some 6), none, .o (.mov (.t 1))⟩,
 ⟨(some 7), none, .o (.bin .lss (.t 6) (.c (.i .i64 (1))))⟩])
 (.cond (.t 7)
 (.seq (.reg [⟨(some 4), none, .o (.mov (.c (.i .i64 (0))))⟩])
 .ret)
 .skip))
 (.seq (.reg [⟨(some 8), none, .o (.mov (.t 0))⟩,
 ⟨(some 9), none, .o (.mov (.t 0))⟩,
 ⟨(some 10), none, .o (.nck (.t 9))⟩,
 ⟨(some 11), none, .o (.add (.t 10) 2)⟩,
 ⟨(some 12), none, .ld1 (.t 11)⟩,
 ⟨(some 13), none, .bnu .mul (.t 12) (.c (.i .u64 (6364136223846793005)))⟩,
 ⟨(some 14), none, .bnu .add (.t 13) (.c (.i .u64 (1442695040888963407)))⟩,
 ⟨(some 15), none, .o (.nck (.t 8))⟩,
 ⟨(some 16), none, .o (.add (.t 15) 2)⟩,
 ⟨none, none, .st1 (.t 16) (.t 14)⟩])
 (.seq (.reg [⟨(some 17), none, .o (.mov (.t 0))⟩,
 ⟨(some 18), none, .o (.nck (.t 17))⟩,
 ⟨(some 19), none, .o (.add (.t 18) 2)⟩,
 ⟨(some 20), none, .ld1 (.t 19)⟩,
 ⟨(some 21), none, .bnu .shr (.t 20) (.c (.i .u64 (33)))⟩,
 ⟨(some 22), none, .bnu .and (.t 21) (.c (.i .u64 (16777215)))⟩,
 ⟨(some 23), none, .o (.cvt .i64 (.t 22))⟩,
 ⟨(some 5), none, .o (.mov (.t 23))⟩])
 (.seq (.seq (.drs [0, 1, 3, 7, 0, 16, 48, 112, 240, 511]
 [(0, false, ⟨(some 24), none, .o (.mov (.t 0))⟩),
 (1, false, ⟨(some 25), none, .o (.nck (.t 24))⟩),
 (2, false, ⟨(some 26), none, .o (.add (.t 25) 1)⟩),
 (3, false, ⟨(some 27), none, .ld1 (.t 26)⟩),
 (4, false, ⟨(some 28), none, .o (.mov (.t 0))⟩),
 (5, false, ⟨(some 29), none, .o (.nck (.t 28))⟩),
 (6, false, ⟨(some 30), none, .o (.add (.t 29) 0)⟩),
 (7, false, ⟨(some 31), none, .ld1 (.t 30)⟩),
 (8, false, ⟨(some 32), none, .len (.t 31)⟩),
 (9, false, ⟨(some 33), none, .o (.bin .lss (.t 27) (.t 32))⟩)])
 (.cond (.t 33)
 (.seq (.drs [0, 0, 2, 6, 14, 0, 32, 96, 224, 510, 1022, 2046, 4095, 8191]
 [(0, false, ⟨(some 34), none, .o (.mov (.t 5))⟩),
 (1, false, ⟨(some 35), none, .o (.mov (.t 0))⟩),
 (2, false, ⟨(some 36), none, .o (.nck (.t 35))⟩),
 (3, false, ⟨(some 37), none, .o (.add (.t 36) 0)⟩),
 (4, false, ⟨(some 38), none, .ld1 (.t 37)⟩),
 (5, false, ⟨(some 39), none, .o (.mov (.t 0))⟩),
 (6, false, ⟨(some 40), none, .o (.nck (.t 39))⟩),
 (7, false, ⟨(some 41), none, .o (.add (.t 40) 1)⟩),
 (8, false, ⟨(some 42), none, .ld1 (.t 41)⟩),
 (9, false, ⟨(some 43), none, .ids (.t 38) (.t 42) 1⟩),
 (10, false, ⟨(some 44), none, .ld1 (.t 43)⟩),
 (11, false, ⟨(some 45), none, .o (.cvt .i64 (.t 44))⟩),
 (12, false, ⟨(some 46), none, .o (.bin .add (.t 34) (.t 45))⟩),
 (13, false, ⟨(some 5), none, .o (.mov (.t 46))⟩)])
 (.reg [⟨(some 47), none, .o (.mov (.t 0))⟩,
 ⟨(some 48), none, .o (.mov (.t 0))⟩,
 ⟨(some 49), none, .o (.nck (.t 48))⟩,
 ⟨(some 50), none, .o (.add (.t 49) 1)⟩,
 ⟨(some 51), none, .ld1 (.t 50)⟩,
 ⟨(some 52), none, .o (.bin .add (.t 51) (.c (.i .i64 (1))))⟩,
 ⟨(some 53), none, .o (.nck (.t 47))⟩,
 ⟨(some 54), none, .o (.add (.t 53) 1)⟩,
 ⟨none, none, .st1 (.t 54) (.t 52)⟩]))
 .skip))
 (.seq (.reg [⟨(some 55), none, .o (.mov (.t 5))⟩,
 ⟨(some 56), none, .o (.mov (.t 1))⟩,
 ⟨(some 57), none, .o (.bin .rem (.t 55) (.t 56))⟩,
 ⟨(some 4), none, .o (.mov (.t 57))⟩])
 .ret))))))⟩
def qf_s_l01Pick : QF := ⟨2, 12, [.t 4],
 (.seq (.reg [⟨(some 4), none, .o (.mov (.c (.i .i64 (0))))⟩])
 (.seq (.reg [⟨(some 5), none, .o (.mov (.t 1))⟩,
 ⟨(some 6), none, .o (.mov (.t 0))⟩,
 ⟨(some 7), none, .o (.mov (.t 1))⟩,
 ⟨(some 8), none, .len (.t 7)⟩,
 ⟨(some 9), none, .call 195 [(.t 6), (.t 8)]⟩,
 ⟨(some 10), none, .ids (.t 5) (.t 9) 1⟩,
 ⟨(some 11), none, .ld1 (.t 10)⟩,
 ⟨(some 4), none, .o (.mov (.t 11))⟩])
 .ret))⟩
def qf_s_l01DrawPrime : QF := ⟨1, 6, [.t 2],
 (.seq (.reg [⟨(some 2), none, .o (.mov (.c (.i .i64 (0))))⟩])
 (.seq (.reg [⟨(some 3), none, .o (.mov (.t 0))⟩,
 ⟨(some 4), none, .o (.bsa [(.c (.i .i64 (2))), (.c (.i .i64 (2))), (.c (.i .i64 (3))), (.c (.i .i64 (3))), (.c (.i .i64 (5))), (.c (.i .i64 (5))), (.c (.i .i64 (7))), (.c (.i .i64 (11))), (.c (.i .i64 (31)))])⟩,
 ⟨(some 5), none, .call 205 [(.t 3), (.t 4)]⟩,
 ⟨(some 2), none, .o (.mov (.t 5))⟩])
 .ret))⟩
def qf_s_l01Cyclic : QF := ⟨2, 35, [.c 4 2 522],
 (.seq (.reg [⟨(some 4), none, .o (.alo (.by 2 522))⟩])
 (.seq (.reg [⟨(some 8), none, .o (.mov (.t 0))⟩,
 ⟨(some 9), none, .o (.mov (.t 1))⟩,
 ⟨(some 10), none, .o (.bld 2 522 [(0, 1, (.t 8)), (1, 1, (.t 9))])⟩,
 ⟨(some 5), none, .o (.alo (.by 2 522))⟩,
 ⟨none, none, .sta (.t 5) (.t 10) 522⟩])
 (.seq (.reg [⟨(some 11), none, .o (.add (.t 5) 2)⟩,
 ⟨(some 12), none, .o (.idx (.t 11) (.c (.i .i64 (0))) 8 1)⟩,
 ⟨none, none, .st1 (.t 12) (.c (.u 1))⟩])
 (.seq (.seq (.reg [⟨(some 6), none, .o (.mov (.c (.i .i64 (0))))⟩])
 (.blk 0
 (.loop
 (.seq (.seq (.reg [⟨(some 13), none, .o (.mov (.t 6))⟩,
 ⟨(some 14), none, .o (.mov (.t 1))⟩,
 ⟨(some 15), none, .o (.bin .lss (.t 13) (.t 14))⟩])
 (.cond (.t 15)
 .skip
 (.exit 0)))
 (.seq (.blk 1
 (.seq (.reg [⟨(some 7), none, .o (.mov (.c (.i .i64 (0))))⟩])
 (.blk 2
 (.loop
 (.seq (.seq (.reg [⟨(some 18), none, .o (.mov (.t 7))⟩,
 ⟨(some 19), none, .o (.mov (.t 1))⟩,
 ⟨(some 20), none, .o (.bin .lss (.t 18) (.t 19))⟩])
 (.cond (.t 20)
 .skip
 (.exit 2)))
 (.seq (.blk 3
 (.drs [0, 0, 0, 0, 12, 0, 60, 0, 129, 387, 1023, 2047]
 [(0, false, ⟨(some 23), none, .o (.mov (.t 6))⟩),
 (1, false, ⟨(some 24), none, .o (.mov (.t 7))⟩),
 (2, false, ⟨(some 25), none, .o (.mov (.t 6))⟩),
 (3, false, ⟨(some 26), none, .o (.mov (.t 7))⟩),
 (4, false, ⟨(some 27), none, .o (.bin .add (.t 25) (.t 26))⟩),
 (5, false, ⟨(some 28), none, .o (.mov (.t 1))⟩),
 (6, false, ⟨(some 29), none, .o (.bin .rem (.t 27) (.t 28))⟩),
 (7, false, ⟨(some 30), none, .o (.add (.t 5) 10)⟩),
 (8, false, ⟨(some 31), none, .o (.idx (.t 30) (.t 23) 8 64)⟩),
 (9, false, ⟨(some 32), none, .o (.idx (.t 31) (.t 24) 8 8)⟩),
 (10, false, ⟨(some 33), none, .o (.idx (.t 32) (.t 29) 8 1)⟩),
 (11, false, ⟨none, none, .st1 (.t 33) (.c (.u 1))⟩)]))
 (.reg [⟨(some 21), none, .o (.mov (.t 7))⟩,
 ⟨(some 22), none, .o (.bin .add (.t 21) (.c (.i .i64 (1))))⟩,
 ⟨(some 7), none, .o (.mov (.t 22))⟩])))))))
 (.reg [⟨(some 16), none, .o (.mov (.t 6))⟩,
 ⟨(some 17), none, .o (.bin .add (.t 16) (.c (.i .i64 (1))))⟩,
 ⟨(some 6), none, .o (.mov (.t 17))⟩]))))))
 (.seq (.reg [⟨(some 34), none, .lda (.t 5) 2 522⟩,
 ⟨none, none, .sta (.t 4) (.t 34) 522⟩])
 .ret)))))⟩
def qf_s_l01Powers : QF := ⟨4, 55, [.c 8 2 522],
 (.seq (.reg [⟨(some 8), none, .o (.alo (.by 2 522))⟩])
 (.seq (.reg [⟨(some 14), none, .o (.mov (.t 0))⟩,
 ⟨(some 15), none, .o (.mov (.t 1))⟩,
 ⟨(some 16), none, .o (.bld 2 522 [(0, 1, (.t 14)), (1, 1, (.t 15))])⟩,
 ⟨(some 9), none, .o (.alo (.by 2 522))⟩,
 ⟨none, none, .sta (.t 9) (.t 16) 522⟩])
 (.seq (.reg [⟨(some 17), none, .o (.add (.t 9) 2)⟩,
 ⟨(some 18), none, .o (.idx (.t 17) (.c (.i .i64 (0))) 8 1)⟩,
 ⟨none, none, .st1 (.t 18) (.c (.u 1))⟩])
 (.seq (.seq (.reg [⟨(some 10), none, .o (.mov (.c (.i .i64 (0))))⟩])
 (.blk 0
 (.loop
 (.seq (.seq (.reg [⟨(some 19), none, .o (.mov (.t 10))⟩,
 ⟨(some 20), none, .o (.mov (.t 1))⟩,
 ⟨(some 21), none, .o (.bin .lss (.t 19) (.t 20))⟩])
 (.cond (.t 21)
 .skip
 (.exit 0)))
 (.seq (.blk 1
 (.seq (.reg [⟨(some 11), none, .o (.mov (.c (.i .i64 (0))))⟩])
 (.blk 2
 (.loop
 (.seq (.seq (.reg [⟨(some 24), none, .o (.mov (.t 11))⟩,
 ⟨(some 25), none, .o (.mov (.t 1))⟩,
 ⟨(some 26), none, .o (.bin .lss (.t 24) (.t 25))⟩])
 (.cond (.t 26)
 .skip
 (.exit 2)))
 (.seq (.blk 3
 (.seq (.reg [⟨(some 29), none, .o (.mov (.t 10))⟩,
 ⟨(some 30), none, .o (.mov (.t 11))⟩,
 ⟨(some 31), none, .o (.bin .add (.t 29) (.t 30))⟩,
 ⟨(some 12), none, .o (.mov (.t 31))⟩,
 ⟨(some 13), none, .o (.mov (.c (.i .i64 (1))))⟩])
 (.seq (.blk 4
 (.loop
 (.seq (.seq (.reg [⟨(some 32), none, .o (.mov (.t 12))⟩,
 ⟨(some 33), none, .o (.mov (.t 1))⟩,
 ⟨(some 34), none, .o (.bin .geq (.t 32) (.t 33))⟩])
 (.cond (.t 34)
 .skip
 (.exit 4)))
 (.blk 5
 (.seq (.reg [⟨(some 35), none, .o (.mov (.t 12))⟩,
 ⟨(some 36), none, .o (.mov (.t 1))⟩,
 ⟨(some 37), none, .o (.bin .sub (.t 35) (.t 36))⟩,
 ⟨(some 38), none, .o (.mov (.t 3))⟩,
 ⟨(some 39), none, .o (.bin .add (.t 37) (.t 38))⟩,
 ⟨(some 12), none, .o (.mov (.t 39))⟩])
 (.reg [⟨(some 40), none, .o (.mov (.t 13))⟩,
 ⟨(some 41), none, .o (.mov (.t 2))⟩,
 ⟨(some 42), none, .o (.bin .mul (.t 40) (.t 41))⟩,
 ⟨(some 43), none, .o (.mov (.t 0))⟩,
 ⟨(some 44), none, .o (.bin .rem (.t 42) (.t 43))⟩,
 ⟨(some 13), none, .o (.mov (.t 44))⟩]))))))
 (.reg [⟨(some 45), none, .o (.mov (.t 10))⟩,
 ⟨(some 46), none, .o (.mov (.t 11))⟩,
 ⟨(some 47), none, .o (.mov (.t 12))⟩,
 ⟨(some 48), none, .o (.mov (.t 13))⟩,
 ⟨(some 49), none, .o (.cvt .u8 (.t 48))⟩,
 ⟨(some 50), none, .o (.add (.t 9) 10)⟩,
 ⟨(some 51), none, .o (.idx (.t 50) (.t 45) 8 64)⟩,
 ⟨(some 52), none, .o (.idx (.t 51) (.t 46) 8 8)⟩,
 ⟨(some 53), none, .o (.idx (.t 52) (.t 47) 8 1)⟩,
 ⟨none, none, .st1 (.t 53) (.t 49)⟩]))))
 (.reg [⟨(some 27), none, .o (.mov (.t 11))⟩,
 ⟨(some 28), none, .o (.bin .add (.t 27) (.c (.i .i64 (1))))⟩,
 ⟨(some 11), none, .o (.mov (.t 28))⟩])))))))
 (.reg [⟨(some 22), none, .o (.mov (.t 10))⟩,
 ⟨(some 23), none, .o (.bin .add (.t 22) (.c (.i .i64 (1))))⟩,
 ⟨(some 10), none, .o (.mov (.t 23))⟩]))))))
 (.seq (.reg [⟨(some 54), none, .lda (.t 9) 2 522⟩,
 ⟨none, none, .sta (.t 8) (.t 54) 522⟩])
 .ret)))))⟩
def qf_s_l01Matrices : QF := ⟨1, 42, [.c 2 2 522],
 (.seq (.reg [⟨(some 2), none, .o (.alo (.by 2 522))⟩])
 (.seq (.reg [⟨(some 7), none, .o (.mov (.t 0))⟩,
 ⟨(some 8), none, .o (.bld 2 522 [(0, 1, (.t 7)), (1, 1, (.c (.i .i64 (4))))])⟩,
 ⟨(some 3), none, .o (.alo (.by 2 522))⟩,
 ⟨none, none, .sta (.t 3) (.t 8) 522⟩])
 (.seq (.reg [⟨(some 9), none, .o (.add (.t 3) 2)⟩,
 ⟨(some 10), none, .o (.idx (.t 9) (.c (.i .i64 (0))) 8 1)⟩,
 ⟨none, none, .st1 (.t 10) (.c (.u 1))⟩])
 (.seq (.reg [⟨(some 11), none, .o (.add (.t 3) 2)⟩,
 ⟨(some 12), none, .o (.idx (.t 11) (.c (.i .i64 (3))) 8 1)⟩,
 ⟨none, none, .st1 (.t 12) (.c (.u 1))⟩])
 (.seq (.seq (.reg [⟨(some 4), none, .o (.mov (.c (.i .i64 (0))))⟩])
 (.blk 0
 (.loop
 (.seq (.seq (.reg [⟨(some 13), none, .o (.mov (.t 4))⟩,
 ⟨(some 14), none, .o (.bin .lss (.t 13) (.c (.i .i64 (2))))⟩])
 (.cond (.t 14)
 .skip
 (.exit 0)))
 (.seq (.blk 1
 (.seq (.reg [⟨(some 5), none, .o (.mov (.c (.i .i64 (0))))⟩])
 (.blk 2
 (.loop
 (.seq (.seq (.reg [⟨(some 17), none, .o (.mov (.t 5))⟩,
 ⟨(some 18), none, .o (.bin .lss (.t 17) (.c (.i .i64 (2))))⟩])
 (.cond (.t 18)
 .skip
 (.exit 2)))
 (.seq (.blk 3
 (.seq (.reg [⟨(some 6), none, .o (.mov (.c (.i .i64 (0))))⟩])
 (.blk 4
 (.loop
 (.seq (.seq (.reg [⟨(some 21), none, .o (.mov (.t 6))⟩,
 ⟨(some 22), none, .o (.bin .lss (.t 21) (.c (.i .i64 (2))))⟩])
 (.cond (.t 22)
 .skip
 (.exit 4)))
 (.seq (.blk 5
 (.reg [⟨(some 25), none, .o (.mov (.t 4))⟩,
 ⟨(some 26), none, .o (.bin .mul (.c (.i .i64 (2))) (.t 25))⟩,
 ⟨(some 27), none, .o (.mov (.t 5))⟩,
 ⟨(some 28), none, .o (.bin .add (.t 26) (.t 27))⟩,
 ⟨(some 29), none, .o (.mov (.t 5))⟩,
 ⟨(some 30), none, .o (.bin .mul (.c (.i .i64 (2))) (.t 29))⟩,
 ⟨(some 31), none, .o (.mov (.t 6))⟩,
 ⟨(some 32), none, .o (.bin .add (.t 30) (.t 31))⟩,
 ⟨(some 33), none, .o (.mov (.t 4))⟩,
 ⟨(some 34), none, .o (.bin .mul (.c (.i .i64 (2))) (.t 33))⟩,
 ⟨(some 35), none, .o (.mov (.t 6))⟩,
 ⟨(some 36), none, .o (.bin .add (.t 34) (.t 35))⟩,
 ⟨(some 37), none, .o (.add (.t 3) 10)⟩,
 ⟨(some 38), none, .o (.idx (.t 37) (.t 28) 8 64)⟩,
 ⟨(some 39), none, .o (.idx (.t 38) (.t 32) 8 8)⟩,
 ⟨(some 40), none, .o (.idx (.t 39) (.t 36) 8 1)⟩,
 ⟨none, none, .st1 (.t 40) (.c (.u 1))⟩]))
 (.reg [⟨(some 23), none, .o (.mov (.t 6))⟩,
 ⟨(some 24), none, .o (.bin .add (.t 23) (.c (.i .i64 (1))))⟩,
 ⟨(some 6), none, .o (.mov (.t 24))⟩])))))))
 (.reg [⟨(some 19), none, .o (.mov (.t 5))⟩,
 ⟨(some 20), none, .o (.bin .add (.t 19) (.c (.i .i64 (1))))⟩,
 ⟨(some 5), none, .o (.mov (.t 20))⟩])))))))
 (.reg [⟨(some 15), none, .o (.mov (.t 4))⟩,
 ⟨(some 16), none, .o (.bin .add (.t 15) (.c (.i .i64 (1))))⟩,
 ⟨(some 4), none, .o (.mov (.t 16))⟩]))))))
 (.seq (.reg [⟨(some 41), none, .lda (.t 3) 2 522⟩,
 ⟨none, none, .sta (.t 2) (.t 41) 522⟩])
 .ret))))))⟩
def qf_s_ProductAlgebra : QF := ⟨2, 91, [.c 4 2 522, .t 5],
 (.seq (.reg [⟨(some 2), none, .o (.box (.t 0))⟩,
 ⟨(some 3), none, .o (.box (.t 1))⟩,
 ⟨(some 4), none, .o (.alo (.by 2 522))⟩,
 ⟨(some 5), none, .o (.mov (.c (.i .i64 (0))))⟩])
 (.seq (.blk 0
 (.seq (.reg [⟨(some 11), none, .lda (.t 2) 2 522⟩,
 ⟨(some 12), none, .calp 76 [(.t 11)]⟩,
 ⟨(some 13), none, .o (.nt (.t 12))⟩,
 ⟨(some 14), none, .o (.mov (.t 13))⟩,
 ⟨(some 15), (some (14, false)), .lda (.t 3) 2 522⟩,
 ⟨(some 16), (some (14, false)), .calp 76 [(.t 15)]⟩,
 ⟨(some 17), (some (14, false)), .o (.nt (.t 16))⟩,
 ⟨(some 18), none, .o (.pick (.t 14) (.c (.b true)) (.t 17))⟩,
 ⟨(some 10), none, .o (.mov (.t 18))⟩])
 (.cond (.t 10)
 (.seq (.reg [⟨(some 19), none, .o (.bld 2 522 [])⟩,
 ⟨none, none, .sta (.t 4) (.t 19) 522⟩,
 ⟨(some 5), none, .o (.mov (.c (.i .i64 (1))))⟩])
 .ret)
 (.seq (.reg [⟨(some 21), none, .o (.add (.t 2) 0)⟩,
 ⟨(some 22), none, .ld1 (.t 21)⟩,
 ⟨(some 23), none, .o (.add (.t 3) 0)⟩,
 ⟨(some 24), none, .ld1 (.t 23)⟩,
 ⟨(some 25), none, .o (.bin .neq (.t 22) (.t 24))⟩,
 ⟨(some 20), none, .o (.mov (.t 25))⟩])
 (.cond (.t 20)
 (.seq (.reg [⟨(some 26), none, .o (.bld 2 522 [])⟩,
 ⟨none, none, .sta (.t 4) (.t 26) 522⟩,
 ⟨(some 5), none, .o (.mov (.c (.i .i64 (2))))⟩])
 .ret)
 (.seq (.reg [⟨(some 28), none, .o (.add (.t 2) 1)⟩,
 ⟨(some 29), none, .ld1 (.t 28)⟩,
 ⟨(some 30), none, .o (.add (.t 3) 1)⟩,
 ⟨(some 31), none, .ld1 (.t 30)⟩,
 ⟨(some 32), none, .o (.bin .add (.t 29) (.t 31))⟩,
 ⟨(some 33), none, .o (.bin .gtr (.t 32) (.c (.i .i64 (8))))⟩,
 ⟨(some 27), none, .o (.mov (.t 33))⟩])
 (.cond (.t 27)
 (.seq (.reg [⟨(some 34), none, .o (.bld 2 522 [])⟩,
 ⟨none, none, .sta (.t 4) (.t 34) 522⟩,
 ⟨(some 5), none, .o (.mov (.c (.i .i64 (3))))⟩])
 .ret)
 .skip)))))))
 (.seq (.reg [⟨(some 35), none, .o (.add (.t 2) 1)⟩,
 ⟨(some 36), none, .ld1 (.t 35)⟩,
 ⟨(some 6), none, .o (.mov (.t 36))⟩])
 (.seq (.seq (.reg [⟨(some 7), none, .o (.mov (.c (.i .i64 (0))))⟩])
 (.blk 1
 (.loop
 (.seq (.seq (.reg [⟨(some 37), none, .o (.mov (.t 7))⟩,
 ⟨(some 38), none, .o (.add (.t 3) 1)⟩,
 ⟨(some 39), none, .ld1 (.t 38)⟩,
 ⟨(some 40), none, .o (.bin .lss (.t 37) (.t 39))⟩])
 (.cond (.t 40)
 .skip
 (.exit 1)))
 (.seq (.blk 2
 (.seq (.reg [⟨(some 43), none, .o (.mov (.t 6))⟩,
 ⟨(some 44), none, .o (.mov (.t 7))⟩,
 ⟨(some 45), none, .o (.bin .add (.t 43) (.t 44))⟩,
 ⟨(some 46), none, .o (.mov (.t 7))⟩,
 ⟨(some 47), none, .o (.add (.t 3) 2)⟩,
 ⟨(some 48), none, .o (.idx (.t 47) (.t 46) 8 1)⟩,
 ⟨(some 49), none, .ld1 (.t 48)⟩,
 ⟨(some 50), none, .o (.add (.t 2) 2)⟩,
 ⟨(some 51), none, .o (.idx (.t 50) (.t 45) 8 1)⟩,
 ⟨none, none, .st1 (.t 51) (.t 49)⟩])
 (.seq (.reg [⟨(some 8), none, .o (.mov (.c (.i .i64 (0))))⟩])
 (.blk 3
 (.loop
 (.seq (.seq (.reg [⟨(some 52), none, .o (.mov (.t 8))⟩,
 ⟨(some 53), none, .o (.add (.t 3) 1)⟩,
 ⟨(some 54), none, .ld1 (.t 53)⟩,
 ⟨(some 55), none, .o (.bin .lss (.t 52) (.t 54))⟩])
 (.cond (.t 55)
 .skip
 (.exit 3)))
 (.seq (.blk 4
 (.seq (.reg [⟨(some 9), none, .o (.mov (.c (.i .i64 (0))))⟩])
 (.blk 5
 (.loop
 (.seq (.seq (.reg [⟨(some 58), none, .o (.mov (.t 9))⟩,
 ⟨(some 59), none, .o (.add (.t 3) 1)⟩,
 ⟨(some 60), none, .ld1 (.t 59)⟩,
 ⟨(some 61), none, .o (.bin .lss (.t 58) (.t 60))⟩])
 (.cond (.t 61)
 .skip
 (.exit 5)))
 (.seq (.blk 6
 (.drs [0, 0, 3, 0, 0, 24, 0, 0, 192, 0, 0, 0, 0, 4608, 13824, 32256, 65024, 0, 131079, 393279, 1048575, 2097151]
 [(0, false, ⟨(some 64), none, .o (.mov (.t 6))⟩),
 (1, false, ⟨(some 65), none, .o (.mov (.t 7))⟩),
 (2, false, ⟨(some 66), none, .o (.bin .add (.t 64) (.t 65))⟩),
 (3, false, ⟨(some 67), none, .o (.mov (.t 6))⟩),
 (4, false, ⟨(some 68), none, .o (.mov (.t 8))⟩),
 (5, false, ⟨(some 69), none, .o (.bin .add (.t 67) (.t 68))⟩),
 (6, false, ⟨(some 70), none, .o (.mov (.t 6))⟩),
 (7, false, ⟨(some 71), none, .o (.mov (.t 9))⟩),
 (8, false, ⟨(some 72), none, .o (.bin .add (.t 70) (.t 71))⟩),
 (9, false, ⟨(some 73), none, .o (.mov (.t 7))⟩),
 (10, false, ⟨(some 74), none, .o (.mov (.t 8))⟩),
 (11, false, ⟨(some 75), none, .o (.mov (.t 9))⟩),
 (12, false, ⟨(some 76), none, .o (.add (.t 3) 10)⟩),
 (13, false, ⟨(some 77), none, .o (.idx (.t 76) (.t 73) 8 64)⟩),
 (14, false, ⟨(some 78), none, .o (.idx (.t 77) (.t 74) 8 8)⟩),
 (15, false, ⟨(some 79), none, .o (.idx (.t 78) (.t 75) 8 1)⟩),
 (16, false, ⟨(some 80), none, .ld1 (.t 79)⟩),
 (17, false, ⟨(some 81), none, .o (.add (.t 2) 10)⟩),
 (18, false, ⟨(some 82), none, .o (.idx (.t 81) (.t 66) 8 64)⟩),
 (19, false, ⟨(some 83), none, .o (.idx (.t 82) (.t 69) 8 8)⟩),
 (20, false, ⟨(some 84), none, .o (.idx (.t 83) (.t 72) 8 1)⟩),
 (21, false, ⟨none, none, .st1 (.t 84) (.t 80)⟩)]))
 (.reg [⟨(some 62), none, .o (.mov (.t 9))⟩,
 ⟨(some 63), none, .o (.bin .add (.t 62) (.c (.i .i64 (1))))⟩,
 ⟨(some 9), none, .o (.mov (.t 63))⟩])))))))
 (.reg [⟨(some 56), none, .o (.mov (.t 8))⟩,
 ⟨(some 57), none, .o (.bin .add (.t 56) (.c (.i .i64 (1))))⟩,
 ⟨(some 8), none, .o (.mov (.t 57))⟩]))))))))
 (.reg [⟨(some 41), none, .o (.mov (.t 7))⟩,
 ⟨(some 42), none, .o (.bin .add (.t 41) (.c (.i .i64 (1))))⟩,
 ⟨(some 7), none, .o (.mov (.t 42))⟩]))))))
 (.seq (.reg [⟨(some 85), none, .o (.mov (.t 6))⟩,
 ⟨(some 86), none, .o (.add (.t 3) 1)⟩,
 ⟨(some 87), none, .ld1 (.t 86)⟩,
 ⟨(some 88), none, .o (.bin .add (.t 85) (.t 87))⟩,
 ⟨(some 89), none, .o (.add (.t 2) 1)⟩,
 ⟨none, none, .st1 (.t 89) (.t 88)⟩])
 (.seq (.reg [⟨(some 90), none, .lda (.t 2) 2 522⟩,
 ⟨none, none, .sta (.t 4) (.t 90) 522⟩,
 ⟨(some 5), none, .o (.mov (.c (.i .i64 (0))))⟩])
 .ret))))))⟩
def qf_s_l01Draw : QF := ⟨1, 81, [.c 2 2 522],
 (.seq (.reg [⟨(some 2), none, .o (.alo (.by 2 522))⟩])
 (.seq (.reg [⟨(some 9), none, .o (.mov (.t 0))⟩,
 ⟨(some 10), none, .call 206 [(.t 9)]⟩,
 ⟨(some 3), none, .o (.mov (.t 10))⟩])
 (.seq (.seq (.reg [⟨(some 11), none, .o (.mov (.t 0))⟩,
 ⟨(some 12), none, .call 195 [(.t 11), (.c (.i .i64 (6)))]⟩])
 (.blk 0
 (.seq (.reg [⟨(some 14), none, .o (.bin .eql (.t 12) (.c (.i .i64 (0))))⟩,
 ⟨(some 13), none, .o (.mov (.t 14))⟩])
 (.cond (.t 13)
 (.seq (.reg [⟨(some 15), none, .o (.mov (.t 3))⟩,
 ⟨(some 16), none, .o (.mov (.t 0))⟩,
 ⟨(some 17), none, .call 195 [(.t 16), (.c (.i .i64 (8)))]⟩,
 ⟨(some 18), none, .o (.bin .add (.c (.i .i64 (1))) (.t 17))⟩,
 ⟨(some 19), none, .call 196 [(.t 15), (.t 18)]⟩,
 ⟨none, none, .sta (.t 2) (.t 19) 522⟩])
 .ret)
 (.seq (.reg [⟨(some 21), none, .o (.bin .eql (.t 12) (.c (.i .i64 (1))))⟩,
 ⟨(some 20), none, .o (.mov (.t 21))⟩])
 (.cond (.t 20)
 (.seq (.reg [⟨(some 22), none, .o (.mov (.t 0))⟩,
 ⟨(some 23), none, .call 195 [(.t 22), (.c (.i .i64 (6)))]⟩,
 ⟨(some 24), none, .o (.bin .add (.c (.i .i64 (1))) (.t 23))⟩,
 ⟨(some 4), none, .o (.mov (.t 24))⟩])
 (.seq (.reg [⟨(some 25), none, .o (.mov (.t 3))⟩,
 ⟨(some 26), none, .o (.mov (.t 4))⟩,
 ⟨(some 27), none, .o (.mov (.t 0))⟩,
 ⟨(some 28), none, .o (.mov (.t 3))⟩,
 ⟨(some 29), none, .call 195 [(.t 27), (.t 28)]⟩,
 ⟨(some 30), none, .o (.mov (.t 0))⟩,
 ⟨(some 31), none, .o (.mov (.t 4))⟩,
 ⟨(some 32), none, .call 195 [(.t 30), (.t 31)]⟩,
 ⟨(some 33), none, .call 208 [(.t 25), (.t 26), (.t 29), (.t 32)]⟩,
 ⟨none, none, .sta (.t 2) (.t 33) 522⟩])
 .ret))
 (.seq (.reg [⟨(some 35), none, .o (.bin .eql (.t 12) (.c (.i .i64 (2))))⟩,
 ⟨(some 34), none, .o (.mov (.t 35))⟩])
 (.cond (.t 34)
 (.seq (.reg [⟨(some 36), none, .o (.mov (.t 3))⟩,
 ⟨(some 37), none, .call 197 [(.t 36)]⟩,
 ⟨none, none, .sta (.t 2) (.t 37) 522⟩])
 .ret)
 (.seq (.reg [⟨(some 39), none, .o (.bin .eql (.t 12) (.c (.i .i64 (3))))⟩,
 ⟨(some 38), none, .o (.mov (.t 39))⟩])
 (.cond (.t 38)
 (.seq (.reg [⟨(some 41), none, .o (.mov (.t 3))⟩,
 ⟨(some 42), none, .o (.mov (.t 0))⟩,
 ⟨(some 43), none, .call 195 [(.t 42), (.c (.i .i64 (3)))]⟩,
 ⟨(some 44), none, .o (.bin .add (.c (.i .i64 (1))) (.t 43))⟩,
 ⟨(some 45), none, .call 196 [(.t 41), (.t 44)]⟩,
 ⟨(some 46), none, .o (.mov (.t 3))⟩,
 ⟨(some 47), none, .call 197 [(.t 46)]⟩,
 ⟨(some 48), none, .calp 209 [(.t 45), (.t 47)]⟩,
 ⟨(some 40), none, .o (.mov (.t 48))⟩,
 ⟨(some 49), none, .o (.ext (.t 40) 0)⟩,
 ⟨(some 50), none, .o (.ext (.t 40) 1)⟩,
 ⟨(some 5), none, .o (.alo (.by 2 522))⟩,
 ⟨none, none, .sta (.t 5) (.t 49) 522⟩,
 ⟨(some 6), none, .o (.mov (.t 50))⟩])
 (.seq (.reg [⟨(some 51), none, .o (.mov (.t 6))⟩,
 ⟨(some 52), none, .o (.bin .eql (.t 51) (.c (.i .i64 (0))))⟩])
 (.cond (.t 52)
 (.seq (.reg [⟨(some 53), none, .lda (.t 5) 2 522⟩,
 ⟨none, none, .sta (.t 2) (.t 53) 522⟩])
 .ret)
 .skip)))
 (.seq (.reg [⟨(some 55), none, .o (.bin .eql (.t 12) (.c (.i .i64 (4))))⟩,
 ⟨(some 54), none, .o (.mov (.t 55))⟩])
 (.cond (.t 54)
 (.seq (.reg [⟨(some 57), none, .o (.mov (.t 3))⟩,
 ⟨(some 58), none, .o (.mov (.t 0))⟩,
 ⟨(some 59), none, .call 195 [(.t 58), (.c (.i .i64 (3)))]⟩,
 ⟨(some 60), none, .o (.bin .add (.c (.i .i64 (1))) (.t 59))⟩,
 ⟨(some 61), none, .call 208 [(.t 57), (.t 60), (.c (.i .i64 (0))), (.c (.i .i64 (0)))]⟩,
 ⟨(some 62), none, .o (.mov (.t 3))⟩,
 ⟨(some 63), none, .o (.mov (.t 0))⟩,
 ⟨(some 64), none, .call 195 [(.t 63), (.c (.i .i64 (4)))]⟩,
 ⟨(some 65), none, .o (.bin .add (.c (.i .i64 (1))) (.t 64))⟩,
 ⟨(some 66), none, .o (.mov (.t 0))⟩,
 ⟨(some 67), none, .o (.mov (.t 3))⟩,
 ⟨(some 68), none, .call 195 [(.t 66), (.t 67)]⟩,
 ⟨(some 69), none, .call 208 [(.t 62), (.t 65), (.t 68), (.c (.i .i64 (0)))]⟩,
 ⟨(some 70), none, .calp 209 [(.t 61), (.t 69)]⟩,
 ⟨(some 56), none, .o (.mov (.t 70))⟩,
 ⟨(some 71), none, .o (.ext (.t 56) 0)⟩,
 ⟨(some 72), none, .o (.ext (.t 56) 1)⟩,
 ⟨(some 7), none, .o (.alo (.by 2 522))⟩,
 ⟨none, none, .sta (.t 7) (.t 71) 522⟩,
 ⟨(some 8), none, .o (.mov (.t 72))⟩])
 (.seq (.reg [⟨(some 73), none, .o (.mov (.t 8))⟩,
 ⟨(some 74), none, .o (.bin .eql (.t 73) (.c (.i .i64 (0))))⟩])
 (.cond (.t 74)
 (.seq (.reg [⟨(some 75), none, .lda (.t 7) 2 522⟩,
 ⟨none, none, .sta (.t 2) (.t 75) 522⟩])
 .ret)
 .skip)))
 .skip))))))))))))
 (.seq (.reg [⟨(some 76), none, .o (.mov (.t 3))⟩,
 ⟨(some 77), none, .o (.mov (.t 0))⟩,
 ⟨(some 78), none, .call 195 [(.t 77), (.c (.i .i64 (3)))]⟩,
 ⟨(some 79), none, .o (.bin .add (.c (.i .i64 (1))) (.t 78))⟩,
 ⟨(some 80), none, .call 208 [(.t 76), (.t 79), (.c (.i .i64 (0))), (.c (.i .i64 (0)))]⟩,
 ⟨none, none, .sta (.t 2) (.t 80) 522⟩])
 .ret))))⟩
def qf_s_l01Bad : QF := ⟨2, 47, [.c 4 2 522],
 (.seq (.reg [⟨(some 3), none, .o (.box (.t 1))⟩,
 ⟨(some 4), none, .o (.alo (.by 2 522))⟩])
 (.seq (.seq (.reg [⟨(some 5), none, .o (.mov (.t 0))⟩,
 ⟨(some 6), none, .call 195 [(.t 5), (.c (.i .i64 (40)))]⟩])
 (.blk 0
 (.seq (.reg [⟨(some 8), none, .o (.bin .eql (.t 6) (.c (.i .i64 (0))))⟩,
 ⟨(some 7), none, .o (.mov (.t 8))⟩])
 (.cond (.t 7)
 (.reg [⟨(some 9), none, .o (.mov (.t 0))⟩,
 ⟨(some 10), none, .o (.bsa [(.c (.i .i64 (0))), (.c (.i .i64 (1))), (.c (.i .i64 (4))), (.c (.i .i64 (9))), (.c (.i .i64 (37))), (.c (.i .i64 (-5)))])⟩,
 ⟨(some 11), none, .call 205 [(.t 9), (.t 10)]⟩,
 ⟨(some 12), none, .o (.add (.t 3) 0)⟩,
 ⟨none, none, .st1 (.t 12) (.t 11)⟩])
 (.seq (.reg [⟨(some 14), none, .o (.bin .eql (.t 6) (.c (.i .i64 (1))))⟩,
 ⟨(some 13), none, .o (.mov (.t 14))⟩])
 (.cond (.t 13)
 (.reg [⟨(some 15), none, .o (.mov (.t 0))⟩,
 ⟨(some 16), none, .o (.add (.t 3) 1)⟩,
 ⟨(some 17), none, .ld1 (.t 16)⟩,
 ⟨(some 18), none, .o (.bin .sub (.t 17) (.c (.i .i64 (1))))⟩,
 ⟨(some 19), none, .o (.bsa [(.c (.i .i64 (0))), (.c (.i .i64 (9))), (.c (.i .i64 (-1))), (.t 18)])⟩,
 ⟨(some 20), none, .call 205 [(.t 15), (.t 19)]⟩,
 ⟨(some 21), none, .o (.add (.t 3) 1)⟩,
 ⟨none, none, .st1 (.t 21) (.t 20)⟩])
 (.seq (.reg [⟨(some 23), none, .o (.bin .eql (.t 6) (.c (.i .i64 (2))))⟩,
 ⟨(some 22), none, .o (.mov (.t 23))⟩])
 (.cond (.t 22)
 (.drs [0, 1, 0, 7, 0, 31, 0, 127, 255, 0, 515, 1551, 4095, 8191]
 [(0, false, ⟨(some 24), none, .o (.mov (.t 0))⟩),
 (2, false, ⟨(some 26), none, .o (.mov (.t 0))⟩),
 (4, false, ⟨(some 28), none, .o (.mov (.t 0))⟩),
 (6, false, ⟨(some 30), none, .o (.mov (.t 0))⟩),
 (9, false, ⟨(some 33), none, .o (.add (.t 3) 10)⟩),
 (1, false, ⟨(some 25), none, .call 195 [(.t 24), (.c (.i .i64 (8)))]⟩),
 (10, false, ⟨(some 34), none, .o (.idx (.t 33) (.t 25) 8 64)⟩),
 (3, false, ⟨(some 27), none, .call 195 [(.t 26), (.c (.i .i64 (8)))]⟩),
 (11, false, ⟨(some 35), none, .o (.idx (.t 34) (.t 27) 8 8)⟩),
 (5, false, ⟨(some 29), none, .call 195 [(.t 28), (.c (.i .i64 (8)))]⟩),
 (7, false, ⟨(some 31), none, .call 195 [(.t 30), (.c (.i .i64 (40)))]⟩),
 (8, false, ⟨(some 32), none, .o (.cvt .u8 (.t 31))⟩),
 (12, false, ⟨(some 36), none, .o (.idx (.t 35) (.t 29) 8 1)⟩),
 (13, false, ⟨none, none, .st1 (.t 36) (.t 32)⟩)])
 (.seq (.reg [⟨(some 38), none, .o (.bin .eql (.t 6) (.c (.i .i64 (3))))⟩,
 ⟨(some 37), none, .o (.mov (.t 38))⟩])
 (.cond (.t 37)
 (.reg [⟨(some 39), none, .o (.mov (.t 0))⟩,
 ⟨(some 40), none, .call 195 [(.t 39), (.c (.i .i64 (8)))]⟩,
 ⟨(some 41), none, .o (.mov (.t 0))⟩,
 ⟨(some 42), none, .call 195 [(.t 41), (.c (.i .i64 (3)))]⟩,
 ⟨(some 43), none, .o (.cvt .u8 (.t 42))⟩,
 ⟨(some 44), none, .o (.add (.t 3) 2)⟩,
 ⟨(some 45), none, .o (.idx (.t 44) (.t 40) 8 1)⟩,
 ⟨none, none, .st1 (.t 45) (.t 43)⟩])
 .skip))))))))))
 (.seq (.reg [⟨(some 46), none, .lda (.t 3) 2 522⟩,
 ⟨none, none, .sta (.t 4) (.t 46) 522⟩])
 .ret)))⟩
def qf_s_l01Spoil : QF := ⟨1, 7, [.c 2 2 522],
 (.seq (.reg [⟨(some 2), none, .o (.alo (.by 2 522))⟩])
 (.seq (.reg [⟨(some 3), none, .o (.mov (.t 0))⟩,
 ⟨(some 4), none, .o (.mov (.t 0))⟩,
 ⟨(some 5), none, .call 203 [(.t 4)]⟩,
 ⟨(some 6), none, .call 204 [(.t 3), (.t 5)]⟩,
 ⟨none, none, .sta (.t 2) (.t 6) 522⟩])
 .ret))⟩
def qf_s_DrawOppositeAlgebra : QF := ⟨1, 6, [.c 2 2 522],
 (.seq (.reg [⟨(some 2), none, .o (.alo (.by 2 522))⟩])
 (.seq (.reg [⟨(some 3), none, .o (.mov (.t 0))⟩,
 ⟨(some 4), none, .call 186 [(.t 3)]⟩,
 ⟨(some 5), none, .call 194 [(.t 4)]⟩,
 ⟨none, none, .sta (.t 2) (.t 5) 522⟩])
 .ret))⟩
def qf_s_l01Opposite : QF := ⟨2, 29, [.c 4 0 512],
 (.seq (.reg [⟨(some 3), none, .o (.box (.t 1))⟩,
 ⟨(some 4), none, .o (.alo (.by 0 512))⟩])
 (.seq (.reg [⟨(some 8), none, .o (.bld 0 512 [])⟩,
 ⟨(some 5), none, .o (.alo (.by 0 512))⟩,
 ⟨none, none, .sta (.t 5) (.t 8) 512⟩])
 (.seq (.seq (.reg [⟨(some 6), none, .o (.mov (.c (.i .i64 (0))))⟩])
 (.blk 0
 (.loop
 (.seq (.seq (.reg [⟨(some 9), none, .o (.mov (.t 6))⟩,
 ⟨(some 10), none, .o (.mov (.t 0))⟩,
 ⟨(some 11), none, .o (.bin .lss (.t 9) (.t 10))⟩])
 (.cond (.t 11)
 .skip
 (.exit 0)))
 (.seq (.blk 1
 (.seq (.reg [⟨(some 7), none, .o (.mov (.c (.i .i64 (0))))⟩])
 (.blk 2
 (.loop
 (.seq (.seq (.reg [⟨(some 14), none, .o (.mov (.t 7))⟩,
 ⟨(some 15), none, .o (.mov (.t 0))⟩,
 ⟨(some 16), none, .o (.bin .lss (.t 14) (.t 15))⟩])
 (.cond (.t 16)
 .skip
 (.exit 2)))
 (.seq (.blk 3
 (.drs [0, 0, 0, 0, 4, 28, 60, 1, 255, 511]
 [(0, false, ⟨(some 19), none, .o (.mov (.t 6))⟩),
 (1, false, ⟨(some 20), none, .o (.mov (.t 7))⟩),
 (2, false, ⟨(some 21), none, .o (.mov (.t 7))⟩),
 (3, false, ⟨(some 22), none, .o (.mov (.t 6))⟩),
 (4, false, ⟨(some 23), none, .o (.idx (.t 3) (.t 21) 8 64)⟩),
 (5, false, ⟨(some 24), none, .o (.idx (.t 23) (.t 22) 8 8)⟩),
 (6, false, ⟨(some 25), none, .lda (.t 24) 0 8⟩),
 (7, false, ⟨(some 26), none, .o (.idx (.t 5) (.t 19) 8 64)⟩),
 (8, false, ⟨(some 27), none, .o (.idx (.t 26) (.t 20) 8 8)⟩),
 (9, false, ⟨none, none, .sta (.t 27) (.t 25) 8⟩)]))
 (.reg [⟨(some 17), none, .o (.mov (.t 7))⟩,
 ⟨(some 18), none, .o (.bin .add (.t 17) (.c (.i .i64 (1))))⟩,
 ⟨(some 7), none, .o (.mov (.t 18))⟩])))))))
 (.reg [⟨(some 12), none, .o (.mov (.t 6))⟩,
 ⟨(some 13), none, .o (.bin .add (.t 12) (.c (.i .i64 (1))))⟩,
 ⟨(some 6), none, .o (.mov (.t 13))⟩]))))))
 (.seq (.reg [⟨(some 28), none, .lda (.t 5) 0 512⟩,
 ⟨none, none, .sta (.t 4) (.t 28) 512⟩])
 .ret))))⟩
def qf_s_OppositeAlgebra : QF := ⟨1, 15, [.c 2 2 522, .t 3],
 (.seq (.reg [⟨(some 1), none, .o (.box (.t 0))⟩,
 ⟨(some 2), none, .o (.alo (.by 2 522))⟩,
 ⟨(some 3), none, .o (.mov (.c (.i .i64 (0))))⟩])
 (.seq (.seq (.reg [⟨(some 4), none, .lda (.t 1) 2 522⟩,
 ⟨(some 5), none, .calp 76 [(.t 4)]⟩,
 ⟨(some 6), none, .o (.nt (.t 5))⟩])
 (.cond (.t 6)
 (.seq (.reg [⟨(some 7), none, .o (.bld 2 522 [])⟩,
 ⟨none, none, .sta (.t 2) (.t 7) 522⟩,
 ⟨(some 3), none, .o (.mov (.c (.i .i64 (1))))⟩])
 .ret)
 .skip))
 (.seq (.reg [⟨(some 8), none, .o (.add (.t 1) 1)⟩,
 ⟨(some 9), none, .ld1 (.t 8)⟩,
 ⟨(some 10), none, .o (.add (.t 1) 10)⟩,
 ⟨(some 11), none, .lda (.t 10) 0 512⟩,
 ⟨(some 12), none, .calp 437 [(.t 9), (.t 11)]⟩,
 ⟨(some 13), none, .o (.add (.t 1) 10)⟩,
 ⟨none, none, .sta (.t 13) (.t 12) 512⟩])
 (.seq (.reg [⟨(some 14), none, .lda (.t 1) 2 522⟩,
 ⟨none, none, .sta (.t 2) (.t 14) 522⟩,
 ⟨(some 3), none, .o (.mov (.c (.i .i64 (0))))⟩])
 .ret))))⟩
def qf_s_IsAlgebra : QF := ⟨1, 5, [.t 2],
 (.seq (.reg [⟨(some 1), none, .o (.box (.t 0))⟩,
 ⟨(some 2), none, .o (.mov (.c (.b false)))⟩])
 (.seq (.reg [⟨(some 3), none, .lda (.t 1) 2 522⟩,
 ⟨(some 4), none, .calp 76 [(.t 3)]⟩,
 ⟨(some 2), none, .o (.mov (.t 4))⟩])
 .ret))⟩
def qf_s_DrawProductAlgebra : QF := ⟨1, 26, [.c 2 2 522, .c 3 2 522],
 (.seq (.reg [⟨(some 2), none, .o (.alo (.by 2 522))⟩,
 ⟨(some 3), none, .o (.alo (.by 2 522))⟩])
 (.seq (.reg [⟨(some 7), none, .o (.mov (.t 0))⟩,
 ⟨(some 8), none, .call 186 [(.t 7)]⟩,
 ⟨(some 4), none, .o (.mov (.t 8))⟩])
 (.seq (.reg [⟨(some 9), none, .o (.mov (.t 4))⟩,
 ⟨(some 10), none, .call 194 [(.t 9)]⟩,
 ⟨(some 11), none, .o (.mov (.t 4))⟩,
 ⟨(some 12), none, .call 194 [(.t 11)]⟩,
 ⟨(some 5), none, .o (.alo (.by 2 522))⟩,
 ⟨(some 6), none, .o (.alo (.by 2 522))⟩,
 ⟨none, none, .sta (.t 5) (.t 10) 522⟩,
 ⟨none, none, .sta (.t 6) (.t 12) 522⟩])
 (.seq (.seq (.reg [⟨(some 13), none, .o (.mov (.t 4))⟩,
 ⟨(some 14), none, .call 195 [(.t 13), (.c (.i .i64 (4)))]⟩,
 ⟨(some 15), none, .o (.bin .gtr (.t 14) (.c (.i .i64 (0))))⟩])
 (.cond (.t 15)
 (.drs [0, 1, 3, 7, 0, 16, 48, 127, 255]
 [(0, false, ⟨(some 16), none, .o (.add (.t 5) 0)⟩),
 (1, true, ⟨(some 17), none, .ld1 (.t 16)⟩),
 (2, false, ⟨(some 18), none, .mxm false (.t 17) (.c (.i .i64 (2)))⟩),
 (3, false, ⟨(some 19), none, .mxm true (.t 18) (.c (.i .i64 (31)))⟩),
 (4, false, ⟨(some 20), none, .o (.mov (.t 4))⟩),
 (5, false, ⟨(some 21), none, .call 195 [(.t 20), (.c (.i .i64 (4)))]⟩),
 (6, false, ⟨(some 22), none, .o (.bin .add (.c (.i .i64 (1))) (.t 21))⟩),
 (7, true, ⟨(some 23), none, .call 196 [(.t 19), (.t 22)]⟩),
 (8, true, ⟨none, none, .sta (.t 6) (.t 23) 522⟩)])
 .skip))
 (.seq (.drs [0, 0, 1, 7]
 [(0, false, ⟨(some 24), none, .lda (.t 5) 2 522⟩),
 (1, true, ⟨(some 25), none, .lda (.t 6) 2 522⟩),
 (2, false, ⟨none, none, .sta (.t 2) (.t 24) 522⟩),
 (3, true, ⟨none, none, .sta (.t 3) (.t 25) 522⟩)])
 .ret)))))⟩
def qf_s_DrawFirstFault : QF := ⟨1, 38, [.c 2 2 522],
 (.seq (.reg [⟨(some 2), none, .o (.alo (.by 2 522))⟩])
 (.seq (.reg [⟨(some 5), none, .o (.mov (.t 0))⟩,
 ⟨(some 6), none, .call 186 [(.t 5)]⟩,
 ⟨(some 3), none, .o (.mov (.t 6))⟩])
 (.seq (.reg [⟨(some 7), none, .o (.mov (.t 3))⟩,
 ⟨(some 8), none, .call 194 [(.t 7)]⟩,
 ⟨(some 4), none, .o (.alo (.by 2 522))⟩,
 ⟨none, none, .sta (.t 4) (.t 8) 522⟩])
 (.seq (.seq (.reg [⟨(some 9), none, .o (.mov (.t 3))⟩,
 ⟨(some 10), none, .call 195 [(.t 9), (.c (.i .i64 (2)))]⟩,
 ⟨(some 11), none, .o (.bin .eql (.t 10) (.c (.i .i64 (0))))⟩,
 ⟨(some 12), none, .o (.mov (.t 11))⟩,
 ⟨(some 13), (some (12, true)), .lda (.t 4) 2 522⟩,
 ⟨(some 14), (some (12, true)), .calp 62 [(.t 13)]⟩,
 ⟨(some 15), none, .o (.pick (.t 12) (.t 14) (.c (.b false)))⟩])
 (.cond (.t 15)
 (.drs [0, 0, 2, 7, 0, 0, 32, 127, 0, 0, 512, 2047, 0, 0, 8192, 32767, 65535, 0, 131087, 393471, 1048575, 2097151]
 [(0, false, ⟨(some 16), none, .o (.mov (.t 3))⟩),
 (1, false, ⟨(some 17), none, .o (.add (.t 4) 1)⟩),
 (2, false, ⟨(some 18), none, .ld1 (.t 17)⟩),
 (4, false, ⟨(some 20), none, .o (.mov (.t 3))⟩),
 (5, false, ⟨(some 21), none, .o (.add (.t 4) 1)⟩),
 (6, true, ⟨(some 22), none, .ld1 (.t 21)⟩),
 (8, false, ⟨(some 24), none, .o (.mov (.t 3))⟩),
 (9, false, ⟨(some 25), none, .o (.add (.t 4) 1)⟩),
 (10, true, ⟨(some 26), none, .ld1 (.t 25)⟩),
 (12, false, ⟨(some 28), none, .o (.mov (.t 3))⟩),
 (13, false, ⟨(some 29), none, .o (.add (.t 4) 0)⟩),
 (14, true, ⟨(some 30), none, .ld1 (.t 29)⟩),
 (17, false, ⟨(some 33), none, .o (.add (.t 4) 10)⟩),
 (3, false, ⟨(some 19), none, .call 195 [(.t 16), (.t 18)]⟩),
 (18, false, ⟨(some 34), none, .o (.idx (.t 33) (.t 19) 8 64)⟩),
 (7, false, ⟨(some 23), none, .call 195 [(.t 20), (.t 22)]⟩),
 (19, false, ⟨(some 35), none, .o (.idx (.t 34) (.t 23) 8 8)⟩),
 (11, false, ⟨(some 27), none, .call 195 [(.t 24), (.t 26)]⟩),
 (15, true, ⟨(some 31), none, .call 195 [(.t 28), (.t 30)]⟩),
 (16, false, ⟨(some 32), none, .o (.cvt .u8 (.t 31))⟩),
 (20, false, ⟨(some 36), none, .o (.idx (.t 35) (.t 27) 8 1)⟩),
 (21, true, ⟨none, none, .st1 (.t 36) (.t 32)⟩)])
 .skip))
 (.seq (.reg [⟨(some 37), none, .lda (.t 4) 2 522⟩,
 ⟨none, none, .sta (.t 2) (.t 37) 522⟩])
 .ret)))))⟩
def qf_s_FirstFault : QF := ⟨1, 17, [.t 2, .t 3],
 (.seq (.reg [⟨(some 1), none, .o (.box (.t 0))⟩,
 ⟨(some 2), none, .o (.mov (.c .sn))⟩,
 ⟨(some 3), none, .o (.mov (.c (.i .i64 (0))))⟩])
 (.seq (.seq (.reg [⟨(some 6), none, .lda (.t 1) 2 522⟩,
 ⟨(some 7), none, .calp 62 [(.t 6)]⟩,
 ⟨(some 8), none, .o (.nt (.t 7))⟩])
 (.cond (.t 8)
 (.seq (.reg [⟨(some 2), none, .o (.mov (.c .sn))⟩,
 ⟨(some 3), none, .o (.mov (.c (.i .i64 (1))))⟩])
 .ret)
 .skip))
 (.seq (.reg [⟨(some 10), none, .lda (.t 1) 2 522⟩,
 ⟨(some 11), none, .call 97 [(.t 10)]⟩,
 ⟨(some 9), none, .o (.mov (.t 11))⟩,
 ⟨(some 12), none, .o (.ext (.t 9) 0)⟩,
 ⟨(some 13), none, .o (.ext (.t 9) 1)⟩,
 ⟨(some 4), none, .o (.mov (.t 12))⟩,
 ⟨(some 5), none, .o (.mov (.t 13))⟩])
 (.seq (.seq (.reg [⟨(some 14), none, .o (.mov (.t 5))⟩,
 ⟨(some 15), none, .o (.nt (.t 14))⟩])
 (.cond (.t 15)
 (.seq (.reg [⟨(some 2), none, .o (.mov (.c .sn))⟩,
 ⟨(some 3), none, .o (.mov (.c (.i .i64 (4))))⟩])
 .ret)
 .skip))
 (.seq (.reg [⟨(some 16), none, .o (.mov (.t 4))⟩,
 ⟨(some 2), none, .o (.mov (.t 16))⟩,
 ⟨(some 3), none, .o (.mov (.c (.i .i64 (0))))⟩])
 .ret)))))⟩
def qf_s_DrawCentreOf : QF := ⟨1, 6, [.c 2 2 522],
 (.seq (.reg [⟨(some 2), none, .o (.alo (.by 2 522))⟩])
 (.seq (.reg [⟨(some 3), none, .o (.mov (.t 0))⟩,
 ⟨(some 4), none, .call 186 [(.t 3)]⟩,
 ⟨(some 5), none, .call 194 [(.t 4)]⟩,
 ⟨none, none, .sta (.t 2) (.t 5) 522⟩])
 .ret))⟩
def qf_s_l01Whole : QF := ⟨1, 17, [.t 2],
 (.seq (.reg [⟨(some 2), none, .o (.mov (.c .sn))⟩])
 (.seq (.reg [⟨(some 5), none, .o (.bsb 8 [])⟩,
 ⟨(some 3), none, .o (.mov (.t 5))⟩])
 (.seq (.seq (.reg [⟨(some 4), none, .o (.mov (.c (.i .i64 (0))))⟩])
 (.blk 0
 (.loop
 (.seq (.seq (.reg [⟨(some 6), none, .o (.mov (.t 4))⟩,
 ⟨(some 7), none, .o (.mov (.t 0))⟩,
 ⟨(some 8), none, .o (.bin .lss (.t 6) (.t 7))⟩])
 (.cond (.t 8)
 .skip
 (.exit 0)))
 (.seq (.blk 1
 (.reg [⟨(some 11), none, .o (.mov (.t 3))⟩,
 ⟨(some 12), none, .o (.mov (.t 4))⟩,
 ⟨(some 13), none, .calp 55 [(.t 12)]⟩,
 ⟨(some 14), none, .o (.bsb 8 [(.t 13)])⟩,
 ⟨(some 15), none, .apb 8 8 (.t 11) (.t 14)⟩,
 ⟨(some 3), none, .o (.mov (.t 15))⟩]))
 (.reg [⟨(some 9), none, .o (.mov (.t 4))⟩,
 ⟨(some 10), none, .o (.bin .add (.t 9) (.c (.i .i64 (1))))⟩,
 ⟨(some 4), none, .o (.mov (.t 10))⟩]))))))
 (.seq (.reg [⟨(some 16), none, .o (.mov (.t 3))⟩,
 ⟨(some 2), none, .o (.mov (.t 16))⟩])
 .ret))))⟩
def qf_s_l01First : QF := ⟨1, 15, [.t 2],
 (.seq (.reg [⟨(some 1), none, .o (.box (.t 0))⟩,
 ⟨(some 2), none, .o (.mov (.c (.i .i64 (0))))⟩])
 (.seq (.reg [⟨(some 3), none, .o (.mov (.c (.i .i64 (0))))⟩])
 (.seq (.blk 0
 (.loop
 (.seq (.seq (.reg [⟨(some 4), none, .o (.mov (.t 3))⟩,
 ⟨(some 5), none, .o (.bin .lss (.t 4) (.c (.i .i64 (8))))⟩,
 ⟨(some 6), none, .o (.mov (.t 5))⟩,
 ⟨(some 7), (some (6, true)), .o (.mov (.t 3))⟩,
 ⟨(some 8), (some (6, true)), .o (.idx (.t 1) (.t 7) 8 1)⟩,
 ⟨(some 9), (some (6, true)), .ld1 (.t 8)⟩,
 ⟨(some 10), (some (6, true)), .o (.bin .eql (.t 9) (.c (.u 0)))⟩,
 ⟨(some 11), none, .o (.pick (.t 6) (.t 10) (.c (.b false)))⟩])
 (.cond (.t 11)
 .skip
 (.exit 0)))
 (.blk 1
 (.reg [⟨(some 12), none, .o (.mov (.t 3))⟩,
 ⟨(some 13), none, .o (.bin .add (.t 12) (.c (.i .i64 (1))))⟩,
 ⟨(some 3), none, .o (.mov (.t 13))⟩])))))
 (.seq (.reg [⟨(some 14), none, .o (.mov (.t 3))⟩,
 ⟨(some 2), none, .o (.mov (.t 14))⟩])
 .ret))))⟩
def qf_s_l01Inverse : QF := ⟨2, 20, [.t 4],
 (.seq (.reg [⟨(some 4), none, .o (.mov (.c (.u 0)))⟩])
 (.seq (.seq (.reg [⟨(some 5), none, .o (.mov (.c (.i .i64 (1))))⟩])
 (.blk 0
 (.loop
 (.seq (.seq (.reg [⟨(some 6), none, .o (.mov (.t 5))⟩,
 ⟨(some 7), none, .o (.mov (.t 0))⟩,
 ⟨(some 8), none, .o (.bin .lss (.t 6) (.t 7))⟩])
 (.cond (.t 8)
 .skip
 (.exit 0)))
 (.seq (.blk 1
 (.seq (.reg [⟨(some 11), none, .o (.mov (.t 5))⟩,
 ⟨(some 12), none, .o (.mov (.t 1))⟩,
 ⟨(some 13), none, .o (.cvt .i64 (.t 12))⟩,
 ⟨(some 14), none, .o (.bin .mul (.t 11) (.t 13))⟩,
 ⟨(some 15), none, .o (.mov (.t 0))⟩,
 ⟨(some 16), none, .o (.bin .rem (.t 14) (.t 15))⟩,
 ⟨(some 17), none, .o (.bin .eql (.t 16) (.c (.i .i64 (1))))⟩])
 (.cond (.t 17)
 (.seq (.reg [⟨(some 18), none, .o (.mov (.t 5))⟩,
 ⟨(some 19), none, .o (.cvt .u8 (.t 18))⟩,
 ⟨(some 4), none, .o (.mov (.t 19))⟩])
 .ret)
 .skip)))
 (.reg [⟨(some 9), none, .o (.mov (.t 5))⟩,
 ⟨(some 10), none, .o (.bin .add (.t 9) (.c (.i .i64 (1))))⟩,
 ⟨(some 5), none, .o (.mov (.t 10))⟩]))))))
 (.seq (.reg [⟨(some 4), none, .o (.mov (.c (.u 0)))⟩])
 .ret)))⟩
def qf_s_l01Solve : QF := ⟨3, 100, [.t 6, .t 7, .t 8],
 (.seq (.reg [⟨(some 5), none, .o (.box (.t 2))⟩,
 ⟨(some 6), none, .o (.mov (.c .sn))⟩,
 ⟨(some 7), none, .o (.mov (.c .sn))⟩,
 ⟨(some 8), none, .o (.mov (.c .sn))⟩])
 (.seq (.reg [⟨(some 19), none, .o (.bsb 8 [])⟩,
 ⟨(some 20), none, .o (.bsb 8 [])⟩,
 ⟨(some 21), none, .o (.bsb 8 [])⟩,
 ⟨(some 9), none, .o (.mov (.t 19))⟩,
 ⟨(some 10), none, .o (.mov (.t 20))⟩,
 ⟨(some 11), none, .o (.mov (.t 21))⟩])
 (.seq (.seq (.reg [⟨(some 12), none, .o (.mov (.c (.i .i64 (0))))⟩])
 (.blk 0
 (.loop
 (.seq (.seq (.reg [⟨(some 22), none, .o (.mov (.t 12))⟩,
 ⟨(some 23), none, .o (.mov (.t 1))⟩,
 ⟨(some 24), none, .o (.bin .lss (.t 22) (.t 23))⟩])
 (.cond (.t 24)
 .skip
 (.exit 0)))
 (.seq (.blk 1
 (.seq (.drf [0, 1, 3, 0, 8, 0, 0, 127, 255]
 [(0, false, ⟨(some 27), none, .o (.mov (.t 12))⟩),
 (1, false, ⟨(some 28), none, .o (.idx (.t 5) (.t 27) 8 8)⟩),
 (2, true, ⟨(some 29), none, .lda (.t 28) 0 8⟩),
 (3, false, ⟨(some 30), none, .o (.mov (.t 12))⟩),
 (4, false, ⟨(some 31), none, .calp 55 [(.t 30)]⟩)]
 (5, false, ⟨(some 13), none, .o (.alo (.by 0 8))⟩)
 (6, false, ⟨(some 14), none, .o (.alo (.by 0 8))⟩)
 [(7, true, ⟨none, none, .sta (.t 13) (.t 29) 8⟩),
 (8, true, ⟨none, none, .sta (.t 14) (.t 31) 8⟩)])
 (.seq (.seq (.reg [⟨(some 15), none, .o (.mov (.c (.i .i64 (0))))⟩])
 (.blk 2
 (.loop
 (.seq (.seq (.reg [⟨(some 32), none, .o (.mov (.t 15))⟩,
 ⟨(some 33), none, .o (.mov (.t 9))⟩,
 ⟨(some 34), none, .len (.t 33)⟩,
 ⟨(some 35), none, .o (.bin .lss (.t 32) (.t 34))⟩])
 (.cond (.t 35)
 .skip
 (.exit 2)))
 (.seq (.blk 3
 (.seq (.reg [⟨(some 38), none, .o (.mov (.t 9))⟩,
 ⟨(some 39), none, .o (.mov (.t 15))⟩,
 ⟨(some 40), none, .ids (.t 38) (.t 39) 8⟩,
 ⟨(some 41), none, .lda (.t 40) 0 8⟩,
 ⟨(some 42), none, .calp 273 [(.t 41)]⟩,
 ⟨(some 16), none, .o (.mov (.t 42))⟩])
 (.seq (.reg [⟨(some 43), none, .o (.mov (.t 16))⟩,
 ⟨(some 44), none, .o (.idx (.t 13) (.t 43) 8 1)⟩,
 ⟨(some 45), none, .ld1 (.t 44)⟩,
 ⟨(some 46), none, .o (.bin .neq (.t 45) (.c (.u 0)))⟩])
 (.cond (.t 46)
 (.seq (.reg [⟨(some 47), none, .o (.mov (.t 16))⟩,
 ⟨(some 48), none, .o (.idx (.t 13) (.t 47) 8 1)⟩,
 ⟨(some 49), none, .ld1 (.t 48)⟩,
 ⟨(some 50), none, .o (.cvt .i64 (.t 49))⟩,
 ⟨(some 51), none, .o (.ng (.t 50))⟩,
 ⟨(some 17), none, .o (.mov (.t 51))⟩])
 (.seq (.drs [0, 0, 0, 0, 12, 28, 0, 127, 255]
 [(0, false, ⟨(some 52), none, .o (.mov (.t 0))⟩),
 (1, false, ⟨(some 53), none, .lda (.t 13) 0 8⟩),
 (2, false, ⟨(some 54), none, .o (.mov (.t 9))⟩),
 (3, false, ⟨(some 55), none, .o (.mov (.t 15))⟩),
 (4, false, ⟨(some 56), none, .ids (.t 54) (.t 55) 8⟩),
 (5, false, ⟨(some 57), none, .lda (.t 56) 0 8⟩),
 (6, false, ⟨(some 58), none, .o (.mov (.t 17))⟩),
 (7, false, ⟨(some 59), none, .calp 57 [(.t 52), (.t 53), (.t 57), (.t 58)]⟩),
 (8, false, ⟨none, none, .sta (.t 13) (.t 59) 8⟩)])
 (.drs [0, 0, 0, 0, 12, 28, 0, 127, 255]
 [(0, false, ⟨(some 60), none, .o (.mov (.t 0))⟩),
 (1, false, ⟨(some 61), none, .lda (.t 14) 0 8⟩),
 (2, false, ⟨(some 62), none, .o (.mov (.t 10))⟩),
 (3, false, ⟨(some 63), none, .o (.mov (.t 15))⟩),
 (4, false, ⟨(some 64), none, .ids (.t 62) (.t 63) 8⟩),
 (5, false, ⟨(some 65), none, .lda (.t 64) 0 8⟩),
 (6, false, ⟨(some 66), none, .o (.mov (.t 17))⟩),
 (7, false, ⟨(some 67), none, .calp 57 [(.t 60), (.t 61), (.t 65), (.t 66)]⟩),
 (8, false, ⟨none, none, .sta (.t 14) (.t 67) 8⟩)])))
 .skip))))
 (.reg [⟨(some 36), none, .o (.mov (.t 15))⟩,
 ⟨(some 37), none, .o (.bin .add (.t 36) (.c (.i .i64 (1))))⟩,
 ⟨(some 15), none, .o (.mov (.t 37))⟩]))))))
 (.seq (.seq (.reg [⟨(some 68), none, .lda (.t 13) 0 8⟩,
 ⟨(some 69), none, .calp 101 [(.t 68)]⟩])
 (.cond (.t 69)
 (.seq (.reg [⟨(some 70), none, .o (.mov (.t 11))⟩,
 ⟨(some 71), none, .lda (.t 14) 0 8⟩,
 ⟨(some 72), none, .o (.bsb 8 [(.t 71)])⟩,
 ⟨(some 73), none, .apb 8 8 (.t 70) (.t 72)⟩,
 ⟨(some 11), none, .o (.mov (.t 73))⟩])
 (.exit 1))
 .skip))
 (.seq (.reg [⟨(some 74), none, .o (.mov (.t 0))⟩,
 ⟨(some 75), none, .lda (.t 13) 0 8⟩,
 ⟨(some 76), none, .calp 273 [(.t 75)]⟩,
 ⟨(some 77), none, .o (.idx (.t 13) (.t 76) 8 1)⟩,
 ⟨(some 78), none, .ld1 (.t 77)⟩,
 ⟨(some 79), none, .calp 274 [(.t 74), (.t 78)]⟩,
 ⟨(some 80), none, .o (.cvt .i64 (.t 79))⟩,
 ⟨(some 18), none, .o (.mov (.t 80))⟩])
 (.seq (.reg [⟨(some 81), none, .o (.mov (.t 9))⟩,
 ⟨(some 82), none, .o (.mov (.t 0))⟩,
 ⟨(some 83), none, .o (.bld 0 8 [])⟩,
 ⟨(some 84), none, .lda (.t 13) 0 8⟩,
 ⟨(some 85), none, .o (.mov (.t 18))⟩,
 ⟨(some 86), none, .calp 57 [(.t 82), (.t 83), (.t 84), (.t 85)]⟩,
 ⟨(some 87), none, .o (.bsb 8 [(.t 86)])⟩,
 ⟨(some 88), none, .apb 8 8 (.t 81) (.t 87)⟩,
 ⟨(some 9), none, .o (.mov (.t 88))⟩])
 (.reg [⟨(some 89), none, .o (.mov (.t 10))⟩,
 ⟨(some 90), none, .o (.mov (.t 0))⟩,
 ⟨(some 91), none, .o (.bld 0 8 [])⟩,
 ⟨(some 92), none, .lda (.t 14) 0 8⟩,
 ⟨(some 93), none, .o (.mov (.t 18))⟩,
 ⟨(some 94), none, .calp 57 [(.t 90), (.t 91), (.t 92), (.t 93)]⟩,
 ⟨(some 95), none, .o (.bsb 8 [(.t 94)])⟩,
 ⟨(some 96), none, .apb 8 8 (.t 89) (.t 95)⟩,
 ⟨(some 10), none, .o (.mov (.t 96))⟩])))))))
 (.reg [⟨(some 25), none, .o (.mov (.t 12))⟩,
 ⟨(some 26), none, .o (.bin .add (.t 25) (.c (.i .i64 (1))))⟩,
 ⟨(some 12), none, .o (.mov (.t 26))⟩]))))))
 (.seq (.reg [⟨(some 97), none, .o (.mov (.t 9))⟩,
 ⟨(some 98), none, .o (.mov (.t 10))⟩,
 ⟨(some 99), none, .o (.mov (.t 11))⟩,
 ⟨(some 6), none, .o (.mov (.t 97))⟩,
 ⟨(some 7), none, .o (.mov (.t 98))⟩,
 ⟨(some 8), none, .o (.mov (.t 99))⟩])
 .ret))))⟩
def qf_s_l01By : QF := ⟨3, 37, [.c 6 0 8],
 (.seq (.reg [⟨(some 4), none, .o (.box (.t 1))⟩,
 ⟨(some 6), none, .o (.alo (.by 0 8))⟩])
 (.seq (.seq (.reg [⟨(some 7), none, .o (.mov (.c (.i .i64 (0))))⟩])
 (.blk 0
 (.loop
 (.seq (.seq (.reg [⟨(some 9), none, .o (.mov (.t 7))⟩,
 ⟨(some 10), none, .o (.mov (.t 2))⟩,
 ⟨(some 11), none, .len (.t 10)⟩,
 ⟨(some 12), none, .o (.bin .lss (.t 9) (.t 11))⟩])
 (.cond (.t 12)
 .skip
 (.exit 0)))
 (.seq (.blk 1
 (.seq (.reg [⟨(some 15), none, .o (.mov (.t 2))⟩,
 ⟨(some 16), none, .o (.mov (.t 7))⟩,
 ⟨(some 17), none, .ids (.t 15) (.t 16) 8⟩,
 ⟨(some 18), none, .lda (.t 17) 0 8⟩,
 ⟨(some 19), none, .calp 273 [(.t 18)]⟩,
 ⟨(some 8), none, .o (.mov (.t 19))⟩])
 (.seq (.reg [⟨(some 20), none, .o (.mov (.t 8))⟩,
 ⟨(some 21), none, .o (.idx (.t 4) (.t 20) 8 1)⟩,
 ⟨(some 22), none, .ld1 (.t 21)⟩,
 ⟨(some 23), none, .o (.bin .neq (.t 22) (.c (.u 0)))⟩])
 (.cond (.t 23)
 (.drs [0, 0, 0, 0, 12, 28, 0, 64, 192, 448, 960, 2047, 4095]
 [(0, false, ⟨(some 24), none, .o (.mov (.t 0))⟩),
 (1, false, ⟨(some 25), none, .lda (.t 4) 0 8⟩),
 (2, false, ⟨(some 26), none, .o (.mov (.t 2))⟩),
 (3, false, ⟨(some 27), none, .o (.mov (.t 7))⟩),
 (4, false, ⟨(some 28), none, .ids (.t 26) (.t 27) 8⟩),
 (5, false, ⟨(some 29), none, .lda (.t 28) 0 8⟩),
 (6, false, ⟨(some 30), none, .o (.mov (.t 8))⟩),
 (7, false, ⟨(some 31), none, .o (.idx (.t 4) (.t 30) 8 1)⟩),
 (8, false, ⟨(some 32), none, .ld1 (.t 31)⟩),
 (9, false, ⟨(some 33), none, .o (.cvt .i64 (.t 32))⟩),
 (10, false, ⟨(some 34), none, .o (.ng (.t 33))⟩),
 (11, false, ⟨(some 35), none, .calp 57 [(.t 24), (.t 25), (.t 29), (.t 34)]⟩),
 (12, false, ⟨none, none, .sta (.t 4) (.t 35) 8⟩)])
 .skip))))
 (.reg [⟨(some 13), none, .o (.mov (.t 7))⟩,
 ⟨(some 14), none, .o (.bin .add (.t 13) (.c (.i .i64 (1))))⟩,
 ⟨(some 7), none, .o (.mov (.t 14))⟩]))))))
 (.seq (.reg [⟨(some 36), none, .lda (.t 4) 0 8⟩,
 ⟨none, none, .sta (.t 6) (.t 36) 8⟩])
 .ret)))⟩
def qf_s_l01Put : QF := ⟨3, 77, [.t 6],
 (.seq (.reg [⟨(some 5), none, .o (.box (.t 2))⟩,
 ⟨(some 6), none, .o (.mov (.c .sn))⟩])
 (.seq (.reg [⟨(some 11), none, .o (.mov (.t 0))⟩,
 ⟨(some 12), none, .lda (.t 5) 0 8⟩,
 ⟨(some 13), none, .o (.mov (.t 1))⟩,
 ⟨(some 14), none, .call 272 [(.t 11), (.t 12), (.t 13)]⟩,
 ⟨none, none, .sta (.t 5) (.t 14) 8⟩])
 (.seq (.seq (.reg [⟨(some 15), none, .lda (.t 5) 0 8⟩,
 ⟨(some 16), none, .calp 101 [(.t 15)]⟩])
 (.cond (.t 16)
 (.seq (.reg [⟨(some 17), none, .o (.mov (.t 1))⟩,
 ⟨(some 6), none, .o (.mov (.t 17))⟩])
 .ret)
 .skip))
 (.seq (.reg [⟨(some 18), none, .lda (.t 5) 0 8⟩,
 ⟨(some 19), none, .calp 273 [(.t 18)]⟩,
 ⟨(some 7), none, .o (.mov (.t 19))⟩])
 (.seq (.drs [0, 0, 0, 0, 0, 16, 48, 120, 248, 511, 1023]
 [(0, false, ⟨(some 20), none, .o (.mov (.t 0))⟩),
 (1, false, ⟨(some 21), none, .o (.bld 0 8 [])⟩),
 (2, false, ⟨(some 22), none, .lda (.t 5) 0 8⟩),
 (3, false, ⟨(some 23), none, .o (.mov (.t 0))⟩),
 (4, false, ⟨(some 24), none, .o (.mov (.t 7))⟩),
 (5, false, ⟨(some 25), none, .o (.idx (.t 5) (.t 24) 8 1)⟩),
 (6, false, ⟨(some 26), none, .ld1 (.t 25)⟩),
 (7, false, ⟨(some 27), none, .calp 274 [(.t 23), (.t 26)]⟩),
 (8, false, ⟨(some 28), none, .o (.cvt .i64 (.t 27))⟩),
 (9, false, ⟨(some 29), none, .calp 57 [(.t 20), (.t 21), (.t 22), (.t 28)]⟩),
 (10, false, ⟨none, none, .sta (.t 5) (.t 29) 8⟩)])
 (.seq (.reg [⟨(some 30), none, .o (.bsb 8 [])⟩,
 ⟨(some 8), none, .o (.mov (.t 30))⟩,
 ⟨(some 9), none, .o (.mov (.c (.b false)))⟩])
 (.seq (.seq (.reg [⟨(some 10), none, .o (.mov (.c (.i .i64 (0))))⟩])
 (.blk 0
 (.loop
 (.seq (.seq (.reg [⟨(some 31), none, .o (.mov (.t 10))⟩,
 ⟨(some 32), none, .o (.mov (.t 1))⟩,
 ⟨(some 33), none, .len (.t 32)⟩,
 ⟨(some 34), none, .o (.bin .lss (.t 31) (.t 33))⟩])
 (.cond (.t 34)
 .skip
 (.exit 0)))
 (.seq (.blk 1
 (.seq (.seq (.reg [⟨(some 37), none, .o (.mov (.t 9))⟩,
 ⟨(some 38), none, .o (.nt (.t 37))⟩,
 ⟨(some 39), none, .o (.mov (.t 38))⟩,
 ⟨(some 40), (some (39, true)), .o (.mov (.t 1))⟩,
 ⟨(some 41), (some (39, true)), .o (.mov (.t 10))⟩,
 ⟨(some 42), (some (39, true)), .ids (.t 40) (.t 41) 8⟩,
 ⟨(some 43), (some (39, true)), .lda (.t 42) 0 8⟩,
 ⟨(some 44), (some (39, true)), .calp 273 [(.t 43)]⟩,
 ⟨(some 45), (some (39, true)), .o (.mov (.t 7))⟩,
 ⟨(some 46), (some (39, true)), .o (.bin .gtr (.t 44) (.t 45))⟩,
 ⟨(some 47), none, .o (.pick (.t 39) (.t 46) (.c (.b false)))⟩])
 (.cond (.t 47)
 (.seq (.reg [⟨(some 48), none, .o (.mov (.t 8))⟩,
 ⟨(some 49), none, .lda (.t 5) 0 8⟩,
 ⟨(some 50), none, .o (.bsb 8 [(.t 49)])⟩,
 ⟨(some 51), none, .apb 8 8 (.t 48) (.t 50)⟩,
 ⟨(some 8), none, .o (.mov (.t 51))⟩])
 (.reg [⟨(some 9), none, .o (.mov (.c (.b true)))⟩]))
 .skip))
 (.drs [0, 0, 0, 0, 12, 28, 0, 0, 0, 0, 384, 1920, 3968, 8064, 16256, 32766, 65534, 131071, 262143]
 [(0, false, ⟨(some 52), none, .o (.mov (.t 8))⟩),
 (1, false, ⟨(some 53), none, .o (.mov (.t 0))⟩),
 (2, false, ⟨(some 54), none, .o (.mov (.t 1))⟩),
 (3, false, ⟨(some 55), none, .o (.mov (.t 10))⟩),
 (4, false, ⟨(some 56), none, .ids (.t 54) (.t 55) 8⟩),
 (5, false, ⟨(some 57), none, .lda (.t 56) 0 8⟩),
 (6, false, ⟨(some 58), none, .lda (.t 5) 0 8⟩),
 (7, false, ⟨(some 59), none, .o (.mov (.t 1))⟩),
 (8, false, ⟨(some 60), none, .o (.mov (.t 10))⟩),
 (9, false, ⟨(some 61), none, .o (.mov (.t 7))⟩),
 (10, false, ⟨(some 62), none, .ids (.t 59) (.t 60) 8⟩),
 (11, false, ⟨(some 63), none, .o (.idx (.t 62) (.t 61) 8 1)⟩),
 (12, false, ⟨(some 64), none, .ld1 (.t 63)⟩),
 (13, false, ⟨(some 65), none, .o (.cvt .i64 (.t 64))⟩),
 (14, false, ⟨(some 66), none, .o (.ng (.t 65))⟩),
 (15, false, ⟨(some 67), none, .calp 57 [(.t 53), (.t 57), (.t 58), (.t 66)]⟩),
 (16, false, ⟨(some 68), none, .o (.bsb 8 [(.t 67)])⟩),
 (17, false, ⟨(some 69), none, .apb 8 8 (.t 52) (.t 68)⟩),
 (18, false, ⟨(some 8), none, .o (.mov (.t 69))⟩)])))
 (.reg [⟨(some 35), none, .o (.mov (.t 10))⟩,
 ⟨(some 36), none, .o (.bin .add (.t 35) (.c (.i .i64 (1))))⟩,
 ⟨(some 10), none, .o (.mov (.t 36))⟩]))))))
 (.seq (.seq (.reg [⟨(some 70), none, .o (.mov (.t 9))⟩,
 ⟨(some 71), none, .o (.nt (.t 70))⟩])
 (.cond (.t 71)
 (.reg [⟨(some 72), none, .o (.mov (.t 8))⟩,
 ⟨(some 73), none, .lda (.t 5) 0 8⟩,
 ⟨(some 74), none, .o (.bsb 8 [(.t 73)])⟩,
 ⟨(some 75), none, .apb 8 8 (.t 72) (.t 74)⟩,
 ⟨(some 8), none, .o (.mov (.t 75))⟩])
 .skip))
 (.seq (.reg [⟨(some 76), none, .o (.mov (.t 8))⟩,
 ⟨(some 6), none, .o (.mov (.t 76))⟩])
 .ret)))))))))⟩
def qf_s_l01Reduce : QF := ⟨2, 22, [.t 4],
 (.seq (.reg [⟨(some 4), none, .o (.mov (.c .sn))⟩])
 (.seq (.reg [⟨(some 7), none, .o (.bsb 8 [])⟩,
 ⟨(some 5), none, .o (.mov (.t 7))⟩])
 (.seq (.seq (.reg [⟨(some 6), none, .o (.mov (.c (.i .i64 (0))))⟩])
 (.blk 0
 (.loop
 (.seq (.seq (.reg [⟨(some 8), none, .o (.mov (.t 6))⟩,
 ⟨(some 9), none, .o (.mov (.t 1))⟩,
 ⟨(some 10), none, .len (.t 9)⟩,
 ⟨(some 11), none, .o (.bin .lss (.t 8) (.t 10))⟩])
 (.cond (.t 11)
 .skip
 (.exit 0)))
 (.seq (.blk 1
 (.reg [⟨(some 14), none, .o (.mov (.t 0))⟩,
 ⟨(some 15), none, .o (.mov (.t 5))⟩,
 ⟨(some 16), none, .o (.mov (.t 1))⟩,
 ⟨(some 17), none, .o (.mov (.t 6))⟩,
 ⟨(some 18), none, .ids (.t 16) (.t 17) 8⟩,
 ⟨(some 19), none, .lda (.t 18) 0 8⟩,
 ⟨(some 20), none, .call 266 [(.t 14), (.t 15), (.t 19)]⟩,
 ⟨(some 5), none, .o (.mov (.t 20))⟩]))
 (.reg [⟨(some 12), none, .o (.mov (.t 6))⟩,
 ⟨(some 13), none, .o (.bin .add (.t 12) (.c (.i .i64 (1))))⟩,
 ⟨(some 6), none, .o (.mov (.t 13))⟩]))))))
 (.seq (.reg [⟨(some 21), none, .o (.mov (.t 5))⟩,
 ⟨(some 4), none, .o (.mov (.t 21))⟩])
 .ret))))⟩
def qf_s_l01Kernel : QF := ⟨3, 21, [.t 6],
 (.seq (.reg [⟨(some 5), none, .o (.box (.t 2))⟩,
 ⟨(some 6), none, .o (.mov (.c .sn))⟩])
 (.seq (.reg [⟨(some 11), none, .o (.mov (.t 0))⟩,
 ⟨(some 12), none, .o (.mov (.t 1))⟩,
 ⟨(some 13), none, .lda (.t 5) 0 64⟩,
 ⟨(some 14), none, .call 275 [(.t 11), (.t 12), (.t 13)]⟩,
 ⟨(some 10), none, .o (.mov (.t 14))⟩,
 ⟨(some 15), none, .o (.ext (.t 10) 0)⟩,
 ⟨(some 16), none, .o (.ext (.t 10) 1)⟩,
 ⟨(some 17), none, .o (.ext (.t 10) 2)⟩,
 ⟨(some 7), none, .o (.mov (.t 15))⟩,
 ⟨(some 8), none, .o (.mov (.t 16))⟩,
 ⟨(some 9), none, .o (.mov (.t 17))⟩])
 (.seq (.reg [⟨(some 18), none, .o (.mov (.t 0))⟩,
 ⟨(some 19), none, .o (.mov (.t 9))⟩,
 ⟨(some 20), none, .call 270 [(.t 18), (.t 19)]⟩,
 ⟨(some 6), none, .o (.mov (.t 20))⟩])
 .ret)))⟩
def qf_s_l01Meet : QF := ⟨3, 68, [.t 6],
 (.seq (.reg [⟨(some 6), none, .o (.mov (.c .sn))⟩])
 (.seq (.reg [⟨(some 14), none, .o (.bsb 8 [])⟩,
 ⟨(some 7), none, .o (.mov (.t 14))⟩])
 (.seq (.reg [⟨(some 15), none, .o (.bld 0 64 [])⟩,
 ⟨(some 8), none, .o (.alo (.by 0 64))⟩,
 ⟨none, none, .sta (.t 8) (.t 15) 64⟩])
 (.seq (.seq (.reg [⟨(some 9), none, .o (.mov (.c (.i .i64 (0))))⟩])
 (.blk 0
 (.loop
 (.seq (.seq (.reg [⟨(some 16), none, .o (.mov (.t 9))⟩,
 ⟨(some 17), none, .o (.mov (.t 1))⟩,
 ⟨(some 18), none, .len (.t 17)⟩,
 ⟨(some 19), none, .o (.bin .lss (.t 16) (.t 18))⟩])
 (.cond (.t 19)
 .skip
 (.exit 0)))
 (.seq (.blk 1
 (.reg [⟨(some 22), none, .o (.mov (.t 9))⟩,
 ⟨(some 23), none, .o (.mov (.t 0))⟩,
 ⟨(some 24), none, .o (.mov (.t 1))⟩,
 ⟨(some 25), none, .o (.mov (.t 9))⟩,
 ⟨(some 26), none, .ids (.t 24) (.t 25) 8⟩,
 ⟨(some 27), none, .lda (.t 26) 0 8⟩,
 ⟨(some 28), none, .o (.mov (.t 2))⟩,
 ⟨(some 29), none, .call 272 [(.t 23), (.t 27), (.t 28)]⟩,
 ⟨(some 30), none, .o (.idx (.t 8) (.t 22) 8 8)⟩,
 ⟨none, none, .sta (.t 30) (.t 29) 8⟩]))
 (.reg [⟨(some 20), none, .o (.mov (.t 9))⟩,
 ⟨(some 21), none, .o (.bin .add (.t 20) (.c (.i .i64 (1))))⟩,
 ⟨(some 9), none, .o (.mov (.t 21))⟩]))))))
 (.seq (.reg [⟨(some 31), none, .o (.mov (.t 0))⟩,
 ⟨(some 32), none, .o (.mov (.t 1))⟩,
 ⟨(some 33), none, .len (.t 32)⟩,
 ⟨(some 34), none, .lda (.t 8) 0 64⟩,
 ⟨(some 35), none, .call 268 [(.t 31), (.t 33), (.t 34)]⟩,
 ⟨(some 10), none, .o (.mov (.t 35))⟩])
 (.seq (.seq (.reg [⟨(some 11), none, .o (.mov (.c (.i .i64 (0))))⟩])
 (.blk 2
 (.loop
 (.seq (.seq (.reg [⟨(some 36), none, .o (.mov (.t 11))⟩,
 ⟨(some 37), none, .o (.mov (.t 10))⟩,
 ⟨(some 38), none, .len (.t 37)⟩,
 ⟨(some 39), none, .o (.bin .lss (.t 36) (.t 38))⟩])
 (.cond (.t 39)
 .skip
 (.exit 2)))
 (.seq (.blk 3
 (.seq (.reg [⟨(some 42), none, .o (.bld 0 8 [])⟩,
 ⟨(some 12), none, .o (.alo (.by 0 8))⟩,
 ⟨none, none, .sta (.t 12) (.t 42) 8⟩])
 (.seq (.seq (.reg [⟨(some 13), none, .o (.mov (.c (.i .i64 (0))))⟩])
 (.blk 4
 (.loop
 (.seq (.seq (.reg [⟨(some 43), none, .o (.mov (.t 13))⟩,
 ⟨(some 44), none, .o (.mov (.t 1))⟩,
 ⟨(some 45), none, .len (.t 44)⟩,
 ⟨(some 46), none, .o (.bin .lss (.t 43) (.t 45))⟩])
 (.cond (.t 46)
 .skip
 (.exit 4)))
 (.seq (.blk 5
 (.drs [0, 0, 0, 0, 12, 28, 0, 0, 0, 192, 960, 1984, 4032, 8191, 16383]
 [(0, false, ⟨(some 49), none, .o (.mov (.t 0))⟩),
 (1, false, ⟨(some 50), none, .lda (.t 12) 0 8⟩),
 (2, false, ⟨(some 51), none, .o (.mov (.t 1))⟩),
 (3, false, ⟨(some 52), none, .o (.mov (.t 13))⟩),
 (4, false, ⟨(some 53), none, .ids (.t 51) (.t 52) 8⟩),
 (5, false, ⟨(some 54), none, .lda (.t 53) 0 8⟩),
 (6, false, ⟨(some 55), none, .o (.mov (.t 10))⟩),
 (7, false, ⟨(some 56), none, .o (.mov (.t 11))⟩),
 (8, false, ⟨(some 57), none, .o (.mov (.t 13))⟩),
 (9, false, ⟨(some 58), none, .ids (.t 55) (.t 56) 8⟩),
 (10, false, ⟨(some 59), none, .o (.idx (.t 58) (.t 57) 8 1)⟩),
 (11, false, ⟨(some 60), none, .ld1 (.t 59)⟩),
 (12, false, ⟨(some 61), none, .o (.cvt .i64 (.t 60))⟩),
 (13, false, ⟨(some 62), none, .calp 57 [(.t 49), (.t 50), (.t 54), (.t 61)]⟩),
 (14, false, ⟨none, none, .sta (.t 12) (.t 62) 8⟩)]))
 (.reg [⟨(some 47), none, .o (.mov (.t 13))⟩,
 ⟨(some 48), none, .o (.bin .add (.t 47) (.c (.i .i64 (1))))⟩,
 ⟨(some 13), none, .o (.mov (.t 48))⟩]))))))
 (.reg [⟨(some 63), none, .o (.mov (.t 0))⟩,
 ⟨(some 64), none, .o (.mov (.t 7))⟩,
 ⟨(some 65), none, .lda (.t 12) 0 8⟩,
 ⟨(some 66), none, .call 266 [(.t 63), (.t 64), (.t 65)]⟩,
 ⟨(some 7), none, .o (.mov (.t 66))⟩]))))
 (.reg [⟨(some 40), none, .o (.mov (.t 11))⟩,
 ⟨(some 41), none, .o (.bin .add (.t 40) (.c (.i .i64 (1))))⟩,
 ⟨(some 11), none, .o (.mov (.t 41))⟩]))))))
 (.seq (.reg [⟨(some 67), none, .o (.mov (.t 7))⟩,
 ⟨(some 6), none, .o (.mov (.t 67))⟩])
 .ret)))))))⟩
def qf_s_CentreOf : QF := ⟨1, 55, [.t 2, .t 3],
 (.seq (.reg [⟨(some 1), none, .o (.box (.t 0))⟩,
 ⟨(some 2), none, .o (.mov (.c .sn))⟩,
 ⟨(some 3), none, .o (.mov (.c (.i .i64 (0))))⟩])
 (.seq (.seq (.reg [⟨(some 8), none, .lda (.t 1) 2 522⟩,
 ⟨(some 9), none, .calp 76 [(.t 8)]⟩,
 ⟨(some 10), none, .o (.nt (.t 9))⟩])
 (.cond (.t 10)
 (.seq (.reg [⟨(some 2), none, .o (.mov (.c .sn))⟩,
 ⟨(some 3), none, .o (.mov (.c (.i .i64 (1))))⟩])
 .ret)
 .skip))
 (.seq (.reg [⟨(some 11), none, .o (.add (.t 1) 1)⟩,
 ⟨(some 12), none, .ld1 (.t 11)⟩,
 ⟨(some 13), none, .call 317 [(.t 12)]⟩,
 ⟨(some 4), none, .o (.mov (.t 13))⟩])
 (.seq (.seq (.reg [⟨(some 5), none, .o (.mov (.c (.i .i64 (0))))⟩])
 (.blk 0
 (.loop
 (.seq (.seq (.reg [⟨(some 14), none, .o (.mov (.t 5))⟩,
 ⟨(some 15), none, .o (.add (.t 1) 1)⟩,
 ⟨(some 16), none, .ld1 (.t 15)⟩,
 ⟨(some 17), none, .o (.bin .lss (.t 14) (.t 16))⟩])
 (.cond (.t 17)
 .skip
 (.exit 0)))
 (.seq (.blk 1
 (.seq (.reg [⟨(some 20), none, .o (.bld 0 64 [])⟩,
 ⟨(some 6), none, .o (.alo (.by 0 64))⟩,
 ⟨none, none, .sta (.t 6) (.t 20) 64⟩])
 (.seq (.seq (.reg [⟨(some 7), none, .o (.mov (.c (.i .i64 (0))))⟩])
 (.blk 2
 (.loop
 (.seq (.seq (.reg [⟨(some 21), none, .o (.mov (.t 7))⟩,
 ⟨(some 22), none, .o (.add (.t 1) 1)⟩,
 ⟨(some 23), none, .ld1 (.t 22)⟩,
 ⟨(some 24), none, .o (.bin .lss (.t 21) (.t 23))⟩])
 (.cond (.t 24)
 .skip
 (.exit 2)))
 (.seq (.blk 3
 (.drs [0, 0, 2, 0, 0, 0, 40, 120, 248, 0, 0, 0, 2560, 7680, 15872, 32766, 65535, 131071]
 [(0, false, ⟨(some 27), none, .o (.mov (.t 7))⟩),
 (1, false, ⟨(some 28), none, .o (.add (.t 1) 0)⟩),
 (2, false, ⟨(some 29), none, .ld1 (.t 28)⟩),
 (3, false, ⟨(some 30), none, .o (.mov (.t 7))⟩),
 (4, false, ⟨(some 31), none, .o (.mov (.t 5))⟩),
 (5, false, ⟨(some 32), none, .o (.add (.t 1) 10)⟩),
 (6, false, ⟨(some 33), none, .o (.idx (.t 32) (.t 30) 8 64)⟩),
 (7, false, ⟨(some 34), none, .o (.idx (.t 33) (.t 31) 8 8)⟩),
 (8, false, ⟨(some 35), none, .lda (.t 34) 0 8⟩),
 (9, false, ⟨(some 36), none, .o (.mov (.t 5))⟩),
 (10, false, ⟨(some 37), none, .o (.mov (.t 7))⟩),
 (11, false, ⟨(some 38), none, .o (.add (.t 1) 10)⟩),
 (12, false, ⟨(some 39), none, .o (.idx (.t 38) (.t 36) 8 64)⟩),
 (13, false, ⟨(some 40), none, .o (.idx (.t 39) (.t 37) 8 8)⟩),
 (14, false, ⟨(some 41), none, .lda (.t 40) 0 8⟩),
 (15, false, ⟨(some 42), none, .calp 57 [(.t 29), (.t 35), (.t 41), (.c (.i .i64 (-1)))]⟩),
 (16, false, ⟨(some 43), none, .o (.idx (.t 6) (.t 27) 8 8)⟩),
 (17, false, ⟨none, none, .sta (.t 43) (.t 42) 8⟩)]))
 (.reg [⟨(some 25), none, .o (.mov (.t 7))⟩,
 ⟨(some 26), none, .o (.bin .add (.t 25) (.c (.i .i64 (1))))⟩,
 ⟨(some 7), none, .o (.mov (.t 26))⟩]))))))
 (.drs [0, 1, 0, 0, 8, 0, 32, 0, 248, 511, 1023]
 [(0, false, ⟨(some 44), none, .o (.add (.t 1) 0)⟩),
 (1, true, ⟨(some 45), none, .ld1 (.t 44)⟩),
 (2, false, ⟨(some 46), none, .o (.mov (.t 4))⟩),
 (3, false, ⟨(some 47), none, .o (.add (.t 1) 0)⟩),
 (4, false, ⟨(some 48), none, .ld1 (.t 47)⟩),
 (5, false, ⟨(some 49), none, .o (.add (.t 1) 1)⟩),
 (6, false, ⟨(some 50), none, .ld1 (.t 49)⟩),
 (7, false, ⟨(some 51), none, .lda (.t 6) 0 64⟩),
 (8, false, ⟨(some 52), none, .call 268 [(.t 48), (.t 50), (.t 51)]⟩),
 (9, true, ⟨(some 53), none, .call 318 [(.t 45), (.t 46), (.t 52)]⟩),
 (10, false, ⟨(some 4), none, .o (.mov (.t 53))⟩)]))))
 (.reg [⟨(some 18), none, .o (.mov (.t 5))⟩,
 ⟨(some 19), none, .o (.bin .add (.t 18) (.c (.i .i64 (1))))⟩,
 ⟨(some 5), none, .o (.mov (.t 19))⟩]))))))
 (.seq (.reg [⟨(some 54), none, .o (.mov (.t 4))⟩,
 ⟨(some 2), none, .o (.mov (.t 54))⟩,
 ⟨(some 3), none, .o (.mov (.c (.i .i64 (0))))⟩])
 .ret)))))⟩
def qf_s_DrawIsCommutative : QF := ⟨1, 6, [.c 2 2 522],
 (.seq (.reg [⟨(some 2), none, .o (.alo (.by 2 522))⟩])
 (.seq (.reg [⟨(some 3), none, .o (.mov (.t 0))⟩,
 ⟨(some 4), none, .call 186 [(.t 3)]⟩,
 ⟨(some 5), none, .call 194 [(.t 4)]⟩,
 ⟨none, none, .sta (.t 2) (.t 5) 522⟩])
 .ret))⟩
def qf_s_IsCommutative : QF := ⟨1, 33, [.t 2, .t 3],
 (.seq (.reg [⟨(some 1), none, .o (.box (.t 0))⟩,
 ⟨(some 2), none, .o (.mov (.c (.b false)))⟩,
 ⟨(some 3), none, .o (.mov (.c (.i .i64 (0))))⟩])
 (.seq (.seq (.reg [⟨(some 6), none, .lda (.t 1) 2 522⟩,
 ⟨(some 7), none, .calp 76 [(.t 6)]⟩,
 ⟨(some 8), none, .o (.nt (.t 7))⟩])
 (.cond (.t 8)
 (.seq (.reg [⟨(some 2), none, .o (.mov (.c (.b false)))⟩,
 ⟨(some 3), none, .o (.mov (.c (.i .i64 (1))))⟩])
 .ret)
 .skip))
 (.seq (.seq (.reg [⟨(some 4), none, .o (.mov (.c (.i .i64 (0))))⟩])
 (.blk 0
 (.loop
 (.seq (.seq (.reg [⟨(some 9), none, .o (.mov (.t 4))⟩,
 ⟨(some 10), none, .o (.add (.t 1) 1)⟩,
 ⟨(some 11), none, .ld1 (.t 10)⟩,
 ⟨(some 12), none, .o (.bin .lss (.t 9) (.t 11))⟩])
 (.cond (.t 12)
 .skip
 (.exit 0)))
 (.seq (.blk 1
 (.seq (.reg [⟨(some 5), none, .o (.mov (.c (.i .i64 (0))))⟩])
 (.blk 2
 (.loop
 (.seq (.seq (.reg [⟨(some 15), none, .o (.mov (.t 5))⟩,
 ⟨(some 16), none, .o (.mov (.t 4))⟩,
 ⟨(some 17), none, .o (.bin .lss (.t 15) (.t 16))⟩])
 (.cond (.t 17)
 .skip
 (.exit 2)))
 (.seq (.blk 3
 (.seq (.drs [0, 0, 0, 5, 15, 31, 0, 0, 0, 320, 960, 1984, 4095]
 [(0, false, ⟨(some 20), none, .o (.mov (.t 4))⟩),
 (1, false, ⟨(some 21), none, .o (.mov (.t 5))⟩),
 (2, false, ⟨(some 22), none, .o (.add (.t 1) 10)⟩),
 (3, false, ⟨(some 23), none, .o (.idx (.t 22) (.t 20) 8 64)⟩),
 (4, false, ⟨(some 24), none, .o (.idx (.t 23) (.t 21) 8 8)⟩),
 (5, false, ⟨(some 25), none, .lda (.t 24) 0 8⟩),
 (6, false, ⟨(some 26), none, .o (.mov (.t 5))⟩),
 (7, false, ⟨(some 27), none, .o (.mov (.t 4))⟩),
 (8, false, ⟨(some 28), none, .o (.add (.t 1) 10)⟩),
 (9, false, ⟨(some 29), none, .o (.idx (.t 28) (.t 26) 8 64)⟩),
 (10, false, ⟨(some 30), none, .o (.idx (.t 29) (.t 27) 8 8)⟩),
 (11, false, ⟨(some 31), none, .lda (.t 30) 0 8⟩),
 (12, false, ⟨(some 32), none, .o (.eqa true 8 (.t 25) (.t 31))⟩)])
 (.cond (.t 32)
 (.seq (.reg [⟨(some 2), none, .o (.mov (.c (.b false)))⟩,
 ⟨(some 3), none, .o (.mov (.c (.i .i64 (0))))⟩])
 .ret)
 .skip)))
 (.reg [⟨(some 18), none, .o (.mov (.t 5))⟩,
 ⟨(some 19), none, .o (.bin .add (.t 18) (.c (.i .i64 (1))))⟩,
 ⟨(some 5), none, .o (.mov (.t 19))⟩])))))))
 (.reg [⟨(some 13), none, .o (.mov (.t 4))⟩,
 ⟨(some 14), none, .o (.bin .add (.t 13) (.c (.i .i64 (1))))⟩,
 ⟨(some 4), none, .o (.mov (.t 14))⟩]))))))
 (.seq (.reg [⟨(some 2), none, .o (.mov (.c (.b true)))⟩,
 ⟨(some 3), none, .o (.mov (.c (.i .i64 (0))))⟩])
 .ret))))⟩
def qf_s_l01Near : QF := ⟨2, 17, [.t 4],
 (.seq (.reg [⟨(some 4), none, .o (.mov (.c (.i .i64 (0))))⟩])
 (.seq (.seq (.reg [⟨(some 5), none, .o (.mov (.t 0))⟩,
 ⟨(some 6), none, .call 195 [(.t 5), (.c (.i .i64 (14)))]⟩,
 ⟨(some 7), none, .o (.bin .eql (.t 6) (.c (.i .i64 (0))))⟩])
 (.cond (.t 7)
 (.seq (.reg [⟨(some 8), none, .o (.mov (.t 0))⟩,
 ⟨(some 9), none, .o (.mov (.t 1))⟩,
 ⟨(some 10), none, .o (.bin .add (.t 9) (.c (.i .i64 (1))))⟩,
 ⟨(some 11), none, .o (.bsa [(.c (.i .i64 (-1))), (.t 10), (.c (.i .i64 (1099511627776))), (.c (.i .i64 (-4611686018427387904)))])⟩,
 ⟨(some 12), none, .call 205 [(.t 8), (.t 11)]⟩,
 ⟨(some 4), none, .o (.mov (.t 12))⟩])
 .ret)
 .skip))
 (.seq (.reg [⟨(some 13), none, .o (.mov (.t 0))⟩,
 ⟨(some 14), none, .o (.mov (.t 1))⟩,
 ⟨(some 15), none, .o (.bin .add (.t 14) (.c (.i .i64 (1))))⟩,
 ⟨(some 16), none, .call 195 [(.t 13), (.t 15)]⟩,
 ⟨(some 4), none, .o (.mov (.t 16))⟩])
 .ret)))⟩
def qf_s_DrawIsPrime : QF := ⟨1, 6, [.t 2],
 (.seq (.reg [⟨(some 2), none, .o (.mov (.c (.i .i64 (0))))⟩])
 (.seq (.reg [⟨(some 3), none, .o (.mov (.t 0))⟩,
 ⟨(some 4), none, .call 186 [(.t 3)]⟩,
 ⟨(some 5), none, .call 450 [(.t 4), (.c (.i .i64 (40)))]⟩,
 ⟨(some 2), none, .o (.mov (.t 5))⟩])
 .ret))⟩
def qf_l_likeInts : QF := ⟨2, 26, [.t 4],
 (.seq (.reg [⟨(some 4), none, .o (.mov (.c (.b false)))⟩])
 (.seq (.seq (.reg [⟨(some 6), none, .o (.mov (.t 0))⟩,
 ⟨(some 7), none, .len (.t 6)⟩,
 ⟨(some 8), none, .o (.mov (.t 1))⟩,
 ⟨(some 9), none, .len (.t 8)⟩,
 ⟨(some 10), none, .o (.bin .neq (.t 7) (.t 9))⟩])
 (.cond (.t 10)
 (.seq (.reg [⟨(some 4), none, .o (.mov (.c (.b false)))⟩])
 .ret)
 .skip))
 (.seq (.seq (.reg [⟨(some 5), none, .o (.mov (.c (.i .i64 (0))))⟩])
 (.blk 0
 (.loop
 (.seq (.seq (.reg [⟨(some 11), none, .o (.mov (.t 5))⟩,
 ⟨(some 12), none, .o (.mov (.t 0))⟩,
 ⟨(some 13), none, .len (.t 12)⟩,
 ⟨(some 14), none, .o (.bin .lss (.t 11) (.t 13))⟩])
 (.cond (.t 14)
 .skip
 (.exit 0)))
 (.seq (.blk 1
 (.seq (.drs [0, 0, 3, 7, 0, 0, 48, 112, 255]
 [(0, false, ⟨(some 17), none, .o (.mov (.t 0))⟩),
 (1, false, ⟨(some 18), none, .o (.mov (.t 5))⟩),
 (2, false, ⟨(some 19), none, .ids (.t 17) (.t 18) 1⟩),
 (3, false, ⟨(some 20), none, .ld1 (.t 19)⟩),
 (4, false, ⟨(some 21), none, .o (.mov (.t 1))⟩),
 (5, false, ⟨(some 22), none, .o (.mov (.t 5))⟩),
 (6, false, ⟨(some 23), none, .ids (.t 21) (.t 22) 1⟩),
 (7, false, ⟨(some 24), none, .ld1 (.t 23)⟩),
 (8, false, ⟨(some 25), none, .o (.bin .neq (.t 20) (.t 24))⟩)])
 (.cond (.t 25)
 (.seq (.reg [⟨(some 4), none, .o (.mov (.c (.b false)))⟩])
 .ret)
 .skip)))
 (.reg [⟨(some 15), none, .o (.mov (.t 5))⟩,
 ⟨(some 16), none, .o (.bin .add (.t 15) (.c (.i .i64 (1))))⟩,
 ⟨(some 5), none, .o (.mov (.t 16))⟩]))))))
 (.seq (.reg [⟨(some 4), none, .o (.mov (.c (.b true)))⟩])
 .ret))))⟩
def qf_l_vectors5 : QF := ⟨2, 26, [.t 4],
 (.seq (.reg [⟨(some 4), none, .o (.mov (.c (.b false)))⟩])
 (.seq (.seq (.reg [⟨(some 6), none, .o (.mov (.t 0))⟩,
 ⟨(some 7), none, .len (.t 6)⟩,
 ⟨(some 8), none, .o (.mov (.t 1))⟩,
 ⟨(some 9), none, .len (.t 8)⟩,
 ⟨(some 10), none, .o (.bin .neq (.t 7) (.t 9))⟩])
 (.cond (.t 10)
 (.seq (.reg [⟨(some 4), none, .o (.mov (.c (.b false)))⟩])
 .ret)
 .skip))
 (.seq (.seq (.reg [⟨(some 5), none, .o (.mov (.c (.i .i64 (0))))⟩])
 (.blk 0
 (.loop
 (.seq (.seq (.reg [⟨(some 11), none, .o (.mov (.t 5))⟩,
 ⟨(some 12), none, .o (.mov (.t 0))⟩,
 ⟨(some 13), none, .len (.t 12)⟩,
 ⟨(some 14), none, .o (.bin .lss (.t 11) (.t 13))⟩])
 (.cond (.t 14)
 .skip
 (.exit 0)))
 (.seq (.blk 1
 (.seq (.drs [0, 0, 3, 7, 0, 0, 48, 112, 255]
 [(0, false, ⟨(some 17), none, .o (.mov (.t 0))⟩),
 (1, false, ⟨(some 18), none, .o (.mov (.t 5))⟩),
 (2, false, ⟨(some 19), none, .ids (.t 17) (.t 18) 8⟩),
 (3, false, ⟨(some 20), none, .lda (.t 19) 0 8⟩),
 (4, false, ⟨(some 21), none, .o (.mov (.t 1))⟩),
 (5, false, ⟨(some 22), none, .o (.mov (.t 5))⟩),
 (6, false, ⟨(some 23), none, .ids (.t 21) (.t 22) 8⟩),
 (7, false, ⟨(some 24), none, .lda (.t 23) 0 8⟩),
 (8, false, ⟨(some 25), none, .o (.eqa true 8 (.t 20) (.t 24))⟩)])
 (.cond (.t 25)
 (.seq (.reg [⟨(some 4), none, .o (.mov (.c (.b false)))⟩])
 .ret)
 .skip)))
 (.reg [⟨(some 15), none, .o (.mov (.t 5))⟩,
 ⟨(some 16), none, .o (.bin .add (.t 15) (.c (.i .i64 (1))))⟩,
 ⟨(some 5), none, .o (.mov (.t 16))⟩]))))))
 (.seq (.reg [⟨(some 4), none, .o (.mov (.c (.b true)))⟩])
 .ret))))⟩
def qf_s_IsPrime : QF := ⟨1, 5, [.t 2],
 (.seq (.reg [⟨(some 2), none, .o (.mov (.c (.b false)))⟩])
 (.seq (.reg [⟨(some 3), none, .o (.mov (.t 0))⟩,
 ⟨(some 4), none, .calp 95 [(.t 3)]⟩,
 ⟨(some 2), none, .o (.mov (.t 4))⟩])
 .ret))⟩
def qf_l_FnAlgebras : QF := ⟨1, 253, [.t 2],
 (.seq (.reg [⟨(some 2), none, .o (.mov (.c (.b false)))⟩])
 (.seq (.seq (.reg [⟨(some 38), none, .o (.mov (.t 0))⟩,
 ⟨(some 39), none, .call 176 [(.t 38)]⟩])
 (.cond (.t 39)
 (.seq (.reg [⟨(some 2), none, .o (.mov (.c (.b true)))⟩])
 .ret)
 .skip))
 (.seq (.reg [⟨(some 40), none, .o (.mov (.t 0))⟩,
 ⟨(some 41), none, .call 434 [(.t 40)]⟩,
 ⟨(some 3), none, .o (.alo (.by 2 522))⟩,
 ⟨none, none, .sta (.t 3) (.t 41) 522⟩])
 (.seq (.reg [⟨(some 43), none, .lda (.t 3) 2 522⟩,
 ⟨(some 44), none, .calp 435 [(.t 43)]⟩,
 ⟨(some 42), none, .o (.mov (.t 44))⟩,
 ⟨(some 45), none, .o (.ext (.t 42) 0)⟩,
 ⟨(some 46), none, .o (.ext (.t 42) 1)⟩,
 ⟨(some 4), none, .o (.alo (.by 2 522))⟩,
 ⟨none, none, .sta (.t 4) (.t 45) 522⟩,
 ⟨(some 5), none, .o (.mov (.t 46))⟩])
 (.seq (.reg [⟨(some 48), none, .lda (.t 3) 2 522⟩,
 ⟨(some 49), none, .calp 436 [(.t 48)]⟩,
 ⟨(some 47), none, .o (.mov (.t 49))⟩,
 ⟨(some 50), none, .o (.ext (.t 47) 0)⟩,
 ⟨(some 51), none, .o (.ext (.t 47) 1)⟩,
 ⟨(some 6), none, .o (.alo (.by 2 522))⟩,
 ⟨none, none, .sta (.t 6) (.t 50) 522⟩,
 ⟨(some 7), none, .o (.mov (.t 51))⟩])
 (.seq (.seq (.drs [0, 0, 3, 7, 15, 15, 63, 127, 255, 511, 1023, 511, 4095, 8191, 16383]
 [(0, false, ⟨(some 52), none, .o (.mov (.t 7))⟩),
 (1, false, ⟨(some 53), none, .o (.mov (.t 5))⟩),
 (2, false, ⟨(some 54), none, .o (.bin .neq (.t 52) (.t 53))⟩),
 (3, false, ⟨(some 55), none, .o (.mov (.t 54))⟩),
 (4, false, ⟨(some 56), (some (55, false)), .lda (.t 6) 2 522⟩),
 (5, false, ⟨(some 57), (some (55, false)), .lda (.t 4) 2 522⟩),
 (6, false, ⟨(some 58), (some (55, false)), .eqs true 2 522 [(2, 8), (10, 512)] (.t 56) (.t 57)⟩),
 (7, false, ⟨(some 59), none, .o (.pick (.t 55) (.c (.b true)) (.t 58))⟩),
 (8, false, ⟨(some 60), none, .o (.mov (.t 59))⟩),
 (9, false, ⟨(some 61), (some (60, false)), .lda (.t 3) 2 522⟩),
 (10, false, ⟨(some 62), (some (60, false)), .calp 103 [(.t 61)]⟩),
 (11, false, ⟨(some 63), (some (60, false)), .lda (.t 3) 2 522⟩),
 (12, false, ⟨(some 64), (some (60, false)), .calp 439 [(.t 63)]⟩),
 (13, false, ⟨(some 65), (some (60, false)), .o (.eqb true (.t 62) (.t 64))⟩),
 (14, false, ⟨(some 66), none, .o (.pick (.t 60) (.c (.b true)) (.t 65))⟩)])
 (.cond (.t 66)
 (.seq (.reg [⟨(some 2), none, .o (.mov (.c (.b false)))⟩])
 .ret)
 .skip))
 (.cut (.seq (.reg [⟨(some 67), none, .o (.mov (.t 7))⟩,
 ⟨(some 68), none, .o (.bin .eql (.t 67) (.c (.i .i64 (0))))⟩])
 (.cond (.t 68)
 (.seq (.reg [⟨(some 70), none, .lda (.t 6) 2 522⟩,
 ⟨(some 71), none, .calp 436 [(.t 70)]⟩,
 ⟨(some 69), none, .o (.mov (.t 71))⟩,
 ⟨(some 72), none, .o (.ext (.t 69) 0)⟩,
 ⟨(some 73), none, .o (.ext (.t 69) 1)⟩,
 ⟨(some 8), none, .o (.alo (.by 2 522))⟩,
 ⟨none, none, .sta (.t 8) (.t 72) 522⟩,
 ⟨(some 9), none, .o (.mov (.t 73))⟩])
 (.seq (.reg [⟨(some 75), none, .lda (.t 3) 2 522⟩,
 ⟨(some 76), none, .call 441 [(.t 75)]⟩,
 ⟨(some 74), none, .o (.mov (.t 76))⟩,
 ⟨(some 77), none, .o (.ext (.t 74) 0)⟩,
 ⟨(some 78), none, .o (.ext (.t 74) 1)⟩,
 ⟨(some 10), none, .o (.mov (.t 77))⟩,
 ⟨(some 11), none, .o (.mov (.t 78))⟩])
 (.seq (.reg [⟨(some 80), none, .lda (.t 3) 2 522⟩,
 ⟨(some 81), none, .calp 471 [(.t 80)]⟩,
 ⟨(some 79), none, .o (.mov (.t 81))⟩,
 ⟨(some 82), none, .o (.ext (.t 79) 0)⟩,
 ⟨(some 83), none, .o (.ext (.t 79) 1)⟩,
 ⟨(some 12), none, .o (.mov (.t 82))⟩,
 ⟨(some 13), none, .o (.mov (.t 83))⟩])
 (.cut (.drt [0, 1, 0, 4, 0, 0, 48, 0, 128, 384, 1008, 2047, 4095, 8191, 8191, 16383, 65535]
 [(0, false, ⟨(some 85), none, .o (.add (.t 3) 0)⟩),
 (1, true, ⟨(some 86), none, .ld1 (.t 85)⟩),
 (2, false, ⟨(some 87), none, .o (.add (.t 3) 1)⟩),
 (3, true, ⟨(some 88), none, .ld1 (.t 87)⟩),
 (5, false, ⟨(some 90), none, .o (.mov (.t 10))⟩),
 (7, false, ⟨(some 92), none, .o (.add (.t 3) 2)⟩),
 (8, true, ⟨(some 93), none, .lda (.t 92) 0 8⟩)]
 [(4, false, ⟨(some 89), none, .o (.bsb 8 [])⟩),
 (6, false, ⟨(some 91), none, .apb 8 8 (.t 89) (.t 90)⟩),
 (9, false, ⟨(some 94), none, .o (.bsb 8 [(.t 93)])⟩),
 (10, false, ⟨(some 95), none, .apb 8 8 (.t 91) (.t 94)⟩),
 (11, true, ⟨(some 96), none, .call 412 [(.t 86), (.t 88), (.t 95)]⟩),
 (12, false, ⟨(some 84), none, .o (.mov (.t 96))⟩),
 (13, false, ⟨(some 97), none, .o (.ext (.t 84) 0)⟩),
 (14, false, ⟨(some 98), none, .o (.ext (.t 84) 1)⟩),
 (15, false, ⟨(some 14), none, .o (.mov (.t 97))⟩),
 (16, false, ⟨(some 15), none, .o (.mov (.t 98))⟩)])
 (.seq (.reg [⟨(some 99), none, .o (.mov (.t 9))⟩,
 ⟨(some 100), none, .o (.bin .neq (.t 99) (.c (.i .i64 (0))))⟩,
 ⟨(some 101), none, .o (.mov (.t 100))⟩,
 ⟨(some 102), (some (101, false)), .o (.mov (.t 11))⟩,
 ⟨(some 103), (some (101, false)), .o (.bin .neq (.t 102) (.c (.i .i64 (0))))⟩,
 ⟨(some 104), none, .o (.pick (.t 101) (.c (.b true)) (.t 103))⟩,
 ⟨(some 105), none, .o (.mov (.t 104))⟩,
 ⟨(some 106), (some (105, false)), .o (.mov (.t 13))⟩,
 ⟨(some 107), (some (105, false)), .o (.bin .neq (.t 106) (.c (.i .i64 (0))))⟩,
 ⟨(some 108), none, .o (.pick (.t 105) (.c (.b true)) (.t 107))⟩,
 ⟨(some 109), none, .o (.mov (.t 108))⟩,
 ⟨(some 110), (some (109, false)), .o (.mov (.t 15))⟩,
 ⟨(some 111), (some (109, false)), .o (.bin .neq (.t 110) (.c (.i .i64 (0))))⟩,
 ⟨(some 112), none, .o (.pick (.t 109) (.c (.b true)) (.t 111))⟩,
 ⟨(some 113), none, .o (.mov (.t 112))⟩,
 ⟨(some 114), (some (113, false)), .lda (.t 8) 2 522⟩,
 ⟨(some 115), (some (113, false)), .lda (.t 3) 2 522⟩,
 ⟨(some 116), (some (113, false)), .eqs true 2 522 [(2, 8), (10, 512)] (.t 114) (.t 115)⟩,
 ⟨(some 117), none, .o (.pick (.t 113) (.c (.b true)) (.t 116))⟩,
 ⟨(some 118), none, .o (.mov (.t 117))⟩,
 ⟨(some 119), (some (118, false)), .lda (.t 6) 2 522⟩,
 ⟨(some 120), (some (118, false)), .calp 103 [(.t 119)]⟩,
 ⟨(some 121), (some (118, false)), .o (.nt (.t 120))⟩,
 ⟨(some 122), none, .o (.pick (.t 118) (.c (.b true)) (.t 121))⟩,
 ⟨(some 123), none, .o (.mov (.t 122))⟩,
 ⟨(some 124), (some (123, false)), .o (.mov (.t 14))⟩,
 ⟨(some 125), (some (123, false)), .len (.t 124)⟩,
 ⟨(some 126), (some (123, false)), .o (.mov (.t 10))⟩,
 ⟨(some 127), (some (123, false)), .len (.t 126)⟩,
 ⟨(some 128), (some (123, false)), .o (.bin .neq (.t 125) (.t 127))⟩,
 ⟨(some 129), none, .o (.pick (.t 123) (.c (.b true)) (.t 128))⟩,
 ⟨(some 130), none, .o (.mov (.t 129))⟩,
 ⟨(some 131), (some (130, false)), .o (.mov (.t 12))⟩,
 ⟨(some 132), (some (130, false)), .o (.mov (.t 10))⟩,
 ⟨(some 133), (some (130, false)), .len (.t 132)⟩,
 ⟨(some 134), (some (130, false)), .o (.add (.t 3) 1)⟩,
 ⟨(some 135), (some (130, false)), .ld1 (.t 134)⟩,
 ⟨(some 136), (some (130, false)), .o (.bin .eql (.t 133) (.t 135))⟩,
 ⟨(some 137), (some (130, false)), .o (.eqb true (.t 131) (.t 136))⟩,
 ⟨(some 138), none, .o (.pick (.t 130) (.c (.b true)) (.t 137))⟩,
 ⟨(some 139), none, .o (.mov (.t 138))⟩,
 ⟨(some 140), (some (139, false)), .o (.mov (.t 12))⟩,
 ⟨(some 141), (some (139, false)), .lda (.t 6) 2 522⟩,
 ⟨(some 142), (some (139, false)), .lda (.t 3) 2 522⟩,
 ⟨(some 143), (some (139, false)), .eqs false 2 522 [(2, 8), (10, 512)] (.t 141) (.t 142)⟩,
 ⟨(some 144), (some (139, false)), .o (.eqb true (.t 140) (.t 143))⟩,
 ⟨(some 145), none, .o (.pick (.t 139) (.c (.b true)) (.t 144))⟩])
 (.cond (.t 145)
 (.seq (.reg [⟨(some 2), none, .o (.mov (.c (.b false)))⟩])
 .ret)
 .skip))))))
 .skip))
 (.seq (.reg [⟨(some 147), none, .o (.mov (.t 0))⟩,
 ⟨(some 148), none, .call 472 [(.t 147)]⟩,
 ⟨(some 146), none, .o (.mov (.t 148))⟩,
 ⟨(some 149), none, .o (.ext (.t 146) 0)⟩,
 ⟨(some 150), none, .o (.ext (.t 146) 1)⟩,
 ⟨(some 16), none, .o (.alo (.by 2 522))⟩,
 ⟨(some 17), none, .o (.alo (.by 2 522))⟩,
 ⟨none, none, .sta (.t 16) (.t 149) 522⟩,
 ⟨none, none, .sta (.t 17) (.t 150) 522⟩])
 (.seq (.reg [⟨(some 152), none, .lda (.t 16) 2 522⟩,
 ⟨(some 153), none, .lda (.t 17) 2 522⟩,
 ⟨(some 154), none, .calp 209 [(.t 152), (.t 153)]⟩,
 ⟨(some 151), none, .o (.mov (.t 154))⟩,
 ⟨(some 155), none, .o (.ext (.t 151) 0)⟩,
 ⟨(some 156), none, .o (.ext (.t 151) 1)⟩,
 ⟨(some 18), none, .o (.alo (.by 2 522))⟩,
 ⟨none, none, .sta (.t 18) (.t 155) 522⟩,
 ⟨(some 19), none, .o (.mov (.t 156))⟩])
 (.seq (.reg [⟨(some 158), none, .lda (.t 16) 2 522⟩,
 ⟨(some 159), none, .lda (.t 17) 2 522⟩,
 ⟨(some 160), none, .calp 442 [(.t 158), (.t 159)]⟩,
 ⟨(some 157), none, .o (.mov (.t 160))⟩,
 ⟨(some 161), none, .o (.ext (.t 157) 0)⟩,
 ⟨(some 162), none, .o (.ext (.t 157) 1)⟩,
 ⟨(some 20), none, .o (.alo (.by 2 522))⟩,
 ⟨none, none, .sta (.t 20) (.t 161) 522⟩,
 ⟨(some 21), none, .o (.mov (.t 162))⟩])
 (.cut (.seq (.reg [⟨(some 163), none, .o (.mov (.t 21))⟩,
 ⟨(some 164), none, .o (.mov (.t 19))⟩,
 ⟨(some 165), none, .o (.bin .neq (.t 163) (.t 164))⟩,
 ⟨(some 166), none, .o (.mov (.t 165))⟩,
 ⟨(some 167), (some (166, false)), .lda (.t 20) 2 522⟩,
 ⟨(some 168), (some (166, false)), .lda (.t 18) 2 522⟩,
 ⟨(some 169), (some (166, false)), .eqs true 2 522 [(2, 8), (10, 512)] (.t 167) (.t 168)⟩,
 ⟨(some 170), none, .o (.pick (.t 166) (.c (.b true)) (.t 169))⟩,
 ⟨(some 171), none, .o (.mov (.t 170))⟩,
 ⟨(some 172), (some (171, false)), .o (.mov (.t 21))⟩,
 ⟨(some 173), (some (171, false)), .o (.bin .eql (.t 172) (.c (.i .i64 (0))))⟩,
 ⟨(some 174), (some (171, false)), .o (.mov (.t 173))⟩,
 ⟨(some 175), (some (174, true)), .lda (.t 20) 2 522⟩,
 ⟨(some 176), (some (174, true)), .calp 103 [(.t 175)]⟩,
 ⟨(some 177), (some (174, true)), .o (.nt (.t 176))⟩,
 ⟨(some 178), (some (171, false)), .o (.pick (.t 174) (.t 177) (.c (.b false)))⟩,
 ⟨(some 179), none, .o (.pick (.t 171) (.c (.b true)) (.t 178))⟩])
 (.cond (.t 179)
 (.seq (.reg [⟨(some 2), none, .o (.mov (.c (.b false)))⟩])
 .ret)
 .skip))
 (.seq (.reg [⟨(some 180), none, .o (.mov (.t 0))⟩,
 ⟨(some 181), none, .call 443 [(.t 180)]⟩,
 ⟨(some 22), none, .o (.alo (.by 2 522))⟩,
 ⟨none, none, .sta (.t 22) (.t 181) 522⟩])
 (.seq (.reg [⟨(some 183), none, .lda (.t 22) 2 522⟩,
 ⟨(some 184), none, .call 444 [(.t 183)]⟩,
 ⟨(some 182), none, .o (.mov (.t 184))⟩,
 ⟨(some 185), none, .o (.ext (.t 182) 0)⟩,
 ⟨(some 186), none, .o (.ext (.t 182) 1)⟩,
 ⟨(some 23), none, .o (.mov (.t 185))⟩,
 ⟨(some 24), none, .o (.mov (.t 186))⟩])
 (.seq (.reg [⟨(some 188), none, .lda (.t 22) 2 522⟩,
 ⟨(some 189), none, .call 445 [(.t 188)]⟩,
 ⟨(some 187), none, .o (.mov (.t 189))⟩,
 ⟨(some 190), none, .o (.ext (.t 187) 0)⟩,
 ⟨(some 191), none, .o (.ext (.t 187) 1)⟩,
 ⟨(some 25), none, .o (.mov (.t 190))⟩,
 ⟨(some 26), none, .o (.mov (.t 191))⟩])
 (.seq (.reg [⟨(some 192), none, .o (.mov (.t 0))⟩,
 ⟨(some 193), none, .call 446 [(.t 192)]⟩,
 ⟨(some 27), none, .o (.alo (.by 2 522))⟩,
 ⟨none, none, .sta (.t 27) (.t 193) 522⟩])
 (.seq (.reg [⟨(some 195), none, .lda (.t 27) 2 522⟩,
 ⟨(some 196), none, .call 447 [(.t 195)]⟩,
 ⟨(some 194), none, .o (.mov (.t 196))⟩,
 ⟨(some 197), none, .o (.ext (.t 194) 0)⟩,
 ⟨(some 198), none, .o (.ext (.t 194) 1)⟩,
 ⟨(some 28), none, .o (.mov (.t 197))⟩,
 ⟨(some 29), none, .o (.mov (.t 198))⟩])
 (.seq (.reg [⟨(some 200), none, .lda (.t 27) 2 522⟩,
 ⟨(some 201), none, .call 441 [(.t 200)]⟩,
 ⟨(some 199), none, .o (.mov (.t 201))⟩,
 ⟨(some 202), none, .o (.ext (.t 199) 0)⟩,
 ⟨(some 203), none, .o (.ext (.t 199) 1)⟩,
 ⟨(some 30), none, .o (.mov (.t 202))⟩,
 ⟨(some 31), none, .o (.mov (.t 203))⟩])
 (.seq (.reg [⟨(some 204), none, .o (.mov (.t 0))⟩,
 ⟨(some 205), none, .call 448 [(.t 204)]⟩,
 ⟨(some 32), none, .o (.alo (.by 2 522))⟩,
 ⟨none, none, .sta (.t 32) (.t 205) 522⟩])
 (.seq (.reg [⟨(some 207), none, .lda (.t 32) 2 522⟩,
 ⟨(some 208), none, .calp 449 [(.t 207)]⟩,
 ⟨(some 206), none, .o (.mov (.t 208))⟩,
 ⟨(some 209), none, .o (.ext (.t 206) 0)⟩,
 ⟨(some 210), none, .o (.ext (.t 206) 1)⟩,
 ⟨(some 33), none, .o (.mov (.t 209))⟩,
 ⟨(some 34), none, .o (.mov (.t 210))⟩])
 (.seq (.reg [⟨(some 212), none, .lda (.t 32) 2 522⟩,
 ⟨(some 213), none, .calp 471 [(.t 212)]⟩,
 ⟨(some 211), none, .o (.mov (.t 213))⟩,
 ⟨(some 214), none, .o (.ext (.t 211) 0)⟩,
 ⟨(some 215), none, .o (.ext (.t 211) 1)⟩,
 ⟨(some 35), none, .o (.mov (.t 214))⟩,
 ⟨(some 36), none, .o (.mov (.t 215))⟩])
 (.seq (.reg [⟨(some 216), none, .o (.mov (.t 0))⟩,
 ⟨(some 217), none, .call 451 [(.t 216)]⟩,
 ⟨(some 37), none, .o (.mov (.t 217))⟩])
 (.seq (.reg [⟨(some 218), none, .o (.mov (.t 26))⟩,
 ⟨(some 219), none, .o (.mov (.t 24))⟩,
 ⟨(some 220), none, .o (.bin .eql (.t 218) (.t 219))⟩,
 ⟨(some 221), none, .o (.mov (.t 220))⟩,
 ⟨(some 222), (some (221, true)), .o (.mov (.t 25))⟩,
 ⟨(some 223), (some (221, true)), .o (.mov (.t 23))⟩,
 ⟨(some 224), (some (221, true)), .call 452 [(.t 222), (.t 223)]⟩,
 ⟨(some 225), none, .o (.pick (.t 221) (.t 224) (.c (.b false)))⟩,
 ⟨(some 226), none, .o (.mov (.t 225))⟩,
 ⟨(some 227), (some (226, true)), .o (.mov (.t 31))⟩,
 ⟨(some 228), (some (226, true)), .o (.mov (.t 29))⟩,
 ⟨(some 229), (some (226, true)), .o (.bin .eql (.t 227) (.t 228))⟩,
 ⟨(some 230), none, .o (.pick (.t 226) (.t 229) (.c (.b false)))⟩,
 ⟨(some 231), none, .o (.mov (.t 230))⟩,
 ⟨(some 232), (some (231, true)), .o (.mov (.t 30))⟩,
 ⟨(some 233), (some (231, true)), .o (.mov (.t 28))⟩,
 ⟨(some 234), (some (231, true)), .call 453 [(.t 232), (.t 233)]⟩,
 ⟨(some 235), none, .o (.pick (.t 231) (.t 234) (.c (.b false)))⟩,
 ⟨(some 236), none, .o (.mov (.t 235))⟩,
 ⟨(some 237), (some (236, true)), .o (.mov (.t 36))⟩,
 ⟨(some 238), (some (236, true)), .o (.mov (.t 34))⟩,
 ⟨(some 239), (some (236, true)), .o (.bin .eql (.t 237) (.t 238))⟩,
 ⟨(some 240), none, .o (.pick (.t 236) (.t 239) (.c (.b false)))⟩,
 ⟨(some 241), none, .o (.mov (.t 240))⟩,
 ⟨(some 242), (some (241, true)), .o (.mov (.t 35))⟩,
 ⟨(some 243), (some (241, true)), .o (.mov (.t 33))⟩,
 ⟨(some 244), (some (241, true)), .o (.eqb false (.t 242) (.t 243))⟩,
 ⟨(some 245), none, .o (.pick (.t 241) (.t 244) (.c (.b false)))⟩,
 ⟨(some 246), none, .o (.mov (.t 245))⟩,
 ⟨(some 247), (some (246, true)), .o (.mov (.t 37))⟩,
 ⟨(some 248), (some (246, true)), .calp 93 [(.t 247)]⟩,
 ⟨(some 249), (some (246, true)), .o (.mov (.t 37))⟩,
 ⟨(some 250), (some (246, true)), .calp 454 [(.t 249)]⟩,
 ⟨(some 251), (some (246, true)), .o (.eqb false (.t 248) (.t 250))⟩,
 ⟨(some 252), none, .o (.pick (.t 246) (.t 251) (.c (.b false)))⟩,
 ⟨(some 2), none, .o (.mov (.t 252))⟩])
 .ret))))))))))))))))))))))⟩
def F_i_Algebra_opposite (P : Program) (ρ : Nat → FuncId) : Prop := chkQF P ρ 438 qf_i_Algebra_opposite = true
def F_i_CentreOf_1 (P : Program) (ρ : Nat → FuncId) : Prop := chkQF P ρ 440 qf_i_CentreOf_1 = true
def F_i_newSystem (P : Program) (ρ : Nat → FuncId) : Prop := chkQF P ρ 271 qf_i_newSystem = true
def F_i_system_add (P : Program) (ρ : Nat → FuncId) : Prop := chkQF P ρ 286 qf_i_system_add = true ∧ E_i_field_mod P ρ
def F_i_system_solve_1 (P : Program) (ρ : Nat → FuncId) : Prop := chkQF P ρ 276 qf_i_system_solve_1 = true
def F_x_IndexFunc_R (P : Program) (ρ : Nat → FuncId) : Prop := chkQF P ρ 277 qf_x_IndexFunc_R = true
def F_i_field_inverse (P : Program) (ρ : Nat → FuncId) : Prop := chkQF P ρ 279 qf_i_field_inverse = true
def F_i_system_clear (P : Program) (ρ : Nat → FuncId) : Prop := chkQF P ρ 280 qf_i_system_clear = true ∧ F_i_field_inverse P ρ ∧ E_i_field_mod P ρ
def F_i_system_solve_2 (P : Program) (ρ : Nat → FuncId) : Prop := chkQF P ρ 282 qf_i_system_solve_2 = true
def F_x_ContainsFunc_R (P : Program) (ρ : Nat → FuncId) : Prop := chkQF P ρ 281 qf_x_ContainsFunc_R = true ∧ F_x_IndexFunc_R P ρ
def F_i_system_solve (P : Program) (ρ : Nat → FuncId) : Prop := chkQF P ρ 287 qf_i_system_solve = true ∧ F_i_system_solve_1 P ρ ∧ F_x_IndexFunc_R P ρ ∧ F_i_system_clear P ρ ∧ F_i_system_solve_2 P ρ ∧ F_x_ContainsFunc_R P ρ
def F_x_Index_I (P : Program) (ρ : Nat → FuncId) : Prop := chkQF P ρ 283 qf_x_Index_I = true
def F_x_Contains_I (P : Program) (ρ : Nat → FuncId) : Prop := chkQF P ρ 278 qf_x_Contains_I = true ∧ F_x_Index_I P ρ
def F_x_Clone_B (P : Program) (ρ : Nat → FuncId) : Prop := chkQF P ρ 289 qf_x_Clone_B = true
def F_i_reduced (P : Program) (ρ : Nat → FuncId) : Prop := chkQF P ρ 267 qf_i_reduced = true ∧ F_i_newSystem P ρ ∧ F_x_Clone_B P ρ ∧ F_i_system_solve P ρ
def F_i_system_spaces (P : Program) (ρ : Nat → FuncId) : Prop := chkQF P ρ 288 qf_i_system_spaces = true ∧ F_x_Contains_I P ρ ∧ E_i_basis P ρ ∧ E_i_field_mod P ρ ∧ F_i_reduced P ρ
def F_i_kernel (P : Program) (ρ : Nat → FuncId) : Prop := chkQF P ρ 265 qf_i_kernel = true ∧ F_i_newSystem P ρ ∧ F_i_system_add P ρ ∧ F_i_system_solve P ρ ∧ F_i_system_spaces P ρ
def F_i_CentreOf (P : Program) (ρ : Nat → FuncId) : Prop := chkQF P ρ 441 qf_i_CentreOf = true ∧ E_i_Algebra_code P ρ ∧ E_i_Algebra_field P ρ ∧ F_i_CentreOf_1 P ρ ∧ F_i_kernel P ρ
def F_i_FirstFault (P : Program) (ρ : Nat → FuncId) : Prop := chkQF P ρ 445 qf_i_FirstFault = true ∧ E_i_Algebra_isShaped P ρ ∧ E_i_Algebra_fault P ρ ∧ E_i_unless P ρ
def F_i_IsCommutative (P : Program) (ρ : Nat → FuncId) : Prop := chkQF P ρ 471 qf_i_IsCommutative = true ∧ E_i_Algebra_code P ρ ∧ F_i_Algebra_opposite P ρ
def F_i_OppositeAlgebra (P : Program) (ρ : Nat → FuncId) : Prop := chkQF P ρ 436 qf_i_OppositeAlgebra = true ∧ E_i_Algebra_code P ρ ∧ F_i_Algebra_opposite P ρ
def F_i_ProductAlgebra (P : Program) (ρ : Nat → FuncId) : Prop := chkQF P ρ 442 qf_i_ProductAlgebra = true ∧ E_i_Algebra_code P ρ ∧ E_i_unless P ρ ∧ E_i_first P ρ ∧ E_i_Algebra_field P ρ ∧ E_i_moved P ρ ∧ E_i_field_plus P ρ
def F_i_ReduceVectors_1 (P : Program) (ρ : Nat → FuncId) : Prop := chkQF P ρ 428 qf_i_ReduceVectors_1 = true ∧ E_i_IsVector P ρ
def F_x_IndexFunc_V2 (P : Program) (ρ : Nat → FuncId) : Prop := chkQF P ρ 91 qf_x_IndexFunc_V2 = true
def F_x_ContainsFunc_V2 (P : Program) (ρ : Nat → FuncId) : Prop := chkQF P ρ 70 qf_x_ContainsFunc_V2 = true ∧ F_x_IndexFunc_V2 P ρ
def F_i_ReduceVectors (P : Program) (ρ : Nat → FuncId) : Prop := chkQF P ρ 412 qf_i_ReduceVectors = true ∧ F_i_ReduceVectors_1 P ρ ∧ F_x_ContainsFunc_V2 P ρ ∧ E_i_IsVector P ρ ∧ F_i_reduced P ρ
def F_l_big (P : Program) (ρ : Nat → FuncId) : Prop := chkQF P ρ 176 qf_l_big = true
def F_s_l01From (P : Program) (ρ : Nat → FuncId) : Prop := chkQF P ρ 186 qf_s_l01From = true
def F_s_l01Next (P : Program) (ρ : Nat → FuncId) : Prop := chkQF P ρ 195 qf_s_l01Next = true
def F_s_l01Pick (P : Program) (ρ : Nat → FuncId) : Prop := chkQF P ρ 205 qf_s_l01Pick = true ∧ F_s_l01Next P ρ
def F_s_l01DrawPrime (P : Program) (ρ : Nat → FuncId) : Prop := chkQF P ρ 206 qf_s_l01DrawPrime = true ∧ F_s_l01Pick P ρ
def F_s_l01Cyclic (P : Program) (ρ : Nat → FuncId) : Prop := chkQF P ρ 196 qf_s_l01Cyclic = true
def F_s_l01Powers (P : Program) (ρ : Nat → FuncId) : Prop := chkQF P ρ 208 qf_s_l01Powers = true
def F_s_l01Matrices (P : Program) (ρ : Nat → FuncId) : Prop := chkQF P ρ 197 qf_s_l01Matrices = true
def F_s_ProductAlgebra (P : Program) (ρ : Nat → FuncId) : Prop := chkQF P ρ 209 qf_s_ProductAlgebra = true ∧ E_s_l01Is P ρ
def F_s_l01Draw (P : Program) (ρ : Nat → FuncId) : Prop := chkQF P ρ 203 qf_s_l01Draw = true ∧ F_s_l01DrawPrime P ρ ∧ F_s_l01Next P ρ ∧ F_s_l01Cyclic P ρ ∧ F_s_l01Powers P ρ ∧ F_s_l01Matrices P ρ ∧ F_s_ProductAlgebra P ρ
def F_s_l01Bad (P : Program) (ρ : Nat → FuncId) : Prop := chkQF P ρ 204 qf_s_l01Bad = true ∧ F_s_l01Next P ρ ∧ F_s_l01Pick P ρ
def F_s_l01Spoil (P : Program) (ρ : Nat → FuncId) : Prop := chkQF P ρ 194 qf_s_l01Spoil = true ∧ F_s_l01Draw P ρ ∧ F_s_l01Bad P ρ
def F_s_DrawOppositeAlgebra (P : Program) (ρ : Nat → FuncId) : Prop := chkQF P ρ 434 qf_s_DrawOppositeAlgebra = true ∧ F_s_l01From P ρ ∧ F_s_l01Spoil P ρ
def F_s_l01Opposite (P : Program) (ρ : Nat → FuncId) : Prop := chkQF P ρ 437 qf_s_l01Opposite = true
def F_s_OppositeAlgebra (P : Program) (ρ : Nat → FuncId) : Prop := chkQF P ρ 435 qf_s_OppositeAlgebra = true ∧ E_s_l01Is P ρ ∧ F_s_l01Opposite P ρ
def F_s_IsAlgebra (P : Program) (ρ : Nat → FuncId) : Prop := chkQF P ρ 439 qf_s_IsAlgebra = true ∧ E_s_l01Is P ρ
def F_s_DrawProductAlgebra (P : Program) (ρ : Nat → FuncId) : Prop := chkQF P ρ 472 qf_s_DrawProductAlgebra = true ∧ F_s_l01From P ρ ∧ F_s_l01Spoil P ρ ∧ F_s_l01Next P ρ ∧ F_s_l01Cyclic P ρ
def F_s_DrawFirstFault (P : Program) (ρ : Nat → FuncId) : Prop := chkQF P ρ 443 qf_s_DrawFirstFault = true ∧ F_s_l01From P ρ ∧ F_s_l01Spoil P ρ ∧ F_s_l01Next P ρ ∧ E_s_l01Shape P ρ
def F_s_FirstFault (P : Program) (ρ : Nat → FuncId) : Prop := chkQF P ρ 444 qf_s_FirstFault = true ∧ E_s_l01Shape P ρ ∧ E_s_l01Fault P ρ
def F_s_DrawCentreOf (P : Program) (ρ : Nat → FuncId) : Prop := chkQF P ρ 446 qf_s_DrawCentreOf = true ∧ F_s_l01From P ρ ∧ F_s_l01Spoil P ρ
def F_s_l01Whole (P : Program) (ρ : Nat → FuncId) : Prop := chkQF P ρ 317 qf_s_l01Whole = true ∧ E_s_l01Basis P ρ
def F_s_l01First (P : Program) (ρ : Nat → FuncId) : Prop := chkQF P ρ 273 qf_s_l01First = true
def F_s_l01Inverse (P : Program) (ρ : Nat → FuncId) : Prop := chkQF P ρ 274 qf_s_l01Inverse = true
def F_s_l01Solve (P : Program) (ρ : Nat → FuncId) : Prop := chkQF P ρ 275 qf_s_l01Solve = true ∧ E_s_l01Basis P ρ ∧ F_s_l01First P ρ ∧ E_s_l01Add P ρ ∧ E_s_l01Zero P ρ ∧ F_s_l01Inverse P ρ
def F_s_l01By (P : Program) (ρ : Nat → FuncId) : Prop := chkQF P ρ 272 qf_s_l01By = true ∧ F_s_l01First P ρ ∧ E_s_l01Add P ρ
def F_s_l01Put (P : Program) (ρ : Nat → FuncId) : Prop := chkQF P ρ 266 qf_s_l01Put = true ∧ F_s_l01By P ρ ∧ E_s_l01Zero P ρ ∧ F_s_l01First P ρ ∧ F_s_l01Inverse P ρ ∧ E_s_l01Add P ρ
def F_s_l01Reduce (P : Program) (ρ : Nat → FuncId) : Prop := chkQF P ρ 270 qf_s_l01Reduce = true ∧ F_s_l01Put P ρ
def F_s_l01Kernel (P : Program) (ρ : Nat → FuncId) : Prop := chkQF P ρ 268 qf_s_l01Kernel = true ∧ F_s_l01Solve P ρ ∧ F_s_l01Reduce P ρ
def F_s_l01Meet (P : Program) (ρ : Nat → FuncId) : Prop := chkQF P ρ 318 qf_s_l01Meet = true ∧ F_s_l01By P ρ ∧ F_s_l01Kernel P ρ ∧ E_s_l01Add P ρ ∧ F_s_l01Put P ρ
def F_s_CentreOf (P : Program) (ρ : Nat → FuncId) : Prop := chkQF P ρ 447 qf_s_CentreOf = true ∧ E_s_l01Is P ρ ∧ F_s_l01Whole P ρ ∧ E_s_l01Add P ρ ∧ F_s_l01Kernel P ρ ∧ F_s_l01Meet P ρ
def F_s_DrawIsCommutative (P : Program) (ρ : Nat → FuncId) : Prop := chkQF P ρ 448 qf_s_DrawIsCommutative = true ∧ F_s_l01From P ρ ∧ F_s_l01Spoil P ρ
def F_s_IsCommutative (P : Program) (ρ : Nat → FuncId) : Prop := chkQF P ρ 449 qf_s_IsCommutative = true ∧ E_s_l01Is P ρ
def F_s_l01Near (P : Program) (ρ : Nat → FuncId) : Prop := chkQF P ρ 450 qf_s_l01Near = true ∧ F_s_l01Next P ρ ∧ F_s_l01Pick P ρ
def F_s_DrawIsPrime (P : Program) (ρ : Nat → FuncId) : Prop := chkQF P ρ 451 qf_s_DrawIsPrime = true ∧ F_s_l01From P ρ ∧ F_s_l01Near P ρ
def F_l_likeInts (P : Program) (ρ : Nat → FuncId) : Prop := chkQF P ρ 452 qf_l_likeInts = true
def F_l_vectors5 (P : Program) (ρ : Nat → FuncId) : Prop := chkQF P ρ 453 qf_l_vectors5 = true
def F_s_IsPrime (P : Program) (ρ : Nat → FuncId) : Prop := chkQF P ρ 454 qf_s_IsPrime = true ∧ E_s_l01Prime P ρ
def F_l_FnAlgebras (P : Program) (ρ : Nat → FuncId) : Prop := chkQF P ρ 473 qf_l_FnAlgebras = true ∧ F_l_big P ρ ∧ F_s_DrawOppositeAlgebra P ρ ∧ F_s_OppositeAlgebra P ρ ∧ F_i_OppositeAlgebra P ρ ∧ E_i_IsAlgebra P ρ ∧ F_s_IsAlgebra P ρ ∧ F_i_CentreOf P ρ ∧ F_i_IsCommutative P ρ ∧ F_i_ReduceVectors P ρ ∧ F_s_DrawProductAlgebra P ρ ∧ F_s_ProductAlgebra P ρ ∧ F_i_ProductAlgebra P ρ ∧ F_s_DrawFirstFault P ρ ∧ F_s_FirstFault P ρ ∧ F_i_FirstFault P ρ ∧ F_s_DrawCentreOf P ρ ∧ F_s_CentreOf P ρ ∧ F_s_DrawIsCommutative P ρ ∧ F_s_IsCommutative P ρ ∧ F_s_DrawIsPrime P ρ ∧ F_l_likeInts P ρ ∧ F_l_vectors5 P ρ ∧ E_i_IsPrime P ρ ∧ F_s_IsPrime P ρ
end Hf
