/- Functions of the program in the second layer's small language. Written by gen2.py. -/
import Derived.Test.YtmelbommnopmaaaGreatX
import Derived.Test.YtmelbommnopmaaaGreatP
set_option linter.unusedVariables false
set_option linter.unusedSimpArgs false
namespace Hf
open Go
def qf_i_newSystem : QF := ⟨2, 10, [.t 4],
 (.seq (.reg [⟨(some 4), none, .o (.mov (.c .np))⟩])
 (.seq (.reg [⟨(some 5), none, .o (.mov (.t 0))⟩,
 ⟨(some 6), none, .o (.bld 2 2 [(0, 1, (.t 5)), (1, 1, (.c (.i .i64 (0))))])⟩,
 ⟨(some 7), none, .o (.mov (.t 1))⟩,
 ⟨(some 8), none, .bac [.i 0, .i 0, .i 0, .sn, .sn] [(0, 2, (.t 6)), (2, 1, (.t 7))]⟩,
 ⟨(some 9), none, .bxc (.t 8)⟩,
 ⟨(some 4), none, .o (.mov (.t 9))⟩])
 .ret))⟩
def qf_i_system_add : QF := ⟨3, 54, [],
 (.seq (.reg [⟨(some 9), none, .o (.mov (.t 0))⟩,
 ⟨(some 10), none, .o (.nck (.t 9))⟩,
 ⟨(some 11), none, .o (.add (.t 10) 2)⟩,
 ⟨(some 12), none, .ld1 (.t 11)⟩,
 ⟨(some 13), none, .o (.bin .add (.t 12) (.c (.i .i64 (1))))⟩,
 ⟨(some 14), none, .mkb 1 1 (.t 13)⟩,
 ⟨(some 6), none, .o (.mov (.t 14))⟩])
 (.seq (.seq (.reg [⟨(some 15), none, .o (.mov (.t 1))⟩,
 ⟨(some 16), none, .len (.t 15)⟩,
 ⟨(some 17), none, .o (.mov (.c (.i .i64 (0))))⟩])
 (.blk 0
 (.loop
 (.seq (.reg [⟨(some 18), none, .o (.bin .lss (.t 17) (.t 16))⟩])
 (.seq (.cond (.t 18)
 .skip
 (.exit 0))
 (.seq (.blk 1
 (.seq (.reg [⟨(some 19), none, .o (.mov (.t 17))⟩,
 ⟨(some 20), none, .ids (.t 15) (.t 17) 1⟩,
 ⟨(some 21), none, .ld1 (.t 20)⟩,
 ⟨(some 7), none, .o (.mov (.t 19))⟩,
 ⟨(some 8), none, .o (.mov (.t 21))⟩])
 (.reg [⟨(some 22), none, .o (.mov (.t 6))⟩,
 ⟨(some 23), none, .o (.mov (.t 7))⟩,
 ⟨(some 24), none, .o (.mov (.t 0))⟩,
 ⟨(some 25), none, .o (.nck (.t 24))⟩,
 ⟨(some 26), none, .o (.add (.t 25) 0)⟩,
 ⟨(some 27), none, .lda (.t 26) 2 2⟩,
 ⟨(some 28), none, .o (.mov (.t 8))⟩,
 ⟨(some 29), none, .calp 74 [(.t 27), (.t 28)]⟩,
 ⟨(some 30), none, .ids (.t 22) (.t 23) 1⟩,
 ⟨none, none, .st1 (.t 30) (.t 29)⟩])))
 (.reg [⟨(some 31), none, .o (.bin .add (.t 17) (.c (.i .i64 (1))))⟩,
 ⟨(some 17), none, .o (.mov (.t 31))⟩])))))))
 (.seq (.drs [0, 0, 2, 6, 14, 0, 32, 96, 224, 0, 992, 2047, 4095]
 [(0, false, ⟨(some 32), none, .o (.mov (.t 6))⟩),
 (1, false, ⟨(some 33), none, .o (.mov (.t 0))⟩),
 (2, false, ⟨(some 34), none, .o (.nck (.t 33))⟩),
 (3, false, ⟨(some 35), none, .o (.add (.t 34) 2)⟩),
 (4, false, ⟨(some 36), none, .ld1 (.t 35)⟩),
 (5, false, ⟨(some 37), none, .o (.mov (.t 0))⟩),
 (6, false, ⟨(some 38), none, .o (.nck (.t 37))⟩),
 (7, false, ⟨(some 39), none, .o (.add (.t 38) 0)⟩),
 (8, false, ⟨(some 40), none, .lda (.t 39) 2 2⟩),
 (9, false, ⟨(some 41), none, .o (.mov (.t 2))⟩),
 (10, false, ⟨(some 42), none, .calp 74 [(.t 40), (.t 41)]⟩),
 (11, false, ⟨(some 43), none, .ids (.t 32) (.t 36) 1⟩),
 (12, false, ⟨none, none, .st1 (.t 43) (.t 42)⟩)])
 (.reg [⟨(some 44), none, .o (.mov (.t 0))⟩,
 ⟨(some 45), none, .o (.mov (.t 0))⟩,
 ⟨(some 46), none, .o (.nck (.t 45))⟩,
 ⟨(some 47), none, .o (.add (.t 46) 3)⟩,
 ⟨(some 48), none, .ld1 (.t 47)⟩,
 ⟨(some 49), none, .o (.mov (.t 6))⟩,
 ⟨(some 50), none, .o (.bsa [(.t 49)])⟩,
 ⟨(some 51), none, .apr (.sn) 24 (.t 48) (.t 50)⟩,
 ⟨(some 52), none, .o (.nck (.t 44))⟩,
 ⟨(some 53), none, .o (.add (.t 52) 3)⟩,
 ⟨none, none, .st1 (.t 53) (.t 51)⟩]))))⟩
def qf_i_system_solve_1 : QF := ⟨2, 9, [.t 3],
 (.seq (.reg [⟨(some 3), none, .o (.mov (.c (.b false)))⟩])
 (.seq (.reg [⟨(some 4), none, .o (.mov (.t 0))⟩,
 ⟨(some 5), none, .ld1 (.t 1)⟩,
 ⟨(some 6), none, .ids (.t 4) (.t 5) 1⟩,
 ⟨(some 7), none, .ld1 (.t 6)⟩,
 ⟨(some 8), none, .o (.bin .neq (.t 7) (.c (.u 0)))⟩,
 ⟨(some 3), none, .o (.mov (.t 8))⟩])
 .ret))⟩
def qf_x_IndexFunc_R : QF := ⟨2, 19, [.t 4],
 (.seq (.reg [⟨(some 4), none, .o (.mov (.c (.i .i64 (0))))⟩])
 (.seq (.seq (.reg [⟨(some 6), none, .o (.mov (.t 0))⟩,
 ⟨(some 7), none, .len (.t 6)⟩,
 ⟨(some 8), none, .o (.mov (.c (.i .i64 (0))))⟩])
 (.blk 0
 (.loop
 (.seq (.reg [⟨(some 9), none, .o (.bin .lss (.t 8) (.t 7))⟩])
 (.seq (.cond (.t 9)
 .skip
 (.exit 0))
 (.seq (.blk 1
 (.seq (.reg [⟨(some 10), none, .o (.mov (.t 8))⟩,
 ⟨(some 5), none, .o (.mov (.t 10))⟩])
 (.seq (.reg [⟨(some 11), none, .o (.mov (.t 1))⟩,
 ⟨(some 12), none, .o (.mov (.t 0))⟩,
 ⟨(some 13), none, .o (.mov (.t 5))⟩,
 ⟨(some 14), none, .ids (.t 12) (.t 13) 1⟩,
 ⟨(some 15), none, .ld1 (.t 14)⟩,
 ⟨(some 16), none, .calv (.t 11) [(.t 15)]⟩])
 (.cond (.t 16)
 (.seq (.reg [⟨(some 17), none, .o (.mov (.t 5))⟩,
 ⟨(some 4), none, .o (.mov (.t 17))⟩])
 .ret)
 .skip))))
 (.reg [⟨(some 18), none, .o (.bin .add (.t 8) (.c (.i .i64 (1))))⟩,
 ⟨(some 8), none, .o (.mov (.t 18))⟩])))))))
 (.seq (.reg [⟨(some 4), none, .o (.mov (.c (.i .i64 (-1))))⟩])
 .ret)))⟩
def qf_i_field_inverse : QF := ⟨2, 24, [.t 4],
 (.seq (.reg [⟨(some 2), none, .o (.box (.t 0))⟩,
 ⟨(some 4), none, .o (.mov (.c (.i .i64 (0))))⟩])
 (.seq (.seq (.reg [⟨(some 5), none, .o (.mov (.c (.i .i64 (1))))⟩])
 (.blk 0
 (.loop
 (.seq (.seq (.reg [⟨(some 6), none, .o (.mov (.t 5))⟩,
 ⟨(some 7), none, .o (.add (.t 2) 0)⟩,
 ⟨(some 8), none, .ld1 (.t 7)⟩,
 ⟨(some 9), none, .o (.bin .lss (.t 6) (.t 8))⟩])
 (.cond (.t 9)
 .skip
 (.exit 0)))
 (.seq (.blk 1
 (.seq (.reg [⟨(some 12), none, .o (.mov (.t 5))⟩,
 ⟨(some 13), none, .o (.mov (.t 1))⟩,
 ⟨(some 14), none, .o (.cvt .i64 (.t 13))⟩,
 ⟨(some 15), none, .o (.bin .mul (.t 12) (.t 14))⟩,
 ⟨(some 16), none, .o (.add (.t 2) 0)⟩,
 ⟨(some 17), none, .ld1 (.t 16)⟩,
 ⟨(some 18), none, .o (.bin .rem (.t 15) (.t 17))⟩,
 ⟨(some 19), none, .o (.bin .eql (.t 18) (.c (.i .i64 (1))))⟩])
 (.cond (.t 19)
 (.seq (.reg [⟨(some 20), none, .o (.mov (.t 5))⟩,
 ⟨(some 4), none, .o (.mov (.t 20))⟩])
 .ret)
 .skip)))
 (.reg [⟨(some 10), none, .o (.mov (.t 5))⟩,
 ⟨(some 11), none, .o (.bin .add (.t 10) (.c (.i .i64 (1))))⟩,
 ⟨(some 5), none, .o (.mov (.t 11))⟩]))))))
 (.seq (.reg [⟨(some 21), none, .o (.add (.t 2) 0)⟩,
 ⟨(some 22), none, .ld1 (.t 21)⟩,
 ⟨(some 23), none, .o (.bin .rem (.c (.i .i64 (1))) (.t 22))⟩,
 ⟨(some 4), none, .o (.mov (.t 23))⟩])
 .ret)))⟩
def qf_i_system_clear : QF := ⟨3, 103, [],
 (.seq (.reg [⟨(some 15), none, .o (.mov (.t 0))⟩,
 ⟨(some 16), none, .o (.nck (.t 15))⟩,
 ⟨(some 17), none, .o (.add (.t 16) 3)⟩,
 ⟨(some 18), none, .ld1 (.t 17)⟩,
 ⟨(some 19), none, .o (.mov (.t 1))⟩,
 ⟨(some 20), none, .ids (.t 18) (.t 19) 1⟩,
 ⟨(some 21), none, .ld1 (.t 20)⟩,
 ⟨(some 6), none, .o (.mov (.t 21))⟩])
 (.seq (.drs [0, 1, 3, 7, 0, 0, 48, 112, 255, 511]
 [(0, false, ⟨(some 22), none, .o (.mov (.t 0))⟩),
 (1, false, ⟨(some 23), none, .o (.nck (.t 22))⟩),
 (2, false, ⟨(some 24), none, .o (.add (.t 23) 0)⟩),
 (3, false, ⟨(some 25), none, .lda (.t 24) 2 2⟩),
 (4, false, ⟨(some 26), none, .o (.mov (.t 6))⟩),
 (5, false, ⟨(some 27), none, .o (.mov (.t 2))⟩),
 (6, false, ⟨(some 28), none, .ids (.t 26) (.t 27) 1⟩),
 (7, false, ⟨(some 29), none, .ld1 (.t 28)⟩),
 (8, false, ⟨(some 30), none, .calp 279 [(.t 25), (.t 29)]⟩),
 (9, false, ⟨(some 7), none, .o (.mov (.t 30))⟩)])
 (.seq (.seq (.reg [⟨(some 31), none, .o (.mov (.t 6))⟩,
 ⟨(some 32), none, .len (.t 31)⟩,
 ⟨(some 33), none, .o (.mov (.c (.i .i64 (0))))⟩])
 (.blk 0
 (.loop
 (.seq (.reg [⟨(some 34), none, .o (.bin .lss (.t 33) (.t 32))⟩])
 (.seq (.cond (.t 34)
 .skip
 (.exit 0))
 (.seq (.blk 1
 (.seq (.reg [⟨(some 35), none, .o (.mov (.t 33))⟩,
 ⟨(some 36), none, .ids (.t 31) (.t 33) 1⟩,
 ⟨(some 37), none, .ld1 (.t 36)⟩,
 ⟨(some 8), none, .o (.mov (.t 35))⟩,
 ⟨(some 9), none, .o (.mov (.t 37))⟩])
 (.reg [⟨(some 38), none, .o (.mov (.t 6))⟩,
 ⟨(some 39), none, .o (.mov (.t 8))⟩,
 ⟨(some 40), none, .o (.mov (.t 0))⟩,
 ⟨(some 41), none, .o (.nck (.t 40))⟩,
 ⟨(some 42), none, .o (.add (.t 41) 0)⟩,
 ⟨(some 43), none, .lda (.t 42) 2 2⟩,
 ⟨(some 44), none, .o (.mov (.t 7))⟩,
 ⟨(some 45), none, .o (.mov (.t 9))⟩,
 ⟨(some 46), none, .o (.cvt .i64 (.t 45))⟩,
 ⟨(some 47), none, .o (.bin .mul (.t 44) (.t 46))⟩,
 ⟨(some 48), none, .calp 74 [(.t 43), (.t 47)]⟩,
 ⟨(some 49), none, .ids (.t 38) (.t 39) 1⟩,
 ⟨none, none, .st1 (.t 49) (.t 48)⟩])))
 (.reg [⟨(some 50), none, .o (.bin .add (.t 33) (.c (.i .i64 (1))))⟩,
 ⟨(some 33), none, .o (.mov (.t 50))⟩])))))))
 (.seq (.reg [⟨(some 51), none, .o (.mov (.t 0))⟩,
 ⟨(some 52), none, .o (.nck (.t 51))⟩,
 ⟨(some 53), none, .o (.add (.t 52) 3)⟩,
 ⟨(some 54), none, .ld1 (.t 53)⟩,
 ⟨(some 55), none, .len (.t 54)⟩,
 ⟨(some 56), none, .o (.mov (.c (.i .i64 (0))))⟩])
 (.blk 2
 (.loop
 (.seq (.reg [⟨(some 57), none, .o (.bin .lss (.t 56) (.t 55))⟩])
 (.seq (.cond (.t 57)
 .skip
 (.exit 2))
 (.seq (.blk 3
 (.seq (.reg [⟨(some 58), none, .o (.mov (.t 56))⟩,
 ⟨(some 59), none, .ids (.t 54) (.t 56) 1⟩,
 ⟨(some 60), none, .ld1 (.t 59)⟩,
 ⟨(some 10), none, .o (.mov (.t 58))⟩,
 ⟨(some 11), none, .o (.mov (.t 60))⟩])
 (.seq (.seq (.reg [⟨(some 61), none, .o (.mov (.t 10))⟩,
 ⟨(some 62), none, .o (.mov (.t 1))⟩,
 ⟨(some 63), none, .o (.bin .eql (.t 61) (.t 62))⟩,
 ⟨(some 64), none, .o (.mov (.t 63))⟩,
 ⟨(some 65), (some (64, false)), .o (.mov (.t 11))⟩,
 ⟨(some 66), (some (64, false)), .o (.mov (.t 2))⟩,
 ⟨(some 67), (some (64, false)), .ids (.t 65) (.t 66) 1⟩,
 ⟨(some 68), (some (64, false)), .ld1 (.t 67)⟩,
 ⟨(some 69), (some (64, false)), .o (.bin .eql (.t 68) (.c (.u 0)))⟩,
 ⟨(some 70), none, .o (.pick (.t 64) (.c (.b true)) (.t 69))⟩])
 (.cond (.t 70)
 (.exit 3)
 .skip))
 (.seq (.reg [⟨(some 71), none, .o (.mov (.t 11))⟩,
 ⟨(some 72), none, .o (.mov (.t 2))⟩,
 ⟨(some 73), none, .ids (.t 71) (.t 72) 1⟩,
 ⟨(some 74), none, .ld1 (.t 73)⟩,
 ⟨(some 75), none, .o (.cvt .i64 (.t 74))⟩,
 ⟨(some 12), none, .o (.mov (.t 75))⟩])
 (.seq (.reg [⟨(some 76), none, .o (.mov (.t 6))⟩,
 ⟨(some 77), none, .len (.t 76)⟩,
 ⟨(some 78), none, .o (.mov (.c (.i .i64 (0))))⟩])
 (.blk 4
 (.loop
 (.seq (.reg [⟨(some 79), none, .o (.bin .lss (.t 78) (.t 77))⟩])
 (.seq (.cond (.t 79)
 .skip
 (.exit 4))
 (.seq (.blk 5
 (.seq (.reg [⟨(some 80), none, .o (.mov (.t 78))⟩,
 ⟨(some 81), none, .ids (.t 76) (.t 78) 1⟩,
 ⟨(some 82), none, .ld1 (.t 81)⟩,
 ⟨(some 13), none, .o (.mov (.t 80))⟩,
 ⟨(some 14), none, .o (.mov (.t 82))⟩])
 (.drs [0, 0, 0, 4, 12, 28, 0, 0, 192, 448, 960, 0, 0, 4096, 14336, 32704, 65532, 131071, 262143]
 [(0, false, ⟨(some 83), none, .o (.mov (.t 11))⟩),
 (1, false, ⟨(some 84), none, .o (.mov (.t 13))⟩),
 (2, false, ⟨(some 85), none, .o (.mov (.t 0))⟩),
 (3, false, ⟨(some 86), none, .o (.nck (.t 85))⟩),
 (4, false, ⟨(some 87), none, .o (.add (.t 86) 0)⟩),
 (5, false, ⟨(some 88), none, .lda (.t 87) 2 2⟩),
 (6, false, ⟨(some 89), none, .o (.mov (.t 11))⟩),
 (7, false, ⟨(some 90), none, .o (.mov (.t 13))⟩),
 (8, false, ⟨(some 91), none, .ids (.t 89) (.t 90) 1⟩),
 (9, false, ⟨(some 92), none, .ld1 (.t 91)⟩),
 (10, false, ⟨(some 93), none, .o (.cvt .i64 (.t 92))⟩),
 (11, false, ⟨(some 94), none, .o (.mov (.t 12))⟩),
 (12, false, ⟨(some 95), none, .o (.mov (.t 14))⟩),
 (13, false, ⟨(some 96), none, .o (.cvt .i64 (.t 95))⟩),
 (14, false, ⟨(some 97), none, .o (.bin .mul (.t 94) (.t 96))⟩),
 (15, false, ⟨(some 98), none, .o (.bin .sub (.t 93) (.t 97))⟩),
 (16, false, ⟨(some 99), none, .calp 74 [(.t 88), (.t 98)]⟩),
 (17, false, ⟨(some 100), none, .ids (.t 83) (.t 84) 1⟩),
 (18, false, ⟨none, none, .st1 (.t 100) (.t 99)⟩)])))
 (.reg [⟨(some 101), none, .o (.bin .add (.t 78) (.c (.i .i64 (1))))⟩,
 ⟨(some 78), none, .o (.mov (.t 101))⟩])))))))))))
 (.reg [⟨(some 102), none, .o (.bin .add (.t 56) (.c (.i .i64 (1))))⟩,
 ⟨(some 56), none, .o (.mov (.t 102))⟩]))))))))))⟩
def qf_i_system_solve_2 : QF := ⟨2, 12, [.t 3],
 (.seq (.reg [⟨(some 3), none, .o (.mov (.c (.b false)))⟩])
 (.seq (.reg [⟨(some 4), none, .o (.mov (.t 0))⟩,
 ⟨(some 5), none, .ld1 (.t 1)⟩,
 ⟨(some 6), none, .o (.nck (.t 5))⟩,
 ⟨(some 7), none, .o (.add (.t 6) 2)⟩,
 ⟨(some 8), none, .ld1 (.t 7)⟩,
 ⟨(some 9), none, .ids (.t 4) (.t 8) 1⟩,
 ⟨(some 10), none, .ld1 (.t 9)⟩,
 ⟨(some 11), none, .o (.bin .neq (.t 10) (.c (.u 0)))⟩,
 ⟨(some 3), none, .o (.mov (.t 11))⟩])
 .ret))⟩
def qf_x_ContainsFunc_R : QF := ⟨2, 9, [.t 4],
 (.seq (.reg [⟨(some 4), none, .o (.mov (.c (.b false)))⟩])
 (.seq (.reg [⟨(some 5), none, .o (.mov (.t 0))⟩,
 ⟨(some 6), none, .o (.mov (.t 1))⟩,
 ⟨(some 7), none, .call 277 [(.t 5), (.t 6)]⟩,
 ⟨(some 8), none, .o (.bin .geq (.t 7) (.c (.i .i64 (0))))⟩,
 ⟨(some 4), none, .o (.mov (.t 8))⟩])
 .ret))⟩
def qf_i_system_solve : QF := ⟨1, 103, [.t 2],
 (.seq (.reg [⟨(some 1), none, .o (.box (.t 0))⟩,
 ⟨(some 2), none, .o (.mov (.c (.b false)))⟩])
 (.seq (.reg [⟨(some 3), none, .o (.mov (.c (.i .i64 (0))))⟩])
 (.seq (.reg [⟨(some 7), none, .ld1 (.t 1)⟩,
 ⟨(some 8), none, .o (.nck (.t 7))⟩,
 ⟨(some 9), none, .o (.add (.t 8) 4)⟩,
 ⟨none, none, .st1 (.t 9) (.c .sn)⟩])
 (.seq (.seq (.reg [⟨(some 4), none, .o (.alo .i)⟩,
 ⟨none, none, .st1 (.t 4) (.c (.i .i64 (0)))⟩])
 (.blk 0
 (.loop
 (.seq (.seq (.drs [0, 0, 2, 6, 14, 31, 63, 127, 127, 383, 895, 1919, 3967, 8191, 16383]
 [(0, false, ⟨(some 10), none, .ld1 (.t 4)⟩),
 (1, false, ⟨(some 11), none, .ld1 (.t 1)⟩),
 (2, false, ⟨(some 12), none, .o (.nck (.t 11))⟩),
 (3, false, ⟨(some 13), none, .o (.add (.t 12) 2)⟩),
 (4, false, ⟨(some 14), none, .ld1 (.t 13)⟩),
 (5, false, ⟨(some 15), none, .o (.bin .lss (.t 10) (.t 14))⟩),
 (6, false, ⟨(some 16), none, .o (.mov (.t 15))⟩),
 (7, false, ⟨(some 17), (some (16, true)), .o (.mov (.t 3))⟩),
 (8, false, ⟨(some 18), (some (16, true)), .ld1 (.t 1)⟩),
 (9, false, ⟨(some 19), (some (16, true)), .o (.nck (.t 18))⟩),
 (10, false, ⟨(some 20), (some (16, true)), .o (.add (.t 19) 3)⟩),
 (11, false, ⟨(some 21), (some (16, true)), .ld1 (.t 20)⟩),
 (12, false, ⟨(some 22), (some (16, true)), .len (.t 21)⟩),
 (13, false, ⟨(some 23), (some (16, true)), .o (.bin .lss (.t 17) (.t 22))⟩),
 (14, false, ⟨(some 24), none, .o (.pick (.t 16) (.t 23) (.c (.b false)))⟩)])
 (.cond (.t 24)
 .skip
 (.exit 0)))
 (.seq (.blk 1
 (.seq (.reg [⟨(some 27), none, .ld1 (.t 1)⟩,
 ⟨(some 28), none, .o (.nck (.t 27))⟩,
 ⟨(some 29), none, .o (.add (.t 28) 3)⟩,
 ⟨(some 30), none, .ld1 (.t 29)⟩,
 ⟨(some 31), none, .o (.mov (.t 3))⟩,
 ⟨(some 32), none, .slc (.t 30) (some (.t 31)) none 1⟩,
 ⟨(some 33), none, .o (.mkf 276 [] [(.t 4)])⟩,
 ⟨(some 34), none, .call 277 [(.t 32), (.t 33)]⟩,
 ⟨(some 5), none, .o (.mov (.t 34))⟩])
 (.seq (.seq (.reg [⟨(some 35), none, .o (.mov (.t 5))⟩,
 ⟨(some 36), none, .o (.bin .lss (.t 35) (.c (.i .i64 (0))))⟩])
 (.cond (.t 36)
 (.exit 1)
 .skip))
 (.seq (.drs [0, 1, 3, 7, 0, 0, 32, 96, 224, 0, 0, 1536, 0, 4096, 12288, 28672, 0, 0, 196608, 520192, 1044480, 0, 2097152, 6291456, 14680064, 0, 65011712, 132120576, 268431871, 536867327, 1073741823, 2147483647]
 [(0, false, ⟨(some 37), none, .ld1 (.t 1)⟩),
 (1, false, ⟨(some 38), none, .o (.nck (.t 37))⟩),
 (2, false, ⟨(some 39), none, .o (.add (.t 38) 3)⟩),
 (3, false, ⟨(some 40), none, .ld1 (.t 39)⟩),
 (4, false, ⟨(some 41), none, .o (.mov (.t 3))⟩),
 (5, false, ⟨(some 42), none, .ld1 (.t 1)⟩),
 (6, false, ⟨(some 43), none, .o (.nck (.t 42))⟩),
 (7, false, ⟨(some 44), none, .o (.add (.t 43) 3)⟩),
 (8, false, ⟨(some 45), none, .ld1 (.t 44)⟩),
 (9, false, ⟨(some 46), none, .o (.mov (.t 3))⟩),
 (10, false, ⟨(some 47), none, .o (.mov (.t 5))⟩),
 (11, false, ⟨(some 48), none, .o (.bin .add (.t 46) (.t 47))⟩),
 (12, false, ⟨(some 49), none, .ld1 (.t 1)⟩),
 (13, false, ⟨(some 50), none, .o (.nck (.t 49))⟩),
 (14, false, ⟨(some 51), none, .o (.add (.t 50) 3)⟩),
 (15, false, ⟨(some 52), none, .ld1 (.t 51)⟩),
 (16, false, ⟨(some 53), none, .o (.mov (.t 3))⟩),
 (17, false, ⟨(some 54), none, .o (.mov (.t 5))⟩),
 (18, false, ⟨(some 55), none, .o (.bin .add (.t 53) (.t 54))⟩),
 (19, false, ⟨(some 56), none, .ids (.t 52) (.t 55) 1⟩),
 (20, false, ⟨(some 57), none, .ld1 (.t 56)⟩),
 (21, false, ⟨(some 58), none, .ld1 (.t 1)⟩),
 (22, false, ⟨(some 59), none, .o (.nck (.t 58))⟩),
 (23, false, ⟨(some 60), none, .o (.add (.t 59) 3)⟩),
 (24, false, ⟨(some 61), none, .ld1 (.t 60)⟩),
 (25, false, ⟨(some 62), none, .o (.mov (.t 3))⟩),
 (26, false, ⟨(some 63), none, .ids (.t 61) (.t 62) 1⟩),
 (27, false, ⟨(some 64), none, .ld1 (.t 63)⟩),
 (28, false, ⟨(some 65), none, .ids (.t 40) (.t 41) 1⟩),
 (29, false, ⟨none, none, .st1 (.t 65) (.t 57)⟩),
 (30, false, ⟨(some 66), none, .ids (.t 45) (.t 48) 1⟩),
 (31, false, ⟨none, none, .st1 (.t 66) (.t 64)⟩)])
 (.seq (.reg [⟨(some 67), none, .ld1 (.t 1)⟩,
 ⟨(some 68), none, .o (.mov (.t 3))⟩,
 ⟨(some 69), none, .ld1 (.t 4)⟩,
 ⟨(some 70), none, .call 280 [(.t 67), (.t 68), (.t 69)]⟩])
 (.seq (.drs [0, 0, 2, 6, 14, 0, 32, 126, 255, 511, 1023]
 [(0, true, ⟨(some 71), none, .ld1 (.t 1)⟩),
 (1, true, ⟨(some 72), none, .ld1 (.t 1)⟩),
 (2, false, ⟨(some 73), none, .o (.nck (.t 72))⟩),
 (3, false, ⟨(some 74), none, .o (.add (.t 73) 4)⟩),
 (4, true, ⟨(some 75), none, .ld1 (.t 74)⟩),
 (5, false, ⟨(some 76), none, .ld1 (.t 4)⟩),
 (6, false, ⟨(some 77), none, .o (.bsa [(.t 76)])⟩),
 (7, false, ⟨(some 78), none, .apr (.i 0) 8 (.t 75) (.t 77)⟩),
 (8, false, ⟨(some 79), none, .o (.nck (.t 71))⟩),
 (9, false, ⟨(some 80), none, .o (.add (.t 79) 4)⟩),
 (10, true, ⟨none, none, .st1 (.t 80) (.t 78)⟩)])
 (.reg [⟨(some 81), none, .o (.mov (.t 3))⟩,
 ⟨(some 82), none, .o (.bin .add (.t 81) (.c (.i .i64 (1))))⟩,
 ⟨(some 3), none, .o (.mov (.t 82))⟩])))))))
 (.seq (.seq (.reg [⟨(some 83), none, .ld1 (.t 4)⟩])
 (.reg [⟨(some 4), none, .o (.alo .i)⟩,
 ⟨none, none, .st1 (.t 4) (.t 83)⟩]))
 (.reg [⟨(some 25), none, .ld1 (.t 4)⟩,
 ⟨(some 26), none, .o (.bin .add (.t 25) (.c (.i .i64 (1))))⟩,
 ⟨none, none, .st1 (.t 4) (.t 26)⟩])))))))
 (.seq (.reg [⟨(some 84), none, .ld1 (.t 1)⟩,
 ⟨(some 85), none, .o (.nck (.t 84))⟩,
 ⟨(some 86), none, .o (.add (.t 85) 3)⟩,
 ⟨(some 87), none, .ld1 (.t 86)⟩,
 ⟨(some 88), none, .o (.mov (.t 3))⟩,
 ⟨(some 89), none, .slc (.t 87) (some (.t 88)) none 1⟩,
 ⟨(some 6), none, .o (.mov (.t 89))⟩])
 (.seq (.drs [0, 0, 2, 6, 14, 0, 62, 127, 255, 511]
 [(0, false, ⟨(some 90), none, .ld1 (.t 1)⟩),
 (1, false, ⟨(some 91), none, .ld1 (.t 1)⟩),
 (2, false, ⟨(some 92), none, .o (.nck (.t 91))⟩),
 (3, false, ⟨(some 93), none, .o (.add (.t 92) 3)⟩),
 (4, false, ⟨(some 94), none, .ld1 (.t 93)⟩),
 (5, false, ⟨(some 95), none, .o (.mov (.t 3))⟩),
 (6, false, ⟨(some 96), none, .slc (.t 94) none (some (.t 95)) 1⟩),
 (7, false, ⟨(some 97), none, .o (.nck (.t 90))⟩),
 (8, false, ⟨(some 98), none, .o (.add (.t 97) 3)⟩),
 (9, false, ⟨none, none, .st1 (.t 98) (.t 96)⟩)])
 (.seq (.reg [⟨(some 99), none, .o (.mov (.t 6))⟩,
 ⟨(some 100), none, .o (.mkf 282 [] [(.t 1)])⟩,
 ⟨(some 101), none, .call 281 [(.t 99), (.t 100)]⟩,
 ⟨(some 102), none, .o (.nt (.t 101))⟩,
 ⟨(some 2), none, .o (.mov (.t 102))⟩])
 .ret)))))))⟩
def qf_i_system_free : QF := ⟨1, 13, [.t 2],
 (.seq (.reg [⟨(some 2), none, .o (.mov (.c (.i .i64 (0))))⟩])
 (.seq (.drs [0, 1, 3, 7, 0, 16, 48, 112, 240, 511, 1023]
 [(0, false, ⟨(some 3), none, .o (.mov (.t 0))⟩),
 (1, false, ⟨(some 4), none, .o (.nck (.t 3))⟩),
 (2, false, ⟨(some 5), none, .o (.add (.t 4) 2)⟩),
 (3, false, ⟨(some 6), none, .ld1 (.t 5)⟩),
 (4, false, ⟨(some 7), none, .o (.mov (.t 0))⟩),
 (5, false, ⟨(some 8), none, .o (.nck (.t 7))⟩),
 (6, false, ⟨(some 9), none, .o (.add (.t 8) 4)⟩),
 (7, false, ⟨(some 10), none, .ld1 (.t 9)⟩),
 (8, false, ⟨(some 11), none, .len (.t 10)⟩),
 (9, false, ⟨(some 12), none, .o (.bin .sub (.t 6) (.t 11))⟩),
 (10, false, ⟨(some 2), none, .o (.mov (.t 12))⟩)])
 .ret))⟩
def qf_i_DimensionOfMaps : QF := ⟨3, 108, [.t 6, .t 7],
 (.seq (.reg [⟨(some 3), none, .o (.box (.t 0))⟩,
 ⟨(some 4), none, .o (.box (.t 1))⟩,
 ⟨(some 5), none, .o (.box (.t 2))⟩,
 ⟨(some 6), none, .o (.mov (.c (.i .i64 (0))))⟩,
 ⟨(some 7), none, .o (.mov (.c (.i .i64 (0))))⟩])
 (.seq (.seq (.reg [⟨(some 18), none, .o (.bsa [(.t 4), (.t 5)])⟩,
 ⟨(some 19), none, .call 164 [(.t 3), (.t 18)]⟩,
 ⟨(some 8), none, .o (.mov (.t 19))⟩])
 (.seq (.reg [⟨(some 20), none, .o (.mov (.t 8))⟩,
 ⟨(some 21), none, .o (.bin .neq (.t 20) (.c (.i .i64 (0))))⟩])
 (.cond (.t 21)
 (.seq (.reg [⟨(some 22), none, .o (.mov (.t 8))⟩,
 ⟨(some 6), none, .o (.mov (.c (.i .i64 (0))))⟩,
 ⟨(some 7), none, .o (.mov (.t 22))⟩])
 .ret)
 .skip)))
 (.seq (.drs [0, 1, 0, 4, 3, 31]
 [(0, false, ⟨(some 23), none, .o (.add (.t 4) 0)⟩),
 (1, false, ⟨(some 24), none, .ld1 (.t 23)⟩),
 (2, false, ⟨(some 25), none, .o (.add (.t 5) 0)⟩),
 (3, false, ⟨(some 26), none, .ld1 (.t 25)⟩),
 (4, false, ⟨(some 9), none, .o (.mov (.t 24))⟩),
 (5, false, ⟨(some 10), none, .o (.mov (.t 26))⟩)])
 (.seq (.reg [⟨(some 27), none, .o (.add (.t 3) 0)⟩,
 ⟨(some 28), none, .ld1 (.t 27)⟩,
 ⟨(some 29), none, .o (.mov (.t 9))⟩,
 ⟨(some 30), none, .o (.mov (.t 10))⟩,
 ⟨(some 31), none, .o (.bin .mul (.t 29) (.t 30))⟩,
 ⟨(some 32), none, .call 271 [(.t 28), (.t 31)]⟩,
 ⟨(some 11), none, .o (.mov (.t 32))⟩])
 (.seq (.seq (.reg [⟨(some 33), none, .o (.add (.t 3) 1)⟩,
 ⟨(some 34), none, .ld1 (.t 33)⟩,
 ⟨(some 35), none, .o (.mov (.c (.i .i64 (0))))⟩])
 (.blk 0
 (.loop
 (.seq (.reg [⟨(some 36), none, .o (.bin .lss (.t 35) (.t 34))⟩])
 (.seq (.cond (.t 36)
 .skip
 (.exit 0))
 (.seq (.blk 1
 (.seq (.reg [⟨(some 37), none, .o (.mov (.t 35))⟩,
 ⟨(some 12), none, .o (.mov (.t 37))⟩])
 (.seq (.reg [⟨(some 38), none, .o (.mov (.t 9))⟩,
 ⟨(some 39), none, .o (.mov (.c (.i .i64 (0))))⟩])
 (.blk 2
 (.loop
 (.seq (.reg [⟨(some 40), none, .o (.bin .lss (.t 39) (.t 38))⟩])
 (.seq (.cond (.t 40)
 .skip
 (.exit 2))
 (.seq (.blk 3
 (.seq (.reg [⟨(some 41), none, .o (.mov (.t 39))⟩,
 ⟨(some 13), none, .o (.mov (.t 41))⟩])
 (.seq (.reg [⟨(some 42), none, .o (.mov (.t 10))⟩,
 ⟨(some 43), none, .o (.mov (.c (.i .i64 (0))))⟩])
 (.blk 4
 (.loop
 (.seq (.reg [⟨(some 44), none, .o (.bin .lss (.t 43) (.t 42))⟩])
 (.seq (.cond (.t 44)
 .skip
 (.exit 4))
 (.seq (.blk 5
 (.seq (.reg [⟨(some 45), none, .o (.mov (.t 43))⟩,
 ⟨(some 14), none, .o (.mov (.t 45))⟩])
 (.seq (.reg [⟨(some 46), none, .o (.mov (.t 9))⟩,
 ⟨(some 47), none, .o (.mov (.t 10))⟩,
 ⟨(some 48), none, .o (.bin .mul (.t 46) (.t 47))⟩,
 ⟨(some 49), none, .mkr (.i 0) 8 (.t 48)⟩,
 ⟨(some 15), none, .o (.mov (.t 49))⟩])
 (.seq (.seq (.reg [⟨(some 50), none, .o (.mov (.t 9))⟩,
 ⟨(some 51), none, .o (.mov (.c (.i .i64 (0))))⟩])
 (.blk 6
 (.loop
 (.seq (.reg [⟨(some 52), none, .o (.bin .lss (.t 51) (.t 50))⟩])
 (.seq (.cond (.t 52)
 .skip
 (.exit 6))
 (.seq (.blk 7
 (.seq (.reg [⟨(some 53), none, .o (.mov (.t 51))⟩,
 ⟨(some 16), none, .o (.mov (.t 53))⟩])
 (.drs [0, 0, 0, 6, 0, 30, 63, 127, 0, 0, 0, 0, 2304, 6912, 16128, 32512, 65280, 131071, 262143, 524287]
 [(0, false, ⟨(some 54), none, .o (.mov (.t 15))⟩),
 (1, false, ⟨(some 55), none, .o (.mov (.t 16))⟩),
 (2, false, ⟨(some 56), none, .o (.mov (.t 10))⟩),
 (3, false, ⟨(some 57), none, .o (.bin .mul (.t 55) (.t 56))⟩),
 (4, false, ⟨(some 58), none, .o (.mov (.t 14))⟩),
 (5, false, ⟨(some 59), none, .o (.bin .add (.t 57) (.t 58))⟩),
 (6, false, ⟨(some 60), none, .ids (.t 54) (.t 59) 1⟩),
 (7, false, ⟨(some 61), none, .ld1 (.t 60)⟩),
 (8, false, ⟨(some 62), none, .o (.mov (.t 12))⟩),
 (9, false, ⟨(some 63), none, .o (.mov (.t 13))⟩),
 (10, false, ⟨(some 64), none, .o (.mov (.t 16))⟩),
 (11, false, ⟨(some 65), none, .o (.add (.t 4) 1)⟩),
 (12, false, ⟨(some 66), none, .o (.idx (.t 65) (.t 62) 8 64)⟩),
 (13, false, ⟨(some 67), none, .o (.idx (.t 66) (.t 63) 8 8)⟩),
 (14, false, ⟨(some 68), none, .o (.idx (.t 67) (.t 64) 8 1)⟩),
 (15, false, ⟨(some 69), none, .ld1 (.t 68)⟩),
 (16, false, ⟨(some 70), none, .o (.cvt .i64 (.t 69))⟩),
 (17, false, ⟨(some 71), none, .o (.bin .add (.t 61) (.t 70))⟩),
 (18, false, ⟨(some 72), none, .ids (.t 54) (.t 59) 1⟩),
 (19, false, ⟨none, none, .st1 (.t 72) (.t 71)⟩)])))
 (.reg [⟨(some 73), none, .o (.bin .add (.t 51) (.c (.i .i64 (1))))⟩,
 ⟨(some 51), none, .o (.mov (.t 73))⟩])))))))
 (.seq (.seq (.reg [⟨(some 74), none, .o (.mov (.t 10))⟩,
 ⟨(some 75), none, .o (.mov (.c (.i .i64 (0))))⟩])
 (.blk 8
 (.loop
 (.seq (.reg [⟨(some 76), none, .o (.bin .lss (.t 75) (.t 74))⟩])
 (.seq (.cond (.t 76)
 .skip
 (.exit 8))
 (.seq (.blk 9
 (.seq (.reg [⟨(some 77), none, .o (.mov (.t 75))⟩,
 ⟨(some 17), none, .o (.mov (.t 77))⟩])
 (.drs [0, 0, 0, 6, 0, 30, 63, 127, 0, 0, 0, 0, 2304, 6912, 16128, 32512, 65280, 131071, 262143, 524287]
 [(0, false, ⟨(some 78), none, .o (.mov (.t 15))⟩),
 (1, false, ⟨(some 79), none, .o (.mov (.t 13))⟩),
 (2, false, ⟨(some 80), none, .o (.mov (.t 10))⟩),
 (3, false, ⟨(some 81), none, .o (.bin .mul (.t 79) (.t 80))⟩),
 (4, false, ⟨(some 82), none, .o (.mov (.t 17))⟩),
 (5, false, ⟨(some 83), none, .o (.bin .add (.t 81) (.t 82))⟩),
 (6, false, ⟨(some 84), none, .ids (.t 78) (.t 83) 1⟩),
 (7, false, ⟨(some 85), none, .ld1 (.t 84)⟩),
 (8, false, ⟨(some 86), none, .o (.mov (.t 12))⟩),
 (9, false, ⟨(some 87), none, .o (.mov (.t 17))⟩),
 (10, false, ⟨(some 88), none, .o (.mov (.t 14))⟩),
 (11, false, ⟨(some 89), none, .o (.add (.t 5) 1)⟩),
 (12, false, ⟨(some 90), none, .o (.idx (.t 89) (.t 86) 8 64)⟩),
 (13, false, ⟨(some 91), none, .o (.idx (.t 90) (.t 87) 8 8)⟩),
 (14, false, ⟨(some 92), none, .o (.idx (.t 91) (.t 88) 8 1)⟩),
 (15, false, ⟨(some 93), none, .ld1 (.t 92)⟩),
 (16, false, ⟨(some 94), none, .o (.cvt .i64 (.t 93))⟩),
 (17, false, ⟨(some 95), none, .o (.bin .sub (.t 85) (.t 94))⟩),
 (18, false, ⟨(some 96), none, .ids (.t 78) (.t 83) 1⟩),
 (19, false, ⟨none, none, .st1 (.t 96) (.t 95)⟩)])))
 (.reg [⟨(some 97), none, .o (.bin .add (.t 75) (.c (.i .i64 (1))))⟩,
 ⟨(some 75), none, .o (.mov (.t 97))⟩])))))))
 (.reg [⟨(some 98), none, .o (.mov (.t 11))⟩,
 ⟨(some 99), none, .o (.mov (.t 15))⟩,
 ⟨(some 100), none, .call 286 [(.t 98), (.t 99), (.c (.i .i64 (0)))]⟩]))))))
 (.reg [⟨(some 101), none, .o (.bin .add (.t 43) (.c (.i .i64 (1))))⟩,
 ⟨(some 43), none, .o (.mov (.t 101))⟩])))))))))
 (.reg [⟨(some 102), none, .o (.bin .add (.t 39) (.c (.i .i64 (1))))⟩,
 ⟨(some 39), none, .o (.mov (.t 102))⟩])))))))))
 (.reg [⟨(some 103), none, .o (.bin .add (.t 35) (.c (.i .i64 (1))))⟩,
 ⟨(some 35), none, .o (.mov (.t 103))⟩])))))))
 (.seq (.reg [⟨(some 104), none, .o (.mov (.t 11))⟩,
 ⟨(some 105), none, .call 287 [(.t 104)]⟩])
 (.seq (.reg [⟨(some 106), none, .o (.mov (.t 11))⟩,
 ⟨(some 107), none, .call 395 [(.t 106)]⟩,
 ⟨(some 6), none, .o (.mov (.t 107))⟩,
 ⟨(some 7), none, .o (.mov (.c (.i .i64 (0))))⟩])
 .ret)))))))⟩
def qf_s_l01Inverse : QF := ⟨2, 20, [.t 4],
 (.seq (.reg [⟨(some 4), none, .o (.mov (.c (.u 0)))⟩])
 (.seq (.seq (.reg [⟨(some 5), none, .o (.mov (.c (.i .i64 (1))))⟩])
 (.blk 0
 (.loop
 (.seq (.seq (.reg [⟨(some 6), none, .o (.mov (.t 5))⟩,
 ⟨(some 7), none, .o (.mov (.t 0))⟩,
 ⟨(some 8), none, .o (.bin .lss (.t 6) (.t 7))⟩])
 (.cond (.t 8)
 .skip
 (.exit 0)))
 (.seq (.blk 1
 (.seq (.reg [⟨(some 11), none, .o (.mov (.t 5))⟩,
 ⟨(some 12), none, .o (.mov (.t 1))⟩,
 ⟨(some 13), none, .o (.cvt .i64 (.t 12))⟩,
 ⟨(some 14), none, .o (.bin .mul (.t 11) (.t 13))⟩,
 ⟨(some 15), none, .o (.mov (.t 0))⟩,
 ⟨(some 16), none, .o (.bin .rem (.t 14) (.t 15))⟩,
 ⟨(some 17), none, .o (.bin .eql (.t 16) (.c (.i .i64 (1))))⟩])
 (.cond (.t 17)
 (.seq (.reg [⟨(some 18), none, .o (.mov (.t 5))⟩,
 ⟨(some 19), none, .o (.cvt .u8 (.t 18))⟩,
 ⟨(some 4), none, .o (.mov (.t 19))⟩])
 .ret)
 .skip)))
 (.reg [⟨(some 9), none, .o (.mov (.t 5))⟩,
 ⟨(some 10), none, .o (.bin .add (.t 9) (.c (.i .i64 (1))))⟩,
 ⟨(some 5), none, .o (.mov (.t 10))⟩]))))))
 (.seq (.reg [⟨(some 4), none, .o (.mov (.c (.u 0)))⟩])
 .ret)))⟩
def qf_s_l06Rank : QF := ⟨2, 133, [.t 4],
 (.seq (.reg [⟨(some 4), none, .o (.mov (.c (.i .i64 (0))))⟩])
 (.seq (.reg [⟨(some 5), none, .o (.mov (.c (.i .i64 (0))))⟩])
 (.seq (.seq (.reg [⟨(some 6), none, .o (.mov (.c (.i .i64 (0))))⟩])
 (.blk 0
 (.loop
 (.seq (.seq (.reg [⟨(some 14), none, .o (.mov (.t 1))⟩,
 ⟨(some 15), none, .len (.t 14)⟩,
 ⟨(some 16), none, .o (.bin .gtr (.t 15) (.c (.i .i64 (0))))⟩,
 ⟨(some 17), none, .o (.mov (.t 16))⟩,
 ⟨(some 18), (some (17, true)), .o (.mov (.t 6))⟩,
 ⟨(some 19), (some (17, true)), .o (.mov (.t 1))⟩,
 ⟨(some 20), (some (17, true)), .ids (.t 19) (.c (.i .i64 (0))) 1⟩,
 ⟨(some 21), (some (17, true)), .ld1 (.t 20)⟩,
 ⟨(some 22), (some (17, true)), .len (.t 21)⟩,
 ⟨(some 23), (some (17, true)), .o (.bin .lss (.t 18) (.t 22))⟩,
 ⟨(some 24), none, .o (.pick (.t 17) (.t 23) (.c (.b false)))⟩])
 (.cond (.t 24)
 .skip
 (.exit 0)))
 (.seq (.blk 1
 (.seq (.reg [⟨(some 27), none, .o (.mov (.t 5))⟩,
 ⟨(some 7), none, .o (.mov (.t 27))⟩])
 (.seq (.blk 2
 (.loop
 (.seq (.seq (.reg [⟨(some 28), none, .o (.mov (.t 7))⟩,
 ⟨(some 29), none, .o (.mov (.t 1))⟩,
 ⟨(some 30), none, .len (.t 29)⟩,
 ⟨(some 31), none, .o (.bin .lss (.t 28) (.t 30))⟩,
 ⟨(some 32), none, .o (.mov (.t 31))⟩,
 ⟨(some 33), (some (32, true)), .o (.mov (.t 1))⟩,
 ⟨(some 34), (some (32, true)), .o (.mov (.t 7))⟩,
 ⟨(some 35), (some (32, true)), .ids (.t 33) (.t 34) 1⟩,
 ⟨(some 36), (some (32, true)), .ld1 (.t 35)⟩,
 ⟨(some 37), (some (32, true)), .o (.mov (.t 6))⟩,
 ⟨(some 38), (some (32, true)), .ids (.t 36) (.t 37) 1⟩,
 ⟨(some 39), (some (32, true)), .ld1 (.t 38)⟩,
 ⟨(some 40), (some (32, true)), .o (.bin .eql (.t 39) (.c (.i .i64 (0))))⟩,
 ⟨(some 41), none, .o (.pick (.t 32) (.t 40) (.c (.b false)))⟩])
 (.cond (.t 41)
 .skip
 (.exit 2)))
 (.blk 3
 (.reg [⟨(some 42), none, .o (.mov (.t 7))⟩,
 ⟨(some 43), none, .o (.bin .add (.t 42) (.c (.i .i64 (1))))⟩,
 ⟨(some 7), none, .o (.mov (.t 43))⟩])))))
 (.seq (.seq (.reg [⟨(some 44), none, .o (.mov (.t 7))⟩,
 ⟨(some 45), none, .o (.mov (.t 1))⟩,
 ⟨(some 46), none, .len (.t 45)⟩,
 ⟨(some 47), none, .o (.bin .eql (.t 44) (.t 46))⟩])
 (.cond (.t 47)
 (.exit 1)
 .skip))
 (.seq (.reg [⟨(some 48), none, .o (.mov (.t 1))⟩,
 ⟨(some 49), none, .o (.mov (.t 7))⟩,
 ⟨(some 50), none, .ids (.t 48) (.t 49) 1⟩,
 ⟨(some 51), none, .ld1 (.t 50)⟩,
 ⟨(some 8), none, .o (.mov (.t 51))⟩])
 (.seq (.reg [⟨(some 52), none, .o (.mov (.t 1))⟩,
 ⟨(some 53), none, .o (.mov (.t 7))⟩,
 ⟨(some 54), none, .o (.mov (.t 1))⟩,
 ⟨(some 55), none, .o (.mov (.t 5))⟩,
 ⟨(some 56), none, .ids (.t 54) (.t 55) 1⟩,
 ⟨(some 57), none, .ld1 (.t 56)⟩,
 ⟨(some 58), none, .ids (.t 52) (.t 53) 1⟩,
 ⟨none, none, .st1 (.t 58) (.t 57)⟩])
 (.seq (.reg [⟨(some 59), none, .o (.mov (.t 1))⟩,
 ⟨(some 60), none, .o (.mov (.t 5))⟩,
 ⟨(some 61), none, .o (.mov (.t 8))⟩,
 ⟨(some 62), none, .ids (.t 59) (.t 60) 1⟩,
 ⟨none, none, .st1 (.t 62) (.t 61)⟩])
 (.seq (.reg [⟨(some 63), none, .o (.mov (.t 0))⟩,
 ⟨(some 64), none, .o (.mov (.t 8))⟩,
 ⟨(some 65), none, .o (.mov (.t 6))⟩,
 ⟨(some 66), none, .ids (.t 64) (.t 65) 1⟩,
 ⟨(some 67), none, .ld1 (.t 66)⟩,
 ⟨(some 68), none, .o (.cvt .u8 (.t 67))⟩,
 ⟨(some 69), none, .calp 274 [(.t 63), (.t 68)]⟩,
 ⟨(some 70), none, .o (.cvt .i64 (.t 69))⟩,
 ⟨(some 9), none, .o (.mov (.t 70))⟩])
 (.seq (.seq (.reg [⟨(some 71), none, .o (.mov (.t 5))⟩,
 ⟨(some 72), none, .o (.bin .add (.t 71) (.c (.i .i64 (1))))⟩,
 ⟨(some 10), none, .o (.mov (.t 72))⟩])
 (.blk 4
 (.loop
 (.seq (.seq (.reg [⟨(some 73), none, .o (.mov (.t 10))⟩,
 ⟨(some 74), none, .o (.mov (.t 1))⟩,
 ⟨(some 75), none, .len (.t 74)⟩,
 ⟨(some 76), none, .o (.bin .lss (.t 73) (.t 75))⟩])
 (.cond (.t 76)
 .skip
 (.exit 4)))
 (.seq (.blk 5
 (.seq (.reg [⟨(some 79), none, .o (.mov (.t 1))⟩,
 ⟨(some 80), none, .o (.mov (.t 10))⟩,
 ⟨(some 81), none, .ids (.t 79) (.t 80) 1⟩,
 ⟨(some 82), none, .ld1 (.t 81)⟩,
 ⟨(some 83), none, .o (.mov (.t 6))⟩,
 ⟨(some 84), none, .ids (.t 82) (.t 83) 1⟩,
 ⟨(some 85), none, .ld1 (.t 84)⟩,
 ⟨(some 86), none, .o (.mov (.t 9))⟩,
 ⟨(some 87), none, .o (.bin .mul (.t 85) (.t 86))⟩,
 ⟨(some 88), none, .o (.mov (.t 0))⟩,
 ⟨(some 89), none, .o (.bin .rem (.t 87) (.t 88))⟩,
 ⟨(some 90), none, .o (.bsa [])⟩,
 ⟨(some 11), none, .o (.mov (.t 89))⟩,
 ⟨(some 12), none, .o (.mov (.t 90))⟩])
 (.seq (.seq (.reg [⟨(some 13), none, .o (.mov (.c (.i .i64 (0))))⟩])
 (.blk 6
 (.loop
 (.seq (.seq (.reg [⟨(some 91), none, .o (.mov (.t 13))⟩,
 ⟨(some 92), none, .o (.mov (.t 8))⟩,
 ⟨(some 93), none, .len (.t 92)⟩,
 ⟨(some 94), none, .o (.bin .lss (.t 91) (.t 93))⟩,
 ⟨(some 95), none, .o (.mov (.t 94))⟩,
 ⟨(some 96), (some (95, true)), .o (.mov (.t 11))⟩,
 ⟨(some 97), (some (95, true)), .o (.bin .neq (.t 96) (.c (.i .i64 (0))))⟩,
 ⟨(some 98), none, .o (.pick (.t 95) (.t 97) (.c (.b false)))⟩])
 (.cond (.t 98)
 .skip
 (.exit 6)))
 (.seq (.blk 7
 (.drs [0, 0, 0, 6, 14, 0, 62, 126, 0, 0, 0, 1536, 3584, 7936, 16382, 0, 65534, 0, 262142, 0, 1048574, 2097150, 4194303, 8388607]
 [(0, false, ⟨(some 101), none, .o (.mov (.t 12))⟩),
 (1, false, ⟨(some 102), none, .o (.mov (.t 1))⟩),
 (2, false, ⟨(some 103), none, .o (.mov (.t 10))⟩),
 (3, false, ⟨(some 104), none, .ids (.t 102) (.t 103) 1⟩),
 (4, false, ⟨(some 105), none, .ld1 (.t 104)⟩),
 (5, false, ⟨(some 106), none, .o (.mov (.t 13))⟩),
 (6, false, ⟨(some 107), none, .ids (.t 105) (.t 106) 1⟩),
 (7, false, ⟨(some 108), none, .ld1 (.t 107)⟩),
 (8, false, ⟨(some 109), none, .o (.mov (.t 11))⟩),
 (9, false, ⟨(some 110), none, .o (.mov (.t 8))⟩),
 (10, false, ⟨(some 111), none, .o (.mov (.t 13))⟩),
 (11, false, ⟨(some 112), none, .ids (.t 110) (.t 111) 1⟩),
 (12, false, ⟨(some 113), none, .ld1 (.t 112)⟩),
 (13, false, ⟨(some 114), none, .o (.bin .mul (.t 109) (.t 113))⟩),
 (14, false, ⟨(some 115), none, .o (.bin .sub (.t 108) (.t 114))⟩),
 (15, false, ⟨(some 116), none, .o (.mov (.t 0))⟩),
 (16, false, ⟨(some 117), none, .o (.bin .rem (.t 115) (.t 116))⟩),
 (17, false, ⟨(some 118), none, .o (.mov (.t 0))⟩),
 (18, false, ⟨(some 119), none, .o (.bin .add (.t 117) (.t 118))⟩),
 (19, false, ⟨(some 120), none, .o (.mov (.t 0))⟩),
 (20, false, ⟨(some 121), none, .o (.bin .rem (.t 119) (.t 120))⟩),
 (21, false, ⟨(some 122), none, .o (.bsa [(.t 121)])⟩),
 (22, false, ⟨(some 123), none, .apr (.i 0) 8 (.t 101) (.t 122)⟩),
 (23, false, ⟨(some 12), none, .o (.mov (.t 123))⟩)]))
 (.reg [⟨(some 99), none, .o (.mov (.t 13))⟩,
 ⟨(some 100), none, .o (.bin .add (.t 99) (.c (.i .i64 (1))))⟩,
 ⟨(some 13), none, .o (.mov (.t 100))⟩]))))))
 (.seq (.reg [⟨(some 124), none, .o (.mov (.t 11))⟩,
 ⟨(some 125), none, .o (.bin .neq (.t 124) (.c (.i .i64 (0))))⟩])
 (.cond (.t 125)
 (.reg [⟨(some 126), none, .o (.mov (.t 1))⟩,
 ⟨(some 127), none, .o (.mov (.t 10))⟩,
 ⟨(some 128), none, .o (.mov (.t 12))⟩,
 ⟨(some 129), none, .ids (.t 126) (.t 127) 1⟩,
 ⟨none, none, .st1 (.t 129) (.t 128)⟩])
 .skip)))))
 (.reg [⟨(some 77), none, .o (.mov (.t 10))⟩,
 ⟨(some 78), none, .o (.bin .add (.t 77) (.c (.i .i64 (1))))⟩,
 ⟨(some 10), none, .o (.mov (.t 78))⟩]))))))
 (.reg [⟨(some 130), none, .o (.mov (.t 5))⟩,
 ⟨(some 131), none, .o (.bin .add (.t 130) (.c (.i .i64 (1))))⟩,
 ⟨(some 5), none, .o (.mov (.t 131))⟩]))))))))))
 (.reg [⟨(some 25), none, .o (.mov (.t 6))⟩,
 ⟨(some 26), none, .o (.bin .add (.t 25) (.c (.i .i64 (1))))⟩,
 ⟨(some 6), none, .o (.mov (.t 26))⟩]))))))
 (.seq (.reg [⟨(some 132), none, .o (.mov (.t 5))⟩,
 ⟨(some 4), none, .o (.mov (.t 132))⟩])
 .ret))))⟩
def qf_s_DimensionOfMaps : QF := ⟨3, 152, [.t 6, .t 7],
 (.seq (.reg [⟨(some 3), none, .o (.box (.t 0))⟩,
 ⟨(some 4), none, .o (.box (.t 1))⟩,
 ⟨(some 5), none, .o (.box (.t 2))⟩,
 ⟨(some 6), none, .o (.mov (.c (.i .i64 (0))))⟩,
 ⟨(some 7), none, .o (.mov (.c (.i .i64 (0))))⟩])
 (.seq (.seq (.reg [⟨(some 17), none, .lda (.t 3) 2 1106⟩,
 ⟨(some 18), none, .lda (.t 4) 1 513⟩,
 ⟨(some 19), none, .lda (.t 5) 1 513⟩,
 ⟨(some 20), none, .o (.bsh 1 513 [(.t 18), (.t 19)])⟩,
 ⟨(some 21), none, .call 162 [(.t 17), (.t 20)]⟩,
 ⟨(some 8), none, .o (.mov (.t 21))⟩])
 (.seq (.reg [⟨(some 22), none, .o (.mov (.t 8))⟩,
 ⟨(some 23), none, .o (.bin .neq (.t 22) (.c (.i .i64 (0))))⟩])
 (.cond (.t 23)
 (.seq (.reg [⟨(some 24), none, .o (.mov (.t 8))⟩,
 ⟨(some 6), none, .o (.mov (.c (.i .i64 (0))))⟩,
 ⟨(some 7), none, .o (.mov (.t 24))⟩])
 .ret)
 .skip)))
 (.seq (.reg [⟨(some 25), none, .o (.bsa [])⟩,
 ⟨(some 9), none, .o (.mov (.t 25))⟩])
 (.seq (.seq (.reg [⟨(some 10), none, .o (.mov (.c (.i .i64 (0))))⟩])
 (.blk 0
 (.loop
 (.seq (.seq (.reg [⟨(some 26), none, .o (.mov (.t 10))⟩,
 ⟨(some 27), none, .o (.add (.t 3) 1)⟩,
 ⟨(some 28), none, .ld1 (.t 27)⟩,
 ⟨(some 29), none, .o (.bin .lss (.t 26) (.t 28))⟩])
 (.cond (.t 29)
 .skip
 (.exit 0)))
 (.seq (.blk 1
 (.seq (.reg [⟨(some 11), none, .o (.mov (.c (.i .i64 (0))))⟩])
 (.blk 2
 (.loop
 (.seq (.seq (.reg [⟨(some 32), none, .o (.mov (.t 11))⟩,
 ⟨(some 33), none, .o (.add (.t 4) 0)⟩,
 ⟨(some 34), none, .ld1 (.t 33)⟩,
 ⟨(some 35), none, .o (.bin .lss (.t 32) (.t 34))⟩])
 (.cond (.t 35)
 .skip
 (.exit 2)))
 (.seq (.blk 3
 (.seq (.reg [⟨(some 12), none, .o (.mov (.c (.i .i64 (0))))⟩])
 (.blk 4
 (.loop
 (.seq (.seq (.reg [⟨(some 38), none, .o (.mov (.t 12))⟩,
 ⟨(some 39), none, .o (.add (.t 5) 0)⟩,
 ⟨(some 40), none, .ld1 (.t 39)⟩,
 ⟨(some 41), none, .o (.bin .lss (.t 38) (.t 40))⟩])
 (.cond (.t 41)
 .skip
 (.exit 4)))
 (.seq (.blk 5
 (.seq (.reg [⟨(some 44), none, .o (.add (.t 4) 0)⟩,
 ⟨(some 45), none, .ld1 (.t 44)⟩,
 ⟨(some 46), none, .o (.add (.t 5) 0)⟩,
 ⟨(some 47), none, .ld1 (.t 46)⟩,
 ⟨(some 48), none, .o (.bin .mul (.t 45) (.t 47))⟩,
 ⟨(some 49), none, .mkr (.i 0) 8 (.t 48)⟩,
 ⟨(some 13), none, .o (.mov (.t 49))⟩])
 (.seq (.seq (.reg [⟨(some 14), none, .o (.mov (.c (.i .i64 (0))))⟩])
 (.blk 6
 (.loop
 (.seq (.seq (.reg [⟨(some 50), none, .o (.mov (.t 14))⟩,
 ⟨(some 51), none, .o (.add (.t 4) 0)⟩,
 ⟨(some 52), none, .ld1 (.t 51)⟩,
 ⟨(some 53), none, .o (.bin .lss (.t 50) (.t 52))⟩])
 (.cond (.t 53)
 .skip
 (.exit 6)))
 (.seq (.blk 7
 (.drs [0, 0, 2, 0, 14, 0, 62, 0, 0, 256, 0, 1792, 0, 7936, 16256, 32640, 0, 0, 0, 0, 589824, 1769472, 4128768, 8323072, 16711680, 33554304, 67108863, 134217727]
 [(0, false, ⟨(some 56), none, .o (.mov (.t 13))⟩),
 (1, false, ⟨(some 57), none, .o (.add (.t 5) 0)⟩),
 (2, false, ⟨(some 58), none, .ld1 (.t 57)⟩),
 (3, false, ⟨(some 59), none, .o (.mov (.t 14))⟩),
 (4, false, ⟨(some 60), none, .o (.bin .mul (.t 58) (.t 59))⟩),
 (5, false, ⟨(some 61), none, .o (.mov (.t 12))⟩),
 (6, false, ⟨(some 62), none, .o (.bin .add (.t 60) (.t 61))⟩),
 (7, false, ⟨(some 63), none, .o (.mov (.t 13))⟩),
 (8, false, ⟨(some 64), none, .o (.add (.t 5) 0)⟩),
 (9, false, ⟨(some 65), none, .ld1 (.t 64)⟩),
 (10, false, ⟨(some 66), none, .o (.mov (.t 14))⟩),
 (11, false, ⟨(some 67), none, .o (.bin .mul (.t 65) (.t 66))⟩),
 (12, false, ⟨(some 68), none, .o (.mov (.t 12))⟩),
 (13, false, ⟨(some 69), none, .o (.bin .add (.t 67) (.t 68))⟩),
 (14, false, ⟨(some 70), none, .ids (.t 63) (.t 69) 1⟩),
 (15, false, ⟨(some 71), none, .ld1 (.t 70)⟩),
 (16, false, ⟨(some 72), none, .o (.mov (.t 10))⟩),
 (17, false, ⟨(some 73), none, .o (.mov (.t 11))⟩),
 (18, false, ⟨(some 74), none, .o (.mov (.t 14))⟩),
 (19, false, ⟨(some 75), none, .o (.add (.t 4) 1)⟩),
 (20, false, ⟨(some 76), none, .o (.idx (.t 75) (.t 72) 8 64)⟩),
 (21, false, ⟨(some 77), none, .o (.idx (.t 76) (.t 73) 8 8)⟩),
 (22, false, ⟨(some 78), none, .o (.idx (.t 77) (.t 74) 8 1)⟩),
 (23, false, ⟨(some 79), none, .ld1 (.t 78)⟩),
 (24, false, ⟨(some 80), none, .o (.cvt .i64 (.t 79))⟩),
 (25, false, ⟨(some 81), none, .o (.bin .add (.t 71) (.t 80))⟩),
 (26, false, ⟨(some 82), none, .ids (.t 56) (.t 62) 1⟩),
 (27, false, ⟨none, none, .st1 (.t 82) (.t 81)⟩)]))
 (.reg [⟨(some 54), none, .o (.mov (.t 14))⟩,
 ⟨(some 55), none, .o (.bin .add (.t 54) (.c (.i .i64 (1))))⟩,
 ⟨(some 14), none, .o (.mov (.t 55))⟩]))))))
 (.seq (.seq (.reg [⟨(some 15), none, .o (.mov (.c (.i .i64 (0))))⟩])
 (.blk 8
 (.loop
 (.seq (.seq (.reg [⟨(some 83), none, .o (.mov (.t 15))⟩,
 ⟨(some 84), none, .o (.add (.t 5) 0)⟩,
 ⟨(some 85), none, .ld1 (.t 84)⟩,
 ⟨(some 86), none, .o (.bin .lss (.t 83) (.t 85))⟩])
 (.cond (.t 86)
 .skip
 (.exit 8)))
 (.seq (.blk 9
 (.drs [0, 0, 2, 0, 14, 0, 62, 0, 0, 256, 0, 1792, 0, 7936, 16256, 32640, 0, 0, 0, 0, 589824, 1769472, 4128768, 8323072, 16711680, 33554304, 67108863, 134217727]
 [(0, false, ⟨(some 89), none, .o (.mov (.t 13))⟩),
 (1, false, ⟨(some 90), none, .o (.add (.t 5) 0)⟩),
 (2, false, ⟨(some 91), none, .ld1 (.t 90)⟩),
 (3, false, ⟨(some 92), none, .o (.mov (.t 11))⟩),
 (4, false, ⟨(some 93), none, .o (.bin .mul (.t 91) (.t 92))⟩),
 (5, false, ⟨(some 94), none, .o (.mov (.t 15))⟩),
 (6, false, ⟨(some 95), none, .o (.bin .add (.t 93) (.t 94))⟩),
 (7, false, ⟨(some 96), none, .o (.mov (.t 13))⟩),
 (8, false, ⟨(some 97), none, .o (.add (.t 5) 0)⟩),
 (9, false, ⟨(some 98), none, .ld1 (.t 97)⟩),
 (10, false, ⟨(some 99), none, .o (.mov (.t 11))⟩),
 (11, false, ⟨(some 100), none, .o (.bin .mul (.t 98) (.t 99))⟩),
 (12, false, ⟨(some 101), none, .o (.mov (.t 15))⟩),
 (13, false, ⟨(some 102), none, .o (.bin .add (.t 100) (.t 101))⟩),
 (14, false, ⟨(some 103), none, .ids (.t 96) (.t 102) 1⟩),
 (15, false, ⟨(some 104), none, .ld1 (.t 103)⟩),
 (16, false, ⟨(some 105), none, .o (.mov (.t 10))⟩),
 (17, false, ⟨(some 106), none, .o (.mov (.t 15))⟩),
 (18, false, ⟨(some 107), none, .o (.mov (.t 12))⟩),
 (19, false, ⟨(some 108), none, .o (.add (.t 5) 1)⟩),
 (20, false, ⟨(some 109), none, .o (.idx (.t 108) (.t 105) 8 64)⟩),
 (21, false, ⟨(some 110), none, .o (.idx (.t 109) (.t 106) 8 8)⟩),
 (22, false, ⟨(some 111), none, .o (.idx (.t 110) (.t 107) 8 1)⟩),
 (23, false, ⟨(some 112), none, .ld1 (.t 111)⟩),
 (24, false, ⟨(some 113), none, .o (.cvt .i64 (.t 112))⟩),
 (25, false, ⟨(some 114), none, .o (.bin .sub (.t 104) (.t 113))⟩),
 (26, false, ⟨(some 115), none, .ids (.t 89) (.t 95) 1⟩),
 (27, false, ⟨none, none, .st1 (.t 115) (.t 114)⟩)]))
 (.reg [⟨(some 87), none, .o (.mov (.t 15))⟩,
 ⟨(some 88), none, .o (.bin .add (.t 87) (.c (.i .i64 (1))))⟩,
 ⟨(some 15), none, .o (.mov (.t 88))⟩]))))))
 (.seq (.seq (.reg [⟨(some 16), none, .o (.mov (.c (.i .i64 (0))))⟩])
 (.blk 10
 (.loop
 (.seq (.seq (.reg [⟨(some 116), none, .o (.mov (.t 16))⟩,
 ⟨(some 117), none, .o (.mov (.t 13))⟩,
 ⟨(some 118), none, .len (.t 117)⟩,
 ⟨(some 119), none, .o (.bin .lss (.t 116) (.t 118))⟩])
 (.cond (.t 119)
 .skip
 (.exit 10)))
 (.seq (.blk 11
 (.drs [0, 0, 0, 0, 12, 28, 0, 64, 252, 0, 512, 2044, 0, 4096, 16380, 32767, 65535]
 [(0, false, ⟨(some 122), none, .o (.mov (.t 13))⟩),
 (1, false, ⟨(some 123), none, .o (.mov (.t 16))⟩),
 (2, false, ⟨(some 124), none, .o (.mov (.t 13))⟩),
 (3, false, ⟨(some 125), none, .o (.mov (.t 16))⟩),
 (4, false, ⟨(some 126), none, .ids (.t 124) (.t 125) 1⟩),
 (5, false, ⟨(some 127), none, .ld1 (.t 126)⟩),
 (6, false, ⟨(some 128), none, .o (.add (.t 3) 0)⟩),
 (7, false, ⟨(some 129), none, .ld1 (.t 128)⟩),
 (8, false, ⟨(some 130), none, .o (.bin .rem (.t 127) (.t 129))⟩),
 (9, false, ⟨(some 131), none, .o (.add (.t 3) 0)⟩),
 (10, false, ⟨(some 132), none, .ld1 (.t 131)⟩),
 (11, false, ⟨(some 133), none, .o (.bin .add (.t 130) (.t 132))⟩),
 (12, false, ⟨(some 134), none, .o (.add (.t 3) 0)⟩),
 (13, false, ⟨(some 135), none, .ld1 (.t 134)⟩),
 (14, false, ⟨(some 136), none, .o (.bin .rem (.t 133) (.t 135))⟩),
 (15, false, ⟨(some 137), none, .ids (.t 122) (.t 123) 1⟩),
 (16, false, ⟨none, none, .st1 (.t 137) (.t 136)⟩)]))
 (.reg [⟨(some 120), none, .o (.mov (.t 16))⟩,
 ⟨(some 121), none, .o (.bin .add (.t 120) (.c (.i .i64 (1))))⟩,
 ⟨(some 16), none, .o (.mov (.t 121))⟩]))))))
 (.reg [⟨(some 138), none, .o (.mov (.t 9))⟩,
 ⟨(some 139), none, .o (.mov (.t 13))⟩,
 ⟨(some 140), none, .o (.bsa [(.t 139)])⟩,
 ⟨(some 141), none, .apr (.sn) 24 (.t 138) (.t 140)⟩,
 ⟨(some 9), none, .o (.mov (.t 141))⟩]))))))
 (.reg [⟨(some 42), none, .o (.mov (.t 12))⟩,
 ⟨(some 43), none, .o (.bin .add (.t 42) (.c (.i .i64 (1))))⟩,
 ⟨(some 12), none, .o (.mov (.t 43))⟩])))))))
 (.reg [⟨(some 36), none, .o (.mov (.t 11))⟩,
 ⟨(some 37), none, .o (.bin .add (.t 36) (.c (.i .i64 (1))))⟩,
 ⟨(some 11), none, .o (.mov (.t 37))⟩])))))))
 (.reg [⟨(some 30), none, .o (.mov (.t 10))⟩,
 ⟨(some 31), none, .o (.bin .add (.t 30) (.c (.i .i64 (1))))⟩,
 ⟨(some 10), none, .o (.mov (.t 31))⟩]))))))
 (.seq (.drs [0, 1, 0, 4, 15, 0, 32, 0, 224, 511, 1023, 2047]
 [(0, false, ⟨(some 142), none, .o (.add (.t 4) 0)⟩),
 (1, true, ⟨(some 143), none, .ld1 (.t 142)⟩),
 (2, false, ⟨(some 144), none, .o (.add (.t 5) 0)⟩),
 (3, true, ⟨(some 145), none, .ld1 (.t 144)⟩),
 (4, false, ⟨(some 146), none, .o (.bin .mul (.t 143) (.t 145))⟩),
 (5, false, ⟨(some 147), none, .o (.add (.t 3) 0)⟩),
 (6, false, ⟨(some 148), none, .ld1 (.t 147)⟩),
 (7, false, ⟨(some 149), none, .o (.mov (.t 9))⟩),
 (8, false, ⟨(some 150), none, .call 394 [(.t 148), (.t 149)]⟩),
 (9, false, ⟨(some 151), none, .o (.bin .sub (.t 146) (.t 150))⟩),
 (10, false, ⟨(some 6), none, .o (.mov (.t 151))⟩),
 (11, false, ⟨(some 7), none, .o (.mov (.c (.i .i64 (0))))⟩)])
 .ret)))))⟩
def qf_l_FnExactDimensionOfMaps : QF := ⟨3, 39, [.t 6],
 (.seq (.reg [⟨(some 3), none, .o (.box (.t 0))⟩,
 ⟨(some 4), none, .o (.box (.t 1))⟩,
 ⟨(some 5), none, .o (.box (.t 2))⟩,
 ⟨(some 6), none, .o (.mov (.c (.b false)))⟩])
 (.seq (.drs [0, 1, 0, 7, 0, 31, 63, 127, 255, 255, 511, 2047]
 [(0, false, ⟨(some 12), none, .lda (.t 3) 2 1106⟩),
 (1, false, ⟨(some 13), none, .calp 0 [(.t 12)]⟩),
 (2, false, ⟨(some 14), none, .lda (.t 4) 1 513⟩),
 (3, false, ⟨(some 15), none, .calp 133 [(.t 14)]⟩),
 (4, false, ⟨(some 16), none, .lda (.t 5) 1 513⟩),
 (5, false, ⟨(some 17), none, .calp 133 [(.t 16)]⟩),
 (6, false, ⟨(some 18), none, .calp 387 [(.t 13), (.t 15), (.t 17)]⟩),
 (7, false, ⟨(some 11), none, .o (.mov (.t 18))⟩),
 (8, false, ⟨(some 19), none, .o (.ext (.t 11) 0)⟩),
 (9, false, ⟨(some 20), none, .o (.ext (.t 11) 1)⟩),
 (10, false, ⟨(some 7), none, .o (.mov (.t 19))⟩),
 (11, false, ⟨(some 8), none, .o (.mov (.t 20))⟩)])
 (.seq (.drs [0, 1, 0, 7, 0, 31, 63, 127, 255, 255, 511, 2047]
 [(0, false, ⟨(some 22), none, .lda (.t 3) 2 1106⟩),
 (1, false, ⟨(some 23), none, .calp 0 [(.t 22)]⟩),
 (2, false, ⟨(some 24), none, .lda (.t 4) 1 513⟩),
 (3, false, ⟨(some 25), none, .calp 133 [(.t 24)]⟩),
 (4, false, ⟨(some 26), none, .lda (.t 5) 1 513⟩),
 (5, false, ⟨(some 27), none, .calp 133 [(.t 26)]⟩),
 (6, false, ⟨(some 28), none, .calp 388 [(.t 23), (.t 25), (.t 27)]⟩),
 (7, false, ⟨(some 21), none, .o (.mov (.t 28))⟩),
 (8, false, ⟨(some 29), none, .o (.ext (.t 21) 0)⟩),
 (9, false, ⟨(some 30), none, .o (.ext (.t 21) 1)⟩),
 (10, false, ⟨(some 9), none, .o (.mov (.t 29))⟩),
 (11, false, ⟨(some 10), none, .o (.mov (.t 30))⟩)])
 (.seq (.seq (.reg [⟨(some 31), none, .o (.mov (.t 9))⟩,
 ⟨(some 32), none, .o (.mov (.t 7))⟩,
 ⟨(some 33), none, .o (.bin .neq (.t 31) (.t 32))⟩,
 ⟨(some 34), none, .o (.mov (.t 33))⟩,
 ⟨(some 35), (some (34, false)), .o (.mov (.t 10))⟩,
 ⟨(some 36), (some (34, false)), .o (.mov (.t 8))⟩,
 ⟨(some 37), (some (34, false)), .o (.bin .neq (.t 35) (.t 36))⟩,
 ⟨(some 38), none, .o (.pick (.t 34) (.c (.b true)) (.t 37))⟩])
 (.cond (.t 38)
 (.seq (.reg [⟨(some 6), none, .o (.mov (.c (.b false)))⟩])
 .ret)
 .skip))
 (.seq (.reg [⟨(some 6), none, .o (.mov (.c (.b true)))⟩])
 .ret)))))⟩
def F_i_newSystem (P : Program) (ρ : Nat → FuncId) : Prop := chkQF P ρ 271 qf_i_newSystem = true
def F_i_system_add (P : Program) (ρ : Nat → FuncId) : Prop := chkQF P ρ 286 qf_i_system_add = true ∧ E_i_field_mod P ρ
def F_i_system_solve_1 (P : Program) (ρ : Nat → FuncId) : Prop := chkQF P ρ 276 qf_i_system_solve_1 = true
def F_x_IndexFunc_R (P : Program) (ρ : Nat → FuncId) : Prop := chkQF P ρ 277 qf_x_IndexFunc_R = true
def F_i_field_inverse (P : Program) (ρ : Nat → FuncId) : Prop := chkQF P ρ 279 qf_i_field_inverse = true
def F_i_system_clear (P : Program) (ρ : Nat → FuncId) : Prop := chkQF P ρ 280 qf_i_system_clear = true ∧ F_i_field_inverse P ρ ∧ E_i_field_mod P ρ
def F_i_system_solve_2 (P : Program) (ρ : Nat → FuncId) : Prop := chkQF P ρ 282 qf_i_system_solve_2 = true
def F_x_ContainsFunc_R (P : Program) (ρ : Nat → FuncId) : Prop := chkQF P ρ 281 qf_x_ContainsFunc_R = true ∧ F_x_IndexFunc_R P ρ
def F_i_system_solve (P : Program) (ρ : Nat → FuncId) : Prop := chkQF P ρ 287 qf_i_system_solve = true ∧ F_i_system_solve_1 P ρ ∧ F_x_IndexFunc_R P ρ ∧ F_i_system_clear P ρ ∧ F_i_system_solve_2 P ρ ∧ F_x_ContainsFunc_R P ρ
def F_i_system_free (P : Program) (ρ : Nat → FuncId) : Prop := chkQF P ρ 395 qf_i_system_free = true
def F_i_DimensionOfMaps (P : Program) (ρ : Nat → FuncId) : Prop := chkQF P ρ 388 qf_i_DimensionOfMaps = true ∧ E_i_modulesCode P ρ ∧ F_i_newSystem P ρ ∧ F_i_system_add P ρ ∧ F_i_system_solve P ρ ∧ F_i_system_free P ρ
def F_s_l01Inverse (P : Program) (ρ : Nat → FuncId) : Prop := chkQF P ρ 274 qf_s_l01Inverse = true
def F_s_l06Rank (P : Program) (ρ : Nat → FuncId) : Prop := chkQF P ρ 394 qf_s_l06Rank = true ∧ F_s_l01Inverse P ρ
def F_s_DimensionOfMaps (P : Program) (ρ : Nat → FuncId) : Prop := chkQF P ρ 387 qf_s_DimensionOfMaps = true ∧ E_s_l06Code P ρ ∧ F_s_l06Rank P ρ
def F_l_FnExactDimensionOfMaps (P : Program) (ρ : Nat → FuncId) : Prop := chkQF P ρ 389 qf_l_FnExactDimensionOfMaps = true ∧ E_l_toHopf P ρ ∧ E_l_toModule P ρ ∧ F_s_DimensionOfMaps P ρ ∧ F_i_DimensionOfMaps P ρ
end Hf
