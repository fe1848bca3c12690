/- Functions of the program in the second layer's small language. Written by gen2.py. -/
import Derived.Test.YtkkjaohppodccaaX
import Derived.Test.YtkkjaohppodccaaP
set_option linter.unusedVariables false
set_option linter.unusedSimpArgs false
namespace Hf
open Go
def qf_i_mapsCode : QF := ⟨3, 58, [.t 6],
 (.seq (.reg [⟨(some 6), none, .o (.mov (.c (.i .i64 (0))))⟩])
 (.seq (.reg [⟨(some 10), none, .o (.mov (.t 0))⟩,
 ⟨(some 11), none, .o (.nck (.t 10))⟩,
 ⟨(some 12), none, .lda (.t 11) 2 522⟩,
 ⟨(some 13), none, .calp 106 [(.t 12)]⟩,
 ⟨(some 14), none, .o (.mov (.t 13))⟩,
 ⟨(some 15), (some (14, true)), .o (.mov (.t 1))⟩,
 ⟨(some 16), (some (14, true)), .o (.nck (.t 15))⟩,
 ⟨(some 17), (some (14, true)), .lda (.t 16) 2 522⟩,
 ⟨(some 18), (some (14, true)), .calp 103 [(.t 17)]⟩,
 ⟨(some 19), none, .o (.pick (.t 14) (.t 18) (.c (.b false)))⟩,
 ⟨(some 7), none, .o (.mov (.t 19))⟩])
 (.seq (.seq (.reg [⟨(some 20), none, .o (.mov (.t 2))⟩,
 ⟨(some 21), none, .len (.t 20)⟩,
 ⟨(some 22), none, .o (.mov (.c (.i .i64 (0))))⟩])
 (.blk 0
 (.loop
 (.seq (.reg [⟨(some 23), none, .o (.bin .lss (.t 22) (.t 21))⟩])
 (.seq (.cond (.t 23)
 .skip
 (.exit 0))
 (.seq (.blk 1
 (.seq (.reg [⟨(some 24), none, .ids (.t 20) (.t 22) 1⟩,
 ⟨(some 25), none, .ld1 (.t 24)⟩,
 ⟨(some 9), none, .o (.mov (.t 25))⟩])
 (.drs [0, 1, 3, 7, 15, 31, 3, 67, 195, 451, 3, 1027, 3075, 7171, 3, 32767, 65535, 131071]
 [(0, false, ⟨(some 26), none, .o (.mov (.t 7))⟩),
 (1, false, ⟨(some 27), none, .o (.mov (.t 26))⟩),
 (2, false, ⟨(some 28), (some (27, true)), .o (.mov (.t 1))⟩),
 (3, false, ⟨(some 29), (some (27, true)), .o (.nck (.t 28))⟩),
 (4, false, ⟨(some 30), (some (27, true)), .o (.add (.t 29) 0)⟩),
 (5, false, ⟨(some 31), (some (27, true)), .ld1 (.t 30)⟩),
 (6, false, ⟨(some 32), (some (27, true)), .o (.mov (.t 0))⟩),
 (7, false, ⟨(some 33), (some (27, true)), .o (.nck (.t 32))⟩),
 (8, false, ⟨(some 34), (some (27, true)), .o (.add (.t 33) 1)⟩),
 (9, false, ⟨(some 35), (some (27, true)), .ld1 (.t 34)⟩),
 (10, false, ⟨(some 36), (some (27, true)), .o (.mov (.t 1))⟩),
 (11, false, ⟨(some 37), (some (27, true)), .o (.nck (.t 36))⟩),
 (12, false, ⟨(some 38), (some (27, true)), .o (.add (.t 37) 1)⟩),
 (13, false, ⟨(some 39), (some (27, true)), .ld1 (.t 38)⟩),
 (14, false, ⟨(some 40), (some (27, true)), .o (.mov (.t 9))⟩),
 (15, false, ⟨(some 41), (some (27, true)), .call 83 [(.t 31), (.t 35), (.t 39), (.t 40)]⟩),
 (16, false, ⟨(some 42), none, .o (.pick (.t 27) (.t 41) (.c (.b false)))⟩),
 (17, false, ⟨(some 7), none, .o (.mov (.t 42))⟩)])))
 (.reg [⟨(some 43), none, .o (.bin .add (.t 22) (.c (.i .i64 (1))))⟩,
 ⟨(some 22), none, .o (.mov (.t 43))⟩])))))))
 (.seq (.drs [0, 1, 0, 4, 12, 28, 0, 64, 192, 448, 1020, 2047, 4095, 8191, 16383]
 [(0, false, ⟨(some 44), none, .o (.mov (.t 7))⟩),
 (1, false, ⟨(some 45), none, .calp 49 [(.t 44), (.c (.i .i64 (1)))]⟩),
 (2, false, ⟨(some 46), none, .o (.mov (.t 0))⟩),
 (3, false, ⟨(some 47), none, .o (.nck (.t 46))⟩),
 (4, false, ⟨(some 48), none, .o (.add (.t 47) 0)⟩),
 (5, false, ⟨(some 49), none, .ld1 (.t 48)⟩),
 (6, false, ⟨(some 50), none, .o (.mov (.t 1))⟩),
 (7, false, ⟨(some 51), none, .o (.nck (.t 50))⟩),
 (8, false, ⟨(some 52), none, .o (.add (.t 51) 0)⟩),
 (9, false, ⟨(some 53), none, .ld1 (.t 52)⟩),
 (10, false, ⟨(some 54), none, .o (.bin .eql (.t 49) (.t 53))⟩),
 (11, false, ⟨(some 55), none, .calp 49 [(.t 54), (.c (.i .i64 (2)))]⟩),
 (12, false, ⟨(some 56), none, .o (.bsa [(.t 45), (.t 55)])⟩),
 (13, false, ⟨(some 57), none, .call 139 [(.t 56)]⟩),
 (14, false, ⟨(some 6), none, .o (.mov (.t 57))⟩)])
 .ret))))⟩
def qf_i_ConvolveMaps : QF := ⟨4, 67, [.c 8 0 64, .t 9],
 (.seq (.reg [⟨(some 4), none, .o (.box (.t 0))⟩,
 ⟨(some 5), none, .o (.box (.t 1))⟩,
 ⟨(some 6), none, .o (.box (.t 2))⟩,
 ⟨(some 7), none, .o (.box (.t 3))⟩,
 ⟨(some 8), none, .o (.alo (.by 0 64))⟩,
 ⟨(some 9), none, .o (.mov (.c (.i .i64 (0))))⟩])
 (.seq (.seq (.reg [⟨(some 17), none, .o (.bsa [(.t 6), (.t 7)])⟩,
 ⟨(some 18), none, .call 191 [(.t 4), (.t 5), (.t 17)]⟩,
 ⟨(some 10), none, .o (.mov (.t 18))⟩])
 (.seq (.reg [⟨(some 19), none, .o (.mov (.t 10))⟩,
 ⟨(some 20), none, .o (.bin .neq (.t 19) (.c (.i .i64 (0))))⟩])
 (.cond (.t 20)
 (.seq (.reg [⟨(some 21), none, .o (.bld 0 64 [])⟩,
 ⟨(some 22), none, .o (.mov (.t 10))⟩,
 ⟨none, none, .sta (.t 8) (.t 21) 64⟩,
 ⟨(some 9), none, .o (.mov (.t 22))⟩])
 .ret)
 .skip)))
 (.seq (.reg [⟨(some 23), none, .o (.bld 0 64 [])⟩,
 ⟨(some 24), none, .call 116 [(.t 5)]⟩,
 ⟨(some 11), none, .o (.alo (.by 0 64))⟩,
 ⟨(some 12), none, .o (.alo (.by 2 2))⟩,
 ⟨none, none, .sta (.t 11) (.t 23) 64⟩,
 ⟨none, none, .sta (.t 12) (.t 24) 2⟩])
 (.seq (.seq (.reg [⟨(some 25), none, .o (.add (.t 4) 1)⟩,
 ⟨(some 26), none, .ld1 (.t 25)⟩,
 ⟨(some 27), none, .o (.mov (.c (.i .i64 (0))))⟩])
 (.blk 0
 (.loop
 (.seq (.reg [⟨(some 28), none, .o (.bin .lss (.t 27) (.t 26))⟩])
 (.seq (.cond (.t 28)
 .skip
 (.exit 0))
 (.seq (.blk 1
 (.seq (.reg [⟨(some 29), none, .o (.mov (.t 27))⟩,
 ⟨(some 13), none, .o (.mov (.t 29))⟩])
 (.seq (.reg [⟨(some 30), none, .o (.add (.t 4) 1)⟩,
 ⟨(some 31), none, .ld1 (.t 30)⟩,
 ⟨(some 32), none, .o (.mov (.c (.i .i64 (0))))⟩])
 (.blk 2
 (.loop
 (.seq (.reg [⟨(some 33), none, .o (.bin .lss (.t 32) (.t 31))⟩])
 (.seq (.cond (.t 33)
 .skip
 (.exit 2))
 (.seq (.blk 3
 (.seq (.reg [⟨(some 34), none, .o (.mov (.t 32))⟩,
 ⟨(some 14), none, .o (.mov (.t 34))⟩])
 (.seq (.reg [⟨(some 35), none, .o (.add (.t 4) 1)⟩,
 ⟨(some 36), none, .ld1 (.t 35)⟩,
 ⟨(some 37), none, .o (.mov (.c (.i .i64 (0))))⟩])
 (.blk 4
 (.loop
 (.seq (.reg [⟨(some 38), none, .o (.bin .lss (.t 37) (.t 36))⟩])
 (.seq (.cond (.t 38)
 .skip
 (.exit 4))
 (.seq (.blk 5
 (.seq (.reg [⟨(some 39), none, .o (.mov (.t 37))⟩,
 ⟨(some 15), none, .o (.mov (.t 39))⟩])
 (.seq (.reg [⟨(some 40), none, .o (.mov (.t 13))⟩,
 ⟨(some 41), none, .o (.mov (.t 14))⟩,
 ⟨(some 42), none, .o (.mov (.t 15))⟩,
 ⟨(some 43), none, .o (.add (.t 4) 10)⟩,
 ⟨(some 44), none, .o (.idx (.t 43) (.t 40) 8 64)⟩,
 ⟨(some 45), none, .o (.idx (.t 44) (.t 41) 8 8)⟩,
 ⟨(some 46), none, .o (.idx (.t 45) (.t 42) 8 1)⟩,
 ⟨(some 47), none, .ld1 (.t 46)⟩,
 ⟨(some 48), none, .o (.cvt .i64 (.t 47))⟩,
 ⟨(some 16), none, .o (.mov (.t 48))⟩])
 (.seq (.reg [⟨(some 49), none, .o (.mov (.t 16))⟩,
 ⟨(some 50), none, .o (.bin .neq (.t 49) (.c (.i .i64 (0))))⟩])
 (.cond (.t 50)
 (.drs [0, 0, 2, 0, 0, 16, 48, 0, 128, 384, 1008, 2047]
 [(0, true, ⟨(some 51), none, .lda (.t 12) 2 2⟩),
 (1, false, ⟨(some 52), none, .o (.mov (.t 13))⟩),
 (2, false, ⟨(some 53), none, .o (.idx (.t 11) (.t 52) 8 8)⟩),
 (3, false, ⟨(some 54), none, .o (.mov (.t 16))⟩),
 (4, false, ⟨(some 55), none, .o (.mov (.t 14))⟩),
 (5, false, ⟨(some 56), none, .o (.idx (.t 6) (.t 55) 8 8)⟩),
 (6, false, ⟨(some 57), none, .lda (.t 56) 0 8⟩),
 (7, false, ⟨(some 58), none, .o (.mov (.t 15))⟩),
 (8, false, ⟨(some 59), none, .o (.idx (.t 7) (.t 58) 8 8)⟩),
 (9, false, ⟨(some 60), none, .lda (.t 59) 0 8⟩),
 (10, false, ⟨(some 61), none, .call 104 [(.t 5), (.t 57), (.t 60)]⟩),
 (11, true, ⟨(some 62), none, .call 71 [(.t 51), (.t 53), (.t 54), (.t 61)]⟩)])
 .skip)))))
 (.reg [⟨(some 63), none, .o (.bin .add (.t 37) (.c (.i .i64 (1))))⟩,
 ⟨(some 37), none, .o (.mov (.t 63))⟩])))))))))
 (.reg [⟨(some 64), none, .o (.bin .add (.t 32) (.c (.i .i64 (1))))⟩,
 ⟨(some 32), none, .o (.mov (.t 64))⟩])))))))))
 (.reg [⟨(some 65), none, .o (.bin .add (.t 27) (.c (.i .i64 (1))))⟩,
 ⟨(some 27), none, .o (.mov (.t 65))⟩])))))))
 (.seq (.reg [⟨(some 66), none, .lda (.t 11) 0 64⟩,
 ⟨none, none, .sta (.t 8) (.t 66) 64⟩,
 ⟨(some 9), none, .o (.mov (.c (.i .i64 (0))))⟩])
 .ret)))))⟩
def qf_i_UnitMap : QF := ⟨2, 32, [.c 4 0 64, .t 5],
 (.seq (.reg [⟨(some 2), none, .o (.box (.t 0))⟩,
 ⟨(some 3), none, .o (.box (.t 1))⟩,
 ⟨(some 4), none, .o (.alo (.by 0 64))⟩,
 ⟨(some 5), none, .o (.mov (.c (.i .i64 (0))))⟩])
 (.seq (.seq (.reg [⟨(some 10), none, .call 191 [(.t 2), (.t 3), (.c .sn)]⟩,
 ⟨(some 6), none, .o (.mov (.t 10))⟩])
 (.seq (.reg [⟨(some 11), none, .o (.mov (.t 6))⟩,
 ⟨(some 12), none, .o (.bin .neq (.t 11) (.c (.i .i64 (0))))⟩])
 (.cond (.t 12)
 (.seq (.reg [⟨(some 13), none, .o (.bld 0 64 [])⟩,
 ⟨(some 14), none, .o (.mov (.t 6))⟩,
 ⟨none, none, .sta (.t 4) (.t 13) 64⟩,
 ⟨(some 5), none, .o (.mov (.t 14))⟩])
 .ret)
 .skip)))
 (.seq (.reg [⟨(some 15), none, .o (.bld 0 64 [])⟩,
 ⟨(some 7), none, .o (.alo (.by 0 64))⟩,
 ⟨none, none, .sta (.t 7) (.t 15) 64⟩])
 (.seq (.seq (.reg [⟨(some 16), none, .o (.add (.t 2) 2)⟩,
 ⟨(some 17), none, .lda (.t 16) 0 8⟩,
 ⟨(some 18), none, .o (.mov (.c (.i .i64 (0))))⟩])
 (.blk 0
 (.loop
 (.seq (.reg [⟨(some 19), none, .o (.bin .lss (.t 18) (.c (.i .i64 (8))))⟩])
 (.seq (.cond (.t 19)
 .skip
 (.exit 0))
 (.seq (.blk 1
 (.seq (.reg [⟨(some 20), none, .o (.mov (.t 18))⟩,
 ⟨(some 21), none, .o (.ixb (.t 17) (.t 18) 8)⟩,
 ⟨(some 8), none, .o (.mov (.t 20))⟩,
 ⟨(some 9), none, .o (.mov (.t 21))⟩])
 (.drs [0, 0, 0, 4, 0, 16, 62, 127, 255]
 [(0, false, ⟨(some 22), none, .o (.mov (.t 8))⟩),
 (2, false, ⟨(some 24), none, .o (.mov (.t 9))⟩),
 (3, false, ⟨(some 25), none, .o (.cvt .i64 (.t 24))⟩),
 (4, false, ⟨(some 26), none, .o (.add (.t 3) 2)⟩),
 (5, true, ⟨(some 27), none, .lda (.t 26) 0 8⟩),
 (1, false, ⟨(some 23), none, .call 116 [(.t 3)]⟩),
 (6, false, ⟨(some 28), none, .calp 114 [(.t 23), (.t 25), (.t 27)]⟩),
 (7, false, ⟨(some 29), none, .o (.idx (.t 7) (.t 22) 8 8)⟩),
 (8, true, ⟨none, none, .sta (.t 29) (.t 28) 8⟩)])))
 (.reg [⟨(some 30), none, .o (.bin .add (.t 18) (.c (.i .i64 (1))))⟩,
 ⟨(some 18), none, .o (.mov (.t 30))⟩])))))))
 (.seq (.reg [⟨(some 31), none, .lda (.t 7) 0 64⟩,
 ⟨none, none, .sta (.t 4) (.t 31) 64⟩,
 ⟨(some 5), none, .o (.mov (.c (.i .i64 (0))))⟩])
 .ret)))))⟩
def qf_l_big : QF := ⟨1, 6, [.t 2],
 (.seq (.reg [⟨(some 2), none, .o (.mov (.c (.b false)))⟩])
 (.seq (.reg [⟨(some 3), none, .o (.mov (.t 0))⟩,
 ⟨(some 4), none, .len (.t 3)⟩,
 ⟨(some 5), none, .o (.bin .gtr (.t 4) (.c (.i .i64 (4096))))⟩,
 ⟨(some 2), none, .o (.mov (.t 5))⟩])
 .ret))⟩
def qf_s_l01From : QF := ⟨1, 38, [.t 2],
 (.seq (.reg [⟨(some 2), none, .o (.mov (.c .np))⟩])
 (.seq (.reg [⟨(some 5), none, .o (.mov (.t 0))⟩,
 ⟨(some 6), none, .o (.mov (.t 0))⟩,
 ⟨(some 7), none, .len (.t 6)⟩,
 ⟨(some 8), none, .cvu (.t 7)⟩,
 ⟨(some 9), none, .bnu .add (.c (.i .u64 (11071))) (.t 8)⟩,
 ⟨(some 10), none, .brc [.sn, .i .i64 0, .i .u64 0] [(0, 1, (.t 5)), (2, 1, (.t 9))]⟩,
 ⟨(some 11), none, .bxr (.t 10)⟩,
 ⟨(some 3), none, .o (.mov (.t 11))⟩])
 (.seq (.seq (.reg [⟨(some 4), none, .o (.mov (.c (.i .i64 (0))))⟩])
 (.blk 0
 (.loop
 (.seq (.seq (.reg [⟨(some 12), none, .o (.mov (.t 4))⟩,
 ⟨(some 13), none, .o (.mov (.t 0))⟩,
 ⟨(some 14), none, .len (.t 13)⟩,
 ⟨(some 15), none, .o (.bin .lss (.t 12) (.t 14))⟩,
 ⟨(some 16), none, .o (.mov (.t 15))⟩,
 ⟨(some 17), (some (16, true)), .o (.mov (.t 4))⟩,
 ⟨(some 18), (some (16, true)), .o (.bin .lss (.t 17) (.c (.i .i64 (4096))))⟩,
 ⟨(some 19), none, .o (.pick (.t 16) (.t 18) (.c (.b false)))⟩])
 (.cond (.t 19)
 .skip
 (.exit 0)))
 (.seq (.blk 1
 (.drs [0, 0, 2, 6, 14, 30, 0, 0, 192, 448, 960, 2046, 4094, 8191, 16383, 32767]
 [(0, false, ⟨(some 22), none, .o (.mov (.t 3))⟩),
 (1, false, ⟨(some 23), none, .o (.mov (.t 3))⟩),
 (2, false, ⟨(some 24), none, .o (.nck (.t 23))⟩),
 (3, false, ⟨(some 25), none, .o (.add (.t 24) 2)⟩),
 (4, false, ⟨(some 26), none, .ld1 (.t 25)⟩),
 (5, false, ⟨(some 27), none, .bnu .mul (.t 26) (.c (.i .u64 (1099511628211)))⟩),
 (6, false, ⟨(some 28), none, .o (.mov (.t 0))⟩),
 (7, false, ⟨(some 29), none, .o (.mov (.t 4))⟩),
 (8, false, ⟨(some 30), none, .ids (.t 28) (.t 29) 1⟩),
 (9, false, ⟨(some 31), none, .ld1 (.t 30)⟩),
 (10, false, ⟨(some 32), none, .cvu (.t 31)⟩),
 (11, false, ⟨(some 33), none, .bnu .add (.t 27) (.t 32)⟩),
 (12, false, ⟨(some 34), none, .bnu .add (.t 33) (.c (.i .u64 (47)))⟩),
 (13, false, ⟨(some 35), none, .o (.nck (.t 22))⟩),
 (14, false, ⟨(some 36), none, .o (.add (.t 35) 2)⟩),
 (15, false, ⟨none, none, .st1 (.t 36) (.t 34)⟩)]))
 (.reg [⟨(some 20), none, .o (.mov (.t 4))⟩,
 ⟨(some 21), none, .o (.bin .add (.t 20) (.c (.i .i64 (1))))⟩,
 ⟨(some 4), none, .o (.mov (.t 21))⟩]))))))
 (.seq (.reg [⟨(some 37), none, .o (.mov (.t 3))⟩,
 ⟨(some 2), none, .o (.mov (.t 37))⟩])
 .ret))))⟩
def qf_s_l01Next : QF := ⟨2, 58, [.t 4],
 (.seq (.reg [⟨(some 4), none, .o (.mov (.c (.i .i64 (0))))⟩])
 (.seq (.seq (.reg [⟨(some 6), none, .o (.mov (.t 1))⟩,
 ⟨(some 7), none, .o (.bin .lss (.t 6) (.c (.i .i64 (1))))⟩])
 (.cond (.t 7)
 (.seq (.reg [⟨(some 4), none, .o (.mov (.c (.i .i64 (0))))⟩])
 .ret)
 .skip))
 (.seq (.reg [⟨(some 8), none, .o (.mov (.t 0))⟩,
 ⟨(some 9), none, .o (.mov (.t 0))⟩,
 ⟨(some 10), none, .o (.nck (.t 9))⟩,
 ⟨(some 11), none, .o (.add (.t 10) 2)⟩,
 ⟨(some 12), none, .ld1 (.t 11)⟩,
 ⟨(some 13), none, .bnu .mul (.t 12) (.c (.i .u64 (6364136223846793005)))⟩,
 ⟨(some 14), none, .bnu .add (.t 13) (.c (.i .u64 (1442695040888963407)))⟩,
 ⟨(some 15), none, .o (.nck (.t 8))⟩,
 ⟨(some 16), none, .o (.add (.t 15) 2)⟩,
 ⟨none, none, .st1 (.t 16) (.t 14)⟩])
 (.seq (.reg [⟨(some 17), none, .o (.mov (.t 0))⟩,
 ⟨(some 18), none, .o (.nck (.t 17))⟩,
 ⟨(some 19), none, .o (.add (.t 18) 2)⟩,
 ⟨(some 20), none, .ld1 (.t 19)⟩,
 ⟨(some 21), none, .bnu .shr (.t 20) (.c (.i .u64 (33)))⟩,
 ⟨(some 22), none, .bnu .and (.t 21) (.c (.i .u64 (16777215)))⟩,
 ⟨(some 23), none, .o (.cvt .i64 (.t 22))⟩,
 ⟨(some 5), none, .o (.mov (.t 23))⟩])
 (.seq (.seq (.drs [0, 1, 3, 7, 0, 16, 48, 112, 240, 511]
 [(0, false, ⟨(some 24), none, .o (.mov (.t 0))⟩),
 (1, false, ⟨(some 25), none, .o (.nck (.t 24))⟩),
 (2, false, ⟨(some 26), none, .o (.add (.t 25) 1)⟩),
 (3, false, ⟨(some 27), none, .ld1 (.t 26)⟩),
 (4, false, ⟨(some 28), none, .o (.mov (.t 0))⟩),
 (5, false, ⟨(some 29), none, .o (.nck (.t 28))⟩),
 (6, false, ⟨(some 30), none, .o (.add (.t 29) 0)⟩),
 (7, false, ⟨(some 31), none, .ld1 (.t 30)⟩),
 (8, false, ⟨(some 32), none, .len (.t 31)⟩),
 (9, false, ⟨(some 33), none, .o (.bin .lss (.t 27) (.t 32))⟩)])
 (.cond (.t 33)
 (.seq (.drs [0, 0, 2, 6, 14, 0, 32, 96, 224, 510, 1022, 2046, 4095, 8191]
 [(0, false, ⟨(some 34), none, .o (.mov (.t 5))⟩),
 (1, false, ⟨(some 35), none, .o (.mov (.t 0))⟩),
 (2, false, ⟨(some 36), none, .o (.nck (.t 35))⟩),
 (3, false, ⟨(some 37), none, .o (.add (.t 36) 0)⟩),
 (4, false, ⟨(some 38), none, .ld1 (.t 37)⟩),
 (5, false, ⟨(some 39), none, .o (.mov (.t 0))⟩),
 (6, false, ⟨(some 40), none, .o (.nck (.t 39))⟩),
 (7, false, ⟨(some 41), none, .o (.add (.t 40) 1)⟩),
 (8, false, ⟨(some 42), none, .ld1 (.t 41)⟩),
 (9, false, ⟨(some 43), none, .ids (.t 38) (.t 42) 1⟩),
 (10, false, ⟨(some 44), none, .ld1 (.t 43)⟩),
 (11, false, ⟨(some 45), none, .o (.cvt .i64 (.t 44))⟩),
 (12, false, ⟨(some 46), none, .o (.bin .add (.t 34) (.t 45))⟩),
 (13, false, ⟨(some 5), none, .o (.mov (.t 46))⟩)])
 (.reg [⟨(some 47), none, .o (.mov (.t 0))⟩,
 ⟨(some 48), none, .o (.mov (.t 0))⟩,
 ⟨(some 49), none, .o (.nck (.t 48))⟩,
 ⟨(some 50), none, .o (.add (.t 49) 1)⟩,
 ⟨(some 51), none, .ld1 (.t 50)⟩,
 ⟨(some 52), none, .o (.bin .add (.t 51) (.c (.i .i64 (1))))⟩,
 ⟨(some 53), none, .o (.nck (.t 47))⟩,
 ⟨(some 54), none, .o (.add (.t 53) 1)⟩,
 ⟨none, none, .st1 (.t 54) (.t 52)⟩]))
 .skip))
 (.seq (.reg [⟨(some 55), none, .o (.mov (.t 5))⟩,
 ⟨(some 56), none, .o (.mov (.t 1))⟩,
 ⟨(some 57), none, .o (.bin .rem (.t 55) (.t 56))⟩,
 ⟨(some 4), none, .o (.mov (.t 57))⟩])
 .ret))))))⟩
def qf_s_l01Pick : QF := ⟨2, 12, [.t 4],
 (.seq (.reg [⟨(some 4), none, .o (.mov (.c (.i .i64 (0))))⟩])
 (.seq (.reg [⟨(some 5), none, .o (.mov (.t 1))⟩,
 ⟨(some 6), none, .o (.mov (.t 0))⟩,
 ⟨(some 7), none, .o (.mov (.t 1))⟩,
 ⟨(some 8), none, .len (.t 7)⟩,
 ⟨(some 9), none, .call 195 [(.t 6), (.t 8)]⟩,
 ⟨(some 10), none, .ids (.t 5) (.t 9) 1⟩,
 ⟨(some 11), none, .ld1 (.t 10)⟩,
 ⟨(some 4), none, .o (.mov (.t 11))⟩])
 .ret))⟩
def qf_s_l01DrawPrime : QF := ⟨1, 6, [.t 2],
 (.seq (.reg [⟨(some 2), none, .o (.mov (.c (.i .i64 (0))))⟩])
 (.seq (.reg [⟨(some 3), none, .o (.mov (.t 0))⟩,
 ⟨(some 4), none, .o (.bsa [(.c (.i .i64 (2))), (.c (.i .i64 (2))), (.c (.i .i64 (3))), (.c (.i .i64 (3))), (.c (.i .i64 (5))), (.c (.i .i64 (5))), (.c (.i .i64 (7))), (.c (.i .i64 (11))), (.c (.i .i64 (31)))])⟩,
 ⟨(some 5), none, .call 205 [(.t 3), (.t 4)]⟩,
 ⟨(some 2), none, .o (.mov (.t 5))⟩])
 .ret))⟩
def qf_s_l01Cyclic : QF := ⟨2, 35, [.c 4 2 522],
 (.seq (.reg [⟨(some 4), none, .o (.alo (.by 2 522))⟩])
 (.seq (.reg [⟨(some 8), none, .o (.mov (.t 0))⟩,
 ⟨(some 9), none, .o (.mov (.t 1))⟩,
 ⟨(some 10), none, .o (.bld 2 522 [(0, 1, (.t 8)), (1, 1, (.t 9))])⟩,
 ⟨(some 5), none, .o (.alo (.by 2 522))⟩,
 ⟨none, none, .sta (.t 5) (.t 10) 522⟩])
 (.seq (.reg [⟨(some 11), none, .o (.add (.t 5) 2)⟩,
 ⟨(some 12), none, .o (.idx (.t 11) (.c (.i .i64 (0))) 8 1)⟩,
 ⟨none, none, .st1 (.t 12) (.c (.u 1))⟩])
 (.seq (.seq (.reg [⟨(some 6), none, .o (.mov (.c (.i .i64 (0))))⟩])
 (.blk 0
 (.loop
 (.seq (.seq (.reg [⟨(some 13), none, .o (.mov (.t 6))⟩,
 ⟨(some 14), none, .o (.mov (.t 1))⟩,
 ⟨(some 15), none, .o (.bin .lss (.t 13) (.t 14))⟩])
 (.cond (.t 15)
 .skip
 (.exit 0)))
 (.seq (.blk 1
 (.seq (.reg [⟨(some 7), none, .o (.mov (.c (.i .i64 (0))))⟩])
 (.blk 2
 (.loop
 (.seq (.seq (.reg [⟨(some 18), none, .o (.mov (.t 7))⟩,
 ⟨(some 19), none, .o (.mov (.t 1))⟩,
 ⟨(some 20), none, .o (.bin .lss (.t 18) (.t 19))⟩])
 (.cond (.t 20)
 .skip
 (.exit 2)))
 (.seq (.blk 3
 (.drs [0, 0, 0, 0, 12, 0, 60, 0, 129, 387, 1023, 2047]
 [(0, false, ⟨(some 23), none, .o (.mov (.t 6))⟩),
 (1, false, ⟨(some 24), none, .o (.mov (.t 7))⟩),
 (2, false, ⟨(some 25), none, .o (.mov (.t 6))⟩),
 (3, false, ⟨(some 26), none, .o (.mov (.t 7))⟩),
 (4, false, ⟨(some 27), none, .o (.bin .add (.t 25) (.t 26))⟩),
 (5, false, ⟨(some 28), none, .o (.mov (.t 1))⟩),
 (6, false, ⟨(some 29), none, .o (.bin .rem (.t 27) (.t 28))⟩),
 (7, false, ⟨(some 30), none, .o (.add (.t 5) 10)⟩),
 (8, false, ⟨(some 31), none, .o (.idx (.t 30) (.t 23) 8 64)⟩),
 (9, false, ⟨(some 32), none, .o (.idx (.t 31) (.t 24) 8 8)⟩),
 (10, false, ⟨(some 33), none, .o (.idx (.t 32) (.t 29) 8 1)⟩),
 (11, false, ⟨none, none, .st1 (.t 33) (.c (.u 1))⟩)]))
 (.reg [⟨(some 21), none, .o (.mov (.t 7))⟩,
 ⟨(some 22), none, .o (.bin .add (.t 21) (.c (.i .i64 (1))))⟩,
 ⟨(some 7), none, .o (.mov (.t 22))⟩])))))))
 (.reg [⟨(some 16), none, .o (.mov (.t 6))⟩,
 ⟨(some 17), none, .o (.bin .add (.t 16) (.c (.i .i64 (1))))⟩,
 ⟨(some 6), none, .o (.mov (.t 17))⟩]))))))
 (.seq (.reg [⟨(some 34), none, .lda (.t 5) 2 522⟩,
 ⟨none, none, .sta (.t 4) (.t 34) 522⟩])
 .ret)))))⟩
def qf_s_l01Powers : QF := ⟨4, 55, [.c 8 2 522],
 (.seq (.reg [⟨(some 8), none, .o (.alo (.by 2 522))⟩])
 (.seq (.reg [⟨(some 14), none, .o (.mov (.t 0))⟩,
 ⟨(some 15), none, .o (.mov (.t 1))⟩,
 ⟨(some 16), none, .o (.bld 2 522 [(0, 1, (.t 14)), (1, 1, (.t 15))])⟩,
 ⟨(some 9), none, .o (.alo (.by 2 522))⟩,
 ⟨none, none, .sta (.t 9) (.t 16) 522⟩])
 (.seq (.reg [⟨(some 17), none, .o (.add (.t 9) 2)⟩,
 ⟨(some 18), none, .o (.idx (.t 17) (.c (.i .i64 (0))) 8 1)⟩,
 ⟨none, none, .st1 (.t 18) (.c (.u 1))⟩])
 (.seq (.seq (.reg [⟨(some 10), none, .o (.mov (.c (.i .i64 (0))))⟩])
 (.blk 0
 (.loop
 (.seq (.seq (.reg [⟨(some 19), none, .o (.mov (.t 10))⟩,
 ⟨(some 20), none, .o (.mov (.t 1))⟩,
 ⟨(some 21), none, .o (.bin .lss (.t 19) (.t 20))⟩])
 (.cond (.t 21)
 .skip
 (.exit 0)))
 (.seq (.blk 1
 (.seq (.reg [⟨(some 11), none, .o (.mov (.c (.i .i64 (0))))⟩])
 (.blk 2
 (.loop
 (.seq (.seq (.reg [⟨(some 24), none, .o (.mov (.t 11))⟩,
 ⟨(some 25), none, .o (.mov (.t 1))⟩,
 ⟨(some 26), none, .o (.bin .lss (.t 24) (.t 25))⟩])
 (.cond (.t 26)
 .skip
 (.exit 2)))
 (.seq (.blk 3
 (.seq (.reg [⟨(some 29), none, .o (.mov (.t 10))⟩,
 ⟨(some 30), none, .o (.mov (.t 11))⟩,
 ⟨(some 31), none, .o (.bin .add (.t 29) (.t 30))⟩,
 ⟨(some 12), none, .o (.mov (.t 31))⟩,
 ⟨(some 13), none, .o (.mov (.c (.i .i64 (1))))⟩])
 (.seq (.blk 4
 (.loop
 (.seq (.seq (.reg [⟨(some 32), none, .o (.mov (.t 12))⟩,
 ⟨(some 33), none, .o (.mov (.t 1))⟩,
 ⟨(some 34), none, .o (.bin .geq (.t 32) (.t 33))⟩])
 (.cond (.t 34)
 .skip
 (.exit 4)))
 (.blk 5
 (.seq (.reg [⟨(some 35), none, .o (.mov (.t 12))⟩,
 ⟨(some 36), none, .o (.mov (.t 1))⟩,
 ⟨(some 37), none, .o (.bin .sub (.t 35) (.t 36))⟩,
 ⟨(some 38), none, .o (.mov (.t 3))⟩,
 ⟨(some 39), none, .o (.bin .add (.t 37) (.t 38))⟩,
 ⟨(some 12), none, .o (.mov (.t 39))⟩])
 (.reg [⟨(some 40), none, .o (.mov (.t 13))⟩,
 ⟨(some 41), none, .o (.mov (.t 2))⟩,
 ⟨(some 42), none, .o (.bin .mul (.t 40) (.t 41))⟩,
 ⟨(some 43), none, .o (.mov (.t 0))⟩,
 ⟨(some 44), none, .o (.bin .rem (.t 42) (.t 43))⟩,
 ⟨(some 13), none, .o (.mov (.t 44))⟩]))))))
 (.reg [⟨(some 45), none, .o (.mov (.t 10))⟩,
 ⟨(some 46), none, .o (.mov (.t 11))⟩,
 ⟨(some 47), none, .o (.mov (.t 12))⟩,
 ⟨(some 48), none, .o (.mov (.t 13))⟩,
 ⟨(some 49), none, .o (.cvt .u8 (.t 48))⟩,
 ⟨(some 50), none, .o (.add (.t 9) 10)⟩,
 ⟨(some 51), none, .o (.idx (.t 50) (.t 45) 8 64)⟩,
 ⟨(some 52), none, .o (.idx (.t 51) (.t 46) 8 8)⟩,
 ⟨(some 53), none, .o (.idx (.t 52) (.t 47) 8 1)⟩,
 ⟨none, none, .st1 (.t 53) (.t 49)⟩]))))
 (.reg [⟨(some 27), none, .o (.mov (.t 11))⟩,
 ⟨(some 28), none, .o (.bin .add (.t 27) (.c (.i .i64 (1))))⟩,
 ⟨(some 11), none, .o (.mov (.t 28))⟩])))))))
 (.reg [⟨(some 22), none, .o (.mov (.t 10))⟩,
 ⟨(some 23), none, .o (.bin .add (.t 22) (.c (.i .i64 (1))))⟩,
 ⟨(some 10), none, .o (.mov (.t 23))⟩]))))))
 (.seq (.reg [⟨(some 54), none, .lda (.t 9) 2 522⟩,
 ⟨none, none, .sta (.t 8) (.t 54) 522⟩])
 .ret)))))⟩
def qf_s_l01Matrices : QF := ⟨1, 42, [.c 2 2 522],
 (.seq (.reg [⟨(some 2), none, .o (.alo (.by 2 522))⟩])
 (.seq (.reg [⟨(some 7), none, .o (.mov (.t 0))⟩,
 ⟨(some 8), none, .o (.bld 2 522 [(0, 1, (.t 7)), (1, 1, (.c (.i .i64 (4))))])⟩,
 ⟨(some 3), none, .o (.alo (.by 2 522))⟩,
 ⟨none, none, .sta (.t 3) (.t 8) 522⟩])
 (.seq (.reg [⟨(some 9), none, .o (.add (.t 3) 2)⟩,
 ⟨(some 10), none, .o (.idx (.t 9) (.c (.i .i64 (0))) 8 1)⟩,
 ⟨none, none, .st1 (.t 10) (.c (.u 1))⟩])
 (.seq (.reg [⟨(some 11), none, .o (.add (.t 3) 2)⟩,
 ⟨(some 12), none, .o (.idx (.t 11) (.c (.i .i64 (3))) 8 1)⟩,
 ⟨none, none, .st1 (.t 12) (.c (.u 1))⟩])
 (.seq (.seq (.reg [⟨(some 4), none, .o (.mov (.c (.i .i64 (0))))⟩])
 (.blk 0
 (.loop
 (.seq (.seq (.reg [⟨(some 13), none, .o (.mov (.t 4))⟩,
 ⟨(some 14), none, .o (.bin .lss (.t 13) (.c (.i .i64 (2))))⟩])
 (.cond (.t 14)
 .skip
 (.exit 0)))
 (.seq (.blk 1
 (.seq (.reg [⟨(some 5), none, .o (.mov (.c (.i .i64 (0))))⟩])
 (.blk 2
 (.loop
 (.seq (.seq (.reg [⟨(some 17), none, .o (.mov (.t 5))⟩,
 ⟨(some 18), none, .o (.bin .lss (.t 17) (.c (.i .i64 (2))))⟩])
 (.cond (.t 18)
 .skip
 (.exit 2)))
 (.seq (.blk 3
 (.seq (.reg [⟨(some 6), none, .o (.mov (.c (.i .i64 (0))))⟩])
 (.blk 4
 (.loop
 (.seq (.seq (.reg [⟨(some 21), none, .o (.mov (.t 6))⟩,
 ⟨(some 22), none, .o (.bin .lss (.t 21) (.c (.i .i64 (2))))⟩])
 (.cond (.t 22)
 .skip
 (.exit 4)))
 (.seq (.blk 5
 (.reg [⟨(some 25), none, .o (.mov (.t 4))⟩,
 ⟨(some 26), none, .o (.bin .mul (.c (.i .i64 (2))) (.t 25))⟩,
 ⟨(some 27), none, .o (.mov (.t 5))⟩,
 ⟨(some 28), none, .o (.bin .add (.t 26) (.t 27))⟩,
 ⟨(some 29), none, .o (.mov (.t 5))⟩,
 ⟨(some 30), none, .o (.bin .mul (.c (.i .i64 (2))) (.t 29))⟩,
 ⟨(some 31), none, .o (.mov (.t 6))⟩,
 ⟨(some 32), none, .o (.bin .add (.t 30) (.t 31))⟩,
 ⟨(some 33), none, .o (.mov (.t 4))⟩,
 ⟨(some 34), none, .o (.bin .mul (.c (.i .i64 (2))) (.t 33))⟩,
 ⟨(some 35), none, .o (.mov (.t 6))⟩,
 ⟨(some 36), none, .o (.bin .add (.t 34) (.t 35))⟩,
 ⟨(some 37), none, .o (.add (.t 3) 10)⟩,
 ⟨(some 38), none, .o (.idx (.t 37) (.t 28) 8 64)⟩,
 ⟨(some 39), none, .o (.idx (.t 38) (.t 32) 8 8)⟩,
 ⟨(some 40), none, .o (.idx (.t 39) (.t 36) 8 1)⟩,
 ⟨none, none, .st1 (.t 40) (.c (.u 1))⟩]))
 (.reg [⟨(some 23), none, .o (.mov (.t 6))⟩,
 ⟨(some 24), none, .o (.bin .add (.t 23) (.c (.i .i64 (1))))⟩,
 ⟨(some 6), none, .o (.mov (.t 24))⟩])))))))
 (.reg [⟨(some 19), none, .o (.mov (.t 5))⟩,
 ⟨(some 20), none, .o (.bin .add (.t 19) (.c (.i .i64 (1))))⟩,
 ⟨(some 5), none, .o (.mov (.t 20))⟩])))))))
 (.reg [⟨(some 15), none, .o (.mov (.t 4))⟩,
 ⟨(some 16), none, .o (.bin .add (.t 15) (.c (.i .i64 (1))))⟩,
 ⟨(some 4), none, .o (.mov (.t 16))⟩]))))))
 (.seq (.reg [⟨(some 41), none, .lda (.t 3) 2 522⟩,
 ⟨none, none, .sta (.t 2) (.t 41) 522⟩])
 .ret))))))⟩
def qf_s_ProductAlgebra : QF := ⟨2, 91, [.c 4 2 522, .t 5],
 (.seq (.reg [⟨(some 2), none, .o (.box (.t 0))⟩,
 ⟨(some 3), none, .o (.box (.t 1))⟩,
 ⟨(some 4), none, .o (.alo (.by 2 522))⟩,
 ⟨(some 5), none, .o (.mov (.c (.i .i64 (0))))⟩])
 (.seq (.blk 0
 (.seq (.reg [⟨(some 11), none, .lda (.t 2) 2 522⟩,
 ⟨(some 12), none, .calp 76 [(.t 11)]⟩,
 ⟨(some 13), none, .o (.nt (.t 12))⟩,
 ⟨(some 14), none, .o (.mov (.t 13))⟩,
 ⟨(some 15), (some (14, false)), .lda (.t 3) 2 522⟩,
 ⟨(some 16), (some (14, false)), .calp 76 [(.t 15)]⟩,
 ⟨(some 17), (some (14, false)), .o (.nt (.t 16))⟩,
 ⟨(some 18), none, .o (.pick (.t 14) (.c (.b true)) (.t 17))⟩,
 ⟨(some 10), none, .o (.mov (.t 18))⟩])
 (.cond (.t 10)
 (.seq (.reg [⟨(some 19), none, .o (.bld 2 522 [])⟩,
 ⟨none, none, .sta (.t 4) (.t 19) 522⟩,
 ⟨(some 5), none, .o (.mov (.c (.i .i64 (1))))⟩])
 .ret)
 (.seq (.reg [⟨(some 21), none, .o (.add (.t 2) 0)⟩,
 ⟨(some 22), none, .ld1 (.t 21)⟩,
 ⟨(some 23), none, .o (.add (.t 3) 0)⟩,
 ⟨(some 24), none, .ld1 (.t 23)⟩,
 ⟨(some 25), none, .o (.bin .neq (.t 22) (.t 24))⟩,
 ⟨(some 20), none, .o (.mov (.t 25))⟩])
 (.cond (.t 20)
 (.seq (.reg [⟨(some 26), none, .o (.bld 2 522 [])⟩,
 ⟨none, none, .sta (.t 4) (.t 26) 522⟩,
 ⟨(some 5), none, .o (.mov (.c (.i .i64 (2))))⟩])
 .ret)
 (.seq (.reg [⟨(some 28), none, .o (.add (.t 2) 1)⟩,
 ⟨(some 29), none, .ld1 (.t 28)⟩,
 ⟨(some 30), none, .o (.add (.t 3) 1)⟩,
 ⟨(some 31), none, .ld1 (.t 30)⟩,
 ⟨(some 32), none, .o (.bin .add (.t 29) (.t 31))⟩,
 ⟨(some 33), none, .o (.bin .gtr (.t 32) (.c (.i .i64 (8))))⟩,
 ⟨(some 27), none, .o (.mov (.t 33))⟩])
 (.cond (.t 27)
 (.seq (.reg [⟨(some 34), none, .o (.bld 2 522 [])⟩,
 ⟨none, none, .sta (.t 4) (.t 34) 522⟩,
 ⟨(some 5), none, .o (.mov (.c (.i .i64 (3))))⟩])
 .ret)
 .skip)))))))
 (.seq (.reg [⟨(some 35), none, .o (.add (.t 2) 1)⟩,
 ⟨(some 36), none, .ld1 (.t 35)⟩,
 ⟨(some 6), none, .o (.mov (.t 36))⟩])
 (.seq (.seq (.reg [⟨(some 7), none, .o (.mov (.c (.i .i64 (0))))⟩])
 (.blk 1
 (.loop
 (.seq (.seq (.reg [⟨(some 37), none, .o (.mov (.t 7))⟩,
 ⟨(some 38), none, .o (.add (.t 3) 1)⟩,
 ⟨(some 39), none, .ld1 (.t 38)⟩,
 ⟨(some 40), none, .o (.bin .lss (.t 37) (.t 39))⟩])
 (.cond (.t 40)
 .skip
 (.exit 1)))
 (.seq (.blk 2
 (.seq (.reg [⟨(some 43), none, .o (.mov (.t 6))⟩,
 ⟨(some 44), none, .o (.mov (.t 7))⟩,
 ⟨(some 45), none, .o (.bin .add (.t 43) (.t 44))⟩,
 ⟨(some 46), none, .o (.mov (.t 7))⟩,
 ⟨(some 47), none, .o (.add (.t 3) 2)⟩,
 ⟨(some 48), none, .o (.idx (.t 47) (.t 46) 8 1)⟩,
 ⟨(some 49), none, .ld1 (.t 48)⟩,
 ⟨(some 50), none, .o (.add (.t 2) 2)⟩,
 ⟨(some 51), none, .o (.idx (.t 50) (.t 45) 8 1)⟩,
 ⟨none, none, .st1 (.t 51) (.t 49)⟩])
 (.seq (.reg [⟨(some 8), none, .o (.mov (.c (.i .i64 (0))))⟩])
 (.blk 3
 (.loop
 (.seq (.seq (.reg [⟨(some 52), none, .o (.mov (.t 8))⟩,
 ⟨(some 53), none, .o (.add (.t 3) 1)⟩,
 ⟨(some 54), none, .ld1 (.t 53)⟩,
 ⟨(some 55), none, .o (.bin .lss (.t 52) (.t 54))⟩])
 (.cond (.t 55)
 .skip
 (.exit 3)))
 (.seq (.blk 4
 (.seq (.reg [⟨(some 9), none, .o (.mov (.c (.i .i64 (0))))⟩])
 (.blk 5
 (.loop
 (.seq (.seq (.reg [⟨(some 58), none, .o (.mov (.t 9))⟩,
 ⟨(some 59), none, .o (.add (.t 3) 1)⟩,
 ⟨(some 60), none, .ld1 (.t 59)⟩,
 ⟨(some 61), none, .o (.bin .lss (.t 58) (.t 60))⟩])
 (.cond (.t 61)
 .skip
 (.exit 5)))
 (.seq (.blk 6
 (.drs [0, 0, 3, 0, 0, 24, 0, 0, 192, 0, 0, 0, 0, 4608, 13824, 32256, 65024, 0, 131079, 393279, 1048575, 2097151]
 [(0, false, ⟨(some 64), none, .o (.mov (.t 6))⟩),
 (1, false, ⟨(some 65), none, .o (.mov (.t 7))⟩),
 (2, false, ⟨(some 66), none, .o (.bin .add (.t 64) (.t 65))⟩),
 (3, false, ⟨(some 67), none, .o (.mov (.t 6))⟩),
 (4, false, ⟨(some 68), none, .o (.mov (.t 8))⟩),
 (5, false, ⟨(some 69), none, .o (.bin .add (.t 67) (.t 68))⟩),
 (6, false, ⟨(some 70), none, .o (.mov (.t 6))⟩),
 (7, false, ⟨(some 71), none, .o (.mov (.t 9))⟩),
 (8, false, ⟨(some 72), none, .o (.bin .add (.t 70) (.t 71))⟩),
 (9, false, ⟨(some 73), none, .o (.mov (.t 7))⟩),
 (10, false, ⟨(some 74), none, .o (.mov (.t 8))⟩),
 (11, false, ⟨(some 75), none, .o (.mov (.t 9))⟩),
 (12, false, ⟨(some 76), none, .o (.add (.t 3) 10)⟩),
 (13, false, ⟨(some 77), none, .o (.idx (.t 76) (.t 73) 8 64)⟩),
 (14, false, ⟨(some 78), none, .o (.idx (.t 77) (.t 74) 8 8)⟩),
 (15, false, ⟨(some 79), none, .o (.idx (.t 78) (.t 75) 8 1)⟩),
 (16, false, ⟨(some 80), none, .ld1 (.t 79)⟩),
 (17, false, ⟨(some 81), none, .o (.add (.t 2) 10)⟩),
 (18, false, ⟨(some 82), none, .o (.idx (.t 81) (.t 66) 8 64)⟩),
 (19, false, ⟨(some 83), none, .o (.idx (.t 82) (.t 69) 8 8)⟩),
 (20, false, ⟨(some 84), none, .o (.idx (.t 83) (.t 72) 8 1)⟩),
 (21, false, ⟨none, none, .st1 (.t 84) (.t 80)⟩)]))
 (.reg [⟨(some 62), none, .o (.mov (.t 9))⟩,
 ⟨(some 63), none, .o (.bin .add (.t 62) (.c (.i .i64 (1))))⟩,
 ⟨(some 9), none, .o (.mov (.t 63))⟩])))))))
 (.reg [⟨(some 56), none, .o (.mov (.t 8))⟩,
 ⟨(some 57), none, .o (.bin .add (.t 56) (.c (.i .i64 (1))))⟩,
 ⟨(some 8), none, .o (.mov (.t 57))⟩]))))))))
 (.reg [⟨(some 41), none, .o (.mov (.t 7))⟩,
 ⟨(some 42), none, .o (.bin .add (.t 41) (.c (.i .i64 (1))))⟩,
 ⟨(some 7), none, .o (.mov (.t 42))⟩]))))))
 (.seq (.reg [⟨(some 85), none, .o (.mov (.t 6))⟩,
 ⟨(some 86), none, .o (.add (.t 3) 1)⟩,
 ⟨(some 87), none, .ld1 (.t 86)⟩,
 ⟨(some 88), none, .o (.bin .add (.t 85) (.t 87))⟩,
 ⟨(some 89), none, .o (.add (.t 2) 1)⟩,
 ⟨none, none, .st1 (.t 89) (.t 88)⟩])
 (.seq (.reg [⟨(some 90), none, .lda (.t 2) 2 522⟩,
 ⟨none, none, .sta (.t 4) (.t 90) 522⟩,
 ⟨(some 5), none, .o (.mov (.c (.i .i64 (0))))⟩])
 .ret))))))⟩
def qf_s_l01Draw : QF := ⟨1, 81, [.c 2 2 522],
 (.seq (.reg [⟨(some 2), none, .o (.alo (.by 2 522))⟩])
 (.seq (.reg [⟨(some 9), none, .o (.mov (.t 0))⟩,
 ⟨(some 10), none, .call 206 [(.t 9)]⟩,
 ⟨(some 3), none, .o (.mov (.t 10))⟩])
 (.seq (.seq (.reg [⟨(some 11), none, .o (.mov (.t 0))⟩,
 ⟨(some 12), none, .call 195 [(.t 11), (.c (.i .i64 (6)))]⟩])
 (.blk 0
 (.seq (.reg [⟨(some 14), none, .o (.bin .eql (.t 12) (.c (.i .i64 (0))))⟩,
 ⟨(some 13), none, .o (.mov (.t 14))⟩])
 (.cond (.t 13)
 (.seq (.reg [⟨(some 15), none, .o (.mov (.t 3))⟩,
 ⟨(some 16), none, .o (.mov (.t 0))⟩,
 ⟨(some 17), none, .call 195 [(.t 16), (.c (.i .i64 (8)))]⟩,
 ⟨(some 18), none, .o (.bin .add (.c (.i .i64 (1))) (.t 17))⟩,
 ⟨(some 19), none, .call 196 [(.t 15), (.t 18)]⟩,
 ⟨none, none, .sta (.t 2) (.t 19) 522⟩])
 .ret)
 (.seq (.reg [⟨(some 21), none, .o (.bin .eql (.t 12) (.c (.i .i64 (1))))⟩,
 ⟨(some 20), none, .o (.mov (.t 21))⟩])
 (.cond (.t 20)
 (.seq (.reg [⟨(some 22), none, .o (.mov (.t 0))⟩,
 ⟨(some 23), none, .call 195 [(.t 22), (.c (.i .i64 (6)))]⟩,
 ⟨(some 24), none, .o (.bin .add (.c (.i .i64 (1))) (.t 23))⟩,
 ⟨(some 4), none, .o (.mov (.t 24))⟩])
 (.seq (.reg [⟨(some 25), none, .o (.mov (.t 3))⟩,
 ⟨(some 26), none, .o (.mov (.t 4))⟩,
 ⟨(some 27), none, .o (.mov (.t 0))⟩,
 ⟨(some 28), none, .o (.mov (.t 3))⟩,
 ⟨(some 29), none, .call 195 [(.t 27), (.t 28)]⟩,
 ⟨(some 30), none, .o (.mov (.t 0))⟩,
 ⟨(some 31), none, .o (.mov (.t 4))⟩,
 ⟨(some 32), none, .call 195 [(.t 30), (.t 31)]⟩,
 ⟨(some 33), none, .call 208 [(.t 25), (.t 26), (.t 29), (.t 32)]⟩,
 ⟨none, none, .sta (.t 2) (.t 33) 522⟩])
 .ret))
 (.seq (.reg [⟨(some 35), none, .o (.bin .eql (.t 12) (.c (.i .i64 (2))))⟩,
 ⟨(some 34), none, .o (.mov (.t 35))⟩])
 (.cond (.t 34)
 (.seq (.reg [⟨(some 36), none, .o (.mov (.t 3))⟩,
 ⟨(some 37), none, .call 197 [(.t 36)]⟩,
 ⟨none, none, .sta (.t 2) (.t 37) 522⟩])
 .ret)
 (.seq (.reg [⟨(some 39), none, .o (.bin .eql (.t 12) (.c (.i .i64 (3))))⟩,
 ⟨(some 38), none, .o (.mov (.t 39))⟩])
 (.cond (.t 38)
 (.seq (.reg [⟨(some 41), none, .o (.mov (.t 3))⟩,
 ⟨(some 42), none, .o (.mov (.t 0))⟩,
 ⟨(some 43), none, .call 195 [(.t 42), (.c (.i .i64 (3)))]⟩,
 ⟨(some 44), none, .o (.bin .add (.c (.i .i64 (1))) (.t 43))⟩,
 ⟨(some 45), none, .call 196 [(.t 41), (.t 44)]⟩,
 ⟨(some 46), none, .o (.mov (.t 3))⟩,
 ⟨(some 47), none, .call 197 [(.t 46)]⟩,
 ⟨(some 48), none, .calp 209 [(.t 45), (.t 47)]⟩,
 ⟨(some 40), none, .o (.mov (.t 48))⟩,
 ⟨(some 49), none, .o (.ext (.t 40) 0)⟩,
 ⟨(some 50), none, .o (.ext (.t 40) 1)⟩,
 ⟨(some 5), none, .o (.alo (.by 2 522))⟩,
 ⟨none, none, .sta (.t 5) (.t 49) 522⟩,
 ⟨(some 6), none, .o (.mov (.t 50))⟩])
 (.seq (.reg [⟨(some 51), none, .o (.mov (.t 6))⟩,
 ⟨(some 52), none, .o (.bin .eql (.t 51) (.c (.i .i64 (0))))⟩])
 (.cond (.t 52)
 (.seq (.reg [⟨(some 53), none, .lda (.t 5) 2 522⟩,
 ⟨none, none, .sta (.t 2) (.t 53) 522⟩])
 .ret)
 .skip)))
 (.seq (.reg [⟨(some 55), none, .o (.bin .eql (.t 12) (.c (.i .i64 (4))))⟩,
 ⟨(some 54), none, .o (.mov (.t 55))⟩])
 (.cond (.t 54)
 (.seq (.reg [⟨(some 57), none, .o (.mov (.t 3))⟩,
 ⟨(some 58), none, .o (.mov (.t 0))⟩,
 ⟨(some 59), none, .call 195 [(.t 58), (.c (.i .i64 (3)))]⟩,
 ⟨(some 60), none, .o (.bin .add (.c (.i .i64 (1))) (.t 59))⟩,
 ⟨(some 61), none, .call 208 [(.t 57), (.t 60), (.c (.i .i64 (0))), (.c (.i .i64 (0)))]⟩,
 ⟨(some 62), none, .o (.mov (.t 3))⟩,
 ⟨(some 63), none, .o (.mov (.t 0))⟩,
 ⟨(some 64), none, .call 195 [(.t 63), (.c (.i .i64 (4)))]⟩,
 ⟨(some 65), none, .o (.bin .add (.c (.i .i64 (1))) (.t 64))⟩,
 ⟨(some 66), none, .o (.mov (.t 0))⟩,
 ⟨(some 67), none, .o (.mov (.t 3))⟩,
 ⟨(some 68), none, .call 195 [(.t 66), (.t 67)]⟩,
 ⟨(some 69), none, .call 208 [(.t 62), (.t 65), (.t 68), (.c (.i .i64 (0)))]⟩,
 ⟨(some 70), none, .calp 209 [(.t 61), (.t 69)]⟩,
 ⟨(some 56), none, .o (.mov (.t 70))⟩,
 ⟨(some 71), none, .o (.ext (.t 56) 0)⟩,
 ⟨(some 72), none, .o (.ext (.t 56) 1)⟩,
 ⟨(some 7), none, .o (.alo (.by 2 522))⟩,
 ⟨none, none, .sta (.t 7) (.t 71) 522⟩,
 ⟨(some 8), none, .o (.mov (.t 72))⟩])
 (.seq (.reg [⟨(some 73), none, .o (.mov (.t 8))⟩,
 ⟨(some 74), none, .o (.bin .eql (.t 73) (.c (.i .i64 (0))))⟩])
 (.cond (.t 74)
 (.seq (.reg [⟨(some 75), none, .lda (.t 7) 2 522⟩,
 ⟨none, none, .sta (.t 2) (.t 75) 522⟩])
 .ret)
 .skip)))
 .skip))))))))))))
 (.seq (.reg [⟨(some 76), none, .o (.mov (.t 3))⟩,
 ⟨(some 77), none, .o (.mov (.t 0))⟩,
 ⟨(some 78), none, .call 195 [(.t 77), (.c (.i .i64 (3)))]⟩,
 ⟨(some 79), none, .o (.bin .add (.c (.i .i64 (1))) (.t 78))⟩,
 ⟨(some 80), none, .call 208 [(.t 76), (.t 79), (.c (.i .i64 (0))), (.c (.i .i64 (0)))]⟩,
 ⟨none, none, .sta (.t 2) (.t 80) 522⟩])
 .ret))))⟩
def qf_s_l02Turned : QF := ⟨1, 34, [.c 2 0 512],
 (.seq (.reg [⟨(some 1), none, .o (.box (.t 0))⟩,
 ⟨(some 2), none, .o (.alo (.by 0 512))⟩])
 (.seq (.reg [⟨(some 7), none, .o (.bld 0 512 [])⟩,
 ⟨(some 3), none, .o (.alo (.by 0 512))⟩,
 ⟨none, none, .sta (.t 3) (.t 7) 512⟩])
 (.seq (.seq (.reg [⟨(some 4), none, .o (.mov (.c (.i .i64 (0))))⟩])
 (.blk 0
 (.loop
 (.seq (.seq (.reg [⟨(some 8), none, .o (.mov (.t 4))⟩,
 ⟨(some 9), none, .o (.bin .lss (.t 8) (.c (.i .i64 (8))))⟩])
 (.cond (.t 9)
 .skip
 (.exit 0)))
 (.seq (.blk 1
 (.seq (.reg [⟨(some 5), none, .o (.mov (.c (.i .i64 (0))))⟩])
 (.blk 2
 (.loop
 (.seq (.seq (.reg [⟨(some 12), none, .o (.mov (.t 5))⟩,
 ⟨(some 13), none, .o (.bin .lss (.t 12) (.c (.i .i64 (8))))⟩])
 (.cond (.t 13)
 .skip
 (.exit 2)))
 (.seq (.blk 3
 (.seq (.reg [⟨(some 6), none, .o (.mov (.c (.i .i64 (0))))⟩])
 (.blk 4
 (.loop
 (.seq (.seq (.reg [⟨(some 16), none, .o (.mov (.t 6))⟩,
 ⟨(some 17), none, .o (.bin .lss (.t 16) (.c (.i .i64 (8))))⟩])
 (.cond (.t 17)
 .skip
 (.exit 4)))
 (.seq (.blk 5
 (.drs [0, 0, 0, 0, 0, 0, 8, 88, 248, 504, 1, 1027, 4095, 8191]
 [(0, false, ⟨(some 20), none, .o (.mov (.t 5))⟩),
 (1, false, ⟨(some 21), none, .o (.mov (.t 6))⟩),
 (2, false, ⟨(some 22), none, .o (.mov (.t 4))⟩),
 (3, false, ⟨(some 23), none, .o (.mov (.t 4))⟩),
 (4, false, ⟨(some 24), none, .o (.mov (.t 5))⟩),
 (5, false, ⟨(some 25), none, .o (.mov (.t 6))⟩),
 (6, false, ⟨(some 26), none, .o (.idx (.t 1) (.t 23) 8 64)⟩),
 (7, false, ⟨(some 27), none, .o (.idx (.t 26) (.t 24) 8 8)⟩),
 (8, false, ⟨(some 28), none, .o (.idx (.t 27) (.t 25) 8 1)⟩),
 (9, false, ⟨(some 29), none, .ld1 (.t 28)⟩),
 (10, false, ⟨(some 30), none, .o (.idx (.t 3) (.t 20) 8 64)⟩),
 (11, false, ⟨(some 31), none, .o (.idx (.t 30) (.t 21) 8 8)⟩),
 (12, false, ⟨(some 32), none, .o (.idx (.t 31) (.t 22) 8 1)⟩),
 (13, false, ⟨none, none, .st1 (.t 32) (.t 29)⟩)]))
 (.reg [⟨(some 18), none, .o (.mov (.t 6))⟩,
 ⟨(some 19), none, .o (.bin .add (.t 18) (.c (.i .i64 (1))))⟩,
 ⟨(some 6), none, .o (.mov (.t 19))⟩])))))))
 (.reg [⟨(some 14), none, .o (.mov (.t 5))⟩,
 ⟨(some 15), none, .o (.bin .add (.t 14) (.c (.i .i64 (1))))⟩,
 ⟨(some 5), none, .o (.mov (.t 15))⟩])))))))
 (.reg [⟨(some 10), none, .o (.mov (.t 4))⟩,
 ⟨(some 11), none, .o (.bin .add (.t 10) (.c (.i .i64 (1))))⟩,
 ⟨(some 4), none, .o (.mov (.t 11))⟩]))))))
 (.seq (.reg [⟨(some 33), none, .lda (.t 3) 0 512⟩,
 ⟨none, none, .sta (.t 2) (.t 33) 512⟩])
 .ret))))⟩
def qf_s_DualCoalgebra : QF := ⟨1, 19, [.c 2 2 522, .t 3],
 (.seq (.reg [⟨(some 1), none, .o (.box (.t 0))⟩,
 ⟨(some 2), none, .o (.alo (.by 2 522))⟩,
 ⟨(some 3), none, .o (.mov (.c (.i .i64 (0))))⟩])
 (.seq (.seq (.reg [⟨(some 4), none, .lda (.t 1) 2 522⟩,
 ⟨(some 5), none, .calp 76 [(.t 4)]⟩,
 ⟨(some 6), none, .o (.nt (.t 5))⟩])
 (.cond (.t 6)
 (.seq (.reg [⟨(some 7), none, .o (.bld 2 522 [])⟩,
 ⟨none, none, .sta (.t 2) (.t 7) 522⟩,
 ⟨(some 3), none, .o (.mov (.c (.i .i64 (1))))⟩])
 .ret)
 .skip))
 (.seq (.drs [0, 1, 0, 4, 0, 16, 0, 64, 192, 448, 1023, 2047, 4095]
 [(0, false, ⟨(some 8), none, .o (.add (.t 1) 0)⟩),
 (1, false, ⟨(some 9), none, .ld1 (.t 8)⟩),
 (2, false, ⟨(some 10), none, .o (.add (.t 1) 1)⟩),
 (3, false, ⟨(some 11), none, .ld1 (.t 10)⟩),
 (4, false, ⟨(some 12), none, .o (.add (.t 1) 2)⟩),
 (5, false, ⟨(some 13), none, .lda (.t 12) 0 8⟩),
 (6, false, ⟨(some 14), none, .o (.add (.t 1) 10)⟩),
 (7, false, ⟨(some 15), none, .lda (.t 14) 0 512⟩),
 (8, false, ⟨(some 16), none, .calp 210 [(.t 15)]⟩),
 (9, false, ⟨(some 17), none, .calp 210 [(.t 16)]⟩),
 (10, false, ⟨(some 18), none, .o (.bld 2 522 [(0, 1, (.t 9)), (1, 1, (.t 11)), (2, 8, (.t 13)), (10, 512, (.t 17))])⟩),
 (11, false, ⟨none, none, .sta (.t 2) (.t 18) 522⟩),
 (12, false, ⟨(some 3), none, .o (.mov (.c (.i .i64 (0))))⟩)])
 .ret)))⟩
def qf_s_l02Draw : QF := ⟨1, 74, [.c 2 2 522],
 (.seq (.reg [⟨(some 2), none, .o (.alo (.by 2 522))⟩])
 (.seq (.seq (.reg [⟨(some 10), none, .o (.mov (.t 0))⟩,
 ⟨(some 11), none, .call 195 [(.t 10), (.c (.i .i64 (4)))]⟩])
 (.blk 0
 (.seq (.reg [⟨(some 13), none, .o (.bin .eql (.t 11) (.c (.i .i64 (0))))⟩,
 ⟨(some 12), none, .o (.mov (.t 13))⟩])
 (.cond (.t 12)
 (.seq (.reg [⟨(some 14), none, .o (.mov (.t 0))⟩,
 ⟨(some 15), none, .call 206 [(.t 14)]⟩,
 ⟨(some 16), none, .o (.mov (.t 0))⟩,
 ⟨(some 17), none, .call 195 [(.t 16), (.c (.i .i64 (6)))]⟩,
 ⟨(some 18), none, .o (.bin .add (.c (.i .i64 (1))) (.t 17))⟩,
 ⟨(some 19), none, .o (.bld 2 522 [(0, 1, (.t 15)), (1, 1, (.t 18))])⟩,
 ⟨(some 3), none, .o (.alo (.by 2 522))⟩,
 ⟨none, none, .sta (.t 3) (.t 19) 522⟩])
 (.seq (.seq (.reg [⟨(some 4), none, .o (.mov (.c (.i .i64 (0))))⟩])
 (.blk 1
 (.loop
 (.seq (.seq (.reg [⟨(some 20), none, .o (.mov (.t 4))⟩,
 ⟨(some 21), none, .o (.add (.t 3) 1)⟩,
 ⟨(some 22), none, .ld1 (.t 21)⟩,
 ⟨(some 23), none, .o (.bin .lss (.t 20) (.t 22))⟩])
 (.cond (.t 23)
 .skip
 (.exit 1)))
 (.seq (.blk 2
 (.seq (.reg [⟨(some 26), none, .o (.mov (.t 4))⟩,
 ⟨(some 27), none, .o (.add (.t 3) 2)⟩,
 ⟨(some 28), none, .o (.idx (.t 27) (.t 26) 8 1)⟩,
 ⟨none, none, .st1 (.t 28) (.c (.u 1))⟩])
 (.reg [⟨(some 29), none, .o (.mov (.t 4))⟩,
 ⟨(some 30), none, .o (.mov (.t 4))⟩,
 ⟨(some 31), none, .o (.mov (.t 4))⟩,
 ⟨(some 32), none, .o (.add (.t 3) 10)⟩,
 ⟨(some 33), none, .o (.idx (.t 32) (.t 29) 8 64)⟩,
 ⟨(some 34), none, .o (.idx (.t 33) (.t 30) 8 8)⟩,
 ⟨(some 35), none, .o (.idx (.t 34) (.t 31) 8 1)⟩,
 ⟨none, none, .st1 (.t 35) (.c (.u 1))⟩])))
 (.reg [⟨(some 24), none, .o (.mov (.t 4))⟩,
 ⟨(some 25), none, .o (.bin .add (.t 24) (.c (.i .i64 (1))))⟩,
 ⟨(some 4), none, .o (.mov (.t 25))⟩]))))))
 (.seq (.reg [⟨(some 36), none, .lda (.t 3) 2 522⟩,
 ⟨none, none, .sta (.t 2) (.t 36) 522⟩])
 .ret)))
 (.seq (.reg [⟨(some 38), none, .o (.bin .eql (.t 11) (.c (.i .i64 (1))))⟩,
 ⟨(some 37), none, .o (.mov (.t 38))⟩])
 (.cond (.t 37)
 (.seq (.reg [⟨(some 39), none, .o (.mov (.t 0))⟩,
 ⟨(some 40), none, .call 206 [(.t 39)]⟩,
 ⟨(some 41), none, .o (.mov (.t 0))⟩,
 ⟨(some 42), none, .call 195 [(.t 41), (.c (.i .i64 (6)))]⟩,
 ⟨(some 43), none, .o (.bin .add (.c (.i .i64 (1))) (.t 42))⟩,
 ⟨(some 44), none, .o (.bld 0 8 [(0, 1, (.c (.u 1)))])⟩,
 ⟨(some 45), none, .o (.bld 2 522 [(0, 1, (.t 40)), (1, 1, (.t 43)), (2, 8, (.t 44))])⟩,
 ⟨(some 5), none, .o (.alo (.by 2 522))⟩,
 ⟨none, none, .sta (.t 5) (.t 45) 522⟩])
 (.seq (.seq (.reg [⟨(some 6), none, .o (.mov (.c (.i .i64 (0))))⟩])
 (.blk 3
 (.loop
 (.seq (.seq (.reg [⟨(some 46), none, .o (.mov (.t 6))⟩,
 ⟨(some 47), none, .o (.add (.t 5) 1)⟩,
 ⟨(some 48), none, .ld1 (.t 47)⟩,
 ⟨(some 49), none, .o (.bin .lss (.t 46) (.t 48))⟩])
 (.cond (.t 49)
 .skip
 (.exit 3)))
 (.seq (.blk 4
 (.seq (.reg [⟨(some 7), none, .o (.mov (.c (.i .i64 (0))))⟩])
 (.blk 5
 (.loop
 (.seq (.seq (.reg [⟨(some 52), none, .o (.mov (.t 7))⟩,
 ⟨(some 53), none, .o (.mov (.t 6))⟩,
 ⟨(some 54), none, .o (.bin .leq (.t 52) (.t 53))⟩])
 (.cond (.t 54)
 .skip
 (.exit 5)))
 (.seq (.blk 6
 (.reg [⟨(some 57), none, .o (.mov (.t 6))⟩,
 ⟨(some 58), none, .o (.mov (.t 7))⟩,
 ⟨(some 59), none, .o (.mov (.t 6))⟩,
 ⟨(some 60), none, .o (.mov (.t 7))⟩,
 ⟨(some 61), none, .o (.bin .sub (.t 59) (.t 60))⟩,
 ⟨(some 62), none, .o (.add (.t 5) 10)⟩,
 ⟨(some 63), none, .o (.idx (.t 62) (.t 57) 8 64)⟩,
 ⟨(some 64), none, .o (.idx (.t 63) (.t 58) 8 8)⟩,
 ⟨(some 65), none, .o (.idx (.t 64) (.t 61) 8 1)⟩,
 ⟨none, none, .st1 (.t 65) (.c (.u 1))⟩]))
 (.reg [⟨(some 55), none, .o (.mov (.t 7))⟩,
 ⟨(some 56), none, .o (.bin .add (.t 55) (.c (.i .i64 (1))))⟩,
 ⟨(some 7), none, .o (.mov (.t 56))⟩])))))))
 (.reg [⟨(some 50), none, .o (.mov (.t 6))⟩,
 ⟨(some 51), none, .o (.bin .add (.t 50) (.c (.i .i64 (1))))⟩,
 ⟨(some 6), none, .o (.mov (.t 51))⟩]))))))
 (.seq (.reg [⟨(some 66), none, .lda (.t 5) 2 522⟩,
 ⟨none, none, .sta (.t 2) (.t 66) 522⟩])
 .ret)))
 .skip))))))
 (.seq (.reg [⟨(some 68), none, .o (.mov (.t 0))⟩,
 ⟨(some 69), none, .call 203 [(.t 68)]⟩,
 ⟨(some 70), none, .calp 207 [(.t 69)]⟩,
 ⟨(some 67), none, .o (.mov (.t 70))⟩,
 ⟨(some 71), none, .o (.ext (.t 67) 0)⟩,
 ⟨(some 72), none, .o (.ext (.t 67) 1)⟩,
 ⟨(some 8), none, .o (.alo (.by 2 522))⟩,
 ⟨none, none, .sta (.t 8) (.t 71) 522⟩,
 ⟨(some 9), none, .o (.mov (.t 72))⟩])
 (.seq (.reg [⟨(some 73), none, .lda (.t 8) 2 522⟩,
 ⟨none, none, .sta (.t 2) (.t 73) 522⟩])
 .ret))))⟩
def qf_s_l02Bad : QF := ⟨2, 47, [.c 4 2 522],
 (.seq (.reg [⟨(some 3), none, .o (.box (.t 1))⟩,
 ⟨(some 4), none, .o (.alo (.by 2 522))⟩])
 (.seq (.seq (.reg [⟨(some 5), none, .o (.mov (.t 0))⟩,
 ⟨(some 6), none, .call 195 [(.t 5), (.c (.i .i64 (40)))]⟩])
 (.blk 0
 (.seq (.reg [⟨(some 8), none, .o (.bin .eql (.t 6) (.c (.i .i64 (0))))⟩,
 ⟨(some 7), none, .o (.mov (.t 8))⟩])
 (.cond (.t 7)
 (.reg [⟨(some 9), none, .o (.mov (.t 0))⟩,
 ⟨(some 10), none, .o (.bsa [(.c (.i .i64 (0))), (.c (.i .i64 (4))), (.c (.i .i64 (37)))])⟩,
 ⟨(some 11), none, .call 205 [(.t 9), (.t 10)]⟩,
 ⟨(some 12), none, .o (.add (.t 3) 0)⟩,
 ⟨none, none, .st1 (.t 12) (.t 11)⟩])
 (.seq (.reg [⟨(some 14), none, .o (.bin .eql (.t 6) (.c (.i .i64 (1))))⟩,
 ⟨(some 13), none, .o (.mov (.t 14))⟩])
 (.cond (.t 13)
 (.reg [⟨(some 15), none, .o (.mov (.t 0))⟩,
 ⟨(some 16), none, .o (.add (.t 3) 1)⟩,
 ⟨(some 17), none, .ld1 (.t 16)⟩,
 ⟨(some 18), none, .o (.bin .sub (.t 17) (.c (.i .i64 (1))))⟩,
 ⟨(some 19), none, .o (.bsa [(.c (.i .i64 (0))), (.c (.i .i64 (9))), (.t 18)])⟩,
 ⟨(some 20), none, .call 205 [(.t 15), (.t 19)]⟩,
 ⟨(some 21), none, .o (.add (.t 3) 1)⟩,
 ⟨none, none, .st1 (.t 21) (.t 20)⟩])
 (.seq (.reg [⟨(some 23), none, .o (.bin .eql (.t 6) (.c (.i .i64 (2))))⟩,
 ⟨(some 22), none, .o (.mov (.t 23))⟩])
 (.cond (.t 22)
 (.drs [0, 1, 0, 7, 0, 31, 0, 127, 255, 0, 515, 1551, 4095, 8191]
 [(0, false, ⟨(some 24), none, .o (.mov (.t 0))⟩),
 (2, false, ⟨(some 26), none, .o (.mov (.t 0))⟩),
 (4, false, ⟨(some 28), none, .o (.mov (.t 0))⟩),
 (6, false, ⟨(some 30), none, .o (.mov (.t 0))⟩),
 (9, false, ⟨(some 33), none, .o (.add (.t 3) 10)⟩),
 (1, false, ⟨(some 25), none, .call 195 [(.t 24), (.c (.i .i64 (4)))]⟩),
 (10, false, ⟨(some 34), none, .o (.idx (.t 33) (.t 25) 8 64)⟩),
 (3, false, ⟨(some 27), none, .call 195 [(.t 26), (.c (.i .i64 (4)))]⟩),
 (11, false, ⟨(some 35), none, .o (.idx (.t 34) (.t 27) 8 8)⟩),
 (5, false, ⟨(some 29), none, .call 195 [(.t 28), (.c (.i .i64 (4)))]⟩),
 (7, false, ⟨(some 31), none, .call 195 [(.t 30), (.c (.i .i64 (3)))]⟩),
 (8, false, ⟨(some 32), none, .o (.cvt .u8 (.t 31))⟩),
 (12, false, ⟨(some 36), none, .o (.idx (.t 35) (.t 29) 8 1)⟩),
 (13, false, ⟨none, none, .st1 (.t 36) (.t 32)⟩)])
 (.seq (.reg [⟨(some 38), none, .o (.bin .eql (.t 6) (.c (.i .i64 (3))))⟩,
 ⟨(some 37), none, .o (.mov (.t 38))⟩])
 (.cond (.t 37)
 (.reg [⟨(some 39), none, .o (.mov (.t 0))⟩,
 ⟨(some 40), none, .call 195 [(.t 39), (.c (.i .i64 (8)))]⟩,
 ⟨(some 41), none, .o (.mov (.t 0))⟩,
 ⟨(some 42), none, .call 195 [(.t 41), (.c (.i .i64 (3)))]⟩,
 ⟨(some 43), none, .o (.cvt .u8 (.t 42))⟩,
 ⟨(some 44), none, .o (.add (.t 3) 2)⟩,
 ⟨(some 45), none, .o (.idx (.t 44) (.t 40) 8 1)⟩,
 ⟨none, none, .st1 (.t 45) (.t 43)⟩])
 .skip))))))))))
 (.seq (.reg [⟨(some 46), none, .lda (.t 3) 2 522⟩,
 ⟨none, none, .sta (.t 4) (.t 46) 522⟩])
 .ret)))⟩
def qf_s_l02Spoil : QF := ⟨1, 7, [.c 2 2 522],
 (.seq (.reg [⟨(some 2), none, .o (.alo (.by 2 522))⟩])
 (.seq (.reg [⟨(some 3), none, .o (.mov (.t 0))⟩,
 ⟨(some 4), none, .o (.mov (.t 0))⟩,
 ⟨(some 5), none, .call 201 [(.t 4)]⟩,
 ⟨(some 6), none, .call 202 [(.t 3), (.t 5)]⟩,
 ⟨none, none, .sta (.t 2) (.t 6) 522⟩])
 .ret))⟩
def qf_s_l01Bad : QF := ⟨2, 47, [.c 4 2 522],
 (.seq (.reg [⟨(some 3), none, .o (.box (.t 1))⟩,
 ⟨(some 4), none, .o (.alo (.by 2 522))⟩])
 (.seq (.seq (.reg [⟨(some 5), none, .o (.mov (.t 0))⟩,
 ⟨(some 6), none, .call 195 [(.t 5), (.c (.i .i64 (40)))]⟩])
 (.blk 0
 (.seq (.reg [⟨(some 8), none, .o (.bin .eql (.t 6) (.c (.i .i64 (0))))⟩,
 ⟨(some 7), none, .o (.mov (.t 8))⟩])
 (.cond (.t 7)
 (.reg [⟨(some 9), none, .o (.mov (.t 0))⟩,
 ⟨(some 10), none, .o (.bsa [(.c (.i .i64 (0))), (.c (.i .i64 (1))), (.c (.i .i64 (4))), (.c (.i .i64 (9))), (.c (.i .i64 (37))), (.c (.i .i64 (-5)))])⟩,
 ⟨(some 11), none, .call 205 [(.t 9), (.t 10)]⟩,
 ⟨(some 12), none, .o (.add (.t 3) 0)⟩,
 ⟨none, none, .st1 (.t 12) (.t 11)⟩])
 (.seq (.reg [⟨(some 14), none, .o (.bin .eql (.t 6) (.c (.i .i64 (1))))⟩,
 ⟨(some 13), none, .o (.mov (.t 14))⟩])
 (.cond (.t 13)
 (.reg [⟨(some 15), none, .o (.mov (.t 0))⟩,
 ⟨(some 16), none, .o (.add (.t 3) 1)⟩,
 ⟨(some 17), none, .ld1 (.t 16)⟩,
 ⟨(some 18), none, .o (.bin .sub (.t 17) (.c (.i .i64 (1))))⟩,
 ⟨(some 19), none, .o (.bsa [(.c (.i .i64 (0))), (.c (.i .i64 (9))), (.c (.i .i64 (-1))), (.t 18)])⟩,
 ⟨(some 20), none, .call 205 [(.t 15), (.t 19)]⟩,
 ⟨(some 21), none, .o (.add (.t 3) 1)⟩,
 ⟨none, none, .st1 (.t 21) (.t 20)⟩])
 (.seq (.reg [⟨(some 23), none, .o (.bin .eql (.t 6) (.c (.i .i64 (2))))⟩,
 ⟨(some 22), none, .o (.mov (.t 23))⟩])
 (.cond (.t 22)
 (.drs [0, 1, 0, 7, 0, 31, 0, 127, 255, 0, 515, 1551, 4095, 8191]
 [(0, false, ⟨(some 24), none, .o (.mov (.t 0))⟩),
 (2, false, ⟨(some 26), none, .o (.mov (.t 0))⟩),
 (4, false, ⟨(some 28), none, .o (.mov (.t 0))⟩),
 (6, false, ⟨(some 30), none, .o (.mov (.t 0))⟩),
 (9, false, ⟨(some 33), none, .o (.add (.t 3) 10)⟩),
 (1, false, ⟨(some 25), none, .call 195 [(.t 24), (.c (.i .i64 (8)))]⟩),
 (10, false, ⟨(some 34), none, .o (.idx (.t 33) (.t 25) 8 64)⟩),
 (3, false, ⟨(some 27), none, .call 195 [(.t 26), (.c (.i .i64 (8)))]⟩),
 (11, false, ⟨(some 35), none, .o (.idx (.t 34) (.t 27) 8 8)⟩),
 (5, false, ⟨(some 29), none, .call 195 [(.t 28), (.c (.i .i64 (8)))]⟩),
 (7, false, ⟨(some 31), none, .call 195 [(.t 30), (.c (.i .i64 (40)))]⟩),
 (8, false, ⟨(some 32), none, .o (.cvt .u8 (.t 31))⟩),
 (12, false, ⟨(some 36), none, .o (.idx (.t 35) (.t 29) 8 1)⟩),
 (13, false, ⟨none, none, .st1 (.t 36) (.t 32)⟩)])
 (.seq (.reg [⟨(some 38), none, .o (.bin .eql (.t 6) (.c (.i .i64 (3))))⟩,
 ⟨(some 37), none, .o (.mov (.t 38))⟩])
 (.cond (.t 37)
 (.reg [⟨(some 39), none, .o (.mov (.t 0))⟩,
 ⟨(some 40), none, .call 195 [(.t 39), (.c (.i .i64 (8)))]⟩,
 ⟨(some 41), none, .o (.mov (.t 0))⟩,
 ⟨(some 42), none, .call 195 [(.t 41), (.c (.i .i64 (3)))]⟩,
 ⟨(some 43), none, .o (.cvt .u8 (.t 42))⟩,
 ⟨(some 44), none, .o (.add (.t 3) 2)⟩,
 ⟨(some 45), none, .o (.idx (.t 44) (.t 40) 8 1)⟩,
 ⟨none, none, .st1 (.t 45) (.t 43)⟩])
 .skip))))))))))
 (.seq (.reg [⟨(some 46), none, .lda (.t 3) 2 522⟩,
 ⟨none, none, .sta (.t 4) (.t 46) 522⟩])
 .ret)))⟩
def qf_s_l01Spoil : QF := ⟨1, 7, [.c 2 2 522],
 (.seq (.reg [⟨(some 2), none, .o (.alo (.by 2 522))⟩])
 (.seq (.reg [⟨(some 3), none, .o (.mov (.t 0))⟩,
 ⟨(some 4), none, .o (.mov (.t 0))⟩,
 ⟨(some 5), none, .call 203 [(.t 4)]⟩,
 ⟨(some 6), none, .call 204 [(.t 3), (.t 5)]⟩,
 ⟨none, none, .sta (.t 2) (.t 6) 522⟩])
 .ret))⟩
def qf_s_l02Pair : QF := ⟨1, 32, [.c 2 2 522, .c 3 2 522],
 (.seq (.reg [⟨(some 2), none, .o (.alo (.by 2 522))⟩,
 ⟨(some 3), none, .o (.alo (.by 2 522))⟩])
 (.seq (.reg [⟨(some 6), none, .o (.mov (.t 0))⟩,
 ⟨(some 7), none, .call 193 [(.t 6)]⟩,
 ⟨(some 4), none, .o (.alo (.by 2 522))⟩,
 ⟨none, none, .sta (.t 4) (.t 7) 522⟩])
 (.seq (.reg [⟨(some 8), none, .o (.mov (.t 0))⟩,
 ⟨(some 9), none, .call 194 [(.t 8)]⟩,
 ⟨(some 5), none, .o (.alo (.by 2 522))⟩,
 ⟨none, none, .sta (.t 5) (.t 9) 522⟩])
 (.seq (.seq (.reg [⟨(some 10), none, .o (.mov (.t 0))⟩,
 ⟨(some 11), none, .call 195 [(.t 10), (.c (.i .i64 (8)))]⟩,
 ⟨(some 12), none, .o (.bin .gtr (.t 11) (.c (.i .i64 (0))))⟩,
 ⟨(some 13), none, .o (.mov (.t 12))⟩,
 ⟨(some 14), (some (13, true)), .o (.add (.t 4) 0)⟩,
 ⟨(some 15), (some (13, true)), .ld1 (.t 14)⟩,
 ⟨(some 16), (some (13, true)), .calp 95 [(.t 15)]⟩,
 ⟨(some 17), none, .o (.pick (.t 13) (.t 16) (.c (.b false)))⟩])
 (.cond (.t 17)
 (.seq (.drs [0, 1, 0, 4, 12, 31, 63]
 [(0, false, ⟨(some 18), none, .o (.add (.t 4) 0)⟩),
 (1, true, ⟨(some 19), none, .ld1 (.t 18)⟩),
 (2, false, ⟨(some 20), none, .o (.mov (.t 0))⟩),
 (3, false, ⟨(some 21), none, .call 195 [(.t 20), (.c (.i .i64 (4)))]⟩),
 (4, false, ⟨(some 22), none, .o (.bin .add (.c (.i .i64 (1))) (.t 21))⟩),
 (5, true, ⟨(some 23), none, .call 196 [(.t 19), (.t 22)]⟩),
 (6, true, ⟨none, none, .sta (.t 5) (.t 23) 522⟩)])
 (.seq (.reg [⟨(some 24), none, .o (.mov (.t 0))⟩,
 ⟨(some 25), none, .call 195 [(.t 24), (.c (.i .i64 (2)))]⟩,
 ⟨(some 26), none, .o (.bin .eql (.t 25) (.c (.i .i64 (0))))⟩])
 (.cond (.t 26)
 (.reg [⟨(some 27), none, .o (.add (.t 4) 0)⟩,
 ⟨(some 28), none, .ld1 (.t 27)⟩,
 ⟨(some 29), none, .call 197 [(.t 28)]⟩,
 ⟨none, none, .sta (.t 5) (.t 29) 522⟩])
 .skip)))
 .skip))
 (.seq (.drs [0, 0, 1, 7]
 [(0, false, ⟨(some 30), none, .lda (.t 4) 2 522⟩),
 (1, true, ⟨(some 31), none, .lda (.t 5) 2 522⟩),
 (2, false, ⟨none, none, .sta (.t 2) (.t 30) 522⟩),
 (3, true, ⟨none, none, .sta (.t 3) (.t 31) 522⟩)])
 .ret)))))⟩
def qf_s_l01DrawVector : QF := ⟨3, 31, [.c 6 0 8],
 (.seq (.reg [⟨(some 6), none, .o (.alo (.by 0 8))⟩])
 (.seq (.reg [⟨(some 9), none, .o (.bld 0 8 [])⟩,
 ⟨(some 7), none, .o (.alo (.by 0 8))⟩,
 ⟨none, none, .sta (.t 7) (.t 9) 8⟩])
 (.seq (.seq (.reg [⟨(some 8), none, .o (.mov (.c (.i .i64 (0))))⟩])
 (.blk 0
 (.loop
 (.seq (.seq (.reg [⟨(some 10), none, .o (.mov (.t 8))⟩,
 ⟨(some 11), none, .o (.mov (.t 2))⟩,
 ⟨(some 12), none, .o (.bin .lss (.t 10) (.t 11))⟩,
 ⟨(some 13), none, .o (.mov (.t 12))⟩,
 ⟨(some 14), (some (13, true)), .o (.mov (.t 8))⟩,
 ⟨(some 15), (some (13, true)), .o (.bin .lss (.t 14) (.c (.i .i64 (8))))⟩,
 ⟨(some 16), none, .o (.pick (.t 13) (.t 15) (.c (.b false)))⟩])
 (.cond (.t 16)
 .skip
 (.exit 0)))
 (.seq (.blk 1
 (.seq (.reg [⟨(some 19), none, .o (.mov (.t 0))⟩,
 ⟨(some 20), none, .call 195 [(.t 19), (.c (.i .i64 (2)))]⟩,
 ⟨(some 21), none, .o (.bin .eql (.t 20) (.c (.i .i64 (0))))⟩])
 (.cond (.t 21)
 (.reg [⟨(some 22), none, .o (.mov (.t 8))⟩,
 ⟨(some 23), none, .o (.mov (.t 0))⟩,
 ⟨(some 24), none, .o (.mov (.t 1))⟩,
 ⟨(some 25), none, .mxm false (.t 24) (.c (.i .i64 (1)))⟩,
 ⟨(some 26), none, .mxm true (.t 25) (.c (.i .i64 (255)))⟩,
 ⟨(some 27), none, .call 195 [(.t 23), (.t 26)]⟩,
 ⟨(some 28), none, .o (.cvt .u8 (.t 27))⟩,
 ⟨(some 29), none, .o (.idx (.t 7) (.t 22) 8 1)⟩,
 ⟨none, none, .st1 (.t 29) (.t 28)⟩])
 .skip)))
 (.reg [⟨(some 17), none, .o (.mov (.t 8))⟩,
 ⟨(some 18), none, .o (.bin .add (.t 17) (.c (.i .i64 (1))))⟩,
 ⟨(some 8), none, .o (.mov (.t 18))⟩]))))))
 (.seq (.reg [⟨(some 30), none, .lda (.t 7) 0 8⟩,
 ⟨none, none, .sta (.t 6) (.t 30) 8⟩])
 .ret))))⟩
def qf_s_l02DrawMap : QF := ⟨3, 34, [.c 6 0 64],
 (.seq (.reg [⟨(some 4), none, .o (.box (.t 1))⟩,
 ⟨(some 5), none, .o (.box (.t 2))⟩,
 ⟨(some 6), none, .o (.alo (.by 0 64))⟩])
 (.seq (.reg [⟨(some 9), none, .o (.bld 0 64 [])⟩,
 ⟨(some 7), none, .o (.alo (.by 0 64))⟩,
 ⟨none, none, .sta (.t 7) (.t 9) 64⟩])
 (.seq (.seq (.reg [⟨(some 8), none, .o (.mov (.c (.i .i64 (0))))⟩])
 (.blk 0
 (.loop
 (.seq (.seq (.reg [⟨(some 10), none, .o (.mov (.t 8))⟩,
 ⟨(some 11), none, .o (.add (.t 4) 1)⟩,
 ⟨(some 12), none, .ld1 (.t 11)⟩,
 ⟨(some 13), none, .o (.bin .lss (.t 10) (.t 12))⟩,
 ⟨(some 14), none, .o (.mov (.t 13))⟩,
 ⟨(some 15), (some (14, true)), .o (.mov (.t 8))⟩,
 ⟨(some 16), (some (14, true)), .o (.bin .lss (.t 15) (.c (.i .i64 (8))))⟩,
 ⟨(some 17), none, .o (.pick (.t 14) (.t 16) (.c (.b false)))⟩])
 (.cond (.t 17)
 .skip
 (.exit 0)))
 (.seq (.blk 1
 (.reg [⟨(some 20), none, .o (.mov (.t 8))⟩,
 ⟨(some 21), none, .o (.mov (.t 0))⟩,
 ⟨(some 22), none, .o (.add (.t 5) 0)⟩,
 ⟨(some 23), none, .ld1 (.t 22)⟩,
 ⟨(some 24), none, .o (.add (.t 5) 1)⟩,
 ⟨(some 25), none, .ld1 (.t 24)⟩,
 ⟨(some 26), none, .call 198 [(.t 21), (.t 23), (.t 25)]⟩,
 ⟨(some 27), none, .o (.idx (.t 7) (.t 20) 8 8)⟩,
 ⟨none, none, .sta (.t 27) (.t 26) 8⟩]))
 (.reg [⟨(some 18), none, .o (.mov (.t 8))⟩,
 ⟨(some 19), none, .o (.bin .add (.t 18) (.c (.i .i64 (1))))⟩,
 ⟨(some 8), none, .o (.mov (.t 19))⟩]))))))
 (.seq (.seq (.reg [⟨(some 28), none, .o (.mov (.t 0))⟩,
 ⟨(some 29), none, .call 195 [(.t 28), (.c (.i .i64 (40)))]⟩,
 ⟨(some 30), none, .o (.bin .eql (.t 29) (.c (.i .i64 (0))))⟩])
 (.cond (.t 30)
 (.reg [⟨(some 31), none, .o (.idx (.t 7) (.c (.i .i64 (7))) 8 8)⟩,
 ⟨(some 32), none, .o (.idx (.t 31) (.c (.i .i64 (7))) 8 1)⟩,
 ⟨none, none, .st1 (.t 32) (.c (.u 1))⟩])
 .skip))
 (.seq (.reg [⟨(some 33), none, .lda (.t 7) 0 64⟩,
 ⟨none, none, .sta (.t 6) (.t 33) 64⟩])
 .ret)))))⟩
def qf_s_DrawConvolveMaps : QF := ⟨1, 26, [.c 2 2 522, .c 3 2 522, .c 4 0 64, .c 5 0 64],
 (.seq (.reg [⟨(some 2), none, .o (.alo (.by 2 522))⟩,
 ⟨(some 3), none, .o (.alo (.by 2 522))⟩,
 ⟨(some 4), none, .o (.alo (.by 0 64))⟩,
 ⟨(some 5), none, .o (.alo (.by 0 64))⟩])
 (.seq (.reg [⟨(some 9), none, .o (.mov (.t 0))⟩,
 ⟨(some 10), none, .call 186 [(.t 9)]⟩,
 ⟨(some 6), none, .o (.mov (.t 10))⟩])
 (.seq (.reg [⟨(some 12), none, .o (.mov (.t 6))⟩,
 ⟨(some 13), none, .call 187 [(.t 12)]⟩,
 ⟨(some 11), none, .o (.mov (.t 13))⟩,
 ⟨(some 14), none, .o (.ext (.t 11) 0)⟩,
 ⟨(some 15), none, .o (.ext (.t 11) 1)⟩,
 ⟨(some 7), none, .o (.alo (.by 2 522))⟩,
 ⟨(some 8), none, .o (.alo (.by 2 522))⟩,
 ⟨none, none, .sta (.t 7) (.t 14) 522⟩,
 ⟨none, none, .sta (.t 8) (.t 15) 522⟩])
 (.seq (.drs [0, 0, 0, 0, 0, 28, 0, 0, 0, 508, 1021, 2047, 4095, 8191]
 [(0, true, ⟨(some 16), none, .lda (.t 7) 2 522⟩),
 (1, true, ⟨(some 17), none, .lda (.t 8) 2 522⟩),
 (2, false, ⟨(some 18), none, .o (.mov (.t 6))⟩),
 (3, false, ⟨(some 19), none, .lda (.t 7) 2 522⟩),
 (4, false, ⟨(some 20), none, .lda (.t 8) 2 522⟩),
 (6, false, ⟨(some 22), none, .o (.mov (.t 6))⟩),
 (7, true, ⟨(some 23), none, .lda (.t 7) 2 522⟩),
 (8, true, ⟨(some 24), none, .lda (.t 8) 2 522⟩),
 (5, false, ⟨(some 21), none, .call 188 [(.t 18), (.t 19), (.t 20)]⟩),
 (9, false, ⟨(some 25), none, .call 188 [(.t 22), (.t 23), (.t 24)]⟩),
 (10, false, ⟨none, none, .sta (.t 2) (.t 16) 522⟩),
 (11, true, ⟨none, none, .sta (.t 3) (.t 17) 522⟩),
 (12, true, ⟨none, none, .sta (.t 4) (.t 21) 64⟩),
 (13, true, ⟨none, none, .sta (.t 5) (.t 25) 64⟩)])
 .ret))))⟩
def qf_s_l02Map : QF := ⟨3, 34, [.t 6],
 (.seq (.reg [⟨(some 3), none, .o (.box (.t 0))⟩,
 ⟨(some 4), none, .o (.box (.t 1))⟩,
 ⟨(some 5), none, .o (.box (.t 2))⟩,
 ⟨(some 6), none, .o (.mov (.c (.b false)))⟩])
 (.seq (.seq (.reg [⟨(some 7), none, .o (.mov (.c (.i .i64 (0))))⟩])
 (.blk 0
 (.loop
 (.seq (.seq (.reg [⟨(some 8), none, .o (.mov (.t 7))⟩,
 ⟨(some 9), none, .o (.bin .lss (.t 8) (.c (.i .i64 (8))))⟩])
 (.cond (.t 9)
 .skip
 (.exit 0)))
 (.seq (.blk 1
 (.seq (.drs [0, 1, 0, 4, 0, 16, 48, 127, 255, 511, 1023, 1023, 3071, 8191, 16383, 32767, 65535, 131071, 262143, 524287, 1048575, 2097151]
 [(0, false, ⟨(some 12), none, .o (.add (.t 4) 0)⟩),
 (1, false, ⟨(some 13), none, .ld1 (.t 12)⟩),
 (2, false, ⟨(some 14), none, .o (.add (.t 4) 1)⟩),
 (3, false, ⟨(some 15), none, .ld1 (.t 14)⟩),
 (4, false, ⟨(some 16), none, .o (.mov (.t 7))⟩),
 (5, false, ⟨(some 17), none, .o (.idx (.t 5) (.t 16) 8 8)⟩),
 (6, false, ⟨(some 18), none, .lda (.t 17) 0 8⟩),
 (7, false, ⟨(some 19), none, .calp 53 [(.t 13), (.t 15), (.t 18)]⟩),
 (8, false, ⟨(some 20), none, .o (.nt (.t 19))⟩),
 (9, false, ⟨(some 21), none, .o (.mov (.t 20))⟩),
 (10, false, ⟨(some 22), (some (21, false)), .o (.mov (.t 7))⟩),
 (11, false, ⟨(some 23), (some (21, false)), .o (.add (.t 3) 1)⟩),
 (12, false, ⟨(some 24), (some (21, false)), .ld1 (.t 23)⟩),
 (13, false, ⟨(some 25), (some (21, false)), .o (.bin .geq (.t 22) (.t 24))⟩),
 (14, false, ⟨(some 26), (some (21, false)), .o (.mov (.t 25))⟩),
 (15, false, ⟨(some 27), (some (26, true)), .o (.mov (.t 7))⟩),
 (16, false, ⟨(some 28), (some (26, true)), .o (.idx (.t 5) (.t 27) 8 8)⟩),
 (17, false, ⟨(some 29), (some (26, true)), .lda (.t 28) 0 8⟩),
 (18, false, ⟨(some 30), (some (26, true)), .calp 101 [(.t 29)]⟩),
 (19, false, ⟨(some 31), (some (26, true)), .o (.nt (.t 30))⟩),
 (20, false, ⟨(some 32), (some (21, false)), .o (.pick (.t 26) (.t 31) (.c (.b false)))⟩),
 (21, false, ⟨(some 33), none, .o (.pick (.t 21) (.c (.b true)) (.t 32))⟩)])
 (.cond (.t 33)
 (.seq (.reg [⟨(some 6), none, .o (.mov (.c (.b false)))⟩])
 .ret)
 .skip)))
 (.reg [⟨(some 10), none, .o (.mov (.t 7))⟩,
 ⟨(some 11), none, .o (.bin .add (.t 10) (.c (.i .i64 (1))))⟩,
 ⟨(some 7), none, .o (.mov (.t 11))⟩]))))))
 (.seq (.reg [⟨(some 6), none, .o (.mov (.c (.b true)))⟩])
 .ret)))⟩
def qf_s_l02Maps : QF := ⟨3, 35, [.t 6],
 (.seq (.reg [⟨(some 3), none, .o (.box (.t 0))⟩,
 ⟨(some 4), none, .o (.box (.t 1))⟩,
 ⟨(some 6), none, .o (.mov (.c (.i .i64 (0))))⟩])
 (.seq (.seq (.reg [⟨(some 8), none, .lda (.t 3) 2 522⟩,
 ⟨(some 9), none, .calp 77 [(.t 8)]⟩,
 ⟨(some 10), none, .o (.nt (.t 9))⟩,
 ⟨(some 11), none, .o (.mov (.t 10))⟩,
 ⟨(some 12), (some (11, false)), .lda (.t 4) 2 522⟩,
 ⟨(some 13), (some (11, false)), .calp 76 [(.t 12)]⟩,
 ⟨(some 14), (some (11, false)), .o (.nt (.t 13))⟩,
 ⟨(some 15), none, .o (.pick (.t 11) (.c (.b true)) (.t 14))⟩])
 (.cond (.t 15)
 (.seq (.reg [⟨(some 6), none, .o (.mov (.c (.i .i64 (1))))⟩])
 .ret)
 .skip))
 (.seq (.seq (.reg [⟨(some 7), none, .o (.mov (.c (.i .i64 (0))))⟩])
 (.blk 0
 (.loop
 (.seq (.seq (.reg [⟨(some 16), none, .o (.mov (.t 7))⟩,
 ⟨(some 17), none, .o (.mov (.t 2))⟩,
 ⟨(some 18), none, .len (.t 17)⟩,
 ⟨(some 19), none, .o (.bin .lss (.t 16) (.t 18))⟩])
 (.cond (.t 19)
 .skip
 (.exit 0)))
 (.seq (.blk 1
 (.seq (.drs [0, 0, 0, 0, 12, 28, 63, 127]
 [(0, false, ⟨(some 22), none, .lda (.t 3) 2 522⟩),
 (1, false, ⟨(some 23), none, .lda (.t 4) 2 522⟩),
 (2, false, ⟨(some 24), none, .o (.mov (.t 2))⟩),
 (3, false, ⟨(some 25), none, .o (.mov (.t 7))⟩),
 (4, false, ⟨(some 26), none, .ids (.t 24) (.t 25) 64⟩),
 (5, false, ⟨(some 27), none, .lda (.t 26) 0 64⟩),
 (6, false, ⟨(some 28), none, .calp 199 [(.t 22), (.t 23), (.t 27)]⟩),
 (7, false, ⟨(some 29), none, .o (.nt (.t 28))⟩)])
 (.cond (.t 29)
 (.seq (.reg [⟨(some 6), none, .o (.mov (.c (.i .i64 (1))))⟩])
 .ret)
 .skip)))
 (.reg [⟨(some 20), none, .o (.mov (.t 7))⟩,
 ⟨(some 21), none, .o (.bin .add (.t 20) (.c (.i .i64 (1))))⟩,
 ⟨(some 7), none, .o (.mov (.t 21))⟩]))))))
 (.seq (.seq (.reg [⟨(some 30), none, .o (.add (.t 3) 0)⟩,
 ⟨(some 31), none, .ld1 (.t 30)⟩,
 ⟨(some 32), none, .o (.add (.t 4) 0)⟩,
 ⟨(some 33), none, .ld1 (.t 32)⟩,
 ⟨(some 34), none, .o (.bin .neq (.t 31) (.t 33))⟩])
 (.cond (.t 34)
 (.seq (.reg [⟨(some 6), none, .o (.mov (.c (.i .i64 (2))))⟩])
 .ret)
 .skip))
 (.seq (.reg [⟨(some 6), none, .o (.mov (.c (.i .i64 (0))))⟩])
 .ret)))))⟩
def qf_s_l02Convolve : QF := ⟨4, 67, [.c 8 0 64],
 (.seq (.reg [⟨(some 4), none, .o (.box (.t 0))⟩,
 ⟨(some 5), none, .o (.box (.t 1))⟩,
 ⟨(some 6), none, .o (.box (.t 2))⟩,
 ⟨(some 7), none, .o (.box (.t 3))⟩,
 ⟨(some 8), none, .o (.alo (.by 0 64))⟩])
 (.seq (.reg [⟨(some 13), none, .o (.bld 0 64 [])⟩,
 ⟨(some 9), none, .o (.alo (.by 0 64))⟩,
 ⟨none, none, .sta (.t 9) (.t 13) 64⟩])
 (.seq (.seq (.reg [⟨(some 10), none, .o (.mov (.c (.i .i64 (0))))⟩])
 (.blk 0
 (.loop
 (.seq (.seq (.reg [⟨(some 14), none, .o (.mov (.t 10))⟩,
 ⟨(some 15), none, .o (.add (.t 4) 1)⟩,
 ⟨(some 16), none, .ld1 (.t 15)⟩,
 ⟨(some 17), none, .o (.bin .lss (.t 14) (.t 16))⟩])
 (.cond (.t 17)
 .skip
 (.exit 0)))
 (.seq (.blk 1
 (.seq (.reg [⟨(some 11), none, .o (.mov (.c (.i .i64 (0))))⟩])
 (.blk 2
 (.loop
 (.seq (.seq (.reg [⟨(some 20), none, .o (.mov (.t 11))⟩,
 ⟨(some 21), none, .o (.add (.t 4) 1)⟩,
 ⟨(some 22), none, .ld1 (.t 21)⟩,
 ⟨(some 23), none, .o (.bin .lss (.t 20) (.t 22))⟩])
 (.cond (.t 23)
 .skip
 (.exit 2)))
 (.seq (.blk 3
 (.seq (.reg [⟨(some 12), none, .o (.mov (.c (.i .i64 (0))))⟩])
 (.blk 4
 (.loop
 (.seq (.seq (.reg [⟨(some 26), none, .o (.mov (.t 12))⟩,
 ⟨(some 27), none, .o (.add (.t 4) 1)⟩,
 ⟨(some 28), none, .ld1 (.t 27)⟩,
 ⟨(some 29), none, .o (.bin .lss (.t 26) (.t 28))⟩])
 (.cond (.t 29)
 .skip
 (.exit 4)))
 (.seq (.blk 5
 (.seq (.reg [⟨(some 32), none, .o (.mov (.t 10))⟩,
 ⟨(some 33), none, .o (.mov (.t 11))⟩,
 ⟨(some 34), none, .o (.mov (.t 12))⟩,
 ⟨(some 35), none, .o (.add (.t 4) 10)⟩,
 ⟨(some 36), none, .o (.idx (.t 35) (.t 32) 8 64)⟩,
 ⟨(some 37), none, .o (.idx (.t 36) (.t 33) 8 8)⟩,
 ⟨(some 38), none, .o (.idx (.t 37) (.t 34) 8 1)⟩,
 ⟨(some 39), none, .ld1 (.t 38)⟩,
 ⟨(some 40), none, .o (.bin .neq (.t 39) (.c (.u 0)))⟩])
 (.cond (.t 40)
 (.drs [0, 0, 2, 0, 8, 24, 0, 0, 128, 384, 0, 1024, 3072, 8128, 0, 0, 0, 0, 147456, 442368, 1032192, 2080768, 4177920, 8388606, 16777215, 33554431]
 [(0, false, ⟨(some 41), none, .o (.mov (.t 10))⟩),
 (1, false, ⟨(some 42), none, .o (.add (.t 4) 0)⟩),
 (2, false, ⟨(some 43), none, .ld1 (.t 42)⟩),
 (3, false, ⟨(some 44), none, .o (.mov (.t 10))⟩),
 (4, false, ⟨(some 45), none, .o (.idx (.t 9) (.t 44) 8 8)⟩),
 (5, false, ⟨(some 46), none, .lda (.t 45) 0 8⟩),
 (6, false, ⟨(some 47), none, .lda (.t 5) 2 522⟩),
 (7, false, ⟨(some 48), none, .o (.mov (.t 11))⟩),
 (8, false, ⟨(some 49), none, .o (.idx (.t 6) (.t 48) 8 8)⟩),
 (9, false, ⟨(some 50), none, .lda (.t 49) 0 8⟩),
 (10, false, ⟨(some 51), none, .o (.mov (.t 12))⟩),
 (11, false, ⟨(some 52), none, .o (.idx (.t 7) (.t 51) 8 8)⟩),
 (12, false, ⟨(some 53), none, .lda (.t 52) 0 8⟩),
 (13, false, ⟨(some 54), none, .calp 56 [(.t 47), (.t 50), (.t 53)]⟩),
 (14, false, ⟨(some 55), none, .o (.mov (.t 10))⟩),
 (15, false, ⟨(some 56), none, .o (.mov (.t 11))⟩),
 (16, false, ⟨(some 57), none, .o (.mov (.t 12))⟩),
 (17, false, ⟨(some 58), none, .o (.add (.t 4) 10)⟩),
 (18, false, ⟨(some 59), none, .o (.idx (.t 58) (.t 55) 8 64)⟩),
 (19, false, ⟨(some 60), none, .o (.idx (.t 59) (.t 56) 8 8)⟩),
 (20, false, ⟨(some 61), none, .o (.idx (.t 60) (.t 57) 8 1)⟩),
 (21, false, ⟨(some 62), none, .ld1 (.t 61)⟩),
 (22, false, ⟨(some 63), none, .o (.cvt .i64 (.t 62))⟩),
 (23, false, ⟨(some 64), none, .calp 57 [(.t 43), (.t 46), (.t 54), (.t 63)]⟩),
 (24, false, ⟨(some 65), none, .o (.idx (.t 9) (.t 41) 8 8)⟩),
 (25, false, ⟨none, none, .sta (.t 65) (.t 64) 8⟩)])
 .skip)))
 (.reg [⟨(some 30), none, .o (.mov (.t 12))⟩,
 ⟨(some 31), none, .o (.bin .add (.t 30) (.c (.i .i64 (1))))⟩,
 ⟨(some 12), none, .o (.mov (.t 31))⟩])))))))
 (.reg [⟨(some 24), none, .o (.mov (.t 11))⟩,
 ⟨(some 25), none, .o (.bin .add (.t 24) (.c (.i .i64 (1))))⟩,
 ⟨(some 11), none, .o (.mov (.t 25))⟩])))))))
 (.reg [⟨(some 18), none, .o (.mov (.t 10))⟩,
 ⟨(some 19), none, .o (.bin .add (.t 18) (.c (.i .i64 (1))))⟩,
 ⟨(some 10), none, .o (.mov (.t 19))⟩]))))))
 (.seq (.reg [⟨(some 66), none, .lda (.t 9) 0 64⟩,
 ⟨none, none, .sta (.t 8) (.t 66) 64⟩])
 .ret))))⟩
def qf_s_ConvolveMaps : QF := ⟨4, 26, [.c 8 0 64, .t 9],
 (.seq (.reg [⟨(some 4), none, .o (.box (.t 0))⟩,
 ⟨(some 5), none, .o (.box (.t 1))⟩,
 ⟨(some 6), none, .o (.box (.t 2))⟩,
 ⟨(some 7), none, .o (.box (.t 3))⟩,
 ⟨(some 8), none, .o (.alo (.by 0 64))⟩,
 ⟨(some 9), none, .o (.mov (.c (.i .i64 (0))))⟩])
 (.seq (.seq (.reg [⟨(some 11), none, .lda (.t 4) 2 522⟩,
 ⟨(some 12), none, .lda (.t 5) 2 522⟩,
 ⟨(some 13), none, .lda (.t 6) 0 64⟩,
 ⟨(some 14), none, .lda (.t 7) 0 64⟩,
 ⟨(some 15), none, .o (.bsb 64 [(.t 13), (.t 14)])⟩,
 ⟨(some 16), none, .call 189 [(.t 11), (.t 12), (.t 15)]⟩,
 ⟨(some 10), none, .o (.mov (.t 16))⟩])
 (.seq (.reg [⟨(some 17), none, .o (.mov (.t 10))⟩,
 ⟨(some 18), none, .o (.bin .neq (.t 17) (.c (.i .i64 (0))))⟩])
 (.cond (.t 18)
 (.seq (.reg [⟨(some 19), none, .o (.bld 0 64 [])⟩,
 ⟨(some 20), none, .o (.mov (.t 10))⟩,
 ⟨none, none, .sta (.t 8) (.t 19) 64⟩,
 ⟨(some 9), none, .o (.mov (.t 20))⟩])
 .ret)
 .skip)))
 (.seq (.reg [⟨(some 21), none, .lda (.t 4) 2 522⟩,
 ⟨(some 22), none, .lda (.t 5) 2 522⟩,
 ⟨(some 23), none, .lda (.t 6) 0 64⟩,
 ⟨(some 24), none, .lda (.t 7) 0 64⟩,
 ⟨(some 25), none, .calp 190 [(.t 21), (.t 22), (.t 23), (.t 24)]⟩,
 ⟨none, none, .sta (.t 8) (.t 25) 64⟩,
 ⟨(some 9), none, .o (.mov (.c (.i .i64 (0))))⟩])
 .ret)))⟩
def qf_s_DrawUnitMap : QF := ⟨1, 14, [.c 2 2 522, .c 3 2 522],
 (.seq (.reg [⟨(some 2), none, .o (.alo (.by 2 522))⟩,
 ⟨(some 3), none, .o (.alo (.by 2 522))⟩])
 (.seq (.reg [⟨(some 7), none, .o (.mov (.t 0))⟩,
 ⟨(some 8), none, .call 186 [(.t 7)]⟩,
 ⟨(some 9), none, .call 187 [(.t 8)]⟩,
 ⟨(some 6), none, .o (.mov (.t 9))⟩,
 ⟨(some 10), none, .o (.ext (.t 6) 0)⟩,
 ⟨(some 11), none, .o (.ext (.t 6) 1)⟩,
 ⟨(some 4), none, .o (.alo (.by 2 522))⟩,
 ⟨(some 5), none, .o (.alo (.by 2 522))⟩,
 ⟨none, none, .sta (.t 4) (.t 10) 522⟩,
 ⟨none, none, .sta (.t 5) (.t 11) 522⟩])
 (.seq (.drs [0, 0, 1, 7]
 [(0, false, ⟨(some 12), none, .lda (.t 4) 2 522⟩),
 (1, true, ⟨(some 13), none, .lda (.t 5) 2 522⟩),
 (2, false, ⟨none, none, .sta (.t 2) (.t 12) 522⟩),
 (3, true, ⟨none, none, .sta (.t 3) (.t 13) 522⟩)])
 .ret)))⟩
def qf_s_UnitMap : QF := ⟨2, 37, [.c 4 0 64, .t 5],
 (.seq (.reg [⟨(some 2), none, .o (.box (.t 0))⟩,
 ⟨(some 3), none, .o (.box (.t 1))⟩,
 ⟨(some 4), none, .o (.alo (.by 0 64))⟩,
 ⟨(some 5), none, .o (.mov (.c (.i .i64 (0))))⟩])
 (.seq (.seq (.reg [⟨(some 9), none, .lda (.t 2) 2 522⟩,
 ⟨(some 10), none, .lda (.t 3) 2 522⟩,
 ⟨(some 11), none, .call 189 [(.t 9), (.t 10), (.c .sn)]⟩,
 ⟨(some 6), none, .o (.mov (.t 11))⟩])
 (.seq (.reg [⟨(some 12), none, .o (.mov (.t 6))⟩,
 ⟨(some 13), none, .o (.bin .neq (.t 12) (.c (.i .i64 (0))))⟩])
 (.cond (.t 13)
 (.seq (.reg [⟨(some 14), none, .o (.bld 0 64 [])⟩,
 ⟨(some 15), none, .o (.mov (.t 6))⟩,
 ⟨none, none, .sta (.t 4) (.t 14) 64⟩,
 ⟨(some 5), none, .o (.mov (.t 15))⟩])
 .ret)
 .skip)))
 (.seq (.reg [⟨(some 16), none, .o (.bld 0 64 [])⟩,
 ⟨(some 7), none, .o (.alo (.by 0 64))⟩,
 ⟨none, none, .sta (.t 7) (.t 16) 64⟩])
 (.seq (.seq (.reg [⟨(some 8), none, .o (.mov (.c (.i .i64 (0))))⟩])
 (.blk 0
 (.loop
 (.seq (.seq (.reg [⟨(some 17), none, .o (.mov (.t 8))⟩,
 ⟨(some 18), none, .o (.add (.t 2) 1)⟩,
 ⟨(some 19), none, .ld1 (.t 18)⟩,
 ⟨(some 20), none, .o (.bin .lss (.t 17) (.t 19))⟩])
 (.cond (.t 20)
 .skip
 (.exit 0)))
 (.seq (.blk 1
 (.drs [0, 0, 2, 0, 0, 16, 0, 0, 192, 448, 960, 2046, 4095, 8191]
 [(0, false, ⟨(some 23), none, .o (.mov (.t 8))⟩),
 (1, false, ⟨(some 24), none, .o (.add (.t 2) 0)⟩),
 (2, false, ⟨(some 25), none, .ld1 (.t 24)⟩),
 (3, false, ⟨(some 26), none, .o (.bld 0 8 [])⟩),
 (4, false, ⟨(some 27), none, .o (.add (.t 3) 2)⟩),
 (5, false, ⟨(some 28), none, .lda (.t 27) 0 8⟩),
 (6, false, ⟨(some 29), none, .o (.mov (.t 8))⟩),
 (7, false, ⟨(some 30), none, .o (.add (.t 2) 2)⟩),
 (8, false, ⟨(some 31), none, .o (.idx (.t 30) (.t 29) 8 1)⟩),
 (9, false, ⟨(some 32), none, .ld1 (.t 31)⟩),
 (10, false, ⟨(some 33), none, .o (.cvt .i64 (.t 32))⟩),
 (11, false, ⟨(some 34), none, .calp 57 [(.t 25), (.t 26), (.t 28), (.t 33)]⟩),
 (12, false, ⟨(some 35), none, .o (.idx (.t 7) (.t 23) 8 8)⟩),
 (13, false, ⟨none, none, .sta (.t 35) (.t 34) 8⟩)]))
 (.reg [⟨(some 21), none, .o (.mov (.t 8))⟩,
 ⟨(some 22), none, .o (.bin .add (.t 21) (.c (.i .i64 (1))))⟩,
 ⟨(some 8), none, .o (.mov (.t 22))⟩]))))))
 (.seq (.reg [⟨(some 36), none, .lda (.t 7) 0 64⟩,
 ⟨none, none, .sta (.t 4) (.t 36) 64⟩,
 ⟨(some 5), none, .o (.mov (.c (.i .i64 (0))))⟩])
 .ret)))))⟩
def qf_l_roll : QF := ⟨2, 38, [.t 4],
 (.seq (.reg [⟨(some 4), none, .o (.mov (.c .np))⟩])
 (.seq (.reg [⟨(some 7), none, .o (.mov (.t 0))⟩,
 ⟨(some 8), none, .o (.mov (.t 1))⟩,
 ⟨(some 9), none, .bnu .mul (.t 8) (.c (.i .u64 (6257)))⟩,
 ⟨(some 10), none, .o (.mov (.t 0))⟩,
 ⟨(some 11), none, .len (.t 10)⟩,
 ⟨(some 12), none, .cvu (.t 11)⟩,
 ⟨(some 13), none, .bnu .add (.t 9) (.t 12)⟩,
 ⟨(some 14), none, .brc [.sn, .i .i64 0, .i .u64 0] [(0, 1, (.t 7)), (2, 1, (.t 13))]⟩,
 ⟨(some 15), none, .bxr (.t 14)⟩,
 ⟨(some 5), none, .o (.mov (.t 15))⟩])
 (.seq (.seq (.reg [⟨(some 6), none, .o (.mov (.c (.i .i64 (0))))⟩])
 (.blk 0
 (.loop
 (.seq (.seq (.reg [⟨(some 16), none, .o (.mov (.t 6))⟩,
 ⟨(some 17), none, .o (.mov (.t 0))⟩,
 ⟨(some 18), none, .len (.t 17)⟩,
 ⟨(some 19), none, .o (.bin .lss (.t 16) (.t 18))⟩])
 (.cond (.t 19)
 .skip
 (.exit 0)))
 (.seq (.blk 1
 (.drs [0, 0, 2, 6, 14, 30, 0, 0, 192, 448, 960, 2046, 4094, 8191, 16383, 32767]
 [(0, false, ⟨(some 22), none, .o (.mov (.t 5))⟩),
 (1, false, ⟨(some 23), none, .o (.mov (.t 5))⟩),
 (2, false, ⟨(some 24), none, .o (.nck (.t 23))⟩),
 (3, false, ⟨(some 25), none, .o (.add (.t 24) 2)⟩),
 (4, false, ⟨(some 26), none, .ld1 (.t 25)⟩),
 (5, false, ⟨(some 27), none, .bnu .mul (.t 26) (.c (.i .u64 (1099511628211)))⟩),
 (6, false, ⟨(some 28), none, .o (.mov (.t 0))⟩),
 (7, false, ⟨(some 29), none, .o (.mov (.t 6))⟩),
 (8, false, ⟨(some 30), none, .ids (.t 28) (.t 29) 1⟩),
 (9, false, ⟨(some 31), none, .ld1 (.t 30)⟩),
 (10, false, ⟨(some 32), none, .cvu (.t 31)⟩),
 (11, false, ⟨(some 33), none, .bnu .add (.t 27) (.t 32)⟩),
 (12, false, ⟨(some 34), none, .bnu .add (.t 33) (.c (.i .u64 (5)))⟩),
 (13, false, ⟨(some 35), none, .o (.nck (.t 22))⟩),
 (14, false, ⟨(some 36), none, .o (.add (.t 35) 2)⟩),
 (15, false, ⟨none, none, .st1 (.t 36) (.t 34)⟩)]))
 (.reg [⟨(some 20), none, .o (.mov (.t 6))⟩,
 ⟨(some 21), none, .o (.bin .add (.t 20) (.c (.i .i64 (1))))⟩,
 ⟨(some 6), none, .o (.mov (.t 21))⟩]))))))
 (.seq (.reg [⟨(some 37), none, .o (.mov (.t 5))⟩,
 ⟨(some 4), none, .o (.mov (.t 37))⟩])
 .ret))))⟩
def qf_l_dice_below : QF := ⟨2, 58, [.t 4],
 (.seq (.reg [⟨(some 4), none, .o (.mov (.c (.i .i64 (0))))⟩])
 (.seq (.seq (.reg [⟨(some 6), none, .o (.mov (.t 1))⟩,
 ⟨(some 7), none, .o (.bin .lss (.t 6) (.c (.i .i64 (1))))⟩])
 (.cond (.t 7)
 (.seq (.reg [⟨(some 4), none, .o (.mov (.c (.i .i64 (0))))⟩])
 .ret)
 .skip))
 (.seq (.reg [⟨(some 8), none, .o (.mov (.t 0))⟩,
 ⟨(some 9), none, .o (.mov (.t 0))⟩,
 ⟨(some 10), none, .o (.nck (.t 9))⟩,
 ⟨(some 11), none, .o (.add (.t 10) 2)⟩,
 ⟨(some 12), none, .ld1 (.t 11)⟩,
 ⟨(some 13), none, .bnu .mul (.t 12) (.c (.i .u64 (6364136223846793005)))⟩,
 ⟨(some 14), none, .bnu .add (.t 13) (.c (.i .u64 (1442695040888963407)))⟩,
 ⟨(some 15), none, .o (.nck (.t 8))⟩,
 ⟨(some 16), none, .o (.add (.t 15) 2)⟩,
 ⟨none, none, .st1 (.t 16) (.t 14)⟩])
 (.seq (.reg [⟨(some 17), none, .o (.mov (.t 0))⟩,
 ⟨(some 18), none, .o (.nck (.t 17))⟩,
 ⟨(some 19), none, .o (.add (.t 18) 2)⟩,
 ⟨(some 20), none, .ld1 (.t 19)⟩,
 ⟨(some 21), none, .bnu .shr (.t 20) (.c (.i .u64 (33)))⟩,
 ⟨(some 22), none, .bnu .and (.t 21) (.c (.i .u64 (16777215)))⟩,
 ⟨(some 23), none, .o (.cvt .i64 (.t 22))⟩,
 ⟨(some 5), none, .o (.mov (.t 23))⟩])
 (.seq (.seq (.drs [0, 1, 3, 7, 0, 16, 48, 112, 240, 511]
 [(0, false, ⟨(some 24), none, .o (.mov (.t 0))⟩),
 (1, false, ⟨(some 25), none, .o (.nck (.t 24))⟩),
 (2, false, ⟨(some 26), none, .o (.add (.t 25) 1)⟩),
 (3, false, ⟨(some 27), none, .ld1 (.t 26)⟩),
 (4, false, ⟨(some 28), none, .o (.mov (.t 0))⟩),
 (5, false, ⟨(some 29), none, .o (.nck (.t 28))⟩),
 (6, false, ⟨(some 30), none, .o (.add (.t 29) 0)⟩),
 (7, false, ⟨(some 31), none, .ld1 (.t 30)⟩),
 (8, false, ⟨(some 32), none, .len (.t 31)⟩),
 (9, false, ⟨(some 33), none, .o (.bin .lss (.t 27) (.t 32))⟩)])
 (.cond (.t 33)
 (.seq (.drs [0, 0, 2, 6, 14, 0, 32, 96, 224, 510, 1022, 2046, 4095, 8191]
 [(0, false, ⟨(some 34), none, .o (.mov (.t 5))⟩),
 (1, false, ⟨(some 35), none, .o (.mov (.t 0))⟩),
 (2, false, ⟨(some 36), none, .o (.nck (.t 35))⟩),
 (3, false, ⟨(some 37), none, .o (.add (.t 36) 0)⟩),
 (4, false, ⟨(some 38), none, .ld1 (.t 37)⟩),
 (5, false, ⟨(some 39), none, .o (.mov (.t 0))⟩),
 (6, false, ⟨(some 40), none, .o (.nck (.t 39))⟩),
 (7, false, ⟨(some 41), none, .o (.add (.t 40) 1)⟩),
 (8, false, ⟨(some 42), none, .ld1 (.t 41)⟩),
 (9, false, ⟨(some 43), none, .ids (.t 38) (.t 42) 1⟩),
 (10, false, ⟨(some 44), none, .ld1 (.t 43)⟩),
 (11, false, ⟨(some 45), none, .o (.cvt .i64 (.t 44))⟩),
 (12, false, ⟨(some 46), none, .o (.bin .add (.t 34) (.t 45))⟩),
 (13, false, ⟨(some 5), none, .o (.mov (.t 46))⟩)])
 (.reg [⟨(some 47), none, .o (.mov (.t 0))⟩,
 ⟨(some 48), none, .o (.mov (.t 0))⟩,
 ⟨(some 49), none, .o (.nck (.t 48))⟩,
 ⟨(some 50), none, .o (.add (.t 49) 1)⟩,
 ⟨(some 51), none, .ld1 (.t 50)⟩,
 ⟨(some 52), none, .o (.bin .add (.t 51) (.c (.i .i64 (1))))⟩,
 ⟨(some 53), none, .o (.nck (.t 47))⟩,
 ⟨(some 54), none, .o (.add (.t 53) 1)⟩,
 ⟨none, none, .st1 (.t 54) (.t 52)⟩]))
 .skip))
 (.seq (.reg [⟨(some 55), none, .o (.mov (.t 5))⟩,
 ⟨(some 56), none, .o (.mov (.t 1))⟩,
 ⟨(some 57), none, .o (.bin .rem (.t 55) (.t 56))⟩,
 ⟨(some 4), none, .o (.mov (.t 57))⟩])
 .ret))))))⟩
def qf_l_vector9 : QF := ⟨3, 22, [.c 6 0 8],
 (.seq (.reg [⟨(some 6), none, .o (.alo (.by 0 8))⟩])
 (.seq (.reg [⟨(some 9), none, .o (.bld 0 8 [])⟩,
 ⟨(some 7), none, .o (.alo (.by 0 8))⟩,
 ⟨none, none, .sta (.t 7) (.t 9) 8⟩])
 (.seq (.seq (.reg [⟨(some 8), none, .o (.mov (.c (.i .i64 (0))))⟩])
 (.blk 0
 (.loop
 (.seq (.seq (.reg [⟨(some 10), none, .o (.mov (.t 8))⟩,
 ⟨(some 11), none, .o (.mov (.t 2))⟩,
 ⟨(some 12), none, .o (.bin .lss (.t 10) (.t 11))⟩])
 (.cond (.t 12)
 .skip
 (.exit 0)))
 (.seq (.blk 1
 (.reg [⟨(some 15), none, .o (.mov (.t 8))⟩,
 ⟨(some 16), none, .o (.mov (.t 0))⟩,
 ⟨(some 17), none, .o (.mov (.t 1))⟩,
 ⟨(some 18), none, .call 200 [(.t 16), (.t 17)]⟩,
 ⟨(some 19), none, .o (.cvt .u8 (.t 18))⟩,
 ⟨(some 20), none, .o (.idx (.t 7) (.t 15) 8 1)⟩,
 ⟨none, none, .st1 (.t 20) (.t 19)⟩]))
 (.reg [⟨(some 13), none, .o (.mov (.t 8))⟩,
 ⟨(some 14), none, .o (.bin .add (.t 13) (.c (.i .i64 (1))))⟩,
 ⟨(some 8), none, .o (.mov (.t 14))⟩]))))))
 (.seq (.reg [⟨(some 21), none, .lda (.t 7) 0 8⟩,
 ⟨none, none, .sta (.t 6) (.t 21) 8⟩])
 .ret))))⟩
def qf_l_linear9 : QF := ⟨4, 24, [.c 8 0 64],
 (.seq (.reg [⟨(some 8), none, .o (.alo (.by 0 64))⟩])
 (.seq (.reg [⟨(some 11), none, .o (.bld 0 64 [])⟩,
 ⟨(some 9), none, .o (.alo (.by 0 64))⟩,
 ⟨none, none, .sta (.t 9) (.t 11) 64⟩])
 (.seq (.seq (.reg [⟨(some 10), none, .o (.mov (.c (.i .i64 (0))))⟩])
 (.blk 0
 (.loop
 (.seq (.seq (.reg [⟨(some 12), none, .o (.mov (.t 10))⟩,
 ⟨(some 13), none, .o (.mov (.t 2))⟩,
 ⟨(some 14), none, .o (.bin .lss (.t 12) (.t 13))⟩])
 (.cond (.t 14)
 .skip
 (.exit 0)))
 (.seq (.blk 1
 (.reg [⟨(some 17), none, .o (.mov (.t 10))⟩,
 ⟨(some 18), none, .o (.mov (.t 0))⟩,
 ⟨(some 19), none, .o (.mov (.t 1))⟩,
 ⟨(some 20), none, .o (.mov (.t 3))⟩,
 ⟨(some 21), none, .call 192 [(.t 18), (.t 19), (.t 20)]⟩,
 ⟨(some 22), none, .o (.idx (.t 9) (.t 17) 8 8)⟩,
 ⟨none, none, .sta (.t 22) (.t 21) 8⟩]))
 (.reg [⟨(some 15), none, .o (.mov (.t 10))⟩,
 ⟨(some 16), none, .o (.bin .add (.t 15) (.c (.i .i64 (1))))⟩,
 ⟨(some 10), none, .o (.mov (.t 16))⟩]))))))
 (.seq (.reg [⟨(some 23), none, .lda (.t 9) 0 64⟩,
 ⟨none, none, .sta (.t 8) (.t 23) 64⟩])
 .ret))))⟩
def qf_l_FnConvolutionMaps : QF := ⟨1, 183, [.t 2],
 (.seq (.reg [⟨(some 2), none, .o (.mov (.c (.b false)))⟩])
 (.seq (.seq (.reg [⟨(some 30), none, .o (.mov (.t 0))⟩,
 ⟨(some 31), none, .call 176 [(.t 30)]⟩])
 (.cond (.t 31)
 (.seq (.reg [⟨(some 2), none, .o (.mov (.c (.b true)))⟩])
 .ret)
 .skip))
 (.seq (.reg [⟨(some 33), none, .o (.mov (.t 0))⟩,
 ⟨(some 34), none, .call 177 [(.t 33)]⟩,
 ⟨(some 32), none, .o (.mov (.t 34))⟩,
 ⟨(some 35), none, .o (.ext (.t 32) 0)⟩,
 ⟨(some 36), none, .o (.ext (.t 32) 1)⟩,
 ⟨(some 37), none, .o (.ext (.t 32) 2)⟩,
 ⟨(some 38), none, .o (.ext (.t 32) 3)⟩,
 ⟨(some 3), none, .o (.alo (.by 2 522))⟩,
 ⟨(some 4), none, .o (.alo (.by 2 522))⟩,
 ⟨(some 5), none, .o (.alo (.by 0 64))⟩,
 ⟨(some 6), none, .o (.alo (.by 0 64))⟩,
 ⟨none, none, .sta (.t 3) (.t 35) 522⟩,
 ⟨none, none, .sta (.t 4) (.t 36) 522⟩,
 ⟨none, none, .sta (.t 5) (.t 37) 64⟩,
 ⟨none, none, .sta (.t 6) (.t 38) 64⟩])
 (.seq (.reg [⟨(some 40), none, .lda (.t 3) 2 522⟩,
 ⟨(some 41), none, .lda (.t 4) 2 522⟩,
 ⟨(some 42), none, .lda (.t 5) 0 64⟩,
 ⟨(some 43), none, .lda (.t 6) 0 64⟩,
 ⟨(some 44), none, .calp 178 [(.t 40), (.t 41), (.t 42), (.t 43)]⟩,
 ⟨(some 39), none, .o (.mov (.t 44))⟩,
 ⟨(some 45), none, .o (.ext (.t 39) 0)⟩,
 ⟨(some 46), none, .o (.ext (.t 39) 1)⟩,
 ⟨(some 7), none, .o (.alo (.by 0 64))⟩,
 ⟨none, none, .sta (.t 7) (.t 45) 64⟩,
 ⟨(some 8), none, .o (.mov (.t 46))⟩])
 (.seq (.reg [⟨(some 48), none, .lda (.t 3) 2 522⟩,
 ⟨(some 49), none, .lda (.t 4) 2 522⟩,
 ⟨(some 50), none, .lda (.t 5) 0 64⟩,
 ⟨(some 51), none, .lda (.t 6) 0 64⟩,
 ⟨(some 52), none, .calp 179 [(.t 48), (.t 49), (.t 50), (.t 51)]⟩,
 ⟨(some 47), none, .o (.mov (.t 52))⟩,
 ⟨(some 53), none, .o (.ext (.t 47) 0)⟩,
 ⟨(some 54), none, .o (.ext (.t 47) 1)⟩,
 ⟨(some 9), none, .o (.alo (.by 0 64))⟩,
 ⟨none, none, .sta (.t 9) (.t 53) 64⟩,
 ⟨(some 10), none, .o (.mov (.t 54))⟩])
 (.seq (.seq (.reg [⟨(some 55), none, .o (.mov (.t 10))⟩,
 ⟨(some 56), none, .o (.mov (.t 8))⟩,
 ⟨(some 57), none, .o (.bin .neq (.t 55) (.t 56))⟩,
 ⟨(some 58), none, .o (.mov (.t 57))⟩,
 ⟨(some 59), (some (58, false)), .lda (.t 9) 0 64⟩,
 ⟨(some 60), (some (58, false)), .lda (.t 7) 0 64⟩,
 ⟨(some 61), (some (58, false)), .o (.eqa true 64 (.t 59) (.t 60))⟩,
 ⟨(some 62), none, .o (.pick (.t 58) (.c (.b true)) (.t 61))⟩])
 (.cond (.t 62)
 (.seq (.reg [⟨(some 2), none, .o (.mov (.c (.b false)))⟩])
 .ret)
 .skip))
 (.seq (.reg [⟨(some 64), none, .o (.mov (.t 0))⟩,
 ⟨(some 65), none, .call 180 [(.t 64)]⟩,
 ⟨(some 63), none, .o (.mov (.t 65))⟩,
 ⟨(some 66), none, .o (.ext (.t 63) 0)⟩,
 ⟨(some 67), none, .o (.ext (.t 63) 1)⟩,
 ⟨(some 11), none, .o (.alo (.by 2 522))⟩,
 ⟨(some 12), none, .o (.alo (.by 2 522))⟩,
 ⟨none, none, .sta (.t 11) (.t 66) 522⟩,
 ⟨none, none, .sta (.t 12) (.t 67) 522⟩])
 (.seq (.reg [⟨(some 69), none, .lda (.t 11) 2 522⟩,
 ⟨(some 70), none, .lda (.t 12) 2 522⟩,
 ⟨(some 71), none, .calp 181 [(.t 69), (.t 70)]⟩,
 ⟨(some 68), none, .o (.mov (.t 71))⟩,
 ⟨(some 72), none, .o (.ext (.t 68) 0)⟩,
 ⟨(some 73), none, .o (.ext (.t 68) 1)⟩,
 ⟨(some 13), none, .o (.alo (.by 0 64))⟩,
 ⟨none, none, .sta (.t 13) (.t 72) 64⟩,
 ⟨(some 14), none, .o (.mov (.t 73))⟩])
 (.seq (.reg [⟨(some 75), none, .lda (.t 11) 2 522⟩,
 ⟨(some 76), none, .lda (.t 12) 2 522⟩,
 ⟨(some 77), none, .calp 182 [(.t 75), (.t 76)]⟩,
 ⟨(some 74), none, .o (.mov (.t 77))⟩,
 ⟨(some 78), none, .o (.ext (.t 74) 0)⟩,
 ⟨(some 79), none, .o (.ext (.t 74) 1)⟩,
 ⟨(some 15), none, .o (.alo (.by 0 64))⟩,
 ⟨none, none, .sta (.t 15) (.t 78) 64⟩,
 ⟨(some 16), none, .o (.mov (.t 79))⟩])
 (.seq (.seq (.reg [⟨(some 80), none, .o (.mov (.t 16))⟩,
 ⟨(some 81), none, .o (.mov (.t 14))⟩,
 ⟨(some 82), none, .o (.bin .neq (.t 80) (.t 81))⟩,
 ⟨(some 83), none, .o (.mov (.t 82))⟩,
 ⟨(some 84), (some (83, false)), .lda (.t 15) 0 64⟩,
 ⟨(some 85), (some (83, false)), .lda (.t 13) 0 64⟩,
 ⟨(some 86), (some (83, false)), .o (.eqa true 64 (.t 84) (.t 85))⟩,
 ⟨(some 87), none, .o (.pick (.t 83) (.c (.b true)) (.t 86))⟩])
 (.cond (.t 87)
 (.seq (.reg [⟨(some 2), none, .o (.mov (.c (.b false)))⟩])
 .ret)
 .skip))
 (.seq (.seq (.reg [⟨(some 88), none, .o (.mov (.t 10))⟩,
 ⟨(some 89), none, .o (.bin .neq (.t 88) (.c (.i .i64 (0))))⟩])
 (.cond (.t 89)
 (.seq (.reg [⟨(some 90), none, .lda (.t 9) 0 64⟩,
 ⟨(some 91), none, .o (.bld 0 64 [])⟩,
 ⟨(some 92), none, .o (.eqa false 64 (.t 90) (.t 91))⟩,
 ⟨(some 2), none, .o (.mov (.t 92))⟩])
 .ret)
 .skip))
 (.seq (.reg [⟨(some 94), none, .lda (.t 3) 2 522⟩,
 ⟨(some 95), none, .lda (.t 4) 2 522⟩,
 ⟨(some 96), none, .calp 182 [(.t 94), (.t 95)]⟩,
 ⟨(some 93), none, .o (.mov (.t 96))⟩,
 ⟨(some 97), none, .o (.ext (.t 93) 0)⟩,
 ⟨(some 98), none, .o (.ext (.t 93) 1)⟩,
 ⟨(some 17), none, .o (.alo (.by 0 64))⟩,
 ⟨none, none, .sta (.t 17) (.t 97) 64⟩,
 ⟨(some 18), none, .o (.mov (.t 98))⟩])
 (.seq (.reg [⟨(some 100), none, .lda (.t 3) 2 522⟩,
 ⟨(some 101), none, .lda (.t 4) 2 522⟩,
 ⟨(some 102), none, .lda (.t 17) 0 64⟩,
 ⟨(some 103), none, .lda (.t 5) 0 64⟩,
 ⟨(some 104), none, .calp 179 [(.t 100), (.t 101), (.t 102), (.t 103)]⟩,
 ⟨(some 99), none, .o (.mov (.t 104))⟩,
 ⟨(some 105), none, .o (.ext (.t 99) 0)⟩,
 ⟨(some 106), none, .o (.ext (.t 99) 1)⟩,
 ⟨(some 19), none, .o (.alo (.by 0 64))⟩,
 ⟨none, none, .sta (.t 19) (.t 105) 64⟩,
 ⟨(some 20), none, .o (.mov (.t 106))⟩])
 (.seq (.reg [⟨(some 108), none, .lda (.t 3) 2 522⟩,
 ⟨(some 109), none, .lda (.t 4) 2 522⟩,
 ⟨(some 110), none, .lda (.t 5) 0 64⟩,
 ⟨(some 111), none, .lda (.t 17) 0 64⟩,
 ⟨(some 112), none, .calp 179 [(.t 108), (.t 109), (.t 110), (.t 111)]⟩,
 ⟨(some 107), none, .o (.mov (.t 112))⟩,
 ⟨(some 113), none, .o (.ext (.t 107) 0)⟩,
 ⟨(some 114), none, .o (.ext (.t 107) 1)⟩,
 ⟨(some 21), none, .o (.alo (.by 0 64))⟩,
 ⟨none, none, .sta (.t 21) (.t 113) 64⟩,
 ⟨(some 22), none, .o (.mov (.t 114))⟩])
 (.seq (.seq (.reg [⟨(some 115), none, .o (.mov (.t 18))⟩,
 ⟨(some 116), none, .o (.bin .neq (.t 115) (.c (.i .i64 (0))))⟩,
 ⟨(some 117), none, .o (.mov (.t 116))⟩,
 ⟨(some 118), (some (117, false)), .o (.mov (.t 20))⟩,
 ⟨(some 119), (some (117, false)), .o (.bin .neq (.t 118) (.c (.i .i64 (0))))⟩,
 ⟨(some 120), none, .o (.pick (.t 117) (.c (.b true)) (.t 119))⟩,
 ⟨(some 121), none, .o (.mov (.t 120))⟩,
 ⟨(some 122), (some (121, false)), .lda (.t 19) 0 64⟩,
 ⟨(some 123), (some (121, false)), .lda (.t 5) 0 64⟩,
 ⟨(some 124), (some (121, false)), .o (.eqa true 64 (.t 122) (.t 123))⟩,
 ⟨(some 125), none, .o (.pick (.t 121) (.c (.b true)) (.t 124))⟩,
 ⟨(some 126), none, .o (.mov (.t 125))⟩,
 ⟨(some 127), (some (126, false)), .o (.mov (.t 22))⟩,
 ⟨(some 128), (some (126, false)), .o (.bin .neq (.t 127) (.c (.i .i64 (0))))⟩,
 ⟨(some 129), none, .o (.pick (.t 126) (.c (.b true)) (.t 128))⟩,
 ⟨(some 130), none, .o (.mov (.t 129))⟩,
 ⟨(some 131), (some (130, false)), .lda (.t 21) 0 64⟩,
 ⟨(some 132), (some (130, false)), .lda (.t 5) 0 64⟩,
 ⟨(some 133), (some (130, false)), .o (.eqa true 64 (.t 131) (.t 132))⟩,
 ⟨(some 134), none, .o (.pick (.t 130) (.c (.b true)) (.t 133))⟩])
 (.cond (.t 134)
 (.seq (.reg [⟨(some 2), none, .o (.mov (.c (.b false)))⟩])
 .ret)
 .skip))
 (.seq (.drt [0, 1, 0, 4, 0, 16, 0, 64, 255, 0, 1023]
 [(0, false, ⟨(some 135), none, .o (.mov (.t 0))⟩),
 (2, false, ⟨(some 137), none, .o (.add (.t 4) 0)⟩),
 (3, true, ⟨(some 138), none, .ld1 (.t 137)⟩),
 (4, false, ⟨(some 139), none, .o (.add (.t 3) 1)⟩),
 (5, true, ⟨(some 140), none, .ld1 (.t 139)⟩),
 (6, false, ⟨(some 141), none, .o (.add (.t 4) 1)⟩),
 (7, true, ⟨(some 142), none, .ld1 (.t 141)⟩)]
 [(1, false, ⟨(some 136), none, .call 183 [(.t 135), (.c (.i .u64 (9804)))]⟩),
 (8, true, ⟨(some 143), none, .call 184 [(.t 136), (.t 138), (.t 140), (.t 142)]⟩),
 (9, false, ⟨(some 23), none, .o (.alo (.by 0 64))⟩),
 (10, true, ⟨none, none, .sta (.t 23) (.t 143) 64⟩)])
 (.seq (.reg [⟨(some 145), none, .lda (.t 3) 2 522⟩,
 ⟨(some 146), none, .lda (.t 4) 2 522⟩,
 ⟨(some 147), none, .lda (.t 9) 0 64⟩,
 ⟨(some 148), none, .lda (.t 23) 0 64⟩,
 ⟨(some 149), none, .calp 179 [(.t 145), (.t 146), (.t 147), (.t 148)]⟩,
 ⟨(some 144), none, .o (.mov (.t 149))⟩,
 ⟨(some 150), none, .o (.ext (.t 144) 0)⟩,
 ⟨(some 151), none, .o (.ext (.t 144) 1)⟩,
 ⟨(some 24), none, .o (.alo (.by 0 64))⟩,
 ⟨none, none, .sta (.t 24) (.t 150) 64⟩,
 ⟨(some 25), none, .o (.mov (.t 151))⟩])
 (.seq (.reg [⟨(some 153), none, .lda (.t 3) 2 522⟩,
 ⟨(some 154), none, .lda (.t 4) 2 522⟩,
 ⟨(some 155), none, .lda (.t 6) 0 64⟩,
 ⟨(some 156), none, .lda (.t 23) 0 64⟩,
 ⟨(some 157), none, .calp 179 [(.t 153), (.t 154), (.t 155), (.t 156)]⟩,
 ⟨(some 152), none, .o (.mov (.t 157))⟩,
 ⟨(some 158), none, .o (.ext (.t 152) 0)⟩,
 ⟨(some 159), none, .o (.ext (.t 152) 1)⟩,
 ⟨(some 26), none, .o (.alo (.by 0 64))⟩,
 ⟨none, none, .sta (.t 26) (.t 158) 64⟩,
 ⟨(some 27), none, .o (.mov (.t 159))⟩])
 (.seq (.reg [⟨(some 161), none, .lda (.t 3) 2 522⟩,
 ⟨(some 162), none, .lda (.t 4) 2 522⟩,
 ⟨(some 163), none, .lda (.t 5) 0 64⟩,
 ⟨(some 164), none, .lda (.t 26) 0 64⟩,
 ⟨(some 165), none, .calp 179 [(.t 161), (.t 162), (.t 163), (.t 164)]⟩,
 ⟨(some 160), none, .o (.mov (.t 165))⟩,
 ⟨(some 166), none, .o (.ext (.t 160) 0)⟩,
 ⟨(some 167), none, .o (.ext (.t 160) 1)⟩,
 ⟨(some 28), none, .o (.alo (.by 0 64))⟩,
 ⟨none, none, .sta (.t 28) (.t 166) 64⟩,
 ⟨(some 29), none, .o (.mov (.t 167))⟩])
 (.seq (.reg [⟨(some 168), none, .o (.mov (.t 25))⟩,
 ⟨(some 169), none, .o (.bin .eql (.t 168) (.c (.i .i64 (0))))⟩,
 ⟨(some 170), none, .o (.mov (.t 169))⟩,
 ⟨(some 171), (some (170, true)), .o (.mov (.t 27))⟩,
 ⟨(some 172), (some (170, true)), .o (.bin .eql (.t 171) (.c (.i .i64 (0))))⟩,
 ⟨(some 173), none, .o (.pick (.t 170) (.t 172) (.c (.b false)))⟩,
 ⟨(some 174), none, .o (.mov (.t 173))⟩,
 ⟨(some 175), (some (174, true)), .o (.mov (.t 29))⟩,
 ⟨(some 176), (some (174, true)), .o (.bin .eql (.t 175) (.c (.i .i64 (0))))⟩,
 ⟨(some 177), none, .o (.pick (.t 174) (.t 176) (.c (.b false)))⟩,
 ⟨(some 178), none, .o (.mov (.t 177))⟩,
 ⟨(some 179), (some (178, true)), .lda (.t 24) 0 64⟩,
 ⟨(some 180), (some (178, true)), .lda (.t 28) 0 64⟩,
 ⟨(some 181), (some (178, true)), .o (.eqa false 64 (.t 179) (.t 180))⟩,
 ⟨(some 182), none, .o (.pick (.t 178) (.t 181) (.c (.b false)))⟩,
 ⟨(some 2), none, .o (.mov (.t 182))⟩])
 .ret))))))))))))))))))))⟩
def F_i_mapsCode (P : Program) (ρ : Nat → FuncId) : Prop := chkQF P ρ 191 qf_i_mapsCode = true ∧ E_i_IsCoalgebra P ρ ∧ E_i_IsAlgebra P ρ ∧ E_i_isLinear P ρ ∧ E_i_unless P ρ ∧ E_i_first P ρ
def F_i_ConvolveMaps (P : Program) (ρ : Nat → FuncId) : Prop := chkQF P ρ 179 qf_i_ConvolveMaps = true ∧ F_i_mapsCode P ρ ∧ E_i_Algebra_field P ρ ∧ E_i_Algebra_product P ρ ∧ E_i_field_plus P ρ
def F_i_UnitMap (P : Program) (ρ : Nat → FuncId) : Prop := chkQF P ρ 182 qf_i_UnitMap = true ∧ F_i_mapsCode P ρ ∧ E_i_Algebra_field P ρ ∧ E_i_field_times P ρ
def F_l_big (P : Program) (ρ : Nat → FuncId) : Prop := chkQF P ρ 176 qf_l_big = true
def F_s_l01From (P : Program) (ρ : Nat → FuncId) : Prop := chkQF P ρ 186 qf_s_l01From = true
def F_s_l01Next (P : Program) (ρ : Nat → FuncId) : Prop := chkQF P ρ 195 qf_s_l01Next = true
def F_s_l01Pick (P : Program) (ρ : Nat → FuncId) : Prop := chkQF P ρ 205 qf_s_l01Pick = true ∧ F_s_l01Next P ρ
def F_s_l01DrawPrime (P : Program) (ρ : Nat → FuncId) : Prop := chkQF P ρ 206 qf_s_l01DrawPrime = true ∧ F_s_l01Pick P ρ
def F_s_l01Cyclic (P : Program) (ρ : Nat → FuncId) : Prop := chkQF P ρ 196 qf_s_l01Cyclic = true
def F_s_l01Powers (P : Program) (ρ : Nat → FuncId) : Prop := chkQF P ρ 208 qf_s_l01Powers = true
def F_s_l01Matrices (P : Program) (ρ : Nat → FuncId) : Prop := chkQF P ρ 197 qf_s_l01Matrices = true
def F_s_ProductAlgebra (P : Program) (ρ : Nat → FuncId) : Prop := chkQF P ρ 209 qf_s_ProductAlgebra = true ∧ E_s_l01Is P ρ
def F_s_l01Draw (P : Program) (ρ : Nat → FuncId) : Prop := chkQF P ρ 203 qf_s_l01Draw = true ∧ F_s_l01DrawPrime P ρ ∧ F_s_l01Next P ρ ∧ F_s_l01Cyclic P ρ ∧ F_s_l01Powers P ρ ∧ F_s_l01Matrices P ρ ∧ F_s_ProductAlgebra P ρ
def F_s_l02Turned (P : Program) (ρ : Nat → FuncId) : Prop := chkQF P ρ 210 qf_s_l02Turned = true
def F_s_DualCoalgebra (P : Program) (ρ : Nat → FuncId) : Prop := chkQF P ρ 207 qf_s_DualCoalgebra = true ∧ E_s_l01Is P ρ ∧ F_s_l02Turned P ρ
def F_s_l02Draw (P : Program) (ρ : Nat → FuncId) : Prop := chkQF P ρ 201 qf_s_l02Draw = true ∧ F_s_l01Next P ρ ∧ F_s_l01DrawPrime P ρ ∧ F_s_l01Draw P ρ ∧ F_s_DualCoalgebra P ρ
def F_s_l02Bad (P : Program) (ρ : Nat → FuncId) : Prop := chkQF P ρ 202 qf_s_l02Bad = true ∧ F_s_l01Next P ρ ∧ F_s_l01Pick P ρ
def F_s_l02Spoil (P : Program) (ρ : Nat → FuncId) : Prop := chkQF P ρ 193 qf_s_l02Spoil = true ∧ F_s_l02Draw P ρ ∧ F_s_l02Bad P ρ
def F_s_l01Bad (P : Program) (ρ : Nat → FuncId) : Prop := chkQF P ρ 204 qf_s_l01Bad = true ∧ F_s_l01Next P ρ ∧ F_s_l01Pick P ρ
def F_s_l01Spoil (P : Program) (ρ : Nat → FuncId) : Prop := chkQF P ρ 194 qf_s_l01Spoil = true ∧ F_s_l01Draw P ρ ∧ F_s_l01Bad P ρ
def F_s_l02Pair (P : Program) (ρ : Nat → FuncId) : Prop := chkQF P ρ 187 qf_s_l02Pair = true ∧ F_s_l02Spoil P ρ ∧ F_s_l01Spoil P ρ ∧ F_s_l01Next P ρ ∧ E_s_l01Prime P ρ ∧ F_s_l01Cyclic P ρ ∧ F_s_l01Matrices P ρ
def F_s_l01DrawVector (P : Program) (ρ : Nat → FuncId) : Prop := chkQF P ρ 198 qf_s_l01DrawVector = true ∧ F_s_l01Next P ρ
def F_s_l02DrawMap (P : Program) (ρ : Nat → FuncId) : Prop := chkQF P ρ 188 qf_s_l02DrawMap = true ∧ F_s_l01DrawVector P ρ ∧ F_s_l01Next P ρ
def F_s_DrawConvolveMaps (P : Program) (ρ : Nat → FuncId) : Prop := chkQF P ρ 177 qf_s_DrawConvolveMaps = true ∧ F_s_l01From P ρ ∧ F_s_l02Pair P ρ ∧ F_s_l02DrawMap P ρ
def F_s_l02Map (P : Program) (ρ : Nat → FuncId) : Prop := chkQF P ρ 199 qf_s_l02Map = true ∧ E_s_l01Vector P ρ ∧ E_s_l01Zero P ρ
def F_s_l02Maps (P : Program) (ρ : Nat → FuncId) : Prop := chkQF P ρ 189 qf_s_l02Maps = true ∧ E_s_l02Is P ρ ∧ E_s_l01Is P ρ ∧ F_s_l02Map P ρ
def F_s_l02Convolve (P : Program) (ρ : Nat → FuncId) : Prop := chkQF P ρ 190 qf_s_l02Convolve = true ∧ E_s_l01Times P ρ ∧ E_s_l01Add P ρ
def F_s_ConvolveMaps (P : Program) (ρ : Nat → FuncId) : Prop := chkQF P ρ 178 qf_s_ConvolveMaps = true ∧ F_s_l02Maps P ρ ∧ F_s_l02Convolve P ρ
def F_s_DrawUnitMap (P : Program) (ρ : Nat → FuncId) : Prop := chkQF P ρ 180 qf_s_DrawUnitMap = true ∧ F_s_l01From P ρ ∧ F_s_l02Pair P ρ
def F_s_UnitMap (P : Program) (ρ : Nat → FuncId) : Prop := chkQF P ρ 181 qf_s_UnitMap = true ∧ F_s_l02Maps P ρ ∧ E_s_l01Add P ρ
def F_l_roll (P : Program) (ρ : Nat → FuncId) : Prop := chkQF P ρ 183 qf_l_roll = true
def F_l_dice_below (P : Program) (ρ : Nat → FuncId) : Prop := chkQF P ρ 200 qf_l_dice_below = true
def F_l_vector9 (P : Program) (ρ : Nat → FuncId) : Prop := chkQF P ρ 192 qf_l_vector9 = true ∧ F_l_dice_below P ρ
def F_l_linear9 (P : Program) (ρ : Nat → FuncId) : Prop := chkQF P ρ 184 qf_l_linear9 = true ∧ F_l_vector9 P ρ
def F_l_FnConvolutionMaps (P : Program) (ρ : Nat → FuncId) : Prop := chkQF P ρ 185 qf_l_FnConvolutionMaps = true ∧ F_l_big P ρ ∧ F_s_DrawConvolveMaps P ρ ∧ F_s_ConvolveMaps P ρ ∧ F_i_ConvolveMaps P ρ ∧ F_s_DrawUnitMap P ρ ∧ F_s_UnitMap P ρ ∧ F_i_UnitMap P ρ ∧ F_l_roll P ρ ∧ F_l_linear9 P ρ
end Hf
