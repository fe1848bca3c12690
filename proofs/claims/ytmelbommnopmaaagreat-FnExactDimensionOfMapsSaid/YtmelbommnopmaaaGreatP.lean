/- The functions of the program in the engine's small language. Written by gen.py. -/
import Derived.Test.YtmelbommnopmaaaGreatA
set_option linter.unusedVariables false
set_option linter.unusedSimpArgs false
namespace Hf
open Go
def pf_i_basis : PF := ⟨1, 8, [.c 2 0 8],
 (.seq (.reg [⟨(some 2), none, .alo (.by 0 8)⟩])
 (.seq (.reg [⟨(some 4), none, .bld 0 8 []⟩,
 ⟨(some 3), none, .alo (.by 0 8)⟩,
 ⟨none, none, .sta (.t 3) (.t 4) 8⟩])
 (.seq (.reg [⟨(some 5), none, .mov (.t 0)⟩,
 ⟨(some 6), none, .idx (.t 3) (.t 5) 8 1⟩,
 ⟨none, none, .st8 (.t 6) (.c (.u 1))⟩])
 (.seq (.reg [⟨(some 7), none, .lda (.t 3) 0 8⟩,
 ⟨none, none, .sta (.t 2) (.t 7) 8⟩])
 .ret))))⟩
def pf_i_Algebra_field : PF := ⟨1, 12, [.c 2 2 2],
 (.seq (.reg [⟨(some 2), none, .alo (.by 2 2)⟩])
 (.seq (.drw [0, 1, 3, 7, 0, 16, 48, 112, 255, 511]
 []
 [(0, ⟨(some 3), none, .mov (.t 0)⟩),
 (1, ⟨(some 4), none, .nck (.t 3)⟩),
 (2, ⟨(some 5), none, .add (.t 4) 0⟩),
 (3, ⟨(some 6), none, .ld1 (.t 5)⟩),
 (4, ⟨(some 7), none, .mov (.t 0)⟩),
 (5, ⟨(some 8), none, .nck (.t 7)⟩),
 (6, ⟨(some 9), none, .add (.t 8) 1⟩),
 (7, ⟨(some 10), none, .ld1 (.t 9)⟩)]
 []
 [(8, ⟨(some 11), none, .bld 2 2 [(0, 1, (.t 6)), (1, 1, (.t 10))]⟩),
 (9, ⟨none, none, .sta (.t 2) (.t 11) 2⟩)])
 .ret))⟩
def pf_i_field_mod : PF := ⟨2, 17, [.t 4],
 (.seq (.reg [⟨(some 2), none, .box (.t 0)⟩,
 ⟨(some 4), none, .mov (.c (.u 0))⟩])
 (.seq (.reg [⟨(some 5), none, .mov (.t 1)⟩,
 ⟨(some 6), none, .add (.t 2) 0⟩,
 ⟨(some 7), none, .ld1 (.t 6)⟩,
 ⟨(some 8), none, .bin .rem (.t 5) (.t 7)⟩,
 ⟨(some 1), none, .mov (.t 8)⟩])
 (.seq (.seq (.reg [⟨(some 9), none, .mov (.t 1)⟩,
 ⟨(some 10), none, .bin .lss (.t 9) (.c (.i .i64 (0)))⟩])
 (.cond (.t 10)
 (.reg [⟨(some 11), none, .mov (.t 1)⟩,
 ⟨(some 12), none, .add (.t 2) 0⟩,
 ⟨(some 13), none, .ld1 (.t 12)⟩,
 ⟨(some 14), none, .bin .add (.t 11) (.t 13)⟩,
 ⟨(some 1), none, .mov (.t 14)⟩])
 .skip))
 (.seq (.reg [⟨(some 15), none, .mov (.t 1)⟩,
 ⟨(some 16), none, .cvt .u8 (.t 15)⟩,
 ⟨(some 4), none, .mov (.t 16)⟩])
 .ret))))⟩
def pf_i_field_plus : PF := ⟨4, 35, [],
 (.seq (.reg [⟨(some 4), none, .box (.t 0)⟩,
 ⟨(some 7), none, .box (.t 3)⟩])
 (.seq (.seq (.reg [⟨(some 10), none, .mov (.t 2)⟩,
 ⟨(some 11), none, .bin .eql (.t 10) (.c (.i .i64 (0)))⟩])
 (.cond (.t 11)
 .ret
 .skip))
 (.seq (.reg [⟨(some 12), none, .lda (.t 7) 0 8⟩,
 ⟨(some 13), none, .mov (.c (.i .i64 (0)))⟩])
 (.blk 0
 (.loop
 (.seq (.reg [⟨(some 14), none, .bin .lss (.t 13) (.c (.i .i64 (8)))⟩])
 (.seq (.cond (.t 14)
 .skip
 (.exit 0))
 (.seq (.blk 1
 (.seq (.reg [⟨(some 15), none, .mov (.t 13)⟩,
 ⟨(some 16), none, .ixb (.t 12) (.t 13) 8⟩,
 ⟨(some 8), none, .mov (.t 15)⟩,
 ⟨(some 9), none, .mov (.t 16)⟩])
 (.drw [0, 0, 0, 0, 0, 8, 56, 120, 248, 0, 0, 1024, 3584, 8184, 16380, 1, 65535, 131071]
 []
 [(0, ⟨(some 17), none, .mov (.t 1)⟩),
 (1, ⟨(some 18), none, .mov (.t 8)⟩),
 (2, ⟨(some 19), none, .lda (.t 4) 2 2⟩),
 (3, ⟨(some 20), none, .mov (.t 1)⟩),
 (4, ⟨(some 21), none, .mov (.t 8)⟩),
 (5, ⟨(some 22), none, .nck (.t 20)⟩),
 (6, ⟨(some 23), none, .idx (.t 22) (.t 21) 8 1⟩),
 (7, ⟨(some 24), none, .ld8 (.t 23)⟩),
 (8, ⟨(some 25), none, .cvt .i64 (.t 24)⟩),
 (9, ⟨(some 26), none, .mov (.t 2)⟩),
 (10, ⟨(some 27), none, .mov (.t 9)⟩),
 (11, ⟨(some 28), none, .cvt .i64 (.t 27)⟩),
 (12, ⟨(some 29), none, .bin .mul (.t 26) (.t 28)⟩),
 (13, ⟨(some 30), none, .bin .add (.t 25) (.t 29)⟩),
 (14, ⟨(some 31), none, .call 74 [(.t 19), (.t 30)]⟩),
 (15, ⟨(some 32), none, .nck (.t 17)⟩)]
 []
 [(16, ⟨(some 33), none, .idx (.t 32) (.t 18) 8 1⟩),
 (17, ⟨none, none, .st8 (.t 33) (.t 31)⟩)])))
 (.reg [⟨(some 34), none, .bin .add (.t 13) (.c (.i .i64 (1)))⟩,
 ⟨(some 13), none, .mov (.t 34)⟩])))))))))⟩
def pf_i_Algebra_product : PF := ⟨3, 50, [.c 6 0 8],
 (.seq (.reg [⟨(some 4), none, .box (.t 1)⟩,
 ⟨(some 5), none, .box (.t 2)⟩,
 ⟨(some 6), none, .alo (.by 0 8)⟩])
 (.seq (.reg [⟨(some 11), none, .mov (.t 0)⟩,
 ⟨(some 12), none, .call 116 [(.t 11)]⟩,
 ⟨(some 13), none, .bld 0 8 []⟩,
 ⟨(some 7), none, .alo (.by 2 2)⟩,
 ⟨(some 8), none, .alo (.by 0 8)⟩,
 ⟨none, none, .sta (.t 7) (.t 12) 2⟩,
 ⟨none, none, .sta (.t 8) (.t 13) 8⟩])
 (.seq (.seq (.reg [⟨(some 14), none, .add (.t 7) 1⟩,
 ⟨(some 15), none, .ld1 (.t 14)⟩,
 ⟨(some 16), none, .mov (.c (.i .i64 (0)))⟩])
 (.blk 0
 (.loop
 (.seq (.reg [⟨(some 17), none, .bin .lss (.t 16) (.t 15)⟩])
 (.seq (.cond (.t 17)
 .skip
 (.exit 0))
 (.seq (.blk 1
 (.seq (.reg [⟨(some 18), none, .mov (.t 16)⟩,
 ⟨(some 9), none, .mov (.t 18)⟩])
 (.seq (.seq (.reg [⟨(some 19), none, .mov (.t 9)⟩,
 ⟨(some 20), none, .idx (.t 4) (.t 19) 8 1⟩,
 ⟨(some 21), none, .ld8 (.t 20)⟩,
 ⟨(some 22), none, .bin .eql (.t 21) (.c (.u 0))⟩])
 (.cond (.t 22)
 (.exit 1)
 .skip))
 (.seq (.reg [⟨(some 23), none, .add (.t 7) 1⟩,
 ⟨(some 24), none, .ld1 (.t 23)⟩,
 ⟨(some 25), none, .mov (.c (.i .i64 (0)))⟩])
 (.blk 2
 (.loop
 (.seq (.reg [⟨(some 26), none, .bin .lss (.t 25) (.t 24)⟩])
 (.seq (.cond (.t 26)
 .skip
 (.exit 2))
 (.seq (.blk 3
 (.seq (.reg [⟨(some 27), none, .mov (.t 25)⟩,
 ⟨(some 10), none, .mov (.t 27)⟩])
 (.drw [0, 0, 2, 6, 14, 0, 32, 96, 224, 510, 0, 0, 0, 1024, 9216, 27648, 64512, 130048, 262143]
 []
 [(0, ⟨(some 28), none, .lda (.t 7) 2 2⟩),
 (1, ⟨(some 29), none, .mov (.t 9)⟩),
 (2, ⟨(some 30), none, .idx (.t 4) (.t 29) 8 1⟩),
 (3, ⟨(some 31), none, .ld8 (.t 30)⟩),
 (4, ⟨(some 32), none, .cvt .i64 (.t 31)⟩),
 (5, ⟨(some 33), none, .mov (.t 10)⟩),
 (6, ⟨(some 34), none, .idx (.t 5) (.t 33) 8 1⟩),
 (7, ⟨(some 35), none, .ld8 (.t 34)⟩),
 (8, ⟨(some 36), none, .cvt .i64 (.t 35)⟩),
 (9, ⟨(some 37), none, .bin .mul (.t 32) (.t 36)⟩),
 (10, ⟨(some 38), none, .mov (.t 0)⟩),
 (11, ⟨(some 39), none, .mov (.t 9)⟩),
 (12, ⟨(some 40), none, .mov (.t 10)⟩),
 (13, ⟨(some 41), none, .nck (.t 38)⟩),
 (14, ⟨(some 42), none, .add (.t 41) 10⟩),
 (15, ⟨(some 43), none, .idx (.t 42) (.t 39) 8 64⟩),
 (16, ⟨(some 44), none, .idx (.t 43) (.t 40) 8 8⟩),
 (17, ⟨(some 45), none, .lda (.t 44) 0 8⟩)]
 []
 [(18, ⟨(some 46), none, .call 71 [(.t 28), (.t 8), (.t 37), (.t 45)]⟩)])))
 (.reg [⟨(some 47), none, .bin .add (.t 25) (.c (.i .i64 (1)))⟩,
 ⟨(some 25), none, .mov (.t 47)⟩]))))))))))
 (.reg [⟨(some 48), none, .bin .add (.t 16) (.c (.i .i64 (1)))⟩,
 ⟨(some 16), none, .mov (.t 48)⟩])))))))
 (.seq (.reg [⟨(some 49), none, .lda (.t 8) 0 8⟩,
 ⟨none, none, .sta (.t 6) (.t 49) 8⟩])
 .ret))))⟩
def pf_i_Algebra_fault : PF := ⟨1, 55, [.t 2],
 (.seq (.reg [⟨(some 2), none, .mov (.c .sn)⟩])
 (.seq (.reg [⟨(some 7), none, .mov (.t 0)⟩,
 ⟨(some 8), none, .nck (.t 7)⟩,
 ⟨(some 9), none, .add (.t 8) 1⟩,
 ⟨(some 10), none, .ld1 (.t 9)⟩,
 ⟨(some 3), none, .mov (.t 10)⟩])
 (.seq (.seq (.reg [⟨(some 11), none, .mov (.t 3)⟩,
 ⟨(some 12), none, .mov (.c (.i .i64 (0)))⟩])
 (.blk 0
 (.loop
 (.seq (.reg [⟨(some 13), none, .bin .lss (.t 12) (.t 11)⟩])
 (.seq (.cond (.t 13)
 .skip
 (.exit 0))
 (.seq (.blk 1
 (.seq (.reg [⟨(some 14), none, .mov (.t 12)⟩,
 ⟨(some 4), none, .mov (.t 14)⟩])
 (.seq (.reg [⟨(some 15), none, .mov (.t 3)⟩,
 ⟨(some 16), none, .mov (.c (.i .i64 (0)))⟩])
 (.blk 2
 (.loop
 (.seq (.reg [⟨(some 17), none, .bin .lss (.t 16) (.t 15)⟩])
 (.seq (.cond (.t 17)
 .skip
 (.exit 2))
 (.seq (.blk 3
 (.seq (.reg [⟨(some 18), none, .mov (.t 16)⟩,
 ⟨(some 5), none, .mov (.t 18)⟩])
 (.seq (.reg [⟨(some 19), none, .mov (.t 3)⟩,
 ⟨(some 20), none, .mov (.c (.i .i64 (0)))⟩])
 (.blk 4
 (.loop
 (.seq (.reg [⟨(some 21), none, .bin .lss (.t 20) (.t 19)⟩])
 (.seq (.cond (.t 21)
 .skip
 (.exit 4))
 (.seq (.blk 5
 (.seq (.reg [⟨(some 22), none, .mov (.t 20)⟩,
 ⟨(some 6), none, .mov (.t 22)⟩])
 (.seq (.drw [0, 0, 0, 0, 2, 18, 54, 126, 254, 0, 512, 2047, 0, 0, 12287, 0, 0, 0, 32768, 294912, 884736, 2064384, 4161536, 8388607, 16777215]
 []
 [(0, ⟨(some 23), none, .mov (.t 0)⟩),
 (1, ⟨(some 24), none, .mov (.t 0)⟩),
 (2, ⟨(some 25), none, .mov (.t 4)⟩),
 (3, ⟨(some 26), none, .mov (.t 5)⟩),
 (4, ⟨(some 27), none, .nck (.t 24)⟩),
 (5, ⟨(some 28), none, .add (.t 27) 10⟩),
 (6, ⟨(some 29), none, .idx (.t 28) (.t 25) 8 64⟩),
 (7, ⟨(some 30), none, .idx (.t 29) (.t 26) 8 8⟩),
 (8, ⟨(some 31), none, .lda (.t 30) 0 8⟩),
 (9, ⟨(some 32), none, .mov (.t 6)⟩),
 (10, ⟨(some 33), none, .call 61 [(.t 32)]⟩),
 (11, ⟨(some 34), none, .call 104 [(.t 23), (.t 31), (.t 33)]⟩),
 (12, ⟨(some 35), none, .mov (.t 0)⟩),
 (13, ⟨(some 36), none, .mov (.t 4)⟩),
 (14, ⟨(some 37), none, .call 61 [(.t 36)]⟩),
 (15, ⟨(some 38), none, .mov (.t 0)⟩),
 (16, ⟨(some 39), none, .mov (.t 5)⟩),
 (17, ⟨(some 40), none, .mov (.t 6)⟩),
 (18, ⟨(some 41), none, .nck (.t 38)⟩),
 (19, ⟨(some 42), none, .add (.t 41) 10⟩),
 (20, ⟨(some 43), none, .idx (.t 42) (.t 39) 8 64⟩),
 (21, ⟨(some 44), none, .idx (.t 43) (.t 40) 8 8⟩),
 (22, ⟨(some 45), none, .lda (.t 44) 0 8⟩)]
 []
 [(23, ⟨(some 46), none, .call 104 [(.t 35), (.t 37), (.t 45)]⟩),
 (24, ⟨(some 47), none, .eqa true 8 (.t 34) (.t 46)⟩)])
 (.cond (.t 47)
 (.seq (.reg [⟨(some 48), none, .mov (.t 4)⟩,
 ⟨(some 49), none, .mov (.t 5)⟩,
 ⟨(some 50), none, .mov (.t 6)⟩,
 ⟨(some 51), none, .bsa [(.t 48), (.t 49), (.t 50)]⟩,
 ⟨(some 2), none, .mov (.t 51)⟩])
 .ret)
 .skip))))
 (.reg [⟨(some 52), none, .bin .add (.t 20) (.c (.i .i64 (1)))⟩,
 ⟨(some 20), none, .mov (.t 52)⟩])))))))))
 (.reg [⟨(some 53), none, .bin .add (.t 16) (.c (.i .i64 (1)))⟩,
 ⟨(some 16), none, .mov (.t 53)⟩])))))))))
 (.reg [⟨(some 54), none, .bin .add (.t 12) (.c (.i .i64 (1)))⟩,
 ⟨(some 12), none, .mov (.t 54)⟩])))))))
 (.seq (.reg [⟨(some 2), none, .mov (.c .sn)⟩])
 .ret))))⟩
def pf_i_IsPrime : PF := ⟨1, 21, [.t 2],
 (.seq (.reg [⟨(some 2), none, .mov (.c (.b false))⟩])
 (.seq (.seq (.reg [⟨(some 4), none, .mov (.t 0)⟩,
 ⟨(some 5), none, .bin .lss (.t 4) (.c (.i .i64 (2)))⟩,
 ⟨(some 6), none, .mov (.t 5)⟩,
 ⟨(some 7), (some (6, false)), .mov (.t 0)⟩,
 ⟨(some 8), (some (6, false)), .bin .gtr (.t 7) (.c (.i .i64 (31)))⟩,
 ⟨(some 9), none, .pick (.t 6) (.c (.b true)) (.t 8)⟩])
 (.cond (.t 9)
 (.seq (.reg [⟨(some 2), none, .mov (.c (.b false))⟩])
 .ret)
 .skip))
 (.seq (.seq (.reg [⟨(some 3), none, .mov (.c (.i .i64 (2)))⟩])
 (.blk 0
 (.loop
 (.seq (.seq (.reg [⟨(some 10), none, .mov (.t 3)⟩,
 ⟨(some 11), none, .mov (.t 3)⟩,
 ⟨(some 12), none, .bin .mul (.t 10) (.t 11)⟩,
 ⟨(some 13), none, .mov (.t 0)⟩,
 ⟨(some 14), none, .bin .leq (.t 12) (.t 13)⟩])
 (.cond (.t 14)
 .skip
 (.exit 0)))
 (.seq (.blk 1
 (.seq (.reg [⟨(some 17), none, .mov (.t 0)⟩,
 ⟨(some 18), none, .mov (.t 3)⟩,
 ⟨(some 19), none, .bin .rem (.t 17) (.t 18)⟩,
 ⟨(some 20), none, .bin .eql (.t 19) (.c (.i .i64 (0)))⟩])
 (.cond (.t 20)
 (.seq (.reg [⟨(some 2), none, .mov (.c (.b false))⟩])
 .ret)
 .skip)))
 (.reg [⟨(some 15), none, .mov (.t 3)⟩,
 ⟨(some 16), none, .bin .add (.t 15) (.c (.i .i64 (1)))⟩,
 ⟨(some 3), none, .mov (.t 16)⟩]))))))
 (.seq (.reg [⟨(some 2), none, .mov (.c (.b true))⟩])
 .ret))))⟩
def pf_i_in : PF := ⟨3, 15, [.t 6],
 (.seq (.reg [⟨(some 6), none, .mov (.c (.b false))⟩])
 (.seq (.reg [⟨(some 7), none, .mov (.t 1)⟩,
 ⟨(some 8), none, .mov (.t 0)⟩,
 ⟨(some 9), none, .bin .leq (.t 7) (.t 8)⟩,
 ⟨(some 10), none, .mov (.t 9)⟩,
 ⟨(some 11), (some (10, true)), .mov (.t 0)⟩,
 ⟨(some 12), (some (10, true)), .mov (.t 2)⟩,
 ⟨(some 13), (some (10, true)), .bin .leq (.t 11) (.t 12)⟩,
 ⟨(some 14), none, .pick (.t 10) (.t 13) (.c (.b false))⟩,
 ⟨(some 6), none, .mov (.t 14)⟩])
 .ret))⟩
def pf_i_IsVector : PF := ⟨3, 36, [.t 6],
 (.seq (.reg [⟨(some 5), none, .box (.t 2)⟩,
 ⟨(some 6), none, .mov (.c (.b false))⟩])
 (.seq (.seq (.reg [⟨(some 9), none, .mov (.t 0)⟩,
 ⟨(some 10), none, .call 93 [(.t 9)]⟩,
 ⟨(some 11), none, .nt (.t 10)⟩,
 ⟨(some 12), none, .mov (.t 11)⟩,
 ⟨(some 13), (some (12, false)), .mov (.t 1)⟩,
 ⟨(some 14), (some (12, false)), .call 94 [(.t 13), (.c (.i .i64 (1))), (.c (.i .i64 (8)))]⟩,
 ⟨(some 15), (some (12, false)), .nt (.t 14)⟩,
 ⟨(some 16), none, .pick (.t 12) (.c (.b true)) (.t 15)⟩])
 (.cond (.t 16)
 (.seq (.reg [⟨(some 6), none, .mov (.c (.b false))⟩])
 .ret)
 .skip))
 (.seq (.seq (.reg [⟨(some 17), none, .lda (.t 5) 0 8⟩,
 ⟨(some 18), none, .mov (.c (.i .i64 (0)))⟩])
 (.blk 0
 (.loop
 (.seq (.reg [⟨(some 19), none, .bin .lss (.t 18) (.c (.i .i64 (8)))⟩])
 (.seq (.cond (.t 19)
 .skip
 (.exit 0))
 (.seq (.blk 1
 (.seq (.reg [⟨(some 20), none, .mov (.t 18)⟩,
 ⟨(some 21), none, .ixb (.t 17) (.t 18) 8⟩,
 ⟨(some 7), none, .mov (.t 20)⟩,
 ⟨(some 8), none, .mov (.t 21)⟩])
 (.seq (.reg [⟨(some 22), none, .mov (.t 8)⟩,
 ⟨(some 23), none, .cvt .i64 (.t 22)⟩,
 ⟨(some 24), none, .mov (.t 0)⟩,
 ⟨(some 25), none, .bin .geq (.t 23) (.t 24)⟩,
 ⟨(some 26), none, .mov (.t 25)⟩,
 ⟨(some 27), (some (26, false)), .mov (.t 7)⟩,
 ⟨(some 28), (some (26, false)), .mov (.t 1)⟩,
 ⟨(some 29), (some (26, false)), .bin .geq (.t 27) (.t 28)⟩,
 ⟨(some 30), (some (26, false)), .mov (.t 29)⟩,
 ⟨(some 31), (some (30, true)), .mov (.t 8)⟩,
 ⟨(some 32), (some (30, true)), .bin .neq (.t 31) (.c (.u 0))⟩,
 ⟨(some 33), (some (26, false)), .pick (.t 30) (.t 32) (.c (.b false))⟩,
 ⟨(some 34), none, .pick (.t 26) (.c (.b true)) (.t 33)⟩])
 (.cond (.t 34)
 (.seq (.reg [⟨(some 6), none, .mov (.c (.b false))⟩])
 .ret)
 .skip))))
 (.reg [⟨(some 35), none, .bin .add (.t 18) (.c (.i .i64 (1)))⟩,
 ⟨(some 18), none, .mov (.t 35)⟩])))))))
 (.seq (.reg [⟨(some 6), none, .mov (.c (.b true))⟩])
 .ret))))⟩
def pf_i_isLinear : PF := ⟨4, 34, [.t 8],
 (.seq (.reg [⟨(some 8), none, .mov (.c (.b false))⟩])
 (.seq (.seq (.reg [⟨(some 11), none, .mov (.t 3)⟩,
 ⟨(some 12), none, .mov (.c (.i .i64 (0)))⟩])
 (.blk 0
 (.loop
 (.seq (.reg [⟨(some 13), none, .bin .lss (.t 12) (.c (.i .i64 (8)))⟩])
 (.seq (.cond (.t 13)
 .skip
 (.exit 0))
 (.seq (.blk 1
 (.seq (.drw [0, 0, 2, 6, 0, 17, 63]
 []
 [(0, ⟨(some 14), none, .mov (.t 12)⟩),
 (1, ⟨(some 15), none, .nck (.t 11)⟩),
 (2, ⟨(some 16), none, .idx (.t 15) (.t 12) 8 8⟩),
 (3, ⟨(some 17), none, .lda (.t 16) 0 8⟩),
 (5, ⟨(some 9), none, .mov (.t 14)⟩)]
 [⟨4, 10, (.by 0 8), none⟩]
 [(6, ⟨none, none, .sta (.t 10) (.t 17) 8⟩)])
 (.seq (.reg [⟨(some 18), none, .mov (.t 0)⟩,
 ⟨(some 19), none, .mov (.t 2)⟩,
 ⟨(some 20), none, .lda (.t 10) 0 8⟩,
 ⟨(some 21), none, .call 92 [(.t 18), (.t 19), (.t 20)]⟩,
 ⟨(some 22), none, .nt (.t 21)⟩,
 ⟨(some 23), none, .mov (.t 22)⟩,
 ⟨(some 24), (some (23, false)), .mov (.t 9)⟩,
 ⟨(some 25), (some (23, false)), .mov (.t 1)⟩,
 ⟨(some 26), (some (23, false)), .bin .geq (.t 24) (.t 25)⟩,
 ⟨(some 27), (some (23, false)), .mov (.t 26)⟩,
 ⟨(some 28), (some (27, true)), .lda (.t 10) 0 8⟩,
 ⟨(some 29), (some (27, true)), .bld 0 8 []⟩,
 ⟨(some 30), (some (27, true)), .eqa true 8 (.t 28) (.t 29)⟩,
 ⟨(some 31), (some (23, false)), .pick (.t 27) (.t 30) (.c (.b false))⟩,
 ⟨(some 32), none, .pick (.t 23) (.c (.b true)) (.t 31)⟩])
 (.cond (.t 32)
 (.seq (.reg [⟨(some 8), none, .mov (.c (.b false))⟩])
 .ret)
 .skip))))
 (.reg [⟨(some 33), none, .bin .add (.t 12) (.c (.i .i64 (1)))⟩,
 ⟨(some 12), none, .mov (.t 33)⟩])))))))
 (.seq (.reg [⟨(some 8), none, .mov (.c (.b true))⟩])
 .ret)))⟩
def pf_i_isTable : PF := ⟨3, 35, [.t 6],
 (.seq (.reg [⟨(some 6), none, .mov (.c (.b false))⟩])
 (.seq (.seq (.reg [⟨(some 8), none, .mov (.c (.i .i64 (0)))⟩])
 (.blk 0
 (.loop
 (.seq (.reg [⟨(some 9), none, .bin .lss (.t 8) (.c (.i .i64 (8)))⟩])
 (.seq (.cond (.t 9)
 .skip
 (.exit 0))
 (.seq (.blk 1
 (.seq (.reg [⟨(some 10), none, .mov (.t 8)⟩,
 ⟨(some 7), none, .mov (.t 10)⟩])
 (.seq (.reg [⟨(some 11), none, .mov (.t 0)⟩,
 ⟨(some 12), none, .mov (.t 1)⟩,
 ⟨(some 13), none, .mov (.t 1)⟩,
 ⟨(some 14), none, .mov (.t 2)⟩,
 ⟨(some 15), none, .mov (.t 7)⟩,
 ⟨(some 16), none, .nck (.t 14)⟩,
 ⟨(some 17), none, .idx (.t 16) (.t 15) 8 64⟩,
 ⟨(some 18), none, .call 83 [(.t 11), (.t 12), (.t 13), (.t 17)]⟩,
 ⟨(some 19), none, .nt (.t 18)⟩,
 ⟨(some 20), none, .mov (.t 19)⟩,
 ⟨(some 21), (some (20, false)), .mov (.t 7)⟩,
 ⟨(some 22), (some (20, false)), .mov (.t 1)⟩,
 ⟨(some 23), (some (20, false)), .bin .geq (.t 21) (.t 22)⟩,
 ⟨(some 24), (some (20, false)), .mov (.t 23)⟩,
 ⟨(some 25), (some (24, true)), .mov (.t 2)⟩,
 ⟨(some 26), (some (24, true)), .mov (.t 7)⟩,
 ⟨(some 27), (some (24, true)), .nck (.t 25)⟩,
 ⟨(some 28), (some (24, true)), .idx (.t 27) (.t 26) 8 64⟩,
 ⟨(some 29), (some (24, true)), .lda (.t 28) 0 64⟩,
 ⟨(some 30), (some (24, true)), .bld 0 64 []⟩,
 ⟨(some 31), (some (24, true)), .eqa true 64 (.t 29) (.t 30)⟩,
 ⟨(some 32), (some (20, false)), .pick (.t 24) (.t 31) (.c (.b false))⟩,
 ⟨(some 33), none, .pick (.t 20) (.c (.b true)) (.t 32)⟩])
 (.cond (.t 33)
 (.seq (.reg [⟨(some 6), none, .mov (.c (.b false))⟩])
 .ret)
 .skip))))
 (.reg [⟨(some 34), none, .bin .add (.t 8) (.c (.i .i64 (1)))⟩,
 ⟨(some 8), none, .mov (.t 34)⟩])))))))
 (.seq (.reg [⟨(some 6), none, .mov (.c (.b true))⟩])
 .ret)))⟩
def pf_i_Algebra_isShaped : PF := ⟨1, 30, [.t 2],
 (.seq (.reg [⟨(some 2), none, .mov (.c (.b false))⟩])
 (.seq (.drw [0, 1, 3, 7, 0, 16, 48, 112, 0, 256, 768, 1792, 4095, 8191, 16383, 32767, 65535, 131071, 16383, 278527, 802815, 1851391, 16383, 4210687, 12599295, 33554431, 67108863, 134217727]
 []
 [(0, ⟨(some 3), none, .mov (.t 0)⟩),
 (1, ⟨(some 4), none, .nck (.t 3)⟩),
 (2, ⟨(some 5), none, .add (.t 4) 0⟩),
 (3, ⟨(some 6), none, .ld1 (.t 5)⟩),
 (4, ⟨(some 7), none, .mov (.t 0)⟩),
 (5, ⟨(some 8), none, .nck (.t 7)⟩),
 (6, ⟨(some 9), none, .add (.t 8) 1⟩),
 (7, ⟨(some 10), none, .ld1 (.t 9)⟩),
 (8, ⟨(some 11), none, .mov (.t 0)⟩),
 (9, ⟨(some 12), none, .nck (.t 11)⟩),
 (10, ⟨(some 13), none, .add (.t 12) 2⟩),
 (11, ⟨(some 14), none, .lda (.t 13) 0 8⟩),
 (12, ⟨(some 15), none, .call 92 [(.t 6), (.t 10), (.t 14)]⟩),
 (13, ⟨(some 16), none, .mov (.t 15)⟩),
 (14, ⟨(some 17), (some (16, true)), .mov (.t 0)⟩),
 (15, ⟨(some 18), (some (16, true)), .nck (.t 17)⟩),
 (16, ⟨(some 19), (some (16, true)), .add (.t 18) 0⟩),
 (17, ⟨(some 20), (some (16, true)), .ld1 (.t 19)⟩),
 (18, ⟨(some 21), (some (16, true)), .mov (.t 0)⟩),
 (19, ⟨(some 22), (some (16, true)), .nck (.t 21)⟩),
 (20, ⟨(some 23), (some (16, true)), .add (.t 22) 1⟩),
 (21, ⟨(some 24), (some (16, true)), .ld1 (.t 23)⟩),
 (22, ⟨(some 25), (some (16, true)), .mov (.t 0)⟩),
 (23, ⟨(some 26), (some (16, true)), .nck (.t 25)⟩),
 (24, ⟨(some 27), (some (16, true)), .add (.t 26) 10⟩)]
 []
 [(25, ⟨(some 28), (some (16, true)), .call 102 [(.t 20), (.t 24), (.t 27)]⟩),
 (26, ⟨(some 29), none, .pick (.t 16) (.t 28) (.c (.b false))⟩),
 (27, ⟨(some 2), none, .mov (.t 29)⟩)])
 .ret))⟩
def pf_i_Coalgebra_field : PF := ⟨1, 12, [.c 2 2 2],
 (.seq (.reg [⟨(some 2), none, .alo (.by 2 2)⟩])
 (.seq (.drw [0, 1, 3, 7, 0, 16, 48, 112, 255, 511]
 []
 [(0, ⟨(some 3), none, .mov (.t 0)⟩),
 (1, ⟨(some 4), none, .nck (.t 3)⟩),
 (2, ⟨(some 5), none, .add (.t 4) 0⟩),
 (3, ⟨(some 6), none, .ld1 (.t 5)⟩),
 (4, ⟨(some 7), none, .mov (.t 0)⟩),
 (5, ⟨(some 8), none, .nck (.t 7)⟩),
 (6, ⟨(some 9), none, .add (.t 8) 1⟩),
 (7, ⟨(some 10), none, .ld1 (.t 9)⟩)]
 []
 [(8, ⟨(some 11), none, .bld 2 2 [(0, 1, (.t 6)), (1, 1, (.t 10))]⟩),
 (9, ⟨none, none, .sta (.t 2) (.t 11) 2⟩)])
 .ret))⟩
def pf_i_Coalgebra_isFault : PF := ⟨5, 82, [.t 10],
 (.seq (.reg [⟨(some 10), none, .mov (.c (.b false))⟩])
 (.seq (.reg [⟨(some 15), none, .mov (.t 0)⟩,
 ⟨(some 16), none, .call 117 [(.t 15)]⟩,
 ⟨(some 11), none, .alo (.by 2 2)⟩,
 ⟨none, none, .sta (.t 11) (.t 16) 2⟩,
 ⟨(some 12), none, .mov (.c (.i .i64 (0)))⟩,
 ⟨(some 13), none, .mov (.c (.i .i64 (0)))⟩])
 (.seq (.seq (.reg [⟨(some 17), none, .add (.t 11) 1⟩,
 ⟨(some 18), none, .ld1 (.t 17)⟩,
 ⟨(some 19), none, .mov (.c (.i .i64 (0)))⟩])
 (.blk 0
 (.loop
 (.seq (.reg [⟨(some 20), none, .bin .lss (.t 19) (.t 18)⟩])
 (.seq (.cond (.t 20)
 .skip
 (.exit 0))
 (.seq (.blk 1
 (.seq (.reg [⟨(some 21), none, .mov (.t 19)⟩,
 ⟨(some 14), none, .mov (.t 21)⟩])
 (.seq (.drw [0, 0, 0, 0, 0, 2, 34, 102, 238, 510, 1022, 2046, 0, 0, 0, 0, 4096, 69632, 208896, 487424, 1044480, 2093056, 4190208, 8388606, 16777215, 33554431]
 []
 [(0, ⟨(some 22), none, .mov (.t 12)⟩),
 (1, ⟨(some 23), none, .mov (.t 0)⟩),
 (2, ⟨(some 24), none, .mov (.t 1)⟩),
 (3, ⟨(some 25), none, .mov (.t 14)⟩),
 (4, ⟨(some 26), none, .mov (.t 4)⟩),
 (5, ⟨(some 27), none, .nck (.t 23)⟩),
 (6, ⟨(some 28), none, .add (.t 27) 10⟩),
 (7, ⟨(some 29), none, .idx (.t 28) (.t 24) 8 64⟩),
 (8, ⟨(some 30), none, .idx (.t 29) (.t 25) 8 8⟩),
 (9, ⟨(some 31), none, .idx (.t 30) (.t 26) 8 1⟩),
 (10, ⟨(some 32), none, .ld8 (.t 31)⟩),
 (11, ⟨(some 33), none, .cvt .i64 (.t 32)⟩),
 (12, ⟨(some 34), none, .mov (.t 0)⟩),
 (13, ⟨(some 35), none, .mov (.t 14)⟩),
 (14, ⟨(some 36), none, .mov (.t 2)⟩),
 (15, ⟨(some 37), none, .mov (.t 3)⟩),
 (16, ⟨(some 38), none, .nck (.t 34)⟩),
 (17, ⟨(some 39), none, .add (.t 38) 10⟩),
 (18, ⟨(some 40), none, .idx (.t 39) (.t 35) 8 64⟩),
 (19, ⟨(some 41), none, .idx (.t 40) (.t 36) 8 8⟩),
 (20, ⟨(some 42), none, .idx (.t 41) (.t 37) 8 1⟩),
 (21, ⟨(some 43), none, .ld8 (.t 42)⟩),
 (22, ⟨(some 44), none, .cvt .i64 (.t 43)⟩),
 (23, ⟨(some 45), none, .bin .mul (.t 33) (.t 44)⟩)]
 []
 [(24, ⟨(some 46), none, .bin .add (.t 22) (.t 45)⟩),
 (25, ⟨(some 12), none, .mov (.t 46)⟩)])
 (.drw [0, 0, 0, 0, 0, 2, 34, 102, 238, 510, 1022, 2046, 0, 0, 0, 0, 4096, 69632, 208896, 487424, 1044480, 2093056, 4190208, 8388606, 16777215, 33554431]
 []
 [(0, ⟨(some 47), none, .mov (.t 13)⟩),
 (1, ⟨(some 48), none, .mov (.t 0)⟩),
 (2, ⟨(some 49), none, .mov (.t 1)⟩),
 (3, ⟨(some 50), none, .mov (.t 2)⟩),
 (4, ⟨(some 51), none, .mov (.t 14)⟩),
 (5, ⟨(some 52), none, .nck (.t 48)⟩),
 (6, ⟨(some 53), none, .add (.t 52) 10⟩),
 (7, ⟨(some 54), none, .idx (.t 53) (.t 49) 8 64⟩),
 (8, ⟨(some 55), none, .idx (.t 54) (.t 50) 8 8⟩),
 (9, ⟨(some 56), none, .idx (.t 55) (.t 51) 8 1⟩),
 (10, ⟨(some 57), none, .ld8 (.t 56)⟩),
 (11, ⟨(some 58), none, .cvt .i64 (.t 57)⟩),
 (12, ⟨(some 59), none, .mov (.t 0)⟩),
 (13, ⟨(some 60), none, .mov (.t 14)⟩),
 (14, ⟨(some 61), none, .mov (.t 3)⟩),
 (15, ⟨(some 62), none, .mov (.t 4)⟩),
 (16, ⟨(some 63), none, .nck (.t 59)⟩),
 (17, ⟨(some 64), none, .add (.t 63) 10⟩),
 (18, ⟨(some 65), none, .idx (.t 64) (.t 60) 8 64⟩),
 (19, ⟨(some 66), none, .idx (.t 65) (.t 61) 8 8⟩),
 (20, ⟨(some 67), none, .idx (.t 66) (.t 62) 8 1⟩),
 (21, ⟨(some 68), none, .ld8 (.t 67)⟩),
 (22, ⟨(some 69), none, .cvt .i64 (.t 68)⟩),
 (23, ⟨(some 70), none, .bin .mul (.t 58) (.t 69)⟩)]
 []
 [(24, ⟨(some 71), none, .bin .add (.t 47) (.t 70)⟩),
 (25, ⟨(some 13), none, .mov (.t 71)⟩)]))))
 (.reg [⟨(some 72), none, .bin .add (.t 19) (.c (.i .i64 (1)))⟩,
 ⟨(some 19), none, .mov (.t 72)⟩])))))))
 (.seq (.drw [0, 0, 2, 7, 0, 0, 32, 112, 255, 511]
 []
 [(0, ⟨(some 73), none, .mov (.t 12)⟩),
 (1, ⟨(some 74), none, .add (.t 11) 0⟩),
 (2, ⟨(some 75), none, .ld1 (.t 74)⟩),
 (3, ⟨(some 76), none, .bin .rem (.t 73) (.t 75)⟩),
 (4, ⟨(some 77), none, .mov (.t 13)⟩),
 (5, ⟨(some 78), none, .add (.t 11) 0⟩),
 (6, ⟨(some 79), none, .ld1 (.t 78)⟩),
 (7, ⟨(some 80), none, .bin .rem (.t 77) (.t 79)⟩)]
 []
 [(8, ⟨(some 81), none, .bin .neq (.t 76) (.t 80)⟩),
 (9, ⟨(some 10), none, .mov (.t 81)⟩)])
 .ret))))⟩
def pf_i_Coalgebra_fault : PF := ⟨1, 57, [.t 2],
 (.seq (.reg [⟨(some 2), none, .mov (.c .sn)⟩])
 (.seq (.reg [⟨(some 9), none, .mov (.t 0)⟩,
 ⟨(some 10), none, .nck (.t 9)⟩,
 ⟨(some 11), none, .add (.t 10) 1⟩,
 ⟨(some 12), none, .ld1 (.t 11)⟩,
 ⟨(some 3), none, .mov (.t 12)⟩])
 (.seq (.seq (.reg [⟨(some 13), none, .mov (.t 3)⟩,
 ⟨(some 14), none, .mov (.t 3)⟩,
 ⟨(some 15), none, .bin .mul (.t 13) (.t 14)⟩,
 ⟨(some 16), none, .mov (.t 3)⟩,
 ⟨(some 17), none, .bin .mul (.t 15) (.t 16)⟩,
 ⟨(some 18), none, .mov (.t 3)⟩,
 ⟨(some 19), none, .bin .mul (.t 17) (.t 18)⟩,
 ⟨(some 20), none, .mov (.c (.i .i64 (0)))⟩])
 (.blk 0
 (.loop
 (.seq (.reg [⟨(some 21), none, .bin .lss (.t 20) (.t 19)⟩])
 (.seq (.cond (.t 21)
 .skip
 (.exit 0))
 (.seq (.blk 1
 (.seq (.reg [⟨(some 22), none, .mov (.t 20)⟩,
 ⟨(some 4), none, .mov (.t 22)⟩])
 (.seq (.drw [0, 0, 0, 6, 0, 30, 63, 0, 0, 0, 768, 1920, 0, 8064, 0, 0, 49152, 0, 245760, 0, 0, 1572864, 127, 4210687, 13107199, 33554431]
 []
 [(0, ⟨(some 23), none, .mov (.t 4)⟩),
 (1, ⟨(some 24), none, .mov (.t 3)⟩),
 (2, ⟨(some 25), none, .mov (.t 3)⟩),
 (3, ⟨(some 26), none, .bin .mul (.t 24) (.t 25)⟩),
 (4, ⟨(some 27), none, .mov (.t 3)⟩),
 (5, ⟨(some 28), none, .bin .mul (.t 26) (.t 27)⟩),
 (6, ⟨(some 29), none, .bin .quo (.t 23) (.t 28)⟩),
 (7, ⟨(some 30), none, .mov (.t 4)⟩),
 (8, ⟨(some 31), none, .mov (.t 3)⟩),
 (9, ⟨(some 32), none, .mov (.t 3)⟩),
 (10, ⟨(some 33), none, .bin .mul (.t 31) (.t 32)⟩),
 (11, ⟨(some 34), none, .bin .quo (.t 30) (.t 33)⟩),
 (12, ⟨(some 35), none, .mov (.t 3)⟩),
 (13, ⟨(some 36), none, .bin .rem (.t 34) (.t 35)⟩),
 (14, ⟨(some 37), none, .mov (.t 4)⟩),
 (15, ⟨(some 38), none, .mov (.t 3)⟩),
 (16, ⟨(some 39), none, .bin .quo (.t 37) (.t 38)⟩),
 (17, ⟨(some 40), none, .mov (.t 3)⟩),
 (18, ⟨(some 41), none, .bin .rem (.t 39) (.t 40)⟩),
 (19, ⟨(some 42), none, .mov (.t 4)⟩),
 (20, ⟨(some 43), none, .mov (.t 3)⟩),
 (21, ⟨(some 44), none, .bin .rem (.t 42) (.t 43)⟩),
 (22, ⟨(some 5), none, .mov (.t 29)⟩),
 (23, ⟨(some 6), none, .mov (.t 36)⟩),
 (24, ⟨(some 7), none, .mov (.t 41)⟩)]
 []
 [(25, ⟨(some 8), none, .mov (.t 44)⟩)])
 (.seq (.reg [⟨(some 45), none, .mov (.t 0)⟩,
 ⟨(some 46), none, .mov (.t 5)⟩,
 ⟨(some 47), none, .mov (.t 6)⟩,
 ⟨(some 48), none, .mov (.t 7)⟩,
 ⟨(some 49), none, .mov (.t 8)⟩,
 ⟨(some 50), none, .call 119 [(.t 45), (.t 46), (.t 47), (.t 48), (.t 49)]⟩])
 (.cond (.t 50)
 (.seq (.reg [⟨(some 51), none, .mov (.t 5)⟩,
 ⟨(some 52), none, .mov (.t 6)⟩,
 ⟨(some 53), none, .mov (.t 7)⟩,
 ⟨(some 54), none, .mov (.t 8)⟩,
 ⟨(some 55), none, .bsa [(.t 51), (.t 52), (.t 53), (.t 54)]⟩,
 ⟨(some 2), none, .mov (.t 55)⟩])
 .ret)
 .skip)))))
 (.reg [⟨(some 56), none, .bin .add (.t 20) (.c (.i .i64 (1)))⟩,
 ⟨(some 20), none, .mov (.t 56)⟩])))))))
 (.seq (.reg [⟨(some 2), none, .mov (.c .sn)⟩])
 .ret))))⟩
def pf_i_field_dot : PF := ⟨3, 29, [.t 6],
 (.seq (.reg [⟨(some 3), none, .box (.t 0)⟩,
 ⟨(some 4), none, .box (.t 1)⟩,
 ⟨(some 5), none, .box (.t 2)⟩,
 ⟨(some 6), none, .mov (.c (.i .i64 (0)))⟩])
 (.seq (.reg [⟨(some 7), none, .mov (.c (.i .i64 (0)))⟩])
 (.seq (.seq (.reg [⟨(some 10), none, .lda (.t 4) 0 8⟩,
 ⟨(some 11), none, .mov (.c (.i .i64 (0)))⟩])
 (.blk 0
 (.loop
 (.seq (.reg [⟨(some 12), none, .bin .lss (.t 11) (.c (.i .i64 (8)))⟩])
 (.seq (.cond (.t 12)
 .skip
 (.exit 0))
 (.seq (.blk 1
 (.seq (.reg [⟨(some 13), none, .mov (.t 11)⟩,
 ⟨(some 14), none, .ixb (.t 10) (.t 11) 8⟩,
 ⟨(some 8), none, .mov (.t 13)⟩,
 ⟨(some 9), none, .mov (.t 14)⟩])
 (.reg [⟨(some 15), none, .mov (.t 7)⟩,
 ⟨(some 16), none, .mov (.t 9)⟩,
 ⟨(some 17), none, .cvt .i64 (.t 16)⟩,
 ⟨(some 18), none, .mov (.t 8)⟩,
 ⟨(some 19), none, .idx (.t 5) (.t 18) 8 1⟩,
 ⟨(some 20), none, .ld8 (.t 19)⟩,
 ⟨(some 21), none, .cvt .i64 (.t 20)⟩,
 ⟨(some 22), none, .bin .mul (.t 17) (.t 21)⟩,
 ⟨(some 23), none, .bin .add (.t 15) (.t 22)⟩,
 ⟨(some 7), none, .mov (.t 23)⟩])))
 (.reg [⟨(some 24), none, .bin .add (.t 11) (.c (.i .i64 (1)))⟩,
 ⟨(some 11), none, .mov (.t 24)⟩])))))))
 (.seq (.reg [⟨(some 25), none, .mov (.t 7)⟩,
 ⟨(some 26), none, .add (.t 3) 0⟩,
 ⟨(some 27), none, .ld1 (.t 26)⟩,
 ⟨(some 28), none, .bin .rem (.t 25) (.t 27)⟩,
 ⟨(some 6), none, .mov (.t 28)⟩])
 .ret))))⟩
def pf_i_Coalgebra_isCounit : PF := ⟨1, 68, [.t 2],
 (.seq (.reg [⟨(some 2), none, .mov (.c (.b false))⟩])
 (.seq (.reg [⟨(some 8), none, .mov (.t 0)⟩,
 ⟨(some 9), none, .call 117 [(.t 8)]⟩,
 ⟨(some 3), none, .alo (.by 2 2)⟩,
 ⟨none, none, .sta (.t 3) (.t 9) 2⟩])
 (.seq (.seq (.reg [⟨(some 10), none, .add (.t 3) 1⟩,
 ⟨(some 11), none, .ld1 (.t 10)⟩,
 ⟨(some 12), none, .mov (.c (.i .i64 (0)))⟩])
 (.blk 0
 (.loop
 (.seq (.reg [⟨(some 13), none, .bin .lss (.t 12) (.t 11)⟩])
 (.seq (.cond (.t 13)
 .skip
 (.exit 0))
 (.seq (.blk 1
 (.seq (.reg [⟨(some 14), none, .mov (.t 12)⟩,
 ⟨(some 4), none, .mov (.t 14)⟩])
 (.seq (.reg [⟨(some 15), none, .bld 0 8 []⟩,
 ⟨(some 16), none, .bld 0 8 []⟩,
 ⟨(some 5), none, .alo (.by 0 8)⟩,
 ⟨(some 6), none, .alo (.by 0 8)⟩,
 ⟨none, none, .sta (.t 5) (.t 15) 8⟩,
 ⟨none, none, .sta (.t 6) (.t 16) 8⟩])
 (.seq (.seq (.reg [⟨(some 17), none, .add (.t 3) 1⟩,
 ⟨(some 18), none, .ld1 (.t 17)⟩,
 ⟨(some 19), none, .mov (.c (.i .i64 (0)))⟩])
 (.blk 2
 (.loop
 (.seq (.reg [⟨(some 20), none, .bin .lss (.t 19) (.t 18)⟩])
 (.seq (.cond (.t 20)
 .skip
 (.exit 2))
 (.seq (.blk 3
 (.seq (.reg [⟨(some 21), none, .mov (.t 19)⟩,
 ⟨(some 7), none, .mov (.t 21)⟩])
 (.seq (.drw [0, 0, 0, 2, 10, 30, 62, 126, 0, 0, 0, 256, 2304, 6912, 16128, 32512, 65535]
 []
 [(0, ⟨(some 22), none, .lda (.t 3) 2 2⟩),
 (1, ⟨(some 23), none, .mov (.t 0)⟩),
 (2, ⟨(some 24), none, .mov (.t 7)⟩),
 (3, ⟨(some 25), none, .nck (.t 23)⟩),
 (4, ⟨(some 26), none, .add (.t 25) 2⟩),
 (5, ⟨(some 27), none, .idx (.t 26) (.t 24) 8 1⟩),
 (6, ⟨(some 28), none, .ld8 (.t 27)⟩),
 (7, ⟨(some 29), none, .cvt .i64 (.t 28)⟩),
 (8, ⟨(some 30), none, .mov (.t 0)⟩),
 (9, ⟨(some 31), none, .mov (.t 4)⟩),
 (10, ⟨(some 32), none, .mov (.t 7)⟩),
 (11, ⟨(some 33), none, .nck (.t 30)⟩),
 (12, ⟨(some 34), none, .add (.t 33) 10⟩),
 (13, ⟨(some 35), none, .idx (.t 34) (.t 31) 8 64⟩),
 (14, ⟨(some 36), none, .idx (.t 35) (.t 32) 8 8⟩),
 (15, ⟨(some 37), none, .lda (.t 36) 0 8⟩)]
 []
 [(16, ⟨(some 38), none, .call 71 [(.t 22), (.t 5), (.t 29), (.t 37)]⟩)])
 (.drw [0, 0, 0, 4, 12, 28, 0, 0, 0, 64, 576, 1728, 4032, 8128, 16382, 32766, 65535, 131071]
 []
 [(0, ⟨(some 39), none, .mov (.t 7)⟩),
 (1, ⟨(some 40), none, .lda (.t 3) 2 2⟩),
 (2, ⟨(some 41), none, .mov (.t 0)⟩),
 (3, ⟨(some 42), none, .nck (.t 41)⟩),
 (4, ⟨(some 43), none, .add (.t 42) 2⟩),
 (5, ⟨(some 44), none, .lda (.t 43) 0 8⟩),
 (6, ⟨(some 45), none, .mov (.t 0)⟩),
 (7, ⟨(some 46), none, .mov (.t 4)⟩),
 (8, ⟨(some 47), none, .mov (.t 7)⟩),
 (9, ⟨(some 48), none, .nck (.t 45)⟩),
 (10, ⟨(some 49), none, .add (.t 48) 10⟩),
 (11, ⟨(some 50), none, .idx (.t 49) (.t 46) 8 64⟩),
 (12, ⟨(some 51), none, .idx (.t 50) (.t 47) 8 8⟩),
 (13, ⟨(some 52), none, .lda (.t 51) 0 8⟩),
 (14, ⟨(some 53), none, .call 118 [(.t 40), (.t 44), (.t 52)]⟩),
 (15, ⟨(some 54), none, .cvt .u8 (.t 53)⟩)]
 []
 [(16, ⟨(some 55), none, .idx (.t 6) (.t 39) 8 1⟩),
 (17, ⟨none, none, .st8 (.t 55) (.t 54)⟩)]))))
 (.reg [⟨(some 56), none, .bin .add (.t 19) (.c (.i .i64 (1)))⟩,
 ⟨(some 19), none, .mov (.t 56)⟩])))))))
 (.seq (.drw [0, 0, 2, 7, 15, 31, 31, 95, 255, 511]
 []
 [(0, ⟨(some 57), none, .lda (.t 5) 0 8⟩),
 (1, ⟨(some 58), none, .mov (.t 4)⟩),
 (2, ⟨(some 59), none, .call 61 [(.t 58)]⟩),
 (3, ⟨(some 60), none, .eqa true 8 (.t 57) (.t 59)⟩),
 (4, ⟨(some 61), none, .mov (.t 60)⟩),
 (5, ⟨(some 62), (some (61, false)), .lda (.t 6) 0 8⟩),
 (6, ⟨(some 63), (some (61, false)), .mov (.t 4)⟩),
 (7, ⟨(some 64), (some (61, false)), .call 61 [(.t 63)]⟩)]
 []
 [(8, ⟨(some 65), (some (61, false)), .eqa true 8 (.t 62) (.t 64)⟩),
 (9, ⟨(some 66), none, .pick (.t 61) (.c (.b true)) (.t 65)⟩)])
 (.cond (.t 66)
 (.seq (.reg [⟨(some 2), none, .mov (.c (.b false))⟩])
 .ret)
 .skip))))))
 (.reg [⟨(some 67), none, .bin .add (.t 12) (.c (.i .i64 (1)))⟩,
 ⟨(some 12), none, .mov (.t 67)⟩])))))))
 (.seq (.reg [⟨(some 2), none, .mov (.c (.b true))⟩])
 .ret))))⟩
def pf_i_Coalgebra_isShaped : PF := ⟨1, 30, [.t 2],
 (.seq (.reg [⟨(some 2), none, .mov (.c (.b false))⟩])
 (.seq (.drw [0, 1, 3, 7, 0, 16, 48, 112, 0, 256, 768, 1792, 4095, 8191, 16383, 32767, 65535, 131071, 16383, 278527, 802815, 1851391, 16383, 4210687, 12599295, 33554431, 67108863, 134217727]
 []
 [(0, ⟨(some 3), none, .mov (.t 0)⟩),
 (1, ⟨(some 4), none, .nck (.t 3)⟩),
 (2, ⟨(some 5), none, .add (.t 4) 0⟩),
 (3, ⟨(some 6), none, .ld1 (.t 5)⟩),
 (4, ⟨(some 7), none, .mov (.t 0)⟩),
 (5, ⟨(some 8), none, .nck (.t 7)⟩),
 (6, ⟨(some 9), none, .add (.t 8) 1⟩),
 (7, ⟨(some 10), none, .ld1 (.t 9)⟩),
 (8, ⟨(some 11), none, .mov (.t 0)⟩),
 (9, ⟨(some 12), none, .nck (.t 11)⟩),
 (10, ⟨(some 13), none, .add (.t 12) 2⟩),
 (11, ⟨(some 14), none, .lda (.t 13) 0 8⟩),
 (12, ⟨(some 15), none, .call 92 [(.t 6), (.t 10), (.t 14)]⟩),
 (13, ⟨(some 16), none, .mov (.t 15)⟩),
 (14, ⟨(some 17), (some (16, true)), .mov (.t 0)⟩),
 (15, ⟨(some 18), (some (16, true)), .nck (.t 17)⟩),
 (16, ⟨(some 19), (some (16, true)), .add (.t 18) 0⟩),
 (17, ⟨(some 20), (some (16, true)), .ld1 (.t 19)⟩),
 (18, ⟨(some 21), (some (16, true)), .mov (.t 0)⟩),
 (19, ⟨(some 22), (some (16, true)), .nck (.t 21)⟩),
 (20, ⟨(some 23), (some (16, true)), .add (.t 22) 1⟩),
 (21, ⟨(some 24), (some (16, true)), .ld1 (.t 23)⟩),
 (22, ⟨(some 25), (some (16, true)), .mov (.t 0)⟩),
 (23, ⟨(some 26), (some (16, true)), .nck (.t 25)⟩),
 (24, ⟨(some 27), (some (16, true)), .add (.t 26) 10⟩)]
 []
 [(25, ⟨(some 28), (some (16, true)), .call 102 [(.t 20), (.t 24), (.t 27)]⟩),
 (26, ⟨(some 29), none, .pick (.t 16) (.t 28) (.c (.b false))⟩),
 (27, ⟨(some 2), none, .mov (.t 29)⟩)])
 .ret))⟩
def pf_i_Hopf_algebra : PF := ⟨1, 21, [.t 2],
 (.seq (.reg [⟨(some 2), none, .mov (.c .np)⟩])
 (.seq (.drw [0, 1, 3, 7, 0, 16, 48, 112, 0, 256, 768, 1792, 0, 4096, 12288, 28672, 65535, 131071, 262143]
 []
 [(0, ⟨(some 3), none, .mov (.t 0)⟩),
 (1, ⟨(some 4), none, .nck (.t 3)⟩),
 (2, ⟨(some 5), none, .add (.t 4) 0⟩),
 (3, ⟨(some 6), none, .ld1 (.t 5)⟩),
 (4, ⟨(some 7), none, .mov (.t 0)⟩),
 (5, ⟨(some 8), none, .nck (.t 7)⟩),
 (6, ⟨(some 9), none, .add (.t 8) 1⟩),
 (7, ⟨(some 10), none, .ld1 (.t 9)⟩),
 (8, ⟨(some 11), none, .mov (.t 0)⟩),
 (9, ⟨(some 12), none, .nck (.t 11)⟩),
 (10, ⟨(some 13), none, .add (.t 12) 2⟩),
 (11, ⟨(some 14), none, .lda (.t 13) 0 8⟩),
 (12, ⟨(some 15), none, .mov (.t 0)⟩),
 (13, ⟨(some 16), none, .nck (.t 15)⟩),
 (14, ⟨(some 17), none, .add (.t 16) 10⟩),
 (15, ⟨(some 18), none, .lda (.t 17) 0 512⟩)]
 []
 [(16, ⟨(some 19), none, .bld 2 522 [(0, 1, (.t 6)), (1, 1, (.t 10)), (2, 8, (.t 14)), (10, 512, (.t 18))]⟩),
 (17, ⟨(some 20), none, .box (.t 19)⟩),
 (18, ⟨(some 2), none, .mov (.t 20)⟩)])
 .ret))⟩
def pf_i_Hopf_coalgebra : PF := ⟨1, 21, [.t 2],
 (.seq (.reg [⟨(some 2), none, .mov (.c .np)⟩])
 (.seq (.drw [0, 1, 3, 7, 0, 16, 48, 112, 0, 256, 768, 1792, 0, 4096, 12288, 28672, 65535, 131071, 262143]
 []
 [(0, ⟨(some 3), none, .mov (.t 0)⟩),
 (1, ⟨(some 4), none, .nck (.t 3)⟩),
 (2, ⟨(some 5), none, .add (.t 4) 0⟩),
 (3, ⟨(some 6), none, .ld1 (.t 5)⟩),
 (4, ⟨(some 7), none, .mov (.t 0)⟩),
 (5, ⟨(some 8), none, .nck (.t 7)⟩),
 (6, ⟨(some 9), none, .add (.t 8) 1⟩),
 (7, ⟨(some 10), none, .ld1 (.t 9)⟩),
 (8, ⟨(some 11), none, .mov (.t 0)⟩),
 (9, ⟨(some 12), none, .nck (.t 11)⟩),
 (10, ⟨(some 13), none, .add (.t 12) 522⟩),
 (11, ⟨(some 14), none, .lda (.t 13) 0 8⟩),
 (12, ⟨(some 15), none, .mov (.t 0)⟩),
 (13, ⟨(some 16), none, .nck (.t 15)⟩),
 (14, ⟨(some 17), none, .add (.t 16) 530⟩),
 (15, ⟨(some 18), none, .lda (.t 17) 0 512⟩)]
 []
 [(16, ⟨(some 19), none, .bld 2 522 [(0, 1, (.t 6)), (1, 1, (.t 10)), (2, 8, (.t 14)), (10, 512, (.t 18))]⟩),
 (17, ⟨(some 20), none, .box (.t 19)⟩),
 (18, ⟨(some 2), none, .mov (.t 20)⟩)])
 .ret))⟩
def pf_i_Hopf_isShaped : PF := ⟨1, 29, [.t 2],
 (.seq (.reg [⟨(some 2), none, .mov (.c (.b false))⟩])
 (.seq (.drw [0, 1, 3, 7, 15, 31, 63, 127, 255, 511, 1023, 2047, 4095, 511, 8703, 25087, 57855, 511, 131583, 393727, 918015, 511, 2097663, 6291967, 16777215, 33554431, 67108863]
 [(0, ⟨(some 3), none, .mov (.t 0)⟩),
 (1, ⟨(some 4), none, .call 36 [(.t 3)]⟩),
 (2, ⟨(some 5), none, .call 81 [(.t 4)]⟩),
 (3, ⟨(some 6), none, .mov (.t 5)⟩),
 (4, ⟨(some 7), (some (6, true)), .mov (.t 0)⟩),
 (5, ⟨(some 8), (some (6, true)), .call 39 [(.t 7)]⟩),
 (6, ⟨(some 9), (some (6, true)), .call 82 [(.t 8)]⟩),
 (7, ⟨(some 10), none, .pick (.t 6) (.t 9) (.c (.b false))⟩),
 (8, ⟨(some 11), none, .mov (.t 10)⟩)]
 [(9, ⟨(some 12), (some (11, true)), .mov (.t 0)⟩),
 (10, ⟨(some 13), (some (11, true)), .nck (.t 12)⟩),
 (11, ⟨(some 14), (some (11, true)), .add (.t 13) 0⟩),
 (12, ⟨(some 15), (some (11, true)), .ld1 (.t 14)⟩),
 (13, ⟨(some 16), (some (11, true)), .mov (.t 0)⟩),
 (14, ⟨(some 17), (some (11, true)), .nck (.t 16)⟩),
 (15, ⟨(some 18), (some (11, true)), .add (.t 17) 1⟩),
 (16, ⟨(some 19), (some (11, true)), .ld1 (.t 18)⟩),
 (17, ⟨(some 20), (some (11, true)), .mov (.t 0)⟩),
 (18, ⟨(some 21), (some (11, true)), .nck (.t 20)⟩),
 (19, ⟨(some 22), (some (11, true)), .add (.t 21) 1⟩),
 (20, ⟨(some 23), (some (11, true)), .ld1 (.t 22)⟩),
 (21, ⟨(some 24), (some (11, true)), .mov (.t 0)⟩),
 (22, ⟨(some 25), (some (11, true)), .nck (.t 24)⟩),
 (23, ⟨(some 26), (some (11, true)), .add (.t 25) 1042⟩)]
 []
 [(24, ⟨(some 27), (some (11, true)), .call 83 [(.t 15), (.t 19), (.t 23), (.t 26)]⟩),
 (25, ⟨(some 28), none, .pick (.t 11) (.t 27) (.c (.b false))⟩),
 (26, ⟨(some 2), none, .mov (.t 28)⟩)])
 .ret))⟩
def pf_i_IsAlgebra : PF := ⟨1, 31, [.t 2],
 (.seq (.reg [⟨(some 1), none, .box (.t 0)⟩,
 ⟨(some 2), none, .mov (.c (.b false))⟩])
 (.seq (.seq (.reg [⟨(some 5), none, .call 81 [(.t 1)]⟩,
 ⟨(some 6), none, .nt (.t 5)⟩])
 (.cond (.t 6)
 (.seq (.reg [⟨(some 2), none, .mov (.c (.b false))⟩])
 .ret)
 .skip))
 (.seq (.seq (.reg [⟨(some 7), none, .add (.t 1) 1⟩,
 ⟨(some 8), none, .ld1 (.t 7)⟩,
 ⟨(some 9), none, .mov (.c (.i .i64 (0)))⟩])
 (.blk 0
 (.loop
 (.seq (.reg [⟨(some 10), none, .bin .lss (.t 9) (.t 8)⟩])
 (.seq (.cond (.t 10)
 .skip
 (.exit 0))
 (.seq (.blk 1
 (.seq (.reg [⟨(some 11), none, .mov (.t 9)⟩,
 ⟨(some 3), none, .mov (.t 11)⟩])
 (.seq (.reg [⟨(some 12), none, .mov (.t 3)⟩,
 ⟨(some 13), none, .call 61 [(.t 12)]⟩,
 ⟨(some 4), none, .alo (.by 0 8)⟩,
 ⟨none, none, .sta (.t 4) (.t 13) 8⟩])
 (.seq (.drw [0, 1, 0, 7, 0, 31, 63, 127, 127, 383, 1023, 127, 4095, 8191]
 []
 [(0, ⟨(some 14), none, .add (.t 1) 2⟩),
 (1, ⟨(some 15), none, .lda (.t 14) 0 8⟩),
 (2, ⟨(some 16), none, .lda (.t 4) 0 8⟩),
 (3, ⟨(some 17), none, .call 104 [(.t 1), (.t 15), (.t 16)]⟩),
 (4, ⟨(some 18), none, .lda (.t 4) 0 8⟩),
 (5, ⟨(some 19), none, .eqa true 8 (.t 17) (.t 18)⟩),
 (6, ⟨(some 20), none, .mov (.t 19)⟩),
 (7, ⟨(some 21), (some (20, false)), .lda (.t 4) 0 8⟩),
 (8, ⟨(some 22), (some (20, false)), .add (.t 1) 2⟩),
 (9, ⟨(some 23), (some (20, false)), .lda (.t 22) 0 8⟩),
 (10, ⟨(some 24), (some (20, false)), .call 104 [(.t 1), (.t 21), (.t 23)]⟩),
 (11, ⟨(some 25), (some (20, false)), .lda (.t 4) 0 8⟩)]
 []
 [(12, ⟨(some 26), (some (20, false)), .eqa true 8 (.t 24) (.t 25)⟩),
 (13, ⟨(some 27), none, .pick (.t 20) (.c (.b true)) (.t 26)⟩)])
 (.cond (.t 27)
 (.seq (.reg [⟨(some 2), none, .mov (.c (.b false))⟩])
 .ret)
 .skip)))))
 (.reg [⟨(some 28), none, .bin .add (.t 9) (.c (.i .i64 (1)))⟩,
 ⟨(some 9), none, .mov (.t 28)⟩])))))))
 (.seq (.reg [⟨(some 29), none, .call 105 [(.t 1)]⟩,
 ⟨(some 30), none, .eqn false (.t 29)⟩,
 ⟨(some 2), none, .mov (.t 30)⟩])
 .ret))))⟩
def pf_i_Hopf_fails_1 : PF := ⟨1, 7, [.t 1],
 (.seq (.reg [⟨(some 1), none, .mov (.c (.b false))⟩])
 (.seq (.reg [⟨(some 2), none, .ld1 (.t 0)⟩,
 ⟨(some 3), none, .call 36 [(.t 2)]⟩,
 ⟨(some 4), none, .nck (.t 3)⟩,
 ⟨(some 5), none, .lda (.t 4) 2 522⟩,
 ⟨(some 6), none, .call 103 [(.t 5)]⟩,
 ⟨(some 1), none, .mov (.t 6)⟩])
 .ret))⟩
def pf_i_IsCoalgebra : PF := ⟨1, 11, [.t 2],
 (.seq (.reg [⟨(some 1), none, .box (.t 0)⟩,
 ⟨(some 2), none, .mov (.c (.b false))⟩])
 (.seq (.reg [⟨(some 3), none, .call 82 [(.t 1)]⟩,
 ⟨(some 4), none, .mov (.t 3)⟩,
 ⟨(some 5), (some (4, true)), .call 107 [(.t 1)]⟩,
 ⟨(some 6), none, .pick (.t 4) (.t 5) (.c (.b false))⟩,
 ⟨(some 7), none, .mov (.t 6)⟩,
 ⟨(some 8), (some (7, true)), .call 108 [(.t 1)]⟩,
 ⟨(some 9), (some (7, true)), .eqn false (.t 8)⟩,
 ⟨(some 10), none, .pick (.t 7) (.t 9) (.c (.b false))⟩,
 ⟨(some 2), none, .mov (.t 10)⟩])
 .ret))⟩
def pf_i_Hopf_fails_2 : PF := ⟨1, 7, [.t 1],
 (.seq (.reg [⟨(some 1), none, .mov (.c (.b false))⟩])
 (.seq (.reg [⟨(some 2), none, .ld1 (.t 0)⟩,
 ⟨(some 3), none, .call 39 [(.t 2)]⟩,
 ⟨(some 4), none, .nck (.t 3)⟩,
 ⟨(some 5), none, .lda (.t 4) 2 522⟩,
 ⟨(some 6), none, .call 106 [(.t 5)]⟩,
 ⟨(some 1), none, .mov (.t 6)⟩])
 .ret))⟩
def pf_i_Hopf_field : PF := ⟨1, 12, [.c 2 2 2],
 (.seq (.reg [⟨(some 2), none, .alo (.by 2 2)⟩])
 (.seq (.drw [0, 1, 3, 7, 0, 16, 48, 112, 255, 511]
 []
 [(0, ⟨(some 3), none, .mov (.t 0)⟩),
 (1, ⟨(some 4), none, .nck (.t 3)⟩),
 (2, ⟨(some 5), none, .add (.t 4) 0⟩),
 (3, ⟨(some 6), none, .ld1 (.t 5)⟩),
 (4, ⟨(some 7), none, .mov (.t 0)⟩),
 (5, ⟨(some 8), none, .nck (.t 7)⟩),
 (6, ⟨(some 9), none, .add (.t 8) 1⟩),
 (7, ⟨(some 10), none, .ld1 (.t 9)⟩)]
 []
 [(8, ⟨(some 11), none, .bld 2 2 [(0, 1, (.t 6)), (1, 1, (.t 10))]⟩),
 (9, ⟨none, none, .sta (.t 2) (.t 11) 2⟩)])
 .ret))⟩
def pf_i_Hopf_coproduct : PF := ⟨2, 44, [.c 4 0 64],
 (.seq (.reg [⟨(some 3), none, .box (.t 1)⟩,
 ⟨(some 4), none, .alo (.by 0 64)⟩])
 (.seq (.reg [⟨(some 10), none, .mov (.t 0)⟩,
 ⟨(some 11), none, .call 32 [(.t 10)]⟩,
 ⟨(some 12), none, .bld 0 64 []⟩,
 ⟨(some 5), none, .alo (.by 2 2)⟩,
 ⟨(some 6), none, .alo (.by 0 64)⟩,
 ⟨none, none, .sta (.t 5) (.t 11) 2⟩,
 ⟨none, none, .sta (.t 6) (.t 12) 64⟩])
 (.seq (.seq (.reg [⟨(some 13), none, .lda (.t 3) 0 8⟩,
 ⟨(some 14), none, .mov (.c (.i .i64 (0)))⟩])
 (.blk 0
 (.loop
 (.seq (.reg [⟨(some 15), none, .bin .lss (.t 14) (.c (.i .i64 (8)))⟩])
 (.seq (.cond (.t 15)
 .skip
 (.exit 0))
 (.seq (.blk 1
 (.seq (.reg [⟨(some 16), none, .mov (.t 14)⟩,
 ⟨(some 17), none, .ixb (.t 13) (.t 14) 8⟩,
 ⟨(some 7), none, .mov (.t 16)⟩,
 ⟨(some 8), none, .mov (.t 17)⟩])
 (.seq (.reg [⟨(some 9), none, .mov (.c (.i .i64 (0)))⟩])
 (.blk 2
 (.loop
 (.seq (.seq (.reg [⟨(some 18), none, .mov (.t 8)⟩,
 ⟨(some 19), none, .bin .neq (.t 18) (.c (.u 0))⟩,
 ⟨(some 20), none, .mov (.t 19)⟩,
 ⟨(some 21), (some (20, true)), .mov (.t 9)⟩,
 ⟨(some 22), (some (20, true)), .add (.t 5) 1⟩,
 ⟨(some 23), (some (20, true)), .ld1 (.t 22)⟩,
 ⟨(some 24), (some (20, true)), .bin .lss (.t 21) (.t 23)⟩,
 ⟨(some 25), none, .pick (.t 20) (.t 24) (.c (.b false))⟩])
 (.cond (.t 25)
 .skip
 (.exit 2)))
 (.seq (.blk 3
 (.drw [0, 0, 2, 0, 8, 0, 0, 0, 32, 288, 864, 2016, 4064, 8191]
 []
 [(0, ⟨(some 28), none, .lda (.t 5) 2 2⟩),
 (1, ⟨(some 29), none, .mov (.t 9)⟩),
 (2, ⟨(some 30), none, .idx (.t 6) (.t 29) 8 8⟩),
 (3, ⟨(some 31), none, .mov (.t 8)⟩),
 (4, ⟨(some 32), none, .cvt .i64 (.t 31)⟩),
 (5, ⟨(some 33), none, .mov (.t 0)⟩),
 (6, ⟨(some 34), none, .mov (.t 7)⟩),
 (7, ⟨(some 35), none, .mov (.t 9)⟩),
 (8, ⟨(some 36), none, .nck (.t 33)⟩),
 (9, ⟨(some 37), none, .add (.t 36) 530⟩),
 (10, ⟨(some 38), none, .idx (.t 37) (.t 34) 8 64⟩),
 (11, ⟨(some 39), none, .idx (.t 38) (.t 35) 8 8⟩),
 (12, ⟨(some 40), none, .lda (.t 39) 0 8⟩)]
 []
 [(13, ⟨(some 41), none, .call 71 [(.t 28), (.t 30), (.t 32), (.t 40)]⟩)]))
 (.reg [⟨(some 26), none, .mov (.t 9)⟩,
 ⟨(some 27), none, .bin .add (.t 26) (.c (.i .i64 (1)))⟩,
 ⟨(some 9), none, .mov (.t 27)⟩]))))))))
 (.reg [⟨(some 42), none, .bin .add (.t 14) (.c (.i .i64 (1)))⟩,
 ⟨(some 14), none, .mov (.t 42)⟩])))))))
 (.seq (.reg [⟨(some 43), none, .lda (.t 6) 0 64⟩,
 ⟨none, none, .sta (.t 4) (.t 43) 64⟩])
 .ret))))⟩
def pf_i_Hopf_tensor_1_1 : PF := ⟨9, 48, [],
 (.seq (.drw [0, 0, 0, 1, 9, 27, 63, 127, 0]
 []
 [(0, ⟨(some 14), none, .ld1 (.t 3)⟩),
 (1, ⟨(some 15), none, .ld1 (.t 4)⟩),
 (2, ⟨(some 16), none, .mov (.t 0)⟩),
 (3, ⟨(some 17), none, .nck (.t 14)⟩),
 (4, ⟨(some 18), none, .add (.t 17) 10⟩),
 (5, ⟨(some 19), none, .idx (.t 18) (.t 15) 8 64⟩),
 (6, ⟨(some 20), none, .idx (.t 19) (.t 16) 8 8⟩),
 (7, ⟨(some 21), none, .lda (.t 20) 0 8⟩),
 (8, ⟨(some 22), none, .mov (.c (.i .i64 (0)))⟩)]
 []
 [])
 (.blk 0
 (.loop
 (.seq (.reg [⟨(some 23), none, .bin .lss (.t 22) (.c (.i .i64 (8)))⟩])
 (.seq (.cond (.t 23)
 .skip
 (.exit 0))
 (.seq (.blk 1
 (.seq (.reg [⟨(some 24), none, .mov (.t 22)⟩,
 ⟨(some 25), none, .ixb (.t 21) (.t 22) 8⟩,
 ⟨(some 12), none, .mov (.t 24)⟩,
 ⟨(some 13), none, .mov (.t 25)⟩])
 (.drw [0, 0, 2, 0, 0, 24, 0, 64, 248, 0, 512, 2040, 0, 0, 0, 4096, 36864, 110592, 258048, 520192, 1048575]
 []
 [(0, ⟨(some 26), none, .lda (.t 5) 2 2⟩),
 (1, ⟨(some 27), none, .mov (.t 12)⟩),
 (2, ⟨(some 28), none, .idx (.t 6) (.t 27) 8 8⟩),
 (3, ⟨(some 29), none, .ld1 (.t 7)⟩),
 (4, ⟨(some 30), none, .mov (.t 2)⟩),
 (5, ⟨(some 31), none, .bin .mul (.t 29) (.t 30)⟩),
 (6, ⟨(some 32), none, .add (.t 5) 0⟩),
 (7, ⟨(some 33), none, .ld1 (.t 32)⟩),
 (8, ⟨(some 34), none, .bin .rem (.t 31) (.t 33)⟩),
 (9, ⟨(some 35), none, .mov (.t 13)⟩),
 (10, ⟨(some 36), none, .cvt .i64 (.t 35)⟩),
 (11, ⟨(some 37), none, .bin .mul (.t 34) (.t 36)⟩),
 (12, ⟨(some 38), none, .ld1 (.t 3)⟩),
 (13, ⟨(some 39), none, .ld1 (.t 8)⟩),
 (14, ⟨(some 40), none, .mov (.t 1)⟩),
 (15, ⟨(some 41), none, .nck (.t 38)⟩),
 (16, ⟨(some 42), none, .add (.t 41) 10⟩),
 (17, ⟨(some 43), none, .idx (.t 42) (.t 39) 8 64⟩),
 (18, ⟨(some 44), none, .idx (.t 43) (.t 40) 8 8⟩),
 (19, ⟨(some 45), none, .lda (.t 44) 0 8⟩)]
 []
 [(20, ⟨(some 46), none, .call 71 [(.t 26), (.t 28), (.t 37), (.t 45)]⟩)])))
 (.reg [⟨(some 47), none, .bin .add (.t 22) (.c (.i .i64 (1)))⟩,
 ⟨(some 22), none, .mov (.t 47)⟩])))))))⟩
def pf_i_pairs : PF := ⟨2, 29, [],
 (.seq (.reg [⟨(some 7), none, .mov (.c (.i .i64 (0)))⟩])
 (.blk 0
 (.loop
 (.seq (.reg [⟨(some 8), none, .bin .lss (.t 7) (.c (.i .i64 (8)))⟩])
 (.seq (.cond (.t 8)
 .skip
 (.exit 0))
 (.seq (.blk 1
 (.seq (.reg [⟨(some 9), none, .mov (.t 7)⟩,
 ⟨(some 4), none, .mov (.t 9)⟩])
 (.seq (.reg [⟨(some 10), none, .mov (.t 0)⟩,
 ⟨(some 11), none, .mov (.t 4)⟩,
 ⟨(some 12), none, .nck (.t 10)⟩,
 ⟨(some 13), none, .idx (.t 12) (.t 11) 8 8⟩,
 ⟨(some 14), none, .lda (.t 13) 0 8⟩,
 ⟨(some 15), none, .mov (.c (.i .i64 (0)))⟩])
 (.blk 2
 (.loop
 (.seq (.reg [⟨(some 16), none, .bin .lss (.t 15) (.c (.i .i64 (8)))⟩])
 (.seq (.cond (.t 16)
 .skip
 (.exit 2))
 (.seq (.blk 3
 (.seq (.reg [⟨(some 17), none, .mov (.t 15)⟩,
 ⟨(some 18), none, .ixb (.t 14) (.t 15) 8⟩,
 ⟨(some 5), none, .mov (.t 17)⟩,
 ⟨(some 6), none, .mov (.t 18)⟩])
 (.seq (.reg [⟨(some 19), none, .mov (.t 6)⟩,
 ⟨(some 20), none, .bin .neq (.t 19) (.c (.u 0))⟩])
 (.cond (.t 20)
 (.reg [⟨(some 21), none, .mov (.t 1)⟩,
 ⟨(some 22), none, .mov (.t 4)⟩,
 ⟨(some 23), none, .mov (.t 5)⟩,
 ⟨(some 24), none, .mov (.t 6)⟩,
 ⟨(some 25), none, .cvt .i64 (.t 24)⟩,
 ⟨(some 26), none, .calv (.t 21) [(.t 22), (.t 23), (.t 25)]⟩])
 .skip))))
 (.reg [⟨(some 27), none, .bin .add (.t 15) (.c (.i .i64 (1)))⟩,
 ⟨(some 15), none, .mov (.t 27)⟩])))))))))
 (.reg [⟨(some 28), none, .bin .add (.t 7) (.c (.i .i64 (1)))⟩,
 ⟨(some 7), none, .mov (.t 28)⟩])))))))⟩
def pf_i_Hopf_tensor_1 : PF := ⟨7, 13, [],
 (.seq (.reg [⟨(some 7), none, .box (.t 0)⟩,
 ⟨(some 8), none, .box (.t 1)⟩,
 ⟨(some 9), none, .box (.t 2)⟩])
 (.reg [⟨(some 10), none, .ld1 (.t 3)⟩,
 ⟨(some 11), none, .mkf 122 [] [(.t 4), (.t 7), (.t 5), (.t 6), (.t 9), (.t 8)]⟩,
 ⟨(some 12), none, .call 60 [(.t 10), (.t 11)]⟩]))⟩
def pf_i_Hopf_tensor : PF := ⟨3, 16, [.c 6 0 64],
 (.seq (.reg [⟨(some 3), none, .box (.t 0)⟩,
 ⟨(some 5), none, .box (.t 2)⟩,
 ⟨(some 6), none, .alo (.by 0 64)⟩])
 (.seq (.reg [⟨(some 9), none, .ld1 (.t 3)⟩,
 ⟨(some 10), none, .call 32 [(.t 9)]⟩,
 ⟨(some 11), none, .bld 0 64 []⟩,
 ⟨(some 7), none, .alo (.by 2 2)⟩,
 ⟨(some 8), none, .alo (.by 0 64)⟩,
 ⟨none, none, .sta (.t 7) (.t 10) 2⟩,
 ⟨none, none, .sta (.t 8) (.t 11) 64⟩])
 (.seq (.reg [⟨(some 12), none, .mov (.t 1)⟩,
 ⟨(some 13), none, .mkf 120 [] [(.t 5), (.t 3), (.t 7), (.t 8)]⟩,
 ⟨(some 14), none, .call 60 [(.t 12), (.t 13)]⟩])
 (.seq (.reg [⟨(some 15), none, .lda (.t 8) 0 64⟩,
 ⟨none, none, .sta (.t 6) (.t 15) 64⟩])
 .ret))))⟩
def pf_i_Hopf_axiom3 : PF := ⟨1, 43, [.t 2],
 (.seq (.reg [⟨(some 2), none, .mov (.c (.b false))⟩])
 (.seq (.reg [⟨(some 6), none, .mov (.t 0)⟩,
 ⟨(some 7), none, .nck (.t 6)⟩,
 ⟨(some 8), none, .add (.t 7) 1⟩,
 ⟨(some 9), none, .ld1 (.t 8)⟩,
 ⟨(some 3), none, .mov (.t 9)⟩])
 (.seq (.seq (.reg [⟨(some 10), none, .mov (.t 3)⟩,
 ⟨(some 11), none, .mov (.c (.i .i64 (0)))⟩])
 (.blk 0
 (.loop
 (.seq (.reg [⟨(some 12), none, .bin .lss (.t 11) (.t 10)⟩])
 (.seq (.cond (.t 12)
 .skip
 (.exit 0))
 (.seq (.blk 1
 (.seq (.reg [⟨(some 13), none, .mov (.t 11)⟩,
 ⟨(some 4), none, .mov (.t 13)⟩])
 (.seq (.reg [⟨(some 14), none, .mov (.t 3)⟩,
 ⟨(some 15), none, .mov (.c (.i .i64 (0)))⟩])
 (.blk 2
 (.loop
 (.seq (.reg [⟨(some 16), none, .bin .lss (.t 15) (.t 14)⟩])
 (.seq (.cond (.t 16)
 .skip
 (.exit 2))
 (.seq (.blk 3
 (.seq (.reg [⟨(some 17), none, .mov (.t 15)⟩,
 ⟨(some 5), none, .mov (.t 17)⟩])
 (.seq (.drw [0, 0, 0, 0, 2, 18, 54, 126, 254, 511, 0, 0, 0, 2048, 10240, 30720, 0, 0, 65536, 327680, 983040, 2097151, 4194303]
 []
 [(0, ⟨(some 18), none, .mov (.t 0)⟩),
 (1, ⟨(some 19), none, .mov (.t 0)⟩),
 (2, ⟨(some 20), none, .mov (.t 4)⟩),
 (3, ⟨(some 21), none, .mov (.t 5)⟩),
 (4, ⟨(some 22), none, .nck (.t 19)⟩),
 (5, ⟨(some 23), none, .add (.t 22) 10⟩),
 (6, ⟨(some 24), none, .idx (.t 23) (.t 20) 8 64⟩),
 (7, ⟨(some 25), none, .idx (.t 24) (.t 21) 8 8⟩),
 (8, ⟨(some 26), none, .lda (.t 25) 0 8⟩),
 (9, ⟨(some 27), none, .call 58 [(.t 18), (.t 26)]⟩),
 (10, ⟨(some 28), none, .mov (.t 0)⟩),
 (11, ⟨(some 29), none, .mov (.t 0)⟩),
 (12, ⟨(some 30), none, .mov (.t 4)⟩),
 (13, ⟨(some 31), none, .nck (.t 29)⟩),
 (14, ⟨(some 32), none, .add (.t 31) 530⟩),
 (15, ⟨(some 33), none, .idx (.t 32) (.t 30) 8 64⟩),
 (16, ⟨(some 34), none, .mov (.t 0)⟩),
 (17, ⟨(some 35), none, .mov (.t 5)⟩),
 (18, ⟨(some 36), none, .nck (.t 34)⟩),
 (19, ⟨(some 37), none, .add (.t 36) 530⟩),
 (20, ⟨(some 38), none, .idx (.t 37) (.t 35) 8 64⟩)]
 []
 [(21, ⟨(some 39), none, .call 109 [(.t 28), (.t 33), (.t 38)]⟩),
 (22, ⟨(some 40), none, .eqa true 64 (.t 27) (.t 39)⟩)])
 (.cond (.t 40)
 (.seq (.reg [⟨(some 2), none, .mov (.c (.b false))⟩])
 .ret)
 .skip))))
 (.reg [⟨(some 41), none, .bin .add (.t 15) (.c (.i .i64 (1)))⟩,
 ⟨(some 15), none, .mov (.t 41)⟩])))))))))
 (.reg [⟨(some 42), none, .bin .add (.t 11) (.c (.i .i64 (1)))⟩,
 ⟨(some 11), none, .mov (.t 42)⟩])))))))
 (.seq (.reg [⟨(some 2), none, .mov (.c (.b true))⟩])
 .ret))))⟩
def pf_i_field_times : PF := ⟨3, 14, [.c 6 0 8],
 (.seq (.reg [⟨(some 3), none, .box (.t 0)⟩,
 ⟨(some 5), none, .box (.t 2)⟩,
 ⟨(some 6), none, .alo (.by 0 8)⟩])
 (.seq (.reg [⟨(some 8), none, .bld 0 8 []⟩,
 ⟨(some 7), none, .alo (.by 0 8)⟩,
 ⟨none, none, .sta (.t 7) (.t 8) 8⟩])
 (.seq (.reg [⟨(some 9), none, .lda (.t 3) 2 2⟩,
 ⟨(some 10), none, .mov (.t 1)⟩,
 ⟨(some 11), none, .lda (.t 5) 0 8⟩,
 ⟨(some 12), none, .call 71 [(.t 9), (.t 7), (.t 10), (.t 11)]⟩])
 (.seq (.reg [⟨(some 13), none, .lda (.t 7) 0 8⟩,
 ⟨none, none, .sta (.t 6) (.t 13) 8⟩])
 .ret))))⟩
def pf_i_field_pair : PF := ⟨3, 25, [.c 6 0 64],
 (.seq (.reg [⟨(some 3), none, .box (.t 0)⟩,
 ⟨(some 4), none, .box (.t 1)⟩,
 ⟨(some 5), none, .box (.t 2)⟩,
 ⟨(some 6), none, .alo (.by 0 64)⟩])
 (.seq (.reg [⟨(some 10), none, .bld 0 64 []⟩,
 ⟨(some 7), none, .alo (.by 0 64)⟩,
 ⟨none, none, .sta (.t 7) (.t 10) 64⟩])
 (.seq (.seq (.reg [⟨(some 11), none, .lda (.t 4) 0 8⟩,
 ⟨(some 12), none, .mov (.c (.i .i64 (0)))⟩])
 (.blk 0
 (.loop
 (.seq (.reg [⟨(some 13), none, .bin .lss (.t 12) (.c (.i .i64 (8)))⟩])
 (.seq (.cond (.t 13)
 .skip
 (.exit 0))
 (.seq (.blk 1
 (.seq (.reg [⟨(some 14), none, .mov (.t 12)⟩,
 ⟨(some 15), none, .ixb (.t 11) (.t 12) 8⟩,
 ⟨(some 8), none, .mov (.t 14)⟩,
 ⟨(some 9), none, .mov (.t 15)⟩])
 (.reg [⟨(some 16), none, .mov (.t 8)⟩,
 ⟨(some 17), none, .lda (.t 3) 2 2⟩,
 ⟨(some 18), none, .mov (.t 9)⟩,
 ⟨(some 19), none, .cvt .i64 (.t 18)⟩,
 ⟨(some 20), none, .lda (.t 5) 0 8⟩,
 ⟨(some 21), none, .call 114 [(.t 17), (.t 19), (.t 20)]⟩,
 ⟨(some 22), none, .idx (.t 7) (.t 16) 8 8⟩,
 ⟨none, none, .sta (.t 22) (.t 21) 8⟩])))
 (.reg [⟨(some 23), none, .bin .add (.t 12) (.c (.i .i64 (1)))⟩,
 ⟨(some 12), none, .mov (.t 23)⟩])))))))
 (.seq (.reg [⟨(some 24), none, .lda (.t 7) 0 64⟩,
 ⟨none, none, .sta (.t 6) (.t 24) 64⟩])
 .ret))))⟩
def pf_i_Hopf_axiom4 : PF := ⟨1, 21, [.t 2],
 (.seq (.reg [⟨(some 2), none, .mov (.c (.b false))⟩])
 (.seq (.drw [0, 0, 2, 6, 14, 31, 0, 127, 0, 256, 768, 1792, 0, 4096, 12288, 28672, 65535, 131071, 262143]
 []
 [(0, ⟨(some 3), none, .mov (.t 0)⟩),
 (1, ⟨(some 4), none, .mov (.t 0)⟩),
 (2, ⟨(some 5), none, .nck (.t 4)⟩),
 (3, ⟨(some 6), none, .add (.t 5) 2⟩),
 (4, ⟨(some 7), none, .lda (.t 6) 0 8⟩),
 (5, ⟨(some 8), none, .call 58 [(.t 3), (.t 7)]⟩),
 (6, ⟨(some 9), none, .mov (.t 0)⟩),
 (7, ⟨(some 10), none, .call 32 [(.t 9)]⟩),
 (8, ⟨(some 11), none, .mov (.t 0)⟩),
 (9, ⟨(some 12), none, .nck (.t 11)⟩),
 (10, ⟨(some 13), none, .add (.t 12) 2⟩),
 (11, ⟨(some 14), none, .lda (.t 13) 0 8⟩),
 (12, ⟨(some 15), none, .mov (.t 0)⟩),
 (13, ⟨(some 16), none, .nck (.t 15)⟩),
 (14, ⟨(some 17), none, .add (.t 16) 2⟩),
 (15, ⟨(some 18), none, .lda (.t 17) 0 8⟩)]
 []
 [(16, ⟨(some 19), none, .call 110 [(.t 10), (.t 14), (.t 18)]⟩),
 (17, ⟨(some 20), none, .eqa false 64 (.t 8) (.t 19)⟩),
 (18, ⟨(some 2), none, .mov (.t 20)⟩)])
 .ret))⟩
def pf_i_Hopf_counit : PF := ⟨2, 13, [.t 4],
 (.seq (.reg [⟨(some 3), none, .box (.t 1)⟩,
 ⟨(some 4), none, .mov (.c (.i .i64 (0)))⟩])
 (.seq (.drw [0, 1, 0, 4, 12, 28, 0, 127, 255]
 []
 [(0, ⟨(some 5), none, .mov (.t 0)⟩),
 (1, ⟨(some 6), none, .call 32 [(.t 5)]⟩),
 (2, ⟨(some 7), none, .mov (.t 0)⟩),
 (3, ⟨(some 8), none, .nck (.t 7)⟩),
 (4, ⟨(some 9), none, .add (.t 8) 522⟩),
 (5, ⟨(some 10), none, .lda (.t 9) 0 8⟩),
 (6, ⟨(some 11), none, .lda (.t 3) 0 8⟩)]
 []
 [(7, ⟨(some 12), none, .call 118 [(.t 6), (.t 10), (.t 11)]⟩),
 (8, ⟨(some 4), none, .mov (.t 12)⟩)])
 .ret))⟩
def pf_i_Hopf_axiom5 : PF := ⟨1, 56, [.t 2],
 (.seq (.reg [⟨(some 2), none, .mov (.c (.b false))⟩])
 (.seq (.reg [⟨(some 6), none, .mov (.t 0)⟩,
 ⟨(some 7), none, .call 32 [(.t 6)]⟩,
 ⟨(some 3), none, .alo (.by 2 2)⟩,
 ⟨none, none, .sta (.t 3) (.t 7) 2⟩])
 (.seq (.seq (.reg [⟨(some 8), none, .add (.t 3) 1⟩,
 ⟨(some 9), none, .ld1 (.t 8)⟩,
 ⟨(some 10), none, .mov (.c (.i .i64 (0)))⟩])
 (.blk 0
 (.loop
 (.seq (.reg [⟨(some 11), none, .bin .lss (.t 10) (.t 9)⟩])
 (.seq (.cond (.t 11)
 .skip
 (.exit 0))
 (.seq (.blk 1
 (.seq (.reg [⟨(some 12), none, .mov (.t 10)⟩,
 ⟨(some 4), none, .mov (.t 12)⟩])
 (.seq (.reg [⟨(some 13), none, .add (.t 3) 1⟩,
 ⟨(some 14), none, .ld1 (.t 13)⟩,
 ⟨(some 15), none, .mov (.c (.i .i64 (0)))⟩])
 (.blk 2
 (.loop
 (.seq (.reg [⟨(some 16), none, .bin .lss (.t 15) (.t 14)⟩])
 (.seq (.cond (.t 16)
 .skip
 (.exit 2))
 (.seq (.blk 3
 (.seq (.reg [⟨(some 17), none, .mov (.t 15)⟩,
 ⟨(some 5), none, .mov (.t 17)⟩])
 (.seq (.drw [0, 0, 0, 0, 2, 18, 54, 126, 254, 511, 0, 0, 1024, 5120, 15360, 31744, 64512, 0, 0, 131072, 655360, 1966080, 4063232, 8257536, 16776192, 0, 33554432, 134216704, 268435455]
 []
 [(0, ⟨(some 18), none, .mov (.t 0)⟩),
 (1, ⟨(some 19), none, .mov (.t 0)⟩),
 (2, ⟨(some 20), none, .mov (.t 4)⟩),
 (3, ⟨(some 21), none, .mov (.t 5)⟩),
 (4, ⟨(some 22), none, .nck (.t 19)⟩),
 (5, ⟨(some 23), none, .add (.t 22) 10⟩),
 (6, ⟨(some 24), none, .idx (.t 23) (.t 20) 8 64⟩),
 (7, ⟨(some 25), none, .idx (.t 24) (.t 21) 8 8⟩),
 (8, ⟨(some 26), none, .lda (.t 25) 0 8⟩),
 (9, ⟨(some 27), none, .call 111 [(.t 18), (.t 26)]⟩),
 (10, ⟨(some 28), none, .mov (.t 0)⟩),
 (11, ⟨(some 29), none, .mov (.t 4)⟩),
 (12, ⟨(some 30), none, .nck (.t 28)⟩),
 (13, ⟨(some 31), none, .add (.t 30) 522⟩),
 (14, ⟨(some 32), none, .idx (.t 31) (.t 29) 8 1⟩),
 (15, ⟨(some 33), none, .ld8 (.t 32)⟩),
 (16, ⟨(some 34), none, .cvt .i64 (.t 33)⟩),
 (17, ⟨(some 35), none, .mov (.t 0)⟩),
 (18, ⟨(some 36), none, .mov (.t 5)⟩),
 (19, ⟨(some 37), none, .nck (.t 35)⟩),
 (20, ⟨(some 38), none, .add (.t 37) 522⟩),
 (21, ⟨(some 39), none, .idx (.t 38) (.t 36) 8 1⟩),
 (22, ⟨(some 40), none, .ld8 (.t 39)⟩),
 (23, ⟨(some 41), none, .cvt .i64 (.t 40)⟩),
 (24, ⟨(some 42), none, .bin .mul (.t 34) (.t 41)⟩),
 (25, ⟨(some 43), none, .add (.t 3) 0⟩),
 (26, ⟨(some 44), none, .ld1 (.t 43)⟩),
 (27, ⟨(some 45), none, .bin .rem (.t 42) (.t 44)⟩)]
 []
 [(28, ⟨(some 46), none, .bin .neq (.t 27) (.t 45)⟩)])
 (.cond (.t 46)
 (.seq (.reg [⟨(some 2), none, .mov (.c (.b false))⟩])
 .ret)
 .skip))))
 (.reg [⟨(some 47), none, .bin .add (.t 15) (.c (.i .i64 (1)))⟩,
 ⟨(some 15), none, .mov (.t 47)⟩])))))))))
 (.reg [⟨(some 48), none, .bin .add (.t 10) (.c (.i .i64 (1)))⟩,
 ⟨(some 10), none, .mov (.t 48)⟩])))))))
 (.seq (.reg [⟨(some 49), none, .mov (.t 0)⟩,
 ⟨(some 50), none, .mov (.t 0)⟩,
 ⟨(some 51), none, .nck (.t 50)⟩,
 ⟨(some 52), none, .add (.t 51) 2⟩,
 ⟨(some 53), none, .lda (.t 52) 0 8⟩,
 ⟨(some 54), none, .call 111 [(.t 49), (.t 53)]⟩,
 ⟨(some 55), none, .bin .eql (.t 54) (.c (.i .i64 (1)))⟩,
 ⟨(some 2), none, .mov (.t 55)⟩])
 .ret))))⟩
def pf_i_Hopf_product : PF := ⟨3, 50, [.c 6 0 8],
 (.seq (.reg [⟨(some 4), none, .box (.t 1)⟩,
 ⟨(some 5), none, .box (.t 2)⟩,
 ⟨(some 6), none, .alo (.by 0 8)⟩])
 (.seq (.reg [⟨(some 11), none, .mov (.t 0)⟩,
 ⟨(some 12), none, .call 32 [(.t 11)]⟩,
 ⟨(some 13), none, .bld 0 8 []⟩,
 ⟨(some 7), none, .alo (.by 2 2)⟩,
 ⟨(some 8), none, .alo (.by 0 8)⟩,
 ⟨none, none, .sta (.t 7) (.t 12) 2⟩,
 ⟨none, none, .sta (.t 8) (.t 13) 8⟩])
 (.seq (.seq (.reg [⟨(some 14), none, .add (.t 7) 1⟩,
 ⟨(some 15), none, .ld1 (.t 14)⟩,
 ⟨(some 16), none, .mov (.c (.i .i64 (0)))⟩])
 (.blk 0
 (.loop
 (.seq (.reg [⟨(some 17), none, .bin .lss (.t 16) (.t 15)⟩])
 (.seq (.cond (.t 17)
 .skip
 (.exit 0))
 (.seq (.blk 1
 (.seq (.reg [⟨(some 18), none, .mov (.t 16)⟩,
 ⟨(some 9), none, .mov (.t 18)⟩])
 (.seq (.seq (.reg [⟨(some 19), none, .mov (.t 9)⟩,
 ⟨(some 20), none, .idx (.t 4) (.t 19) 8 1⟩,
 ⟨(some 21), none, .ld8 (.t 20)⟩,
 ⟨(some 22), none, .bin .eql (.t 21) (.c (.u 0))⟩])
 (.cond (.t 22)
 (.exit 1)
 .skip))
 (.seq (.reg [⟨(some 23), none, .add (.t 7) 1⟩,
 ⟨(some 24), none, .ld1 (.t 23)⟩,
 ⟨(some 25), none, .mov (.c (.i .i64 (0)))⟩])
 (.blk 2
 (.loop
 (.seq (.reg [⟨(some 26), none, .bin .lss (.t 25) (.t 24)⟩])
 (.seq (.cond (.t 26)
 .skip
 (.exit 2))
 (.seq (.blk 3
 (.seq (.reg [⟨(some 27), none, .mov (.t 25)⟩,
 ⟨(some 10), none, .mov (.t 27)⟩])
 (.drw [0, 0, 2, 6, 14, 0, 32, 96, 224, 510, 0, 0, 0, 1024, 9216, 27648, 64512, 130048, 262143]
 []
 [(0, ⟨(some 28), none, .lda (.t 7) 2 2⟩),
 (1, ⟨(some 29), none, .mov (.t 9)⟩),
 (2, ⟨(some 30), none, .idx (.t 4) (.t 29) 8 1⟩),
 (3, ⟨(some 31), none, .ld8 (.t 30)⟩),
 (4, ⟨(some 32), none, .cvt .i64 (.t 31)⟩),
 (5, ⟨(some 33), none, .mov (.t 10)⟩),
 (6, ⟨(some 34), none, .idx (.t 5) (.t 33) 8 1⟩),
 (7, ⟨(some 35), none, .ld8 (.t 34)⟩),
 (8, ⟨(some 36), none, .cvt .i64 (.t 35)⟩),
 (9, ⟨(some 37), none, .bin .mul (.t 32) (.t 36)⟩),
 (10, ⟨(some 38), none, .mov (.t 0)⟩),
 (11, ⟨(some 39), none, .mov (.t 9)⟩),
 (12, ⟨(some 40), none, .mov (.t 10)⟩),
 (13, ⟨(some 41), none, .nck (.t 38)⟩),
 (14, ⟨(some 42), none, .add (.t 41) 10⟩),
 (15, ⟨(some 43), none, .idx (.t 42) (.t 39) 8 64⟩),
 (16, ⟨(some 44), none, .idx (.t 43) (.t 40) 8 8⟩),
 (17, ⟨(some 45), none, .lda (.t 44) 0 8⟩)]
 []
 [(18, ⟨(some 46), none, .call 71 [(.t 28), (.t 8), (.t 37), (.t 45)]⟩)])))
 (.reg [⟨(some 47), none, .bin .add (.t 25) (.c (.i .i64 (1)))⟩,
 ⟨(some 25), none, .mov (.t 47)⟩]))))))))))
 (.reg [⟨(some 48), none, .bin .add (.t 16) (.c (.i .i64 (1)))⟩,
 ⟨(some 16), none, .mov (.t 48)⟩])))))))
 (.seq (.reg [⟨(some 49), none, .lda (.t 8) 0 8⟩,
 ⟨none, none, .sta (.t 6) (.t 49) 8⟩])
 .ret))))⟩
def pf_i_Hopf_folded_1 : PF := ⟨7, 37, [],
 (.seq (.reg [⟨(some 10), none, .ld1 (.t 3)⟩])
 (.cond (.t 10)
 (.drw [0, 0, 0, 0, 0, 8, 40, 120, 248, 0, 512, 2044, 4095]
 []
 [(0, ⟨(some 11), none, .lda (.t 4) 2 2⟩),
 (1, ⟨(some 12), none, .mov (.t 2)⟩),
 (2, ⟨(some 13), none, .ld1 (.t 6)⟩),
 (3, ⟨(some 14), none, .ld1 (.t 6)⟩),
 (4, ⟨(some 15), none, .mov (.t 0)⟩),
 (5, ⟨(some 16), none, .nck (.t 14)⟩),
 (6, ⟨(some 17), none, .add (.t 16) 1042⟩),
 (7, ⟨(some 18), none, .idx (.t 17) (.t 15) 8 8⟩),
 (8, ⟨(some 19), none, .lda (.t 18) 0 8⟩),
 (9, ⟨(some 20), none, .mov (.t 1)⟩),
 (10, ⟨(some 21), none, .call 61 [(.t 20)]⟩),
 (11, ⟨(some 22), none, .call 73 [(.t 13), (.t 19), (.t 21)]⟩)]
 []
 [(12, ⟨(some 23), none, .call 71 [(.t 11), (.t 5), (.t 12), (.t 22)]⟩)])
 (.drw [0, 0, 0, 0, 8, 0, 0, 32, 160, 480, 992, 2044, 4095]
 []
 [(0, ⟨(some 24), none, .lda (.t 4) 2 2⟩),
 (1, ⟨(some 25), none, .mov (.t 2)⟩),
 (2, ⟨(some 26), none, .ld1 (.t 6)⟩),
 (3, ⟨(some 27), none, .mov (.t 0)⟩),
 (4, ⟨(some 28), none, .call 61 [(.t 27)]⟩),
 (5, ⟨(some 29), none, .ld1 (.t 6)⟩),
 (6, ⟨(some 30), none, .mov (.t 1)⟩),
 (7, ⟨(some 31), none, .nck (.t 29)⟩),
 (8, ⟨(some 32), none, .add (.t 31) 1042⟩),
 (9, ⟨(some 33), none, .idx (.t 32) (.t 30) 8 8⟩),
 (10, ⟨(some 34), none, .lda (.t 33) 0 8⟩),
 (11, ⟨(some 35), none, .call 73 [(.t 26), (.t 28), (.t 34)]⟩)]
 []
 [(12, ⟨(some 36), none, .call 71 [(.t 24), (.t 5), (.t 25), (.t 35)]⟩)])))⟩
def pf_i_Hopf_folded : PF := ⟨3, 20, [.c 6 0 8],
 (.seq (.reg [⟨(some 3), none, .box (.t 0)⟩,
 ⟨(some 5), none, .box (.t 2)⟩,
 ⟨(some 6), none, .alo (.by 0 8)⟩])
 (.seq (.reg [⟨(some 9), none, .ld1 (.t 3)⟩,
 ⟨(some 10), none, .call 32 [(.t 9)]⟩,
 ⟨(some 11), none, .bld 0 8 []⟩,
 ⟨(some 7), none, .alo (.by 2 2)⟩,
 ⟨(some 8), none, .alo (.by 0 8)⟩,
 ⟨none, none, .sta (.t 7) (.t 10) 2⟩,
 ⟨none, none, .sta (.t 8) (.t 11) 8⟩])
 (.seq (.reg [⟨(some 12), none, .ld1 (.t 3)⟩,
 ⟨(some 13), none, .mov (.t 1)⟩,
 ⟨(some 14), none, .nck (.t 12)⟩,
 ⟨(some 15), none, .add (.t 14) 530⟩,
 ⟨(some 16), none, .idx (.t 15) (.t 13) 8 64⟩,
 ⟨(some 17), none, .mkf 121 [] [(.t 5), (.t 7), (.t 8), (.t 3)]⟩,
 ⟨(some 18), none, .call 60 [(.t 16), (.t 17)]⟩])
 (.seq (.reg [⟨(some 19), none, .lda (.t 8) 0 8⟩,
 ⟨none, none, .sta (.t 6) (.t 19) 8⟩])
 .ret))))⟩
def pf_i_Hopf_axiomS : PF := ⟨2, 33, [.t 4],
 (.seq (.reg [⟨(some 4), none, .mov (.c (.b false))⟩])
 (.seq (.reg [⟨(some 7), none, .mov (.t 0)⟩,
 ⟨(some 8), none, .call 32 [(.t 7)]⟩,
 ⟨(some 5), none, .alo (.by 2 2)⟩,
 ⟨none, none, .sta (.t 5) (.t 8) 2⟩])
 (.seq (.seq (.reg [⟨(some 9), none, .add (.t 5) 1⟩,
 ⟨(some 10), none, .ld1 (.t 9)⟩,
 ⟨(some 11), none, .mov (.c (.i .i64 (0)))⟩])
 (.blk 0
 (.loop
 (.seq (.reg [⟨(some 12), none, .bin .lss (.t 11) (.t 10)⟩])
 (.seq (.cond (.t 12)
 .skip
 (.exit 0))
 (.seq (.blk 1
 (.seq (.reg [⟨(some 13), none, .mov (.t 11)⟩,
 ⟨(some 6), none, .mov (.t 13)⟩])
 (.seq (.drw [0, 0, 0, 7, 0, 0, 0, 32, 160, 480, 992, 2016, 0, 4096, 12288, 28672, 65535, 131071]
 []
 [(0, ⟨(some 14), none, .mov (.t 0)⟩),
 (1, ⟨(some 15), none, .mov (.t 6)⟩),
 (2, ⟨(some 16), none, .mov (.t 1)⟩),
 (3, ⟨(some 17), none, .call 113 [(.t 14), (.t 15), (.t 16)]⟩),
 (4, ⟨(some 18), none, .lda (.t 5) 2 2⟩),
 (5, ⟨(some 19), none, .mov (.t 0)⟩),
 (6, ⟨(some 20), none, .mov (.t 6)⟩),
 (7, ⟨(some 21), none, .nck (.t 19)⟩),
 (8, ⟨(some 22), none, .add (.t 21) 522⟩),
 (9, ⟨(some 23), none, .idx (.t 22) (.t 20) 8 1⟩),
 (10, ⟨(some 24), none, .ld8 (.t 23)⟩),
 (11, ⟨(some 25), none, .cvt .i64 (.t 24)⟩),
 (12, ⟨(some 26), none, .mov (.t 0)⟩),
 (13, ⟨(some 27), none, .nck (.t 26)⟩),
 (14, ⟨(some 28), none, .add (.t 27) 2⟩),
 (15, ⟨(some 29), none, .lda (.t 28) 0 8⟩)]
 []
 [(16, ⟨(some 30), none, .call 114 [(.t 18), (.t 25), (.t 29)]⟩),
 (17, ⟨(some 31), none, .eqa true 8 (.t 17) (.t 30)⟩)])
 (.cond (.t 31)
 (.seq (.reg [⟨(some 4), none, .mov (.c (.b false))⟩])
 .ret)
 .skip))))
 (.reg [⟨(some 32), none, .bin .add (.t 11) (.c (.i .i64 (1)))⟩,
 ⟨(some 11), none, .mov (.t 32)⟩])))))))
 (.seq (.reg [⟨(some 4), none, .mov (.c (.b true))⟩])
 .ret))))⟩
def pf_i_Hopf_fails_3 : PF := ⟨1, 4, [.t 1],
 (.seq (.reg [⟨(some 1), none, .mov (.c (.b false))⟩])
 (.seq (.reg [⟨(some 2), none, .ld1 (.t 0)⟩,
 ⟨(some 3), none, .call 112 [(.t 2), (.c (.b true))]⟩,
 ⟨(some 1), none, .mov (.t 3)⟩])
 .ret))⟩
def pf_i_Hopf_fails_4 : PF := ⟨1, 4, [.t 1],
 (.seq (.reg [⟨(some 1), none, .mov (.c (.b false))⟩])
 (.seq (.reg [⟨(some 2), none, .ld1 (.t 0)⟩,
 ⟨(some 3), none, .call 112 [(.t 2), (.c (.b false))]⟩,
 ⟨(some 1), none, .mov (.t 3)⟩])
 .ret))⟩
def pf_i_Hopf_fails : PF := ⟨2, 34, [.t 4],
 (.seq (.reg [⟨(some 2), none, .box (.t 0)⟩,
 ⟨(some 4), none, .mov (.c (.i .i64 (0)))⟩])
 (.seq (.reg [⟨(some 8), none, .mkf 84 [] [(.t 2)]⟩,
 ⟨(some 9), none, .mkf 85 [] [(.t 2)]⟩,
 ⟨(some 10), none, .ld1 (.t 2)⟩,
 ⟨(some 11), none, .mkf 86 [(.t 10)] []⟩,
 ⟨(some 12), none, .ld1 (.t 2)⟩,
 ⟨(some 13), none, .mkf 87 [(.t 12)] []⟩,
 ⟨(some 14), none, .ld1 (.t 2)⟩,
 ⟨(some 15), none, .mkf 88 [(.t 14)] []⟩,
 ⟨(some 16), none, .mkf 89 [] [(.t 2)]⟩,
 ⟨(some 17), none, .mkf 90 [] [(.t 2)]⟩,
 ⟨(some 18), none, .bsa [(.t 8), (.t 9), (.t 11), (.t 13), (.t 15), (.t 16), (.t 17)]⟩,
 ⟨(some 5), none, .mov (.t 18)⟩])
 (.seq (.seq (.reg [⟨(some 19), none, .mov (.t 5)⟩,
 ⟨(some 20), none, .mov (.t 1)⟩,
 ⟨(some 21), none, .slc (.t 19) none (some (.t 20)) 1⟩,
 ⟨(some 22), none, .len (.t 21)⟩,
 ⟨(some 23), none, .mov (.c (.i .i64 (0)))⟩])
 (.blk 0
 (.loop
 (.seq (.reg [⟨(some 24), none, .bin .lss (.t 23) (.t 22)⟩])
 (.seq (.cond (.t 24)
 .skip
 (.exit 0))
 (.seq (.blk 1
 (.seq (.reg [⟨(some 25), none, .mov (.t 23)⟩,
 ⟨(some 26), none, .ids (.t 21) (.t 23) 1⟩,
 ⟨(some 27), none, .ld1 (.t 26)⟩,
 ⟨(some 6), none, .mov (.t 25)⟩,
 ⟨(some 7), none, .mov (.t 27)⟩])
 (.seq (.reg [⟨(some 28), none, .mov (.t 7)⟩,
 ⟨(some 29), none, .calv (.t 28) []⟩,
 ⟨(some 30), none, .nt (.t 29)⟩])
 (.cond (.t 30)
 (.seq (.reg [⟨(some 31), none, .mov (.t 6)⟩,
 ⟨(some 32), none, .bin .add (.t 31) (.c (.i .i64 (1)))⟩,
 ⟨(some 4), none, .mov (.t 32)⟩])
 .ret)
 .skip))))
 (.reg [⟨(some 33), none, .bin .add (.t 23) (.c (.i .i64 (1)))⟩,
 ⟨(some 23), none, .mov (.t 33)⟩])))))))
 (.seq (.reg [⟨(some 4), none, .mov (.c (.i .i64 (0)))⟩])
 .ret))))⟩
def pf_i_IsHopf : PF := ⟨1, 8, [.t 2],
 (.seq (.reg [⟨(some 1), none, .box (.t 0)⟩,
 ⟨(some 2), none, .mov (.c (.b false))⟩])
 (.seq (.reg [⟨(some 3), none, .call 67 [(.t 1)]⟩,
 ⟨(some 4), none, .mov (.t 3)⟩,
 ⟨(some 5), (some (4, true)), .call 68 [(.t 1), (.c (.i .i64 (7)))]⟩,
 ⟨(some 6), (some (4, true)), .bin .eql (.t 5) (.c (.i .i64 (0)))⟩,
 ⟨(some 7), none, .pick (.t 4) (.t 6) (.c (.b false))⟩,
 ⟨(some 2), none, .mov (.t 7)⟩])
 .ret))⟩
def pf_i_Module_field : PF := ⟨2, 14, [.c 4 2 2],
 (.seq (.reg [⟨(some 4), none, .alo (.by 2 2)⟩])
 (.seq (.drw [0, 1, 3, 7, 0, 16, 48, 112, 255, 511]
 []
 [(0, ⟨(some 5), none, .mov (.t 1)⟩),
 (1, ⟨(some 6), none, .nck (.t 5)⟩),
 (2, ⟨(some 7), none, .add (.t 6) 0⟩),
 (3, ⟨(some 8), none, .ld1 (.t 7)⟩),
 (4, ⟨(some 9), none, .mov (.t 0)⟩),
 (5, ⟨(some 10), none, .nck (.t 9)⟩),
 (6, ⟨(some 11), none, .add (.t 10) 0⟩),
 (7, ⟨(some 12), none, .ld1 (.t 11)⟩)]
 []
 [(8, ⟨(some 13), none, .bld 2 2 [(0, 1, (.t 8)), (1, 1, (.t 12))]⟩),
 (9, ⟨none, none, .sta (.t 4) (.t 13) 2⟩)])
 .ret))⟩
def pf_i_Module_isShaped : PF := ⟨2, 47, [.t 4],
 (.seq (.reg [⟨(some 4), none, .mov (.c (.b false))⟩])
 (.seq (.seq (.reg [⟨(some 6), none, .mov (.c (.i .i64 (0)))⟩])
 (.blk 0
 (.loop
 (.seq (.reg [⟨(some 7), none, .bin .lss (.t 6) (.c (.i .i64 (8)))⟩])
 (.seq (.cond (.t 7)
 .skip
 (.exit 0))
 (.seq (.blk 1
 (.seq (.reg [⟨(some 8), none, .mov (.t 6)⟩,
 ⟨(some 5), none, .mov (.t 8)⟩])
 (.seq (.drw [0, 1, 3, 7, 0, 16, 48, 112, 0, 256, 768, 1792, 0, 0, 4096, 20480, 61440, 131071, 262143, 524287, 1048575, 1048575, 3145727, 7340031, 15728639, 33554431, 67108863, 134217727, 134217727, 268435455, 805306367, 2147483647, 4294967295, 134217727, 17179869183, 34359738367, 68719476735]
 []
 [(0, ⟨(some 9), none, .mov (.t 1)⟩),
 (1, ⟨(some 10), none, .nck (.t 9)⟩),
 (2, ⟨(some 11), none, .add (.t 10) 0⟩),
 (3, ⟨(some 12), none, .ld1 (.t 11)⟩),
 (4, ⟨(some 13), none, .mov (.t 0)⟩),
 (5, ⟨(some 14), none, .nck (.t 13)⟩),
 (6, ⟨(some 15), none, .add (.t 14) 0⟩),
 (7, ⟨(some 16), none, .ld1 (.t 15)⟩),
 (8, ⟨(some 17), none, .mov (.t 0)⟩),
 (9, ⟨(some 18), none, .nck (.t 17)⟩),
 (10, ⟨(some 19), none, .add (.t 18) 0⟩),
 (11, ⟨(some 20), none, .ld1 (.t 19)⟩),
 (12, ⟨(some 21), none, .mov (.t 0)⟩),
 (13, ⟨(some 22), none, .mov (.t 5)⟩),
 (14, ⟨(some 23), none, .nck (.t 21)⟩),
 (15, ⟨(some 24), none, .add (.t 23) 1⟩),
 (16, ⟨(some 25), none, .idx (.t 24) (.t 22) 8 64⟩),
 (17, ⟨(some 26), none, .call 83 [(.t 12), (.t 16), (.t 20), (.t 25)]⟩),
 (18, ⟨(some 27), none, .nt (.t 26)⟩),
 (19, ⟨(some 28), none, .mov (.t 27)⟩),
 (20, ⟨(some 29), (some (28, false)), .mov (.t 5)⟩),
 (21, ⟨(some 30), (some (28, false)), .mov (.t 1)⟩),
 (22, ⟨(some 31), (some (28, false)), .nck (.t 30)⟩),
 (23, ⟨(some 32), (some (28, false)), .add (.t 31) 1⟩),
 (24, ⟨(some 33), (some (28, false)), .ld1 (.t 32)⟩),
 (25, ⟨(some 34), (some (28, false)), .bin .geq (.t 29) (.t 33)⟩),
 (26, ⟨(some 35), (some (28, false)), .mov (.t 34)⟩),
 (27, ⟨(some 36), (some (35, true)), .mov (.t 0)⟩),
 (28, ⟨(some 37), (some (35, true)), .mov (.t 5)⟩),
 (29, ⟨(some 38), (some (35, true)), .nck (.t 36)⟩),
 (30, ⟨(some 39), (some (35, true)), .add (.t 38) 1⟩),
 (31, ⟨(some 40), (some (35, true)), .idx (.t 39) (.t 37) 8 64⟩),
 (32, ⟨(some 41), (some (35, true)), .lda (.t 40) 0 64⟩),
 (33, ⟨(some 42), (some (35, true)), .bld 0 64 []⟩)]
 []
 [(34, ⟨(some 43), (some (35, true)), .eqa true 64 (.t 41) (.t 42)⟩),
 (35, ⟨(some 44), (some (28, false)), .pick (.t 35) (.t 43) (.c (.b false))⟩),
 (36, ⟨(some 45), none, .pick (.t 28) (.c (.b true)) (.t 44)⟩)])
 (.cond (.t 45)
 (.seq (.reg [⟨(some 4), none, .mov (.c (.b false))⟩])
 .ret)
 .skip))))
 (.reg [⟨(some 46), none, .bin .add (.t 6) (.c (.i .i64 (1)))⟩,
 ⟨(some 6), none, .mov (.t 46)⟩])))))))
 (.seq (.reg [⟨(some 4), none, .mov (.c (.b true))⟩])
 .ret)))⟩
def pf_i_Module_acts : PF := ⟨3, 43, [.c 6 0 64],
 (.seq (.reg [⟨(some 5), none, .box (.t 2)⟩,
 ⟨(some 6), none, .alo (.by 0 64)⟩])
 (.seq (.reg [⟨(some 12), none, .mov (.t 0)⟩,
 ⟨(some 13), none, .mov (.t 1)⟩,
 ⟨(some 14), none, .call 151 [(.t 12), (.t 13)]⟩,
 ⟨(some 15), none, .bld 0 64 []⟩,
 ⟨(some 7), none, .alo (.by 2 2)⟩,
 ⟨(some 8), none, .alo (.by 0 64)⟩,
 ⟨none, none, .sta (.t 7) (.t 14) 2⟩,
 ⟨none, none, .sta (.t 8) (.t 15) 64⟩])
 (.seq (.seq (.reg [⟨(some 16), none, .lda (.t 5) 0 8⟩,
 ⟨(some 17), none, .mov (.c (.i .i64 (0)))⟩])
 (.blk 0
 (.loop
 (.seq (.reg [⟨(some 18), none, .bin .lss (.t 17) (.c (.i .i64 (8)))⟩])
 (.seq (.cond (.t 18)
 .skip
 (.exit 0))
 (.seq (.blk 1
 (.seq (.reg [⟨(some 19), none, .mov (.t 17)⟩,
 ⟨(some 20), none, .ixb (.t 16) (.t 17) 8⟩,
 ⟨(some 9), none, .mov (.t 19)⟩,
 ⟨(some 10), none, .mov (.t 20)⟩])
 (.seq (.reg [⟨(some 21), none, .add (.t 7) 1⟩,
 ⟨(some 22), none, .ld1 (.t 21)⟩,
 ⟨(some 23), none, .mov (.c (.i .i64 (0)))⟩])
 (.blk 2
 (.loop
 (.seq (.reg [⟨(some 24), none, .bin .lss (.t 23) (.t 22)⟩])
 (.seq (.cond (.t 24)
 .skip
 (.exit 2))
 (.seq (.blk 3
 (.seq (.reg [⟨(some 25), none, .mov (.t 23)⟩,
 ⟨(some 11), none, .mov (.t 25)⟩])
 (.drw [0, 0, 2, 0, 8, 0, 0, 0, 32, 288, 864, 2016, 4064, 8191]
 []
 [(0, ⟨(some 26), none, .lda (.t 7) 2 2⟩),
 (1, ⟨(some 27), none, .mov (.t 11)⟩),
 (2, ⟨(some 28), none, .idx (.t 8) (.t 27) 8 8⟩),
 (3, ⟨(some 29), none, .mov (.t 10)⟩),
 (4, ⟨(some 30), none, .cvt .i64 (.t 29)⟩),
 (5, ⟨(some 31), none, .mov (.t 0)⟩),
 (6, ⟨(some 32), none, .mov (.t 9)⟩),
 (7, ⟨(some 33), none, .mov (.t 11)⟩),
 (8, ⟨(some 34), none, .nck (.t 31)⟩),
 (9, ⟨(some 35), none, .add (.t 34) 1⟩),
 (10, ⟨(some 36), none, .idx (.t 35) (.t 32) 8 64⟩),
 (11, ⟨(some 37), none, .idx (.t 36) (.t 33) 8 8⟩),
 (12, ⟨(some 38), none, .lda (.t 37) 0 8⟩)]
 []
 [(13, ⟨(some 39), none, .call 71 [(.t 26), (.t 28), (.t 30), (.t 38)]⟩)])))
 (.reg [⟨(some 40), none, .bin .add (.t 23) (.c (.i .i64 (1)))⟩,
 ⟨(some 23), none, .mov (.t 40)⟩])))))))))
 (.reg [⟨(some 41), none, .bin .add (.t 17) (.c (.i .i64 (1)))⟩,
 ⟨(some 17), none, .mov (.t 41)⟩])))))))
 (.seq (.reg [⟨(some 42), none, .lda (.t 8) 0 64⟩,
 ⟨none, none, .sta (.t 6) (.t 42) 64⟩])
 .ret))))⟩
def pf_i_field_identity : PF := ⟨1, 17, [.c 2 0 64],
 (.seq (.reg [⟨(some 1), none, .box (.t 0)⟩,
 ⟨(some 2), none, .alo (.by 0 64)⟩])
 (.seq (.reg [⟨(some 5), none, .bld 0 64 []⟩,
 ⟨(some 3), none, .alo (.by 0 64)⟩,
 ⟨none, none, .sta (.t 3) (.t 5) 64⟩])
 (.seq (.seq (.reg [⟨(some 6), none, .add (.t 1) 1⟩,
 ⟨(some 7), none, .ld1 (.t 6)⟩,
 ⟨(some 8), none, .mov (.c (.i .i64 (0)))⟩])
 (.blk 0
 (.loop
 (.seq (.reg [⟨(some 9), none, .bin .lss (.t 8) (.t 7)⟩])
 (.seq (.cond (.t 9)
 .skip
 (.exit 0))
 (.seq (.blk 1
 (.seq (.reg [⟨(some 10), none, .mov (.t 8)⟩,
 ⟨(some 4), none, .mov (.t 10)⟩])
 (.reg [⟨(some 11), none, .mov (.t 4)⟩,
 ⟨(some 12), none, .mov (.t 4)⟩,
 ⟨(some 13), none, .call 61 [(.t 12)]⟩,
 ⟨(some 14), none, .idx (.t 3) (.t 11) 8 8⟩,
 ⟨none, none, .sta (.t 14) (.t 13) 8⟩])))
 (.reg [⟨(some 15), none, .bin .add (.t 8) (.c (.i .i64 (1)))⟩,
 ⟨(some 8), none, .mov (.t 15)⟩])))))))
 (.seq (.reg [⟨(some 16), none, .lda (.t 3) 0 64⟩,
 ⟨none, none, .sta (.t 2) (.t 16) 64⟩])
 .ret))))⟩
def pf_i_field_apply : PF := ⟨3, 27, [.c 6 0 8],
 (.seq (.reg [⟨(some 3), none, .box (.t 0)⟩,
 ⟨(some 5), none, .box (.t 2)⟩,
 ⟨(some 6), none, .alo (.by 0 8)⟩])
 (.seq (.reg [⟨(some 10), none, .bld 0 8 []⟩,
 ⟨(some 7), none, .alo (.by 0 8)⟩,
 ⟨none, none, .sta (.t 7) (.t 10) 8⟩])
 (.seq (.seq (.reg [⟨(some 11), none, .lda (.t 5) 0 8⟩,
 ⟨(some 12), none, .mov (.c (.i .i64 (0)))⟩])
 (.blk 0
 (.loop
 (.seq (.reg [⟨(some 13), none, .bin .lss (.t 12) (.c (.i .i64 (8)))⟩])
 (.seq (.cond (.t 13)
 .skip
 (.exit 0))
 (.seq (.blk 1
 (.seq (.reg [⟨(some 14), none, .mov (.t 12)⟩,
 ⟨(some 15), none, .ixb (.t 11) (.t 12) 8⟩,
 ⟨(some 8), none, .mov (.t 14)⟩,
 ⟨(some 9), none, .mov (.t 15)⟩])
 (.drw [0, 0, 2, 0, 0, 8, 56, 120, 255]
 []
 [(0, ⟨(some 16), none, .lda (.t 3) 2 2⟩),
 (1, ⟨(some 17), none, .mov (.t 9)⟩),
 (2, ⟨(some 18), none, .cvt .i64 (.t 17)⟩),
 (3, ⟨(some 19), none, .mov (.t 1)⟩),
 (4, ⟨(some 20), none, .mov (.t 8)⟩),
 (5, ⟨(some 21), none, .nck (.t 19)⟩),
 (6, ⟨(some 22), none, .idx (.t 21) (.t 20) 8 8⟩),
 (7, ⟨(some 23), none, .lda (.t 22) 0 8⟩)]
 []
 [(8, ⟨(some 24), none, .call 71 [(.t 16), (.t 7), (.t 18), (.t 23)]⟩)])))
 (.reg [⟨(some 25), none, .bin .add (.t 12) (.c (.i .i64 (1)))⟩,
 ⟨(some 12), none, .mov (.t 25)⟩])))))))
 (.seq (.reg [⟨(some 26), none, .lda (.t 7) 0 8⟩,
 ⟨none, none, .sta (.t 6) (.t 26) 8⟩])
 .ret))))⟩
def pf_i_field_after : PF := ⟨3, 25, [.c 6 0 64],
 (.seq (.reg [⟨(some 3), none, .box (.t 0)⟩,
 ⟨(some 6), none, .alo (.by 0 64)⟩])
 (.seq (.reg [⟨(some 9), none, .bld 0 64 []⟩,
 ⟨(some 7), none, .alo (.by 0 64)⟩,
 ⟨none, none, .sta (.t 7) (.t 9) 64⟩])
 (.seq (.seq (.reg [⟨(some 10), none, .mov (.c (.i .i64 (0)))⟩])
 (.blk 0
 (.loop
 (.seq (.reg [⟨(some 11), none, .bin .lss (.t 10) (.c (.i .i64 (8)))⟩])
 (.seq (.cond (.t 11)
 .skip
 (.exit 0))
 (.seq (.blk 1
 (.seq (.reg [⟨(some 12), none, .mov (.t 10)⟩,
 ⟨(some 8), none, .mov (.t 12)⟩])
 (.drw [0, 0, 0, 0, 0, 8, 56, 120, 254, 511, 1023]
 []
 [(0, ⟨(some 13), none, .mov (.t 8)⟩),
 (1, ⟨(some 14), none, .lda (.t 3) 2 2⟩),
 (2, ⟨(some 15), none, .mov (.t 1)⟩),
 (3, ⟨(some 16), none, .mov (.t 2)⟩),
 (4, ⟨(some 17), none, .mov (.t 8)⟩),
 (5, ⟨(some 18), none, .nck (.t 16)⟩),
 (6, ⟨(some 19), none, .idx (.t 18) (.t 17) 8 8⟩),
 (7, ⟨(some 20), none, .lda (.t 19) 0 8⟩),
 (8, ⟨(some 21), none, .call 52 [(.t 14), (.t 15), (.t 20)]⟩)]
 []
 [(9, ⟨(some 22), none, .idx (.t 7) (.t 13) 8 8⟩),
 (10, ⟨none, none, .sta (.t 22) (.t 21) 8⟩)])))
 (.reg [⟨(some 23), none, .bin .add (.t 10) (.c (.i .i64 (1)))⟩,
 ⟨(some 10), none, .mov (.t 23)⟩])))))))
 (.seq (.reg [⟨(some 24), none, .lda (.t 7) 0 64⟩,
 ⟨none, none, .sta (.t 6) (.t 24) 64⟩])
 .ret))))⟩
def pf_i_Module_isModule : PF := ⟨2, 67, [.t 4],
 (.seq (.reg [⟨(some 4), none, .mov (.c (.b false))⟩])
 (.seq (.reg [⟨(some 8), none, .mov (.t 0)⟩,
 ⟨(some 9), none, .mov (.t 1)⟩,
 ⟨(some 10), none, .call 151 [(.t 8), (.t 9)]⟩,
 ⟨(some 5), none, .alo (.by 2 2)⟩,
 ⟨none, none, .sta (.t 5) (.t 10) 2⟩])
 (.seq (.seq (.drw [0, 0, 3, 7, 15, 31, 31, 31, 159, 415, 927, 2047, 31, 8191, 16383, 32767]
 []
 [(0, ⟨(some 11), none, .mov (.t 0)⟩),
 (1, ⟨(some 12), none, .mov (.t 1)⟩),
 (2, ⟨(some 13), none, .call 152 [(.t 11), (.t 12)]⟩),
 (3, ⟨(some 14), none, .nt (.t 13)⟩),
 (4, ⟨(some 15), none, .mov (.t 14)⟩),
 (5, ⟨(some 16), (some (15, false)), .mov (.t 0)⟩),
 (6, ⟨(some 17), (some (15, false)), .mov (.t 1)⟩),
 (7, ⟨(some 18), (some (15, false)), .mov (.t 1)⟩),
 (8, ⟨(some 19), (some (15, false)), .nck (.t 18)⟩),
 (9, ⟨(some 20), (some (15, false)), .add (.t 19) 2⟩),
 (10, ⟨(some 21), (some (15, false)), .lda (.t 20) 0 8⟩),
 (11, ⟨(some 22), (some (15, false)), .call 153 [(.t 16), (.t 17), (.t 21)]⟩),
 (12, ⟨(some 23), (some (15, false)), .lda (.t 5) 2 2⟩)]
 []
 [(13, ⟨(some 24), (some (15, false)), .call 44 [(.t 23)]⟩),
 (14, ⟨(some 25), (some (15, false)), .eqa true 64 (.t 22) (.t 24)⟩),
 (15, ⟨(some 26), none, .pick (.t 15) (.c (.b true)) (.t 25)⟩)])
 (.cond (.t 26)
 (.seq (.reg [⟨(some 4), none, .mov (.c (.b false))⟩])
 .ret)
 .skip))
 (.seq (.seq (.reg [⟨(some 27), none, .mov (.t 1)⟩,
 ⟨(some 28), none, .nck (.t 27)⟩,
 ⟨(some 29), none, .add (.t 28) 1⟩,
 ⟨(some 30), none, .ld1 (.t 29)⟩,
 ⟨(some 31), none, .mov (.c (.i .i64 (0)))⟩])
 (.blk 0
 (.loop
 (.seq (.reg [⟨(some 32), none, .bin .lss (.t 31) (.t 30)⟩])
 (.seq (.cond (.t 32)
 .skip
 (.exit 0))
 (.seq (.blk 1
 (.seq (.reg [⟨(some 33), none, .mov (.t 31)⟩,
 ⟨(some 6), none, .mov (.t 33)⟩])
 (.seq (.reg [⟨(some 34), none, .mov (.t 1)⟩,
 ⟨(some 35), none, .nck (.t 34)⟩,
 ⟨(some 36), none, .add (.t 35) 1⟩,
 ⟨(some 37), none, .ld1 (.t 36)⟩,
 ⟨(some 38), none, .mov (.c (.i .i64 (0)))⟩])
 (.blk 2
 (.loop
 (.seq (.reg [⟨(some 39), none, .bin .lss (.t 38) (.t 37)⟩])
 (.seq (.cond (.t 39)
 .skip
 (.exit 2))
 (.seq (.blk 3
 (.seq (.reg [⟨(some 40), none, .mov (.t 38)⟩,
 ⟨(some 7), none, .mov (.t 40)⟩])
 (.seq (.drw [0, 0, 0, 0, 0, 4, 36, 108, 252, 508, 1023, 0, 0, 0, 4096, 20480, 61440, 0, 0, 131072, 655360, 1966080, 4194303, 8388607]
 []
 [(0, ⟨(some 41), none, .mov (.t 0)⟩),
 (1, ⟨(some 42), none, .mov (.t 1)⟩),
 (2, ⟨(some 43), none, .mov (.t 1)⟩),
 (3, ⟨(some 44), none, .mov (.t 6)⟩),
 (4, ⟨(some 45), none, .mov (.t 7)⟩),
 (5, ⟨(some 46), none, .nck (.t 43)⟩),
 (6, ⟨(some 47), none, .add (.t 46) 10⟩),
 (7, ⟨(some 48), none, .idx (.t 47) (.t 44) 8 64⟩),
 (8, ⟨(some 49), none, .idx (.t 48) (.t 45) 8 8⟩),
 (9, ⟨(some 50), none, .lda (.t 49) 0 8⟩),
 (10, ⟨(some 51), none, .call 153 [(.t 41), (.t 42), (.t 50)]⟩),
 (11, ⟨(some 52), none, .lda (.t 5) 2 2⟩),
 (12, ⟨(some 53), none, .mov (.t 0)⟩),
 (13, ⟨(some 54), none, .mov (.t 6)⟩),
 (14, ⟨(some 55), none, .nck (.t 53)⟩),
 (15, ⟨(some 56), none, .add (.t 55) 1⟩),
 (16, ⟨(some 57), none, .idx (.t 56) (.t 54) 8 64⟩),
 (17, ⟨(some 58), none, .mov (.t 0)⟩),
 (18, ⟨(some 59), none, .mov (.t 7)⟩),
 (19, ⟨(some 60), none, .nck (.t 58)⟩),
 (20, ⟨(some 61), none, .add (.t 60) 1⟩),
 (21, ⟨(some 62), none, .idx (.t 61) (.t 59) 8 64⟩)]
 []
 [(22, ⟨(some 63), none, .call 33 [(.t 52), (.t 57), (.t 62)]⟩),
 (23, ⟨(some 64), none, .eqa true 64 (.t 51) (.t 63)⟩)])
 (.cond (.t 64)
 (.seq (.reg [⟨(some 4), none, .mov (.c (.b false))⟩])
 .ret)
 .skip))))
 (.reg [⟨(some 65), none, .bin .add (.t 38) (.c (.i .i64 (1)))⟩,
 ⟨(some 38), none, .mov (.t 65)⟩])))))))))
 (.reg [⟨(some 66), none, .bin .add (.t 31) (.c (.i .i64 (1)))⟩,
 ⟨(some 31), none, .mov (.t 66)⟩])))))))
 (.seq (.reg [⟨(some 4), none, .mov (.c (.b true))⟩])
 .ret)))))⟩
def pf_i_unless : PF := ⟨2, 7, [.t 4],
 (.seq (.reg [⟨(some 4), none, .mov (.c (.i .i64 (0)))⟩])
 (.seq (.seq (.reg [⟨(some 5), none, .mov (.t 0)⟩])
 (.cond (.t 5)
 (.seq (.reg [⟨(some 4), none, .mov (.c (.i .i64 (0)))⟩])
 .ret)
 .skip))
 (.seq (.reg [⟨(some 6), none, .mov (.t 1)⟩,
 ⟨(some 4), none, .mov (.t 6)⟩])
 .ret)))⟩
def pf_i_modulesCode : PF := ⟨2, 27, [.t 4],
 (.seq (.reg [⟨(some 4), none, .mov (.c (.i .i64 (0)))⟩])
 (.seq (.reg [⟨(some 8), none, .mov (.t 0)⟩,
 ⟨(some 9), none, .nck (.t 8)⟩,
 ⟨(some 10), none, .lda (.t 9) 2 1106⟩,
 ⟨(some 11), none, .call 47 [(.t 10)]⟩,
 ⟨(some 5), none, .mov (.t 11)⟩])
 (.seq (.seq (.reg [⟨(some 12), none, .mov (.t 1)⟩,
 ⟨(some 13), none, .len (.t 12)⟩,
 ⟨(some 14), none, .mov (.c (.i .i64 (0)))⟩])
 (.blk 0
 (.loop
 (.seq (.reg [⟨(some 15), none, .bin .lss (.t 14) (.t 13)⟩])
 (.seq (.cond (.t 15)
 .skip
 (.exit 0))
 (.seq (.blk 1
 (.seq (.reg [⟨(some 16), none, .ids (.t 12) (.t 14) 1⟩,
 ⟨(some 17), none, .ld1 (.t 16)⟩,
 ⟨(some 7), none, .mov (.t 17)⟩])
 (.reg [⟨(some 18), none, .mov (.t 5)⟩,
 ⟨(some 19), none, .mov (.t 18)⟩,
 ⟨(some 20), (some (19, true)), .mov (.t 7)⟩,
 ⟨(some 21), (some (19, true)), .mov (.t 0)⟩,
 ⟨(some 22), (some (19, true)), .call 145 [(.t 20), (.t 21)]⟩,
 ⟨(some 23), none, .pick (.t 19) (.t 22) (.c (.b false))⟩,
 ⟨(some 5), none, .mov (.t 23)⟩])))
 (.reg [⟨(some 24), none, .bin .add (.t 14) (.c (.i .i64 (1)))⟩,
 ⟨(some 14), none, .mov (.t 24)⟩])))))))
 (.seq (.reg [⟨(some 25), none, .mov (.t 5)⟩,
 ⟨(some 26), none, .call 49 [(.t 25), (.c (.i .i64 (1)))]⟩,
 ⟨(some 4), none, .mov (.t 26)⟩])
 .ret))))⟩
def pf_l_toVector : PF := ⟨1, 15, [.c 2 0 8],
 (.seq (.reg [⟨(some 1), none, .box (.t 0)⟩,
 ⟨(some 2), none, .alo (.by 0 8)⟩])
 (.seq (.reg [⟨(some 3), none, .alo (.by 0 8)⟩])
 (.seq (.seq (.reg [⟨(some 4), none, .mov (.c (.i .i64 (0)))⟩])
 (.blk 0
 (.loop
 (.seq (.seq (.reg [⟨(some 5), none, .mov (.t 4)⟩,
 ⟨(some 6), none, .bin .lss (.t 5) (.c (.i .i64 (8)))⟩])
 (.cond (.t 6)
 .skip
 (.exit 0)))
 (.seq (.blk 1
 (.reg [⟨(some 9), none, .mov (.t 4)⟩,
 ⟨(some 10), none, .mov (.t 4)⟩,
 ⟨(some 11), none, .idx (.t 1) (.t 10) 8 1⟩,
 ⟨(some 12), none, .ld8 (.t 11)⟩,
 ⟨(some 13), none, .idx (.t 3) (.t 9) 8 1⟩,
 ⟨none, none, .st8 (.t 13) (.t 12)⟩]))
 (.reg [⟨(some 7), none, .mov (.t 4)⟩,
 ⟨(some 8), none, .bin .add (.t 7) (.c (.i .i64 (1)))⟩,
 ⟨(some 4), none, .mov (.t 8)⟩]))))))
 (.seq (.reg [⟨(some 14), none, .lda (.t 3) 0 8⟩,
 ⟨none, none, .sta (.t 2) (.t 14) 8⟩])
 .ret))))⟩
def pf_l_toLinear : PF := ⟨1, 16, [.c 2 0 64],
 (.seq (.reg [⟨(some 1), none, .box (.t 0)⟩,
 ⟨(some 2), none, .alo (.by 0 64)⟩])
 (.seq (.reg [⟨(some 3), none, .alo (.by 0 64)⟩])
 (.seq (.seq (.reg [⟨(some 4), none, .mov (.c (.i .i64 (0)))⟩])
 (.blk 0
 (.loop
 (.seq (.seq (.reg [⟨(some 5), none, .mov (.t 4)⟩,
 ⟨(some 6), none, .bin .lss (.t 5) (.c (.i .i64 (8)))⟩])
 (.cond (.t 6)
 .skip
 (.exit 0)))
 (.seq (.blk 1
 (.reg [⟨(some 9), none, .mov (.t 4)⟩,
 ⟨(some 10), none, .mov (.t 4)⟩,
 ⟨(some 11), none, .idx (.t 1) (.t 10) 8 8⟩,
 ⟨(some 12), none, .lda (.t 11) 0 8⟩,
 ⟨(some 13), none, .call 16 [(.t 12)]⟩,
 ⟨(some 14), none, .idx (.t 3) (.t 9) 8 8⟩,
 ⟨none, none, .sta (.t 14) (.t 13) 8⟩]))
 (.reg [⟨(some 7), none, .mov (.t 4)⟩,
 ⟨(some 8), none, .bin .add (.t 7) (.c (.i .i64 (1)))⟩,
 ⟨(some 4), none, .mov (.t 8)⟩]))))))
 (.seq (.reg [⟨(some 15), none, .lda (.t 3) 0 64⟩,
 ⟨none, none, .sta (.t 2) (.t 15) 64⟩])
 .ret))))⟩
def pf_l_toTable : PF := ⟨1, 16, [.c 2 0 512],
 (.seq (.reg [⟨(some 1), none, .box (.t 0)⟩,
 ⟨(some 2), none, .alo (.by 0 512)⟩])
 (.seq (.reg [⟨(some 3), none, .alo (.by 0 512)⟩])
 (.seq (.seq (.reg [⟨(some 4), none, .mov (.c (.i .i64 (0)))⟩])
 (.blk 0
 (.loop
 (.seq (.seq (.reg [⟨(some 5), none, .mov (.t 4)⟩,
 ⟨(some 6), none, .bin .lss (.t 5) (.c (.i .i64 (8)))⟩])
 (.cond (.t 6)
 .skip
 (.exit 0)))
 (.seq (.blk 1
 (.reg [⟨(some 9), none, .mov (.t 4)⟩,
 ⟨(some 10), none, .mov (.t 4)⟩,
 ⟨(some 11), none, .idx (.t 1) (.t 10) 8 64⟩,
 ⟨(some 12), none, .lda (.t 11) 0 64⟩,
 ⟨(some 13), none, .call 26 [(.t 12)]⟩,
 ⟨(some 14), none, .idx (.t 3) (.t 9) 8 64⟩,
 ⟨none, none, .sta (.t 14) (.t 13) 64⟩]))
 (.reg [⟨(some 7), none, .mov (.t 4)⟩,
 ⟨(some 8), none, .bin .add (.t 7) (.c (.i .i64 (1)))⟩,
 ⟨(some 4), none, .mov (.t 8)⟩]))))))
 (.seq (.reg [⟨(some 15), none, .lda (.t 3) 0 512⟩,
 ⟨none, none, .sta (.t 2) (.t 15) 512⟩])
 .ret))))⟩
def pf_l_toHopf : PF := ⟨1, 31, [.c 2 2 1106],
 (.seq (.reg [⟨(some 1), none, .box (.t 0)⟩,
 ⟨(some 2), none, .alo (.by 2 1106)⟩])
 (.seq (.reg [⟨(some 3), none, .alo (.by 2 1106)⟩])
 (.seq (.reg [⟨(some 4), none, .add (.t 1) 0⟩,
 ⟨(some 5), none, .ld1 (.t 4)⟩,
 ⟨(some 6), none, .add (.t 3) 0⟩,
 ⟨none, none, .st1 (.t 6) (.t 5)⟩])
 (.seq (.reg [⟨(some 7), none, .add (.t 1) 1⟩,
 ⟨(some 8), none, .ld1 (.t 7)⟩,
 ⟨(some 9), none, .add (.t 3) 1⟩,
 ⟨none, none, .st1 (.t 9) (.t 8)⟩])
 (.seq (.reg [⟨(some 10), none, .add (.t 1) 2⟩,
 ⟨(some 11), none, .lda (.t 10) 0 8⟩,
 ⟨(some 12), none, .call 16 [(.t 11)]⟩,
 ⟨(some 13), none, .add (.t 3) 2⟩,
 ⟨none, none, .sta (.t 13) (.t 12) 8⟩])
 (.seq (.reg [⟨(some 14), none, .add (.t 1) 10⟩,
 ⟨(some 15), none, .lda (.t 14) 0 512⟩,
 ⟨(some 16), none, .call 25 [(.t 15)]⟩,
 ⟨(some 17), none, .add (.t 3) 10⟩,
 ⟨none, none, .sta (.t 17) (.t 16) 512⟩])
 (.seq (.reg [⟨(some 18), none, .add (.t 1) 522⟩,
 ⟨(some 19), none, .lda (.t 18) 0 8⟩,
 ⟨(some 20), none, .call 16 [(.t 19)]⟩,
 ⟨(some 21), none, .add (.t 3) 522⟩,
 ⟨none, none, .sta (.t 21) (.t 20) 8⟩])
 (.seq (.reg [⟨(some 22), none, .add (.t 1) 530⟩,
 ⟨(some 23), none, .lda (.t 22) 0 512⟩,
 ⟨(some 24), none, .call 25 [(.t 23)]⟩,
 ⟨(some 25), none, .add (.t 3) 530⟩,
 ⟨none, none, .sta (.t 25) (.t 24) 512⟩])
 (.seq (.reg [⟨(some 26), none, .add (.t 1) 1042⟩,
 ⟨(some 27), none, .lda (.t 26) 0 64⟩,
 ⟨(some 28), none, .call 26 [(.t 27)]⟩,
 ⟨(some 29), none, .add (.t 3) 1042⟩,
 ⟨none, none, .sta (.t 29) (.t 28) 64⟩])
 (.seq (.reg [⟨(some 30), none, .lda (.t 3) 2 1106⟩,
 ⟨none, none, .sta (.t 2) (.t 30) 1106⟩])
 .ret))))))))))⟩
def pf_l_toLinearA8 : PF := ⟨1, 16, [.c 2 0 512],
 (.seq (.reg [⟨(some 1), none, .box (.t 0)⟩,
 ⟨(some 2), none, .alo (.by 0 512)⟩])
 (.seq (.reg [⟨(some 3), none, .alo (.by 0 512)⟩])
 (.seq (.seq (.reg [⟨(some 4), none, .mov (.c (.i .i64 (0)))⟩])
 (.blk 0
 (.loop
 (.seq (.seq (.reg [⟨(some 5), none, .mov (.t 4)⟩,
 ⟨(some 6), none, .bin .lss (.t 5) (.c (.i .i64 (8)))⟩])
 (.cond (.t 6)
 .skip
 (.exit 0)))
 (.seq (.blk 1
 (.reg [⟨(some 9), none, .mov (.t 4)⟩,
 ⟨(some 10), none, .mov (.t 4)⟩,
 ⟨(some 11), none, .idx (.t 1) (.t 10) 8 64⟩,
 ⟨(some 12), none, .lda (.t 11) 0 64⟩,
 ⟨(some 13), none, .call 26 [(.t 12)]⟩,
 ⟨(some 14), none, .idx (.t 3) (.t 9) 8 64⟩,
 ⟨none, none, .sta (.t 14) (.t 13) 64⟩]))
 (.reg [⟨(some 7), none, .mov (.t 4)⟩,
 ⟨(some 8), none, .bin .add (.t 7) (.c (.i .i64 (1)))⟩,
 ⟨(some 4), none, .mov (.t 8)⟩]))))))
 (.seq (.reg [⟨(some 15), none, .lda (.t 3) 0 512⟩,
 ⟨none, none, .sta (.t 2) (.t 15) 512⟩])
 .ret))))⟩
def pf_l_toModule : PF := ⟨1, 12, [.c 2 1 513],
 (.seq (.reg [⟨(some 1), none, .box (.t 0)⟩,
 ⟨(some 2), none, .alo (.by 1 513)⟩])
 (.seq (.reg [⟨(some 3), none, .alo (.by 1 513)⟩])
 (.seq (.reg [⟨(some 4), none, .add (.t 1) 0⟩,
 ⟨(some 5), none, .ld1 (.t 4)⟩,
 ⟨(some 6), none, .add (.t 3) 0⟩,
 ⟨none, none, .st1 (.t 6) (.t 5)⟩])
 (.seq (.reg [⟨(some 7), none, .add (.t 1) 1⟩,
 ⟨(some 8), none, .lda (.t 7) 0 512⟩,
 ⟨(some 9), none, .call 144 [(.t 8)]⟩,
 ⟨(some 10), none, .add (.t 3) 1⟩,
 ⟨none, none, .sta (.t 10) (.t 9) 512⟩])
 (.seq (.reg [⟨(some 11), none, .lda (.t 3) 1 513⟩,
 ⟨none, none, .sta (.t 2) (.t 11) 513⟩])
 .ret)))))⟩
def pf_s_l03Algebra : PF := ⟨1, 12, [.c 2 2 522],
 (.seq (.reg [⟨(some 1), none, .box (.t 0)⟩,
 ⟨(some 2), none, .alo (.by 2 522)⟩])
 (.seq (.reg [⟨(some 3), none, .add (.t 1) 0⟩,
 ⟨(some 4), none, .ld1 (.t 3)⟩,
 ⟨(some 5), none, .add (.t 1) 1⟩,
 ⟨(some 6), none, .ld1 (.t 5)⟩,
 ⟨(some 7), none, .add (.t 1) 2⟩,
 ⟨(some 8), none, .lda (.t 7) 0 8⟩,
 ⟨(some 9), none, .add (.t 1) 10⟩,
 ⟨(some 10), none, .lda (.t 9) 0 512⟩,
 ⟨(some 11), none, .bld 2 522 [(0, 1, (.t 4)), (1, 1, (.t 6)), (2, 8, (.t 8)), (10, 512, (.t 10))]⟩,
 ⟨none, none, .sta (.t 2) (.t 11) 522⟩])
 .ret))⟩
def pf_s_l01In : PF := ⟨3, 15, [.t 6],
 (.seq (.reg [⟨(some 6), none, .mov (.c (.b false))⟩])
 (.seq (.reg [⟨(some 7), none, .mov (.t 0)⟩,
 ⟨(some 8), none, .mov (.t 1)⟩,
 ⟨(some 9), none, .bin .geq (.t 7) (.t 8)⟩,
 ⟨(some 10), none, .mov (.t 9)⟩,
 ⟨(some 11), (some (10, true)), .mov (.t 0)⟩,
 ⟨(some 12), (some (10, true)), .mov (.t 2)⟩,
 ⟨(some 13), (some (10, true)), .bin .leq (.t 11) (.t 12)⟩,
 ⟨(some 14), none, .pick (.t 10) (.t 13) (.c (.b false))⟩,
 ⟨(some 6), none, .mov (.t 14)⟩])
 .ret))⟩
def pf_s_l01Prime : PF := ⟨1, 19, [.t 2],
 (.seq (.reg [⟨(some 2), none, .mov (.c (.b false))⟩])
 (.seq (.seq (.reg [⟨(some 3), none, .mov (.c (.i .i64 (2)))⟩])
 (.blk 0
 (.loop
 (.seq (.seq (.reg [⟨(some 4), none, .mov (.t 3)⟩,
 ⟨(some 5), none, .mov (.t 0)⟩,
 ⟨(some 6), none, .bin .lss (.t 4) (.t 5)⟩,
 ⟨(some 7), none, .mov (.t 6)⟩,
 ⟨(some 8), (some (7, true)), .mov (.t 3)⟩,
 ⟨(some 9), (some (7, true)), .bin .leq (.t 8) (.c (.i .i64 (31)))⟩,
 ⟨(some 10), none, .pick (.t 7) (.t 9) (.c (.b false))⟩])
 (.cond (.t 10)
 .skip
 (.exit 0)))
 (.seq (.blk 1
 (.seq (.reg [⟨(some 13), none, .mov (.t 0)⟩,
 ⟨(some 14), none, .mov (.t 3)⟩,
 ⟨(some 15), none, .bin .rem (.t 13) (.t 14)⟩,
 ⟨(some 16), none, .bin .eql (.t 15) (.c (.i .i64 (0)))⟩])
 (.cond (.t 16)
 (.seq (.reg [⟨(some 2), none, .mov (.c (.b false))⟩])
 .ret)
 .skip)))
 (.reg [⟨(some 11), none, .mov (.t 3)⟩,
 ⟨(some 12), none, .bin .add (.t 11) (.c (.i .i64 (1)))⟩,
 ⟨(some 3), none, .mov (.t 12)⟩]))))))
 (.seq (.reg [⟨(some 17), none, .mov (.t 0)⟩,
 ⟨(some 18), none, .call 96 [(.t 17), (.c (.i .i64 (2))), (.c (.i .i64 (31)))]⟩,
 ⟨(some 2), none, .mov (.t 18)⟩])
 .ret)))⟩
def pf_s_l01Sizes : PF := ⟨2, 11, [.t 4],
 (.seq (.reg [⟨(some 4), none, .mov (.c (.b false))⟩])
 (.seq (.reg [⟨(some 5), none, .mov (.t 0)⟩,
 ⟨(some 6), none, .call 95 [(.t 5)]⟩,
 ⟨(some 7), none, .mov (.t 6)⟩,
 ⟨(some 8), (some (7, true)), .mov (.t 1)⟩,
 ⟨(some 9), (some (7, true)), .call 96 [(.t 8), (.c (.i .i64 (1))), (.c (.i .i64 (8)))]⟩,
 ⟨(some 10), none, .pick (.t 7) (.t 9) (.c (.b false))⟩,
 ⟨(some 4), none, .mov (.t 10)⟩])
 .ret))⟩
def pf_s_l01Vector : PF := ⟨3, 29, [.t 6],
 (.seq (.reg [⟨(some 5), none, .box (.t 2)⟩,
 ⟨(some 6), none, .mov (.c (.b false))⟩])
 (.seq (.seq (.reg [⟨(some 7), none, .mov (.c (.i .i64 (0)))⟩])
 (.blk 0
 (.loop
 (.seq (.seq (.reg [⟨(some 8), none, .mov (.t 7)⟩,
 ⟨(some 9), none, .bin .lss (.t 8) (.c (.i .i64 (8)))⟩])
 (.cond (.t 9)
 .skip
 (.exit 0)))
 (.seq (.blk 1
 (.seq (.reg [⟨(some 12), none, .mov (.t 7)⟩,
 ⟨(some 13), none, .idx (.t 5) (.t 12) 8 1⟩,
 ⟨(some 14), none, .ld8 (.t 13)⟩,
 ⟨(some 15), none, .cvt .i64 (.t 14)⟩,
 ⟨(some 16), none, .mov (.t 0)⟩,
 ⟨(some 17), none, .bin .geq (.t 15) (.t 16)⟩,
 ⟨(some 18), none, .mov (.t 17)⟩,
 ⟨(some 19), (some (18, false)), .mov (.t 7)⟩,
 ⟨(some 20), (some (18, false)), .mov (.t 1)⟩,
 ⟨(some 21), (some (18, false)), .bin .geq (.t 19) (.t 20)⟩,
 ⟨(some 22), (some (18, false)), .mov (.t 21)⟩,
 ⟨(some 23), (some (22, true)), .mov (.t 7)⟩,
 ⟨(some 24), (some (22, true)), .idx (.t 5) (.t 23) 8 1⟩,
 ⟨(some 25), (some (22, true)), .ld8 (.t 24)⟩,
 ⟨(some 26), (some (22, true)), .bin .neq (.t 25) (.c (.u 0))⟩,
 ⟨(some 27), (some (18, false)), .pick (.t 22) (.t 26) (.c (.b false))⟩,
 ⟨(some 28), none, .pick (.t 18) (.c (.b true)) (.t 27)⟩])
 (.cond (.t 28)
 (.seq (.reg [⟨(some 6), none, .mov (.c (.b false))⟩])
 .ret)
 .skip)))
 (.reg [⟨(some 10), none, .mov (.t 7)⟩,
 ⟨(some 11), none, .bin .add (.t 10) (.c (.i .i64 (1)))⟩,
 ⟨(some 7), none, .mov (.t 11)⟩]))))))
 (.seq (.reg [⟨(some 6), none, .mov (.c (.b true))⟩])
 .ret)))⟩
def pf_s_l01Linear : PF := ⟨3, 31, [.t 6],
 (.seq (.reg [⟨(some 5), none, .box (.t 2)⟩,
 ⟨(some 6), none, .mov (.c (.b false))⟩])
 (.seq (.seq (.reg [⟨(some 7), none, .mov (.c (.i .i64 (0)))⟩])
 (.blk 0
 (.loop
 (.seq (.seq (.reg [⟨(some 8), none, .mov (.t 7)⟩,
 ⟨(some 9), none, .bin .lss (.t 8) (.c (.i .i64 (8)))⟩])
 (.cond (.t 9)
 .skip
 (.exit 0)))
 (.seq (.blk 1
 (.seq (.reg [⟨(some 12), none, .mov (.t 0)⟩,
 ⟨(some 13), none, .mov (.t 1)⟩,
 ⟨(some 14), none, .mov (.t 7)⟩,
 ⟨(some 15), none, .idx (.t 5) (.t 14) 8 8⟩,
 ⟨(some 16), none, .lda (.t 15) 0 8⟩,
 ⟨(some 17), none, .call 53 [(.t 12), (.t 13), (.t 16)]⟩,
 ⟨(some 18), none, .nt (.t 17)⟩,
 ⟨(some 19), none, .mov (.t 18)⟩,
 ⟨(some 20), (some (19, false)), .mov (.t 7)⟩,
 ⟨(some 21), (some (19, false)), .mov (.t 1)⟩,
 ⟨(some 22), (some (19, false)), .bin .geq (.t 20) (.t 21)⟩,
 ⟨(some 23), (some (19, false)), .mov (.t 22)⟩,
 ⟨(some 24), (some (23, true)), .mov (.t 7)⟩,
 ⟨(some 25), (some (23, true)), .idx (.t 5) (.t 24) 8 8⟩,
 ⟨(some 26), (some (23, true)), .lda (.t 25) 0 8⟩,
 ⟨(some 27), (some (23, true)), .bld 0 8 []⟩,
 ⟨(some 28), (some (23, true)), .eqa true 8 (.t 26) (.t 27)⟩,
 ⟨(some 29), (some (19, false)), .pick (.t 23) (.t 28) (.c (.b false))⟩,
 ⟨(some 30), none, .pick (.t 19) (.c (.b true)) (.t 29)⟩])
 (.cond (.t 30)
 (.seq (.reg [⟨(some 6), none, .mov (.c (.b false))⟩])
 .ret)
 .skip)))
 (.reg [⟨(some 10), none, .mov (.t 7)⟩,
 ⟨(some 11), none, .bin .add (.t 10) (.c (.i .i64 (1)))⟩,
 ⟨(some 7), none, .mov (.t 11)⟩]))))))
 (.seq (.reg [⟨(some 6), none, .mov (.c (.b true))⟩])
 .ret)))⟩
def pf_s_l01Table : PF := ⟨3, 31, [.t 6],
 (.seq (.reg [⟨(some 5), none, .box (.t 2)⟩,
 ⟨(some 6), none, .mov (.c (.b false))⟩])
 (.seq (.seq (.reg [⟨(some 7), none, .mov (.c (.i .i64 (0)))⟩])
 (.blk 0
 (.loop
 (.seq (.seq (.reg [⟨(some 8), none, .mov (.t 7)⟩,
 ⟨(some 9), none, .bin .lss (.t 8) (.c (.i .i64 (8)))⟩])
 (.cond (.t 9)
 .skip
 (.exit 0)))
 (.seq (.blk 1
 (.seq (.reg [⟨(some 12), none, .mov (.t 0)⟩,
 ⟨(some 13), none, .mov (.t 1)⟩,
 ⟨(some 14), none, .mov (.t 7)⟩,
 ⟨(some 15), none, .idx (.t 5) (.t 14) 8 64⟩,
 ⟨(some 16), none, .lda (.t 15) 0 64⟩,
 ⟨(some 17), none, .call 64 [(.t 12), (.t 13), (.t 16)]⟩,
 ⟨(some 18), none, .nt (.t 17)⟩,
 ⟨(some 19), none, .mov (.t 18)⟩,
 ⟨(some 20), (some (19, false)), .mov (.t 7)⟩,
 ⟨(some 21), (some (19, false)), .mov (.t 1)⟩,
 ⟨(some 22), (some (19, false)), .bin .geq (.t 20) (.t 21)⟩,
 ⟨(some 23), (some (19, false)), .mov (.t 22)⟩,
 ⟨(some 24), (some (23, true)), .mov (.t 7)⟩,
 ⟨(some 25), (some (23, true)), .idx (.t 5) (.t 24) 8 64⟩,
 ⟨(some 26), (some (23, true)), .lda (.t 25) 0 64⟩,
 ⟨(some 27), (some (23, true)), .bld 0 64 []⟩,
 ⟨(some 28), (some (23, true)), .eqa true 64 (.t 26) (.t 27)⟩,
 ⟨(some 29), (some (19, false)), .pick (.t 23) (.t 28) (.c (.b false))⟩,
 ⟨(some 30), none, .pick (.t 19) (.c (.b true)) (.t 29)⟩])
 (.cond (.t 30)
 (.seq (.reg [⟨(some 6), none, .mov (.c (.b false))⟩])
 .ret)
 .skip)))
 (.reg [⟨(some 10), none, .mov (.t 7)⟩,
 ⟨(some 11), none, .bin .add (.t 10) (.c (.i .i64 (1)))⟩,
 ⟨(some 7), none, .mov (.t 11)⟩]))))))
 (.seq (.reg [⟨(some 6), none, .mov (.c (.b true))⟩])
 .ret)))⟩
def pf_s_l01Shape : PF := ⟨1, 26, [.t 2],
 (.seq (.reg [⟨(some 1), none, .box (.t 0)⟩,
 ⟨(some 2), none, .mov (.c (.b false))⟩])
 (.seq (.reg [⟨(some 3), none, .add (.t 1) 0⟩,
 ⟨(some 4), none, .ld1 (.t 3)⟩,
 ⟨(some 5), none, .add (.t 1) 1⟩,
 ⟨(some 6), none, .ld1 (.t 5)⟩,
 ⟨(some 7), none, .call 75 [(.t 4), (.t 6)]⟩,
 ⟨(some 8), none, .mov (.t 7)⟩,
 ⟨(some 9), (some (8, true)), .add (.t 1) 0⟩,
 ⟨(some 10), (some (8, true)), .ld1 (.t 9)⟩,
 ⟨(some 11), (some (8, true)), .add (.t 1) 1⟩,
 ⟨(some 12), (some (8, true)), .ld1 (.t 11)⟩,
 ⟨(some 13), (some (8, true)), .add (.t 1) 2⟩,
 ⟨(some 14), (some (8, true)), .lda (.t 13) 0 8⟩,
 ⟨(some 15), (some (8, true)), .call 53 [(.t 10), (.t 12), (.t 14)]⟩,
 ⟨(some 16), none, .pick (.t 8) (.t 15) (.c (.b false))⟩,
 ⟨(some 17), none, .mov (.t 16)⟩,
 ⟨(some 18), (some (17, true)), .add (.t 1) 0⟩,
 ⟨(some 19), (some (17, true)), .ld1 (.t 18)⟩,
 ⟨(some 20), (some (17, true)), .add (.t 1) 1⟩,
 ⟨(some 21), (some (17, true)), .ld1 (.t 20)⟩,
 ⟨(some 22), (some (17, true)), .add (.t 1) 10⟩,
 ⟨(some 23), (some (17, true)), .lda (.t 22) 0 512⟩,
 ⟨(some 24), (some (17, true)), .call 63 [(.t 19), (.t 21), (.t 23)]⟩,
 ⟨(some 25), none, .pick (.t 17) (.t 24) (.c (.b false))⟩,
 ⟨(some 2), none, .mov (.t 25)⟩])
 .ret))⟩
def pf_s_l03Shape : PF := ⟨1, 33, [.t 2],
 (.seq (.reg [⟨(some 1), none, .box (.t 0)⟩,
 ⟨(some 2), none, .mov (.c (.b false))⟩])
 (.seq (.drw [0, 1, 0, 4, 3, 31]
 []
 [(0, ⟨(some 5), none, .add (.t 1) 0⟩),
 (1, ⟨(some 6), none, .ld1 (.t 5)⟩),
 (2, ⟨(some 7), none, .add (.t 1) 1⟩),
 (3, ⟨(some 8), none, .ld1 (.t 7)⟩),
 (4, ⟨(some 3), none, .mov (.t 6)⟩)]
 []
 [(5, ⟨(some 4), none, .mov (.t 8)⟩)])
 (.seq (.reg [⟨(some 9), none, .lda (.t 1) 2 1106⟩,
 ⟨(some 10), none, .call 35 [(.t 9)]⟩,
 ⟨(some 11), none, .call 62 [(.t 10)]⟩,
 ⟨(some 12), none, .mov (.t 11)⟩,
 ⟨(some 13), (some (12, true)), .mov (.t 3)⟩,
 ⟨(some 14), (some (12, true)), .mov (.t 4)⟩,
 ⟨(some 15), (some (12, true)), .add (.t 1) 522⟩,
 ⟨(some 16), (some (12, true)), .lda (.t 15) 0 8⟩,
 ⟨(some 17), (some (12, true)), .call 53 [(.t 13), (.t 14), (.t 16)]⟩,
 ⟨(some 18), none, .pick (.t 12) (.t 17) (.c (.b false))⟩,
 ⟨(some 19), none, .mov (.t 18)⟩,
 ⟨(some 20), (some (19, true)), .mov (.t 3)⟩,
 ⟨(some 21), (some (19, true)), .mov (.t 4)⟩,
 ⟨(some 22), (some (19, true)), .add (.t 1) 530⟩,
 ⟨(some 23), (some (19, true)), .lda (.t 22) 0 512⟩,
 ⟨(some 24), (some (19, true)), .call 63 [(.t 20), (.t 21), (.t 23)]⟩,
 ⟨(some 25), none, .pick (.t 19) (.t 24) (.c (.b false))⟩,
 ⟨(some 26), none, .mov (.t 25)⟩,
 ⟨(some 27), (some (26, true)), .mov (.t 3)⟩,
 ⟨(some 28), (some (26, true)), .mov (.t 4)⟩,
 ⟨(some 29), (some (26, true)), .add (.t 1) 1042⟩,
 ⟨(some 30), (some (26, true)), .lda (.t 29) 0 64⟩,
 ⟨(some 31), (some (26, true)), .call 64 [(.t 27), (.t 28), (.t 30)]⟩,
 ⟨(some 32), none, .pick (.t 26) (.t 31) (.c (.b false))⟩,
 ⟨(some 2), none, .mov (.t 32)⟩])
 .ret)))⟩
def pf_s_l01Basis : PF := ⟨1, 8, [.c 2 0 8],
 (.seq (.reg [⟨(some 2), none, .alo (.by 0 8)⟩])
 (.seq (.reg [⟨(some 4), none, .bld 0 8 []⟩,
 ⟨(some 3), none, .alo (.by 0 8)⟩,
 ⟨none, none, .sta (.t 3) (.t 4) 8⟩])
 (.seq (.reg [⟨(some 5), none, .mov (.t 0)⟩,
 ⟨(some 6), none, .idx (.t 3) (.t 5) 8 1⟩,
 ⟨none, none, .st8 (.t 6) (.c (.u 1))⟩])
 (.seq (.reg [⟨(some 7), none, .lda (.t 3) 0 8⟩,
 ⟨none, none, .sta (.t 2) (.t 7) 8⟩])
 .ret))))⟩
def pf_s_l01Mod : PF := ⟨2, 13, [.t 4],
 (.seq (.reg [⟨(some 4), none, .mov (.c (.u 0))⟩])
 (.seq (.reg [⟨(some 5), none, .mov (.t 1)⟩,
 ⟨(some 6), none, .mov (.t 0)⟩,
 ⟨(some 7), none, .bin .rem (.t 5) (.t 6)⟩,
 ⟨(some 8), none, .mov (.t 0)⟩,
 ⟨(some 9), none, .bin .add (.t 7) (.t 8)⟩,
 ⟨(some 10), none, .mov (.t 0)⟩,
 ⟨(some 11), none, .bin .rem (.t 9) (.t 10)⟩,
 ⟨(some 12), none, .cvt .u8 (.t 11)⟩,
 ⟨(some 4), none, .mov (.t 12)⟩])
 .ret))⟩
def pf_s_l01Add : PF := ⟨4, 30, [.c 8 0 8],
 (.seq (.reg [⟨(some 5), none, .box (.t 1)⟩,
 ⟨(some 6), none, .box (.t 2)⟩,
 ⟨(some 8), none, .alo (.by 0 8)⟩])
 (.seq (.seq (.reg [⟨(some 9), none, .mov (.c (.i .i64 (0)))⟩])
 (.blk 0
 (.loop
 (.seq (.seq (.reg [⟨(some 10), none, .mov (.t 9)⟩,
 ⟨(some 11), none, .bin .lss (.t 10) (.c (.i .i64 (8)))⟩])
 (.cond (.t 11)
 .skip
 (.exit 0)))
 (.seq (.blk 1
 (.drw [0, 0, 0, 4, 12, 28, 0, 0, 128, 384, 896, 1984, 4092, 8190, 16383, 32767]
 []
 [(0, ⟨(some 14), none, .mov (.t 9)⟩),
 (1, ⟨(some 15), none, .mov (.t 0)⟩),
 (2, ⟨(some 16), none, .mov (.t 9)⟩),
 (3, ⟨(some 17), none, .idx (.t 5) (.t 16) 8 1⟩),
 (4, ⟨(some 18), none, .ld8 (.t 17)⟩),
 (5, ⟨(some 19), none, .cvt .i64 (.t 18)⟩),
 (6, ⟨(some 20), none, .mov (.t 3)⟩),
 (7, ⟨(some 21), none, .mov (.t 9)⟩),
 (8, ⟨(some 22), none, .idx (.t 6) (.t 21) 8 1⟩),
 (9, ⟨(some 23), none, .ld8 (.t 22)⟩),
 (10, ⟨(some 24), none, .cvt .i64 (.t 23)⟩),
 (11, ⟨(some 25), none, .bin .mul (.t 20) (.t 24)⟩),
 (12, ⟨(some 26), none, .bin .add (.t 19) (.t 25)⟩),
 (13, ⟨(some 27), none, .call 72 [(.t 15), (.t 26)]⟩)]
 []
 [(14, ⟨(some 28), none, .idx (.t 5) (.t 14) 8 1⟩),
 (15, ⟨none, none, .st8 (.t 28) (.t 27)⟩)]))
 (.reg [⟨(some 12), none, .mov (.t 9)⟩,
 ⟨(some 13), none, .bin .add (.t 12) (.c (.i .i64 (1)))⟩,
 ⟨(some 9), none, .mov (.t 13)⟩]))))))
 (.seq (.reg [⟨(some 29), none, .lda (.t 5) 0 8⟩,
 ⟨none, none, .sta (.t 8) (.t 29) 8⟩])
 .ret)))⟩
def pf_s_l01Apply : PF := ⟨4, 32, [.c 8 0 8],
 (.seq (.reg [⟨(some 6), none, .box (.t 2)⟩,
 ⟨(some 7), none, .box (.t 3)⟩,
 ⟨(some 8), none, .alo (.by 0 8)⟩])
 (.seq (.reg [⟨(some 11), none, .bld 0 8 []⟩,
 ⟨(some 9), none, .alo (.by 0 8)⟩,
 ⟨none, none, .sta (.t 9) (.t 11) 8⟩])
 (.seq (.seq (.reg [⟨(some 10), none, .mov (.c (.i .i64 (0)))⟩])
 (.blk 0
 (.loop
 (.seq (.seq (.reg [⟨(some 12), none, .mov (.t 10)⟩,
 ⟨(some 13), none, .mov (.t 1)⟩,
 ⟨(some 14), none, .bin .lss (.t 12) (.t 13)⟩])
 (.cond (.t 14)
 .skip
 (.exit 0)))
 (.seq (.blk 1
 (.seq (.reg [⟨(some 17), none, .mov (.t 10)⟩,
 ⟨(some 18), none, .idx (.t 7) (.t 17) 8 1⟩,
 ⟨(some 19), none, .ld8 (.t 18)⟩,
 ⟨(some 20), none, .bin .neq (.t 19) (.c (.u 0))⟩])
 (.cond (.t 20)
 (.drw [0, 0, 0, 4, 12, 0, 32, 96, 224, 511, 1023]
 []
 [(0, ⟨(some 21), none, .mov (.t 0)⟩),
 (1, ⟨(some 22), none, .lda (.t 9) 0 8⟩),
 (2, ⟨(some 23), none, .mov (.t 10)⟩),
 (3, ⟨(some 24), none, .idx (.t 6) (.t 23) 8 8⟩),
 (4, ⟨(some 25), none, .lda (.t 24) 0 8⟩),
 (5, ⟨(some 26), none, .mov (.t 10)⟩),
 (6, ⟨(some 27), none, .idx (.t 7) (.t 26) 8 1⟩),
 (7, ⟨(some 28), none, .ld8 (.t 27)⟩),
 (8, ⟨(some 29), none, .cvt .i64 (.t 28)⟩)]
 []
 [(9, ⟨(some 30), none, .call 57 [(.t 21), (.t 22), (.t 25), (.t 29)]⟩),
 (10, ⟨none, none, .sta (.t 9) (.t 30) 8⟩)])
 .skip)))
 (.reg [⟨(some 15), none, .mov (.t 10)⟩,
 ⟨(some 16), none, .bin .add (.t 15) (.c (.i .i64 (1)))⟩,
 ⟨(some 10), none, .mov (.t 16)⟩]))))))
 (.seq (.reg [⟨(some 31), none, .lda (.t 9) 0 8⟩,
 ⟨none, none, .sta (.t 8) (.t 31) 8⟩])
 .ret))))⟩
def pf_s_l01Times : PF := ⟨3, 39, [.c 6 0 8],
 (.seq (.reg [⟨(some 3), none, .box (.t 0)⟩,
 ⟨(some 4), none, .box (.t 1)⟩,
 ⟨(some 5), none, .box (.t 2)⟩,
 ⟨(some 6), none, .alo (.by 0 8)⟩])
 (.seq (.reg [⟨(some 9), none, .bld 0 8 []⟩,
 ⟨(some 7), none, .alo (.by 0 8)⟩,
 ⟨none, none, .sta (.t 7) (.t 9) 8⟩])
 (.seq (.seq (.reg [⟨(some 8), none, .mov (.c (.i .i64 (0)))⟩])
 (.blk 0
 (.loop
 (.seq (.seq (.reg [⟨(some 10), none, .mov (.t 8)⟩,
 ⟨(some 11), none, .add (.t 3) 1⟩,
 ⟨(some 12), none, .ld1 (.t 11)⟩,
 ⟨(some 13), none, .bin .lss (.t 10) (.t 12)⟩])
 (.cond (.t 13)
 .skip
 (.exit 0)))
 (.seq (.blk 1
 (.seq (.reg [⟨(some 16), none, .mov (.t 8)⟩,
 ⟨(some 17), none, .idx (.t 4) (.t 16) 8 1⟩,
 ⟨(some 18), none, .ld8 (.t 17)⟩,
 ⟨(some 19), none, .bin .neq (.t 18) (.c (.u 0))⟩])
 (.cond (.t 19)
 (.drw [0, 1, 0, 0, 8, 0, 32, 0, 0, 384, 896, 0, 4088, 0, 8192, 24576, 57344, 131071, 262143]
 []
 [(0, ⟨(some 20), none, .add (.t 3) 0⟩),
 (1, ⟨(some 21), none, .ld1 (.t 20)⟩),
 (2, ⟨(some 22), none, .lda (.t 7) 0 8⟩),
 (3, ⟨(some 23), none, .add (.t 3) 0⟩),
 (4, ⟨(some 24), none, .ld1 (.t 23)⟩),
 (5, ⟨(some 25), none, .add (.t 3) 1⟩),
 (6, ⟨(some 26), none, .ld1 (.t 25)⟩),
 (7, ⟨(some 27), none, .mov (.t 8)⟩),
 (8, ⟨(some 28), none, .add (.t 3) 10⟩),
 (9, ⟨(some 29), none, .idx (.t 28) (.t 27) 8 64⟩),
 (10, ⟨(some 30), none, .lda (.t 29) 0 64⟩),
 (11, ⟨(some 31), none, .lda (.t 5) 0 8⟩),
 (12, ⟨(some 32), none, .call 51 [(.t 24), (.t 26), (.t 30), (.t 31)]⟩),
 (13, ⟨(some 33), none, .mov (.t 8)⟩),
 (14, ⟨(some 34), none, .idx (.t 4) (.t 33) 8 1⟩),
 (15, ⟨(some 35), none, .ld8 (.t 34)⟩),
 (16, ⟨(some 36), none, .cvt .i64 (.t 35)⟩)]
 []
 [(17, ⟨(some 37), none, .call 57 [(.t 21), (.t 22), (.t 32), (.t 36)]⟩),
 (18, ⟨none, none, .sta (.t 7) (.t 37) 8⟩)])
 .skip)))
 (.reg [⟨(some 14), none, .mov (.t 8)⟩,
 ⟨(some 15), none, .bin .add (.t 14) (.c (.i .i64 (1)))⟩,
 ⟨(some 8), none, .mov (.t 15)⟩]))))))
 (.seq (.reg [⟨(some 38), none, .lda (.t 7) 0 8⟩,
 ⟨none, none, .sta (.t 6) (.t 38) 8⟩])
 .ret))))⟩
def pf_s_l01Fault : PF := ⟨1, 50, [.t 2, .t 3],
 (.seq (.reg [⟨(some 1), none, .box (.t 0)⟩,
 ⟨(some 2), none, .mov (.c .sn)⟩,
 ⟨(some 3), none, .mov (.c (.b false))⟩])
 (.seq (.seq (.reg [⟨(some 4), none, .mov (.c (.i .i64 (0)))⟩])
 (.blk 0
 (.loop
 (.seq (.seq (.reg [⟨(some 7), none, .mov (.t 4)⟩,
 ⟨(some 8), none, .add (.t 1) 1⟩,
 ⟨(some 9), none, .ld1 (.t 8)⟩,
 ⟨(some 10), none, .bin .lss (.t 7) (.t 9)⟩])
 (.cond (.t 10)
 .skip
 (.exit 0)))
 (.seq (.blk 1
 (.seq (.reg [⟨(some 5), none, .mov (.c (.i .i64 (0)))⟩])
 (.blk 2
 (.loop
 (.seq (.seq (.reg [⟨(some 13), none, .mov (.t 5)⟩,
 ⟨(some 14), none, .add (.t 1) 1⟩,
 ⟨(some 15), none, .ld1 (.t 14)⟩,
 ⟨(some 16), none, .bin .lss (.t 13) (.t 15)⟩])
 (.cond (.t 16)
 .skip
 (.exit 2)))
 (.seq (.blk 3
 (.seq (.reg [⟨(some 6), none, .mov (.c (.i .i64 (0)))⟩])
 (.blk 4
 (.loop
 (.seq (.seq (.reg [⟨(some 19), none, .mov (.t 6)⟩,
 ⟨(some 20), none, .add (.t 1) 1⟩,
 ⟨(some 21), none, .ld1 (.t 20)⟩,
 ⟨(some 22), none, .bin .lss (.t 19) (.t 21)⟩])
 (.cond (.t 22)
 .skip
 (.exit 4)))
 (.seq (.blk 5
 (.seq (.drw [0, 0, 0, 0, 10, 30, 62, 0, 128, 511, 0, 0, 3071, 0, 0, 0, 40960, 122880, 253952, 524287, 1048575]
 []
 [(0, ⟨(some 25), none, .lda (.t 1) 2 522⟩),
 (1, ⟨(some 26), none, .mov (.t 4)⟩),
 (2, ⟨(some 27), none, .mov (.t 5)⟩),
 (3, ⟨(some 28), none, .add (.t 1) 10⟩),
 (4, ⟨(some 29), none, .idx (.t 28) (.t 26) 8 64⟩),
 (5, ⟨(some 30), none, .idx (.t 29) (.t 27) 8 8⟩),
 (6, ⟨(some 31), none, .lda (.t 30) 0 8⟩),
 (7, ⟨(some 32), none, .mov (.t 6)⟩),
 (8, ⟨(some 33), none, .call 55 [(.t 32)]⟩),
 (9, ⟨(some 34), none, .call 56 [(.t 25), (.t 31), (.t 33)]⟩),
 (10, ⟨(some 35), none, .lda (.t 1) 2 522⟩),
 (11, ⟨(some 36), none, .mov (.t 4)⟩),
 (12, ⟨(some 37), none, .call 55 [(.t 36)]⟩),
 (13, ⟨(some 38), none, .mov (.t 5)⟩),
 (14, ⟨(some 39), none, .mov (.t 6)⟩),
 (15, ⟨(some 40), none, .add (.t 1) 10⟩),
 (16, ⟨(some 41), none, .idx (.t 40) (.t 38) 8 64⟩),
 (17, ⟨(some 42), none, .idx (.t 41) (.t 39) 8 8⟩),
 (18, ⟨(some 43), none, .lda (.t 42) 0 8⟩)]
 []
 [(19, ⟨(some 44), none, .call 56 [(.t 35), (.t 37), (.t 43)]⟩),
 (20, ⟨(some 45), none, .eqa true 8 (.t 34) (.t 44)⟩)])
 (.cond (.t 45)
 (.seq (.reg [⟨(some 46), none, .mov (.t 4)⟩,
 ⟨(some 47), none, .mov (.t 5)⟩,
 ⟨(some 48), none, .mov (.t 6)⟩,
 ⟨(some 49), none, .bsa [(.t 46), (.t 47), (.t 48)]⟩,
 ⟨(some 2), none, .mov (.t 49)⟩,
 ⟨(some 3), none, .mov (.c (.b true))⟩])
 .ret)
 .skip)))
 (.reg [⟨(some 23), none, .mov (.t 6)⟩,
 ⟨(some 24), none, .bin .add (.t 23) (.c (.i .i64 (1)))⟩,
 ⟨(some 6), none, .mov (.t 24)⟩])))))))
 (.reg [⟨(some 17), none, .mov (.t 5)⟩,
 ⟨(some 18), none, .bin .add (.t 17) (.c (.i .i64 (1)))⟩,
 ⟨(some 5), none, .mov (.t 18)⟩])))))))
 (.reg [⟨(some 11), none, .mov (.t 4)⟩,
 ⟨(some 12), none, .bin .add (.t 11) (.c (.i .i64 (1)))⟩,
 ⟨(some 4), none, .mov (.t 12)⟩]))))))
 (.seq (.reg [⟨(some 2), none, .mov (.c .sn)⟩,
 ⟨(some 3), none, .mov (.c (.b false))⟩])
 .ret)))⟩
def pf_s_l01Is : PF := ⟨1, 42, [.t 2],
 (.seq (.reg [⟨(some 1), none, .box (.t 0)⟩,
 ⟨(some 2), none, .mov (.c (.b false))⟩])
 (.seq (.seq (.reg [⟨(some 6), none, .lda (.t 1) 2 522⟩,
 ⟨(some 7), none, .call 62 [(.t 6)]⟩,
 ⟨(some 8), none, .nt (.t 7)⟩])
 (.cond (.t 8)
 (.seq (.reg [⟨(some 2), none, .mov (.c (.b false))⟩])
 .ret)
 .skip))
 (.seq (.seq (.reg [⟨(some 3), none, .mov (.c (.i .i64 (0)))⟩])
 (.blk 0
 (.loop
 (.seq (.seq (.reg [⟨(some 9), none, .mov (.t 3)⟩,
 ⟨(some 10), none, .add (.t 1) 1⟩,
 ⟨(some 11), none, .ld1 (.t 10)⟩,
 ⟨(some 12), none, .bin .lss (.t 9) (.t 11)⟩])
 (.cond (.t 12)
 .skip
 (.exit 0)))
 (.seq (.blk 1
 (.seq (.drw [0, 0, 2, 0, 8, 31, 0, 127, 255, 511, 1023, 1023, 3071, 1023, 9215, 32767, 1023, 131071, 262143, 524287]
 []
 [(0, ⟨(some 15), none, .lda (.t 1) 2 522⟩),
 (1, ⟨(some 16), none, .add (.t 1) 2⟩),
 (2, ⟨(some 17), none, .lda (.t 16) 0 8⟩),
 (3, ⟨(some 18), none, .mov (.t 3)⟩),
 (4, ⟨(some 19), none, .call 55 [(.t 18)]⟩),
 (5, ⟨(some 20), none, .call 56 [(.t 15), (.t 17), (.t 19)]⟩),
 (6, ⟨(some 21), none, .mov (.t 3)⟩),
 (7, ⟨(some 22), none, .call 55 [(.t 21)]⟩),
 (8, ⟨(some 23), none, .eqa true 8 (.t 20) (.t 22)⟩),
 (9, ⟨(some 24), none, .mov (.t 23)⟩),
 (10, ⟨(some 25), (some (24, false)), .lda (.t 1) 2 522⟩),
 (11, ⟨(some 26), (some (24, false)), .mov (.t 3)⟩),
 (12, ⟨(some 27), (some (24, false)), .call 55 [(.t 26)]⟩),
 (13, ⟨(some 28), (some (24, false)), .add (.t 1) 2⟩),
 (14, ⟨(some 29), (some (24, false)), .lda (.t 28) 0 8⟩),
 (15, ⟨(some 30), (some (24, false)), .call 56 [(.t 25), (.t 27), (.t 29)]⟩),
 (16, ⟨(some 31), (some (24, false)), .mov (.t 3)⟩)]
 []
 [(17, ⟨(some 32), (some (24, false)), .call 55 [(.t 31)]⟩),
 (18, ⟨(some 33), (some (24, false)), .eqa true 8 (.t 30) (.t 32)⟩),
 (19, ⟨(some 34), none, .pick (.t 24) (.c (.b true)) (.t 33)⟩)])
 (.cond (.t 34)
 (.seq (.reg [⟨(some 2), none, .mov (.c (.b false))⟩])
 .ret)
 .skip)))
 (.reg [⟨(some 13), none, .mov (.t 3)⟩,
 ⟨(some 14), none, .bin .add (.t 13) (.c (.i .i64 (1)))⟩,
 ⟨(some 3), none, .mov (.t 14)⟩]))))))
 (.seq (.reg [⟨(some 36), none, .lda (.t 1) 2 522⟩,
 ⟨(some 37), none, .call 97 [(.t 36)]⟩,
 ⟨(some 35), none, .mov (.t 37)⟩,
 ⟨(some 38), none, .ext (.t 35) 0⟩,
 ⟨(some 39), none, .ext (.t 35) 1⟩,
 ⟨(some 4), none, .mov (.t 38)⟩,
 ⟨(some 5), none, .mov (.t 39)⟩])
 (.seq (.reg [⟨(some 40), none, .mov (.t 5)⟩,
 ⟨(some 41), none, .nt (.t 40)⟩,
 ⟨(some 2), none, .mov (.t 41)⟩])
 .ret)))))⟩
def pf_s_l03Coalgebra : PF := ⟨1, 12, [.c 2 2 522],
 (.seq (.reg [⟨(some 1), none, .box (.t 0)⟩,
 ⟨(some 2), none, .alo (.by 2 522)⟩])
 (.seq (.reg [⟨(some 3), none, .add (.t 1) 0⟩,
 ⟨(some 4), none, .ld1 (.t 3)⟩,
 ⟨(some 5), none, .add (.t 1) 1⟩,
 ⟨(some 6), none, .ld1 (.t 5)⟩,
 ⟨(some 7), none, .add (.t 1) 522⟩,
 ⟨(some 8), none, .lda (.t 7) 0 8⟩,
 ⟨(some 9), none, .add (.t 1) 530⟩,
 ⟨(some 10), none, .lda (.t 9) 0 512⟩,
 ⟨(some 11), none, .bld 2 522 [(0, 1, (.t 4)), (1, 1, (.t 6)), (2, 8, (.t 8)), (10, 512, (.t 10))]⟩,
 ⟨none, none, .sta (.t 2) (.t 11) 522⟩])
 .ret))⟩
def pf_s_l02Shape : PF := ⟨1, 26, [.t 2],
 (.seq (.reg [⟨(some 1), none, .box (.t 0)⟩,
 ⟨(some 2), none, .mov (.c (.b false))⟩])
 (.seq (.reg [⟨(some 3), none, .add (.t 1) 0⟩,
 ⟨(some 4), none, .ld1 (.t 3)⟩,
 ⟨(some 5), none, .add (.t 1) 1⟩,
 ⟨(some 6), none, .ld1 (.t 5)⟩,
 ⟨(some 7), none, .call 75 [(.t 4), (.t 6)]⟩,
 ⟨(some 8), none, .mov (.t 7)⟩,
 ⟨(some 9), (some (8, true)), .add (.t 1) 0⟩,
 ⟨(some 10), (some (8, true)), .ld1 (.t 9)⟩,
 ⟨(some 11), (some (8, true)), .add (.t 1) 1⟩,
 ⟨(some 12), (some (8, true)), .ld1 (.t 11)⟩,
 ⟨(some 13), (some (8, true)), .add (.t 1) 2⟩,
 ⟨(some 14), (some (8, true)), .lda (.t 13) 0 8⟩,
 ⟨(some 15), (some (8, true)), .call 53 [(.t 10), (.t 12), (.t 14)]⟩,
 ⟨(some 16), none, .pick (.t 8) (.t 15) (.c (.b false))⟩,
 ⟨(some 17), none, .mov (.t 16)⟩,
 ⟨(some 18), (some (17, true)), .add (.t 1) 0⟩,
 ⟨(some 19), (some (17, true)), .ld1 (.t 18)⟩,
 ⟨(some 20), (some (17, true)), .add (.t 1) 1⟩,
 ⟨(some 21), (some (17, true)), .ld1 (.t 20)⟩,
 ⟨(some 22), (some (17, true)), .add (.t 1) 10⟩,
 ⟨(some 23), (some (17, true)), .lda (.t 22) 0 512⟩,
 ⟨(some 24), (some (17, true)), .call 63 [(.t 19), (.t 21), (.t 23)]⟩,
 ⟨(some 25), none, .pick (.t 17) (.t 24) (.c (.b false))⟩,
 ⟨(some 2), none, .mov (.t 25)⟩])
 .ret))⟩
def pf_s_l02Sums : PF := ⟨5, 71, [.t 10, .t 11],
 (.seq (.reg [⟨(some 5), none, .box (.t 0)⟩,
 ⟨(some 10), none, .mov (.c (.u 0))⟩,
 ⟨(some 11), none, .mov (.c (.u 0))⟩])
 (.seq (.reg [⟨(some 12), none, .mov (.c (.i .i64 (0)))⟩,
 ⟨(some 13), none, .mov (.c (.i .i64 (0)))⟩])
 (.seq (.seq (.reg [⟨(some 14), none, .mov (.c (.i .i64 (0)))⟩])
 (.blk 0
 (.loop
 (.seq (.seq (.reg [⟨(some 15), none, .mov (.t 14)⟩,
 ⟨(some 16), none, .add (.t 5) 1⟩,
 ⟨(some 17), none, .ld1 (.t 16)⟩,
 ⟨(some 18), none, .bin .lss (.t 15) (.t 17)⟩])
 (.cond (.t 18)
 .skip
 (.exit 0)))
 (.seq (.blk 1
 (.seq (.drw [0, 0, 0, 0, 0, 18, 54, 126, 254, 510, 0, 0, 0, 0, 9216, 27648, 64512, 130048, 261120, 524286, 1048575, 2097151]
 []
 [(0, ⟨(some 21), none, .mov (.t 12)⟩),
 (1, ⟨(some 22), none, .mov (.t 1)⟩),
 (2, ⟨(some 23), none, .mov (.t 14)⟩),
 (3, ⟨(some 24), none, .mov (.t 4)⟩),
 (4, ⟨(some 25), none, .add (.t 5) 10⟩),
 (5, ⟨(some 26), none, .idx (.t 25) (.t 22) 8 64⟩),
 (6, ⟨(some 27), none, .idx (.t 26) (.t 23) 8 8⟩),
 (7, ⟨(some 28), none, .idx (.t 27) (.t 24) 8 1⟩),
 (8, ⟨(some 29), none, .ld8 (.t 28)⟩),
 (9, ⟨(some 30), none, .cvt .i64 (.t 29)⟩),
 (10, ⟨(some 31), none, .mov (.t 14)⟩),
 (11, ⟨(some 32), none, .mov (.t 2)⟩),
 (12, ⟨(some 33), none, .mov (.t 3)⟩),
 (13, ⟨(some 34), none, .add (.t 5) 10⟩),
 (14, ⟨(some 35), none, .idx (.t 34) (.t 31) 8 64⟩),
 (15, ⟨(some 36), none, .idx (.t 35) (.t 32) 8 8⟩),
 (16, ⟨(some 37), none, .idx (.t 36) (.t 33) 8 1⟩),
 (17, ⟨(some 38), none, .ld8 (.t 37)⟩),
 (18, ⟨(some 39), none, .cvt .i64 (.t 38)⟩),
 (19, ⟨(some 40), none, .bin .mul (.t 30) (.t 39)⟩)]
 []
 [(20, ⟨(some 41), none, .bin .add (.t 21) (.t 40)⟩),
 (21, ⟨(some 12), none, .mov (.t 41)⟩)])
 (.drw [0, 0, 0, 0, 0, 18, 54, 126, 254, 510, 0, 0, 0, 0, 9216, 27648, 64512, 130048, 261120, 524286, 1048575, 2097151]
 []
 [(0, ⟨(some 42), none, .mov (.t 13)⟩),
 (1, ⟨(some 43), none, .mov (.t 1)⟩),
 (2, ⟨(some 44), none, .mov (.t 2)⟩),
 (3, ⟨(some 45), none, .mov (.t 14)⟩),
 (4, ⟨(some 46), none, .add (.t 5) 10⟩),
 (5, ⟨(some 47), none, .idx (.t 46) (.t 43) 8 64⟩),
 (6, ⟨(some 48), none, .idx (.t 47) (.t 44) 8 8⟩),
 (7, ⟨(some 49), none, .idx (.t 48) (.t 45) 8 1⟩),
 (8, ⟨(some 50), none, .ld8 (.t 49)⟩),
 (9, ⟨(some 51), none, .cvt .i64 (.t 50)⟩),
 (10, ⟨(some 52), none, .mov (.t 14)⟩),
 (11, ⟨(some 53), none, .mov (.t 3)⟩),
 (12, ⟨(some 54), none, .mov (.t 4)⟩),
 (13, ⟨(some 55), none, .add (.t 5) 10⟩),
 (14, ⟨(some 56), none, .idx (.t 55) (.t 52) 8 64⟩),
 (15, ⟨(some 57), none, .idx (.t 56) (.t 53) 8 8⟩),
 (16, ⟨(some 58), none, .idx (.t 57) (.t 54) 8 1⟩),
 (17, ⟨(some 59), none, .ld8 (.t 58)⟩),
 (18, ⟨(some 60), none, .cvt .i64 (.t 59)⟩),
 (19, ⟨(some 61), none, .bin .mul (.t 51) (.t 60)⟩)]
 []
 [(20, ⟨(some 62), none, .bin .add (.t 42) (.t 61)⟩),
 (21, ⟨(some 13), none, .mov (.t 62)⟩)])))
 (.reg [⟨(some 19), none, .mov (.t 14)⟩,
 ⟨(some 20), none, .bin .add (.t 19) (.c (.i .i64 (1)))⟩,
 ⟨(some 14), none, .mov (.t 20)⟩]))))))
 (.seq (.drw [0, 1, 0, 7, 0, 16, 0, 127, 255, 511]
 []
 [(0, ⟨(some 63), none, .add (.t 5) 0⟩),
 (1, ⟨(some 64), none, .ld1 (.t 63)⟩),
 (2, ⟨(some 65), none, .mov (.t 12)⟩),
 (3, ⟨(some 66), none, .call 72 [(.t 64), (.t 65)]⟩),
 (4, ⟨(some 67), none, .add (.t 5) 0⟩),
 (5, ⟨(some 68), none, .ld1 (.t 67)⟩),
 (6, ⟨(some 69), none, .mov (.t 13)⟩)]
 []
 [(7, ⟨(some 70), none, .call 72 [(.t 68), (.t 69)]⟩),
 (8, ⟨(some 10), none, .mov (.t 66)⟩),
 (9, ⟨(some 11), none, .mov (.t 70)⟩)])
 .ret))))⟩
def pf_s_l02Fault : PF := ⟨1, 64, [.t 2, .t 3],
 (.seq (.reg [⟨(some 1), none, .box (.t 0)⟩,
 ⟨(some 2), none, .mov (.c .sn)⟩,
 ⟨(some 3), none, .mov (.c (.b false))⟩])
 (.seq (.reg [⟨(some 12), none, .add (.t 1) 1⟩,
 ⟨(some 13), none, .ld1 (.t 12)⟩,
 ⟨(some 4), none, .mov (.t 13)⟩])
 (.seq (.seq (.reg [⟨(some 5), none, .mov (.c (.i .i64 (0)))⟩])
 (.blk 0
 (.loop
 (.seq (.seq (.reg [⟨(some 14), none, .mov (.t 5)⟩,
 ⟨(some 15), none, .mov (.t 4)⟩,
 ⟨(some 16), none, .mov (.t 4)⟩,
 ⟨(some 17), none, .bin .mul (.t 15) (.t 16)⟩,
 ⟨(some 18), none, .mov (.t 4)⟩,
 ⟨(some 19), none, .bin .mul (.t 17) (.t 18)⟩,
 ⟨(some 20), none, .mov (.t 4)⟩,
 ⟨(some 21), none, .bin .mul (.t 19) (.t 20)⟩,
 ⟨(some 22), none, .bin .lss (.t 14) (.t 21)⟩])
 (.cond (.t 22)
 .skip
 (.exit 0)))
 (.seq (.blk 1
 (.seq (.drw [0, 0, 0, 6, 0, 30, 63, 0, 0, 0, 768, 1920, 0, 8064, 0, 0, 49152, 0, 245760, 0, 0, 1572864, 127, 4210687, 13107199, 33554431]
 []
 [(0, ⟨(some 25), none, .mov (.t 5)⟩),
 (1, ⟨(some 26), none, .mov (.t 4)⟩),
 (2, ⟨(some 27), none, .mov (.t 4)⟩),
 (3, ⟨(some 28), none, .bin .mul (.t 26) (.t 27)⟩),
 (4, ⟨(some 29), none, .mov (.t 4)⟩),
 (5, ⟨(some 30), none, .bin .mul (.t 28) (.t 29)⟩),
 (6, ⟨(some 31), none, .bin .quo (.t 25) (.t 30)⟩),
 (7, ⟨(some 32), none, .mov (.t 5)⟩),
 (8, ⟨(some 33), none, .mov (.t 4)⟩),
 (9, ⟨(some 34), none, .mov (.t 4)⟩),
 (10, ⟨(some 35), none, .bin .mul (.t 33) (.t 34)⟩),
 (11, ⟨(some 36), none, .bin .quo (.t 32) (.t 35)⟩),
 (12, ⟨(some 37), none, .mov (.t 4)⟩),
 (13, ⟨(some 38), none, .bin .rem (.t 36) (.t 37)⟩),
 (14, ⟨(some 39), none, .mov (.t 5)⟩),
 (15, ⟨(some 40), none, .mov (.t 4)⟩),
 (16, ⟨(some 41), none, .bin .quo (.t 39) (.t 40)⟩),
 (17, ⟨(some 42), none, .mov (.t 4)⟩),
 (18, ⟨(some 43), none, .bin .rem (.t 41) (.t 42)⟩),
 (19, ⟨(some 44), none, .mov (.t 5)⟩),
 (20, ⟨(some 45), none, .mov (.t 4)⟩),
 (21, ⟨(some 46), none, .bin .rem (.t 44) (.t 45)⟩),
 (22, ⟨(some 6), none, .mov (.t 31)⟩),
 (23, ⟨(some 7), none, .mov (.t 38)⟩),
 (24, ⟨(some 8), none, .mov (.t 43)⟩)]
 []
 [(25, ⟨(some 9), none, .mov (.t 46)⟩)])
 (.seq (.reg [⟨(some 48), none, .lda (.t 1) 2 522⟩,
 ⟨(some 49), none, .mov (.t 6)⟩,
 ⟨(some 50), none, .mov (.t 7)⟩,
 ⟨(some 51), none, .mov (.t 8)⟩,
 ⟨(some 52), none, .mov (.t 9)⟩,
 ⟨(some 53), none, .call 115 [(.t 48), (.t 49), (.t 50), (.t 51), (.t 52)]⟩,
 ⟨(some 47), none, .mov (.t 53)⟩,
 ⟨(some 54), none, .ext (.t 47) 0⟩,
 ⟨(some 55), none, .ext (.t 47) 1⟩,
 ⟨(some 10), none, .mov (.t 54)⟩,
 ⟨(some 11), none, .mov (.t 55)⟩])
 (.seq (.reg [⟨(some 56), none, .mov (.t 10)⟩,
 ⟨(some 57), none, .mov (.t 11)⟩,
 ⟨(some 58), none, .bin .neq (.t 56) (.t 57)⟩])
 (.cond (.t 58)
 (.seq (.reg [⟨(some 59), none, .mov (.t 6)⟩,
 ⟨(some 60), none, .mov (.t 7)⟩,
 ⟨(some 61), none, .mov (.t 8)⟩,
 ⟨(some 62), none, .mov (.t 9)⟩,
 ⟨(some 63), none, .bsa [(.t 59), (.t 60), (.t 61), (.t 62)]⟩,
 ⟨(some 2), none, .mov (.t 63)⟩,
 ⟨(some 3), none, .mov (.c (.b true))⟩])
 .ret)
 .skip)))))
 (.reg [⟨(some 23), none, .mov (.t 5)⟩,
 ⟨(some 24), none, .bin .add (.t 23) (.c (.i .i64 (1)))⟩,
 ⟨(some 5), none, .mov (.t 24)⟩]))))))
 (.seq (.reg [⟨(some 2), none, .mov (.c .sn)⟩,
 ⟨(some 3), none, .mov (.c (.b false))⟩])
 .ret))))⟩
def pf_s_l02Counits : PF := ⟨1, 77, [.t 2],
 (.seq (.reg [⟨(some 1), none, .box (.t 0)⟩,
 ⟨(some 2), none, .mov (.c (.b false))⟩])
 (.seq (.seq (.reg [⟨(some 3), none, .mov (.c (.i .i64 (0)))⟩])
 (.blk 0
 (.loop
 (.seq (.seq (.reg [⟨(some 9), none, .mov (.t 3)⟩,
 ⟨(some 10), none, .add (.t 1) 1⟩,
 ⟨(some 11), none, .ld1 (.t 10)⟩,
 ⟨(some 12), none, .bin .lss (.t 9) (.t 11)⟩])
 (.cond (.t 12)
 .skip
 (.exit 0)))
 (.seq (.blk 1
 (.seq (.reg [⟨(some 15), none, .bld 0 8 []⟩,
 ⟨(some 16), none, .bld 0 8 []⟩,
 ⟨(some 4), none, .alo (.by 0 8)⟩,
 ⟨(some 5), none, .alo (.by 0 8)⟩,
 ⟨none, none, .sta (.t 4) (.t 15) 8⟩,
 ⟨none, none, .sta (.t 5) (.t 16) 8⟩])
 (.seq (.seq (.reg [⟨(some 6), none, .mov (.c (.i .i64 (0)))⟩])
 (.blk 2
 (.loop
 (.seq (.seq (.reg [⟨(some 17), none, .mov (.t 6)⟩,
 ⟨(some 18), none, .add (.t 1) 1⟩,
 ⟨(some 19), none, .ld1 (.t 18)⟩,
 ⟨(some 20), none, .bin .lss (.t 17) (.t 19)⟩])
 (.cond (.t 20)
 .skip
 (.exit 2)))
 (.seq (.blk 3
 (.seq (.drw [0, 1, 0, 0, 0, 0, 40, 120, 248, 0, 0, 1536, 3584, 7680, 16383, 32767]
 []
 [(0, ⟨(some 23), none, .add (.t 1) 0⟩),
 (1, ⟨(some 24), none, .ld1 (.t 23)⟩),
 (2, ⟨(some 25), none, .lda (.t 4) 0 8⟩),
 (3, ⟨(some 26), none, .mov (.t 3)⟩),
 (4, ⟨(some 27), none, .mov (.t 6)⟩),
 (5, ⟨(some 28), none, .add (.t 1) 10⟩),
 (6, ⟨(some 29), none, .idx (.t 28) (.t 26) 8 64⟩),
 (7, ⟨(some 30), none, .idx (.t 29) (.t 27) 8 8⟩),
 (8, ⟨(some 31), none, .lda (.t 30) 0 8⟩),
 (9, ⟨(some 32), none, .mov (.t 6)⟩),
 (10, ⟨(some 33), none, .add (.t 1) 2⟩),
 (11, ⟨(some 34), none, .idx (.t 33) (.t 32) 8 1⟩),
 (12, ⟨(some 35), none, .ld8 (.t 34)⟩),
 (13, ⟨(some 36), none, .cvt .i64 (.t 35)⟩)]
 []
 [(14, ⟨(some 37), none, .call 57 [(.t 24), (.t 25), (.t 31), (.t 36)]⟩),
 (15, ⟨none, none, .sta (.t 4) (.t 37) 8⟩)])
 (.seq (.reg [⟨(some 7), none, .mov (.c (.i .i64 (0)))⟩])
 (.seq (.seq (.reg [⟨(some 8), none, .mov (.c (.i .i64 (0)))⟩])
 (.blk 4
 (.loop
 (.seq (.seq (.reg [⟨(some 38), none, .mov (.t 8)⟩,
 ⟨(some 39), none, .add (.t 1) 1⟩,
 ⟨(some 40), none, .ld1 (.t 39)⟩,
 ⟨(some 41), none, .bin .lss (.t 38) (.t 40)⟩])
 (.cond (.t 41)
 .skip
 (.exit 4)))
 (.seq (.blk 5
 (.drw [0, 0, 0, 6, 14, 30, 0, 0, 0, 0, 576, 1728, 4032, 8128, 16320, 32766, 65535, 131071]
 []
 [(0, ⟨(some 44), none, .mov (.t 7)⟩),
 (1, ⟨(some 45), none, .mov (.t 8)⟩),
 (2, ⟨(some 46), none, .add (.t 1) 2⟩),
 (3, ⟨(some 47), none, .idx (.t 46) (.t 45) 8 1⟩),
 (4, ⟨(some 48), none, .ld8 (.t 47)⟩),
 (5, ⟨(some 49), none, .cvt .i64 (.t 48)⟩),
 (6, ⟨(some 50), none, .mov (.t 3)⟩),
 (7, ⟨(some 51), none, .mov (.t 6)⟩),
 (8, ⟨(some 52), none, .mov (.t 8)⟩),
 (9, ⟨(some 53), none, .add (.t 1) 10⟩),
 (10, ⟨(some 54), none, .idx (.t 53) (.t 50) 8 64⟩),
 (11, ⟨(some 55), none, .idx (.t 54) (.t 51) 8 8⟩),
 (12, ⟨(some 56), none, .idx (.t 55) (.t 52) 8 1⟩),
 (13, ⟨(some 57), none, .ld8 (.t 56)⟩),
 (14, ⟨(some 58), none, .cvt .i64 (.t 57)⟩),
 (15, ⟨(some 59), none, .bin .mul (.t 49) (.t 58)⟩)]
 []
 [(16, ⟨(some 60), none, .bin .add (.t 44) (.t 59)⟩),
 (17, ⟨(some 7), none, .mov (.t 60)⟩)]))
 (.reg [⟨(some 42), none, .mov (.t 8)⟩,
 ⟨(some 43), none, .bin .add (.t 42) (.c (.i .i64 (1)))⟩,
 ⟨(some 8), none, .mov (.t 43)⟩]))))))
 (.reg [⟨(some 61), none, .mov (.t 6)⟩,
 ⟨(some 62), none, .add (.t 1) 0⟩,
 ⟨(some 63), none, .ld1 (.t 62)⟩,
 ⟨(some 64), none, .mov (.t 7)⟩,
 ⟨(some 65), none, .call 72 [(.t 63), (.t 64)]⟩,
 ⟨(some 66), none, .idx (.t 5) (.t 61) 8 1⟩,
 ⟨none, none, .st8 (.t 66) (.t 65)⟩])))))
 (.reg [⟨(some 21), none, .mov (.t 6)⟩,
 ⟨(some 22), none, .bin .add (.t 21) (.c (.i .i64 (1)))⟩,
 ⟨(some 6), none, .mov (.t 22)⟩]))))))
 (.seq (.drw [0, 0, 2, 7, 15, 31, 31, 95, 255, 511]
 []
 [(0, ⟨(some 67), none, .lda (.t 4) 0 8⟩),
 (1, ⟨(some 68), none, .mov (.t 3)⟩),
 (2, ⟨(some 69), none, .call 55 [(.t 68)]⟩),
 (3, ⟨(some 70), none, .eqa true 8 (.t 67) (.t 69)⟩),
 (4, ⟨(some 71), none, .mov (.t 70)⟩),
 (5, ⟨(some 72), (some (71, false)), .lda (.t 5) 0 8⟩),
 (6, ⟨(some 73), (some (71, false)), .mov (.t 3)⟩),
 (7, ⟨(some 74), (some (71, false)), .call 55 [(.t 73)]⟩)]
 []
 [(8, ⟨(some 75), (some (71, false)), .eqa true 8 (.t 72) (.t 74)⟩),
 (9, ⟨(some 76), none, .pick (.t 71) (.c (.b true)) (.t 75)⟩)])
 (.cond (.t 76)
 (.seq (.reg [⟨(some 2), none, .mov (.c (.b false))⟩])
 .ret)
 .skip)))))
 (.reg [⟨(some 13), none, .mov (.t 3)⟩,
 ⟨(some 14), none, .bin .add (.t 13) (.c (.i .i64 (1)))⟩,
 ⟨(some 3), none, .mov (.t 14)⟩]))))))
 (.seq (.reg [⟨(some 2), none, .mov (.c (.b true))⟩])
 .ret)))⟩
def pf_s_l02Is : PF := ⟨1, 19, [.t 2],
 (.seq (.reg [⟨(some 1), none, .box (.t 0)⟩,
 ⟨(some 2), none, .mov (.c (.b false))⟩])
 (.seq (.seq (.reg [⟨(some 5), none, .lda (.t 1) 2 522⟩,
 ⟨(some 6), none, .call 98 [(.t 5)]⟩,
 ⟨(some 7), none, .nt (.t 6)⟩])
 (.cond (.t 7)
 (.seq (.reg [⟨(some 2), none, .mov (.c (.b false))⟩])
 .ret)
 .skip))
 (.seq (.reg [⟨(some 9), none, .lda (.t 1) 2 522⟩,
 ⟨(some 10), none, .call 99 [(.t 9)]⟩,
 ⟨(some 8), none, .mov (.t 10)⟩,
 ⟨(some 11), none, .ext (.t 8) 0⟩,
 ⟨(some 12), none, .ext (.t 8) 1⟩,
 ⟨(some 3), none, .mov (.t 11)⟩,
 ⟨(some 4), none, .mov (.t 12)⟩])
 (.seq (.reg [⟨(some 13), none, .mov (.t 4)⟩,
 ⟨(some 14), none, .nt (.t 13)⟩,
 ⟨(some 15), none, .mov (.t 14)⟩,
 ⟨(some 16), (some (15, true)), .lda (.t 1) 2 522⟩,
 ⟨(some 17), (some (15, true)), .call 100 [(.t 16)]⟩,
 ⟨(some 18), none, .pick (.t 15) (.t 17) (.c (.b false))⟩,
 ⟨(some 2), none, .mov (.t 18)⟩])
 .ret))))⟩
def pf_s_l03Coproduct : PF := ⟨2, 46, [.c 4 0 64],
 (.seq (.reg [⟨(some 2), none, .box (.t 0)⟩,
 ⟨(some 3), none, .box (.t 1)⟩,
 ⟨(some 4), none, .alo (.by 0 64)⟩])
 (.seq (.reg [⟨(some 8), none, .bld 0 64 []⟩,
 ⟨(some 5), none, .alo (.by 0 64)⟩,
 ⟨none, none, .sta (.t 5) (.t 8) 64⟩])
 (.seq (.seq (.reg [⟨(some 6), none, .mov (.c (.i .i64 (0)))⟩])
 (.blk 0
 (.loop
 (.seq (.seq (.reg [⟨(some 9), none, .mov (.t 6)⟩,
 ⟨(some 10), none, .add (.t 2) 1⟩,
 ⟨(some 11), none, .ld1 (.t 10)⟩,
 ⟨(some 12), none, .bin .lss (.t 9) (.t 11)⟩])
 (.cond (.t 12)
 .skip
 (.exit 0)))
 (.seq (.blk 1
 (.seq (.reg [⟨(some 7), none, .mov (.c (.i .i64 (0)))⟩])
 (.blk 2
 (.loop
 (.seq (.seq (.reg [⟨(some 15), none, .mov (.t 7)⟩,
 ⟨(some 16), none, .add (.t 2) 1⟩,
 ⟨(some 17), none, .ld1 (.t 16)⟩,
 ⟨(some 18), none, .bin .lss (.t 15) (.t 17)⟩,
 ⟨(some 19), none, .mov (.t 18)⟩,
 ⟨(some 20), (some (19, true)), .mov (.t 6)⟩,
 ⟨(some 21), (some (19, true)), .idx (.t 3) (.t 20) 8 1⟩,
 ⟨(some 22), (some (19, true)), .ld8 (.t 21)⟩,
 ⟨(some 23), (some (19, true)), .bin .neq (.t 22) (.c (.u 0))⟩,
 ⟨(some 24), none, .pick (.t 19) (.t 23) (.c (.b false))⟩])
 (.cond (.t 24)
 .skip
 (.exit 2)))
 (.seq (.blk 3
 (.drw [0, 0, 2, 0, 8, 24, 0, 0, 0, 320, 960, 1984, 0, 4096, 12288, 28672, 65534, 131071, 262143]
 []
 [(0, ⟨(some 27), none, .mov (.t 7)⟩),
 (1, ⟨(some 28), none, .add (.t 2) 0⟩),
 (2, ⟨(some 29), none, .ld1 (.t 28)⟩),
 (3, ⟨(some 30), none, .mov (.t 7)⟩),
 (4, ⟨(some 31), none, .idx (.t 5) (.t 30) 8 8⟩),
 (5, ⟨(some 32), none, .lda (.t 31) 0 8⟩),
 (6, ⟨(some 33), none, .mov (.t 6)⟩),
 (7, ⟨(some 34), none, .mov (.t 7)⟩),
 (8, ⟨(some 35), none, .add (.t 2) 530⟩),
 (9, ⟨(some 36), none, .idx (.t 35) (.t 33) 8 64⟩),
 (10, ⟨(some 37), none, .idx (.t 36) (.t 34) 8 8⟩),
 (11, ⟨(some 38), none, .lda (.t 37) 0 8⟩),
 (12, ⟨(some 39), none, .mov (.t 6)⟩),
 (13, ⟨(some 40), none, .idx (.t 3) (.t 39) 8 1⟩),
 (14, ⟨(some 41), none, .ld8 (.t 40)⟩),
 (15, ⟨(some 42), none, .cvt .i64 (.t 41)⟩),
 (16, ⟨(some 43), none, .call 57 [(.t 29), (.t 32), (.t 38), (.t 42)]⟩)]
 []
 [(17, ⟨(some 44), none, .idx (.t 5) (.t 27) 8 8⟩),
 (18, ⟨none, none, .sta (.t 44) (.t 43) 8⟩)]))
 (.reg [⟨(some 25), none, .mov (.t 7)⟩,
 ⟨(some 26), none, .bin .add (.t 25) (.c (.i .i64 (1)))⟩,
 ⟨(some 7), none, .mov (.t 26)⟩])))))))
 (.reg [⟨(some 13), none, .mov (.t 6)⟩,
 ⟨(some 14), none, .bin .add (.t 13) (.c (.i .i64 (1)))⟩,
 ⟨(some 6), none, .mov (.t 14)⟩]))))))
 (.seq (.reg [⟨(some 45), none, .lda (.t 5) 0 64⟩,
 ⟨none, none, .sta (.t 4) (.t 45) 64⟩])
 .ret))))⟩
def pf_s_l01Zero : PF := ⟨1, 6, [.t 2],
 (.seq (.reg [⟨(some 1), none, .box (.t 0)⟩,
 ⟨(some 2), none, .mov (.c (.b false))⟩])
 (.seq (.reg [⟨(some 3), none, .lda (.t 1) 0 8⟩,
 ⟨(some 4), none, .bld 0 8 []⟩,
 ⟨(some 5), none, .eqa false 8 (.t 3) (.t 4)⟩,
 ⟨(some 2), none, .mov (.t 5)⟩])
 .ret))⟩
def pf_s_l03Pairs : PF := ⟨3, 67, [.c 6 0 64],
 (.seq (.reg [⟨(some 3), none, .box (.t 0)⟩,
 ⟨(some 4), none, .box (.t 1)⟩,
 ⟨(some 5), none, .box (.t 2)⟩,
 ⟨(some 6), none, .alo (.by 0 64)⟩])
 (.seq (.drw [0, 1, 0, 4, 0, 0, 35, 111, 255]
 []
 [(0, ⟨(some 15), none, .add (.t 3) 0⟩),
 (1, ⟨(some 16), none, .ld1 (.t 15)⟩),
 (2, ⟨(some 17), none, .add (.t 3) 1⟩),
 (3, ⟨(some 18), none, .ld1 (.t 17)⟩),
 (4, ⟨(some 19), none, .bld 0 64 []⟩),
 (6, ⟨(some 7), none, .mov (.t 16)⟩),
 (7, ⟨(some 8), none, .mov (.t 18)⟩)]
 [⟨5, 9, (.by 0 64), none⟩]
 [(8, ⟨none, none, .sta (.t 9) (.t 19) 64⟩)])
 (.seq (.seq (.reg [⟨(some 10), none, .mov (.c (.i .i64 (0)))⟩])
 (.blk 0
 (.loop
 (.seq (.seq (.reg [⟨(some 20), none, .mov (.t 10)⟩,
 ⟨(some 21), none, .mov (.t 8)⟩,
 ⟨(some 22), none, .bin .lss (.t 20) (.t 21)⟩])
 (.cond (.t 22)
 .skip
 (.exit 0)))
 (.seq (.blk 1
 (.seq (.reg [⟨(some 11), none, .mov (.c (.i .i64 (0)))⟩])
 (.blk 2
 (.loop
 (.seq (.seq (.reg [⟨(some 25), none, .mov (.t 11)⟩,
 ⟨(some 26), none, .mov (.t 8)⟩,
 ⟨(some 27), none, .bin .lss (.t 25) (.t 26)⟩])
 (.cond (.t 27)
 .skip
 (.exit 2)))
 (.seq (.blk 3
 (.seq (.drw [0, 1, 0, 4, 12, 0, 32, 96, 255, 0, 1023]
 []
 [(0, ⟨(some 30), none, .lda (.t 3) 2 1106⟩),
 (1, ⟨(some 31), none, .call 35 [(.t 30)]⟩),
 (2, ⟨(some 32), none, .mov (.t 10)⟩),
 (3, ⟨(some 33), none, .idx (.t 4) (.t 32) 8 8⟩),
 (4, ⟨(some 34), none, .lda (.t 33) 0 8⟩),
 (5, ⟨(some 35), none, .mov (.t 11)⟩),
 (6, ⟨(some 36), none, .idx (.t 5) (.t 35) 8 8⟩),
 (7, ⟨(some 37), none, .lda (.t 36) 0 8⟩),
 (8, ⟨(some 38), none, .call 56 [(.t 31), (.t 34), (.t 37)]⟩)]
 [⟨9, 12, (.by 0 8), none⟩]
 [(10, ⟨none, none, .sta (.t 12) (.t 38) 8⟩)])
 (.seq (.seq (.reg [⟨(some 39), none, .lda (.t 12) 0 8⟩,
 ⟨(some 40), none, .call 101 [(.t 39)]⟩])
 (.cond (.t 40)
 (.exit 3)
 .skip))
 (.seq (.reg [⟨(some 13), none, .mov (.c (.i .i64 (0)))⟩])
 (.blk 4
 (.loop
 (.seq (.seq (.reg [⟨(some 41), none, .mov (.t 13)⟩,
 ⟨(some 42), none, .mov (.t 8)⟩,
 ⟨(some 43), none, .bin .lss (.t 41) (.t 42)⟩])
 (.cond (.t 43)
 .skip
 (.exit 4)))
 (.seq (.blk 5
 (.seq (.reg [⟨(some 46), none, .mov (.t 10)⟩,
 ⟨(some 47), none, .mov (.t 11)⟩,
 ⟨(some 48), none, .mov (.t 13)⟩,
 ⟨(some 49), none, .add (.t 3) 10⟩,
 ⟨(some 50), none, .idx (.t 49) (.t 46) 8 64⟩,
 ⟨(some 51), none, .idx (.t 50) (.t 47) 8 8⟩,
 ⟨(some 52), none, .idx (.t 51) (.t 48) 8 1⟩,
 ⟨(some 53), none, .ld8 (.t 52)⟩,
 ⟨(some 14), none, .mov (.t 53)⟩])
 (.seq (.reg [⟨(some 54), none, .mov (.t 14)⟩,
 ⟨(some 55), none, .bin .neq (.t 54) (.c (.u 0))⟩])
 (.cond (.t 55)
 (.drw [0, 0, 0, 4, 12, 0, 0, 64, 254, 511, 1023]
 []
 [(0, ⟨(some 56), none, .mov (.t 13)⟩),
 (1, ⟨(some 57), none, .mov (.t 7)⟩),
 (2, ⟨(some 58), none, .mov (.t 13)⟩),
 (3, ⟨(some 59), none, .idx (.t 9) (.t 58) 8 8⟩),
 (4, ⟨(some 60), none, .lda (.t 59) 0 8⟩),
 (5, ⟨(some 61), none, .lda (.t 12) 0 8⟩),
 (6, ⟨(some 62), none, .mov (.t 14)⟩),
 (7, ⟨(some 63), none, .cvt .i64 (.t 62)⟩),
 (8, ⟨(some 64), none, .call 57 [(.t 57), (.t 60), (.t 61), (.t 63)]⟩)]
 []
 [(9, ⟨(some 65), none, .idx (.t 9) (.t 56) 8 8⟩),
 (10, ⟨none, none, .sta (.t 65) (.t 64) 8⟩)])
 .skip))))
 (.reg [⟨(some 44), none, .mov (.t 13)⟩,
 ⟨(some 45), none, .bin .add (.t 44) (.c (.i .i64 (1)))⟩,
 ⟨(some 13), none, .mov (.t 45)⟩])))))))))
 (.reg [⟨(some 28), none, .mov (.t 11)⟩,
 ⟨(some 29), none, .bin .add (.t 28) (.c (.i .i64 (1)))⟩,
 ⟨(some 11), none, .mov (.t 29)⟩])))))))
 (.reg [⟨(some 23), none, .mov (.t 10)⟩,
 ⟨(some 24), none, .bin .add (.t 23) (.c (.i .i64 (1)))⟩,
 ⟨(some 10), none, .mov (.t 24)⟩]))))))
 (.seq (.reg [⟨(some 66), none, .lda (.t 9) 0 64⟩,
 ⟨none, none, .sta (.t 6) (.t 66) 64⟩])
 .ret))))⟩
def pf_s_l03Counit : PF := ⟨2, 29, [.t 4],
 (.seq (.reg [⟨(some 2), none, .box (.t 0)⟩,
 ⟨(some 3), none, .box (.t 1)⟩,
 ⟨(some 4), none, .mov (.c (.i .i64 (0)))⟩])
 (.seq (.reg [⟨(some 5), none, .mov (.c (.i .i64 (0)))⟩])
 (.seq (.seq (.reg [⟨(some 6), none, .mov (.c (.i .i64 (0)))⟩])
 (.blk 0
 (.loop
 (.seq (.seq (.reg [⟨(some 7), none, .mov (.t 6)⟩,
 ⟨(some 8), none, .add (.t 2) 1⟩,
 ⟨(some 9), none, .ld1 (.t 8)⟩,
 ⟨(some 10), none, .bin .lss (.t 7) (.t 9)⟩])
 (.cond (.t 10)
 .skip
 (.exit 0)))
 (.seq (.blk 1
 (.drw [0, 0, 2, 6, 14, 0, 0, 96, 224, 480, 1022, 2047, 4095]
 []
 [(0, ⟨(some 13), none, .mov (.t 5)⟩),
 (1, ⟨(some 14), none, .mov (.t 6)⟩),
 (2, ⟨(some 15), none, .idx (.t 3) (.t 14) 8 1⟩),
 (3, ⟨(some 16), none, .ld8 (.t 15)⟩),
 (4, ⟨(some 17), none, .cvt .i64 (.t 16)⟩),
 (5, ⟨(some 18), none, .mov (.t 6)⟩),
 (6, ⟨(some 19), none, .add (.t 2) 522⟩),
 (7, ⟨(some 20), none, .idx (.t 19) (.t 18) 8 1⟩),
 (8, ⟨(some 21), none, .ld8 (.t 20)⟩),
 (9, ⟨(some 22), none, .cvt .i64 (.t 21)⟩),
 (10, ⟨(some 23), none, .bin .mul (.t 17) (.t 22)⟩)]
 []
 [(11, ⟨(some 24), none, .bin .add (.t 13) (.t 23)⟩),
 (12, ⟨(some 5), none, .mov (.t 24)⟩)]))
 (.reg [⟨(some 11), none, .mov (.t 6)⟩,
 ⟨(some 12), none, .bin .add (.t 11) (.c (.i .i64 (1)))⟩,
 ⟨(some 6), none, .mov (.t 12)⟩]))))))
 (.seq (.reg [⟨(some 25), none, .mov (.t 5)⟩,
 ⟨(some 26), none, .add (.t 2) 0⟩,
 ⟨(some 27), none, .ld1 (.t 26)⟩,
 ⟨(some 28), none, .bin .rem (.t 25) (.t 27)⟩,
 ⟨(some 4), none, .mov (.t 28)⟩])
 .ret))))⟩
def pf_s_l03Bialgebra : PF := ⟨1, 115, [.t 2],
 (.seq (.reg [⟨(some 1), none, .box (.t 0)⟩,
 ⟨(some 2), none, .mov (.c (.i .i64 (0)))⟩])
 (.seq (.drw [0, 1, 0, 4, 0, 31, 63]
 []
 [(0, ⟨(some 11), none, .add (.t 1) 1⟩),
 (1, ⟨(some 12), none, .ld1 (.t 11)⟩),
 (2, ⟨(some 13), none, .lda (.t 1) 2 1106⟩),
 (3, ⟨(some 14), none, .call 35 [(.t 13)]⟩)]
 [⟨4, 4, (.by 2 522), none⟩]
 [(5, ⟨(some 3), none, .mov (.t 12)⟩),
 (6, ⟨none, none, .sta (.t 4) (.t 14) 522⟩)])
 (.seq (.blk 0
 (.seq (.reg [⟨(some 16), none, .lda (.t 4) 2 522⟩,
 ⟨(some 17), none, .call 76 [(.t 16)]⟩,
 ⟨(some 18), none, .nt (.t 17)⟩,
 ⟨(some 15), none, .mov (.t 18)⟩])
 (.cond (.t 15)
 (.seq (.reg [⟨(some 2), none, .mov (.c (.i .i64 (1)))⟩])
 .ret)
 (.seq (.reg [⟨(some 20), none, .lda (.t 1) 2 1106⟩,
 ⟨(some 21), none, .call 38 [(.t 20)]⟩,
 ⟨(some 22), none, .call 77 [(.t 21)]⟩,
 ⟨(some 23), none, .nt (.t 22)⟩,
 ⟨(some 19), none, .mov (.t 23)⟩])
 (.cond (.t 19)
 (.seq (.reg [⟨(some 2), none, .mov (.c (.i .i64 (2)))⟩])
 .ret)
 .skip)))))
 (.seq (.seq (.reg [⟨(some 5), none, .mov (.c (.i .i64 (0)))⟩])
 (.blk 1
 (.loop
 (.seq (.seq (.reg [⟨(some 24), none, .mov (.t 5)⟩,
 ⟨(some 25), none, .mov (.t 3)⟩,
 ⟨(some 26), none, .bin .lss (.t 24) (.t 25)⟩])
 (.cond (.t 26)
 .skip
 (.exit 1)))
 (.seq (.blk 2
 (.seq (.reg [⟨(some 6), none, .mov (.c (.i .i64 (0)))⟩])
 (.blk 3
 (.loop
 (.seq (.seq (.reg [⟨(some 29), none, .mov (.t 6)⟩,
 ⟨(some 30), none, .mov (.t 3)⟩,
 ⟨(some 31), none, .bin .lss (.t 29) (.t 30)⟩])
 (.cond (.t 31)
 .skip
 (.exit 3)))
 (.seq (.blk 4
 (.seq (.drw [0, 0, 0, 0, 10, 30, 62, 127, 0, 0, 0, 1536, 3584, 0, 0, 24576, 57344, 131071, 262143]
 []
 [(0, ⟨(some 34), none, .lda (.t 1) 2 1106⟩),
 (1, ⟨(some 35), none, .mov (.t 5)⟩),
 (2, ⟨(some 36), none, .mov (.t 6)⟩),
 (3, ⟨(some 37), none, .add (.t 1) 10⟩),
 (4, ⟨(some 38), none, .idx (.t 37) (.t 35) 8 64⟩),
 (5, ⟨(some 39), none, .idx (.t 38) (.t 36) 8 8⟩),
 (6, ⟨(some 40), none, .lda (.t 39) 0 8⟩),
 (7, ⟨(some 41), none, .call 54 [(.t 34), (.t 40)]⟩),
 (8, ⟨(some 42), none, .lda (.t 1) 2 1106⟩),
 (9, ⟨(some 43), none, .mov (.t 5)⟩),
 (10, ⟨(some 44), none, .add (.t 1) 530⟩),
 (11, ⟨(some 45), none, .idx (.t 44) (.t 43) 8 64⟩),
 (12, ⟨(some 46), none, .lda (.t 45) 0 64⟩),
 (13, ⟨(some 47), none, .mov (.t 6)⟩),
 (14, ⟨(some 48), none, .add (.t 1) 530⟩),
 (15, ⟨(some 49), none, .idx (.t 48) (.t 47) 8 64⟩),
 (16, ⟨(some 50), none, .lda (.t 49) 0 64⟩)]
 []
 [(17, ⟨(some 51), none, .call 78 [(.t 42), (.t 46), (.t 50)]⟩),
 (18, ⟨(some 52), none, .eqa true 64 (.t 41) (.t 51)⟩)])
 (.cond (.t 52)
 (.seq (.reg [⟨(some 2), none, .mov (.c (.i .i64 (3)))⟩])
 .ret)
 .skip)))
 (.reg [⟨(some 32), none, .mov (.t 6)⟩,
 ⟨(some 33), none, .bin .add (.t 32) (.c (.i .i64 (1)))⟩,
 ⟨(some 6), none, .mov (.t 33)⟩])))))))
 (.reg [⟨(some 27), none, .mov (.t 5)⟩,
 ⟨(some 28), none, .bin .add (.t 27) (.c (.i .i64 (1)))⟩,
 ⟨(some 5), none, .mov (.t 28)⟩]))))))
 (.seq (.reg [⟨(some 53), none, .lda (.t 1) 2 1106⟩,
 ⟨(some 54), none, .add (.t 1) 2⟩,
 ⟨(some 55), none, .lda (.t 54) 0 8⟩,
 ⟨(some 56), none, .call 54 [(.t 53), (.t 55)]⟩,
 ⟨(some 7), none, .alo (.by 0 64)⟩,
 ⟨none, none, .sta (.t 7) (.t 56) 64⟩])
 (.seq (.seq (.reg [⟨(some 8), none, .mov (.c (.i .i64 (0)))⟩])
 (.blk 5
 (.loop
 (.seq (.seq (.reg [⟨(some 57), none, .mov (.t 8)⟩,
 ⟨(some 58), none, .mov (.t 3)⟩,
 ⟨(some 59), none, .bin .lss (.t 57) (.t 58)⟩])
 (.cond (.t 59)
 .skip
 (.exit 5)))
 (.seq (.blk 6
 (.seq (.drw [0, 1, 3, 0, 8, 0, 0, 64, 0, 0, 768, 1792, 3840, 8184, 16383]
 []
 [(0, ⟨(some 62), none, .mov (.t 8)⟩),
 (1, ⟨(some 63), none, .idx (.t 7) (.t 62) 8 8⟩),
 (2, ⟨(some 64), none, .lda (.t 63) 0 8⟩),
 (3, ⟨(some 65), none, .add (.t 1) 0⟩),
 (4, ⟨(some 66), none, .ld1 (.t 65)⟩),
 (5, ⟨(some 67), none, .bld 0 8 []⟩),
 (6, ⟨(some 68), none, .add (.t 1) 2⟩),
 (7, ⟨(some 69), none, .lda (.t 68) 0 8⟩),
 (8, ⟨(some 70), none, .mov (.t 8)⟩),
 (9, ⟨(some 71), none, .add (.t 1) 2⟩),
 (10, ⟨(some 72), none, .idx (.t 71) (.t 70) 8 1⟩),
 (11, ⟨(some 73), none, .ld8 (.t 72)⟩),
 (12, ⟨(some 74), none, .cvt .i64 (.t 73)⟩),
 (13, ⟨(some 75), none, .call 57 [(.t 66), (.t 67), (.t 69), (.t 74)]⟩)]
 []
 [(14, ⟨(some 76), none, .eqa true 8 (.t 64) (.t 75)⟩)])
 (.cond (.t 76)
 (.seq (.reg [⟨(some 2), none, .mov (.c (.i .i64 (4)))⟩])
 .ret)
 .skip)))
 (.reg [⟨(some 60), none, .mov (.t 8)⟩,
 ⟨(some 61), none, .bin .add (.t 60) (.c (.i .i64 (1)))⟩,
 ⟨(some 8), none, .mov (.t 61)⟩]))))))
 (.seq (.seq (.reg [⟨(some 9), none, .mov (.c (.i .i64 (0)))⟩])
 (.blk 7
 (.loop
 (.seq (.seq (.reg [⟨(some 77), none, .mov (.t 9)⟩,
 ⟨(some 78), none, .mov (.t 3)⟩,
 ⟨(some 79), none, .bin .lss (.t 77) (.t 78)⟩])
 (.cond (.t 79)
 .skip
 (.exit 7)))
 (.seq (.blk 8
 (.seq (.reg [⟨(some 10), none, .mov (.c (.i .i64 (0)))⟩])
 (.blk 9
 (.loop
 (.seq (.seq (.reg [⟨(some 82), none, .mov (.t 10)⟩,
 ⟨(some 83), none, .mov (.t 3)⟩,
 ⟨(some 84), none, .bin .lss (.t 82) (.t 83)⟩])
 (.cond (.t 84)
 .skip
 (.exit 9)))
 (.seq (.blk 10
 (.seq (.drw [0, 0, 0, 0, 10, 30, 62, 127, 0, 0, 768, 1792, 3840, 0, 0, 24576, 57344, 122880, 261888, 0, 524288, 2096896, 4194303]
 []
 [(0, ⟨(some 87), none, .lda (.t 1) 2 1106⟩),
 (1, ⟨(some 88), none, .mov (.t 9)⟩),
 (2, ⟨(some 89), none, .mov (.t 10)⟩),
 (3, ⟨(some 90), none, .add (.t 1) 10⟩),
 (4, ⟨(some 91), none, .idx (.t 90) (.t 88) 8 64⟩),
 (5, ⟨(some 92), none, .idx (.t 91) (.t 89) 8 8⟩),
 (6, ⟨(some 93), none, .lda (.t 92) 0 8⟩),
 (7, ⟨(some 94), none, .call 79 [(.t 87), (.t 93)]⟩),
 (8, ⟨(some 95), none, .mov (.t 9)⟩),
 (9, ⟨(some 96), none, .add (.t 1) 522⟩),
 (10, ⟨(some 97), none, .idx (.t 96) (.t 95) 8 1⟩),
 (11, ⟨(some 98), none, .ld8 (.t 97)⟩),
 (12, ⟨(some 99), none, .cvt .i64 (.t 98)⟩),
 (13, ⟨(some 100), none, .mov (.t 10)⟩),
 (14, ⟨(some 101), none, .add (.t 1) 522⟩),
 (15, ⟨(some 102), none, .idx (.t 101) (.t 100) 8 1⟩),
 (16, ⟨(some 103), none, .ld8 (.t 102)⟩),
 (17, ⟨(some 104), none, .cvt .i64 (.t 103)⟩),
 (18, ⟨(some 105), none, .bin .mul (.t 99) (.t 104)⟩),
 (19, ⟨(some 106), none, .add (.t 1) 0⟩),
 (20, ⟨(some 107), none, .ld1 (.t 106)⟩),
 (21, ⟨(some 108), none, .bin .rem (.t 105) (.t 107)⟩)]
 []
 [(22, ⟨(some 109), none, .bin .neq (.t 94) (.t 108)⟩)])
 (.cond (.t 109)
 (.seq (.reg [⟨(some 2), none, .mov (.c (.i .i64 (5)))⟩])
 .ret)
 .skip)))
 (.reg [⟨(some 85), none, .mov (.t 10)⟩,
 ⟨(some 86), none, .bin .add (.t 85) (.c (.i .i64 (1)))⟩,
 ⟨(some 10), none, .mov (.t 86)⟩])))))))
 (.reg [⟨(some 80), none, .mov (.t 9)⟩,
 ⟨(some 81), none, .bin .add (.t 80) (.c (.i .i64 (1)))⟩,
 ⟨(some 9), none, .mov (.t 81)⟩]))))))
 (.seq (.seq (.reg [⟨(some 110), none, .lda (.t 1) 2 1106⟩,
 ⟨(some 111), none, .add (.t 1) 2⟩,
 ⟨(some 112), none, .lda (.t 111) 0 8⟩,
 ⟨(some 113), none, .call 79 [(.t 110), (.t 112)]⟩,
 ⟨(some 114), none, .bin .neq (.t 113) (.c (.i .i64 (1)))⟩])
 (.cond (.t 114)
 (.seq (.reg [⟨(some 2), none, .mov (.c (.i .i64 (5)))⟩])
 .ret)
 .skip))
 (.seq (.reg [⟨(some 2), none, .mov (.c (.i .i64 (0)))⟩])
 .ret)))))))))⟩
def pf_s_l03Folded : PF := ⟨4, 63, [.c 8 0 8],
 (.seq (.reg [⟨(some 4), none, .box (.t 0)⟩,
 ⟨(some 6), none, .box (.t 2)⟩,
 ⟨(some 8), none, .alo (.by 0 8)⟩])
 (.seq (.reg [⟨(some 15), none, .bld 0 8 []⟩,
 ⟨(some 16), none, .lda (.t 4) 2 1106⟩,
 ⟨(some 17), none, .call 35 [(.t 16)]⟩,
 ⟨(some 9), none, .alo (.by 0 8)⟩,
 ⟨(some 10), none, .alo (.by 2 522)⟩,
 ⟨none, none, .sta (.t 9) (.t 15) 8⟩,
 ⟨none, none, .sta (.t 10) (.t 17) 522⟩])
 (.seq (.seq (.reg [⟨(some 11), none, .mov (.c (.i .i64 (0)))⟩])
 (.blk 0
 (.loop
 (.seq (.seq (.reg [⟨(some 18), none, .mov (.t 11)⟩,
 ⟨(some 19), none, .add (.t 4) 1⟩,
 ⟨(some 20), none, .ld1 (.t 19)⟩,
 ⟨(some 21), none, .bin .lss (.t 18) (.t 20)⟩])
 (.cond (.t 21)
 .skip
 (.exit 0)))
 (.seq (.blk 1
 (.seq (.reg [⟨(some 12), none, .mov (.c (.i .i64 (0)))⟩])
 (.blk 2
 (.loop
 (.seq (.seq (.reg [⟨(some 24), none, .mov (.t 12)⟩,
 ⟨(some 25), none, .add (.t 4) 1⟩,
 ⟨(some 26), none, .ld1 (.t 25)⟩,
 ⟨(some 27), none, .bin .lss (.t 24) (.t 26)⟩])
 (.cond (.t 27)
 .skip
 (.exit 2)))
 (.seq (.blk 3
 (.seq (.reg [⟨(some 30), none, .mov (.t 1)⟩,
 ⟨(some 31), none, .mov (.t 11)⟩,
 ⟨(some 32), none, .mov (.t 12)⟩,
 ⟨(some 33), none, .add (.t 4) 530⟩,
 ⟨(some 34), none, .idx (.t 33) (.t 30) 8 64⟩,
 ⟨(some 35), none, .idx (.t 34) (.t 31) 8 8⟩,
 ⟨(some 36), none, .idx (.t 35) (.t 32) 8 1⟩,
 ⟨(some 37), none, .ld8 (.t 36)⟩,
 ⟨(some 38), none, .cvt .i64 (.t 37)⟩,
 ⟨(some 13), none, .mov (.t 38)⟩])
 (.seq (.reg [⟨(some 39), none, .mov (.t 13)⟩,
 ⟨(some 40), none, .bin .neq (.t 39) (.c (.i .i64 (0)))⟩])
 (.cond (.t 40)
 (.seq (.drw [0, 0, 2, 6, 0, 16, 63, 0, 255]
 []
 [(0, ⟨(some 41), none, .lda (.t 10) 2 522⟩),
 (1, ⟨(some 42), none, .mov (.t 11)⟩),
 (2, ⟨(some 43), none, .idx (.t 6) (.t 42) 8 8⟩),
 (3, ⟨(some 44), none, .lda (.t 43) 0 8⟩),
 (4, ⟨(some 45), none, .mov (.t 12)⟩),
 (5, ⟨(some 46), none, .call 55 [(.t 45)]⟩),
 (6, ⟨(some 47), none, .call 56 [(.t 41), (.t 44), (.t 46)]⟩)]
 [⟨7, 14, (.by 0 8), none⟩]
 [(8, ⟨none, none, .sta (.t 14) (.t 47) 8⟩)])
 (.seq (.seq (.reg [⟨(some 48), none, .mov (.t 3)⟩])
 (.cond (.t 48)
 (.drw [0, 0, 2, 0, 8, 24, 63, 127]
 []
 [(0, ⟨(some 49), none, .lda (.t 10) 2 522⟩),
 (1, ⟨(some 50), none, .mov (.t 11)⟩),
 (2, ⟨(some 51), none, .call 55 [(.t 50)]⟩),
 (3, ⟨(some 52), none, .mov (.t 12)⟩),
 (4, ⟨(some 53), none, .idx (.t 6) (.t 52) 8 8⟩),
 (5, ⟨(some 54), none, .lda (.t 53) 0 8⟩)]
 []
 [(6, ⟨(some 55), none, .call 56 [(.t 49), (.t 51), (.t 54)]⟩),
 (7, ⟨none, none, .sta (.t 14) (.t 55) 8⟩)])
 .skip))
 (.reg [⟨(some 56), none, .add (.t 4) 0⟩,
 ⟨(some 57), none, .ld1 (.t 56)⟩,
 ⟨(some 58), none, .lda (.t 9) 0 8⟩,
 ⟨(some 59), none, .lda (.t 14) 0 8⟩,
 ⟨(some 60), none, .mov (.t 13)⟩,
 ⟨(some 61), none, .call 57 [(.t 57), (.t 58), (.t 59), (.t 60)]⟩,
 ⟨none, none, .sta (.t 9) (.t 61) 8⟩])))
 .skip))))
 (.reg [⟨(some 28), none, .mov (.t 12)⟩,
 ⟨(some 29), none, .bin .add (.t 28) (.c (.i .i64 (1)))⟩,
 ⟨(some 12), none, .mov (.t 29)⟩])))))))
 (.reg [⟨(some 22), none, .mov (.t 11)⟩,
 ⟨(some 23), none, .bin .add (.t 22) (.c (.i .i64 (1)))⟩,
 ⟨(some 11), none, .mov (.t 23)⟩]))))))
 (.seq (.reg [⟨(some 62), none, .lda (.t 9) 0 8⟩,
 ⟨none, none, .sta (.t 8) (.t 62) 8⟩])
 .ret))))⟩
def pf_s_l03Antipode : PF := ⟨3, 31, [.t 6],
 (.seq (.reg [⟨(some 3), none, .box (.t 0)⟩,
 ⟨(some 4), none, .box (.t 1)⟩,
 ⟨(some 6), none, .mov (.c (.b false))⟩])
 (.seq (.seq (.reg [⟨(some 7), none, .mov (.c (.i .i64 (0)))⟩])
 (.blk 0
 (.loop
 (.seq (.seq (.reg [⟨(some 8), none, .mov (.t 7)⟩,
 ⟨(some 9), none, .add (.t 3) 1⟩,
 ⟨(some 10), none, .ld1 (.t 9)⟩,
 ⟨(some 11), none, .bin .lss (.t 8) (.t 10)⟩])
 (.cond (.t 11)
 .skip
 (.exit 0)))
 (.seq (.blk 1
 (.seq (.drw [0, 0, 0, 0, 15, 0, 32, 0, 0, 256, 0, 0, 3072, 7168, 15360, 32767, 65535]
 []
 [(0, ⟨(some 14), none, .lda (.t 3) 2 1106⟩),
 (1, ⟨(some 15), none, .mov (.t 7)⟩),
 (2, ⟨(some 16), none, .lda (.t 4) 0 64⟩),
 (3, ⟨(some 17), none, .mov (.t 2)⟩),
 (4, ⟨(some 18), none, .call 80 [(.t 14), (.t 15), (.t 16), (.t 17)]⟩),
 (5, ⟨(some 19), none, .add (.t 3) 0⟩),
 (6, ⟨(some 20), none, .ld1 (.t 19)⟩),
 (7, ⟨(some 21), none, .bld 0 8 []⟩),
 (8, ⟨(some 22), none, .add (.t 3) 2⟩),
 (9, ⟨(some 23), none, .lda (.t 22) 0 8⟩),
 (10, ⟨(some 24), none, .mov (.t 7)⟩),
 (11, ⟨(some 25), none, .add (.t 3) 522⟩),
 (12, ⟨(some 26), none, .idx (.t 25) (.t 24) 8 1⟩),
 (13, ⟨(some 27), none, .ld8 (.t 26)⟩),
 (14, ⟨(some 28), none, .cvt .i64 (.t 27)⟩)]
 []
 [(15, ⟨(some 29), none, .call 57 [(.t 20), (.t 21), (.t 23), (.t 28)]⟩),
 (16, ⟨(some 30), none, .eqa true 8 (.t 18) (.t 29)⟩)])
 (.cond (.t 30)
 (.seq (.reg [⟨(some 6), none, .mov (.c (.b false))⟩])
 .ret)
 .skip)))
 (.reg [⟨(some 12), none, .mov (.t 7)⟩,
 ⟨(some 13), none, .bin .add (.t 12) (.c (.i .i64 (1)))⟩,
 ⟨(some 7), none, .mov (.t 13)⟩]))))))
 (.seq (.reg [⟨(some 6), none, .mov (.c (.b true))⟩])
 .ret)))⟩
def pf_s_l03Fails : PF := ⟨1, 22, [.t 2],
 (.seq (.reg [⟨(some 1), none, .box (.t 0)⟩,
 ⟨(some 2), none, .mov (.c (.i .i64 (0)))⟩])
 (.seq (.reg [⟨(some 4), none, .lda (.t 1) 2 1106⟩,
 ⟨(some 5), none, .call 65 [(.t 4)]⟩,
 ⟨(some 3), none, .mov (.t 5)⟩])
 (.seq (.blk 0
 (.seq (.reg [⟨(some 7), none, .mov (.t 3)⟩,
 ⟨(some 8), none, .bin .neq (.t 7) (.c (.i .i64 (0)))⟩,
 ⟨(some 6), none, .mov (.t 8)⟩])
 (.cond (.t 6)
 (.seq (.reg [⟨(some 9), none, .mov (.t 3)⟩,
 ⟨(some 2), none, .mov (.t 9)⟩])
 .ret)
 (.seq (.reg [⟨(some 11), none, .lda (.t 1) 2 1106⟩,
 ⟨(some 12), none, .add (.t 1) 1042⟩,
 ⟨(some 13), none, .lda (.t 12) 0 64⟩,
 ⟨(some 14), none, .call 66 [(.t 11), (.t 13), (.c (.b false))]⟩,
 ⟨(some 15), none, .nt (.t 14)⟩,
 ⟨(some 10), none, .mov (.t 15)⟩])
 (.cond (.t 10)
 (.seq (.reg [⟨(some 2), none, .mov (.c (.i .i64 (6)))⟩])
 .ret)
 (.seq (.reg [⟨(some 17), none, .lda (.t 1) 2 1106⟩,
 ⟨(some 18), none, .add (.t 1) 1042⟩,
 ⟨(some 19), none, .lda (.t 18) 0 64⟩,
 ⟨(some 20), none, .call 66 [(.t 17), (.t 19), (.c (.b true))]⟩,
 ⟨(some 21), none, .nt (.t 20)⟩,
 ⟨(some 16), none, .mov (.t 21)⟩])
 (.cond (.t 16)
 (.seq (.reg [⟨(some 2), none, .mov (.c (.i .i64 (7)))⟩])
 .ret)
 .skip)))))))
 (.seq (.reg [⟨(some 2), none, .mov (.c (.i .i64 (0)))⟩])
 .ret))))⟩
def pf_s_l03Is : PF := ⟨1, 10, [.t 2],
 (.seq (.reg [⟨(some 1), none, .box (.t 0)⟩,
 ⟨(some 2), none, .mov (.c (.b false))⟩])
 (.seq (.reg [⟨(some 3), none, .lda (.t 1) 2 1106⟩,
 ⟨(some 4), none, .call 45 [(.t 3)]⟩,
 ⟨(some 5), none, .mov (.t 4)⟩,
 ⟨(some 6), (some (5, true)), .lda (.t 1) 2 1106⟩,
 ⟨(some 7), (some (5, true)), .call 46 [(.t 6)]⟩,
 ⟨(some 8), (some (5, true)), .bin .eql (.t 7) (.c (.i .i64 (0)))⟩,
 ⟨(some 9), none, .pick (.t 5) (.t 8) (.c (.b false))⟩,
 ⟨(some 2), none, .mov (.t 9)⟩])
 .ret))⟩
def pf_s_l06Act : PF := ⟨4, 41, [.c 8 0 8],
 (.seq (.reg [⟨(some 4), none, .box (.t 0)⟩,
 ⟨(some 5), none, .box (.t 1)⟩,
 ⟨(some 6), none, .box (.t 2)⟩,
 ⟨(some 7), none, .box (.t 3)⟩,
 ⟨(some 8), none, .alo (.by 0 8)⟩])
 (.seq (.reg [⟨(some 11), none, .bld 0 8 []⟩,
 ⟨(some 9), none, .alo (.by 0 8)⟩,
 ⟨none, none, .sta (.t 9) (.t 11) 8⟩])
 (.seq (.seq (.reg [⟨(some 10), none, .mov (.c (.i .i64 (0)))⟩])
 (.blk 0
 (.loop
 (.seq (.seq (.reg [⟨(some 12), none, .mov (.t 10)⟩,
 ⟨(some 13), none, .add (.t 4) 1⟩,
 ⟨(some 14), none, .ld1 (.t 13)⟩,
 ⟨(some 15), none, .bin .lss (.t 12) (.t 14)⟩])
 (.cond (.t 15)
 .skip
 (.exit 0)))
 (.seq (.blk 1
 (.seq (.reg [⟨(some 18), none, .mov (.t 10)⟩,
 ⟨(some 19), none, .idx (.t 6) (.t 18) 8 1⟩,
 ⟨(some 20), none, .ld8 (.t 19)⟩,
 ⟨(some 21), none, .bin .neq (.t 20) (.c (.u 0))⟩])
 (.cond (.t 21)
 (.drw [0, 1, 0, 0, 8, 0, 32, 0, 0, 384, 896, 0, 4088, 0, 8192, 24576, 57344, 131071, 262143]
 []
 [(0, ⟨(some 22), none, .add (.t 4) 0⟩),
 (1, ⟨(some 23), none, .ld1 (.t 22)⟩),
 (2, ⟨(some 24), none, .lda (.t 9) 0 8⟩),
 (3, ⟨(some 25), none, .add (.t 4) 0⟩),
 (4, ⟨(some 26), none, .ld1 (.t 25)⟩),
 (5, ⟨(some 27), none, .add (.t 5) 0⟩),
 (6, ⟨(some 28), none, .ld1 (.t 27)⟩),
 (7, ⟨(some 29), none, .mov (.t 10)⟩),
 (8, ⟨(some 30), none, .add (.t 5) 1⟩),
 (9, ⟨(some 31), none, .idx (.t 30) (.t 29) 8 64⟩),
 (10, ⟨(some 32), none, .lda (.t 31) 0 64⟩),
 (11, ⟨(some 33), none, .lda (.t 7) 0 8⟩),
 (12, ⟨(some 34), none, .call 51 [(.t 26), (.t 28), (.t 32), (.t 33)]⟩),
 (13, ⟨(some 35), none, .mov (.t 10)⟩),
 (14, ⟨(some 36), none, .idx (.t 6) (.t 35) 8 1⟩),
 (15, ⟨(some 37), none, .ld8 (.t 36)⟩),
 (16, ⟨(some 38), none, .cvt .i64 (.t 37)⟩)]
 []
 [(17, ⟨(some 39), none, .call 57 [(.t 23), (.t 24), (.t 34), (.t 38)]⟩),
 (18, ⟨none, none, .sta (.t 9) (.t 39) 8⟩)])
 .skip)))
 (.reg [⟨(some 16), none, .mov (.t 10)⟩,
 ⟨(some 17), none, .bin .add (.t 16) (.c (.i .i64 (1)))⟩,
 ⟨(some 10), none, .mov (.t 17)⟩]))))))
 (.seq (.reg [⟨(some 40), none, .lda (.t 9) 0 8⟩,
 ⟨none, none, .sta (.t 8) (.t 40) 8⟩])
 .ret))))⟩
def pf_s_l06Holds : PF := ⟨2, 96, [.t 4],
 (.seq (.reg [⟨(some 2), none, .box (.t 0)⟩,
 ⟨(some 3), none, .box (.t 1)⟩,
 ⟨(some 4), none, .mov (.c (.b false))⟩])
 (.seq (.seq (.reg [⟨(some 10), none, .add (.t 3) 0⟩,
 ⟨(some 11), none, .ld1 (.t 10)⟩,
 ⟨(some 12), none, .call 96 [(.t 11), (.c (.i .i64 (1))), (.c (.i .i64 (8)))]⟩,
 ⟨(some 13), none, .nt (.t 12)⟩])
 (.cond (.t 13)
 (.seq (.reg [⟨(some 4), none, .mov (.c (.b false))⟩])
 .ret)
 .skip))
 (.seq (.seq (.reg [⟨(some 5), none, .mov (.c (.i .i64 (0)))⟩])
 (.blk 0
 (.loop
 (.seq (.seq (.reg [⟨(some 14), none, .mov (.t 5)⟩,
 ⟨(some 15), none, .bin .lss (.t 14) (.c (.i .i64 (8)))⟩])
 (.cond (.t 15)
 .skip
 (.exit 0)))
 (.seq (.blk 1
 (.seq (.drw [0, 1, 0, 4, 0, 0, 48, 112, 255, 511, 1023, 2047, 2047, 6143, 16383, 32767, 65535, 65535, 262143, 524287, 65535, 2097151, 4194303, 8388607]
 []
 [(0, ⟨(some 18), none, .add (.t 2) 0⟩),
 (1, ⟨(some 19), none, .ld1 (.t 18)⟩),
 (2, ⟨(some 20), none, .add (.t 3) 0⟩),
 (3, ⟨(some 21), none, .ld1 (.t 20)⟩),
 (4, ⟨(some 22), none, .mov (.t 5)⟩),
 (5, ⟨(some 23), none, .add (.t 3) 1⟩),
 (6, ⟨(some 24), none, .idx (.t 23) (.t 22) 8 64⟩),
 (7, ⟨(some 25), none, .lda (.t 24) 0 64⟩),
 (8, ⟨(some 26), none, .call 64 [(.t 19), (.t 21), (.t 25)]⟩),
 (9, ⟨(some 27), none, .nt (.t 26)⟩),
 (10, ⟨(some 28), none, .mov (.t 27)⟩),
 (11, ⟨(some 29), (some (28, false)), .mov (.t 5)⟩),
 (12, ⟨(some 30), (some (28, false)), .add (.t 2) 1⟩),
 (13, ⟨(some 31), (some (28, false)), .ld1 (.t 30)⟩),
 (14, ⟨(some 32), (some (28, false)), .bin .geq (.t 29) (.t 31)⟩),
 (15, ⟨(some 33), (some (28, false)), .mov (.t 32)⟩),
 (16, ⟨(some 34), (some (33, true)), .mov (.t 5)⟩),
 (17, ⟨(some 35), (some (33, true)), .add (.t 3) 1⟩),
 (18, ⟨(some 36), (some (33, true)), .idx (.t 35) (.t 34) 8 64⟩),
 (19, ⟨(some 37), (some (33, true)), .lda (.t 36) 0 64⟩),
 (20, ⟨(some 38), (some (33, true)), .bld 0 64 []⟩)]
 []
 [(21, ⟨(some 39), (some (33, true)), .eqa true 64 (.t 37) (.t 38)⟩),
 (22, ⟨(some 40), (some (28, false)), .pick (.t 33) (.t 39) (.c (.b false))⟩),
 (23, ⟨(some 41), none, .pick (.t 28) (.c (.b true)) (.t 40)⟩)])
 (.cond (.t 41)
 (.seq (.reg [⟨(some 4), none, .mov (.c (.b false))⟩])
 .ret)
 .skip)))
 (.reg [⟨(some 16), none, .mov (.t 5)⟩,
 ⟨(some 17), none, .bin .add (.t 16) (.c (.i .i64 (1)))⟩,
 ⟨(some 5), none, .mov (.t 17)⟩]))))))
 (.seq (.seq (.reg [⟨(some 6), none, .mov (.c (.i .i64 (0)))⟩])
 (.blk 2
 (.loop
 (.seq (.seq (.reg [⟨(some 42), none, .mov (.t 6)⟩,
 ⟨(some 43), none, .add (.t 3) 0⟩,
 ⟨(some 44), none, .ld1 (.t 43)⟩,
 ⟨(some 45), none, .bin .lss (.t 42) (.t 44)⟩])
 (.cond (.t 45)
 .skip
 (.exit 2)))
 (.seq (.blk 3
 (.seq (.reg [⟨(some 48), none, .mov (.t 6)⟩,
 ⟨(some 49), none, .call 55 [(.t 48)]⟩,
 ⟨(some 7), none, .alo (.by 0 8)⟩,
 ⟨none, none, .sta (.t 7) (.t 49) 8⟩])
 (.seq (.seq (.drw [0, 0, 0, 4, 0, 31, 0, 127]
 []
 [(0, ⟨(some 50), none, .lda (.t 2) 2 1106⟩),
 (1, ⟨(some 51), none, .lda (.t 3) 1 513⟩),
 (2, ⟨(some 52), none, .add (.t 2) 2⟩),
 (3, ⟨(some 53), none, .lda (.t 52) 0 8⟩),
 (4, ⟨(some 54), none, .lda (.t 7) 0 8⟩),
 (5, ⟨(some 55), none, .call 150 [(.t 50), (.t 51), (.t 53), (.t 54)]⟩),
 (6, ⟨(some 56), none, .lda (.t 7) 0 8⟩)]
 []
 [(7, ⟨(some 57), none, .eqa true 8 (.t 55) (.t 56)⟩)])
 (.cond (.t 57)
 (.seq (.reg [⟨(some 4), none, .mov (.c (.b false))⟩])
 .ret)
 .skip))
 (.seq (.reg [⟨(some 8), none, .mov (.c (.i .i64 (0)))⟩])
 (.blk 4
 (.loop
 (.seq (.seq (.reg [⟨(some 58), none, .mov (.t 8)⟩,
 ⟨(some 59), none, .add (.t 2) 1⟩,
 ⟨(some 60), none, .ld1 (.t 59)⟩,
 ⟨(some 61), none, .bin .lss (.t 58) (.t 60)⟩])
 (.cond (.t 61)
 .skip
 (.exit 4)))
 (.seq (.blk 5
 (.seq (.reg [⟨(some 9), none, .mov (.c (.i .i64 (0)))⟩])
 (.blk 6
 (.loop
 (.seq (.seq (.reg [⟨(some 64), none, .mov (.t 9)⟩,
 ⟨(some 65), none, .add (.t 2) 1⟩,
 ⟨(some 66), none, .ld1 (.t 65)⟩,
 ⟨(some 67), none, .bin .lss (.t 64) (.t 66)⟩])
 (.cond (.t 67)
 .skip
 (.exit 6)))
 (.seq (.blk 7
 (.seq (.drw [0, 0, 0, 0, 0, 20, 60, 124, 0, 511, 0, 1024, 0, 4096, 0, 0, 49152, 114688, 0, 0, 0, 1310720, 3932160, 8126464, 16777215, 33554431]
 []
 [(0, ⟨(some 70), none, .lda (.t 2) 2 1106⟩),
 (1, ⟨(some 71), none, .lda (.t 3) 1 513⟩),
 (2, ⟨(some 72), none, .mov (.t 8)⟩),
 (3, ⟨(some 73), none, .mov (.t 9)⟩),
 (4, ⟨(some 74), none, .add (.t 2) 10⟩),
 (5, ⟨(some 75), none, .idx (.t 74) (.t 72) 8 64⟩),
 (6, ⟨(some 76), none, .idx (.t 75) (.t 73) 8 8⟩),
 (7, ⟨(some 77), none, .lda (.t 76) 0 8⟩),
 (8, ⟨(some 78), none, .lda (.t 7) 0 8⟩),
 (9, ⟨(some 79), none, .call 150 [(.t 70), (.t 71), (.t 77), (.t 78)]⟩),
 (10, ⟨(some 80), none, .add (.t 2) 0⟩),
 (11, ⟨(some 81), none, .ld1 (.t 80)⟩),
 (12, ⟨(some 82), none, .add (.t 3) 0⟩),
 (13, ⟨(some 83), none, .ld1 (.t 82)⟩),
 (14, ⟨(some 84), none, .mov (.t 8)⟩),
 (15, ⟨(some 85), none, .add (.t 3) 1⟩),
 (16, ⟨(some 86), none, .idx (.t 85) (.t 84) 8 64⟩),
 (17, ⟨(some 87), none, .lda (.t 86) 0 64⟩),
 (18, ⟨(some 88), none, .mov (.t 9)⟩),
 (19, ⟨(some 89), none, .mov (.t 6)⟩),
 (20, ⟨(some 90), none, .add (.t 3) 1⟩),
 (21, ⟨(some 91), none, .idx (.t 90) (.t 88) 8 64⟩),
 (22, ⟨(some 92), none, .idx (.t 91) (.t 89) 8 8⟩),
 (23, ⟨(some 93), none, .lda (.t 92) 0 8⟩)]
 []
 [(24, ⟨(some 94), none, .call 51 [(.t 81), (.t 83), (.t 87), (.t 93)]⟩),
 (25, ⟨(some 95), none, .eqa true 8 (.t 79) (.t 94)⟩)])
 (.cond (.t 95)
 (.seq (.reg [⟨(some 4), none, .mov (.c (.b false))⟩])
 .ret)
 .skip)))
 (.reg [⟨(some 68), none, .mov (.t 9)⟩,
 ⟨(some 69), none, .bin .add (.t 68) (.c (.i .i64 (1)))⟩,
 ⟨(some 9), none, .mov (.t 69)⟩])))))))
 (.reg [⟨(some 62), none, .mov (.t 8)⟩,
 ⟨(some 63), none, .bin .add (.t 62) (.c (.i .i64 (1)))⟩,
 ⟨(some 8), none, .mov (.t 63)⟩])))))))))
 (.reg [⟨(some 46), none, .mov (.t 6)⟩,
 ⟨(some 47), none, .bin .add (.t 46) (.c (.i .i64 (1)))⟩,
 ⟨(some 6), none, .mov (.t 47)⟩]))))))
 (.seq (.reg [⟨(some 4), none, .mov (.c (.b true))⟩])
 .ret)))))⟩
def pf_s_l06Code : PF := ⟨2, 22, [.t 4],
 (.seq (.reg [⟨(some 2), none, .box (.t 0)⟩,
 ⟨(some 4), none, .mov (.c (.i .i64 (0)))⟩])
 (.seq (.seq (.reg [⟨(some 6), none, .lda (.t 2) 2 1106⟩,
 ⟨(some 7), none, .call 24 [(.t 6)]⟩,
 ⟨(some 8), none, .nt (.t 7)⟩])
 (.cond (.t 8)
 (.seq (.reg [⟨(some 4), none, .mov (.c (.i .i64 (1)))⟩])
 .ret)
 .skip))
 (.seq (.seq (.reg [⟨(some 5), none, .mov (.c (.i .i64 (0)))⟩])
 (.blk 0
 (.loop
 (.seq (.seq (.reg [⟨(some 9), none, .mov (.t 5)⟩,
 ⟨(some 10), none, .mov (.t 1)⟩,
 ⟨(some 11), none, .len (.t 10)⟩,
 ⟨(some 12), none, .bin .lss (.t 9) (.t 11)⟩])
 (.cond (.t 12)
 .skip
 (.exit 0)))
 (.seq (.blk 1
 (.seq (.drw [0, 0, 0, 6, 14, 31, 63]
 []
 [(0, ⟨(some 15), none, .lda (.t 2) 2 1106⟩),
 (1, ⟨(some 16), none, .mov (.t 1)⟩),
 (2, ⟨(some 17), none, .mov (.t 5)⟩),
 (3, ⟨(some 18), none, .ids (.t 16) (.t 17) 513⟩),
 (4, ⟨(some 19), none, .lda (.t 18) 1 513⟩)]
 []
 [(5, ⟨(some 20), none, .call 143 [(.t 15), (.t 19)]⟩),
 (6, ⟨(some 21), none, .nt (.t 20)⟩)])
 (.cond (.t 21)
 (.seq (.reg [⟨(some 4), none, .mov (.c (.i .i64 (1)))⟩])
 .ret)
 .skip)))
 (.reg [⟨(some 13), none, .mov (.t 5)⟩,
 ⟨(some 14), none, .bin .add (.t 13) (.c (.i .i64 (1)))⟩,
 ⟨(some 5), none, .mov (.t 14)⟩]))))))
 (.seq (.reg [⟨(some 4), none, .mov (.c (.i .i64 (0)))⟩])
 .ret))))⟩
def E_i_basis (P : Program) (ρ : Nat → FuncId) : Prop := chkFn P ρ 61 pf_i_basis = true
def E_i_Algebra_field (P : Program) (ρ : Nat → FuncId) : Prop := chkFn P ρ 116 pf_i_Algebra_field = true
def E_i_field_mod (P : Program) (ρ : Nat → FuncId) : Prop := chkFn P ρ 74 pf_i_field_mod = true
def E_i_field_plus (P : Program) (ρ : Nat → FuncId) : Prop := chkFn P ρ 71 pf_i_field_plus = true ∧ E_i_field_mod P ρ
def E_i_Algebra_product (P : Program) (ρ : Nat → FuncId) : Prop := chkFn P ρ 104 pf_i_Algebra_product = true ∧ E_i_Algebra_field P ρ ∧ E_i_field_plus P ρ
def E_i_Algebra_fault (P : Program) (ρ : Nat → FuncId) : Prop := chkFn P ρ 105 pf_i_Algebra_fault = true ∧ E_i_basis P ρ ∧ E_i_Algebra_product P ρ
def E_i_IsPrime (P : Program) (ρ : Nat → FuncId) : Prop := chkFn P ρ 93 pf_i_IsPrime = true
def E_i_in (P : Program) (ρ : Nat → FuncId) : Prop := chkFn P ρ 94 pf_i_in = true
def E_i_IsVector (P : Program) (ρ : Nat → FuncId) : Prop := chkFn P ρ 92 pf_i_IsVector = true ∧ E_i_IsPrime P ρ ∧ E_i_in P ρ
def E_i_isLinear (P : Program) (ρ : Nat → FuncId) : Prop := chkFn P ρ 83 pf_i_isLinear = true ∧ E_i_IsVector P ρ
def E_i_isTable (P : Program) (ρ : Nat → FuncId) : Prop := chkFn P ρ 102 pf_i_isTable = true ∧ E_i_isLinear P ρ
def E_i_Algebra_isShaped (P : Program) (ρ : Nat → FuncId) : Prop := chkFn P ρ 81 pf_i_Algebra_isShaped = true ∧ E_i_IsVector P ρ ∧ E_i_isTable P ρ
def E_i_Coalgebra_field (P : Program) (ρ : Nat → FuncId) : Prop := chkFn P ρ 117 pf_i_Coalgebra_field = true
def E_i_Coalgebra_isFault (P : Program) (ρ : Nat → FuncId) : Prop := chkFn P ρ 119 pf_i_Coalgebra_isFault = true ∧ E_i_Coalgebra_field P ρ
def E_i_Coalgebra_fault (P : Program) (ρ : Nat → FuncId) : Prop := chkFn P ρ 108 pf_i_Coalgebra_fault = true ∧ E_i_Coalgebra_isFault P ρ
def E_i_field_dot (P : Program) (ρ : Nat → FuncId) : Prop := chkFn P ρ 118 pf_i_field_dot = true
def E_i_Coalgebra_isCounit (P : Program) (ρ : Nat → FuncId) : Prop := chkFn P ρ 107 pf_i_Coalgebra_isCounit = true ∧ E_i_Coalgebra_field P ρ ∧ E_i_field_plus P ρ ∧ E_i_field_dot P ρ ∧ E_i_basis P ρ
def E_i_Coalgebra_isShaped (P : Program) (ρ : Nat → FuncId) : Prop := chkFn P ρ 82 pf_i_Coalgebra_isShaped = true ∧ E_i_IsVector P ρ ∧ E_i_isTable P ρ
def E_i_Hopf_algebra (P : Program) (ρ : Nat → FuncId) : Prop := chkFn P ρ 36 pf_i_Hopf_algebra = true
def E_i_Hopf_coalgebra (P : Program) (ρ : Nat → FuncId) : Prop := chkFn P ρ 39 pf_i_Hopf_coalgebra = true
def E_i_Hopf_isShaped (P : Program) (ρ : Nat → FuncId) : Prop := chkFn P ρ 67 pf_i_Hopf_isShaped = true ∧ E_i_Hopf_algebra P ρ ∧ E_i_Algebra_isShaped P ρ ∧ E_i_Hopf_coalgebra P ρ ∧ E_i_Coalgebra_isShaped P ρ ∧ E_i_isLinear P ρ
def E_i_IsAlgebra (P : Program) (ρ : Nat → FuncId) : Prop := chkFn P ρ 103 pf_i_IsAlgebra = true ∧ E_i_Algebra_isShaped P ρ ∧ E_i_basis P ρ ∧ E_i_Algebra_product P ρ ∧ E_i_Algebra_fault P ρ
def E_i_Hopf_fails_1 (P : Program) (ρ : Nat → FuncId) : Prop := chkFn P ρ 84 pf_i_Hopf_fails_1 = true ∧ E_i_Hopf_algebra P ρ ∧ E_i_IsAlgebra P ρ
def E_i_IsCoalgebra (P : Program) (ρ : Nat → FuncId) : Prop := chkFn P ρ 106 pf_i_IsCoalgebra = true ∧ E_i_Coalgebra_isShaped P ρ ∧ E_i_Coalgebra_isCounit P ρ ∧ E_i_Coalgebra_fault P ρ
def E_i_Hopf_fails_2 (P : Program) (ρ : Nat → FuncId) : Prop := chkFn P ρ 85 pf_i_Hopf_fails_2 = true ∧ E_i_Hopf_coalgebra P ρ ∧ E_i_IsCoalgebra P ρ
def E_i_Hopf_field (P : Program) (ρ : Nat → FuncId) : Prop := chkFn P ρ 32 pf_i_Hopf_field = true
def E_i_Hopf_coproduct (P : Program) (ρ : Nat → FuncId) : Prop := chkFn P ρ 58 pf_i_Hopf_coproduct = true ∧ E_i_Hopf_field P ρ ∧ E_i_field_plus P ρ
def E_i_Hopf_tensor_1_1 (P : Program) (ρ : Nat → FuncId) : Prop := chkFn P ρ 122 pf_i_Hopf_tensor_1_1 = true ∧ E_i_field_plus P ρ
def E_i_pairs (P : Program) (ρ : Nat → FuncId) : Prop := chkFn P ρ 60 pf_i_pairs = true
def E_i_Hopf_tensor_1 (P : Program) (ρ : Nat → FuncId) : Prop := chkFn P ρ 120 pf_i_Hopf_tensor_1 = true ∧ E_i_Hopf_tensor_1_1 P ρ ∧ E_i_pairs P ρ
def E_i_Hopf_tensor (P : Program) (ρ : Nat → FuncId) : Prop := chkFn P ρ 109 pf_i_Hopf_tensor = true ∧ E_i_Hopf_field P ρ ∧ E_i_Hopf_tensor_1 P ρ ∧ E_i_pairs P ρ
def E_i_Hopf_axiom3 (P : Program) (ρ : Nat → FuncId) : Prop := chkFn P ρ 86 pf_i_Hopf_axiom3 = true ∧ E_i_Hopf_coproduct P ρ ∧ E_i_Hopf_tensor P ρ
def E_i_field_times (P : Program) (ρ : Nat → FuncId) : Prop := chkFn P ρ 114 pf_i_field_times = true ∧ E_i_field_plus P ρ
def E_i_field_pair (P : Program) (ρ : Nat → FuncId) : Prop := chkFn P ρ 110 pf_i_field_pair = true ∧ E_i_field_times P ρ
def E_i_Hopf_axiom4 (P : Program) (ρ : Nat → FuncId) : Prop := chkFn P ρ 87 pf_i_Hopf_axiom4 = true ∧ E_i_Hopf_coproduct P ρ ∧ E_i_Hopf_field P ρ ∧ E_i_field_pair P ρ
def E_i_Hopf_counit (P : Program) (ρ : Nat → FuncId) : Prop := chkFn P ρ 111 pf_i_Hopf_counit = true ∧ E_i_Hopf_field P ρ ∧ E_i_field_dot P ρ
def E_i_Hopf_axiom5 (P : Program) (ρ : Nat → FuncId) : Prop := chkFn P ρ 88 pf_i_Hopf_axiom5 = true ∧ E_i_Hopf_field P ρ ∧ E_i_Hopf_counit P ρ
def E_i_Hopf_product (P : Program) (ρ : Nat → FuncId) : Prop := chkFn P ρ 73 pf_i_Hopf_product = true ∧ E_i_Hopf_field P ρ ∧ E_i_field_plus P ρ
def E_i_Hopf_folded_1 (P : Program) (ρ : Nat → FuncId) : Prop := chkFn P ρ 121 pf_i_Hopf_folded_1 = true ∧ E_i_basis P ρ ∧ E_i_Hopf_product P ρ ∧ E_i_field_plus P ρ
def E_i_Hopf_folded (P : Program) (ρ : Nat → FuncId) : Prop := chkFn P ρ 113 pf_i_Hopf_folded = true ∧ E_i_Hopf_field P ρ ∧ E_i_Hopf_folded_1 P ρ ∧ E_i_pairs P ρ
def E_i_Hopf_axiomS (P : Program) (ρ : Nat → FuncId) : Prop := chkFn P ρ 112 pf_i_Hopf_axiomS = true ∧ E_i_Hopf_field P ρ ∧ E_i_Hopf_folded P ρ ∧ E_i_field_times P ρ
def E_i_Hopf_fails_3 (P : Program) (ρ : Nat → FuncId) : Prop := chkFn P ρ 89 pf_i_Hopf_fails_3 = true ∧ E_i_Hopf_axiomS P ρ
def E_i_Hopf_fails_4 (P : Program) (ρ : Nat → FuncId) : Prop := chkFn P ρ 90 pf_i_Hopf_fails_4 = true ∧ E_i_Hopf_axiomS P ρ
def E_i_Hopf_fails (P : Program) (ρ : Nat → FuncId) : Prop := chkFn P ρ 68 pf_i_Hopf_fails = true ∧ E_i_Hopf_fails_1 P ρ ∧ E_i_Hopf_fails_2 P ρ ∧ E_i_Hopf_axiom3 P ρ ∧ E_i_Hopf_axiom4 P ρ ∧ E_i_Hopf_axiom5 P ρ ∧ E_i_Hopf_fails_3 P ρ ∧ E_i_Hopf_fails_4 P ρ
def E_i_IsHopf (P : Program) (ρ : Nat → FuncId) : Prop := chkFn P ρ 47 pf_i_IsHopf = true ∧ E_i_Hopf_isShaped P ρ ∧ E_i_Hopf_fails P ρ
def E_i_Module_field (P : Program) (ρ : Nat → FuncId) : Prop := chkFn P ρ 151 pf_i_Module_field = true
def E_i_Module_isShaped (P : Program) (ρ : Nat → FuncId) : Prop := chkFn P ρ 152 pf_i_Module_isShaped = true ∧ E_i_isLinear P ρ
def E_i_Module_acts (P : Program) (ρ : Nat → FuncId) : Prop := chkFn P ρ 153 pf_i_Module_acts = true ∧ E_i_Module_field P ρ ∧ E_i_field_plus P ρ
def E_i_field_identity (P : Program) (ρ : Nat → FuncId) : Prop := chkFn P ρ 44 pf_i_field_identity = true ∧ E_i_basis P ρ
def E_i_field_apply (P : Program) (ρ : Nat → FuncId) : Prop := chkFn P ρ 52 pf_i_field_apply = true ∧ E_i_field_plus P ρ
def E_i_field_after (P : Program) (ρ : Nat → FuncId) : Prop := chkFn P ρ 33 pf_i_field_after = true ∧ E_i_field_apply P ρ
def E_i_Module_isModule (P : Program) (ρ : Nat → FuncId) : Prop := chkFn P ρ 145 pf_i_Module_isModule = true ∧ E_i_Module_field P ρ ∧ E_i_Module_isShaped P ρ ∧ E_i_Module_acts P ρ ∧ E_i_field_identity P ρ ∧ E_i_field_after P ρ
def E_i_unless (P : Program) (ρ : Nat → FuncId) : Prop := chkFn P ρ 49 pf_i_unless = true
def E_i_modulesCode (P : Program) (ρ : Nat → FuncId) : Prop := chkFn P ρ 164 pf_i_modulesCode = true ∧ E_i_IsHopf P ρ ∧ E_i_Module_isModule P ρ ∧ E_i_unless P ρ
def E_l_toVector (P : Program) (ρ : Nat → FuncId) : Prop := chkFn P ρ 16 pf_l_toVector = true
def E_l_toLinear (P : Program) (ρ : Nat → FuncId) : Prop := chkFn P ρ 26 pf_l_toLinear = true ∧ E_l_toVector P ρ
def E_l_toTable (P : Program) (ρ : Nat → FuncId) : Prop := chkFn P ρ 25 pf_l_toTable = true ∧ E_l_toLinear P ρ
def E_l_toHopf (P : Program) (ρ : Nat → FuncId) : Prop := chkFn P ρ 0 pf_l_toHopf = true ∧ E_l_toVector P ρ ∧ E_l_toTable P ρ ∧ E_l_toLinear P ρ
def E_l_toLinearA8 (P : Program) (ρ : Nat → FuncId) : Prop := chkFn P ρ 144 pf_l_toLinearA8 = true ∧ E_l_toLinear P ρ
def E_l_toModule (P : Program) (ρ : Nat → FuncId) : Prop := chkFn P ρ 133 pf_l_toModule = true ∧ E_l_toLinearA8 P ρ
def E_s_l03Algebra (P : Program) (ρ : Nat → FuncId) : Prop := chkFn P ρ 35 pf_s_l03Algebra = true
def E_s_l01In (P : Program) (ρ : Nat → FuncId) : Prop := chkFn P ρ 96 pf_s_l01In = true
def E_s_l01Prime (P : Program) (ρ : Nat → FuncId) : Prop := chkFn P ρ 95 pf_s_l01Prime = true ∧ E_s_l01In P ρ
def E_s_l01Sizes (P : Program) (ρ : Nat → FuncId) : Prop := chkFn P ρ 75 pf_s_l01Sizes = true ∧ E_s_l01Prime P ρ ∧ E_s_l01In P ρ
def E_s_l01Vector (P : Program) (ρ : Nat → FuncId) : Prop := chkFn P ρ 53 pf_s_l01Vector = true
def E_s_l01Linear (P : Program) (ρ : Nat → FuncId) : Prop := chkFn P ρ 64 pf_s_l01Linear = true ∧ E_s_l01Vector P ρ
def E_s_l01Table (P : Program) (ρ : Nat → FuncId) : Prop := chkFn P ρ 63 pf_s_l01Table = true ∧ E_s_l01Linear P ρ
def E_s_l01Shape (P : Program) (ρ : Nat → FuncId) : Prop := chkFn P ρ 62 pf_s_l01Shape = true ∧ E_s_l01Sizes P ρ ∧ E_s_l01Vector P ρ ∧ E_s_l01Table P ρ
def E_s_l03Shape (P : Program) (ρ : Nat → FuncId) : Prop := chkFn P ρ 45 pf_s_l03Shape = true ∧ E_s_l03Algebra P ρ ∧ E_s_l01Shape P ρ ∧ E_s_l01Vector P ρ ∧ E_s_l01Table P ρ ∧ E_s_l01Linear P ρ
def E_s_l01Basis (P : Program) (ρ : Nat → FuncId) : Prop := chkFn P ρ 55 pf_s_l01Basis = true
def E_s_l01Mod (P : Program) (ρ : Nat → FuncId) : Prop := chkFn P ρ 72 pf_s_l01Mod = true
def E_s_l01Add (P : Program) (ρ : Nat → FuncId) : Prop := chkFn P ρ 57 pf_s_l01Add = true ∧ E_s_l01Mod P ρ
def E_s_l01Apply (P : Program) (ρ : Nat → FuncId) : Prop := chkFn P ρ 51 pf_s_l01Apply = true ∧ E_s_l01Add P ρ
def E_s_l01Times (P : Program) (ρ : Nat → FuncId) : Prop := chkFn P ρ 56 pf_s_l01Times = true ∧ E_s_l01Apply P ρ ∧ E_s_l01Add P ρ
def E_s_l01Fault (P : Program) (ρ : Nat → FuncId) : Prop := chkFn P ρ 97 pf_s_l01Fault = true ∧ E_s_l01Basis P ρ ∧ E_s_l01Times P ρ
def E_s_l01Is (P : Program) (ρ : Nat → FuncId) : Prop := chkFn P ρ 76 pf_s_l01Is = true ∧ E_s_l01Shape P ρ ∧ E_s_l01Basis P ρ ∧ E_s_l01Times P ρ ∧ E_s_l01Fault P ρ
def E_s_l03Coalgebra (P : Program) (ρ : Nat → FuncId) : Prop := chkFn P ρ 38 pf_s_l03Coalgebra = true
def E_s_l02Shape (P : Program) (ρ : Nat → FuncId) : Prop := chkFn P ρ 98 pf_s_l02Shape = true ∧ E_s_l01Sizes P ρ ∧ E_s_l01Vector P ρ ∧ E_s_l01Table P ρ
def E_s_l02Sums (P : Program) (ρ : Nat → FuncId) : Prop := chkFn P ρ 115 pf_s_l02Sums = true ∧ E_s_l01Mod P ρ
def E_s_l02Fault (P : Program) (ρ : Nat → FuncId) : Prop := chkFn P ρ 99 pf_s_l02Fault = true ∧ E_s_l02Sums P ρ
def E_s_l02Counits (P : Program) (ρ : Nat → FuncId) : Prop := chkFn P ρ 100 pf_s_l02Counits = true ∧ E_s_l01Add P ρ ∧ E_s_l01Mod P ρ ∧ E_s_l01Basis P ρ
def E_s_l02Is (P : Program) (ρ : Nat → FuncId) : Prop := chkFn P ρ 77 pf_s_l02Is = true ∧ E_s_l02Shape P ρ ∧ E_s_l02Fault P ρ ∧ E_s_l02Counits P ρ
def E_s_l03Coproduct (P : Program) (ρ : Nat → FuncId) : Prop := chkFn P ρ 54 pf_s_l03Coproduct = true ∧ E_s_l01Add P ρ
def E_s_l01Zero (P : Program) (ρ : Nat → FuncId) : Prop := chkFn P ρ 101 pf_s_l01Zero = true
def E_s_l03Pairs (P : Program) (ρ : Nat → FuncId) : Prop := chkFn P ρ 78 pf_s_l03Pairs = true ∧ E_s_l03Algebra P ρ ∧ E_s_l01Times P ρ ∧ E_s_l01Zero P ρ ∧ E_s_l01Add P ρ
def E_s_l03Counit (P : Program) (ρ : Nat → FuncId) : Prop := chkFn P ρ 79 pf_s_l03Counit = true
def E_s_l03Bialgebra (P : Program) (ρ : Nat → FuncId) : Prop := chkFn P ρ 65 pf_s_l03Bialgebra = true ∧ E_s_l03Algebra P ρ ∧ E_s_l01Is P ρ ∧ E_s_l03Coalgebra P ρ ∧ E_s_l02Is P ρ ∧ E_s_l03Coproduct P ρ ∧ E_s_l03Pairs P ρ ∧ E_s_l01Add P ρ ∧ E_s_l03Counit P ρ
def E_s_l03Folded (P : Program) (ρ : Nat → FuncId) : Prop := chkFn P ρ 80 pf_s_l03Folded = true ∧ E_s_l03Algebra P ρ ∧ E_s_l01Basis P ρ ∧ E_s_l01Times P ρ ∧ E_s_l01Add P ρ
def E_s_l03Antipode (P : Program) (ρ : Nat → FuncId) : Prop := chkFn P ρ 66 pf_s_l03Antipode = true ∧ E_s_l03Folded P ρ ∧ E_s_l01Add P ρ
def E_s_l03Fails (P : Program) (ρ : Nat → FuncId) : Prop := chkFn P ρ 46 pf_s_l03Fails = true ∧ E_s_l03Bialgebra P ρ ∧ E_s_l03Antipode P ρ
def E_s_l03Is (P : Program) (ρ : Nat → FuncId) : Prop := chkFn P ρ 24 pf_s_l03Is = true ∧ E_s_l03Shape P ρ ∧ E_s_l03Fails P ρ
def E_s_l06Act (P : Program) (ρ : Nat → FuncId) : Prop := chkFn P ρ 150 pf_s_l06Act = true ∧ E_s_l01Apply P ρ ∧ E_s_l01Add P ρ
def E_s_l06Holds (P : Program) (ρ : Nat → FuncId) : Prop := chkFn P ρ 143 pf_s_l06Holds = true ∧ E_s_l01In P ρ ∧ E_s_l01Linear P ρ ∧ E_s_l01Basis P ρ ∧ E_s_l06Act P ρ ∧ E_s_l01Apply P ρ
def E_s_l06Code (P : Program) (ρ : Nat → FuncId) : Prop := chkFn P ρ 162 pf_s_l06Code = true ∧ E_s_l03Is P ρ ∧ E_s_l06Holds P ρ
end Hf
