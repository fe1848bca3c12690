/- The functions of the program in the engine's small language. Written by gen.py. -/
import Derived.Test.YtkkjaohppodccabGreatA
set_option linter.unusedVariables false
set_option linter.unusedSimpArgs false
namespace Hf
open Go
def c6 (n : Int) : Ar := .c (.i .i64 n)
def pm (d s : Nat) : PI := ⟨some d, none, .mov (.t s)⟩
def po (d : Nat) (p : PO) : PI := ⟨some d, none, p⟩
def pf_i_IsPrime : PF := ⟨1, 21, [.t 2],
 (.seq (.reg [⟨(some 2), none, .mov (.c (.b false))⟩])
 (.seq (.seq (.reg [⟨(some 4), none, .mov (.t 0)⟩,
 ⟨(some 5), none, .bin .lss (.t 4) (c6 2)⟩,
 ⟨(some 6), none, .mov (.t 5)⟩,
 ⟨(some 7), (some (6, false)), .mov (.t 0)⟩,
 ⟨(some 8), (some (6, false)), .bin .gtr (.t 7) (c6 31)⟩,
 ⟨(some 9), none, .pick (.t 6) (.c (.b true)) (.t 8)⟩])
 (.cond (.t 9)
 (.seq (.reg [⟨(some 2), none, .mov (.c (.b false))⟩])
 .ret)
 .skip))
 (.seq (.seq (.reg [⟨(some 3), none, .mov (c6 2)⟩])
 (.blk 0
 (.loop
 (.seq (.seq (.reg [⟨(some 10), none, .mov (.t 3)⟩,
 ⟨(some 11), none, .mov (.t 3)⟩,
 ⟨(some 12), none, .bin .mul (.t 10) (.t 11)⟩,
 ⟨(some 13), none, .mov (.t 0)⟩,
 ⟨(some 14), none, .bin .leq (.t 12) (.t 13)⟩])
 (.cond (.t 14)
 .skip
 (.exit 0)))
 (.seq (.blk 1
 (.seq (.reg [⟨(some 17), none, .mov (.t 0)⟩,
 ⟨(some 18), none, .mov (.t 3)⟩,
 ⟨(some 19), none, .bin .rem (.t 17) (.t 18)⟩,
 ⟨(some 20), none, .bin .eql (.t 19) (c6 0)⟩])
 (.cond (.t 20)
 (.seq (.reg [⟨(some 2), none, .mov (.c (.b false))⟩])
 .ret)
 .skip)))
 (.reg [⟨(some 15), none, .mov (.t 3)⟩,
 ⟨(some 16), none, .bin .add (.t 15) (c6 1)⟩,
 ⟨(some 3), none, .mov (.t 16)⟩]))))))
 (.seq (.reg [⟨(some 2), none, .mov (.c (.b true))⟩])
 .ret))))⟩
def pf_i_in : PF := ⟨3, 15, [.t 6],
 (.seq (.reg [⟨(some 6), none, .mov (.c (.b false))⟩])
 (.seq (.reg [⟨(some 7), none, .mov (.t 1)⟩,
 ⟨(some 8), none, .mov (.t 0)⟩,
 ⟨(some 9), none, .bin .leq (.t 7) (.t 8)⟩,
 ⟨(some 10), none, .mov (.t 9)⟩,
 ⟨(some 11), (some (10, true)), .mov (.t 0)⟩,
 ⟨(some 12), (some (10, true)), .mov (.t 2)⟩,
 ⟨(some 13), (some (10, true)), .bin .leq (.t 11) (.t 12)⟩,
 ⟨(some 14), none, .pick (.t 10) (.t 13) (.c (.b false))⟩,
 ⟨(some 6), none, .mov (.t 14)⟩])
 .ret))⟩
def pf_i_IsVector : PF := ⟨3, 36, [.t 6],
 (.seq (.reg [⟨(some 5), none, .box (.t 2)⟩,
 ⟨(some 6), none, .mov (.c (.b false))⟩])
 (.seq (.seq (.reg [⟨(some 9), none, .mov (.t 0)⟩,
 ⟨(some 10), none, .call 93 [(.t 9)]⟩,
 ⟨(some 11), none, .nt (.t 10)⟩,
 ⟨(some 12), none, .mov (.t 11)⟩,
 ⟨(some 13), (some (12, false)), .mov (.t 1)⟩,
 ⟨(some 14), (some (12, false)), .call 94 [(.t 13), (c6 1), (c6 8)]⟩,
 ⟨(some 15), (some (12, false)), .nt (.t 14)⟩,
 ⟨(some 16), none, .pick (.t 12) (.c (.b true)) (.t 15)⟩])
 (.cond (.t 16)
 (.seq (.reg [⟨(some 6), none, .mov (.c (.b false))⟩])
 .ret)
 .skip))
 (.seq (.seq (.reg [⟨(some 17), none, .lda (.t 5) 0 8⟩,
 ⟨(some 18), none, .mov (c6 0)⟩])
 (.blk 0
 (.loop
 (.seq (.reg [⟨(some 19), none, .bin .lss (.t 18) (c6 8)⟩])
 (.seq (.cond (.t 19)
 .skip
 (.exit 0))
 (.seq (.blk 1
 (.seq (.reg [⟨(some 20), none, .mov (.t 18)⟩,
 ⟨(some 21), none, .ixb (.t 17) (.t 18) 8⟩,
 ⟨(some 7), none, .mov (.t 20)⟩,
 ⟨(some 8), none, .mov (.t 21)⟩])
 (.seq (.reg [⟨(some 22), none, .mov (.t 8)⟩,
 ⟨(some 23), none, .cvt .i64 (.t 22)⟩,
 ⟨(some 24), none, .mov (.t 0)⟩,
 ⟨(some 25), none, .bin .geq (.t 23) (.t 24)⟩,
 ⟨(some 26), none, .mov (.t 25)⟩,
 ⟨(some 27), (some (26, false)), .mov (.t 7)⟩,
 ⟨(some 28), (some (26, false)), .mov (.t 1)⟩,
 ⟨(some 29), (some (26, false)), .bin .geq (.t 27) (.t 28)⟩,
 ⟨(some 30), (some (26, false)), .mov (.t 29)⟩,
 ⟨(some 31), (some (30, true)), .mov (.t 8)⟩,
 ⟨(some 32), (some (30, true)), .bin .neq (.t 31) (.c (.u 0))⟩,
 ⟨(some 33), (some (26, false)), .pick (.t 30) (.t 32) (.c (.b false))⟩,
 ⟨(some 34), none, .pick (.t 26) (.c (.b true)) (.t 33)⟩])
 (.cond (.t 34)
 (.seq (.reg [⟨(some 6), none, .mov (.c (.b false))⟩])
 .ret)
 .skip))))
 (.reg [⟨(some 35), none, .bin .add (.t 18) (c6 1)⟩,
 ⟨(some 18), none, .mov (.t 35)⟩])))))))
 (.seq (.reg [⟨(some 6), none, .mov (.c (.b true))⟩])
 .ret))))⟩
def pf_i_isLinear : PF := ⟨4, 34, [.t 8],
 (.seq (.reg [⟨(some 8), none, .mov (.c (.b false))⟩])
 (.seq (.seq (.reg [⟨(some 11), none, .mov (.t 3)⟩,
 ⟨(some 12), none, .mov (c6 0)⟩])
 (.blk 0
 (.loop
 (.seq (.reg [⟨(some 13), none, .bin .lss (.t 12) (c6 8)⟩])
 (.seq (.cond (.t 13)
 .skip
 (.exit 0))
 (.seq (.blk 1
 (.seq (.drw [0, 0, 2, 6, 0, 17, 63]
 []
 [(0, ⟨(some 14), none, .mov (.t 12)⟩),
 (1, ⟨(some 15), none, .nck (.t 11)⟩),
 (2, ⟨(some 16), none, .idx (.t 15) (.t 12) 8 8⟩),
 (3, ⟨(some 17), none, .lda (.t 16) 0 8⟩),
 (5, ⟨(some 9), none, .mov (.t 14)⟩)]
 [⟨4, 10, (.by 0 8), none⟩]
 [(6, ⟨none, none, .sta (.t 10) (.t 17) 8⟩)])
 (.seq (.reg [⟨(some 18), none, .mov (.t 0)⟩,
 ⟨(some 19), none, .mov (.t 2)⟩,
 ⟨(some 20), none, .lda (.t 10) 0 8⟩,
 ⟨(some 21), none, .call 92 [(.t 18), (.t 19), (.t 20)]⟩,
 ⟨(some 22), none, .nt (.t 21)⟩,
 ⟨(some 23), none, .mov (.t 22)⟩,
 ⟨(some 24), (some (23, false)), .mov (.t 9)⟩,
 ⟨(some 25), (some (23, false)), .mov (.t 1)⟩,
 ⟨(some 26), (some (23, false)), .bin .geq (.t 24) (.t 25)⟩,
 ⟨(some 27), (some (23, false)), .mov (.t 26)⟩,
 ⟨(some 28), (some (27, true)), .lda (.t 10) 0 8⟩,
 ⟨(some 29), (some (27, true)), .bld 0 8 []⟩,
 ⟨(some 30), (some (27, true)), .eqa true 8 (.t 28) (.t 29)⟩,
 ⟨(some 31), (some (23, false)), .pick (.t 27) (.t 30) (.c (.b false))⟩,
 ⟨(some 32), none, .pick (.t 23) (.c (.b true)) (.t 31)⟩])
 (.cond (.t 32)
 (.seq (.reg [⟨(some 8), none, .mov (.c (.b false))⟩])
 .ret)
 .skip))))
 (.reg [⟨(some 33), none, .bin .add (.t 12) (c6 1)⟩,
 ⟨(some 12), none, .mov (.t 33)⟩])))))))
 (.seq (.reg [⟨(some 8), none, .mov (.c (.b true))⟩])
 .ret)))⟩
def pf_i_isTable : PF := ⟨3, 35, [.t 6],
 (.seq (.reg [⟨(some 6), none, .mov (.c (.b false))⟩])
 (.seq (.seq (.reg [⟨(some 8), none, .mov (c6 0)⟩])
 (.blk 0
 (.loop
 (.seq (.reg [⟨(some 9), none, .bin .lss (.t 8) (c6 8)⟩])
 (.seq (.cond (.t 9)
 .skip
 (.exit 0))
 (.seq (.blk 1
 (.seq (.reg [⟨(some 10), none, .mov (.t 8)⟩,
 ⟨(some 7), none, .mov (.t 10)⟩])
 (.seq (.reg [⟨(some 11), none, .mov (.t 0)⟩,
 ⟨(some 12), none, .mov (.t 1)⟩,
 ⟨(some 13), none, .mov (.t 1)⟩,
 ⟨(some 14), none, .mov (.t 2)⟩,
 ⟨(some 15), none, .mov (.t 7)⟩,
 ⟨(some 16), none, .nck (.t 14)⟩,
 ⟨(some 17), none, .idx (.t 16) (.t 15) 8 64⟩,
 ⟨(some 18), none, .call 83 [(.t 11), (.t 12), (.t 13), (.t 17)]⟩,
 ⟨(some 19), none, .nt (.t 18)⟩,
 ⟨(some 20), none, .mov (.t 19)⟩,
 ⟨(some 21), (some (20, false)), .mov (.t 7)⟩,
 ⟨(some 22), (some (20, false)), .mov (.t 1)⟩,
 ⟨(some 23), (some (20, false)), .bin .geq (.t 21) (.t 22)⟩,
 ⟨(some 24), (some (20, false)), .mov (.t 23)⟩,
 ⟨(some 25), (some (24, true)), .mov (.t 2)⟩,
 ⟨(some 26), (some (24, true)), .mov (.t 7)⟩,
 ⟨(some 27), (some (24, true)), .nck (.t 25)⟩,
 ⟨(some 28), (some (24, true)), .idx (.t 27) (.t 26) 8 64⟩,
 ⟨(some 29), (some (24, true)), .lda (.t 28) 0 64⟩,
 ⟨(some 30), (some (24, true)), .bld 0 64 []⟩,
 ⟨(some 31), (some (24, true)), .eqa true 64 (.t 29) (.t 30)⟩,
 ⟨(some 32), (some (20, false)), .pick (.t 24) (.t 31) (.c (.b false))⟩,
 ⟨(some 33), none, .pick (.t 20) (.c (.b true)) (.t 32)⟩])
 (.cond (.t 33)
 (.seq (.reg [⟨(some 6), none, .mov (.c (.b false))⟩])
 .ret)
 .skip))))
 (.reg [⟨(some 34), none, .bin .add (.t 8) (c6 1)⟩,
 ⟨(some 8), none, .mov (.t 34)⟩])))))))
 (.seq (.reg [⟨(some 6), none, .mov (.c (.b true))⟩])
 .ret)))⟩
def pf_i_Coalgebra_isShaped : PF := ⟨1, 30, [.t 2],
 (.seq (.reg [⟨(some 2), none, .mov (.c (.b false))⟩])
 (.seq (.drw [0, 1, 3, 7, 0, 16, 48, 112, 0, 256, 768, 1792, 4095, 8191, 16383, 32767, 65535, 131071, 16383, 278527, 802815, 1851391, 16383, 4210687, 12599295, 33554431, 67108863, 134217727]
 []
 [(0, ⟨(some 3), none, .mov (.t 0)⟩),
 (1, ⟨(some 4), none, .nck (.t 3)⟩),
 (2, ⟨(some 5), none, .add (.t 4) 0⟩),
 (3, ⟨(some 6), none, .ld1 (.t 5)⟩),
 (4, ⟨(some 7), none, .mov (.t 0)⟩),
 (5, ⟨(some 8), none, .nck (.t 7)⟩),
 (6, ⟨(some 9), none, .add (.t 8) 1⟩),
 (7, ⟨(some 10), none, .ld1 (.t 9)⟩),
 (8, ⟨(some 11), none, .mov (.t 0)⟩),
 (9, ⟨(some 12), none, .nck (.t 11)⟩),
 (10, ⟨(some 13), none, .add (.t 12) 2⟩),
 (11, ⟨(some 14), none, .lda (.t 13) 0 8⟩),
 (12, ⟨(some 15), none, .call 92 [(.t 6), (.t 10), (.t 14)]⟩),
 (13, ⟨(some 16), none, .mov (.t 15)⟩),
 (14, ⟨(some 17), (some (16, true)), .mov (.t 0)⟩),
 (15, ⟨(some 18), (some (16, true)), .nck (.t 17)⟩),
 (16, ⟨(some 19), (some (16, true)), .add (.t 18) 0⟩),
 (17, ⟨(some 20), (some (16, true)), .ld1 (.t 19)⟩),
 (18, ⟨(some 21), (some (16, true)), .mov (.t 0)⟩),
 (19, ⟨(some 22), (some (16, true)), .nck (.t 21)⟩),
 (20, ⟨(some 23), (some (16, true)), .add (.t 22) 1⟩),
 (21, ⟨(some 24), (some (16, true)), .ld1 (.t 23)⟩),
 (22, ⟨(some 25), (some (16, true)), .mov (.t 0)⟩),
 (23, ⟨(some 26), (some (16, true)), .nck (.t 25)⟩),
 (24, ⟨(some 27), (some (16, true)), .add (.t 26) 10⟩)]
 []
 [(25, ⟨(some 28), (some (16, true)), .call 102 [(.t 20), (.t 24), (.t 27)]⟩),
 (26, ⟨(some 29), none, .pick (.t 16) (.t 28) (.c (.b false))⟩),
 (27, ⟨(some 2), none, .mov (.t 29)⟩)])
 .ret))⟩
def pf_i_Coalgebra_field : PF := ⟨1, 12, [.c 2 2 2],
 (.seq (.reg [⟨(some 2), none, .alo (.by 2 2)⟩])
 (.seq (.drw [0, 1, 3, 7, 0, 16, 48, 112, 255, 511]
 []
 [(0, ⟨(some 3), none, .mov (.t 0)⟩),
 (1, ⟨(some 4), none, .nck (.t 3)⟩),
 (2, ⟨(some 5), none, .add (.t 4) 0⟩),
 (3, ⟨(some 6), none, .ld1 (.t 5)⟩),
 (4, ⟨(some 7), none, .mov (.t 0)⟩),
 (5, ⟨(some 8), none, .nck (.t 7)⟩),
 (6, ⟨(some 9), none, .add (.t 8) 1⟩),
 (7, ⟨(some 10), none, .ld1 (.t 9)⟩)]
 []
 [(8, ⟨(some 11), none, .bld 2 2 [(0, 1, (.t 6)), (1, 1, (.t 10))]⟩),
 (9, ⟨none, none, .sta (.t 2) (.t 11) 2⟩)])
 .ret))⟩
def pf_i_field_mod : PF := ⟨2, 17, [.t 4],
 (.seq (.reg [⟨(some 2), none, .box (.t 0)⟩,
 ⟨(some 4), none, .mov (.c (.u 0))⟩])
 (.seq (.reg [⟨(some 5), none, .mov (.t 1)⟩,
 ⟨(some 6), none, .add (.t 2) 0⟩,
 ⟨(some 7), none, .ld1 (.t 6)⟩,
 ⟨(some 8), none, .bin .rem (.t 5) (.t 7)⟩,
 ⟨(some 1), none, .mov (.t 8)⟩])
 (.seq (.seq (.reg [⟨(some 9), none, .mov (.t 1)⟩,
 ⟨(some 10), none, .bin .lss (.t 9) (c6 0)⟩])
 (.cond (.t 10)
 (.reg [⟨(some 11), none, .mov (.t 1)⟩,
 ⟨(some 12), none, .add (.t 2) 0⟩,
 ⟨(some 13), none, .ld1 (.t 12)⟩,
 ⟨(some 14), none, .bin .add (.t 11) (.t 13)⟩,
 ⟨(some 1), none, .mov (.t 14)⟩])
 .skip))
 (.seq (.reg [⟨(some 15), none, .mov (.t 1)⟩,
 ⟨(some 16), none, .cvt .u8 (.t 15)⟩,
 ⟨(some 4), none, .mov (.t 16)⟩])
 .ret))))⟩
def pf_i_field_plus : PF := ⟨4, 35, [],
 (.seq (.reg [⟨(some 4), none, .box (.t 0)⟩,
 ⟨(some 7), none, .box (.t 3)⟩])
 (.seq (.seq (.reg [⟨(some 10), none, .mov (.t 2)⟩,
 ⟨(some 11), none, .bin .eql (.t 10) (c6 0)⟩])
 (.cond (.t 11)
 .ret
 .skip))
 (.seq (.reg [⟨(some 12), none, .lda (.t 7) 0 8⟩,
 ⟨(some 13), none, .mov (c6 0)⟩])
 (.blk 0
 (.loop
 (.seq (.reg [⟨(some 14), none, .bin .lss (.t 13) (c6 8)⟩])
 (.seq (.cond (.t 14)
 .skip
 (.exit 0))
 (.seq (.blk 1
 (.seq (.reg [⟨(some 15), none, .mov (.t 13)⟩,
 ⟨(some 16), none, .ixb (.t 12) (.t 13) 8⟩,
 ⟨(some 8), none, .mov (.t 15)⟩,
 ⟨(some 9), none, .mov (.t 16)⟩])
 (.drw [0, 0, 0, 0, 0, 8, 56, 120, 248, 0, 0, 1024, 3584, 8184, 16380, 1, 65535, 131071]
 []
 [(0, ⟨(some 17), none, .mov (.t 1)⟩),
 (1, ⟨(some 18), none, .mov (.t 8)⟩),
 (2, ⟨(some 19), none, .lda (.t 4) 2 2⟩),
 (3, ⟨(some 20), none, .mov (.t 1)⟩),
 (4, ⟨(some 21), none, .mov (.t 8)⟩),
 (5, ⟨(some 22), none, .nck (.t 20)⟩),
 (6, ⟨(some 23), none, .idx (.t 22) (.t 21) 8 1⟩),
 (7, ⟨(some 24), none, .ld8 (.t 23)⟩),
 (8, ⟨(some 25), none, .cvt .i64 (.t 24)⟩),
 (9, ⟨(some 26), none, .mov (.t 2)⟩),
 (10, ⟨(some 27), none, .mov (.t 9)⟩),
 (11, ⟨(some 28), none, .cvt .i64 (.t 27)⟩),
 (12, ⟨(some 29), none, .bin .mul (.t 26) (.t 28)⟩),
 (13, ⟨(some 30), none, .bin .add (.t 25) (.t 29)⟩),
 (14, ⟨(some 31), none, .call 74 [(.t 19), (.t 30)]⟩),
 (15, ⟨(some 32), none, .nck (.t 17)⟩)]
 []
 [(16, ⟨(some 33), none, .idx (.t 32) (.t 18) 8 1⟩),
 (17, ⟨none, none, .st8 (.t 33) (.t 31)⟩)])))
 (.reg [⟨(some 34), none, .bin .add (.t 13) (c6 1)⟩,
 ⟨(some 13), none, .mov (.t 34)⟩])))))))))⟩
def pf_i_field_dot : PF := ⟨3, 29, [.t 6],
 (.seq (.reg [⟨(some 3), none, .box (.t 0)⟩,
 ⟨(some 4), none, .box (.t 1)⟩,
 ⟨(some 5), none, .box (.t 2)⟩,
 ⟨(some 6), none, .mov (c6 0)⟩])
 (.seq (.reg [⟨(some 7), none, .mov (c6 0)⟩])
 (.seq (.seq (.reg [⟨(some 10), none, .lda (.t 4) 0 8⟩,
 ⟨(some 11), none, .mov (c6 0)⟩])
 (.blk 0
 (.loop
 (.seq (.reg [⟨(some 12), none, .bin .lss (.t 11) (c6 8)⟩])
 (.seq (.cond (.t 12)
 .skip
 (.exit 0))
 (.seq (.blk 1
 (.seq (.reg [⟨(some 13), none, .mov (.t 11)⟩,
 ⟨(some 14), none, .ixb (.t 10) (.t 11) 8⟩,
 ⟨(some 8), none, .mov (.t 13)⟩,
 ⟨(some 9), none, .mov (.t 14)⟩])
 (.reg [⟨(some 15), none, .mov (.t 7)⟩,
 ⟨(some 16), none, .mov (.t 9)⟩,
 ⟨(some 17), none, .cvt .i64 (.t 16)⟩,
 ⟨(some 18), none, .mov (.t 8)⟩,
 ⟨(some 19), none, .idx (.t 5) (.t 18) 8 1⟩,
 ⟨(some 20), none, .ld8 (.t 19)⟩,
 ⟨(some 21), none, .cvt .i64 (.t 20)⟩,
 ⟨(some 22), none, .bin .mul (.t 17) (.t 21)⟩,
 ⟨(some 23), none, .bin .add (.t 15) (.t 22)⟩,
 ⟨(some 7), none, .mov (.t 23)⟩])))
 (.reg [⟨(some 24), none, .bin .add (.t 11) (c6 1)⟩,
 ⟨(some 11), none, .mov (.t 24)⟩])))))))
 (.seq (.reg [⟨(some 25), none, .mov (.t 7)⟩,
 ⟨(some 26), none, .add (.t 3) 0⟩,
 ⟨(some 27), none, .ld1 (.t 26)⟩,
 ⟨(some 28), none, .bin .rem (.t 25) (.t 27)⟩,
 ⟨(some 6), none, .mov (.t 28)⟩])
 .ret))))⟩
def pf_i_basis : PF := ⟨1, 8, [.c 2 0 8],
 (.seq (.reg [⟨(some 2), none, .alo (.by 0 8)⟩])
 (.seq (.reg [⟨(some 4), none, .bld 0 8 []⟩,
 ⟨(some 3), none, .alo (.by 0 8)⟩,
 ⟨none, none, .sta (.t 3) (.t 4) 8⟩])
 (.seq (.reg [⟨(some 5), none, .mov (.t 0)⟩,
 ⟨(some 6), none, .idx (.t 3) (.t 5) 8 1⟩,
 ⟨none, none, .st8 (.t 6) (.c (.u 1))⟩])
 (.seq (.reg [⟨(some 7), none, .lda (.t 3) 0 8⟩,
 ⟨none, none, .sta (.t 2) (.t 7) 8⟩])
 .ret))))⟩
def pf_i_Coalgebra_isCounit : PF := ⟨1, 68, [.t 2],
 (.seq (.reg [⟨(some 2), none, .mov (.c (.b false))⟩])
 (.seq (.reg [⟨(some 8), none, .mov (.t 0)⟩,
 ⟨(some 9), none, .call 117 [(.t 8)]⟩,
 ⟨(some 3), none, .alo (.by 2 2)⟩,
 ⟨none, none, .sta (.t 3) (.t 9) 2⟩])
 (.seq (.seq (.reg [⟨(some 10), none, .add (.t 3) 1⟩,
 ⟨(some 11), none, .ld1 (.t 10)⟩,
 ⟨(some 12), none, .mov (c6 0)⟩])
 (.blk 0
 (.loop
 (.seq (.reg [⟨(some 13), none, .bin .lss (.t 12) (.t 11)⟩])
 (.seq (.cond (.t 13)
 .skip
 (.exit 0))
 (.seq (.blk 1
 (.seq (.reg [⟨(some 14), none, .mov (.t 12)⟩,
 ⟨(some 4), none, .mov (.t 14)⟩])
 (.seq (.reg [⟨(some 15), none, .bld 0 8 []⟩,
 ⟨(some 16), none, .bld 0 8 []⟩,
 ⟨(some 5), none, .alo (.by 0 8)⟩,
 ⟨(some 6), none, .alo (.by 0 8)⟩,
 ⟨none, none, .sta (.t 5) (.t 15) 8⟩,
 ⟨none, none, .sta (.t 6) (.t 16) 8⟩])
 (.seq (.seq (.reg [⟨(some 17), none, .add (.t 3) 1⟩,
 ⟨(some 18), none, .ld1 (.t 17)⟩,
 ⟨(some 19), none, .mov (c6 0)⟩])
 (.blk 2
 (.loop
 (.seq (.reg [⟨(some 20), none, .bin .lss (.t 19) (.t 18)⟩])
 (.seq (.cond (.t 20)
 .skip
 (.exit 2))
 (.seq (.blk 3
 (.seq (.reg [⟨(some 21), none, .mov (.t 19)⟩,
 ⟨(some 7), none, .mov (.t 21)⟩])
 (.seq (.drw [0, 0, 0, 2, 10, 30, 62, 126, 0, 0, 0, 256, 2304, 6912, 16128, 32512, 65535]
 []
 [(0, ⟨(some 22), none, .lda (.t 3) 2 2⟩),
 (1, ⟨(some 23), none, .mov (.t 0)⟩),
 (2, ⟨(some 24), none, .mov (.t 7)⟩),
 (3, ⟨(some 25), none, .nck (.t 23)⟩),
 (4, ⟨(some 26), none, .add (.t 25) 2⟩),
 (5, ⟨(some 27), none, .idx (.t 26) (.t 24) 8 1⟩),
 (6, ⟨(some 28), none, .ld8 (.t 27)⟩),
 (7, ⟨(some 29), none, .cvt .i64 (.t 28)⟩),
 (8, ⟨(some 30), none, .mov (.t 0)⟩),
 (9, ⟨(some 31), none, .mov (.t 4)⟩),
 (10, ⟨(some 32), none, .mov (.t 7)⟩),
 (11, ⟨(some 33), none, .nck (.t 30)⟩),
 (12, ⟨(some 34), none, .add (.t 33) 10⟩),
 (13, ⟨(some 35), none, .idx (.t 34) (.t 31) 8 64⟩),
 (14, ⟨(some 36), none, .idx (.t 35) (.t 32) 8 8⟩),
 (15, ⟨(some 37), none, .lda (.t 36) 0 8⟩)]
 []
 [(16, ⟨(some 38), none, .call 71 [(.t 22), (.t 5), (.t 29), (.t 37)]⟩)])
 (.drw [0, 0, 0, 4, 12, 28, 0, 0, 0, 64, 576, 1728, 4032, 8128, 16382, 32766, 65535, 131071]
 []
 [(0, ⟨(some 39), none, .mov (.t 7)⟩),
 (1, ⟨(some 40), none, .lda (.t 3) 2 2⟩),
 (2, ⟨(some 41), none, .mov (.t 0)⟩),
 (3, ⟨(some 42), none, .nck (.t 41)⟩),
 (4, ⟨(some 43), none, .add (.t 42) 2⟩),
 (5, ⟨(some 44), none, .lda (.t 43) 0 8⟩),
 (6, ⟨(some 45), none, .mov (.t 0)⟩),
 (7, ⟨(some 46), none, .mov (.t 4)⟩),
 (8, ⟨(some 47), none, .mov (.t 7)⟩),
 (9, ⟨(some 48), none, .nck (.t 45)⟩),
 (10, ⟨(some 49), none, .add (.t 48) 10⟩),
 (11, ⟨(some 50), none, .idx (.t 49) (.t 46) 8 64⟩),
 (12, ⟨(some 51), none, .idx (.t 50) (.t 47) 8 8⟩),
 (13, ⟨(some 52), none, .lda (.t 51) 0 8⟩),
 (14, ⟨(some 53), none, .call 118 [(.t 40), (.t 44), (.t 52)]⟩),
 (15, ⟨(some 54), none, .cvt .u8 (.t 53)⟩)]
 []
 [(16, ⟨(some 55), none, .idx (.t 6) (.t 39) 8 1⟩),
 (17, ⟨none, none, .st8 (.t 55) (.t 54)⟩)]))))
 (.reg [⟨(some 56), none, .bin .add (.t 19) (c6 1)⟩,
 ⟨(some 19), none, .mov (.t 56)⟩])))))))
 (.seq (.drw [0, 0, 2, 7, 15, 31, 31, 95, 255, 511]
 []
 [(0, ⟨(some 57), none, .lda (.t 5) 0 8⟩),
 (1, ⟨(some 58), none, .mov (.t 4)⟩),
 (2, ⟨(some 59), none, .call 61 [(.t 58)]⟩),
 (3, ⟨(some 60), none, .eqa true 8 (.t 57) (.t 59)⟩),
 (4, ⟨(some 61), none, .mov (.t 60)⟩),
 (5, ⟨(some 62), (some (61, false)), .lda (.t 6) 0 8⟩),
 (6, ⟨(some 63), (some (61, false)), .mov (.t 4)⟩),
 (7, ⟨(some 64), (some (61, false)), .call 61 [(.t 63)]⟩)]
 []
 [(8, ⟨(some 65), (some (61, false)), .eqa true 8 (.t 62) (.t 64)⟩),
 (9, ⟨(some 66), none, .pick (.t 61) (.c (.b true)) (.t 65)⟩)])
 (.cond (.t 66)
 (.seq (.reg [⟨(some 2), none, .mov (.c (.b false))⟩])
 .ret)
 .skip))))))
 (.reg [⟨(some 67), none, .bin .add (.t 12) (c6 1)⟩,
 ⟨(some 12), none, .mov (.t 67)⟩])))))))
 (.seq (.reg [⟨(some 2), none, .mov (.c (.b true))⟩])
 .ret))))⟩
def pf_i_Coalgebra_isFault : PF := ⟨5, 82, [.t 10],
 (.seq (.reg [⟨(some 10), none, .mov (.c (.b false))⟩])
 (.seq (.reg [⟨(some 15), none, .mov (.t 0)⟩,
 ⟨(some 16), none, .call 117 [(.t 15)]⟩,
 ⟨(some 11), none, .alo (.by 2 2)⟩,
 ⟨none, none, .sta (.t 11) (.t 16) 2⟩,
 ⟨(some 12), none, .mov (c6 0)⟩,
 ⟨(some 13), none, .mov (c6 0)⟩])
 (.seq (.seq (.reg [⟨(some 17), none, .add (.t 11) 1⟩,
 ⟨(some 18), none, .ld1 (.t 17)⟩,
 ⟨(some 19), none, .mov (c6 0)⟩])
 (.blk 0
 (.loop
 (.seq (.reg [⟨(some 20), none, .bin .lss (.t 19) (.t 18)⟩])
 (.seq (.cond (.t 20)
 .skip
 (.exit 0))
 (.seq (.blk 1
 (.seq (.reg [⟨(some 21), none, .mov (.t 19)⟩,
 ⟨(some 14), none, .mov (.t 21)⟩])
 (.seq (.drw [0, 0, 0, 0, 0, 2, 34, 102, 238, 510, 1022, 2046, 0, 0, 0, 0, 4096, 69632, 208896, 487424, 1044480, 2093056, 4190208, 8388606, 16777215, 33554431]
 []
 [(0, ⟨(some 22), none, .mov (.t 12)⟩),
 (1, ⟨(some 23), none, .mov (.t 0)⟩),
 (2, ⟨(some 24), none, .mov (.t 1)⟩),
 (3, ⟨(some 25), none, .mov (.t 14)⟩),
 (4, ⟨(some 26), none, .mov (.t 4)⟩),
 (5, ⟨(some 27), none, .nck (.t 23)⟩),
 (6, ⟨(some 28), none, .add (.t 27) 10⟩),
 (7, ⟨(some 29), none, .idx (.t 28) (.t 24) 8 64⟩),
 (8, ⟨(some 30), none, .idx (.t 29) (.t 25) 8 8⟩),
 (9, ⟨(some 31), none, .idx (.t 30) (.t 26) 8 1⟩),
 (10, ⟨(some 32), none, .ld8 (.t 31)⟩),
 (11, ⟨(some 33), none, .cvt .i64 (.t 32)⟩),
 (12, ⟨(some 34), none, .mov (.t 0)⟩),
 (13, ⟨(some 35), none, .mov (.t 14)⟩),
 (14, ⟨(some 36), none, .mov (.t 2)⟩),
 (15, ⟨(some 37), none, .mov (.t 3)⟩),
 (16, ⟨(some 38), none, .nck (.t 34)⟩),
 (17, ⟨(some 39), none, .add (.t 38) 10⟩),
 (18, ⟨(some 40), none, .idx (.t 39) (.t 35) 8 64⟩),
 (19, ⟨(some 41), none, .idx (.t 40) (.t 36) 8 8⟩),
 (20, ⟨(some 42), none, .idx (.t 41) (.t 37) 8 1⟩),
 (21, ⟨(some 43), none, .ld8 (.t 42)⟩),
 (22, ⟨(some 44), none, .cvt .i64 (.t 43)⟩),
 (23, ⟨(some 45), none, .bin .mul (.t 33) (.t 44)⟩)]
 []
 [(24, ⟨(some 46), none, .bin .add (.t 22) (.t 45)⟩),
 (25, ⟨(some 12), none, .mov (.t 46)⟩)])
 (.drw [0, 0, 0, 0, 0, 2, 34, 102, 238, 510, 1022, 2046, 0, 0, 0, 0, 4096, 69632, 208896, 487424, 1044480, 2093056, 4190208, 8388606, 16777215, 33554431]
 []
 [(0, ⟨(some 47), none, .mov (.t 13)⟩),
 (1, ⟨(some 48), none, .mov (.t 0)⟩),
 (2, ⟨(some 49), none, .mov (.t 1)⟩),
 (3, ⟨(some 50), none, .mov (.t 2)⟩),
 (4, ⟨(some 51), none, .mov (.t 14)⟩),
 (5, ⟨(some 52), none, .nck (.t 48)⟩),
 (6, ⟨(some 53), none, .add (.t 52) 10⟩),
 (7, ⟨(some 54), none, .idx (.t 53) (.t 49) 8 64⟩),
 (8, ⟨(some 55), none, .idx (.t 54) (.t 50) 8 8⟩),
 (9, ⟨(some 56), none, .idx (.t 55) (.t 51) 8 1⟩),
 (10, ⟨(some 57), none, .ld8 (.t 56)⟩),
 (11, ⟨(some 58), none, .cvt .i64 (.t 57)⟩),
 (12, ⟨(some 59), none, .mov (.t 0)⟩),
 (13, ⟨(some 60), none, .mov (.t 14)⟩),
 (14, ⟨(some 61), none, .mov (.t 3)⟩),
 (15, ⟨(some 62), none, .mov (.t 4)⟩),
 (16, ⟨(some 63), none, .nck (.t 59)⟩),
 (17, ⟨(some 64), none, .add (.t 63) 10⟩),
 (18, ⟨(some 65), none, .idx (.t 64) (.t 60) 8 64⟩),
 (19, ⟨(some 66), none, .idx (.t 65) (.t 61) 8 8⟩),
 (20, ⟨(some 67), none, .idx (.t 66) (.t 62) 8 1⟩),
 (21, ⟨(some 68), none, .ld8 (.t 67)⟩),
 (22, ⟨(some 69), none, .cvt .i64 (.t 68)⟩),
 (23, ⟨(some 70), none, .bin .mul (.t 58) (.t 69)⟩)]
 []
 [(24, ⟨(some 71), none, .bin .add (.t 47) (.t 70)⟩),
 (25, ⟨(some 13), none, .mov (.t 71)⟩)]))))
 (.reg [⟨(some 72), none, .bin .add (.t 19) (c6 1)⟩,
 ⟨(some 19), none, .mov (.t 72)⟩])))))))
 (.seq (.drw [0, 0, 2, 7, 0, 0, 32, 112, 255, 511]
 []
 [(0, ⟨(some 73), none, .mov (.t 12)⟩),
 (1, ⟨(some 74), none, .add (.t 11) 0⟩),
 (2, ⟨(some 75), none, .ld1 (.t 74)⟩),
 (3, ⟨(some 76), none, .bin .rem (.t 73) (.t 75)⟩),
 (4, ⟨(some 77), none, .mov (.t 13)⟩),
 (5, ⟨(some 78), none, .add (.t 11) 0⟩),
 (6, ⟨(some 79), none, .ld1 (.t 78)⟩),
 (7, ⟨(some 80), none, .bin .rem (.t 77) (.t 79)⟩)]
 []
 [(8, ⟨(some 81), none, .bin .neq (.t 76) (.t 80)⟩),
 (9, ⟨(some 10), none, .mov (.t 81)⟩)])
 .ret))))⟩
def pf_i_Coalgebra_fault : PF := ⟨1, 57, [.t 2],
 (.seq (.reg [⟨(some 2), none, .mov (.c .sn)⟩])
 (.seq (.reg [⟨(some 9), none, .mov (.t 0)⟩,
 ⟨(some 10), none, .nck (.t 9)⟩,
 ⟨(some 11), none, .add (.t 10) 1⟩,
 ⟨(some 12), none, .ld1 (.t 11)⟩,
 ⟨(some 3), none, .mov (.t 12)⟩])
 (.seq (.seq (.reg [⟨(some 13), none, .mov (.t 3)⟩,
 ⟨(some 14), none, .mov (.t 3)⟩,
 ⟨(some 15), none, .bin .mul (.t 13) (.t 14)⟩,
 ⟨(some 16), none, .mov (.t 3)⟩,
 ⟨(some 17), none, .bin .mul (.t 15) (.t 16)⟩,
 ⟨(some 18), none, .mov (.t 3)⟩,
 ⟨(some 19), none, .bin .mul (.t 17) (.t 18)⟩,
 ⟨(some 20), none, .mov (c6 0)⟩])
 (.blk 0
 (.loop
 (.seq (.reg [⟨(some 21), none, .bin .lss (.t 20) (.t 19)⟩])
 (.seq (.cond (.t 21)
 .skip
 (.exit 0))
 (.seq (.blk 1
 (.seq (.reg [⟨(some 22), none, .mov (.t 20)⟩,
 ⟨(some 4), none, .mov (.t 22)⟩])
 (.seq (.drw [0, 0, 0, 6, 0, 30, 63, 0, 0, 0, 768, 1920, 0, 8064, 0, 0, 49152, 0, 245760, 0, 0, 1572864, 127, 4210687, 13107199, 33554431]
 []
 [(0, ⟨(some 23), none, .mov (.t 4)⟩),
 (1, ⟨(some 24), none, .mov (.t 3)⟩),
 (2, ⟨(some 25), none, .mov (.t 3)⟩),
 (3, ⟨(some 26), none, .bin .mul (.t 24) (.t 25)⟩),
 (4, ⟨(some 27), none, .mov (.t 3)⟩),
 (5, ⟨(some 28), none, .bin .mul (.t 26) (.t 27)⟩),
 (6, ⟨(some 29), none, .bin .quo (.t 23) (.t 28)⟩),
 (7, ⟨(some 30), none, .mov (.t 4)⟩),
 (8, ⟨(some 31), none, .mov (.t 3)⟩),
 (9, ⟨(some 32), none, .mov (.t 3)⟩),
 (10, ⟨(some 33), none, .bin .mul (.t 31) (.t 32)⟩),
 (11, ⟨(some 34), none, .bin .quo (.t 30) (.t 33)⟩),
 (12, ⟨(some 35), none, .mov (.t 3)⟩),
 (13, ⟨(some 36), none, .bin .rem (.t 34) (.t 35)⟩),
 (14, ⟨(some 37), none, .mov (.t 4)⟩),
 (15, ⟨(some 38), none, .mov (.t 3)⟩),
 (16, ⟨(some 39), none, .bin .quo (.t 37) (.t 38)⟩),
 (17, ⟨(some 40), none, .mov (.t 3)⟩),
 (18, ⟨(some 41), none, .bin .rem (.t 39) (.t 40)⟩),
 (19, ⟨(some 42), none, .mov (.t 4)⟩),
 (20, ⟨(some 43), none, .mov (.t 3)⟩),
 (21, ⟨(some 44), none, .bin .rem (.t 42) (.t 43)⟩),
 (22, ⟨(some 5), none, .mov (.t 29)⟩),
 (23, ⟨(some 6), none, .mov (.t 36)⟩),
 (24, ⟨(some 7), none, .mov (.t 41)⟩)]
 []
 [(25, ⟨(some 8), none, .mov (.t 44)⟩)])
 (.seq (.reg [⟨(some 45), none, .mov (.t 0)⟩,
 ⟨(some 46), none, .mov (.t 5)⟩,
 ⟨(some 47), none, .mov (.t 6)⟩,
 ⟨(some 48), none, .mov (.t 7)⟩,
 ⟨(some 49), none, .mov (.t 8)⟩,
 ⟨(some 50), none, .call 119 [(.t 45), (.t 46), (.t 47), (.t 48), (.t 49)]⟩])
 (.cond (.t 50)
 (.seq (.reg [⟨(some 51), none, .mov (.t 5)⟩,
 ⟨(some 52), none, .mov (.t 6)⟩,
 ⟨(some 53), none, .mov (.t 7)⟩,
 ⟨(some 54), none, .mov (.t 8)⟩,
 ⟨(some 55), none, .bsa [(.t 51), (.t 52), (.t 53), (.t 54)]⟩,
 ⟨(some 2), none, .mov (.t 55)⟩])
 .ret)
 .skip)))))
 (.reg [⟨(some 56), none, .bin .add (.t 20) (c6 1)⟩,
 ⟨(some 20), none, .mov (.t 56)⟩])))))))
 (.seq (.reg [⟨(some 2), none, .mov (.c .sn)⟩])
 .ret))))⟩
def pf_i_IsCoalgebra : PF := ⟨1, 11, [.t 2],
 (.seq (.reg [⟨(some 1), none, .box (.t 0)⟩,
 ⟨(some 2), none, .mov (.c (.b false))⟩])
 (.seq (.reg [⟨(some 3), none, .call 82 [(.t 1)]⟩,
 ⟨(some 4), none, .mov (.t 3)⟩,
 ⟨(some 5), (some (4, true)), .call 107 [(.t 1)]⟩,
 ⟨(some 6), none, .pick (.t 4) (.t 5) (.c (.b false))⟩,
 ⟨(some 7), none, .mov (.t 6)⟩,
 ⟨(some 8), (some (7, true)), .call 108 [(.t 1)]⟩,
 ⟨(some 9), (some (7, true)), .eqn false (.t 8)⟩,
 ⟨(some 10), none, .pick (.t 7) (.t 9) (.c (.b false))⟩,
 ⟨(some 2), none, .mov (.t 10)⟩])
 .ret))⟩
def pf_i_unless : PF := ⟨2, 7, [.t 4],
 (.seq (.reg [⟨(some 4), none, .mov (c6 0)⟩])
 (.seq (.seq (.reg [⟨(some 5), none, .mov (.t 0)⟩])
 (.cond (.t 5)
 (.seq (.reg [⟨(some 4), none, .mov (c6 0)⟩])
 .ret)
 .skip))
 (.seq (.reg [⟨(some 6), none, .mov (.t 1)⟩,
 ⟨(some 4), none, .mov (.t 6)⟩])
 .ret)))⟩
def pf_i_field_times : PF := ⟨3, 14, [.c 6 0 8],
 (.seq (.reg [⟨(some 3), none, .box (.t 0)⟩,
 ⟨(some 5), none, .box (.t 2)⟩,
 ⟨(some 6), none, .alo (.by 0 8)⟩])
 (.seq (.reg [⟨(some 8), none, .bld 0 8 []⟩,
 ⟨(some 7), none, .alo (.by 0 8)⟩,
 ⟨none, none, .sta (.t 7) (.t 8) 8⟩])
 (.seq (.reg [⟨(some 9), none, .lda (.t 3) 2 2⟩,
 ⟨(some 10), none, .mov (.t 1)⟩,
 ⟨(some 11), none, .lda (.t 5) 0 8⟩,
 ⟨(some 12), none, .call 71 [(.t 9), (.t 7), (.t 10), (.t 11)]⟩])
 (.seq (.reg [⟨(some 13), none, .lda (.t 7) 0 8⟩,
 ⟨none, none, .sta (.t 6) (.t 13) 8⟩])
 .ret))))⟩
def pf_i_field_pair : PF := ⟨3, 25, [.c 6 0 64],
 (.seq (.reg [⟨(some 3), none, .box (.t 0)⟩,
 ⟨(some 4), none, .box (.t 1)⟩,
 ⟨(some 5), none, .box (.t 2)⟩,
 ⟨(some 6), none, .alo (.by 0 64)⟩])
 (.seq (.reg [⟨(some 10), none, .bld 0 64 []⟩,
 ⟨(some 7), none, .alo (.by 0 64)⟩,
 ⟨none, none, .sta (.t 7) (.t 10) 64⟩])
 (.seq (.seq (.reg [⟨(some 11), none, .lda (.t 4) 0 8⟩,
 ⟨(some 12), none, .mov (c6 0)⟩])
 (.blk 0
 (.loop
 (.seq (.reg [⟨(some 13), none, .bin .lss (.t 12) (c6 8)⟩])
 (.seq (.cond (.t 13)
 .skip
 (.exit 0))
 (.seq (.blk 1
 (.seq (.reg [⟨(some 14), none, .mov (.t 12)⟩,
 ⟨(some 15), none, .ixb (.t 11) (.t 12) 8⟩,
 ⟨(some 8), none, .mov (.t 14)⟩,
 ⟨(some 9), none, .mov (.t 15)⟩])
 (.reg [⟨(some 16), none, .mov (.t 8)⟩,
 ⟨(some 17), none, .lda (.t 3) 2 2⟩,
 ⟨(some 18), none, .mov (.t 9)⟩,
 ⟨(some 19), none, .cvt .i64 (.t 18)⟩,
 ⟨(some 20), none, .lda (.t 5) 0 8⟩,
 ⟨(some 21), none, .call 114 [(.t 17), (.t 19), (.t 20)]⟩,
 ⟨(some 22), none, .idx (.t 7) (.t 16) 8 8⟩,
 ⟨none, none, .sta (.t 22) (.t 21) 8⟩])))
 (.reg [⟨(some 23), none, .bin .add (.t 12) (c6 1)⟩,
 ⟨(some 12), none, .mov (.t 23)⟩])))))))
 (.seq (.reg [⟨(some 24), none, .lda (.t 7) 0 64⟩,
 ⟨none, none, .sta (.t 6) (.t 24) 64⟩])
 .ret))))⟩
def pf_i_transposed : PF := ⟨1, 27, [.c 2 0 64],
 (.seq (.reg [⟨(some 2), none, .alo (.by 0 64)⟩])
 (.seq (.reg [⟨(some 6), none, .bld 0 64 []⟩,
 ⟨(some 3), none, .alo (.by 0 64)⟩,
 ⟨none, none, .sta (.t 3) (.t 6) 64⟩])
 (.seq (.seq (.reg [⟨(some 7), none, .mov (c6 0)⟩])
 (.blk 0
 (.loop
 (.seq (.reg [⟨(some 8), none, .bin .lss (.t 7) (c6 8)⟩])
 (.seq (.cond (.t 8)
 .skip
 (.exit 0))
 (.seq (.blk 1
 (.seq (.reg [⟨(some 9), none, .mov (.t 7)⟩,
 ⟨(some 4), none, .mov (.t 9)⟩])
 (.seq (.reg [⟨(some 10), none, .mov (c6 0)⟩])
 (.blk 2
 (.loop
 (.seq (.reg [⟨(some 11), none, .bin .lss (.t 10) (c6 8)⟩])
 (.seq (.cond (.t 11)
 .skip
 (.exit 2))
 (.seq (.blk 3
 (.seq (.reg [⟨(some 12), none, .mov (.t 10)⟩,
 ⟨(some 5), none, .mov (.t 12)⟩])
 (.drw [0, 0, 0, 0, 0, 4, 44, 124, 252, 1, 1023, 2047]
 []
 [(0, ⟨(some 13), none, .mov (.t 4)⟩),
 (1, ⟨(some 14), none, .mov (.t 5)⟩),
 (2, ⟨(some 15), none, .mov (.t 0)⟩),
 (3, ⟨(some 16), none, .mov (.t 5)⟩),
 (4, ⟨(some 17), none, .mov (.t 4)⟩),
 (5, ⟨(some 18), none, .nck (.t 15)⟩),
 (6, ⟨(some 19), none, .idx (.t 18) (.t 16) 8 8⟩),
 (7, ⟨(some 20), none, .idx (.t 19) (.t 17) 8 1⟩),
 (8, ⟨(some 21), none, .ld8 (.t 20)⟩),
 (9, ⟨(some 22), none, .idx (.t 3) (.t 13) 8 8⟩)]
 []
 [(10, ⟨(some 23), none, .idx (.t 22) (.t 14) 8 1⟩),
 (11, ⟨none, none, .st8 (.t 23) (.t 21)⟩)])))
 (.reg [⟨(some 24), none, .bin .add (.t 10) (c6 1)⟩,
 ⟨(some 10), none, .mov (.t 24)⟩])))))))))
 (.reg [⟨(some 25), none, .bin .add (.t 7) (c6 1)⟩,
 ⟨(some 7), none, .mov (.t 25)⟩])))))))
 (.seq (.reg [⟨(some 26), none, .lda (.t 3) 0 64⟩,
 ⟨none, none, .sta (.t 2) (.t 26) 64⟩])
 .ret))))⟩
def pf_i_first : PF := ⟨1, 15, [.t 2],
 (.seq (.reg [⟨(some 2), none, .mov (c6 0)⟩])
 (.seq (.seq (.reg [⟨(some 5), none, .mov (.t 0)⟩,
 ⟨(some 6), none, .len (.t 5)⟩,
 ⟨(some 7), none, .mov (c6 0)⟩])
 (.blk 0
 (.loop
 (.seq (.reg [⟨(some 8), none, .bin .lss (.t 7) (.t 6)⟩])
 (.seq (.cond (.t 8)
 .skip
 (.exit 0))
 (.seq (.blk 1
 (.seq (.reg [⟨(some 9), none, .ids (.t 5) (.t 7) 1⟩,
 ⟨(some 10), none, .ld1 (.t 9)⟩,
 ⟨(some 4), none, .mov (.t 10)⟩])
 (.seq (.reg [⟨(some 11), none, .mov (.t 4)⟩,
 ⟨(some 12), none, .bin .neq (.t 11) (c6 0)⟩])
 (.cond (.t 12)
 (.seq (.reg [⟨(some 13), none, .mov (.t 4)⟩,
 ⟨(some 2), none, .mov (.t 13)⟩])
 .ret)
 .skip))))
 (.reg [⟨(some 14), none, .bin .add (.t 7) (c6 1)⟩,
 ⟨(some 7), none, .mov (.t 14)⟩])))))))
 (.seq (.reg [⟨(some 2), none, .mov (c6 0)⟩])
 .ret)))⟩
def pf_s_l01In : PF := ⟨3, 15, [.t 6],
 (.seq (.reg [⟨(some 6), none, .mov (.c (.b false))⟩])
 (.seq (.reg [⟨(some 7), none, .mov (.t 0)⟩,
 ⟨(some 8), none, .mov (.t 1)⟩,
 ⟨(some 9), none, .bin .geq (.t 7) (.t 8)⟩,
 ⟨(some 10), none, .mov (.t 9)⟩,
 ⟨(some 11), (some (10, true)), .mov (.t 0)⟩,
 ⟨(some 12), (some (10, true)), .mov (.t 2)⟩,
 ⟨(some 13), (some (10, true)), .bin .leq (.t 11) (.t 12)⟩,
 ⟨(some 14), none, .pick (.t 10) (.t 13) (.c (.b false))⟩,
 ⟨(some 6), none, .mov (.t 14)⟩])
 .ret))⟩
def pf_s_l01Prime : PF := ⟨1, 19, [.t 2],
 (.seq (.reg [⟨(some 2), none, .mov (.c (.b false))⟩])
 (.seq (.seq (.reg [⟨(some 3), none, .mov (c6 2)⟩])
 (.blk 0
 (.loop
 (.seq (.seq (.reg [⟨(some 4), none, .mov (.t 3)⟩,
 ⟨(some 5), none, .mov (.t 0)⟩,
 ⟨(some 6), none, .bin .lss (.t 4) (.t 5)⟩,
 ⟨(some 7), none, .mov (.t 6)⟩,
 ⟨(some 8), (some (7, true)), .mov (.t 3)⟩,
 ⟨(some 9), (some (7, true)), .bin .leq (.t 8) (c6 31)⟩,
 ⟨(some 10), none, .pick (.t 7) (.t 9) (.c (.b false))⟩])
 (.cond (.t 10)
 .skip
 (.exit 0)))
 (.seq (.blk 1
 (.seq (.reg [⟨(some 13), none, .mov (.t 0)⟩,
 ⟨(some 14), none, .mov (.t 3)⟩,
 ⟨(some 15), none, .bin .rem (.t 13) (.t 14)⟩,
 ⟨(some 16), none, .bin .eql (.t 15) (c6 0)⟩])
 (.cond (.t 16)
 (.seq (.reg [⟨(some 2), none, .mov (.c (.b false))⟩])
 .ret)
 .skip)))
 (.reg [⟨(some 11), none, .mov (.t 3)⟩,
 ⟨(some 12), none, .bin .add (.t 11) (c6 1)⟩,
 ⟨(some 3), none, .mov (.t 12)⟩]))))))
 (.seq (.reg [⟨(some 17), none, .mov (.t 0)⟩,
 ⟨(some 18), none, .call 96 [(.t 17), (c6 2), (c6 31)]⟩,
 ⟨(some 2), none, .mov (.t 18)⟩])
 .ret)))⟩
def pf_s_l01Sizes : PF := ⟨2, 11, [.t 4],
 (.seq (.reg [⟨(some 4), none, .mov (.c (.b false))⟩])
 (.seq (.reg [⟨(some 5), none, .mov (.t 0)⟩,
 ⟨(some 6), none, .call 95 [(.t 5)]⟩,
 ⟨(some 7), none, .mov (.t 6)⟩,
 ⟨(some 8), (some (7, true)), .mov (.t 1)⟩,
 ⟨(some 9), (some (7, true)), .call 96 [(.t 8), (c6 1), (c6 8)]⟩,
 ⟨(some 10), none, .pick (.t 7) (.t 9) (.c (.b false))⟩,
 ⟨(some 4), none, .mov (.t 10)⟩])
 .ret))⟩
def pf_s_l01Vector : PF := ⟨3, 29, [.t 6],
 (.seq (.reg [⟨(some 5), none, .box (.t 2)⟩,
 ⟨(some 6), none, .mov (.c (.b false))⟩])
 (.seq (.seq (.reg [⟨(some 7), none, .mov (c6 0)⟩])
 (.blk 0
 (.loop
 (.seq (.seq (.reg [⟨(some 8), none, .mov (.t 7)⟩,
 ⟨(some 9), none, .bin .lss (.t 8) (c6 8)⟩])
 (.cond (.t 9)
 .skip
 (.exit 0)))
 (.seq (.blk 1
 (.seq (.reg [⟨(some 12), none, .mov (.t 7)⟩,
 ⟨(some 13), none, .idx (.t 5) (.t 12) 8 1⟩,
 ⟨(some 14), none, .ld8 (.t 13)⟩,
 ⟨(some 15), none, .cvt .i64 (.t 14)⟩,
 ⟨(some 16), none, .mov (.t 0)⟩,
 ⟨(some 17), none, .bin .geq (.t 15) (.t 16)⟩,
 ⟨(some 18), none, .mov (.t 17)⟩,
 ⟨(some 19), (some (18, false)), .mov (.t 7)⟩,
 ⟨(some 20), (some (18, false)), .mov (.t 1)⟩,
 ⟨(some 21), (some (18, false)), .bin .geq (.t 19) (.t 20)⟩,
 ⟨(some 22), (some (18, false)), .mov (.t 21)⟩,
 ⟨(some 23), (some (22, true)), .mov (.t 7)⟩,
 ⟨(some 24), (some (22, true)), .idx (.t 5) (.t 23) 8 1⟩,
 ⟨(some 25), (some (22, true)), .ld8 (.t 24)⟩,
 ⟨(some 26), (some (22, true)), .bin .neq (.t 25) (.c (.u 0))⟩,
 ⟨(some 27), (some (18, false)), .pick (.t 22) (.t 26) (.c (.b false))⟩,
 ⟨(some 28), none, .pick (.t 18) (.c (.b true)) (.t 27)⟩])
 (.cond (.t 28)
 (.seq (.reg [⟨(some 6), none, .mov (.c (.b false))⟩])
 .ret)
 .skip)))
 (.reg [⟨(some 10), none, .mov (.t 7)⟩,
 ⟨(some 11), none, .bin .add (.t 10) (c6 1)⟩,
 ⟨(some 7), none, .mov (.t 11)⟩]))))))
 (.seq (.reg [⟨(some 6), none, .mov (.c (.b true))⟩])
 .ret)))⟩
def pf_s_l01Linear : PF := ⟨3, 31, [.t 6],
 (.seq (.reg [⟨(some 5), none, .box (.t 2)⟩,
 ⟨(some 6), none, .mov (.c (.b false))⟩])
 (.seq (.seq (.reg [⟨(some 7), none, .mov (c6 0)⟩])
 (.blk 0
 (.loop
 (.seq (.seq (.reg [⟨(some 8), none, .mov (.t 7)⟩,
 ⟨(some 9), none, .bin .lss (.t 8) (c6 8)⟩])
 (.cond (.t 9)
 .skip
 (.exit 0)))
 (.seq (.blk 1
 (.seq (.reg [⟨(some 12), none, .mov (.t 0)⟩,
 ⟨(some 13), none, .mov (.t 1)⟩,
 ⟨(some 14), none, .mov (.t 7)⟩,
 ⟨(some 15), none, .idx (.t 5) (.t 14) 8 8⟩,
 ⟨(some 16), none, .lda (.t 15) 0 8⟩,
 ⟨(some 17), none, .call 53 [(.t 12), (.t 13), (.t 16)]⟩,
 ⟨(some 18), none, .nt (.t 17)⟩,
 ⟨(some 19), none, .mov (.t 18)⟩,
 ⟨(some 20), (some (19, false)), .mov (.t 7)⟩,
 ⟨(some 21), (some (19, false)), .mov (.t 1)⟩,
 ⟨(some 22), (some (19, false)), .bin .geq (.t 20) (.t 21)⟩,
 ⟨(some 23), (some (19, false)), .mov (.t 22)⟩,
 ⟨(some 24), (some (23, true)), .mov (.t 7)⟩,
 ⟨(some 25), (some (23, true)), .idx (.t 5) (.t 24) 8 8⟩,
 ⟨(some 26), (some (23, true)), .lda (.t 25) 0 8⟩,
 ⟨(some 27), (some (23, true)), .bld 0 8 []⟩,
 ⟨(some 28), (some (23, true)), .eqa true 8 (.t 26) (.t 27)⟩,
 ⟨(some 29), (some (19, false)), .pick (.t 23) (.t 28) (.c (.b false))⟩,
 ⟨(some 30), none, .pick (.t 19) (.c (.b true)) (.t 29)⟩])
 (.cond (.t 30)
 (.seq (.reg [⟨(some 6), none, .mov (.c (.b false))⟩])
 .ret)
 .skip)))
 (.reg [⟨(some 10), none, .mov (.t 7)⟩,
 ⟨(some 11), none, .bin .add (.t 10) (c6 1)⟩,
 ⟨(some 7), none, .mov (.t 11)⟩]))))))
 (.seq (.reg [⟨(some 6), none, .mov (.c (.b true))⟩])
 .ret)))⟩
def pf_s_l01Table : PF := ⟨3, 31, [.t 6],
 (.seq (.reg [⟨(some 5), none, .box (.t 2)⟩,
 ⟨(some 6), none, .mov (.c (.b false))⟩])
 (.seq (.seq (.reg [⟨(some 7), none, .mov (c6 0)⟩])
 (.blk 0
 (.loop
 (.seq (.seq (.reg [⟨(some 8), none, .mov (.t 7)⟩,
 ⟨(some 9), none, .bin .lss (.t 8) (c6 8)⟩])
 (.cond (.t 9)
 .skip
 (.exit 0)))
 (.seq (.blk 1
 (.seq (.reg [⟨(some 12), none, .mov (.t 0)⟩,
 ⟨(some 13), none, .mov (.t 1)⟩,
 ⟨(some 14), none, .mov (.t 7)⟩,
 ⟨(some 15), none, .idx (.t 5) (.t 14) 8 64⟩,
 ⟨(some 16), none, .lda (.t 15) 0 64⟩,
 ⟨(some 17), none, .call 64 [(.t 12), (.t 13), (.t 16)]⟩,
 ⟨(some 18), none, .nt (.t 17)⟩,
 ⟨(some 19), none, .mov (.t 18)⟩,
 ⟨(some 20), (some (19, false)), .mov (.t 7)⟩,
 ⟨(some 21), (some (19, false)), .mov (.t 1)⟩,
 ⟨(some 22), (some (19, false)), .bin .geq (.t 20) (.t 21)⟩,
 ⟨(some 23), (some (19, false)), .mov (.t 22)⟩,
 ⟨(some 24), (some (23, true)), .mov (.t 7)⟩,
 ⟨(some 25), (some (23, true)), .idx (.t 5) (.t 24) 8 64⟩,
 ⟨(some 26), (some (23, true)), .lda (.t 25) 0 64⟩,
 ⟨(some 27), (some (23, true)), .bld 0 64 []⟩,
 ⟨(some 28), (some (23, true)), .eqa true 64 (.t 26) (.t 27)⟩,
 ⟨(some 29), (some (19, false)), .pick (.t 23) (.t 28) (.c (.b false))⟩,
 ⟨(some 30), none, .pick (.t 19) (.c (.b true)) (.t 29)⟩])
 (.cond (.t 30)
 (.seq (.reg [⟨(some 6), none, .mov (.c (.b false))⟩])
 .ret)
 .skip)))
 (.reg [⟨(some 10), none, .mov (.t 7)⟩,
 ⟨(some 11), none, .bin .add (.t 10) (c6 1)⟩,
 ⟨(some 7), none, .mov (.t 11)⟩]))))))
 (.seq (.reg [⟨(some 6), none, .mov (.c (.b true))⟩])
 .ret)))⟩
def pf_s_l01Shape : PF := ⟨1, 26, [.t 2],
 (.seq (.reg [⟨(some 1), none, .box (.t 0)⟩,
 ⟨(some 2), none, .mov (.c (.b false))⟩])
 (.seq (.reg [⟨(some 3), none, .add (.t 1) 0⟩,
 ⟨(some 4), none, .ld1 (.t 3)⟩,
 ⟨(some 5), none, .add (.t 1) 1⟩,
 ⟨(some 6), none, .ld1 (.t 5)⟩,
 ⟨(some 7), none, .call 75 [(.t 4), (.t 6)]⟩,
 ⟨(some 8), none, .mov (.t 7)⟩,
 ⟨(some 9), (some (8, true)), .add (.t 1) 0⟩,
 ⟨(some 10), (some (8, true)), .ld1 (.t 9)⟩,
 ⟨(some 11), (some (8, true)), .add (.t 1) 1⟩,
 ⟨(some 12), (some (8, true)), .ld1 (.t 11)⟩,
 ⟨(some 13), (some (8, true)), .add (.t 1) 2⟩,
 ⟨(some 14), (some (8, true)), .lda (.t 13) 0 8⟩,
 ⟨(some 15), (some (8, true)), .call 53 [(.t 10), (.t 12), (.t 14)]⟩,
 ⟨(some 16), none, .pick (.t 8) (.t 15) (.c (.b false))⟩,
 ⟨(some 17), none, .mov (.t 16)⟩,
 ⟨(some 18), (some (17, true)), .add (.t 1) 0⟩,
 ⟨(some 19), (some (17, true)), .ld1 (.t 18)⟩,
 ⟨(some 20), (some (17, true)), .add (.t 1) 1⟩,
 ⟨(some 21), (some (17, true)), .ld1 (.t 20)⟩,
 ⟨(some 22), (some (17, true)), .add (.t 1) 10⟩,
 ⟨(some 23), (some (17, true)), .lda (.t 22) 0 512⟩,
 ⟨(some 24), (some (17, true)), .call 63 [(.t 19), (.t 21), (.t 23)]⟩,
 ⟨(some 25), none, .pick (.t 17) (.t 24) (.c (.b false))⟩,
 ⟨(some 2), none, .mov (.t 25)⟩])
 .ret))⟩
def pf_s_l01Basis : PF := ⟨1, 8, [.c 2 0 8],
 (.seq (.reg [⟨(some 2), none, .alo (.by 0 8)⟩])
 (.seq (.reg [⟨(some 4), none, .bld 0 8 []⟩,
 ⟨(some 3), none, .alo (.by 0 8)⟩,
 ⟨none, none, .sta (.t 3) (.t 4) 8⟩])
 (.seq (.reg [⟨(some 5), none, .mov (.t 0)⟩,
 ⟨(some 6), none, .idx (.t 3) (.t 5) 8 1⟩,
 ⟨none, none, .st8 (.t 6) (.c (.u 1))⟩])
 (.seq (.reg [⟨(some 7), none, .lda (.t 3) 0 8⟩,
 ⟨none, none, .sta (.t 2) (.t 7) 8⟩])
 .ret))))⟩
def pf_s_l01Mod : PF := ⟨2, 13, [.t 4],
 (.seq (.reg [⟨(some 4), none, .mov (.c (.u 0))⟩])
 (.seq (.reg [⟨(some 5), none, .mov (.t 1)⟩,
 ⟨(some 6), none, .mov (.t 0)⟩,
 ⟨(some 7), none, .bin .rem (.t 5) (.t 6)⟩,
 ⟨(some 8), none, .mov (.t 0)⟩,
 ⟨(some 9), none, .bin .add (.t 7) (.t 8)⟩,
 ⟨(some 10), none, .mov (.t 0)⟩,
 ⟨(some 11), none, .bin .rem (.t 9) (.t 10)⟩,
 ⟨(some 12), none, .cvt .u8 (.t 11)⟩,
 ⟨(some 4), none, .mov (.t 12)⟩])
 .ret))⟩
def pf_s_l01Add : PF := ⟨4, 30, [.c 8 0 8],
 (.seq (.reg [⟨(some 5), none, .box (.t 1)⟩,
 ⟨(some 6), none, .box (.t 2)⟩,
 ⟨(some 8), none, .alo (.by 0 8)⟩])
 (.seq (.seq (.reg [⟨(some 9), none, .mov (c6 0)⟩])
 (.blk 0
 (.loop
 (.seq (.seq (.reg [⟨(some 10), none, .mov (.t 9)⟩,
 ⟨(some 11), none, .bin .lss (.t 10) (c6 8)⟩])
 (.cond (.t 11)
 .skip
 (.exit 0)))
 (.seq (.blk 1
 (.drw [0, 0, 0, 4, 12, 28, 0, 0, 128, 384, 896, 1984, 4092, 8190, 16383, 32767]
 []
 [(0, ⟨(some 14), none, .mov (.t 9)⟩),
 (1, ⟨(some 15), none, .mov (.t 0)⟩),
 (2, ⟨(some 16), none, .mov (.t 9)⟩),
 (3, ⟨(some 17), none, .idx (.t 5) (.t 16) 8 1⟩),
 (4, ⟨(some 18), none, .ld8 (.t 17)⟩),
 (5, ⟨(some 19), none, .cvt .i64 (.t 18)⟩),
 (6, ⟨(some 20), none, .mov (.t 3)⟩),
 (7, ⟨(some 21), none, .mov (.t 9)⟩),
 (8, ⟨(some 22), none, .idx (.t 6) (.t 21) 8 1⟩),
 (9, ⟨(some 23), none, .ld8 (.t 22)⟩),
 (10, ⟨(some 24), none, .cvt .i64 (.t 23)⟩),
 (11, ⟨(some 25), none, .bin .mul (.t 20) (.t 24)⟩),
 (12, ⟨(some 26), none, .bin .add (.t 19) (.t 25)⟩),
 (13, ⟨(some 27), none, .call 72 [(.t 15), (.t 26)]⟩)]
 []
 [(14, ⟨(some 28), none, .idx (.t 5) (.t 14) 8 1⟩),
 (15, ⟨none, none, .st8 (.t 28) (.t 27)⟩)]))
 (.reg [⟨(some 12), none, .mov (.t 9)⟩,
 ⟨(some 13), none, .bin .add (.t 12) (c6 1)⟩,
 ⟨(some 9), none, .mov (.t 13)⟩]))))))
 (.seq (.reg [⟨(some 29), none, .lda (.t 5) 0 8⟩,
 ⟨none, none, .sta (.t 8) (.t 29) 8⟩])
 .ret)))⟩
def pf_s_l01Apply : PF := ⟨4, 32, [.c 8 0 8],
 (.seq (.reg [⟨(some 6), none, .box (.t 2)⟩,
 ⟨(some 7), none, .box (.t 3)⟩,
 ⟨(some 8), none, .alo (.by 0 8)⟩])
 (.seq (.reg [⟨(some 11), none, .bld 0 8 []⟩,
 ⟨(some 9), none, .alo (.by 0 8)⟩,
 ⟨none, none, .sta (.t 9) (.t 11) 8⟩])
 (.seq (.seq (.reg [⟨(some 10), none, .mov (c6 0)⟩])
 (.blk 0
 (.loop
 (.seq (.seq (.reg [⟨(some 12), none, .mov (.t 10)⟩,
 ⟨(some 13), none, .mov (.t 1)⟩,
 ⟨(some 14), none, .bin .lss (.t 12) (.t 13)⟩])
 (.cond (.t 14)
 .skip
 (.exit 0)))
 (.seq (.blk 1
 (.seq (.reg [⟨(some 17), none, .mov (.t 10)⟩,
 ⟨(some 18), none, .idx (.t 7) (.t 17) 8 1⟩,
 ⟨(some 19), none, .ld8 (.t 18)⟩,
 ⟨(some 20), none, .bin .neq (.t 19) (.c (.u 0))⟩])
 (.cond (.t 20)
 (.drw [0, 0, 0, 4, 12, 0, 32, 96, 224, 511, 1023]
 []
 [(0, ⟨(some 21), none, .mov (.t 0)⟩),
 (1, ⟨(some 22), none, .lda (.t 9) 0 8⟩),
 (2, ⟨(some 23), none, .mov (.t 10)⟩),
 (3, ⟨(some 24), none, .idx (.t 6) (.t 23) 8 8⟩),
 (4, ⟨(some 25), none, .lda (.t 24) 0 8⟩),
 (5, ⟨(some 26), none, .mov (.t 10)⟩),
 (6, ⟨(some 27), none, .idx (.t 7) (.t 26) 8 1⟩),
 (7, ⟨(some 28), none, .ld8 (.t 27)⟩),
 (8, ⟨(some 29), none, .cvt .i64 (.t 28)⟩)]
 []
 [(9, ⟨(some 30), none, .call 57 [(.t 21), (.t 22), (.t 25), (.t 29)]⟩),
 (10, ⟨none, none, .sta (.t 9) (.t 30) 8⟩)])
 .skip)))
 (.reg [⟨(some 15), none, .mov (.t 10)⟩,
 ⟨(some 16), none, .bin .add (.t 15) (c6 1)⟩,
 ⟨(some 10), none, .mov (.t 16)⟩]))))))
 (.seq (.reg [⟨(some 31), none, .lda (.t 9) 0 8⟩,
 ⟨none, none, .sta (.t 8) (.t 31) 8⟩])
 .ret))))⟩
def pf_s_l01Times : PF := ⟨3, 39, [.c 6 0 8],
 (.seq (.reg [⟨(some 3), none, .box (.t 0)⟩,
 ⟨(some 4), none, .box (.t 1)⟩,
 ⟨(some 5), none, .box (.t 2)⟩,
 ⟨(some 6), none, .alo (.by 0 8)⟩])
 (.seq (.reg [⟨(some 9), none, .bld 0 8 []⟩,
 ⟨(some 7), none, .alo (.by 0 8)⟩,
 ⟨none, none, .sta (.t 7) (.t 9) 8⟩])
 (.seq (.seq (.reg [⟨(some 8), none, .mov (c6 0)⟩])
 (.blk 0
 (.loop
 (.seq (.seq (.reg [⟨(some 10), none, .mov (.t 8)⟩,
 ⟨(some 11), none, .add (.t 3) 1⟩,
 ⟨(some 12), none, .ld1 (.t 11)⟩,
 ⟨(some 13), none, .bin .lss (.t 10) (.t 12)⟩])
 (.cond (.t 13)
 .skip
 (.exit 0)))
 (.seq (.blk 1
 (.seq (.reg [⟨(some 16), none, .mov (.t 8)⟩,
 ⟨(some 17), none, .idx (.t 4) (.t 16) 8 1⟩,
 ⟨(some 18), none, .ld8 (.t 17)⟩,
 ⟨(some 19), none, .bin .neq (.t 18) (.c (.u 0))⟩])
 (.cond (.t 19)
 (.drw [0, 1, 0, 0, 8, 0, 32, 0, 0, 384, 896, 0, 4088, 0, 8192, 24576, 57344, 131071, 262143]
 []
 [(0, ⟨(some 20), none, .add (.t 3) 0⟩),
 (1, ⟨(some 21), none, .ld1 (.t 20)⟩),
 (2, ⟨(some 22), none, .lda (.t 7) 0 8⟩),
 (3, ⟨(some 23), none, .add (.t 3) 0⟩),
 (4, ⟨(some 24), none, .ld1 (.t 23)⟩),
 (5, ⟨(some 25), none, .add (.t 3) 1⟩),
 (6, ⟨(some 26), none, .ld1 (.t 25)⟩),
 (7, ⟨(some 27), none, .mov (.t 8)⟩),
 (8, ⟨(some 28), none, .add (.t 3) 10⟩),
 (9, ⟨(some 29), none, .idx (.t 28) (.t 27) 8 64⟩),
 (10, ⟨(some 30), none, .lda (.t 29) 0 64⟩),
 (11, ⟨(some 31), none, .lda (.t 5) 0 8⟩),
 (12, ⟨(some 32), none, .call 51 [(.t 24), (.t 26), (.t 30), (.t 31)]⟩),
 (13, ⟨(some 33), none, .mov (.t 8)⟩),
 (14, ⟨(some 34), none, .idx (.t 4) (.t 33) 8 1⟩),
 (15, ⟨(some 35), none, .ld8 (.t 34)⟩),
 (16, ⟨(some 36), none, .cvt .i64 (.t 35)⟩)]
 []
 [(17, ⟨(some 37), none, .call 57 [(.t 21), (.t 22), (.t 32), (.t 36)]⟩),
 (18, ⟨none, none, .sta (.t 7) (.t 37) 8⟩)])
 .skip)))
 (.reg [⟨(some 14), none, .mov (.t 8)⟩,
 ⟨(some 15), none, .bin .add (.t 14) (c6 1)⟩,
 ⟨(some 8), none, .mov (.t 15)⟩]))))))
 (.seq (.reg [⟨(some 38), none, .lda (.t 7) 0 8⟩,
 ⟨none, none, .sta (.t 6) (.t 38) 8⟩])
 .ret))))⟩
def pf_s_l01Fault : PF := ⟨1, 50, [.t 2, .t 3],
 (.seq (.reg [⟨(some 1), none, .box (.t 0)⟩,
 ⟨(some 2), none, .mov (.c .sn)⟩,
 ⟨(some 3), none, .mov (.c (.b false))⟩])
 (.seq (.seq (.reg [⟨(some 4), none, .mov (c6 0)⟩])
 (.blk 0
 (.loop
 (.seq (.seq (.reg [⟨(some 7), none, .mov (.t 4)⟩,
 ⟨(some 8), none, .add (.t 1) 1⟩,
 ⟨(some 9), none, .ld1 (.t 8)⟩,
 ⟨(some 10), none, .bin .lss (.t 7) (.t 9)⟩])
 (.cond (.t 10)
 .skip
 (.exit 0)))
 (.seq (.blk 1
 (.seq (.reg [⟨(some 5), none, .mov (c6 0)⟩])
 (.blk 2
 (.loop
 (.seq (.seq (.reg [⟨(some 13), none, .mov (.t 5)⟩,
 ⟨(some 14), none, .add (.t 1) 1⟩,
 ⟨(some 15), none, .ld1 (.t 14)⟩,
 ⟨(some 16), none, .bin .lss (.t 13) (.t 15)⟩])
 (.cond (.t 16)
 .skip
 (.exit 2)))
 (.seq (.blk 3
 (.seq (.reg [⟨(some 6), none, .mov (c6 0)⟩])
 (.blk 4
 (.loop
 (.seq (.seq (.reg [⟨(some 19), none, .mov (.t 6)⟩,
 ⟨(some 20), none, .add (.t 1) 1⟩,
 ⟨(some 21), none, .ld1 (.t 20)⟩,
 ⟨(some 22), none, .bin .lss (.t 19) (.t 21)⟩])
 (.cond (.t 22)
 .skip
 (.exit 4)))
 (.seq (.blk 5
 (.seq (.drw [0, 0, 0, 0, 10, 30, 62, 0, 128, 511, 0, 0, 3071, 0, 0, 0, 40960, 122880, 253952, 524287, 1048575]
 []
 [(0, ⟨(some 25), none, .lda (.t 1) 2 522⟩),
 (1, ⟨(some 26), none, .mov (.t 4)⟩),
 (2, ⟨(some 27), none, .mov (.t 5)⟩),
 (3, ⟨(some 28), none, .add (.t 1) 10⟩),
 (4, ⟨(some 29), none, .idx (.t 28) (.t 26) 8 64⟩),
 (5, ⟨(some 30), none, .idx (.t 29) (.t 27) 8 8⟩),
 (6, ⟨(some 31), none, .lda (.t 30) 0 8⟩),
 (7, ⟨(some 32), none, .mov (.t 6)⟩),
 (8, ⟨(some 33), none, .call 55 [(.t 32)]⟩),
 (9, ⟨(some 34), none, .call 56 [(.t 25), (.t 31), (.t 33)]⟩),
 (10, ⟨(some 35), none, .lda (.t 1) 2 522⟩),
 (11, ⟨(some 36), none, .mov (.t 4)⟩),
 (12, ⟨(some 37), none, .call 55 [(.t 36)]⟩),
 (13, ⟨(some 38), none, .mov (.t 5)⟩),
 (14, ⟨(some 39), none, .mov (.t 6)⟩),
 (15, ⟨(some 40), none, .add (.t 1) 10⟩),
 (16, ⟨(some 41), none, .idx (.t 40) (.t 38) 8 64⟩),
 (17, ⟨(some 42), none, .idx (.t 41) (.t 39) 8 8⟩),
 (18, ⟨(some 43), none, .lda (.t 42) 0 8⟩)]
 []
 [(19, ⟨(some 44), none, .call 56 [(.t 35), (.t 37), (.t 43)]⟩),
 (20, ⟨(some 45), none, .eqa true 8 (.t 34) (.t 44)⟩)])
 (.cond (.t 45)
 (.seq (.reg [⟨(some 46), none, .mov (.t 4)⟩,
 ⟨(some 47), none, .mov (.t 5)⟩,
 ⟨(some 48), none, .mov (.t 6)⟩,
 ⟨(some 49), none, .bsa [(.t 46), (.t 47), (.t 48)]⟩,
 ⟨(some 2), none, .mov (.t 49)⟩,
 ⟨(some 3), none, .mov (.c (.b true))⟩])
 .ret)
 .skip)))
 (.reg [⟨(some 23), none, .mov (.t 6)⟩,
 ⟨(some 24), none, .bin .add (.t 23) (c6 1)⟩,
 ⟨(some 6), none, .mov (.t 24)⟩])))))))
 (.reg [⟨(some 17), none, .mov (.t 5)⟩,
 ⟨(some 18), none, .bin .add (.t 17) (c6 1)⟩,
 ⟨(some 5), none, .mov (.t 18)⟩])))))))
 (.reg [⟨(some 11), none, .mov (.t 4)⟩,
 ⟨(some 12), none, .bin .add (.t 11) (c6 1)⟩,
 ⟨(some 4), none, .mov (.t 12)⟩]))))))
 (.seq (.reg [⟨(some 2), none, .mov (.c .sn)⟩,
 ⟨(some 3), none, .mov (.c (.b false))⟩])
 .ret)))⟩
def pf_s_l01Is : PF := ⟨1, 42, [.t 2],
 (.seq (.reg [⟨(some 1), none, .box (.t 0)⟩,
 ⟨(some 2), none, .mov (.c (.b false))⟩])
 (.seq (.seq (.reg [⟨(some 6), none, .lda (.t 1) 2 522⟩,
 ⟨(some 7), none, .call 62 [(.t 6)]⟩,
 ⟨(some 8), none, .nt (.t 7)⟩])
 (.cond (.t 8)
 (.seq (.reg [⟨(some 2), none, .mov (.c (.b false))⟩])
 .ret)
 .skip))
 (.seq (.seq (.reg [⟨(some 3), none, .mov (c6 0)⟩])
 (.blk 0
 (.loop
 (.seq (.seq (.reg [⟨(some 9), none, .mov (.t 3)⟩,
 ⟨(some 10), none, .add (.t 1) 1⟩,
 ⟨(some 11), none, .ld1 (.t 10)⟩,
 ⟨(some 12), none, .bin .lss (.t 9) (.t 11)⟩])
 (.cond (.t 12)
 .skip
 (.exit 0)))
 (.seq (.blk 1
 (.seq (.drw [0, 0, 2, 0, 8, 31, 0, 127, 255, 511, 1023, 1023, 3071, 1023, 9215, 32767, 1023, 131071, 262143, 524287]
 []
 [(0, ⟨(some 15), none, .lda (.t 1) 2 522⟩),
 (1, ⟨(some 16), none, .add (.t 1) 2⟩),
 (2, ⟨(some 17), none, .lda (.t 16) 0 8⟩),
 (3, ⟨(some 18), none, .mov (.t 3)⟩),
 (4, ⟨(some 19), none, .call 55 [(.t 18)]⟩),
 (5, ⟨(some 20), none, .call 56 [(.t 15), (.t 17), (.t 19)]⟩),
 (6, ⟨(some 21), none, .mov (.t 3)⟩),
 (7, ⟨(some 22), none, .call 55 [(.t 21)]⟩),
 (8, ⟨(some 23), none, .eqa true 8 (.t 20) (.t 22)⟩),
 (9, ⟨(some 24), none, .mov (.t 23)⟩),
 (10, ⟨(some 25), (some (24, false)), .lda (.t 1) 2 522⟩),
 (11, ⟨(some 26), (some (24, false)), .mov (.t 3)⟩),
 (12, ⟨(some 27), (some (24, false)), .call 55 [(.t 26)]⟩),
 (13, ⟨(some 28), (some (24, false)), .add (.t 1) 2⟩),
 (14, ⟨(some 29), (some (24, false)), .lda (.t 28) 0 8⟩),
 (15, ⟨(some 30), (some (24, false)), .call 56 [(.t 25), (.t 27), (.t 29)]⟩),
 (16, ⟨(some 31), (some (24, false)), .mov (.t 3)⟩)]
 []
 [(17, ⟨(some 32), (some (24, false)), .call 55 [(.t 31)]⟩),
 (18, ⟨(some 33), (some (24, false)), .eqa true 8 (.t 30) (.t 32)⟩),
 (19, ⟨(some 34), none, .pick (.t 24) (.c (.b true)) (.t 33)⟩)])
 (.cond (.t 34)
 (.seq (.reg [⟨(some 2), none, .mov (.c (.b false))⟩])
 .ret)
 .skip)))
 (.reg [⟨(some 13), none, .mov (.t 3)⟩,
 ⟨(some 14), none, .bin .add (.t 13) (c6 1)⟩,
 ⟨(some 3), none, .mov (.t 14)⟩]))))))
 (.seq (.reg [⟨(some 36), none, .lda (.t 1) 2 522⟩,
 ⟨(some 37), none, .call 97 [(.t 36)]⟩,
 ⟨(some 35), none, .mov (.t 37)⟩,
 ⟨(some 38), none, .ext (.t 35) 0⟩,
 ⟨(some 39), none, .ext (.t 35) 1⟩,
 ⟨(some 4), none, .mov (.t 38)⟩,
 ⟨(some 5), none, .mov (.t 39)⟩])
 (.seq (.reg [⟨(some 40), none, .mov (.t 5)⟩,
 ⟨(some 41), none, .nt (.t 40)⟩,
 ⟨(some 2), none, .mov (.t 41)⟩])
 .ret)))))⟩
def pf_s_l02Shape : PF := ⟨1, 26, [.t 2],
 (.seq (.reg [⟨(some 1), none, .box (.t 0)⟩,
 ⟨(some 2), none, .mov (.c (.b false))⟩])
 (.seq (.reg [⟨(some 3), none, .add (.t 1) 0⟩,
 ⟨(some 4), none, .ld1 (.t 3)⟩,
 ⟨(some 5), none, .add (.t 1) 1⟩,
 ⟨(some 6), none, .ld1 (.t 5)⟩,
 ⟨(some 7), none, .call 75 [(.t 4), (.t 6)]⟩,
 ⟨(some 8), none, .mov (.t 7)⟩,
 ⟨(some 9), (some (8, true)), .add (.t 1) 0⟩,
 ⟨(some 10), (some (8, true)), .ld1 (.t 9)⟩,
 ⟨(some 11), (some (8, true)), .add (.t 1) 1⟩,
 ⟨(some 12), (some (8, true)), .ld1 (.t 11)⟩,
 ⟨(some 13), (some (8, true)), .add (.t 1) 2⟩,
 ⟨(some 14), (some (8, true)), .lda (.t 13) 0 8⟩,
 ⟨(some 15), (some (8, true)), .call 53 [(.t 10), (.t 12), (.t 14)]⟩,
 ⟨(some 16), none, .pick (.t 8) (.t 15) (.c (.b false))⟩,
 ⟨(some 17), none, .mov (.t 16)⟩,
 ⟨(some 18), (some (17, true)), .add (.t 1) 0⟩,
 ⟨(some 19), (some (17, true)), .ld1 (.t 18)⟩,
 ⟨(some 20), (some (17, true)), .add (.t 1) 1⟩,
 ⟨(some 21), (some (17, true)), .ld1 (.t 20)⟩,
 ⟨(some 22), (some (17, true)), .add (.t 1) 10⟩,
 ⟨(some 23), (some (17, true)), .lda (.t 22) 0 512⟩,
 ⟨(some 24), (some (17, true)), .call 63 [(.t 19), (.t 21), (.t 23)]⟩,
 ⟨(some 25), none, .pick (.t 17) (.t 24) (.c (.b false))⟩,
 ⟨(some 2), none, .mov (.t 25)⟩])
 .ret))⟩
def pf_s_l02Sums : PF := ⟨5, 71, [.t 10, .t 11],
 (.seq (.reg [⟨(some 5), none, .box (.t 0)⟩,
 ⟨(some 10), none, .mov (.c (.u 0))⟩,
 ⟨(some 11), none, .mov (.c (.u 0))⟩])
 (.seq (.reg [⟨(some 12), none, .mov (c6 0)⟩,
 ⟨(some 13), none, .mov (c6 0)⟩])
 (.seq (.seq (.reg [⟨(some 14), none, .mov (c6 0)⟩])
 (.blk 0
 (.loop
 (.seq (.seq (.reg [⟨(some 15), none, .mov (.t 14)⟩,
 ⟨(some 16), none, .add (.t 5) 1⟩,
 ⟨(some 17), none, .ld1 (.t 16)⟩,
 ⟨(some 18), none, .bin .lss (.t 15) (.t 17)⟩])
 (.cond (.t 18)
 .skip
 (.exit 0)))
 (.seq (.blk 1
 (.seq (.drw [0, 0, 0, 0, 0, 18, 54, 126, 254, 510, 0, 0, 0, 0, 9216, 27648, 64512, 130048, 261120, 524286, 1048575, 2097151]
 []
 [(0, ⟨(some 21), none, .mov (.t 12)⟩),
 (1, ⟨(some 22), none, .mov (.t 1)⟩),
 (2, ⟨(some 23), none, .mov (.t 14)⟩),
 (3, ⟨(some 24), none, .mov (.t 4)⟩),
 (4, ⟨(some 25), none, .add (.t 5) 10⟩),
 (5, ⟨(some 26), none, .idx (.t 25) (.t 22) 8 64⟩),
 (6, ⟨(some 27), none, .idx (.t 26) (.t 23) 8 8⟩),
 (7, ⟨(some 28), none, .idx (.t 27) (.t 24) 8 1⟩),
 (8, ⟨(some 29), none, .ld8 (.t 28)⟩),
 (9, ⟨(some 30), none, .cvt .i64 (.t 29)⟩),
 (10, ⟨(some 31), none, .mov (.t 14)⟩),
 (11, ⟨(some 32), none, .mov (.t 2)⟩),
 (12, ⟨(some 33), none, .mov (.t 3)⟩),
 (13, ⟨(some 34), none, .add (.t 5) 10⟩),
 (14, ⟨(some 35), none, .idx (.t 34) (.t 31) 8 64⟩),
 (15, ⟨(some 36), none, .idx (.t 35) (.t 32) 8 8⟩),
 (16, ⟨(some 37), none, .idx (.t 36) (.t 33) 8 1⟩),
 (17, ⟨(some 38), none, .ld8 (.t 37)⟩),
 (18, ⟨(some 39), none, .cvt .i64 (.t 38)⟩),
 (19, ⟨(some 40), none, .bin .mul (.t 30) (.t 39)⟩)]
 []
 [(20, ⟨(some 41), none, .bin .add (.t 21) (.t 40)⟩),
 (21, ⟨(some 12), none, .mov (.t 41)⟩)])
 (.drw [0, 0, 0, 0, 0, 18, 54, 126, 254, 510, 0, 0, 0, 0, 9216, 27648, 64512, 130048, 261120, 524286, 1048575, 2097151]
 []
 [(0, ⟨(some 42), none, .mov (.t 13)⟩),
 (1, ⟨(some 43), none, .mov (.t 1)⟩),
 (2, ⟨(some 44), none, .mov (.t 2)⟩),
 (3, ⟨(some 45), none, .mov (.t 14)⟩),
 (4, ⟨(some 46), none, .add (.t 5) 10⟩),
 (5, ⟨(some 47), none, .idx (.t 46) (.t 43) 8 64⟩),
 (6, ⟨(some 48), none, .idx (.t 47) (.t 44) 8 8⟩),
 (7, ⟨(some 49), none, .idx (.t 48) (.t 45) 8 1⟩),
 (8, ⟨(some 50), none, .ld8 (.t 49)⟩),
 (9, ⟨(some 51), none, .cvt .i64 (.t 50)⟩),
 (10, ⟨(some 52), none, .mov (.t 14)⟩),
 (11, ⟨(some 53), none, .mov (.t 3)⟩),
 (12, ⟨(some 54), none, .mov (.t 4)⟩),
 (13, ⟨(some 55), none, .add (.t 5) 10⟩),
 (14, ⟨(some 56), none, .idx (.t 55) (.t 52) 8 64⟩),
 (15, ⟨(some 57), none, .idx (.t 56) (.t 53) 8 8⟩),
 (16, ⟨(some 58), none, .idx (.t 57) (.t 54) 8 1⟩),
 (17, ⟨(some 59), none, .ld8 (.t 58)⟩),
 (18, ⟨(some 60), none, .cvt .i64 (.t 59)⟩),
 (19, ⟨(some 61), none, .bin .mul (.t 51) (.t 60)⟩)]
 []
 [(20, ⟨(some 62), none, .bin .add (.t 42) (.t 61)⟩),
 (21, ⟨(some 13), none, .mov (.t 62)⟩)])))
 (.reg [⟨(some 19), none, .mov (.t 14)⟩,
 ⟨(some 20), none, .bin .add (.t 19) (c6 1)⟩,
 ⟨(some 14), none, .mov (.t 20)⟩]))))))
 (.seq (.drw [0, 1, 0, 7, 0, 16, 0, 127, 255, 511]
 []
 [(0, ⟨(some 63), none, .add (.t 5) 0⟩),
 (1, ⟨(some 64), none, .ld1 (.t 63)⟩),
 (2, ⟨(some 65), none, .mov (.t 12)⟩),
 (3, ⟨(some 66), none, .call 72 [(.t 64), (.t 65)]⟩),
 (4, ⟨(some 67), none, .add (.t 5) 0⟩),
 (5, ⟨(some 68), none, .ld1 (.t 67)⟩),
 (6, ⟨(some 69), none, .mov (.t 13)⟩)]
 []
 [(7, ⟨(some 70), none, .call 72 [(.t 68), (.t 69)]⟩),
 (8, ⟨(some 10), none, .mov (.t 66)⟩),
 (9, ⟨(some 11), none, .mov (.t 70)⟩)])
 .ret))))⟩
def pf_s_l02Fault : PF := ⟨1, 64, [.t 2, .t 3],
 (.seq (.reg [⟨(some 1), none, .box (.t 0)⟩,
 ⟨(some 2), none, .mov (.c .sn)⟩,
 ⟨(some 3), none, .mov (.c (.b false))⟩])
 (.seq (.reg [⟨(some 12), none, .add (.t 1) 1⟩,
 ⟨(some 13), none, .ld1 (.t 12)⟩,
 ⟨(some 4), none, .mov (.t 13)⟩])
 (.seq (.seq (.reg [⟨(some 5), none, .mov (c6 0)⟩])
 (.blk 0
 (.loop
 (.seq (.seq (.reg [⟨(some 14), none, .mov (.t 5)⟩,
 ⟨(some 15), none, .mov (.t 4)⟩,
 ⟨(some 16), none, .mov (.t 4)⟩,
 ⟨(some 17), none, .bin .mul (.t 15) (.t 16)⟩,
 ⟨(some 18), none, .mov (.t 4)⟩,
 ⟨(some 19), none, .bin .mul (.t 17) (.t 18)⟩,
 ⟨(some 20), none, .mov (.t 4)⟩,
 ⟨(some 21), none, .bin .mul (.t 19) (.t 20)⟩,
 ⟨(some 22), none, .bin .lss (.t 14) (.t 21)⟩])
 (.cond (.t 22)
 .skip
 (.exit 0)))
 (.seq (.blk 1
 (.seq (.drw [0, 0, 0, 6, 0, 30, 63, 0, 0, 0, 768, 1920, 0, 8064, 0, 0, 49152, 0, 245760, 0, 0, 1572864, 127, 4210687, 13107199, 33554431]
 []
 [(0, ⟨(some 25), none, .mov (.t 5)⟩),
 (1, ⟨(some 26), none, .mov (.t 4)⟩),
 (2, ⟨(some 27), none, .mov (.t 4)⟩),
 (3, ⟨(some 28), none, .bin .mul (.t 26) (.t 27)⟩),
 (4, ⟨(some 29), none, .mov (.t 4)⟩),
 (5, ⟨(some 30), none, .bin .mul (.t 28) (.t 29)⟩),
 (6, ⟨(some 31), none, .bin .quo (.t 25) (.t 30)⟩),
 (7, ⟨(some 32), none, .mov (.t 5)⟩),
 (8, ⟨(some 33), none, .mov (.t 4)⟩),
 (9, ⟨(some 34), none, .mov (.t 4)⟩),
 (10, ⟨(some 35), none, .bin .mul (.t 33) (.t 34)⟩),
 (11, ⟨(some 36), none, .bin .quo (.t 32) (.t 35)⟩),
 (12, ⟨(some 37), none, .mov (.t 4)⟩),
 (13, ⟨(some 38), none, .bin .rem (.t 36) (.t 37)⟩),
 (14, ⟨(some 39), none, .mov (.t 5)⟩),
 (15, ⟨(some 40), none, .mov (.t 4)⟩),
 (16, ⟨(some 41), none, .bin .quo (.t 39) (.t 40)⟩),
 (17, ⟨(some 42), none, .mov (.t 4)⟩),
 (18, ⟨(some 43), none, .bin .rem (.t 41) (.t 42)⟩),
 (19, ⟨(some 44), none, .mov (.t 5)⟩),
 (20, ⟨(some 45), none, .mov (.t 4)⟩),
 (21, ⟨(some 46), none, .bin .rem (.t 44) (.t 45)⟩),
 (22, ⟨(some 6), none, .mov (.t 31)⟩),
 (23, ⟨(some 7), none, .mov (.t 38)⟩),
 (24, ⟨(some 8), none, .mov (.t 43)⟩)]
 []
 [(25, ⟨(some 9), none, .mov (.t 46)⟩)])
 (.seq (.reg [⟨(some 48), none, .lda (.t 1) 2 522⟩,
 ⟨(some 49), none, .mov (.t 6)⟩,
 ⟨(some 50), none, .mov (.t 7)⟩,
 ⟨(some 51), none, .mov (.t 8)⟩,
 ⟨(some 52), none, .mov (.t 9)⟩,
 ⟨(some 53), none, .call 115 [(.t 48), (.t 49), (.t 50), (.t 51), (.t 52)]⟩,
 ⟨(some 47), none, .mov (.t 53)⟩,
 ⟨(some 54), none, .ext (.t 47) 0⟩,
 ⟨(some 55), none, .ext (.t 47) 1⟩,
 ⟨(some 10), none, .mov (.t 54)⟩,
 ⟨(some 11), none, .mov (.t 55)⟩])
 (.seq (.reg [⟨(some 56), none, .mov (.t 10)⟩,
 ⟨(some 57), none, .mov (.t 11)⟩,
 ⟨(some 58), none, .bin .neq (.t 56) (.t 57)⟩])
 (.cond (.t 58)
 (.seq (.reg [⟨(some 59), none, .mov (.t 6)⟩,
 ⟨(some 60), none, .mov (.t 7)⟩,
 ⟨(some 61), none, .mov (.t 8)⟩,
 ⟨(some 62), none, .mov (.t 9)⟩,
 ⟨(some 63), none, .bsa [(.t 59), (.t 60), (.t 61), (.t 62)]⟩,
 ⟨(some 2), none, .mov (.t 63)⟩,
 ⟨(some 3), none, .mov (.c (.b true))⟩])
 .ret)
 .skip)))))
 (.reg [⟨(some 23), none, .mov (.t 5)⟩,
 ⟨(some 24), none, .bin .add (.t 23) (c6 1)⟩,
 ⟨(some 5), none, .mov (.t 24)⟩]))))))
 (.seq (.reg [⟨(some 2), none, .mov (.c .sn)⟩,
 ⟨(some 3), none, .mov (.c (.b false))⟩])
 .ret))))⟩
def pf_s_l02Counits : PF := ⟨1, 77, [.t 2],
 (.seq (.reg [⟨(some 1), none, .box (.t 0)⟩,
 ⟨(some 2), none, .mov (.c (.b false))⟩])
 (.seq (.seq (.reg [⟨(some 3), none, .mov (c6 0)⟩])
 (.blk 0
 (.loop
 (.seq (.seq (.reg [⟨(some 9), none, .mov (.t 3)⟩,
 ⟨(some 10), none, .add (.t 1) 1⟩,
 ⟨(some 11), none, .ld1 (.t 10)⟩,
 ⟨(some 12), none, .bin .lss (.t 9) (.t 11)⟩])
 (.cond (.t 12)
 .skip
 (.exit 0)))
 (.seq (.blk 1
 (.seq (.reg [⟨(some 15), none, .bld 0 8 []⟩,
 ⟨(some 16), none, .bld 0 8 []⟩,
 ⟨(some 4), none, .alo (.by 0 8)⟩,
 ⟨(some 5), none, .alo (.by 0 8)⟩,
 ⟨none, none, .sta (.t 4) (.t 15) 8⟩,
 ⟨none, none, .sta (.t 5) (.t 16) 8⟩])
 (.seq (.seq (.reg [⟨(some 6), none, .mov (c6 0)⟩])
 (.blk 2
 (.loop
 (.seq (.seq (.reg [⟨(some 17), none, .mov (.t 6)⟩,
 ⟨(some 18), none, .add (.t 1) 1⟩,
 ⟨(some 19), none, .ld1 (.t 18)⟩,
 ⟨(some 20), none, .bin .lss (.t 17) (.t 19)⟩])
 (.cond (.t 20)
 .skip
 (.exit 2)))
 (.seq (.blk 3
 (.seq (.drw [0, 1, 0, 0, 0, 0, 40, 120, 248, 0, 0, 1536, 3584, 7680, 16383, 32767]
 []
 [(0, ⟨(some 23), none, .add (.t 1) 0⟩),
 (1, ⟨(some 24), none, .ld1 (.t 23)⟩),
 (2, ⟨(some 25), none, .lda (.t 4) 0 8⟩),
 (3, ⟨(some 26), none, .mov (.t 3)⟩),
 (4, ⟨(some 27), none, .mov (.t 6)⟩),
 (5, ⟨(some 28), none, .add (.t 1) 10⟩),
 (6, ⟨(some 29), none, .idx (.t 28) (.t 26) 8 64⟩),
 (7, ⟨(some 30), none, .idx (.t 29) (.t 27) 8 8⟩),
 (8, ⟨(some 31), none, .lda (.t 30) 0 8⟩),
 (9, ⟨(some 32), none, .mov (.t 6)⟩),
 (10, ⟨(some 33), none, .add (.t 1) 2⟩),
 (11, ⟨(some 34), none, .idx (.t 33) (.t 32) 8 1⟩),
 (12, ⟨(some 35), none, .ld8 (.t 34)⟩),
 (13, ⟨(some 36), none, .cvt .i64 (.t 35)⟩)]
 []
 [(14, ⟨(some 37), none, .call 57 [(.t 24), (.t 25), (.t 31), (.t 36)]⟩),
 (15, ⟨none, none, .sta (.t 4) (.t 37) 8⟩)])
 (.seq (.reg [⟨(some 7), none, .mov (c6 0)⟩])
 (.seq (.seq (.reg [⟨(some 8), none, .mov (c6 0)⟩])
 (.blk 4
 (.loop
 (.seq (.seq (.reg [⟨(some 38), none, .mov (.t 8)⟩,
 ⟨(some 39), none, .add (.t 1) 1⟩,
 ⟨(some 40), none, .ld1 (.t 39)⟩,
 ⟨(some 41), none, .bin .lss (.t 38) (.t 40)⟩])
 (.cond (.t 41)
 .skip
 (.exit 4)))
 (.seq (.blk 5
 (.drw [0, 0, 0, 6, 14, 30, 0, 0, 0, 0, 576, 1728, 4032, 8128, 16320, 32766, 65535, 131071]
 []
 [(0, ⟨(some 44), none, .mov (.t 7)⟩),
 (1, ⟨(some 45), none, .mov (.t 8)⟩),
 (2, ⟨(some 46), none, .add (.t 1) 2⟩),
 (3, ⟨(some 47), none, .idx (.t 46) (.t 45) 8 1⟩),
 (4, ⟨(some 48), none, .ld8 (.t 47)⟩),
 (5, ⟨(some 49), none, .cvt .i64 (.t 48)⟩),
 (6, ⟨(some 50), none, .mov (.t 3)⟩),
 (7, ⟨(some 51), none, .mov (.t 6)⟩),
 (8, ⟨(some 52), none, .mov (.t 8)⟩),
 (9, ⟨(some 53), none, .add (.t 1) 10⟩),
 (10, ⟨(some 54), none, .idx (.t 53) (.t 50) 8 64⟩),
 (11, ⟨(some 55), none, .idx (.t 54) (.t 51) 8 8⟩),
 (12, ⟨(some 56), none, .idx (.t 55) (.t 52) 8 1⟩),
 (13, ⟨(some 57), none, .ld8 (.t 56)⟩),
 (14, ⟨(some 58), none, .cvt .i64 (.t 57)⟩),
 (15, ⟨(some 59), none, .bin .mul (.t 49) (.t 58)⟩)]
 []
 [(16, ⟨(some 60), none, .bin .add (.t 44) (.t 59)⟩),
 (17, ⟨(some 7), none, .mov (.t 60)⟩)]))
 (.reg [⟨(some 42), none, .mov (.t 8)⟩,
 ⟨(some 43), none, .bin .add (.t 42) (c6 1)⟩,
 ⟨(some 8), none, .mov (.t 43)⟩]))))))
 (.reg [⟨(some 61), none, .mov (.t 6)⟩,
 ⟨(some 62), none, .add (.t 1) 0⟩,
 ⟨(some 63), none, .ld1 (.t 62)⟩,
 ⟨(some 64), none, .mov (.t 7)⟩,
 ⟨(some 65), none, .call 72 [(.t 63), (.t 64)]⟩,
 ⟨(some 66), none, .idx (.t 5) (.t 61) 8 1⟩,
 ⟨none, none, .st8 (.t 66) (.t 65)⟩])))))
 (.reg [⟨(some 21), none, .mov (.t 6)⟩,
 ⟨(some 22), none, .bin .add (.t 21) (c6 1)⟩,
 ⟨(some 6), none, .mov (.t 22)⟩]))))))
 (.seq (.drw [0, 0, 2, 7, 15, 31, 31, 95, 255, 511]
 []
 [(0, ⟨(some 67), none, .lda (.t 4) 0 8⟩),
 (1, ⟨(some 68), none, .mov (.t 3)⟩),
 (2, ⟨(some 69), none, .call 55 [(.t 68)]⟩),
 (3, ⟨(some 70), none, .eqa true 8 (.t 67) (.t 69)⟩),
 (4, ⟨(some 71), none, .mov (.t 70)⟩),
 (5, ⟨(some 72), (some (71, false)), .lda (.t 5) 0 8⟩),
 (6, ⟨(some 73), (some (71, false)), .mov (.t 3)⟩),
 (7, ⟨(some 74), (some (71, false)), .call 55 [(.t 73)]⟩)]
 []
 [(8, ⟨(some 75), (some (71, false)), .eqa true 8 (.t 72) (.t 74)⟩),
 (9, ⟨(some 76), none, .pick (.t 71) (.c (.b true)) (.t 75)⟩)])
 (.cond (.t 76)
 (.seq (.reg [⟨(some 2), none, .mov (.c (.b false))⟩])
 .ret)
 .skip)))))
 (.reg [⟨(some 13), none, .mov (.t 3)⟩,
 ⟨(some 14), none, .bin .add (.t 13) (c6 1)⟩,
 ⟨(some 3), none, .mov (.t 14)⟩]))))))
 (.seq (.reg [⟨(some 2), none, .mov (.c (.b true))⟩])
 .ret)))⟩
def pf_s_l02Is : PF := ⟨1, 19, [.t 2],
 (.seq (.reg [⟨(some 1), none, .box (.t 0)⟩,
 ⟨(some 2), none, .mov (.c (.b false))⟩])
 (.seq (.seq (.reg [⟨(some 5), none, .lda (.t 1) 2 522⟩,
 ⟨(some 6), none, .call 98 [(.t 5)]⟩,
 ⟨(some 7), none, .nt (.t 6)⟩])
 (.cond (.t 7)
 (.seq (.reg [⟨(some 2), none, .mov (.c (.b false))⟩])
 .ret)
 .skip))
 (.seq (.reg [⟨(some 9), none, .lda (.t 1) 2 522⟩,
 ⟨(some 10), none, .call 99 [(.t 9)]⟩,
 ⟨(some 8), none, .mov (.t 10)⟩,
 ⟨(some 11), none, .ext (.t 8) 0⟩,
 ⟨(some 12), none, .ext (.t 8) 1⟩,
 ⟨(some 3), none, .mov (.t 11)⟩,
 ⟨(some 4), none, .mov (.t 12)⟩])
 (.seq (.reg [⟨(some 13), none, .mov (.t 4)⟩,
 ⟨(some 14), none, .nt (.t 13)⟩,
 ⟨(some 15), none, .mov (.t 14)⟩,
 ⟨(some 16), (some (15, true)), .lda (.t 1) 2 522⟩,
 ⟨(some 17), (some (15, true)), .call 100 [(.t 16)]⟩,
 ⟨(some 18), none, .pick (.t 15) (.t 17) (.c (.b false))⟩,
 ⟨(some 2), none, .mov (.t 18)⟩])
 .ret))))⟩
def pf_s_l01Zero : PF := ⟨1, 6, [.t 2],
 (.seq (.reg [⟨(some 1), none, .box (.t 0)⟩,
 ⟨(some 2), none, .mov (.c (.b false))⟩])
 (.seq (.reg [⟨(some 3), none, .lda (.t 1) 0 8⟩,
 ⟨(some 4), none, .bld 0 8 []⟩,
 ⟨(some 5), none, .eqa false 8 (.t 3) (.t 4)⟩,
 ⟨(some 2), none, .mov (.t 5)⟩])
 .ret))⟩
def E_i_IsPrime (P : Program) (ρ : Nat → FuncId) : Prop := chkFn P ρ 93 pf_i_IsPrime = true
def E_i_in (P : Program) (ρ : Nat → FuncId) : Prop := chkFn P ρ 94 pf_i_in = true
def E_i_IsVector (P : Program) (ρ : Nat → FuncId) : Prop := chkFn P ρ 92 pf_i_IsVector = true ∧ E_i_IsPrime P ρ ∧ E_i_in P ρ
def E_i_isLinear (P : Program) (ρ : Nat → FuncId) : Prop := chkFn P ρ 83 pf_i_isLinear = true ∧ E_i_IsVector P ρ
def E_i_isTable (P : Program) (ρ : Nat → FuncId) : Prop := chkFn P ρ 102 pf_i_isTable = true ∧ E_i_isLinear P ρ
def E_i_Coalgebra_isShaped (P : Program) (ρ : Nat → FuncId) : Prop := chkFn P ρ 82 pf_i_Coalgebra_isShaped = true ∧ E_i_IsVector P ρ ∧ E_i_isTable P ρ
def E_i_Coalgebra_field (P : Program) (ρ : Nat → FuncId) : Prop := chkFn P ρ 117 pf_i_Coalgebra_field = true
def E_i_field_mod (P : Program) (ρ : Nat → FuncId) : Prop := chkFn P ρ 74 pf_i_field_mod = true
def E_i_field_plus (P : Program) (ρ : Nat → FuncId) : Prop := chkFn P ρ 71 pf_i_field_plus = true ∧ E_i_field_mod P ρ
def E_i_field_dot (P : Program) (ρ : Nat → FuncId) : Prop := chkFn P ρ 118 pf_i_field_dot = true
def E_i_basis (P : Program) (ρ : Nat → FuncId) : Prop := chkFn P ρ 61 pf_i_basis = true
def E_i_Coalgebra_isCounit (P : Program) (ρ : Nat → FuncId) : Prop := chkFn P ρ 107 pf_i_Coalgebra_isCounit = true ∧ E_i_Coalgebra_field P ρ ∧ E_i_field_plus P ρ ∧ E_i_field_dot P ρ ∧ E_i_basis P ρ
def E_i_Coalgebra_isFault (P : Program) (ρ : Nat → FuncId) : Prop := chkFn P ρ 119 pf_i_Coalgebra_isFault = true ∧ E_i_Coalgebra_field P ρ
def E_i_Coalgebra_fault (P : Program) (ρ : Nat → FuncId) : Prop := chkFn P ρ 108 pf_i_Coalgebra_fault = true ∧ E_i_Coalgebra_isFault P ρ
def E_i_IsCoalgebra (P : Program) (ρ : Nat → FuncId) : Prop := chkFn P ρ 106 pf_i_IsCoalgebra = true ∧ E_i_Coalgebra_isShaped P ρ ∧ E_i_Coalgebra_isCounit P ρ ∧ E_i_Coalgebra_fault P ρ
def E_i_unless (P : Program) (ρ : Nat → FuncId) : Prop := chkFn P ρ 49 pf_i_unless = true
def E_i_field_times (P : Program) (ρ : Nat → FuncId) : Prop := chkFn P ρ 114 pf_i_field_times = true ∧ E_i_field_plus P ρ
def E_i_field_pair (P : Program) (ρ : Nat → FuncId) : Prop := chkFn P ρ 110 pf_i_field_pair = true ∧ E_i_field_times P ρ
def E_i_transposed (P : Program) (ρ : Nat → FuncId) : Prop := chkFn P ρ 227 pf_i_transposed = true
def E_i_first (P : Program) (ρ : Nat → FuncId) : Prop := chkFn P ρ 139 pf_i_first = true
def E_s_l01In (P : Program) (ρ : Nat → FuncId) : Prop := chkFn P ρ 96 pf_s_l01In = true
def E_s_l01Prime (P : Program) (ρ : Nat → FuncId) : Prop := chkFn P ρ 95 pf_s_l01Prime = true ∧ E_s_l01In P ρ
def E_s_l01Sizes (P : Program) (ρ : Nat → FuncId) : Prop := chkFn P ρ 75 pf_s_l01Sizes = true ∧ E_s_l01Prime P ρ ∧ E_s_l01In P ρ
def E_s_l01Vector (P : Program) (ρ : Nat → FuncId) : Prop := chkFn P ρ 53 pf_s_l01Vector = true
def E_s_l01Linear (P : Program) (ρ : Nat → FuncId) : Prop := chkFn P ρ 64 pf_s_l01Linear = true ∧ E_s_l01Vector P ρ
def E_s_l01Table (P : Program) (ρ : Nat → FuncId) : Prop := chkFn P ρ 63 pf_s_l01Table = true ∧ E_s_l01Linear P ρ
def E_s_l01Shape (P : Program) (ρ : Nat → FuncId) : Prop := chkFn P ρ 62 pf_s_l01Shape = true ∧ E_s_l01Sizes P ρ ∧ E_s_l01Vector P ρ ∧ E_s_l01Table P ρ
def E_s_l01Basis (P : Program) (ρ : Nat → FuncId) : Prop := chkFn P ρ 55 pf_s_l01Basis = true
def E_s_l01Mod (P : Program) (ρ : Nat → FuncId) : Prop := chkFn P ρ 72 pf_s_l01Mod = true
def E_s_l01Add (P : Program) (ρ : Nat → FuncId) : Prop := chkFn P ρ 57 pf_s_l01Add = true ∧ E_s_l01Mod P ρ
def E_s_l01Apply (P : Program) (ρ : Nat → FuncId) : Prop := chkFn P ρ 51 pf_s_l01Apply = true ∧ E_s_l01Add P ρ
def E_s_l01Times (P : Program) (ρ : Nat → FuncId) : Prop := chkFn P ρ 56 pf_s_l01Times = true ∧ E_s_l01Apply P ρ ∧ E_s_l01Add P ρ
def E_s_l01Fault (P : Program) (ρ : Nat → FuncId) : Prop := chkFn P ρ 97 pf_s_l01Fault = true ∧ E_s_l01Basis P ρ ∧ E_s_l01Times P ρ
def E_s_l01Is (P : Program) (ρ : Nat → FuncId) : Prop := chkFn P ρ 76 pf_s_l01Is = true ∧ E_s_l01Shape P ρ ∧ E_s_l01Basis P ρ ∧ E_s_l01Times P ρ ∧ E_s_l01Fault P ρ
def E_s_l02Shape (P : Program) (ρ : Nat → FuncId) : Prop := chkFn P ρ 98 pf_s_l02Shape = true ∧ E_s_l01Sizes P ρ ∧ E_s_l01Vector P ρ ∧ E_s_l01Table P ρ
def E_s_l02Sums (P : Program) (ρ : Nat → FuncId) : Prop := chkFn P ρ 115 pf_s_l02Sums = true ∧ E_s_l01Mod P ρ
def E_s_l02Fault (P : Program) (ρ : Nat → FuncId) : Prop := chkFn P ρ 99 pf_s_l02Fault = true ∧ E_s_l02Sums P ρ
def E_s_l02Counits (P : Program) (ρ : Nat → FuncId) : Prop := chkFn P ρ 100 pf_s_l02Counits = true ∧ E_s_l01Add P ρ ∧ E_s_l01Mod P ρ ∧ E_s_l01Basis P ρ
def E_s_l02Is (P : Program) (ρ : Nat → FuncId) : Prop := chkFn P ρ 77 pf_s_l02Is = true ∧ E_s_l02Shape P ρ ∧ E_s_l02Fault P ρ ∧ E_s_l02Counits P ρ
def E_s_l01Zero (P : Program) (ρ : Nat → FuncId) : Prop := chkFn P ρ 101 pf_s_l01Zero = true
end Hf
