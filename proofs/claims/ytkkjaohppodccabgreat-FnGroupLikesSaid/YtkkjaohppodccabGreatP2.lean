/- Functions of the program in the second layer's small language. Written by gen2.py. -/
import Derived.Test.YtkkjaohppodccabGreatX
import Derived.Test.YtkkjaohppodccabGreatP
set_option linter.unusedVariables false
set_option linter.unusedSimpArgs false
namespace Hf
open Go
def qm (d s : Nat) : QI := ⟨some d, none, .o (.mov (.t s))⟩
def qo (d : Nat) (p : PO) : QI := ⟨some d, none, .o p⟩
def ql (d s h n : Nat) : QI := ⟨some d, none, .lda (.t s) h n⟩
def qp (d : Nat) (p : QO) : QI := ⟨some d, none, p⟩
def qf_i_Coalgebra_has_1 : QF := ⟨2, 15, [.t 3],
 (.seq (.reg [qo 2 (.box (.t 0)),
 qo 3 (.mov (.c (.b false)))])
 (.seq (.drs [0, 1, 3, 7, 0, 16, 48, 112, 0, 511, 1023, 2047]
 [(0, false, qp 4 (.ld1 (.t 1))),
 (1, false, qo 5 (.nck (.t 4))),
 (2, false, qo 6 (.add (.t 5) 0)),
 (3, false, qp 7 (.ld1 (.t 6))),
 (4, false, qp 8 (.ld1 (.t 1))),
 (5, false, qo 9 (.nck (.t 8))),
 (6, false, qo 10 (.add (.t 9) 1)),
 (7, false, qp 11 (.ld1 (.t 10))),
 (8, false, ql 12 2 0 8),
 (9, false, qp 13 (.calp 92 [(.t 7), (.t 11), (.t 12)])),
 (10, false, qo 14 (.nt (.t 13))),
 (11, false, qm 3 14)])
 .ret))⟩
def qf_x_IndexFunc_V2 : QF := ⟨2, 19, [.t 4],
 (.seq (.reg [qo 4 (.mov (c6 0))])
 (.seq (.seq (.reg [qm 6 0,
 qp 7 (.len (.t 6)),
 qo 8 (.mov (c6 0))])
 (.blk 0
 (.loop
 (.seq (.reg [qo 9 (.bin .lss (.t 8) (.t 7))])
 (.seq (.cond (.t 9)
 .skip
 (.exit 0))
 (.seq (.blk 1
 (.seq (.reg [qm 10 8,
 qm 5 10])
 (.seq (.reg [qm 11 1,
 qm 12 0,
 qm 13 5,
 qp 14 (.ids (.t 12) (.t 13) 8),
 ql 15 14 0 8,
 qp 16 (.calv (.t 11) [(.t 15)])])
 (.cond (.t 16)
 (.seq (.reg [qm 17 5,
 qm 4 17])
 .ret)
 .skip))))
 (.reg [qo 18 (.bin .add (.t 8) (c6 1)),
 qm 8 18])))))))
 (.seq (.reg [qo 4 (.mov (c6 (-1)))])
 .ret)))⟩
def qf_x_ContainsFunc_V2 : QF := ⟨2, 9, [.t 4],
 (.seq (.reg [qo 4 (.mov (.c (.b false)))])
 (.seq (.reg [qm 5 0,
 qm 6 1,
 qp 7 (.call 91 [(.t 5), (.t 6)]),
 qo 8 (.bin .geq (.t 7) (c6 0)),
 qm 4 8])
 .ret))⟩
def qf_i_Coalgebra_has : QF := ⟨2, 9, [.t 4],
 (.seq (.reg [qo 2 (.box (.t 0)),
 qo 4 (.mov (.c (.b false)))])
 (.seq (.reg [qm 5 1,
 qo 6 (.mkf 433 [] [(.t 2)]),
 qp 7 (.call 70 [(.t 5), (.t 6)]),
 qo 8 (.nt (.t 7)),
 qm 4 8])
 .ret))⟩
def qf_i_Coalgebra_code : QF := ⟨2, 15, [.t 4],
 (.seq (.reg [qo 4 (.mov (c6 0))])
 (.seq (.reg [qm 5 0,
 qo 6 (.nck (.t 5)),
 ql 7 6 2 522,
 qp 8 (.calp 106 [(.t 7)]),
 qm 9 8,
 ⟨(some 10), (some (9, true)), .o (.mov (.t 0))⟩,
 ⟨(some 11), (some (9, true)), .o (.mov (.t 1))⟩,
 ⟨(some 12), (some (9, true)), .call 432 [(.t 10), (.t 11)]⟩,
 qo 13 (.pick (.t 9) (.t 12) (.c (.b false))),
 qp 14 (.calp 49 [(.t 13), (c6 1)]),
 qm 4 14])
 .ret))⟩
def qf_i_Coalgebra_coproduct : QF := ⟨2, 40, [.c 4 0 64],
 (.seq (.reg [qo 3 (.box (.t 1)),
 qo 4 (.alo (.by 0 64))])
 (.seq (.reg [qm 10 0,
 qp 11 (.call 117 [(.t 10)]),
 qo 12 (.bld 0 64 []),
 qo 5 (.alo (.by 2 2)),
 qo 6 (.alo (.by 0 64)),
 ⟨none, none, .sta (.t 5) (.t 11) 2⟩,
 ⟨none, none, .sta (.t 6) (.t 12) 64⟩])
 (.seq (.seq (.reg [ql 13 3 0 8,
 qo 14 (.mov (c6 0))])
 (.blk 0
 (.loop
 (.seq (.reg [qo 15 (.bin .lss (.t 14) (c6 8))])
 (.seq (.cond (.t 15)
 .skip
 (.exit 0))
 (.seq (.blk 1
 (.seq (.reg [qm 16 14,
 qo 17 (.ixb (.t 13) (.t 14) 8),
 qm 7 16,
 qm 8 17])
 (.seq (.reg [qo 18 (.add (.t 5) 1),
 qp 19 (.ld1 (.t 18)),
 qo 20 (.mov (c6 0))])
 (.blk 2
 (.loop
 (.seq (.reg [qo 21 (.bin .lss (.t 20) (.t 19))])
 (.seq (.cond (.t 21)
 .skip
 (.exit 2))
 (.seq (.blk 3
 (.seq (.reg [qm 22 20,
 qm 9 22])
 (.drs [0, 0, 2, 0, 8, 0, 0, 0, 32, 288, 864, 2016, 4064, 8191]
 [(0, false, ql 23 5 2 2),
 (1, false, qm 24 9),
 (2, false, qo 25 (.idx (.t 6) (.t 24) 8 8)),
 (3, false, qm 26 8),
 (4, false, qo 27 (.cvt .i64 (.t 26))),
 (5, false, qm 28 0),
 (6, false, qm 29 7),
 (7, false, qm 30 9),
 (8, false, qo 31 (.nck (.t 28))),
 (9, false, qo 32 (.add (.t 31) 10)),
 (10, false, qo 33 (.idx (.t 32) (.t 29) 8 64)),
 (11, false, qo 34 (.idx (.t 33) (.t 30) 8 8)),
 (12, false, ql 35 34 0 8),
 (13, false, qp 36 (.call 71 [(.t 23), (.t 25), (.t 27), (.t 35)]))])))
 (.reg [qo 37 (.bin .add (.t 20) (c6 1)),
 qm 20 37])))))))))
 (.reg [qo 38 (.bin .add (.t 14) (c6 1)),
 qm 14 38])))))))
 (.seq (.reg [ql 39 6 0 64,
 ⟨none, none, .sta (.t 4) (.t 39) 64⟩])
 .ret))))⟩
def qf_i_Coalgebra_isGroupLike : QF := ⟨2, 26, [.t 4],
 (.seq (.reg [qo 3 (.box (.t 1)),
 qo 4 (.mov (.c (.b false)))])
 (.seq (.reg [qm 6 0,
 qp 7 (.call 117 [(.t 6)]),
 qo 5 (.alo (.by 2 2)),
 ⟨none, none, .sta (.t 5) (.t 7) 2⟩])
 (.seq (.drs [0, 0, 2, 6, 14, 0, 63, 127, 255, 511, 511, 2047, 511, 511, 511, 32767, 65535, 131071, 262143]
 [(0, false, ql 8 5 2 2),
 (1, false, qm 9 0),
 (2, false, qo 10 (.nck (.t 9))),
 (3, false, qo 11 (.add (.t 10) 2)),
 (4, false, ql 12 11 0 8),
 (5, false, ql 13 3 0 8),
 (6, false, qp 14 (.calp 118 [(.t 8), (.t 12), (.t 13)])),
 (7, false, qo 15 (.bin .eql (.t 14) (c6 1))),
 (8, false, qm 16 15),
 (9, false, ⟨(some 17), (some (16, true)), .o (.mov (.t 0))⟩),
 (10, false, ⟨(some 18), (some (16, true)), .lda (.t 3) 0 8⟩),
 (12, true, ⟨(some 20), (some (16, true)), .lda (.t 5) 2 2⟩),
 (13, true, ⟨(some 21), (some (16, true)), .lda (.t 3) 0 8⟩),
 (14, true, ⟨(some 22), (some (16, true)), .lda (.t 3) 0 8⟩),
 (11, false, ⟨(some 19), (some (16, true)), .call 426 [(.t 17), (.t 18)]⟩),
 (15, false, ⟨(some 23), (some (16, true)), .calp 110 [(.t 20), (.t 21), (.t 22)]⟩),
 (16, false, ⟨(some 24), (some (16, true)), .o (.eqa false 64 (.t 19) (.t 23))⟩),
 (17, false, qo 25 (.pick (.t 16) (.t 24) (.c (.b false)))),
 (18, false, qm 4 25)])
 .ret)))⟩
def qf_i_CoproductIn : QF := ⟨2, 16, [.c 4 0 64, .t 5],
 (.seq (.reg [qo 2 (.box (.t 0)),
 qo 3 (.box (.t 1)),
 qo 4 (.alo (.by 0 64)),
 qo 5 (.mov (c6 0))])
 (.seq (.seq (.reg [ql 7 3 0 8,
 qo 8 (.bsb 8 [(.t 7)]),
 qp 9 (.call 418 [(.t 2), (.t 8)]),
 qm 6 9])
 (.seq (.reg [qm 10 6,
 qo 11 (.bin .neq (.t 10) (c6 0))])
 (.cond (.t 11)
 (.seq (.reg [qo 12 (.bld 0 64 []),
 qm 13 6,
 ⟨none, none, .sta (.t 4) (.t 12) 64⟩,
 qm 5 13])
 .ret)
 .skip)))
 (.seq (.reg [ql 14 3 0 8,
 qp 15 (.call 426 [(.t 2), (.t 14)]),
 ⟨none, none, .sta (.t 4) (.t 15) 64⟩,
 qo 5 (.mov (c6 0))])
 .ret)))⟩
def qf_i_GroupLikes : QF := ⟨1, 61, [.t 2, .t 3],
 (.seq (.reg [qo 1 (.box (.t 0)),
 qo 2 (.mov (.c .sn)),
 qo 3 (.mov (c6 0))])
 (.seq (.seq (.reg [qp 12 (.call 418 [(.t 1), (.c .sn)]),
 qm 4 12])
 (.seq (.reg [qm 13 4,
 qo 14 (.bin .neq (.t 13) (c6 0))])
 (.cond (.t 14)
 (.seq (.reg [qm 15 4,
 qo 2 (.mov (.c .sn)),
 qm 3 15])
 .ret)
 .skip)))
 (.seq (.reg [qp 16 (.call 117 [(.t 1)]),
 qo 5 (.alo (.by 2 2)),
 ⟨none, none, .sta (.t 5) (.t 16) 2⟩,
 qo 6 (.mov (c6 1))])
 (.seq (.seq (.reg [qo 17 (.add (.t 5) 1),
 qp 18 (.ld1 (.t 17)),
 qo 19 (.mov (c6 0))])
 (.blk 0
 (.loop
 (.seq (.reg [qo 20 (.bin .lss (.t 19) (.t 18))])
 (.seq (.cond (.t 20)
 .skip
 (.exit 0))
 (.seq (.blk 1
 (.seq (.reg [qm 21 6,
 qo 22 (.add (.t 5) 0),
 qp 23 (.ld1 (.t 22)),
 qo 24 (.bin .mul (.t 21) (.t 23)),
 qm 6 24])
 (.seq (.reg [qm 25 6,
 qo 26 (.bin .gtr (.t 25) (c6 5000))])
 (.cond (.t 26)
 (.seq (.reg [qo 2 (.mov (.c .sn)),
 qo 3 (.mov (c6 3))])
 .ret)
 .skip))))
 (.reg [qo 27 (.bin .add (.t 19) (c6 1)),
 qm 19 27])))))))
 (.seq (.reg [qo 28 (.bsb 8 []),
 qm 7 28])
 (.seq (.seq (.reg [qm 29 6,
 qo 30 (.mov (c6 0))])
 (.blk 2
 (.loop
 (.seq (.reg [qo 31 (.bin .lss (.t 30) (.t 29))])
 (.seq (.cond (.t 31)
 .skip
 (.exit 2))
 (.seq (.blk 3
 (.seq (.reg [qm 32 30,
 qm 8 32])
 (.seq (.reg [qo 33 (.bld 0 8 []),
 qm 34 8,
 qo 9 (.alo (.by 0 8)),
 ⟨none, none, .sta (.t 9) (.t 33) 8⟩,
 qm 10 34])
 (.seq (.seq (.reg [qo 35 (.add (.t 5) 1),
 qp 36 (.ld1 (.t 35)),
 qo 37 (.bin .sub (.t 36) (c6 1)),
 qm 11 37])
 (.blk 4
 (.loop
 (.seq (.seq (.reg [qm 38 11,
 qo 39 (.bin .geq (.t 38) (c6 0))])
 (.cond (.t 39)
 .skip
 (.exit 4)))
 (.seq (.blk 5
 (.drs [0, 0, 0, 4, 14, 30, 0, 0, 128, 448, 63, 1087, 4095]
 [(0, false, qm 42 11),
 (1, false, qm 43 10),
 (2, false, qo 44 (.add (.t 5) 0)),
 (3, false, qp 45 (.ld1 (.t 44))),
 (4, false, qo 46 (.bin .rem (.t 43) (.t 45))),
 (5, false, qo 47 (.cvt .u8 (.t 46))),
 (6, false, qm 48 10),
 (7, false, qo 49 (.add (.t 5) 0)),
 (8, true, qp 50 (.ld1 (.t 49))),
 (9, false, qo 51 (.bin .quo (.t 48) (.t 50))),
 (10, false, qo 52 (.idx (.t 9) (.t 42) 8 1)),
 (11, false, ⟨none, none, .st1 (.t 52) (.t 47)⟩),
 (12, false, qm 10 51)]))
 (.reg [qm 40 11,
 qo 41 (.bin .sub (.t 40) (c6 1)),
 qm 11 41]))))))
 (.seq (.reg [ql 53 9 0 8,
 qp 54 (.call 419 [(.t 1), (.t 53)])])
 (.cond (.t 54)
 (.reg [qm 55 7,
 ql 56 9 0 8,
 qo 57 (.bsb 8 [(.t 56)]),
 qp 58 (.apb 8 8 (.t 55) (.t 57)),
 qm 7 58])
 .skip))))))
 (.reg [qo 59 (.bin .add (.t 30) (c6 1)),
 qm 30 59])))))))
 (.seq (.reg [qm 60 7,
 qm 2 60,
 qo 3 (.mov (c6 0))])
 .ret)))))))⟩
def qf_i_IsGroupLike : QF := ⟨2, 15, [.t 4, .t 5],
 (.seq (.reg [qo 2 (.box (.t 0)),
 qo 3 (.box (.t 1)),
 qo 4 (.mov (.c (.b false))),
 qo 5 (.mov (c6 0))])
 (.seq (.seq (.reg [ql 7 3 0 8,
 qo 8 (.bsb 8 [(.t 7)]),
 qp 9 (.call 418 [(.t 2), (.t 8)]),
 qm 6 9])
 (.seq (.reg [qm 10 6,
 qo 11 (.bin .neq (.t 10) (c6 0))])
 (.cond (.t 11)
 (.seq (.reg [qm 12 6,
 qo 4 (.mov (.c (.b false))),
 qm 5 12])
 .ret)
 .skip)))
 (.seq (.reg [ql 13 3 0 8,
 qp 14 (.call 419 [(.t 2), (.t 13)]),
 qm 4 14,
 qo 5 (.mov (c6 0))])
 .ret)))⟩
def qf_i_newSystem : QF := ⟨2, 10, [.t 4],
 (.seq (.reg [qo 4 (.mov (.c .np))])
 (.seq (.reg [qm 5 0,
 qo 6 (.bld 2 2 [(0, 1, (.t 5)), (1, 1, (c6 0))]),
 qm 7 1,
 qp 8 (.bac [.i 0, .i 0, .i 0, .sn, .sn] [(0, 2, (.t 6)), (2, 1, (.t 7))]),
 qp 9 (.bxc (.t 8)),
 qm 4 9])
 .ret))⟩
def qf_x_Clone_B : QF := ⟨1, 8, [.t 2],
 (.seq (.reg [qo 2 (.mov (.c .sn))])
 (.seq (.seq (.reg [qm 3 0,
 qo 4 (.eqn false (.t 3))])
 (.cond (.t 4)
 (.seq (.reg [qo 2 (.mov (.c .sn))])
 .ret)
 .skip))
 (.seq (.reg [qp 5 (.bsy []),
 qm 6 0,
 qp 7 (.apb 1 1 (.t 5) (.t 6)),
 qm 2 7])
 .ret)))⟩
def qf_i_system_solve_1 : QF := ⟨2, 9, [.t 3],
 (.seq (.reg [qo 3 (.mov (.c (.b false)))])
 (.seq (.reg [qm 4 0,
 qp 5 (.ld1 (.t 1)),
 qp 6 (.ids (.t 4) (.t 5) 1),
 qp 7 (.ld1 (.t 6)),
 qo 8 (.bin .neq (.t 7) (.c (.u 0))),
 qm 3 8])
 .ret))⟩
def qf_x_IndexFunc_R : QF := ⟨2, 19, [.t 4],
 (.seq (.reg [qo 4 (.mov (c6 0))])
 (.seq (.seq (.reg [qm 6 0,
 qp 7 (.len (.t 6)),
 qo 8 (.mov (c6 0))])
 (.blk 0
 (.loop
 (.seq (.reg [qo 9 (.bin .lss (.t 8) (.t 7))])
 (.seq (.cond (.t 9)
 .skip
 (.exit 0))
 (.seq (.blk 1
 (.seq (.reg [qm 10 8,
 qm 5 10])
 (.seq (.reg [qm 11 1,
 qm 12 0,
 qm 13 5,
 qp 14 (.ids (.t 12) (.t 13) 1),
 qp 15 (.ld1 (.t 14)),
 qp 16 (.calv (.t 11) [(.t 15)])])
 (.cond (.t 16)
 (.seq (.reg [qm 17 5,
 qm 4 17])
 .ret)
 .skip))))
 (.reg [qo 18 (.bin .add (.t 8) (c6 1)),
 qm 8 18])))))))
 (.seq (.reg [qo 4 (.mov (c6 (-1)))])
 .ret)))⟩
def qf_i_field_inverse : QF := ⟨2, 24, [.t 4],
 (.seq (.reg [qo 2 (.box (.t 0)),
 qo 4 (.mov (c6 0))])
 (.seq (.seq (.reg [qo 5 (.mov (c6 1))])
 (.blk 0
 (.loop
 (.seq (.seq (.reg [qm 6 5,
 qo 7 (.add (.t 2) 0),
 qp 8 (.ld1 (.t 7)),
 qo 9 (.bin .lss (.t 6) (.t 8))])
 (.cond (.t 9)
 .skip
 (.exit 0)))
 (.seq (.blk 1
 (.seq (.reg [qm 12 5,
 qm 13 1,
 qo 14 (.cvt .i64 (.t 13)),
 qo 15 (.bin .mul (.t 12) (.t 14)),
 qo 16 (.add (.t 2) 0),
 qp 17 (.ld1 (.t 16)),
 qo 18 (.bin .rem (.t 15) (.t 17)),
 qo 19 (.bin .eql (.t 18) (c6 1))])
 (.cond (.t 19)
 (.seq (.reg [qm 20 5,
 qm 4 20])
 .ret)
 .skip)))
 (.reg [qm 10 5,
 qo 11 (.bin .add (.t 10) (c6 1)),
 qm 5 11]))))))
 (.seq (.reg [qo 21 (.add (.t 2) 0),
 qp 22 (.ld1 (.t 21)),
 qo 23 (.bin .rem (c6 1) (.t 22)),
 qm 4 23])
 .ret)))⟩
def qf_i_system_clear : QF := ⟨3, 103, [],
 (.seq (.reg [qm 15 0,
 qo 16 (.nck (.t 15)),
 qo 17 (.add (.t 16) 3),
 qp 18 (.ld1 (.t 17)),
 qm 19 1,
 qp 20 (.ids (.t 18) (.t 19) 1),
 qp 21 (.ld1 (.t 20)),
 qm 6 21])
 (.seq (.drs [0, 1, 3, 7, 0, 0, 48, 112, 255, 511]
 [(0, false, qm 22 0),
 (1, false, qo 23 (.nck (.t 22))),
 (2, false, qo 24 (.add (.t 23) 0)),
 (3, false, ql 25 24 2 2),
 (4, false, qm 26 6),
 (5, false, qm 27 2),
 (6, false, qp 28 (.ids (.t 26) (.t 27) 1)),
 (7, false, qp 29 (.ld1 (.t 28))),
 (8, false, qp 30 (.calp 279 [(.t 25), (.t 29)])),
 (9, false, qm 7 30)])
 (.seq (.seq (.reg [qm 31 6,
 qp 32 (.len (.t 31)),
 qo 33 (.mov (c6 0))])
 (.blk 0
 (.loop
 (.seq (.reg [qo 34 (.bin .lss (.t 33) (.t 32))])
 (.seq (.cond (.t 34)
 .skip
 (.exit 0))
 (.seq (.blk 1
 (.seq (.reg [qm 35 33,
 qp 36 (.ids (.t 31) (.t 33) 1),
 qp 37 (.ld1 (.t 36)),
 qm 8 35,
 qm 9 37])
 (.reg [qm 38 6,
 qm 39 8,
 qm 40 0,
 qo 41 (.nck (.t 40)),
 qo 42 (.add (.t 41) 0),
 ql 43 42 2 2,
 qm 44 7,
 qm 45 9,
 qo 46 (.cvt .i64 (.t 45)),
 qo 47 (.bin .mul (.t 44) (.t 46)),
 qp 48 (.calp 74 [(.t 43), (.t 47)]),
 qp 49 (.ids (.t 38) (.t 39) 1),
 ⟨none, none, .st1 (.t 49) (.t 48)⟩])))
 (.reg [qo 50 (.bin .add (.t 33) (c6 1)),
 qm 33 50])))))))
 (.seq (.reg [qm 51 0,
 qo 52 (.nck (.t 51)),
 qo 53 (.add (.t 52) 3),
 qp 54 (.ld1 (.t 53)),
 qp 55 (.len (.t 54)),
 qo 56 (.mov (c6 0))])
 (.blk 2
 (.loop
 (.seq (.reg [qo 57 (.bin .lss (.t 56) (.t 55))])
 (.seq (.cond (.t 57)
 .skip
 (.exit 2))
 (.seq (.blk 3
 (.seq (.reg [qm 58 56,
 qp 59 (.ids (.t 54) (.t 56) 1),
 qp 60 (.ld1 (.t 59)),
 qm 10 58,
 qm 11 60])
 (.seq (.seq (.reg [qm 61 10,
 qm 62 1,
 qo 63 (.bin .eql (.t 61) (.t 62)),
 qm 64 63,
 ⟨(some 65), (some (64, false)), .o (.mov (.t 11))⟩,
 ⟨(some 66), (some (64, false)), .o (.mov (.t 2))⟩,
 ⟨(some 67), (some (64, false)), .ids (.t 65) (.t 66) 1⟩,
 ⟨(some 68), (some (64, false)), .ld1 (.t 67)⟩,
 ⟨(some 69), (some (64, false)), .o (.bin .eql (.t 68) (.c (.u 0)))⟩,
 qo 70 (.pick (.t 64) (.c (.b true)) (.t 69))])
 (.cond (.t 70)
 (.exit 3)
 .skip))
 (.seq (.reg [qm 71 11,
 qm 72 2,
 qp 73 (.ids (.t 71) (.t 72) 1),
 qp 74 (.ld1 (.t 73)),
 qo 75 (.cvt .i64 (.t 74)),
 qm 12 75])
 (.seq (.reg [qm 76 6,
 qp 77 (.len (.t 76)),
 qo 78 (.mov (c6 0))])
 (.blk 4
 (.loop
 (.seq (.reg [qo 79 (.bin .lss (.t 78) (.t 77))])
 (.seq (.cond (.t 79)
 .skip
 (.exit 4))
 (.seq (.blk 5
 (.seq (.reg [qm 80 78,
 qp 81 (.ids (.t 76) (.t 78) 1),
 qp 82 (.ld1 (.t 81)),
 qm 13 80,
 qm 14 82])
 (.drs [0, 0, 0, 4, 12, 28, 0, 0, 192, 448, 960, 0, 0, 4096, 14336, 32704, 65532, 131071, 262143]
 [(0, false, qm 83 11),
 (1, false, qm 84 13),
 (2, false, qm 85 0),
 (3, false, qo 86 (.nck (.t 85))),
 (4, false, qo 87 (.add (.t 86) 0)),
 (5, false, ql 88 87 2 2),
 (6, false, qm 89 11),
 (7, false, qm 90 13),
 (8, false, qp 91 (.ids (.t 89) (.t 90) 1)),
 (9, false, qp 92 (.ld1 (.t 91))),
 (10, false, qo 93 (.cvt .i64 (.t 92))),
 (11, false, qm 94 12),
 (12, false, qm 95 14),
 (13, false, qo 96 (.cvt .i64 (.t 95))),
 (14, false, qo 97 (.bin .mul (.t 94) (.t 96))),
 (15, false, qo 98 (.bin .sub (.t 93) (.t 97))),
 (16, false, qp 99 (.calp 74 [(.t 88), (.t 98)])),
 (17, false, qp 100 (.ids (.t 83) (.t 84) 1)),
 (18, false, ⟨none, none, .st1 (.t 100) (.t 99)⟩)])))
 (.reg [qo 101 (.bin .add (.t 78) (c6 1)),
 qm 78 101])))))))))))
 (.reg [qo 102 (.bin .add (.t 56) (c6 1)),
 qm 56 102]))))))))))⟩
def qf_i_system_solve_2 : QF := ⟨2, 12, [.t 3],
 (.seq (.reg [qo 3 (.mov (.c (.b false)))])
 (.seq (.reg [qm 4 0,
 qp 5 (.ld1 (.t 1)),
 qo 6 (.nck (.t 5)),
 qo 7 (.add (.t 6) 2),
 qp 8 (.ld1 (.t 7)),
 qp 9 (.ids (.t 4) (.t 8) 1),
 qp 10 (.ld1 (.t 9)),
 qo 11 (.bin .neq (.t 10) (.c (.u 0))),
 qm 3 11])
 .ret))⟩
def qf_x_ContainsFunc_R : QF := ⟨2, 9, [.t 4],
 (.seq (.reg [qo 4 (.mov (.c (.b false)))])
 (.seq (.reg [qm 5 0,
 qm 6 1,
 qp 7 (.call 277 [(.t 5), (.t 6)]),
 qo 8 (.bin .geq (.t 7) (c6 0)),
 qm 4 8])
 .ret))⟩
def qf_i_system_solve : QF := ⟨1, 103, [.t 2],
 (.seq (.reg [qo 1 (.box (.t 0)),
 qo 2 (.mov (.c (.b false)))])
 (.seq (.reg [qo 3 (.mov (c6 0))])
 (.seq (.reg [qp 7 (.ld1 (.t 1)),
 qo 8 (.nck (.t 7)),
 qo 9 (.add (.t 8) 4),
 ⟨none, none, .st1 (.t 9) (.c .sn)⟩])
 (.seq (.seq (.reg [qo 4 (.alo .i),
 ⟨none, none, .st1 (.t 4) (c6 0)⟩])
 (.blk 0
 (.loop
 (.seq (.seq (.drs [0, 0, 2, 6, 14, 31, 63, 127, 127, 383, 895, 1919, 3967, 8191, 16383]
 [(0, false, qp 10 (.ld1 (.t 4))),
 (1, false, qp 11 (.ld1 (.t 1))),
 (2, false, qo 12 (.nck (.t 11))),
 (3, false, qo 13 (.add (.t 12) 2)),
 (4, false, qp 14 (.ld1 (.t 13))),
 (5, false, qo 15 (.bin .lss (.t 10) (.t 14))),
 (6, false, qm 16 15),
 (7, false, ⟨(some 17), (some (16, true)), .o (.mov (.t 3))⟩),
 (8, false, ⟨(some 18), (some (16, true)), .ld1 (.t 1)⟩),
 (9, false, ⟨(some 19), (some (16, true)), .o (.nck (.t 18))⟩),
 (10, false, ⟨(some 20), (some (16, true)), .o (.add (.t 19) 3)⟩),
 (11, false, ⟨(some 21), (some (16, true)), .ld1 (.t 20)⟩),
 (12, false, ⟨(some 22), (some (16, true)), .len (.t 21)⟩),
 (13, false, ⟨(some 23), (some (16, true)), .o (.bin .lss (.t 17) (.t 22))⟩),
 (14, false, qo 24 (.pick (.t 16) (.t 23) (.c (.b false))))])
 (.cond (.t 24)
 .skip
 (.exit 0)))
 (.seq (.blk 1
 (.seq (.reg [qp 27 (.ld1 (.t 1)),
 qo 28 (.nck (.t 27)),
 qo 29 (.add (.t 28) 3),
 qp 30 (.ld1 (.t 29)),
 qm 31 3,
 qp 32 (.slc (.t 30) (some (.t 31)) none 1),
 qo 33 (.mkf 276 [] [(.t 4)]),
 qp 34 (.call 277 [(.t 32), (.t 33)]),
 qm 5 34])
 (.seq (.seq (.reg [qm 35 5,
 qo 36 (.bin .lss (.t 35) (c6 0))])
 (.cond (.t 36)
 (.exit 1)
 .skip))
 (.seq (.drs [0, 1, 3, 7, 0, 0, 32, 96, 224, 0, 0, 1536, 0, 4096, 12288, 28672, 0, 0, 196608, 520192, 1044480, 0, 2097152, 6291456, 14680064, 0, 65011712, 132120576, 268431871, 536867327, 1073741823, 2147483647]
 [(0, false, qp 37 (.ld1 (.t 1))),
 (1, false, qo 38 (.nck (.t 37))),
 (2, false, qo 39 (.add (.t 38) 3)),
 (3, false, qp 40 (.ld1 (.t 39))),
 (4, false, qm 41 3),
 (5, false, qp 42 (.ld1 (.t 1))),
 (6, false, qo 43 (.nck (.t 42))),
 (7, false, qo 44 (.add (.t 43) 3)),
 (8, false, qp 45 (.ld1 (.t 44))),
 (9, false, qm 46 3),
 (10, false, qm 47 5),
 (11, false, qo 48 (.bin .add (.t 46) (.t 47))),
 (12, false, qp 49 (.ld1 (.t 1))),
 (13, false, qo 50 (.nck (.t 49))),
 (14, false, qo 51 (.add (.t 50) 3)),
 (15, false, qp 52 (.ld1 (.t 51))),
 (16, false, qm 53 3),
 (17, false, qm 54 5),
 (18, false, qo 55 (.bin .add (.t 53) (.t 54))),
 (19, false, qp 56 (.ids (.t 52) (.t 55) 1)),
 (20, false, qp 57 (.ld1 (.t 56))),
 (21, false, qp 58 (.ld1 (.t 1))),
 (22, false, qo 59 (.nck (.t 58))),
 (23, false, qo 60 (.add (.t 59) 3)),
 (24, false, qp 61 (.ld1 (.t 60))),
 (25, false, qm 62 3),
 (26, false, qp 63 (.ids (.t 61) (.t 62) 1)),
 (27, false, qp 64 (.ld1 (.t 63))),
 (28, false, qp 65 (.ids (.t 40) (.t 41) 1)),
 (29, false, ⟨none, none, .st1 (.t 65) (.t 57)⟩),
 (30, false, qp 66 (.ids (.t 45) (.t 48) 1)),
 (31, false, ⟨none, none, .st1 (.t 66) (.t 64)⟩)])
 (.seq (.reg [qp 67 (.ld1 (.t 1)),
 qm 68 3,
 qp 69 (.ld1 (.t 4)),
 qp 70 (.call 280 [(.t 67), (.t 68), (.t 69)])])
 (.seq (.drs [0, 0, 2, 6, 14, 0, 32, 126, 255, 511, 1023]
 [(0, true, qp 71 (.ld1 (.t 1))),
 (1, true, qp 72 (.ld1 (.t 1))),
 (2, false, qo 73 (.nck (.t 72))),
 (3, false, qo 74 (.add (.t 73) 4)),
 (4, true, qp 75 (.ld1 (.t 74))),
 (5, false, qp 76 (.ld1 (.t 4))),
 (6, false, qo 77 (.bsa [(.t 76)])),
 (7, false, qp 78 (.apr (.i 0) 8 (.t 75) (.t 77))),
 (8, false, qo 79 (.nck (.t 71))),
 (9, false, qo 80 (.add (.t 79) 4)),
 (10, true, ⟨none, none, .st1 (.t 80) (.t 78)⟩)])
 (.reg [qm 81 3,
 qo 82 (.bin .add (.t 81) (c6 1)),
 qm 3 82])))))))
 (.seq (.seq (.reg [qp 83 (.ld1 (.t 4))])
 (.reg [qo 4 (.alo .i),
 ⟨none, none, .st1 (.t 4) (.t 83)⟩]))
 (.reg [qp 25 (.ld1 (.t 4)),
 qo 26 (.bin .add (.t 25) (c6 1)),
 ⟨none, none, .st1 (.t 4) (.t 26)⟩])))))))
 (.seq (.reg [qp 84 (.ld1 (.t 1)),
 qo 85 (.nck (.t 84)),
 qo 86 (.add (.t 85) 3),
 qp 87 (.ld1 (.t 86)),
 qm 88 3,
 qp 89 (.slc (.t 87) (some (.t 88)) none 1),
 qm 6 89])
 (.seq (.drs [0, 0, 2, 6, 14, 0, 62, 127, 255, 511]
 [(0, false, qp 90 (.ld1 (.t 1))),
 (1, false, qp 91 (.ld1 (.t 1))),
 (2, false, qo 92 (.nck (.t 91))),
 (3, false, qo 93 (.add (.t 92) 3)),
 (4, false, qp 94 (.ld1 (.t 93))),
 (5, false, qm 95 3),
 (6, false, qp 96 (.slc (.t 94) none (some (.t 95)) 1)),
 (7, false, qo 97 (.nck (.t 90))),
 (8, false, qo 98 (.add (.t 97) 3)),
 (9, false, ⟨none, none, .st1 (.t 98) (.t 96)⟩)])
 (.seq (.reg [qm 99 6,
 qo 100 (.mkf 282 [] [(.t 1)]),
 qp 101 (.call 281 [(.t 99), (.t 100)]),
 qo 102 (.nt (.t 101)),
 qm 2 102])
 .ret)))))))⟩
def qf_i_reduced : QF := ⟨2, 54, [.t 4],
 (.seq (.reg [qo 4 (.mov (.c .sn))])
 (.seq (.reg [qm 11 0,
 qp 12 (.call 271 [(.t 11), (c6 8)]),
 qm 5 12])
 (.seq (.seq (.reg [qm 13 1,
 qp 14 (.len (.t 13)),
 qo 15 (.mov (c6 0))])
 (.blk 0
 (.loop
 (.seq (.reg [qo 16 (.bin .lss (.t 15) (.t 14))])
 (.seq (.cond (.t 16)
 .skip
 (.exit 0))
 (.seq (.blk 1
 (.seq (.reg [qp 17 (.ids (.t 13) (.t 15) 8),
 ql 18 17 0 8,
 qo 7 (.alo (.by 0 8)),
 ⟨none, none, .sta (.t 7) (.t 18) 8⟩])
 (.drf [0, 0, 2, 6, 14, 0, 32, 0, 224, 480, 1022, 2047, 4095, 8191]
 [(0, false, qm 19 5),
 (1, false, qm 20 5),
 (2, false, qo 21 (.nck (.t 20))),
 (3, false, qo 22 (.add (.t 21) 3)),
 (4, true, qp 23 (.ld1 (.t 22))),
 (5, false, qp 24 (.sla (.t 7) none none 8 1))]
 (6, false, qp 25 (.call 289 [(.t 24)]))
 (7, false, qp 26 (.bsy [(.c (.u 0))]))
 [(8, false, qp 27 (.apb 1 1 (.t 25) (.t 26))),
 (9, false, qo 28 (.bsa [(.t 27)])),
 (10, true, qp 29 (.apr (.sn) 24 (.t 23) (.t 28))),
 (11, false, qo 30 (.nck (.t 19))),
 (12, false, qo 31 (.add (.t 30) 3)),
 (13, true, ⟨none, none, .st1 (.t 31) (.t 29)⟩)])))
 (.reg [qo 32 (.bin .add (.t 15) (c6 1)),
 qm 15 32])))))))
 (.seq (.reg [qm 33 5,
 qp 34 (.call 287 [(.t 33)])])
 (.seq (.reg [qo 35 (.bsb 8 []),
 qm 8 35])
 (.seq (.seq (.reg [qm 36 5,
 qo 37 (.nck (.t 36)),
 qo 38 (.add (.t 37) 3),
 qp 39 (.ld1 (.t 38)),
 qp 40 (.len (.t 39)),
 qo 41 (.mov (c6 0))])
 (.blk 2
 (.loop
 (.seq (.reg [qo 42 (.bin .lss (.t 41) (.t 40))])
 (.seq (.cond (.t 42)
 .skip
 (.exit 2))
 (.seq (.blk 3
 (.seq (.reg [qp 43 (.ids (.t 39) (.t 41) 1),
 qp 44 (.ld1 (.t 43)),
 qm 10 44])
 (.reg [qm 45 8,
 qm 46 10,
 qp 47 (.slc (.t 46) none (some (c6 8)) 1),
 qp 48 (.sap (.t 47) 8),
 ql 49 48 0 8,
 qo 50 (.bsb 8 [(.t 49)]),
 qp 51 (.apb 8 8 (.t 45) (.t 50)),
 qm 8 51])))
 (.reg [qo 52 (.bin .add (.t 41) (c6 1)),
 qm 41 52])))))))
 (.seq (.reg [qm 53 8,
 qm 4 53])
 .ret)))))))⟩
def qf_x_Clone_V : QF := ⟨1, 8, [.t 2],
 (.seq (.reg [qo 2 (.mov (.c .sn))])
 (.seq (.seq (.reg [qm 3 0,
 qo 4 (.eqn false (.t 3))])
 (.cond (.t 4)
 (.seq (.reg [qo 2 (.mov (.c .sn))])
 .ret)
 .skip))
 (.seq (.reg [qo 5 (.bsb 8 []),
 qm 6 0,
 qp 7 (.apb 8 8 (.t 5) (.t 6)),
 qm 2 7])
 .ret)))⟩
def qf_i_legs : QF := ⟨1, 9, [.t 2],
 (.seq (.reg [qo 1 (.box (.t 0)),
 qo 2 (.mov (.c .sn))])
 (.seq (.reg [qp 4 (.call 227 [(.t 1)]),
 qo 3 (.alo (.by 0 64)),
 ⟨none, none, .sta (.t 3) (.t 4) 64⟩])
 (.seq (.drs [0, 1, 0, 7, 15]
 [(0, false, qp 5 (.sla (.t 1) none none 8 8)),
 (2, false, qp 7 (.sla (.t 3) none none 8 8)),
 (1, false, qp 6 (.call 285 [(.t 5)])),
 (3, false, qp 8 (.apb 8 8 (.t 6) (.t 7))),
 (4, false, qm 2 8)])
 .ret)))⟩
def qf_x_IndexFunc_B : QF := ⟨2, 19, [.t 4],
 (.seq (.reg [qo 4 (.mov (c6 0))])
 (.seq (.seq (.reg [qm 6 0,
 qp 7 (.len (.t 6)),
 qo 8 (.mov (c6 0))])
 (.blk 0
 (.loop
 (.seq (.reg [qo 9 (.bin .lss (.t 8) (.t 7))])
 (.seq (.cond (.t 9)
 .skip
 (.exit 0))
 (.seq (.blk 1
 (.seq (.reg [qm 10 8,
 qm 5 10])
 (.seq (.reg [qm 11 1,
 qm 12 0,
 qm 13 5,
 qp 14 (.ids (.t 12) (.t 13) 1),
 qp 15 (.ld1 (.t 14)),
 qp 16 (.calv (.t 11) [(.t 15)])])
 (.cond (.t 16)
 (.seq (.reg [qm 17 5,
 qm 4 17])
 .ret)
 .skip))))
 (.reg [qo 18 (.bin .add (.t 8) (c6 1)),
 qm 8 18])))))))
 (.seq (.reg [qo 4 (.mov (c6 (-1)))])
 .ret)))⟩
def qf_i_lead_1 : QF := ⟨1, 5, [.t 2],
 (.seq (.reg [qo 2 (.mov (.c (.b false)))])
 (.seq (.reg [qm 3 0,
 qo 4 (.bin .neq (.t 3) (.c (.u 0))),
 qm 2 4])
 .ret))⟩
def qf_i_lead : QF := ⟨1, 5, [.t 2],
 (.seq (.reg [qo 1 (.box (.t 0)),
 qo 2 (.mov (c6 0))])
 (.seq (.reg [qp 3 (.sla (.t 1) none none 8 1),
 qp 4 (.call 319 [(.t 3), (.c (.fn 320 [] []))]),
 qm 2 4])
 .ret))⟩
def qf_i_field_rest : QF := ⟨3, 26, [.c 6 0 8],
 (.seq (.reg [qo 3 (.box (.t 0)),
 qo 5 (.box (.t 2)),
 qo 6 (.alo (.by 0 8))])
 (.seq (.seq (.reg [qm 9 1,
 qp 10 (.len (.t 9)),
 qo 11 (.mov (c6 0))])
 (.blk 0
 (.loop
 (.seq (.reg [qo 12 (.bin .lss (.t 11) (.t 10))])
 (.seq (.cond (.t 12)
 .skip
 (.exit 0))
 (.seq (.blk 1
 (.seq (.reg [qp 13 (.ids (.t 9) (.t 11) 8),
 ql 14 13 0 8,
 qo 8 (.alo (.by 0 8)),
 ⟨none, none, .sta (.t 8) (.t 14) 8⟩])
 (.drs [0, 0, 2, 6, 14, 30, 62, 0, 255]
 [(0, false, ql 15 3 2 2),
 (1, false, ql 16 8 0 8),
 (2, false, qp 17 (.calp 316 [(.t 16)])),
 (3, false, qo 18 (.idx (.t 5) (.t 17) 8 1)),
 (4, false, qp 19 (.ld1 (.t 18))),
 (5, false, qo 20 (.cvt .i64 (.t 19))),
 (6, false, qo 21 (.ng (.t 20))),
 (7, false, ql 22 8 0 8),
 (8, false, qp 23 (.call 71 [(.t 15), (.t 5), (.t 21), (.t 22)]))])))
 (.reg [qo 24 (.bin .add (.t 11) (c6 1)),
 qm 11 24])))))))
 (.seq (.reg [ql 25 5 0 8,
 ⟨none, none, .sta (.t 6) (.t 25) 8⟩])
 .ret)))⟩
def qf_i_within_1 : QF := ⟨3, 11, [.t 4],
 (.seq (.reg [qo 3 (.box (.t 0)),
 qo 4 (.mov (.c (.b false)))])
 (.seq (.reg [ql 5 1 2 2,
 qp 6 (.ld1 (.t 2)),
 ql 7 3 0 8,
 qp 8 (.call 379 [(.t 5), (.t 6), (.t 7)]),
 qo 9 (.bld 0 8 []),
 qo 10 (.eqa true 8 (.t 8) (.t 9)),
 qm 4 10])
 .ret))⟩
def qf_i_within : QF := ⟨3, 14, [.t 6],
 (.seq (.reg [qo 4 (.box (.t 1)),
 qo 6 (.mov (.c (.b false)))])
 (.seq (.reg [qm 8 0,
 qo 9 (.bld 2 2 [(0, 1, (.t 8)), (1, 1, (c6 8))]),
 qo 7 (.alo (.by 2 2)),
 ⟨none, none, .sta (.t 7) (.t 9) 2⟩])
 (.seq (.reg [qm 10 2,
 qo 11 (.mkf 380 [] [(.t 7), (.t 4)]),
 qp 12 (.call 70 [(.t 10), (.t 11)]),
 qo 13 (.nt (.t 12)),
 qm 6 13])
 .ret)))⟩
def qf_i_IsSubcoalgebra : QF := ⟨2, 34, [.t 4, .t 5],
 (.seq (.reg [qo 2 (.box (.t 0)),
 qo 4 (.mov (.c (.b false))),
 qo 5 (.mov (c6 0))])
 (.seq (.seq (.reg [qm 10 1,
 qp 11 (.call 418 [(.t 2), (.t 10)]),
 qm 6 11])
 (.seq (.reg [qm 12 6,
 qo 13 (.bin .neq (.t 12) (c6 0))])
 (.cond (.t 13)
 (.seq (.reg [qm 14 6,
 qo 4 (.mov (.c (.b false))),
 qm 5 14])
 .ret)
 .skip)))
 (.seq (.reg [qo 15 (.add (.t 2) 0),
 qp 16 (.ld1 (.t 15)),
 qm 17 1,
 qp 18 (.call 267 [(.t 16), (.t 17)]),
 qm 7 18])
 (.seq (.seq (.reg [qm 19 7,
 qp 20 (.len (.t 19)),
 qo 21 (.mov (c6 0))])
 (.blk 0
 (.loop
 (.seq (.reg [qo 22 (.bin .lss (.t 21) (.t 20))])
 (.seq (.cond (.t 22)
 .skip
 (.exit 0))
 (.seq (.blk 1
 (.seq (.reg [qp 23 (.ids (.t 19) (.t 21) 8),
 ql 24 23 0 8,
 qo 9 (.alo (.by 0 8)),
 ⟨none, none, .sta (.t 9) (.t 24) 8⟩])
 (.seq (.drs [0, 1, 0, 0, 8, 24, 63, 127]
 [(0, false, qo 25 (.add (.t 2) 0)),
 (1, true, qp 26 (.ld1 (.t 25))),
 (2, false, qm 27 7),
 (3, false, ql 28 9 0 8),
 (4, false, qp 29 (.call 426 [(.t 2), (.t 28)])),
 (5, false, qp 30 (.call 260 [(.t 29)])),
 (6, true, qp 31 (.call 378 [(.t 26), (.t 27), (.t 30)])),
 (7, false, qo 32 (.nt (.t 31)))])
 (.cond (.t 32)
 (.seq (.reg [qo 4 (.mov (.c (.b false))),
 qo 5 (.mov (c6 0))])
 .ret)
 .skip))))
 (.reg [qo 33 (.bin .add (.t 21) (c6 1)),
 qm 21 33])))))))
 (.seq (.reg [qo 4 (.mov (.c (.b true))),
 qo 5 (.mov (c6 0))])
 .ret)))))⟩
def qf_i_LeastSubcoalgebra : QF := ⟨2, 43, [.t 4, .t 5],
 (.seq (.reg [qo 2 (.box (.t 0)),
 qo 3 (.box (.t 1)),
 qo 4 (.mov (.c .sn)),
 qo 5 (.mov (c6 0))])
 (.seq (.seq (.reg [ql 13 3 0 8,
 qo 14 (.bsb 8 [(.t 13)]),
 qp 15 (.call 418 [(.t 2), (.t 14)]),
 qm 6 15])
 (.seq (.reg [qm 16 6,
 qo 17 (.bin .neq (.t 16) (c6 0))])
 (.cond (.t 17)
 (.seq (.reg [qm 18 6,
 qo 4 (.mov (.c .sn)),
 qm 5 18])
 .ret)
 .skip)))
 (.seq (.reg [qp 19 (.call 117 [(.t 2)]),
 qo 20 (.bsb 8 []),
 qo 7 (.alo (.by 2 2)),
 ⟨none, none, .sta (.t 7) (.t 19) 2⟩,
 qm 8 20])
 (.seq (.reg [ql 21 3 0 8,
 qp 22 (.call 426 [(.t 2), (.t 21)]),
 qo 9 (.alo (.by 0 64)),
 ⟨none, none, .sta (.t 9) (.t 22) 64⟩])
 (.seq (.seq (.reg [qo 23 (.add (.t 7) 1),
 qp 24 (.ld1 (.t 23)),
 qo 25 (.mov (c6 0))])
 (.blk 0
 (.loop
 (.seq (.reg [qo 26 (.bin .lss (.t 25) (.t 24))])
 (.seq (.cond (.t 26)
 .skip
 (.exit 0))
 (.seq (.blk 1
 (.seq (.reg [qm 27 25,
 qm 10 27])
 (.seq (.reg [qm 28 10,
 qo 29 (.idx (.t 9) (.t 28) 8 8),
 ql 30 29 0 8,
 qp 31 (.call 426 [(.t 2), (.t 30)]),
 qo 11 (.alo (.by 0 64)),
 ⟨none, none, .sta (.t 11) (.t 31) 64⟩])
 (.seq (.reg [qp 32 (.call 227 [(.t 11)]),
 qo 12 (.alo (.by 0 64)),
 ⟨none, none, .sta (.t 12) (.t 32) 64⟩])
 (.reg [qm 33 8,
 qo 34 (.add (.t 7) 1),
 qp 35 (.ld1 (.t 34)),
 qp 36 (.sla (.t 12) none (some (.t 35)) 8 8),
 qp 37 (.apb 8 8 (.t 33) (.t 36)),
 qm 8 37])))))
 (.reg [qo 38 (.bin .add (.t 25) (c6 1)),
 qm 25 38])))))))
 (.seq (.reg [qo 39 (.add (.t 7) 0),
 qp 40 (.ld1 (.t 39)),
 qm 41 8,
 qp 42 (.call 267 [(.t 40), (.t 41)]),
 qm 4 42,
 qo 5 (.mov (c6 0))])
 .ret))))))⟩
def qf_i_PrimitiveSpace_1 : QF := ⟨6, 48, [.t 8],
 (.seq (.reg [qo 8 (.mov (c6 0))])
 (.seq (.drs [0, 0, 2, 7, 0, 0, 32, 112, 15, 511]
 [(0, false, qm 12 0),
 (1, false, qo 13 (.add (.t 2) 1)),
 (2, false, qp 14 (.ld1 (.t 13))),
 (3, false, qo 15 (.bin .quo (.t 12) (.t 14))),
 (4, false, qm 16 0),
 (5, false, qo 17 (.add (.t 2) 1)),
 (6, false, qp 18 (.ld1 (.t 17))),
 (7, false, qo 19 (.bin .rem (.t 16) (.t 18))),
 (8, false, qm 9 15),
 (9, false, qm 10 19)])
 (.seq (.reg [qm 20 1,
 qm 21 9,
 qm 22 10,
 qo 23 (.add (.t 3) 10),
 qo 24 (.idx (.t 23) (.t 20) 8 64),
 qo 25 (.idx (.t 24) (.t 21) 8 8),
 qo 26 (.idx (.t 25) (.t 22) 8 1),
 qp 27 (.ld1 (.t 26)),
 qo 28 (.cvt .i64 (.t 27)),
 qm 11 28])
 (.seq (.seq (.reg [qm 29 9,
 qm 30 1,
 qo 31 (.bin .eql (.t 29) (.t 30))])
 (.cond (.t 31)
 (.reg [qm 32 11,
 qm 33 10,
 qo 34 (.idx (.t 4) (.t 33) 8 1),
 qp 35 (.ld1 (.t 34)),
 qo 36 (.cvt .i64 (.t 35)),
 qo 37 (.bin .sub (.t 32) (.t 36)),
 qm 11 37])
 .skip))
 (.seq (.seq (.reg [qm 38 10,
 qm 39 1,
 qo 40 (.bin .eql (.t 38) (.t 39))])
 (.cond (.t 40)
 (.reg [qm 41 11,
 qm 42 9,
 qo 43 (.idx (.t 5) (.t 42) 8 1),
 qp 44 (.ld1 (.t 43)),
 qo 45 (.cvt .i64 (.t 44)),
 qo 46 (.bin .sub (.t 41) (.t 45)),
 qm 11 46])
 .skip))
 (.seq (.reg [qm 47 11,
 qm 8 47])
 .ret))))))⟩
def qf_i_system_add : QF := ⟨3, 54, [],
 (.seq (.reg [qm 9 0,
 qo 10 (.nck (.t 9)),
 qo 11 (.add (.t 10) 2),
 qp 12 (.ld1 (.t 11)),
 qo 13 (.bin .add (.t 12) (c6 1)),
 qp 14 (.mkb 1 1 (.t 13)),
 qm 6 14])
 (.seq (.seq (.reg [qm 15 1,
 qp 16 (.len (.t 15)),
 qo 17 (.mov (c6 0))])
 (.blk 0
 (.loop
 (.seq (.reg [qo 18 (.bin .lss (.t 17) (.t 16))])
 (.seq (.cond (.t 18)
 .skip
 (.exit 0))
 (.seq (.blk 1
 (.seq (.reg [qm 19 17,
 qp 20 (.ids (.t 15) (.t 17) 1),
 qp 21 (.ld1 (.t 20)),
 qm 7 19,
 qm 8 21])
 (.reg [qm 22 6,
 qm 23 7,
 qm 24 0,
 qo 25 (.nck (.t 24)),
 qo 26 (.add (.t 25) 0),
 ql 27 26 2 2,
 qm 28 8,
 qp 29 (.calp 74 [(.t 27), (.t 28)]),
 qp 30 (.ids (.t 22) (.t 23) 1),
 ⟨none, none, .st1 (.t 30) (.t 29)⟩])))
 (.reg [qo 31 (.bin .add (.t 17) (c6 1)),
 qm 17 31])))))))
 (.seq (.drs [0, 0, 2, 6, 14, 0, 32, 96, 224, 0, 992, 2047, 4095]
 [(0, false, qm 32 6),
 (1, false, qm 33 0),
 (2, false, qo 34 (.nck (.t 33))),
 (3, false, qo 35 (.add (.t 34) 2)),
 (4, false, qp 36 (.ld1 (.t 35))),
 (5, false, qm 37 0),
 (6, false, qo 38 (.nck (.t 37))),
 (7, false, qo 39 (.add (.t 38) 0)),
 (8, false, ql 40 39 2 2),
 (9, false, qm 41 2),
 (10, false, qp 42 (.calp 74 [(.t 40), (.t 41)])),
 (11, false, qp 43 (.ids (.t 32) (.t 36) 1)),
 (12, false, ⟨none, none, .st1 (.t 43) (.t 42)⟩)])
 (.reg [qm 44 0,
 qm 45 0,
 qo 46 (.nck (.t 45)),
 qo 47 (.add (.t 46) 3),
 qp 48 (.ld1 (.t 47)),
 qm 49 6,
 qo 50 (.bsa [(.t 49)]),
 qp 51 (.apr (.sn) 24 (.t 48) (.t 50)),
 qo 52 (.nck (.t 44)),
 qo 53 (.add (.t 52) 3),
 ⟨none, none, .st1 (.t 53) (.t 51)⟩]))))⟩
def qf_x_Index_I : QF := ⟨2, 19, [.t 4],
 (.seq (.reg [qo 4 (.mov (c6 0))])
 (.seq (.seq (.reg [qm 6 0,
 qp 7 (.len (.t 6)),
 qo 8 (.mov (c6 0))])
 (.blk 0
 (.loop
 (.seq (.reg [qo 9 (.bin .lss (.t 8) (.t 7))])
 (.seq (.cond (.t 9)
 .skip
 (.exit 0))
 (.seq (.blk 1
 (.seq (.reg [qm 10 8,
 qm 5 10])
 (.seq (.reg [qm 11 1,
 qm 12 0,
 qm 13 5,
 qp 14 (.ids (.t 12) (.t 13) 1),
 qp 15 (.ld1 (.t 14)),
 qo 16 (.bin .eql (.t 11) (.t 15))])
 (.cond (.t 16)
 (.seq (.reg [qm 17 5,
 qm 4 17])
 .ret)
 .skip))))
 (.reg [qo 18 (.bin .add (.t 8) (c6 1)),
 qm 8 18])))))))
 (.seq (.reg [qo 4 (.mov (c6 (-1)))])
 .ret)))⟩
def qf_x_Contains_I : QF := ⟨2, 9, [.t 4],
 (.seq (.reg [qo 4 (.mov (.c (.b false)))])
 (.seq (.reg [qm 5 0,
 qm 6 1,
 qp 7 (.call 283 [(.t 5), (.t 6)]),
 qo 8 (.bin .geq (.t 7) (c6 0)),
 qm 4 8])
 .ret))⟩
def qf_i_system_spaces : QF := ⟨1, 66, [.t 2],
 (.seq (.reg [qo 2 (.mov (.c .sn))])
 (.seq (.reg [qo 8 (.bsb 8 []),
 qm 3 8])
 (.seq (.seq (.reg [qm 9 0,
 qo 10 (.nck (.t 9)),
 qo 11 (.add (.t 10) 2),
 qp 12 (.ld1 (.t 11)),
 qo 13 (.mov (c6 0))])
 (.blk 0
 (.loop
 (.seq (.reg [qo 14 (.bin .lss (.t 13) (.t 12))])
 (.seq (.cond (.t 14)
 .skip
 (.exit 0))
 (.seq (.blk 1
 (.seq (.reg [qm 15 13,
 qm 4 15])
 (.seq (.seq (.reg [qm 16 0,
 qo 17 (.nck (.t 16)),
 qo 18 (.add (.t 17) 4),
 qp 19 (.ld1 (.t 18)),
 qm 20 4,
 qp 21 (.call 278 [(.t 19), (.t 20)])])
 (.cond (.t 21)
 (.exit 1)
 .skip))
 (.seq (.reg [qm 22 4,
 qp 23 (.calp 61 [(.t 22)]),
 qo 5 (.alo (.by 0 8)),
 ⟨none, none, .sta (.t 5) (.t 23) 8⟩])
 (.seq (.seq (.reg [qm 24 0,
 qo 25 (.nck (.t 24)),
 qo 26 (.add (.t 25) 4),
 qp 27 (.ld1 (.t 26)),
 qp 28 (.len (.t 27)),
 qo 29 (.mov (c6 0))])
 (.blk 2
 (.loop
 (.seq (.reg [qo 30 (.bin .lss (.t 29) (.t 28))])
 (.seq (.cond (.t 30)
 .skip
 (.exit 2))
 (.seq (.blk 3
 (.seq (.reg [qm 31 29,
 qp 32 (.ids (.t 27) (.t 29) 1),
 qp 33 (.ld1 (.t 32)),
 qm 6 31,
 qm 7 33])
 (.drs [0, 0, 2, 6, 14, 0, 32, 96, 224, 0, 992, 2016, 0, 8160, 16352, 32736, 65504, 131070, 262143, 524287]
 [(0, false, qm 34 7),
 (1, false, qm 35 0),
 (2, false, qo 36 (.nck (.t 35))),
 (3, false, qo 37 (.add (.t 36) 0)),
 (4, false, ql 38 37 2 2),
 (5, false, qm 39 0),
 (6, false, qo 40 (.nck (.t 39))),
 (7, false, qo 41 (.add (.t 40) 3)),
 (8, false, qp 42 (.ld1 (.t 41))),
 (9, false, qm 43 6),
 (10, false, qp 44 (.ids (.t 42) (.t 43) 1)),
 (11, false, qp 45 (.ld1 (.t 44))),
 (12, false, qm 46 4),
 (13, false, qp 47 (.ids (.t 45) (.t 46) 1)),
 (14, false, qp 48 (.ld1 (.t 47))),
 (15, false, qo 49 (.cvt .i64 (.t 48))),
 (16, false, qo 50 (.ng (.t 49))),
 (17, false, qp 51 (.calp 74 [(.t 38), (.t 50)])),
 (18, false, qo 52 (.idx (.t 5) (.t 34) 8 1)),
 (19, false, ⟨none, none, .st1 (.t 52) (.t 51)⟩)])))
 (.reg [qo 53 (.bin .add (.t 29) (c6 1)),
 qm 29 53])))))))
 (.reg [qm 54 3,
 ql 55 5 0 8,
 qo 56 (.bsb 8 [(.t 55)]),
 qp 57 (.apb 8 8 (.t 54) (.t 56)),
 qm 3 57]))))))
 (.reg [qo 58 (.bin .add (.t 13) (c6 1)),
 qm 13 58])))))))
 (.seq (.reg [qm 59 0,
 qo 60 (.nck (.t 59)),
 qo 61 (.add (.t 60) 0),
 qo 62 (.add (.t 61) 0),
 qp 63 (.ld1 (.t 62)),
 qm 64 3,
 qp 65 (.call 267 [(.t 63), (.t 64)]),
 qm 2 65])
 .ret))))⟩
def qf_i_kernel : QF := ⟨3, 44, [.t 6],
 (.seq (.reg [qo 3 (.box (.t 0)),
 qo 6 (.mov (.c .sn))])
 (.seq (.reg [qo 11 (.add (.t 3) 0),
 qp 12 (.ld1 (.t 11)),
 qo 13 (.add (.t 3) 1),
 qp 14 (.ld1 (.t 13)),
 qp 15 (.call 271 [(.t 12), (.t 14)]),
 qm 7 15])
 (.seq (.seq (.reg [qm 16 1,
 qo 17 (.mov (c6 0))])
 (.blk 0
 (.loop
 (.seq (.reg [qo 18 (.bin .lss (.t 17) (.t 16))])
 (.seq (.cond (.t 18)
 .skip
 (.exit 0))
 (.seq (.blk 1
 (.seq (.reg [qm 19 17,
 qm 8 19])
 (.seq (.reg [qo 20 (.add (.t 3) 1),
 qp 21 (.ld1 (.t 20)),
 qp 22 (.mkr (.i 0) 8 (.t 21)),
 qm 9 22])
 (.seq (.seq (.reg [qm 23 9,
 qp 24 (.len (.t 23)),
 qo 25 (.mov (c6 0))])
 (.blk 2
 (.loop
 (.seq (.reg [qo 26 (.bin .lss (.t 25) (.t 24))])
 (.seq (.cond (.t 26)
 .skip
 (.exit 2))
 (.seq (.blk 3
 (.seq (.reg [qm 27 25,
 qm 10 27])
 (.reg [qm 28 9,
 qm 29 10,
 qm 30 2,
 qm 31 8,
 qm 32 10,
 qp 33 (.calv (.t 30) [(.t 31), (.t 32)]),
 qp 34 (.ids (.t 28) (.t 29) 1),
 ⟨none, none, .st1 (.t 34) (.t 33)⟩])))
 (.reg [qo 35 (.bin .add (.t 25) (c6 1)),
 qm 25 35])))))))
 (.reg [qm 36 7,
 qm 37 9,
 qp 38 (.call 286 [(.t 36), (.t 37), (c6 0)])])))))
 (.reg [qo 39 (.bin .add (.t 17) (c6 1)),
 qm 17 39])))))))
 (.seq (.reg [qm 40 7,
 qp 41 (.call 287 [(.t 40)])])
 (.seq (.reg [qm 42 7,
 qp 43 (.call 288 [(.t 42)]),
 qm 6 43])
 .ret)))))⟩
def qf_i_PrimitiveSpace : QF := ⟨3, 40, [.t 6, .t 7],
 (.seq (.reg [qo 3 (.box (.t 0)),
 qo 4 (.box (.t 1)),
 qo 5 (.box (.t 2)),
 qo 6 (.mov (.c .sn)),
 qo 7 (.mov (c6 0))])
 (.seq (.reg [ql 10 4 0 8,
 ql 11 5 0 8,
 qo 12 (.bsb 8 [(.t 10), (.t 11)]),
 qp 13 (.call 418 [(.t 3), (.t 12)]),
 qm 8 13])
 (.seq (.seq (.reg [qm 14 8,
 qm 15 8,
 qo 16 (.bin .neq (.t 15) (c6 0)),
 qm 17 16,
 ⟨(some 18), (some (17, false)), .lda (.t 4) 0 8⟩,
 ⟨(some 19), (some (17, false)), .call 419 [(.t 3), (.t 18)]⟩,
 ⟨(some 20), (some (17, false)), .o (.mov (.t 19))⟩,
 ⟨(some 21), (some (20, true)), .lda (.t 5) 0 8⟩,
 ⟨(some 22), (some (20, true)), .call 419 [(.t 3), (.t 21)]⟩,
 ⟨(some 23), (some (17, false)), .o (.pick (.t 20) (.t 22) (.c (.b false)))⟩,
 qo 24 (.pick (.t 17) (.c (.b true)) (.t 23)),
 qp 25 (.calp 49 [(.t 24), (c6 5)]),
 qo 26 (.bsa [(.t 14), (.t 25)]),
 qp 27 (.call 139 [(.t 26)]),
 qm 8 27])
 (.seq (.reg [qm 28 8,
 qo 29 (.bin .neq (.t 28) (c6 0))])
 (.cond (.t 29)
 (.seq (.reg [qm 30 8,
 qo 6 (.mov (.c .sn)),
 qm 7 30])
 .ret)
 .skip)))
 (.seq (.reg [qp 31 (.call 117 [(.t 3)]),
 qo 9 (.alo (.by 2 2)),
 ⟨none, none, .sta (.t 9) (.t 31) 2⟩])
 (.seq (.reg [ql 32 9 2 2,
 qo 33 (.add (.t 9) 1),
 qp 34 (.ld1 (.t 33)),
 qo 35 (.add (.t 9) 1),
 qp 36 (.ld1 (.t 35)),
 qo 37 (.bin .mul (.t 34) (.t 36)),
 qo 38 (.mkf 424 [] [(.t 9), (.t 3), (.t 4), (.t 5)]),
 qp 39 (.call 265 [(.t 32), (.t 37), (.t 38)]),
 qm 6 39,
 qo 7 (.mov (c6 0))])
 .ret)))))⟩
def qf_i_ReduceVectors_1 : QF := ⟨3, 10, [.t 4],
 (.seq (.reg [qo 3 (.box (.t 0)),
 qo 4 (.mov (.c (.b false)))])
 (.seq (.reg [qp 5 (.ld1 (.t 1)),
 qp 6 (.ld1 (.t 2)),
 ql 7 3 0 8,
 qp 8 (.calp 92 [(.t 5), (.t 6), (.t 7)]),
 qo 9 (.nt (.t 8)),
 qm 4 9])
 .ret))⟩
def qf_i_ReduceVectors : QF := ⟨3, 23, [.t 6, .t 7],
 (.seq (.reg [qo 3 (.box (.t 0)),
 qo 4 (.box (.t 1)),
 qo 6 (.mov (.c .sn)),
 qo 7 (.mov (c6 0))])
 (.seq (.reg [qm 9 2,
 qo 10 (.mkf 428 [] [(.t 3), (.t 4)]),
 qp 11 (.call 70 [(.t 9), (.t 10)]),
 qm 8 11])
 (.seq (.seq (.reg [qp 12 (.ld1 (.t 3)),
 qp 13 (.ld1 (.t 4)),
 qo 14 (.bld 0 8 []),
 qp 15 (.calp 92 [(.t 12), (.t 13), (.t 14)]),
 qo 16 (.nt (.t 15)),
 qm 17 16,
 ⟨(some 18), (some (17, false)), .o (.mov (.t 8))⟩,
 qo 19 (.pick (.t 17) (.c (.b true)) (.t 18))])
 (.cond (.t 19)
 (.seq (.reg [qo 6 (.mov (.c .sn)),
 qo 7 (.mov (c6 1))])
 .ret)
 .skip))
 (.seq (.reg [qp 20 (.ld1 (.t 3)),
 qm 21 2,
 qp 22 (.call 267 [(.t 20), (.t 21)]),
 qm 6 22,
 qo 7 (.mov (c6 0))])
 .ret))))⟩
def qf_l_big : QF := ⟨1, 6, [.t 2],
 (.seq (.reg [qo 2 (.mov (.c (.b false)))])
 (.seq (.reg [qm 3 0,
 qp 4 (.len (.t 3)),
 qo 5 (.bin .gtr (.t 4) (c6 4096)),
 qm 2 5])
 .ret))⟩
def qf_s_l01From : QF := ⟨1, 38, [.t 2],
 (.seq (.reg [qo 2 (.mov (.c .np))])
 (.seq (.reg [qm 5 0,
 qm 6 0,
 qp 7 (.len (.t 6)),
 qp 8 (.cvu (.t 7)),
 qp 9 (.bnu .add (.c (.i .u64 (11071))) (.t 8)),
 qp 10 (.brc [.sn, .i .i64 0, .i .u64 0] [(0, 1, (.t 5)), (2, 1, (.t 9))]),
 qp 11 (.bxr (.t 10)),
 qm 3 11])
 (.seq (.seq (.reg [qo 4 (.mov (c6 0))])
 (.blk 0
 (.loop
 (.seq (.seq (.reg [qm 12 4,
 qm 13 0,
 qp 14 (.len (.t 13)),
 qo 15 (.bin .lss (.t 12) (.t 14)),
 qm 16 15,
 ⟨(some 17), (some (16, true)), .o (.mov (.t 4))⟩,
 ⟨(some 18), (some (16, true)), .o (.bin .lss (.t 17) (c6 4096))⟩,
 qo 19 (.pick (.t 16) (.t 18) (.c (.b false)))])
 (.cond (.t 19)
 .skip
 (.exit 0)))
 (.seq (.blk 1
 (.drs [0, 0, 2, 6, 14, 30, 0, 0, 192, 448, 960, 2046, 4094, 8191, 16383, 32767]
 [(0, false, qm 22 3),
 (1, false, qm 23 3),
 (2, false, qo 24 (.nck (.t 23))),
 (3, false, qo 25 (.add (.t 24) 2)),
 (4, false, qp 26 (.ld1 (.t 25))),
 (5, false, qp 27 (.bnu .mul (.t 26) (.c (.i .u64 (1099511628211))))),
 (6, false, qm 28 0),
 (7, false, qm 29 4),
 (8, false, qp 30 (.ids (.t 28) (.t 29) 1)),
 (9, false, qp 31 (.ld1 (.t 30))),
 (10, false, qp 32 (.cvu (.t 31))),
 (11, false, qp 33 (.bnu .add (.t 27) (.t 32))),
 (12, false, qp 34 (.bnu .add (.t 33) (.c (.i .u64 (47))))),
 (13, false, qo 35 (.nck (.t 22))),
 (14, false, qo 36 (.add (.t 35) 2)),
 (15, false, ⟨none, none, .st1 (.t 36) (.t 34)⟩)]))
 (.reg [qm 20 4,
 qo 21 (.bin .add (.t 20) (c6 1)),
 qm 4 21]))))))
 (.seq (.reg [qm 37 3,
 qm 2 37])
 .ret))))⟩
def qf_s_l01Next : QF := ⟨2, 58, [.t 4],
 (.seq (.reg [qo 4 (.mov (c6 0))])
 (.seq (.seq (.reg [qm 6 1,
 qo 7 (.bin .lss (.t 6) (c6 1))])
 (.cond (.t 7)
 (.seq (.reg [qo 4 (.mov (c6 0))])
 .ret)
 .skip))
 (.seq (.reg [qm 8 0,
 qm 9 0,
 qo 10 (.nck (.t 9)),
 qo 11 (.add (.t 10) 2),
 qp 12 (.ld1 (.t 11)),
 qp 13 (.bnu .mul (.t 12) (.c (.i .u64 (6364136223846793005)))),
 qp 14 (.bnu .add (.t 13) (.c (.i .u64 (1442695040888963407)))),
 qo 15 (.nck (.t 8)),
 qo 16 (.add (.t 15) 2),
 ⟨none, none, .st1 (.t 16) (.t 14)⟩])
 (.seq (.reg [qm 17 0,
 qo 18 (.nck (.t 17)),
 qo 19 (.add (.t 18) 2),
 qp 20 (.ld1 (.t 19)),
 qp 21 (.bnu .shr (.t 20) (.c (.i .u64 (33)))),
 qp 22 (.bnu .and (.t 21) (.c (.i .u64 (16777215)))),
 qo 23 (.cvt .i64 (.t 22)),
 qm 5 23])
 (.seq (.seq (.drs [0, 1, 3, 7, 0, 16, 48, 112, 240, 511]
 [(0, false, qm 24 0),
 (1, false, qo 25 (.nck (.t 24))),
 (2, false, qo 26 (.add (.t 25) 1)),
 (3, false, qp 27 (.ld1 (.t 26))),
 (4, false, qm 28 0),
 (5, false, qo 29 (.nck (.t 28))),
 (6, false, qo 30 (.add (.t 29) 0)),
 (7, false, qp 31 (.ld1 (.t 30))),
 (8, false, qp 32 (.len (.t 31))),
 (9, false, qo 33 (.bin .lss (.t 27) (.t 32)))])
 (.cond (.t 33)
 (.seq (.drs [0, 0, 2, 6, 14, 0, 32, 96, 224, 510, 1022, 2046, 4095, 8191]
 [(0, false, qm 34 5),
 (1, false, qm 35 0),
 (2, false, qo 36 (.nck (.t 35))),
 (3, false, qo 37 (.add (.t 36) 0)),
 (4, false, qp 38 (.ld1 (.t 37))),
 (5, false, qm 39 0),
 (6, false, qo 40 (.nck (.t 39))),
 (7, false, qo 41 (.add (.t 40) 1)),
 (8, false, qp 42 (.ld1 (.t 41))),
 (9, false, qp 43 (.ids (.t 38) (.t 42) 1)),
 (10, false, qp 44 (.ld1 (.t 43))),
 (11, false, qo 45 (.cvt .i64 (.t 44))),
 (12, false, qo 46 (.bin .add (.t 34) (.t 45))),
 (13, false, qm 5 46)])
 (.reg [qm 47 0,
 qm 48 0,
 qo 49 (.nck (.t 48)),
 qo 50 (.add (.t 49) 1),
 qp 51 (.ld1 (.t 50)),
 qo 52 (.bin .add (.t 51) (c6 1)),
 qo 53 (.nck (.t 47)),
 qo 54 (.add (.t 53) 1),
 ⟨none, none, .st1 (.t 54) (.t 52)⟩]))
 .skip))
 (.seq (.reg [qm 55 5,
 qm 56 1,
 qo 57 (.bin .rem (.t 55) (.t 56)),
 qm 4 57])
 .ret))))))⟩
def qf_s_l01Pick : QF := ⟨2, 12, [.t 4],
 (.seq (.reg [qo 4 (.mov (c6 0))])
 (.seq (.reg [qm 5 1,
 qm 6 0,
 qm 7 1,
 qp 8 (.len (.t 7)),
 qp 9 (.call 195 [(.t 6), (.t 8)]),
 qp 10 (.ids (.t 5) (.t 9) 1),
 qp 11 (.ld1 (.t 10)),
 qm 4 11])
 .ret))⟩
def qf_s_l01DrawPrime : QF := ⟨1, 6, [.t 2],
 (.seq (.reg [qo 2 (.mov (c6 0))])
 (.seq (.reg [qm 3 0,
 qo 4 (.bsa [(c6 2), (c6 2), (c6 3), (c6 3), (c6 5), (c6 5), (c6 7), (c6 11), (c6 31)]),
 qp 5 (.call 205 [(.t 3), (.t 4)]),
 qm 2 5])
 .ret))⟩
def qf_s_l01Cyclic : QF := ⟨2, 35, [.c 4 2 522],
 (.seq (.reg [qo 4 (.alo (.by 2 522))])
 (.seq (.reg [qm 8 0,
 qm 9 1,
 qo 10 (.bld 2 522 [(0, 1, (.t 8)), (1, 1, (.t 9))]),
 qo 5 (.alo (.by 2 522)),
 ⟨none, none, .sta (.t 5) (.t 10) 522⟩])
 (.seq (.reg [qo 11 (.add (.t 5) 2),
 qo 12 (.idx (.t 11) (c6 0) 8 1),
 ⟨none, none, .st1 (.t 12) (.c (.u 1))⟩])
 (.seq (.seq (.reg [qo 6 (.mov (c6 0))])
 (.blk 0
 (.loop
 (.seq (.seq (.reg [qm 13 6,
 qm 14 1,
 qo 15 (.bin .lss (.t 13) (.t 14))])
 (.cond (.t 15)
 .skip
 (.exit 0)))
 (.seq (.blk 1
 (.seq (.reg [qo 7 (.mov (c6 0))])
 (.blk 2
 (.loop
 (.seq (.seq (.reg [qm 18 7,
 qm 19 1,
 qo 20 (.bin .lss (.t 18) (.t 19))])
 (.cond (.t 20)
 .skip
 (.exit 2)))
 (.seq (.blk 3
 (.drs [0, 0, 0, 0, 12, 0, 60, 0, 129, 387, 1023, 2047]
 [(0, false, qm 23 6),
 (1, false, qm 24 7),
 (2, false, qm 25 6),
 (3, false, qm 26 7),
 (4, false, qo 27 (.bin .add (.t 25) (.t 26))),
 (5, false, qm 28 1),
 (6, false, qo 29 (.bin .rem (.t 27) (.t 28))),
 (7, false, qo 30 (.add (.t 5) 10)),
 (8, false, qo 31 (.idx (.t 30) (.t 23) 8 64)),
 (9, false, qo 32 (.idx (.t 31) (.t 24) 8 8)),
 (10, false, qo 33 (.idx (.t 32) (.t 29) 8 1)),
 (11, false, ⟨none, none, .st1 (.t 33) (.c (.u 1))⟩)]))
 (.reg [qm 21 7,
 qo 22 (.bin .add (.t 21) (c6 1)),
 qm 7 22])))))))
 (.reg [qm 16 6,
 qo 17 (.bin .add (.t 16) (c6 1)),
 qm 6 17]))))))
 (.seq (.reg [ql 34 5 2 522,
 ⟨none, none, .sta (.t 4) (.t 34) 522⟩])
 .ret)))))⟩
def qf_s_l01Powers : QF := ⟨4, 55, [.c 8 2 522],
 (.seq (.reg [qo 8 (.alo (.by 2 522))])
 (.seq (.reg [qm 14 0,
 qm 15 1,
 qo 16 (.bld 2 522 [(0, 1, (.t 14)), (1, 1, (.t 15))]),
 qo 9 (.alo (.by 2 522)),
 ⟨none, none, .sta (.t 9) (.t 16) 522⟩])
 (.seq (.reg [qo 17 (.add (.t 9) 2),
 qo 18 (.idx (.t 17) (c6 0) 8 1),
 ⟨none, none, .st1 (.t 18) (.c (.u 1))⟩])
 (.seq (.seq (.reg [qo 10 (.mov (c6 0))])
 (.blk 0
 (.loop
 (.seq (.seq (.reg [qm 19 10,
 qm 20 1,
 qo 21 (.bin .lss (.t 19) (.t 20))])
 (.cond (.t 21)
 .skip
 (.exit 0)))
 (.seq (.blk 1
 (.seq (.reg [qo 11 (.mov (c6 0))])
 (.blk 2
 (.loop
 (.seq (.seq (.reg [qm 24 11,
 qm 25 1,
 qo 26 (.bin .lss (.t 24) (.t 25))])
 (.cond (.t 26)
 .skip
 (.exit 2)))
 (.seq (.blk 3
 (.seq (.reg [qm 29 10,
 qm 30 11,
 qo 31 (.bin .add (.t 29) (.t 30)),
 qm 12 31,
 qo 13 (.mov (c6 1))])
 (.seq (.blk 4
 (.loop
 (.seq (.seq (.reg [qm 32 12,
 qm 33 1,
 qo 34 (.bin .geq (.t 32) (.t 33))])
 (.cond (.t 34)
 .skip
 (.exit 4)))
 (.blk 5
 (.seq (.reg [qm 35 12,
 qm 36 1,
 qo 37 (.bin .sub (.t 35) (.t 36)),
 qm 38 3,
 qo 39 (.bin .add (.t 37) (.t 38)),
 qm 12 39])
 (.reg [qm 40 13,
 qm 41 2,
 qo 42 (.bin .mul (.t 40) (.t 41)),
 qm 43 0,
 qo 44 (.bin .rem (.t 42) (.t 43)),
 qm 13 44]))))))
 (.reg [qm 45 10,
 qm 46 11,
 qm 47 12,
 qm 48 13,
 qo 49 (.cvt .u8 (.t 48)),
 qo 50 (.add (.t 9) 10),
 qo 51 (.idx (.t 50) (.t 45) 8 64),
 qo 52 (.idx (.t 51) (.t 46) 8 8),
 qo 53 (.idx (.t 52) (.t 47) 8 1),
 ⟨none, none, .st1 (.t 53) (.t 49)⟩]))))
 (.reg [qm 27 11,
 qo 28 (.bin .add (.t 27) (c6 1)),
 qm 11 28])))))))
 (.reg [qm 22 10,
 qo 23 (.bin .add (.t 22) (c6 1)),
 qm 10 23]))))))
 (.seq (.reg [ql 54 9 2 522,
 ⟨none, none, .sta (.t 8) (.t 54) 522⟩])
 .ret)))))⟩
def qf_s_l01Matrices : QF := ⟨1, 42, [.c 2 2 522],
 (.seq (.reg [qo 2 (.alo (.by 2 522))])
 (.seq (.reg [qm 7 0,
 qo 8 (.bld 2 522 [(0, 1, (.t 7)), (1, 1, (c6 4))]),
 qo 3 (.alo (.by 2 522)),
 ⟨none, none, .sta (.t 3) (.t 8) 522⟩])
 (.seq (.reg [qo 9 (.add (.t 3) 2),
 qo 10 (.idx (.t 9) (c6 0) 8 1),
 ⟨none, none, .st1 (.t 10) (.c (.u 1))⟩])
 (.seq (.reg [qo 11 (.add (.t 3) 2),
 qo 12 (.idx (.t 11) (c6 3) 8 1),
 ⟨none, none, .st1 (.t 12) (.c (.u 1))⟩])
 (.seq (.seq (.reg [qo 4 (.mov (c6 0))])
 (.blk 0
 (.loop
 (.seq (.seq (.reg [qm 13 4,
 qo 14 (.bin .lss (.t 13) (c6 2))])
 (.cond (.t 14)
 .skip
 (.exit 0)))
 (.seq (.blk 1
 (.seq (.reg [qo 5 (.mov (c6 0))])
 (.blk 2
 (.loop
 (.seq (.seq (.reg [qm 17 5,
 qo 18 (.bin .lss (.t 17) (c6 2))])
 (.cond (.t 18)
 .skip
 (.exit 2)))
 (.seq (.blk 3
 (.seq (.reg [qo 6 (.mov (c6 0))])
 (.blk 4
 (.loop
 (.seq (.seq (.reg [qm 21 6,
 qo 22 (.bin .lss (.t 21) (c6 2))])
 (.cond (.t 22)
 .skip
 (.exit 4)))
 (.seq (.blk 5
 (.reg [qm 25 4,
 qo 26 (.bin .mul (c6 2) (.t 25)),
 qm 27 5,
 qo 28 (.bin .add (.t 26) (.t 27)),
 qm 29 5,
 qo 30 (.bin .mul (c6 2) (.t 29)),
 qm 31 6,
 qo 32 (.bin .add (.t 30) (.t 31)),
 qm 33 4,
 qo 34 (.bin .mul (c6 2) (.t 33)),
 qm 35 6,
 qo 36 (.bin .add (.t 34) (.t 35)),
 qo 37 (.add (.t 3) 10),
 qo 38 (.idx (.t 37) (.t 28) 8 64),
 qo 39 (.idx (.t 38) (.t 32) 8 8),
 qo 40 (.idx (.t 39) (.t 36) 8 1),
 ⟨none, none, .st1 (.t 40) (.c (.u 1))⟩]))
 (.reg [qm 23 6,
 qo 24 (.bin .add (.t 23) (c6 1)),
 qm 6 24])))))))
 (.reg [qm 19 5,
 qo 20 (.bin .add (.t 19) (c6 1)),
 qm 5 20])))))))
 (.reg [qm 15 4,
 qo 16 (.bin .add (.t 15) (c6 1)),
 qm 4 16]))))))
 (.seq (.reg [ql 41 3 2 522,
 ⟨none, none, .sta (.t 2) (.t 41) 522⟩])
 .ret))))))⟩
def qf_s_ProductAlgebra : QF := ⟨2, 91, [.c 4 2 522, .t 5],
 (.seq (.reg [qo 2 (.box (.t 0)),
 qo 3 (.box (.t 1)),
 qo 4 (.alo (.by 2 522)),
 qo 5 (.mov (c6 0))])
 (.seq (.blk 0
 (.seq (.reg [ql 11 2 2 522,
 qp 12 (.calp 76 [(.t 11)]),
 qo 13 (.nt (.t 12)),
 qm 14 13,
 ⟨(some 15), (some (14, false)), .lda (.t 3) 2 522⟩,
 ⟨(some 16), (some (14, false)), .calp 76 [(.t 15)]⟩,
 ⟨(some 17), (some (14, false)), .o (.nt (.t 16))⟩,
 qo 18 (.pick (.t 14) (.c (.b true)) (.t 17)),
 qm 10 18])
 (.cond (.t 10)
 (.seq (.reg [qo 19 (.bld 2 522 []),
 ⟨none, none, .sta (.t 4) (.t 19) 522⟩,
 qo 5 (.mov (c6 1))])
 .ret)
 (.seq (.reg [qo 21 (.add (.t 2) 0),
 qp 22 (.ld1 (.t 21)),
 qo 23 (.add (.t 3) 0),
 qp 24 (.ld1 (.t 23)),
 qo 25 (.bin .neq (.t 22) (.t 24)),
 qm 20 25])
 (.cond (.t 20)
 (.seq (.reg [qo 26 (.bld 2 522 []),
 ⟨none, none, .sta (.t 4) (.t 26) 522⟩,
 qo 5 (.mov (c6 2))])
 .ret)
 (.seq (.reg [qo 28 (.add (.t 2) 1),
 qp 29 (.ld1 (.t 28)),
 qo 30 (.add (.t 3) 1),
 qp 31 (.ld1 (.t 30)),
 qo 32 (.bin .add (.t 29) (.t 31)),
 qo 33 (.bin .gtr (.t 32) (c6 8)),
 qm 27 33])
 (.cond (.t 27)
 (.seq (.reg [qo 34 (.bld 2 522 []),
 ⟨none, none, .sta (.t 4) (.t 34) 522⟩,
 qo 5 (.mov (c6 3))])
 .ret)
 .skip)))))))
 (.seq (.reg [qo 35 (.add (.t 2) 1),
 qp 36 (.ld1 (.t 35)),
 qm 6 36])
 (.seq (.seq (.reg [qo 7 (.mov (c6 0))])
 (.blk 1
 (.loop
 (.seq (.seq (.reg [qm 37 7,
 qo 38 (.add (.t 3) 1),
 qp 39 (.ld1 (.t 38)),
 qo 40 (.bin .lss (.t 37) (.t 39))])
 (.cond (.t 40)
 .skip
 (.exit 1)))
 (.seq (.blk 2
 (.seq (.reg [qm 43 6,
 qm 44 7,
 qo 45 (.bin .add (.t 43) (.t 44)),
 qm 46 7,
 qo 47 (.add (.t 3) 2),
 qo 48 (.idx (.t 47) (.t 46) 8 1),
 qp 49 (.ld1 (.t 48)),
 qo 50 (.add (.t 2) 2),
 qo 51 (.idx (.t 50) (.t 45) 8 1),
 ⟨none, none, .st1 (.t 51) (.t 49)⟩])
 (.seq (.reg [qo 8 (.mov (c6 0))])
 (.blk 3
 (.loop
 (.seq (.seq (.reg [qm 52 8,
 qo 53 (.add (.t 3) 1),
 qp 54 (.ld1 (.t 53)),
 qo 55 (.bin .lss (.t 52) (.t 54))])
 (.cond (.t 55)
 .skip
 (.exit 3)))
 (.seq (.blk 4
 (.seq (.reg [qo 9 (.mov (c6 0))])
 (.blk 5
 (.loop
 (.seq (.seq (.reg [qm 58 9,
 qo 59 (.add (.t 3) 1),
 qp 60 (.ld1 (.t 59)),
 qo 61 (.bin .lss (.t 58) (.t 60))])
 (.cond (.t 61)
 .skip
 (.exit 5)))
 (.seq (.blk 6
 (.drs [0, 0, 3, 0, 0, 24, 0, 0, 192, 0, 0, 0, 0, 4608, 13824, 32256, 65024, 0, 131079, 393279, 1048575, 2097151]
 [(0, false, qm 64 6),
 (1, false, qm 65 7),
 (2, false, qo 66 (.bin .add (.t 64) (.t 65))),
 (3, false, qm 67 6),
 (4, false, qm 68 8),
 (5, false, qo 69 (.bin .add (.t 67) (.t 68))),
 (6, false, qm 70 6),
 (7, false, qm 71 9),
 (8, false, qo 72 (.bin .add (.t 70) (.t 71))),
 (9, false, qm 73 7),
 (10, false, qm 74 8),
 (11, false, qm 75 9),
 (12, false, qo 76 (.add (.t 3) 10)),
 (13, false, qo 77 (.idx (.t 76) (.t 73) 8 64)),
 (14, false, qo 78 (.idx (.t 77) (.t 74) 8 8)),
 (15, false, qo 79 (.idx (.t 78) (.t 75) 8 1)),
 (16, false, qp 80 (.ld1 (.t 79))),
 (17, false, qo 81 (.add (.t 2) 10)),
 (18, false, qo 82 (.idx (.t 81) (.t 66) 8 64)),
 (19, false, qo 83 (.idx (.t 82) (.t 69) 8 8)),
 (20, false, qo 84 (.idx (.t 83) (.t 72) 8 1)),
 (21, false, ⟨none, none, .st1 (.t 84) (.t 80)⟩)]))
 (.reg [qm 62 9,
 qo 63 (.bin .add (.t 62) (c6 1)),
 qm 9 63])))))))
 (.reg [qm 56 8,
 qo 57 (.bin .add (.t 56) (c6 1)),
 qm 8 57]))))))))
 (.reg [qm 41 7,
 qo 42 (.bin .add (.t 41) (c6 1)),
 qm 7 42]))))))
 (.seq (.reg [qm 85 6,
 qo 86 (.add (.t 3) 1),
 qp 87 (.ld1 (.t 86)),
 qo 88 (.bin .add (.t 85) (.t 87)),
 qo 89 (.add (.t 2) 1),
 ⟨none, none, .st1 (.t 89) (.t 88)⟩])
 (.seq (.reg [ql 90 2 2 522,
 ⟨none, none, .sta (.t 4) (.t 90) 522⟩,
 qo 5 (.mov (c6 0))])
 .ret))))))⟩
def qf_s_l01Draw : QF := ⟨1, 81, [.c 2 2 522],
 (.seq (.reg [qo 2 (.alo (.by 2 522))])
 (.seq (.reg [qm 9 0,
 qp 10 (.call 206 [(.t 9)]),
 qm 3 10])
 (.seq (.seq (.reg [qm 11 0,
 qp 12 (.call 195 [(.t 11), (c6 6)])])
 (.blk 0
 (.seq (.reg [qo 14 (.bin .eql (.t 12) (c6 0)),
 qm 13 14])
 (.cond (.t 13)
 (.seq (.reg [qm 15 3,
 qm 16 0,
 qp 17 (.call 195 [(.t 16), (c6 8)]),
 qo 18 (.bin .add (c6 1) (.t 17)),
 qp 19 (.call 196 [(.t 15), (.t 18)]),
 ⟨none, none, .sta (.t 2) (.t 19) 522⟩])
 .ret)
 (.seq (.reg [qo 21 (.bin .eql (.t 12) (c6 1)),
 qm 20 21])
 (.cond (.t 20)
 (.seq (.reg [qm 22 0,
 qp 23 (.call 195 [(.t 22), (c6 6)]),
 qo 24 (.bin .add (c6 1) (.t 23)),
 qm 4 24])
 (.seq (.reg [qm 25 3,
 qm 26 4,
 qm 27 0,
 qm 28 3,
 qp 29 (.call 195 [(.t 27), (.t 28)]),
 qm 30 0,
 qm 31 4,
 qp 32 (.call 195 [(.t 30), (.t 31)]),
 qp 33 (.call 208 [(.t 25), (.t 26), (.t 29), (.t 32)]),
 ⟨none, none, .sta (.t 2) (.t 33) 522⟩])
 .ret))
 (.seq (.reg [qo 35 (.bin .eql (.t 12) (c6 2)),
 qm 34 35])
 (.cond (.t 34)
 (.seq (.reg [qm 36 3,
 qp 37 (.call 197 [(.t 36)]),
 ⟨none, none, .sta (.t 2) (.t 37) 522⟩])
 .ret)
 (.seq (.reg [qo 39 (.bin .eql (.t 12) (c6 3)),
 qm 38 39])
 (.cond (.t 38)
 (.seq (.reg [qm 41 3,
 qm 42 0,
 qp 43 (.call 195 [(.t 42), (c6 3)]),
 qo 44 (.bin .add (c6 1) (.t 43)),
 qp 45 (.call 196 [(.t 41), (.t 44)]),
 qm 46 3,
 qp 47 (.call 197 [(.t 46)]),
 qp 48 (.calp 209 [(.t 45), (.t 47)]),
 qm 40 48,
 qo 49 (.ext (.t 40) 0),
 qo 50 (.ext (.t 40) 1),
 qo 5 (.alo (.by 2 522)),
 ⟨none, none, .sta (.t 5) (.t 49) 522⟩,
 qm 6 50])
 (.seq (.reg [qm 51 6,
 qo 52 (.bin .eql (.t 51) (c6 0))])
 (.cond (.t 52)
 (.seq (.reg [ql 53 5 2 522,
 ⟨none, none, .sta (.t 2) (.t 53) 522⟩])
 .ret)
 .skip)))
 (.seq (.reg [qo 55 (.bin .eql (.t 12) (c6 4)),
 qm 54 55])
 (.cond (.t 54)
 (.seq (.reg [qm 57 3,
 qm 58 0,
 qp 59 (.call 195 [(.t 58), (c6 3)]),
 qo 60 (.bin .add (c6 1) (.t 59)),
 qp 61 (.call 208 [(.t 57), (.t 60), (c6 0), (c6 0)]),
 qm 62 3,
 qm 63 0,
 qp 64 (.call 195 [(.t 63), (c6 4)]),
 qo 65 (.bin .add (c6 1) (.t 64)),
 qm 66 0,
 qm 67 3,
 qp 68 (.call 195 [(.t 66), (.t 67)]),
 qp 69 (.call 208 [(.t 62), (.t 65), (.t 68), (c6 0)]),
 qp 70 (.calp 209 [(.t 61), (.t 69)]),
 qm 56 70,
 qo 71 (.ext (.t 56) 0),
 qo 72 (.ext (.t 56) 1),
 qo 7 (.alo (.by 2 522)),
 ⟨none, none, .sta (.t 7) (.t 71) 522⟩,
 qm 8 72])
 (.seq (.reg [qm 73 8,
 qo 74 (.bin .eql (.t 73) (c6 0))])
 (.cond (.t 74)
 (.seq (.reg [ql 75 7 2 522,
 ⟨none, none, .sta (.t 2) (.t 75) 522⟩])
 .ret)
 .skip)))
 .skip))))))))))))
 (.seq (.reg [qm 76 3,
 qm 77 0,
 qp 78 (.call 195 [(.t 77), (c6 3)]),
 qo 79 (.bin .add (c6 1) (.t 78)),
 qp 80 (.call 208 [(.t 76), (.t 79), (c6 0), (c6 0)]),
 ⟨none, none, .sta (.t 2) (.t 80) 522⟩])
 .ret))))⟩
def qf_s_l02Turned : QF := ⟨1, 34, [.c 2 0 512],
 (.seq (.reg [qo 1 (.box (.t 0)),
 qo 2 (.alo (.by 0 512))])
 (.seq (.reg [qo 7 (.bld 0 512 []),
 qo 3 (.alo (.by 0 512)),
 ⟨none, none, .sta (.t 3) (.t 7) 512⟩])
 (.seq (.seq (.reg [qo 4 (.mov (c6 0))])
 (.blk 0
 (.loop
 (.seq (.seq (.reg [qm 8 4,
 qo 9 (.bin .lss (.t 8) (c6 8))])
 (.cond (.t 9)
 .skip
 (.exit 0)))
 (.seq (.blk 1
 (.seq (.reg [qo 5 (.mov (c6 0))])
 (.blk 2
 (.loop
 (.seq (.seq (.reg [qm 12 5,
 qo 13 (.bin .lss (.t 12) (c6 8))])
 (.cond (.t 13)
 .skip
 (.exit 2)))
 (.seq (.blk 3
 (.seq (.reg [qo 6 (.mov (c6 0))])
 (.blk 4
 (.loop
 (.seq (.seq (.reg [qm 16 6,
 qo 17 (.bin .lss (.t 16) (c6 8))])
 (.cond (.t 17)
 .skip
 (.exit 4)))
 (.seq (.blk 5
 (.drs [0, 0, 0, 0, 0, 0, 8, 88, 248, 504, 1, 1027, 4095, 8191]
 [(0, false, qm 20 5),
 (1, false, qm 21 6),
 (2, false, qm 22 4),
 (3, false, qm 23 4),
 (4, false, qm 24 5),
 (5, false, qm 25 6),
 (6, false, qo 26 (.idx (.t 1) (.t 23) 8 64)),
 (7, false, qo 27 (.idx (.t 26) (.t 24) 8 8)),
 (8, false, qo 28 (.idx (.t 27) (.t 25) 8 1)),
 (9, false, qp 29 (.ld1 (.t 28))),
 (10, false, qo 30 (.idx (.t 3) (.t 20) 8 64)),
 (11, false, qo 31 (.idx (.t 30) (.t 21) 8 8)),
 (12, false, qo 32 (.idx (.t 31) (.t 22) 8 1)),
 (13, false, ⟨none, none, .st1 (.t 32) (.t 29)⟩)]))
 (.reg [qm 18 6,
 qo 19 (.bin .add (.t 18) (c6 1)),
 qm 6 19])))))))
 (.reg [qm 14 5,
 qo 15 (.bin .add (.t 14) (c6 1)),
 qm 5 15])))))))
 (.reg [qm 10 4,
 qo 11 (.bin .add (.t 10) (c6 1)),
 qm 4 11]))))))
 (.seq (.reg [ql 33 3 0 512,
 ⟨none, none, .sta (.t 2) (.t 33) 512⟩])
 .ret))))⟩
def qf_s_DualCoalgebra : QF := ⟨1, 19, [.c 2 2 522, .t 3],
 (.seq (.reg [qo 1 (.box (.t 0)),
 qo 2 (.alo (.by 2 522)),
 qo 3 (.mov (c6 0))])
 (.seq (.seq (.reg [ql 4 1 2 522,
 qp 5 (.calp 76 [(.t 4)]),
 qo 6 (.nt (.t 5))])
 (.cond (.t 6)
 (.seq (.reg [qo 7 (.bld 2 522 []),
 ⟨none, none, .sta (.t 2) (.t 7) 522⟩,
 qo 3 (.mov (c6 1))])
 .ret)
 .skip))
 (.seq (.drs [0, 1, 0, 4, 0, 16, 0, 64, 192, 448, 1023, 2047, 4095]
 [(0, false, qo 8 (.add (.t 1) 0)),
 (1, false, qp 9 (.ld1 (.t 8))),
 (2, false, qo 10 (.add (.t 1) 1)),
 (3, false, qp 11 (.ld1 (.t 10))),
 (4, false, qo 12 (.add (.t 1) 2)),
 (5, false, ql 13 12 0 8),
 (6, false, qo 14 (.add (.t 1) 10)),
 (7, false, ql 15 14 0 512),
 (8, false, qp 16 (.calp 210 [(.t 15)])),
 (9, false, qp 17 (.calp 210 [(.t 16)])),
 (10, false, qo 18 (.bld 2 522 [(0, 1, (.t 9)), (1, 1, (.t 11)), (2, 8, (.t 13)), (10, 512, (.t 17))])),
 (11, false, ⟨none, none, .sta (.t 2) (.t 18) 522⟩),
 (12, false, qo 3 (.mov (c6 0)))])
 .ret)))⟩
def qf_s_l02Draw : QF := ⟨1, 74, [.c 2 2 522],
 (.seq (.reg [qo 2 (.alo (.by 2 522))])
 (.seq (.seq (.reg [qm 10 0,
 qp 11 (.call 195 [(.t 10), (c6 4)])])
 (.blk 0
 (.seq (.reg [qo 13 (.bin .eql (.t 11) (c6 0)),
 qm 12 13])
 (.cond (.t 12)
 (.seq (.reg [qm 14 0,
 qp 15 (.call 206 [(.t 14)]),
 qm 16 0,
 qp 17 (.call 195 [(.t 16), (c6 6)]),
 qo 18 (.bin .add (c6 1) (.t 17)),
 qo 19 (.bld 2 522 [(0, 1, (.t 15)), (1, 1, (.t 18))]),
 qo 3 (.alo (.by 2 522)),
 ⟨none, none, .sta (.t 3) (.t 19) 522⟩])
 (.seq (.seq (.reg [qo 4 (.mov (c6 0))])
 (.blk 1
 (.loop
 (.seq (.seq (.reg [qm 20 4,
 qo 21 (.add (.t 3) 1),
 qp 22 (.ld1 (.t 21)),
 qo 23 (.bin .lss (.t 20) (.t 22))])
 (.cond (.t 23)
 .skip
 (.exit 1)))
 (.seq (.blk 2
 (.seq (.reg [qm 26 4,
 qo 27 (.add (.t 3) 2),
 qo 28 (.idx (.t 27) (.t 26) 8 1),
 ⟨none, none, .st1 (.t 28) (.c (.u 1))⟩])
 (.reg [qm 29 4,
 qm 30 4,
 qm 31 4,
 qo 32 (.add (.t 3) 10),
 qo 33 (.idx (.t 32) (.t 29) 8 64),
 qo 34 (.idx (.t 33) (.t 30) 8 8),
 qo 35 (.idx (.t 34) (.t 31) 8 1),
 ⟨none, none, .st1 (.t 35) (.c (.u 1))⟩])))
 (.reg [qm 24 4,
 qo 25 (.bin .add (.t 24) (c6 1)),
 qm 4 25]))))))
 (.seq (.reg [ql 36 3 2 522,
 ⟨none, none, .sta (.t 2) (.t 36) 522⟩])
 .ret)))
 (.seq (.reg [qo 38 (.bin .eql (.t 11) (c6 1)),
 qm 37 38])
 (.cond (.t 37)
 (.seq (.reg [qm 39 0,
 qp 40 (.call 206 [(.t 39)]),
 qm 41 0,
 qp 42 (.call 195 [(.t 41), (c6 6)]),
 qo 43 (.bin .add (c6 1) (.t 42)),
 qo 44 (.bld 0 8 [(0, 1, (.c (.u 1)))]),
 qo 45 (.bld 2 522 [(0, 1, (.t 40)), (1, 1, (.t 43)), (2, 8, (.t 44))]),
 qo 5 (.alo (.by 2 522)),
 ⟨none, none, .sta (.t 5) (.t 45) 522⟩])
 (.seq (.seq (.reg [qo 6 (.mov (c6 0))])
 (.blk 3
 (.loop
 (.seq (.seq (.reg [qm 46 6,
 qo 47 (.add (.t 5) 1),
 qp 48 (.ld1 (.t 47)),
 qo 49 (.bin .lss (.t 46) (.t 48))])
 (.cond (.t 49)
 .skip
 (.exit 3)))
 (.seq (.blk 4
 (.seq (.reg [qo 7 (.mov (c6 0))])
 (.blk 5
 (.loop
 (.seq (.seq (.reg [qm 52 7,
 qm 53 6,
 qo 54 (.bin .leq (.t 52) (.t 53))])
 (.cond (.t 54)
 .skip
 (.exit 5)))
 (.seq (.blk 6
 (.reg [qm 57 6,
 qm 58 7,
 qm 59 6,
 qm 60 7,
 qo 61 (.bin .sub (.t 59) (.t 60)),
 qo 62 (.add (.t 5) 10),
 qo 63 (.idx (.t 62) (.t 57) 8 64),
 qo 64 (.idx (.t 63) (.t 58) 8 8),
 qo 65 (.idx (.t 64) (.t 61) 8 1),
 ⟨none, none, .st1 (.t 65) (.c (.u 1))⟩]))
 (.reg [qm 55 7,
 qo 56 (.bin .add (.t 55) (c6 1)),
 qm 7 56])))))))
 (.reg [qm 50 6,
 qo 51 (.bin .add (.t 50) (c6 1)),
 qm 6 51]))))))
 (.seq (.reg [ql 66 5 2 522,
 ⟨none, none, .sta (.t 2) (.t 66) 522⟩])
 .ret)))
 .skip))))))
 (.seq (.reg [qm 68 0,
 qp 69 (.call 203 [(.t 68)]),
 qp 70 (.calp 207 [(.t 69)]),
 qm 67 70,
 qo 71 (.ext (.t 67) 0),
 qo 72 (.ext (.t 67) 1),
 qo 8 (.alo (.by 2 522)),
 ⟨none, none, .sta (.t 8) (.t 71) 522⟩,
 qm 9 72])
 (.seq (.reg [ql 73 8 2 522,
 ⟨none, none, .sta (.t 2) (.t 73) 522⟩])
 .ret))))⟩
def qf_s_l02Bad : QF := ⟨2, 47, [.c 4 2 522],
 (.seq (.reg [qo 3 (.box (.t 1)),
 qo 4 (.alo (.by 2 522))])
 (.seq (.seq (.reg [qm 5 0,
 qp 6 (.call 195 [(.t 5), (c6 40)])])
 (.blk 0
 (.seq (.reg [qo 8 (.bin .eql (.t 6) (c6 0)),
 qm 7 8])
 (.cond (.t 7)
 (.reg [qm 9 0,
 qo 10 (.bsa [(c6 0), (c6 4), (c6 37)]),
 qp 11 (.call 205 [(.t 9), (.t 10)]),
 qo 12 (.add (.t 3) 0),
 ⟨none, none, .st1 (.t 12) (.t 11)⟩])
 (.seq (.reg [qo 14 (.bin .eql (.t 6) (c6 1)),
 qm 13 14])
 (.cond (.t 13)
 (.reg [qm 15 0,
 qo 16 (.add (.t 3) 1),
 qp 17 (.ld1 (.t 16)),
 qo 18 (.bin .sub (.t 17) (c6 1)),
 qo 19 (.bsa [(c6 0), (c6 9), (.t 18)]),
 qp 20 (.call 205 [(.t 15), (.t 19)]),
 qo 21 (.add (.t 3) 1),
 ⟨none, none, .st1 (.t 21) (.t 20)⟩])
 (.seq (.reg [qo 23 (.bin .eql (.t 6) (c6 2)),
 qm 22 23])
 (.cond (.t 22)
 (.drs [0, 1, 0, 7, 0, 31, 0, 127, 255, 0, 515, 1551, 4095, 8191]
 [(0, false, qm 24 0),
 (2, false, qm 26 0),
 (4, false, qm 28 0),
 (6, false, qm 30 0),
 (9, false, qo 33 (.add (.t 3) 10)),
 (1, false, qp 25 (.call 195 [(.t 24), (c6 4)])),
 (10, false, qo 34 (.idx (.t 33) (.t 25) 8 64)),
 (3, false, qp 27 (.call 195 [(.t 26), (c6 4)])),
 (11, false, qo 35 (.idx (.t 34) (.t 27) 8 8)),
 (5, false, qp 29 (.call 195 [(.t 28), (c6 4)])),
 (7, false, qp 31 (.call 195 [(.t 30), (c6 3)])),
 (8, false, qo 32 (.cvt .u8 (.t 31))),
 (12, false, qo 36 (.idx (.t 35) (.t 29) 8 1)),
 (13, false, ⟨none, none, .st1 (.t 36) (.t 32)⟩)])
 (.seq (.reg [qo 38 (.bin .eql (.t 6) (c6 3)),
 qm 37 38])
 (.cond (.t 37)
 (.reg [qm 39 0,
 qp 40 (.call 195 [(.t 39), (c6 8)]),
 qm 41 0,
 qp 42 (.call 195 [(.t 41), (c6 3)]),
 qo 43 (.cvt .u8 (.t 42)),
 qo 44 (.add (.t 3) 2),
 qo 45 (.idx (.t 44) (.t 40) 8 1),
 ⟨none, none, .st1 (.t 45) (.t 43)⟩])
 .skip))))))))))
 (.seq (.reg [ql 46 3 2 522,
 ⟨none, none, .sta (.t 4) (.t 46) 522⟩])
 .ret)))⟩
def qf_s_l02Spoil : QF := ⟨1, 7, [.c 2 2 522],
 (.seq (.reg [qo 2 (.alo (.by 2 522))])
 (.seq (.reg [qm 3 0,
 qm 4 0,
 qp 5 (.call 201 [(.t 4)]),
 qp 6 (.call 202 [(.t 3), (.t 5)]),
 ⟨none, none, .sta (.t 2) (.t 6) 522⟩])
 .ret))⟩
def qf_s_l01DrawVector : QF := ⟨3, 31, [.c 6 0 8],
 (.seq (.reg [qo 6 (.alo (.by 0 8))])
 (.seq (.reg [qo 9 (.bld 0 8 []),
 qo 7 (.alo (.by 0 8)),
 ⟨none, none, .sta (.t 7) (.t 9) 8⟩])
 (.seq (.seq (.reg [qo 8 (.mov (c6 0))])
 (.blk 0
 (.loop
 (.seq (.seq (.reg [qm 10 8,
 qm 11 2,
 qo 12 (.bin .lss (.t 10) (.t 11)),
 qm 13 12,
 ⟨(some 14), (some (13, true)), .o (.mov (.t 8))⟩,
 ⟨(some 15), (some (13, true)), .o (.bin .lss (.t 14) (c6 8))⟩,
 qo 16 (.pick (.t 13) (.t 15) (.c (.b false)))])
 (.cond (.t 16)
 .skip
 (.exit 0)))
 (.seq (.blk 1
 (.seq (.reg [qm 19 0,
 qp 20 (.call 195 [(.t 19), (c6 2)]),
 qo 21 (.bin .eql (.t 20) (c6 0))])
 (.cond (.t 21)
 (.reg [qm 22 8,
 qm 23 0,
 qm 24 1,
 qp 25 (.mxm false (.t 24) (c6 1)),
 qp 26 (.mxm true (.t 25) (c6 255)),
 qp 27 (.call 195 [(.t 23), (.t 26)]),
 qo 28 (.cvt .u8 (.t 27)),
 qo 29 (.idx (.t 7) (.t 22) 8 1),
 ⟨none, none, .st1 (.t 29) (.t 28)⟩])
 .skip)))
 (.reg [qm 17 8,
 qo 18 (.bin .add (.t 17) (c6 1)),
 qm 8 18]))))))
 (.seq (.reg [ql 30 7 0 8,
 ⟨none, none, .sta (.t 6) (.t 30) 8⟩])
 .ret))))⟩
def qf_s_l02Any : QF := ⟨2, 23, [.c 4 0 8],
 (.seq (.reg [qo 3 (.box (.t 1)),
 qo 4 (.alo (.by 0 8))])
 (.seq (.reg [qm 6 0,
 qo 7 (.add (.t 3) 0),
 qp 8 (.ld1 (.t 7)),
 qo 9 (.add (.t 3) 1),
 qp 10 (.ld1 (.t 9)),
 qp 11 (.call 198 [(.t 6), (.t 8), (.t 10)]),
 qo 5 (.alo (.by 0 8)),
 ⟨none, none, .sta (.t 5) (.t 11) 8⟩])
 (.seq (.seq (.reg [qm 12 0,
 qp 13 (.call 195 [(.t 12), (c6 30)]),
 qo 14 (.bin .eql (.t 13) (c6 0))])
 (.cond (.t 14)
 (.reg [qm 15 0,
 qp 16 (.call 195 [(.t 15), (c6 8)]),
 qm 17 0,
 qo 18 (.bsa [(c6 1), (c6 31), (c6 255)]),
 qp 19 (.call 205 [(.t 17), (.t 18)]),
 qo 20 (.cvt .u8 (.t 19)),
 qo 21 (.idx (.t 5) (.t 16) 8 1),
 ⟨none, none, .st1 (.t 21) (.t 20)⟩])
 .skip))
 (.seq (.reg [ql 22 5 0 8,
 ⟨none, none, .sta (.t 4) (.t 22) 8⟩])
 .ret))))⟩
def qf_s_l02One : QF := ⟨1, 28, [.c 2 2 522, .c 3 0 8],
 (.seq (.reg [qo 2 (.alo (.by 2 522)),
 qo 3 (.alo (.by 0 8))])
 (.seq (.reg [qm 6 0,
 qp 7 (.call 186 [(.t 6)]),
 qm 4 7])
 (.seq (.reg [qm 8 4,
 qp 9 (.call 193 [(.t 8)]),
 qo 5 (.alo (.by 2 522)),
 ⟨none, none, .sta (.t 5) (.t 9) 522⟩])
 (.seq (.seq (.reg [qm 10 4,
 qp 11 (.call 195 [(.t 10), (c6 3)]),
 qo 12 (.bin .eql (.t 11) (c6 0)),
 qm 13 12,
 ⟨(some 14), (some (13, true)), .o (.add (.t 5) 1)⟩,
 ⟨(some 15), (some (13, true)), .ld1 (.t 14)⟩,
 ⟨(some 16), (some (13, true)), .calp 96 [(.t 15), (c6 1), (c6 8)]⟩,
 qo 17 (.pick (.t 13) (.t 16) (.c (.b false)))])
 (.cond (.t 17)
 (.seq (.drs [0, 0, 0, 4, 14, 30, 63, 127]
 [(0, true, ql 18 5 2 522),
 (1, false, qm 19 4),
 (2, false, qo 20 (.add (.t 5) 1)),
 (3, false, qp 21 (.ld1 (.t 20))),
 (4, false, qp 22 (.call 195 [(.t 19), (.t 21)])),
 (5, false, qp 23 (.calp 55 [(.t 22)])),
 (6, true, ⟨none, none, .sta (.t 2) (.t 18) 522⟩),
 (7, true, ⟨none, none, .sta (.t 3) (.t 23) 8⟩)])
 .ret)
 .skip))
 (.seq (.drs [0, 0, 0, 6, 15, 31]
 [(0, true, ql 24 5 2 522),
 (1, false, qm 25 4),
 (2, false, ql 26 5 2 522),
 (3, false, qp 27 (.call 422 [(.t 25), (.t 26)])),
 (4, true, ⟨none, none, .sta (.t 2) (.t 24) 522⟩),
 (5, true, ⟨none, none, .sta (.t 3) (.t 27) 8⟩)])
 .ret)))))⟩
def qf_s_DrawIsGroupLike : QF := ⟨1, 8, [.c 2 2 522, .c 3 0 8],
 (.seq (.reg [qo 2 (.alo (.by 2 522)),
 qo 3 (.alo (.by 0 8))])
 (.seq (.reg [qm 4 0,
 qp 5 (.call 415 [(.t 4)]),
 qo 6 (.ext (.t 5) 0),
 qo 7 (.ext (.t 5) 1),
 ⟨none, none, .sta (.t 2) (.t 6) 522⟩,
 ⟨none, none, .sta (.t 3) (.t 7) 8⟩])
 .ret))⟩
def qf_s_l02Code : QF := ⟨2, 25, [.t 4],
 (.seq (.reg [qo 2 (.box (.t 0)),
 qo 4 (.mov (c6 0))])
 (.seq (.seq (.reg [ql 6 2 2 522,
 qp 7 (.calp 77 [(.t 6)]),
 qo 8 (.nt (.t 7))])
 (.cond (.t 8)
 (.seq (.reg [qo 4 (.mov (c6 1))])
 .ret)
 .skip))
 (.seq (.seq (.reg [qo 5 (.mov (c6 0))])
 (.blk 0
 (.loop
 (.seq (.seq (.reg [qm 9 5,
 qm 10 1,
 qp 11 (.len (.t 10)),
 qo 12 (.bin .lss (.t 9) (.t 11))])
 (.cond (.t 12)
 .skip
 (.exit 0)))
 (.seq (.blk 1
 (.seq (.drs [0, 1, 0, 4, 0, 0, 48, 112, 255, 511]
 [(0, false, qo 15 (.add (.t 2) 0)),
 (1, false, qp 16 (.ld1 (.t 15))),
 (2, false, qo 17 (.add (.t 2) 1)),
 (3, false, qp 18 (.ld1 (.t 17))),
 (4, false, qm 19 1),
 (5, false, qm 20 5),
 (6, false, qp 21 (.ids (.t 19) (.t 20) 8)),
 (7, false, ql 22 21 0 8),
 (8, false, qp 23 (.calp 53 [(.t 16), (.t 18), (.t 22)])),
 (9, false, qo 24 (.nt (.t 23)))])
 (.cond (.t 24)
 (.seq (.reg [qo 4 (.mov (c6 1))])
 .ret)
 .skip)))
 (.reg [qm 13 5,
 qo 14 (.bin .add (.t 13) (c6 1)),
 qm 5 14]))))))
 (.seq (.reg [qo 4 (.mov (c6 0))])
 .ret))))⟩
def qf_s_l02Counit : QF := ⟨2, 27, [.t 4],
 (.seq (.reg [qo 2 (.box (.t 0)),
 qo 3 (.box (.t 1)),
 qo 4 (.mov (c6 0))])
 (.seq (.reg [qo 5 (.mov (c6 0))])
 (.seq (.seq (.reg [qo 6 (.mov (c6 0))])
 (.blk 0
 (.loop
 (.seq (.seq (.reg [qm 7 6,
 qo 8 (.bin .lss (.t 7) (c6 8))])
 (.cond (.t 8)
 .skip
 (.exit 0)))
 (.seq (.blk 1
 (.drs [0, 0, 2, 6, 14, 0, 0, 96, 224, 480, 1022, 2047, 4095]
 [(0, false, qm 11 5),
 (1, false, qm 12 6),
 (2, false, qo 13 (.idx (.t 3) (.t 12) 8 1)),
 (3, false, qp 14 (.ld1 (.t 13))),
 (4, false, qo 15 (.cvt .i64 (.t 14))),
 (5, false, qm 16 6),
 (6, false, qo 17 (.add (.t 2) 2)),
 (7, false, qo 18 (.idx (.t 17) (.t 16) 8 1)),
 (8, false, qp 19 (.ld1 (.t 18))),
 (9, false, qo 20 (.cvt .i64 (.t 19))),
 (10, false, qo 21 (.bin .mul (.t 15) (.t 20))),
 (11, false, qo 22 (.bin .add (.t 11) (.t 21))),
 (12, false, qm 5 22)]))
 (.reg [qm 9 6,
 qo 10 (.bin .add (.t 9) (c6 1)),
 qm 6 10]))))))
 (.seq (.reg [qm 23 5,
 qo 24 (.add (.t 2) 0),
 qp 25 (.ld1 (.t 24)),
 qo 26 (.bin .rem (.t 23) (.t 25)),
 qm 4 26])
 .ret))))⟩
def qf_s_l02Coproduct : QF := ⟨2, 40, [.c 4 0 64],
 (.seq (.reg [qo 2 (.box (.t 0)),
 qo 3 (.box (.t 1)),
 qo 4 (.alo (.by 0 64))])
 (.seq (.reg [qo 8 (.bld 0 64 []),
 qo 5 (.alo (.by 0 64)),
 ⟨none, none, .sta (.t 5) (.t 8) 64⟩])
 (.seq (.seq (.reg [qo 6 (.mov (c6 0))])
 (.blk 0
 (.loop
 (.seq (.seq (.reg [qm 9 6,
 qo 10 (.add (.t 2) 1),
 qp 11 (.ld1 (.t 10)),
 qo 12 (.bin .lss (.t 9) (.t 11))])
 (.cond (.t 12)
 .skip
 (.exit 0)))
 (.seq (.blk 1
 (.seq (.reg [qo 7 (.mov (c6 0))])
 (.blk 2
 (.loop
 (.seq (.seq (.reg [qm 15 7,
 qo 16 (.add (.t 2) 1),
 qp 17 (.ld1 (.t 16)),
 qo 18 (.bin .lss (.t 15) (.t 17))])
 (.cond (.t 18)
 .skip
 (.exit 2)))
 (.seq (.blk 3
 (.drs [0, 0, 2, 0, 8, 24, 0, 0, 0, 320, 960, 1984, 0, 4096, 12288, 28672, 65534, 131071, 262143]
 [(0, false, qm 21 7),
 (1, false, qo 22 (.add (.t 2) 0)),
 (2, false, qp 23 (.ld1 (.t 22))),
 (3, false, qm 24 7),
 (4, false, qo 25 (.idx (.t 5) (.t 24) 8 8)),
 (5, false, ql 26 25 0 8),
 (6, false, qm 27 6),
 (7, false, qm 28 7),
 (8, false, qo 29 (.add (.t 2) 10)),
 (9, false, qo 30 (.idx (.t 29) (.t 27) 8 64)),
 (10, false, qo 31 (.idx (.t 30) (.t 28) 8 8)),
 (11, false, ql 32 31 0 8),
 (12, false, qm 33 6),
 (13, false, qo 34 (.idx (.t 3) (.t 33) 8 1)),
 (14, false, qp 35 (.ld1 (.t 34))),
 (15, false, qo 36 (.cvt .i64 (.t 35))),
 (16, false, qp 37 (.calp 57 [(.t 23), (.t 26), (.t 32), (.t 36)])),
 (17, false, qo 38 (.idx (.t 5) (.t 21) 8 8)),
 (18, false, ⟨none, none, .sta (.t 38) (.t 37) 8⟩)]))
 (.reg [qm 19 7,
 qo 20 (.bin .add (.t 19) (c6 1)),
 qm 7 20])))))))
 (.reg [qm 13 6,
 qo 14 (.bin .add (.t 13) (c6 1)),
 qm 6 14]))))))
 (.seq (.reg [ql 39 5 0 64,
 ⟨none, none, .sta (.t 4) (.t 39) 64⟩])
 .ret))))⟩
def qf_s_l02Outer : QF := ⟨3, 25, [.c 6 0 64],
 (.seq (.reg [qo 4 (.box (.t 1)),
 qo 5 (.box (.t 2)),
 qo 6 (.alo (.by 0 64))])
 (.seq (.reg [qo 9 (.bld 0 64 []),
 qo 7 (.alo (.by 0 64)),
 ⟨none, none, .sta (.t 7) (.t 9) 64⟩])
 (.seq (.seq (.reg [qo 8 (.mov (c6 0))])
 (.blk 0
 (.loop
 (.seq (.seq (.reg [qm 10 8,
 qo 11 (.bin .lss (.t 10) (c6 8))])
 (.cond (.t 11)
 .skip
 (.exit 0)))
 (.seq (.blk 1
 (.drs [0, 0, 0, 0, 0, 16, 48, 112, 254, 511, 1023]
 [(0, false, qm 14 8),
 (1, false, qm 15 0),
 (2, false, qo 16 (.bld 0 8 [])),
 (3, false, ql 17 5 0 8),
 (4, false, qm 18 8),
 (5, false, qo 19 (.idx (.t 4) (.t 18) 8 1)),
 (6, false, qp 20 (.ld1 (.t 19))),
 (7, false, qo 21 (.cvt .i64 (.t 20))),
 (8, false, qp 22 (.calp 57 [(.t 15), (.t 16), (.t 17), (.t 21)])),
 (9, false, qo 23 (.idx (.t 7) (.t 14) 8 8)),
 (10, false, ⟨none, none, .sta (.t 23) (.t 22) 8⟩)]))
 (.reg [qm 12 8,
 qo 13 (.bin .add (.t 12) (c6 1)),
 qm 8 13]))))))
 (.seq (.reg [ql 24 7 0 64,
 ⟨none, none, .sta (.t 6) (.t 24) 64⟩])
 .ret))))⟩
def qf_s_l02Group : QF := ⟨2, 20, [.t 4],
 (.seq (.reg [qo 2 (.box (.t 0)),
 qo 3 (.box (.t 1)),
 qo 4 (.mov (.c (.b false)))])
 (.seq (.drs [0, 0, 3, 7, 15, 31, 31, 127, 31, 287, 31, 31, 4095, 8191, 16383, 32767]
 [(0, false, ql 5 2 2 522),
 (1, false, ql 6 3 0 8),
 (2, false, qp 7 (.calp 429 [(.t 5), (.t 6)])),
 (3, false, qo 8 (.bin .eql (.t 7) (c6 1))),
 (4, false, qm 9 8),
 (5, false, ⟨(some 10), (some (9, true)), .lda (.t 2) 2 522⟩),
 (6, false, ⟨(some 11), (some (9, true)), .lda (.t 3) 0 8⟩),
 (7, false, ⟨(some 12), (some (9, true)), .calp 430 [(.t 10), (.t 11)]⟩),
 (8, false, ⟨(some 13), (some (9, true)), .o (.add (.t 2) 0)⟩),
 (9, false, ⟨(some 14), (some (9, true)), .ld1 (.t 13)⟩),
 (10, false, ⟨(some 15), (some (9, true)), .lda (.t 3) 0 8⟩),
 (11, false, ⟨(some 16), (some (9, true)), .lda (.t 3) 0 8⟩),
 (12, false, ⟨(some 17), (some (9, true)), .calp 431 [(.t 14), (.t 15), (.t 16)]⟩),
 (13, false, ⟨(some 18), (some (9, true)), .o (.eqa false 64 (.t 12) (.t 17))⟩),
 (14, false, qo 19 (.pick (.t 9) (.t 18) (.c (.b false)))),
 (15, false, qm 4 19)])
 .ret))⟩
def qf_s_IsGroupLike : QF := ⟨2, 17, [.t 4, .t 5],
 (.seq (.reg [qo 2 (.box (.t 0)),
 qo 3 (.box (.t 1)),
 qo 4 (.mov (.c (.b false))),
 qo 5 (.mov (c6 0))])
 (.seq (.seq (.reg [ql 7 2 2 522,
 ql 8 3 0 8,
 qo 9 (.bsb 8 [(.t 8)]),
 qp 10 (.call 416 [(.t 7), (.t 9)]),
 qm 6 10])
 (.seq (.reg [qm 11 6,
 qo 12 (.bin .neq (.t 11) (c6 0))])
 (.cond (.t 12)
 (.seq (.reg [qm 13 6,
 qo 4 (.mov (.c (.b false))),
 qm 5 13])
 .ret)
 .skip)))
 (.seq (.reg [ql 14 2 2 522,
 ql 15 3 0 8,
 qp 16 (.calp 417 [(.t 14), (.t 15)]),
 qm 4 16,
 qo 5 (.mov (c6 0))])
 .ret)))⟩
def qf_s_DrawGroupLikes : QF := ⟨1, 6, [.c 2 2 522],
 (.seq (.reg [qo 2 (.alo (.by 2 522))])
 (.seq (.reg [qm 3 0,
 qp 4 (.call 186 [(.t 3)]),
 qp 5 (.call 193 [(.t 4)]),
 ⟨none, none, .sta (.t 2) (.t 5) 522⟩])
 .ret))⟩
def qf_s_l02Count : QF := ⟨2, 19, [.t 4],
 (.seq (.reg [qo 4 (.mov (c6 0))])
 (.seq (.reg [qo 5 (.mov (c6 1))])
 (.seq (.blk 0
 (.loop
 (.seq (.seq (.reg [qm 6 1,
 qo 7 (.bin .gtr (.t 6) (c6 0)),
 qm 8 7,
 ⟨(some 9), (some (8, true)), .o (.mov (.t 5))⟩,
 ⟨(some 10), (some (8, true)), .o (.bin .leq (.t 9) (c6 5000))⟩,
 qo 11 (.pick (.t 8) (.t 10) (.c (.b false)))])
 (.cond (.t 11)
 .skip
 (.exit 0)))
 (.seq (.blk 1
 (.reg [qm 14 5,
 qm 15 0,
 qo 16 (.bin .mul (.t 14) (.t 15)),
 qm 5 16]))
 (.reg [qm 12 1,
 qo 13 (.bin .sub (.t 12) (c6 1)),
 qm 1 13])))))
 (.seq (.reg [qm 17 5,
 qp 18 (.mxm true (.t 17) (c6 5001)),
 qm 4 18])
 .ret))))⟩
def qf_s_l02Groups : QF := ⟨1, 54, [.t 2],
 (.seq (.reg [qo 1 (.box (.t 0)),
 qo 2 (.mov (.c .sn))])
 (.seq (.reg [qo 9 (.bsb 8 []),
 qo 10 (.add (.t 1) 0),
 qp 11 (.ld1 (.t 10)),
 qo 12 (.add (.t 1) 1),
 qp 13 (.ld1 (.t 12)),
 qp 14 (.calp 420 [(.t 11), (.t 13)]),
 qm 3 9,
 qm 4 14])
 (.seq (.seq (.reg [qo 5 (.mov (c6 0))])
 (.blk 0
 (.loop
 (.seq (.seq (.reg [qm 15 5,
 qm 16 4,
 qo 17 (.bin .lss (.t 15) (.t 16))])
 (.cond (.t 17)
 .skip
 (.exit 0)))
 (.seq (.blk 1
 (.seq (.reg [qo 20 (.bld 0 8 []),
 qm 21 5,
 qo 6 (.alo (.by 0 8)),
 ⟨none, none, .sta (.t 6) (.t 20) 8⟩,
 qm 7 21])
 (.seq (.seq (.reg [qo 22 (.add (.t 1) 1),
 qp 23 (.ld1 (.t 22)),
 qo 24 (.bin .sub (.t 23) (c6 1)),
 qm 8 24])
 (.blk 2
 (.loop
 (.seq (.seq (.reg [qm 25 8,
 qo 26 (.bin .geq (.t 25) (c6 0))])
 (.cond (.t 26)
 .skip
 (.exit 2)))
 (.seq (.blk 3
 (.seq (.reg [qm 29 8,
 qm 30 7,
 qo 31 (.add (.t 1) 0),
 qp 32 (.ld1 (.t 31)),
 qo 33 (.bin .rem (.t 30) (.t 32)),
 qo 34 (.cvt .u8 (.t 33)),
 qo 35 (.idx (.t 6) (.t 29) 8 1),
 ⟨none, none, .st1 (.t 35) (.t 34)⟩])
 (.reg [qm 36 7,
 qo 37 (.add (.t 1) 0),
 qp 38 (.ld1 (.t 37)),
 qo 39 (.bin .quo (.t 36) (.t 38)),
 qm 7 39])))
 (.reg [qm 27 8,
 qo 28 (.bin .sub (.t 27) (c6 1)),
 qm 8 28]))))))
 (.seq (.reg [ql 40 1 2 522,
 ql 41 6 0 8,
 qp 42 (.calp 429 [(.t 40), (.t 41)]),
 qo 43 (.bin .eql (.t 42) (c6 1)),
 qm 44 43,
 ⟨(some 45), (some (44, true)), .lda (.t 1) 2 522⟩,
 ⟨(some 46), (some (44, true)), .lda (.t 6) 0 8⟩,
 ⟨(some 47), (some (44, true)), .calp 417 [(.t 45), (.t 46)]⟩,
 qo 48 (.pick (.t 44) (.t 47) (.c (.b false)))])
 (.cond (.t 48)
 (.reg [qm 49 3,
 ql 50 6 0 8,
 qo 51 (.bsb 8 [(.t 50)]),
 qp 52 (.apb 8 8 (.t 49) (.t 51)),
 qm 3 52])
 .skip)))))
 (.reg [qm 18 5,
 qo 19 (.bin .add (.t 18) (c6 1)),
 qm 5 19]))))))
 (.seq (.reg [qm 53 3,
 qm 2 53])
 .ret))))⟩
def qf_s_GroupLikes : QF := ⟨1, 17, [.t 2, .t 3],
 (.seq (.reg [qo 1 (.box (.t 0)),
 qo 2 (.mov (.c .sn)),
 qo 3 (.mov (c6 0))])
 (.seq (.blk 0
 (.seq (.reg [ql 5 1 2 522,
 qp 6 (.calp 77 [(.t 5)]),
 qo 7 (.nt (.t 6)),
 qm 4 7])
 (.cond (.t 4)
 (.seq (.reg [qo 2 (.mov (.c .sn)),
 qo 3 (.mov (c6 1))])
 .ret)
 (.seq (.reg [qo 9 (.add (.t 1) 0),
 qp 10 (.ld1 (.t 9)),
 qo 11 (.add (.t 1) 1),
 qp 12 (.ld1 (.t 11)),
 qp 13 (.calp 420 [(.t 10), (.t 12)]),
 qo 14 (.bin .gtr (.t 13) (c6 5000)),
 qm 8 14])
 (.cond (.t 8)
 (.seq (.reg [qo 2 (.mov (.c .sn)),
 qo 3 (.mov (c6 3))])
 .ret)
 .skip)))))
 (.seq (.reg [ql 15 1 2 522,
 qp 16 (.call 421 [(.t 15)]),
 qm 2 16,
 qo 3 (.mov (c6 0))])
 .ret)))⟩
def qf_l_vectors9 : QF := ⟨2, 26, [.t 4],
 (.seq (.reg [qo 4 (.mov (.c (.b false)))])
 (.seq (.seq (.reg [qm 6 0,
 qp 7 (.len (.t 6)),
 qm 8 1,
 qp 9 (.len (.t 8)),
 qo 10 (.bin .neq (.t 7) (.t 9))])
 (.cond (.t 10)
 (.seq (.reg [qo 4 (.mov (.c (.b false)))])
 .ret)
 .skip))
 (.seq (.seq (.reg [qo 5 (.mov (c6 0))])
 (.blk 0
 (.loop
 (.seq (.seq (.reg [qm 11 5,
 qm 12 0,
 qp 13 (.len (.t 12)),
 qo 14 (.bin .lss (.t 11) (.t 13))])
 (.cond (.t 14)
 .skip
 (.exit 0)))
 (.seq (.blk 1
 (.seq (.drs [0, 0, 3, 7, 0, 0, 48, 112, 255]
 [(0, false, qm 17 0),
 (1, false, qm 18 5),
 (2, false, qp 19 (.ids (.t 17) (.t 18) 8)),
 (3, false, ql 20 19 0 8),
 (4, false, qm 21 1),
 (5, false, qm 22 5),
 (6, false, qp 23 (.ids (.t 21) (.t 22) 8)),
 (7, false, ql 24 23 0 8),
 (8, false, qo 25 (.eqa true 8 (.t 20) (.t 24)))])
 (.cond (.t 25)
 (.seq (.reg [qo 4 (.mov (.c (.b false)))])
 .ret)
 .skip)))
 (.reg [qm 15 5,
 qo 16 (.bin .add (.t 15) (c6 1)),
 qm 5 16]))))))
 (.seq (.reg [qo 4 (.mov (.c (.b true)))])
 .ret))))⟩
def qf_s_DrawPrimitiveSpace : QF := ⟨1, 52, [.c 2 2 522, .c 3 0 8, .c 4 0 8],
 (.seq (.reg [qo 2 (.alo (.by 2 522)),
 qo 3 (.alo (.by 0 8)),
 qo 4 (.alo (.by 0 8))])
 (.seq (.reg [qm 9 0,
 qp 10 (.call 186 [(.t 9)]),
 qm 5 10])
 (.seq (.reg [qm 11 5,
 qp 12 (.call 193 [(.t 11)]),
 qo 6 (.alo (.by 2 522)),
 ⟨none, none, .sta (.t 6) (.t 12) 522⟩])
 (.seq (.seq (.reg [ql 14 6 2 522,
 qp 15 (.call 400 [(.t 14)]),
 qm 13 15,
 qo 16 (.ext (.t 13) 0),
 qo 17 (.ext (.t 13) 1),
 qm 7 16,
 qm 8 17])
 (.seq (.reg [qm 18 8,
 qo 19 (.bin .eql (.t 18) (c6 0)),
 qm 20 19,
 ⟨(some 21), (some (20, true)), .o (.mov (.t 7))⟩,
 ⟨(some 22), (some (20, true)), .len (.t 21)⟩,
 ⟨(some 23), (some (20, true)), .o (.bin .gtr (.t 22) (c6 0))⟩,
 qo 24 (.pick (.t 20) (.t 23) (.c (.b false))),
 qm 25 24,
 ⟨(some 26), (some (25, true)), .o (.mov (.t 5))⟩,
 ⟨(some 27), (some (25, true)), .call 195 [(.t 26), (c6 5)]⟩,
 ⟨(some 28), (some (25, true)), .o (.bin .gtr (.t 27) (c6 0))⟩,
 qo 29 (.pick (.t 25) (.t 28) (.c (.b false)))])
 (.cond (.t 29)
 (.seq (.drs [0, 0, 0, 0, 8, 28, 62, 126, 0, 0, 0, 1024, 3644, 7996, 16188, 7741, 40703, 131071]
 [(0, true, ql 30 6 2 522),
 (1, false, qm 31 7),
 (2, false, qm 32 5),
 (3, false, qm 33 7),
 (4, false, qp 34 (.len (.t 33))),
 (8, false, qm 38 7),
 (9, false, qm 39 5),
 (10, false, qm 40 7),
 (11, false, qp 41 (.len (.t 40))),
 (5, false, qp 35 (.call 195 [(.t 32), (.t 34)])),
 (6, false, qp 36 (.ids (.t 31) (.t 35) 8)),
 (7, true, ql 37 36 0 8),
 (12, false, qp 42 (.call 195 [(.t 39), (.t 41)])),
 (13, false, qp 43 (.ids (.t 38) (.t 42) 8)),
 (14, true, ql 44 43 0 8),
 (15, false, ⟨none, none, .sta (.t 2) (.t 30) 522⟩),
 (16, false, ⟨none, none, .sta (.t 3) (.t 37) 8⟩),
 (17, true, ⟨none, none, .sta (.t 4) (.t 44) 8⟩)])
 .ret)
 .skip)))
 (.seq (.drs [0, 0, 0, 6, 0, 0, 62, 127, 255, 511]
 [(0, true, ql 45 6 2 522),
 (1, false, qm 46 5),
 (2, false, ql 47 6 2 522),
 (4, false, qm 49 5),
 (5, true, ql 50 6 2 522),
 (3, false, qp 48 (.call 422 [(.t 46), (.t 47)])),
 (6, false, qp 51 (.call 422 [(.t 49), (.t 50)])),
 (7, true, ⟨none, none, .sta (.t 2) (.t 45) 522⟩),
 (8, true, ⟨none, none, .sta (.t 3) (.t 48) 8⟩),
 (9, true, ⟨none, none, .sta (.t 4) (.t 51) 8⟩)])
 .ret)))))⟩
def qf_s_l01First : QF := ⟨1, 15, [.t 2],
 (.seq (.reg [qo 1 (.box (.t 0)),
 qo 2 (.mov (c6 0))])
 (.seq (.reg [qo 3 (.mov (c6 0))])
 (.seq (.blk 0
 (.loop
 (.seq (.seq (.reg [qm 4 3,
 qo 5 (.bin .lss (.t 4) (c6 8)),
 qm 6 5,
 ⟨(some 7), (some (6, true)), .o (.mov (.t 3))⟩,
 ⟨(some 8), (some (6, true)), .o (.idx (.t 1) (.t 7) 8 1)⟩,
 ⟨(some 9), (some (6, true)), .ld1 (.t 8)⟩,
 ⟨(some 10), (some (6, true)), .o (.bin .eql (.t 9) (.c (.u 0)))⟩,
 qo 11 (.pick (.t 6) (.t 10) (.c (.b false)))])
 (.cond (.t 11)
 .skip
 (.exit 0)))
 (.blk 1
 (.reg [qm 12 3,
 qo 13 (.bin .add (.t 12) (c6 1)),
 qm 3 13])))))
 (.seq (.reg [qm 14 3,
 qm 2 14])
 .ret))))⟩
def qf_s_l01By : QF := ⟨3, 37, [.c 6 0 8],
 (.seq (.reg [qo 4 (.box (.t 1)),
 qo 6 (.alo (.by 0 8))])
 (.seq (.seq (.reg [qo 7 (.mov (c6 0))])
 (.blk 0
 (.loop
 (.seq (.seq (.reg [qm 9 7,
 qm 10 2,
 qp 11 (.len (.t 10)),
 qo 12 (.bin .lss (.t 9) (.t 11))])
 (.cond (.t 12)
 .skip
 (.exit 0)))
 (.seq (.blk 1
 (.seq (.reg [qm 15 2,
 qm 16 7,
 qp 17 (.ids (.t 15) (.t 16) 8),
 ql 18 17 0 8,
 qp 19 (.calp 273 [(.t 18)]),
 qm 8 19])
 (.seq (.reg [qm 20 8,
 qo 21 (.idx (.t 4) (.t 20) 8 1),
 qp 22 (.ld1 (.t 21)),
 qo 23 (.bin .neq (.t 22) (.c (.u 0)))])
 (.cond (.t 23)
 (.drs [0, 0, 0, 0, 12, 28, 0, 64, 192, 448, 960, 2047, 4095]
 [(0, false, qm 24 0),
 (1, false, ql 25 4 0 8),
 (2, false, qm 26 2),
 (3, false, qm 27 7),
 (4, false, qp 28 (.ids (.t 26) (.t 27) 8)),
 (5, false, ql 29 28 0 8),
 (6, false, qm 30 8),
 (7, false, qo 31 (.idx (.t 4) (.t 30) 8 1)),
 (8, false, qp 32 (.ld1 (.t 31))),
 (9, false, qo 33 (.cvt .i64 (.t 32))),
 (10, false, qo 34 (.ng (.t 33))),
 (11, false, qp 35 (.calp 57 [(.t 24), (.t 25), (.t 29), (.t 34)])),
 (12, false, ⟨none, none, .sta (.t 4) (.t 35) 8⟩)])
 .skip))))
 (.reg [qm 13 7,
 qo 14 (.bin .add (.t 13) (c6 1)),
 qm 7 14]))))))
 (.seq (.reg [ql 36 4 0 8,
 ⟨none, none, .sta (.t 6) (.t 36) 8⟩])
 .ret)))⟩
def qf_s_l01Inverse : QF := ⟨2, 20, [.t 4],
 (.seq (.reg [qo 4 (.mov (.c (.u 0)))])
 (.seq (.seq (.reg [qo 5 (.mov (c6 1))])
 (.blk 0
 (.loop
 (.seq (.seq (.reg [qm 6 5,
 qm 7 0,
 qo 8 (.bin .lss (.t 6) (.t 7))])
 (.cond (.t 8)
 .skip
 (.exit 0)))
 (.seq (.blk 1
 (.seq (.reg [qm 11 5,
 qm 12 1,
 qo 13 (.cvt .i64 (.t 12)),
 qo 14 (.bin .mul (.t 11) (.t 13)),
 qm 15 0,
 qo 16 (.bin .rem (.t 14) (.t 15)),
 qo 17 (.bin .eql (.t 16) (c6 1))])
 (.cond (.t 17)
 (.seq (.reg [qm 18 5,
 qo 19 (.cvt .u8 (.t 18)),
 qm 4 19])
 .ret)
 .skip)))
 (.reg [qm 9 5,
 qo 10 (.bin .add (.t 9) (c6 1)),
 qm 5 10]))))))
 (.seq (.reg [qo 4 (.mov (.c (.u 0)))])
 .ret)))⟩
def qf_s_l01Put : QF := ⟨3, 77, [.t 6],
 (.seq (.reg [qo 5 (.box (.t 2)),
 qo 6 (.mov (.c .sn))])
 (.seq (.reg [qm 11 0,
 ql 12 5 0 8,
 qm 13 1,
 qp 14 (.call 272 [(.t 11), (.t 12), (.t 13)]),
 ⟨none, none, .sta (.t 5) (.t 14) 8⟩])
 (.seq (.seq (.reg [ql 15 5 0 8,
 qp 16 (.calp 101 [(.t 15)])])
 (.cond (.t 16)
 (.seq (.reg [qm 17 1,
 qm 6 17])
 .ret)
 .skip))
 (.seq (.reg [ql 18 5 0 8,
 qp 19 (.calp 273 [(.t 18)]),
 qm 7 19])
 (.seq (.drs [0, 0, 0, 0, 0, 16, 48, 120, 248, 511, 1023]
 [(0, false, qm 20 0),
 (1, false, qo 21 (.bld 0 8 [])),
 (2, false, ql 22 5 0 8),
 (3, false, qm 23 0),
 (4, false, qm 24 7),
 (5, false, qo 25 (.idx (.t 5) (.t 24) 8 1)),
 (6, false, qp 26 (.ld1 (.t 25))),
 (7, false, qp 27 (.calp 274 [(.t 23), (.t 26)])),
 (8, false, qo 28 (.cvt .i64 (.t 27))),
 (9, false, qp 29 (.calp 57 [(.t 20), (.t 21), (.t 22), (.t 28)])),
 (10, false, ⟨none, none, .sta (.t 5) (.t 29) 8⟩)])
 (.seq (.reg [qo 30 (.bsb 8 []),
 qm 8 30,
 qo 9 (.mov (.c (.b false)))])
 (.seq (.seq (.reg [qo 10 (.mov (c6 0))])
 (.blk 0
 (.loop
 (.seq (.seq (.reg [qm 31 10,
 qm 32 1,
 qp 33 (.len (.t 32)),
 qo 34 (.bin .lss (.t 31) (.t 33))])
 (.cond (.t 34)
 .skip
 (.exit 0)))
 (.seq (.blk 1
 (.seq (.seq (.reg [qm 37 9,
 qo 38 (.nt (.t 37)),
 qm 39 38,
 ⟨(some 40), (some (39, true)), .o (.mov (.t 1))⟩,
 ⟨(some 41), (some (39, true)), .o (.mov (.t 10))⟩,
 ⟨(some 42), (some (39, true)), .ids (.t 40) (.t 41) 8⟩,
 ⟨(some 43), (some (39, true)), .lda (.t 42) 0 8⟩,
 ⟨(some 44), (some (39, true)), .calp 273 [(.t 43)]⟩,
 ⟨(some 45), (some (39, true)), .o (.mov (.t 7))⟩,
 ⟨(some 46), (some (39, true)), .o (.bin .gtr (.t 44) (.t 45))⟩,
 qo 47 (.pick (.t 39) (.t 46) (.c (.b false)))])
 (.cond (.t 47)
 (.seq (.reg [qm 48 8,
 ql 49 5 0 8,
 qo 50 (.bsb 8 [(.t 49)]),
 qp 51 (.apb 8 8 (.t 48) (.t 50)),
 qm 8 51])
 (.reg [qo 9 (.mov (.c (.b true)))]))
 .skip))
 (.drs [0, 0, 0, 0, 12, 28, 0, 0, 0, 0, 384, 1920, 3968, 8064, 16256, 32766, 65534, 131071, 262143]
 [(0, false, qm 52 8),
 (1, false, qm 53 0),
 (2, false, qm 54 1),
 (3, false, qm 55 10),
 (4, false, qp 56 (.ids (.t 54) (.t 55) 8)),
 (5, false, ql 57 56 0 8),
 (6, false, ql 58 5 0 8),
 (7, false, qm 59 1),
 (8, false, qm 60 10),
 (9, false, qm 61 7),
 (10, false, qp 62 (.ids (.t 59) (.t 60) 8)),
 (11, false, qo 63 (.idx (.t 62) (.t 61) 8 1)),
 (12, false, qp 64 (.ld1 (.t 63))),
 (13, false, qo 65 (.cvt .i64 (.t 64))),
 (14, false, qo 66 (.ng (.t 65))),
 (15, false, qp 67 (.calp 57 [(.t 53), (.t 57), (.t 58), (.t 66)])),
 (16, false, qo 68 (.bsb 8 [(.t 67)])),
 (17, false, qp 69 (.apb 8 8 (.t 52) (.t 68))),
 (18, false, qm 8 69)])))
 (.reg [qm 35 10,
 qo 36 (.bin .add (.t 35) (c6 1)),
 qm 10 36]))))))
 (.seq (.seq (.reg [qm 70 9,
 qo 71 (.nt (.t 70))])
 (.cond (.t 71)
 (.reg [qm 72 8,
 ql 73 5 0 8,
 qo 74 (.bsb 8 [(.t 73)]),
 qp 75 (.apb 8 8 (.t 72) (.t 74)),
 qm 8 75])
 .skip))
 (.seq (.reg [qm 76 8,
 qm 6 76])
 .ret)))))))))⟩
def qf_s_l01Reduce : QF := ⟨2, 22, [.t 4],
 (.seq (.reg [qo 4 (.mov (.c .sn))])
 (.seq (.reg [qo 7 (.bsb 8 []),
 qm 5 7])
 (.seq (.seq (.reg [qo 6 (.mov (c6 0))])
 (.blk 0
 (.loop
 (.seq (.seq (.reg [qm 8 6,
 qm 9 1,
 qp 10 (.len (.t 9)),
 qo 11 (.bin .lss (.t 8) (.t 10))])
 (.cond (.t 11)
 .skip
 (.exit 0)))
 (.seq (.blk 1
 (.reg [qm 14 0,
 qm 15 5,
 qm 16 1,
 qm 17 6,
 qp 18 (.ids (.t 16) (.t 17) 8),
 ql 19 18 0 8,
 qp 20 (.call 266 [(.t 14), (.t 15), (.t 19)]),
 qm 5 20]))
 (.reg [qm 12 6,
 qo 13 (.bin .add (.t 12) (c6 1)),
 qm 6 13]))))))
 (.seq (.reg [qm 21 5,
 qm 4 21])
 .ret))))⟩
def qf_s_l02Null : QF := ⟨3, 70, [.t 6],
 (.seq (.reg [qo 6 (.mov (.c .sn))])
 (.seq (.reg [qm 14 0,
 qm 15 2,
 qp 16 (.call 270 [(.t 14), (.t 15)]),
 qo 17 (.bsb 8 []),
 qp 18 (.bac [.b false, .b false, .b false, .b false, .b false, .b false, .b false, .b false] []),
 qp 9 (.alc [.b false, .b false, .b false, .b false, .b false, .b false, .b false, .b false]),
 qm 7 16,
 qm 8 17,
 ⟨none, none, .sta (.t 9) (.t 18) 8⟩])
 (.seq (.seq (.reg [qo 10 (.mov (c6 0))])
 (.blk 0
 (.loop
 (.seq (.seq (.reg [qm 19 10,
 qm 20 7,
 qp 21 (.len (.t 20)),
 qo 22 (.bin .lss (.t 19) (.t 21))])
 (.cond (.t 22)
 .skip
 (.exit 0)))
 (.seq (.blk 1
 (.reg [qm 25 7,
 qm 26 10,
 qp 27 (.ids (.t 25) (.t 26) 8),
 ql 28 27 0 8,
 qp 29 (.calp 273 [(.t 28)]),
 qo 30 (.idx (.t 9) (.t 29) 8 1),
 ⟨none, none, .st1 (.t 30) (.c (.b true))⟩]))
 (.reg [qm 23 10,
 qo 24 (.bin .add (.t 23) (c6 1)),
 qm 10 24]))))))
 (.seq (.seq (.reg [qo 11 (.mov (c6 0))])
 (.blk 2
 (.loop
 (.seq (.seq (.reg [qm 31 11,
 qm 32 1,
 qo 33 (.bin .lss (.t 31) (.t 32))])
 (.cond (.t 33)
 .skip
 (.exit 2)))
 (.seq (.blk 3
 (.seq (.seq (.reg [qm 36 11,
 qo 37 (.idx (.t 9) (.t 36) 8 1),
 qp 38 (.ld1 (.t 37))])
 (.cond (.t 38)
 (.exit 3)
 .skip))
 (.seq (.reg [qm 39 11,
 qp 40 (.calp 55 [(.t 39)]),
 qo 12 (.alo (.by 0 8)),
 ⟨none, none, .sta (.t 12) (.t 40) 8⟩])
 (.seq (.seq (.reg [qo 13 (.mov (c6 0))])
 (.blk 4
 (.loop
 (.seq (.seq (.reg [qm 41 13,
 qm 42 7,
 qp 43 (.len (.t 42)),
 qo 44 (.bin .lss (.t 41) (.t 43))])
 (.cond (.t 44)
 .skip
 (.exit 4)))
 (.seq (.blk 5
 (.drs [0, 0, 3, 7, 15, 0, 0, 0, 0, 192, 960, 1984, 4032, 8128, 16383, 32767, 65535]
 [(0, false, qm 47 7),
 (1, false, qm 48 13),
 (2, false, qp 49 (.ids (.t 47) (.t 48) 8)),
 (3, false, ql 50 49 0 8),
 (4, false, qp 51 (.calp 273 [(.t 50)])),
 (5, false, qm 52 0),
 (6, false, qm 53 7),
 (7, false, qm 54 13),
 (8, false, qm 55 11),
 (9, false, qp 56 (.ids (.t 53) (.t 54) 8)),
 (10, false, qo 57 (.idx (.t 56) (.t 55) 8 1)),
 (11, false, qp 58 (.ld1 (.t 57))),
 (12, false, qo 59 (.cvt .i64 (.t 58))),
 (13, false, qo 60 (.ng (.t 59))),
 (14, false, qp 61 (.calp 72 [(.t 52), (.t 60)])),
 (15, false, qo 62 (.idx (.t 12) (.t 51) 8 1)),
 (16, false, ⟨none, none, .st1 (.t 62) (.t 61)⟩)]))
 (.reg [qm 45 13,
 qo 46 (.bin .add (.t 45) (c6 1)),
 qm 13 46]))))))
 (.reg [qm 63 8,
 ql 64 12 0 8,
 qo 65 (.bsb 8 [(.t 64)]),
 qp 66 (.apb 8 8 (.t 63) (.t 65)),
 qm 8 66])))))
 (.reg [qm 34 11,
 qo 35 (.bin .add (.t 34) (c6 1)),
 qm 11 35]))))))
 (.seq (.reg [qm 67 0,
 qm 68 8,
 qp 69 (.call 270 [(.t 67), (.t 68)]),
 qm 6 69])
 .ret)))))⟩
def qf_s_l02Primitive : QF := ⟨3, 76, [.t 6],
 (.seq (.reg [qo 3 (.box (.t 0)),
 qo 4 (.box (.t 1)),
 qo 5 (.box (.t 2)),
 qo 6 (.mov (.c .sn))])
 (.seq (.reg [qo 13 (.bsb 8 []),
 qm 7 13])
 (.seq (.seq (.reg [qo 8 (.mov (c6 0))])
 (.blk 0
 (.loop
 (.seq (.seq (.reg [qm 14 8,
 qo 15 (.add (.t 3) 1),
 qp 16 (.ld1 (.t 15)),
 qo 17 (.bin .lss (.t 14) (.t 16))])
 (.cond (.t 17)
 .skip
 (.exit 0)))
 (.seq (.blk 1
 (.seq (.reg [qo 9 (.mov (c6 0))])
 (.blk 2
 (.loop
 (.seq (.seq (.reg [qm 20 9,
 qo 21 (.add (.t 3) 1),
 qp 22 (.ld1 (.t 21)),
 qo 23 (.bin .lss (.t 20) (.t 22))])
 (.cond (.t 23)
 .skip
 (.exit 2)))
 (.seq (.blk 3
 (.seq (.reg [qo 26 (.bld 0 8 []),
 qo 10 (.alo (.by 0 8)),
 ⟨none, none, .sta (.t 10) (.t 26) 8⟩])
 (.seq (.seq (.reg [qo 11 (.mov (c6 0))])
 (.blk 4
 (.loop
 (.seq (.seq (.reg [qm 27 11,
 qo 28 (.add (.t 3) 1),
 qp 29 (.ld1 (.t 28)),
 qo 30 (.bin .lss (.t 27) (.t 29))])
 (.cond (.t 30)
 .skip
 (.exit 4)))
 (.seq (.blk 5
 (.seq (.reg [qm 33 11,
 qm 34 8,
 qm 35 9,
 qo 36 (.add (.t 3) 10),
 qo 37 (.idx (.t 36) (.t 33) 8 64),
 qo 38 (.idx (.t 37) (.t 34) 8 8),
 qo 39 (.idx (.t 38) (.t 35) 8 1),
 qp 40 (.ld1 (.t 39)),
 qo 41 (.cvt .i64 (.t 40)),
 qm 12 41])
 (.seq (.seq (.reg [qm 42 11,
 qm 43 8,
 qo 44 (.bin .eql (.t 42) (.t 43))])
 (.cond (.t 44)
 (.reg [qm 45 12,
 qm 46 9,
 qo 47 (.idx (.t 4) (.t 46) 8 1),
 qp 48 (.ld1 (.t 47)),
 qo 49 (.cvt .i64 (.t 48)),
 qo 50 (.bin .sub (.t 45) (.t 49)),
 qm 12 50])
 .skip))
 (.seq (.seq (.reg [qm 51 11,
 qm 52 9,
 qo 53 (.bin .eql (.t 51) (.t 52))])
 (.cond (.t 53)
 (.reg [qm 54 12,
 qm 55 8,
 qo 56 (.idx (.t 5) (.t 55) 8 1),
 qp 57 (.ld1 (.t 56)),
 qo 58 (.cvt .i64 (.t 57)),
 qo 59 (.bin .sub (.t 54) (.t 58)),
 qm 12 59])
 .skip))
 (.reg [qm 60 11,
 qo 61 (.add (.t 3) 0),
 qp 62 (.ld1 (.t 61)),
 qm 63 12,
 qp 64 (.calp 72 [(.t 62), (.t 63)]),
 qo 65 (.idx (.t 10) (.t 60) 8 1),
 ⟨none, none, .st1 (.t 65) (.t 64)⟩])))))
 (.reg [qm 31 11,
 qo 32 (.bin .add (.t 31) (c6 1)),
 qm 11 32]))))))
 (.reg [qm 66 7,
 ql 67 10 0 8,
 qo 68 (.bsb 8 [(.t 67)]),
 qp 69 (.apb 8 8 (.t 66) (.t 68)),
 qm 7 69]))))
 (.reg [qm 24 9,
 qo 25 (.bin .add (.t 24) (c6 1)),
 qm 9 25])))))))
 (.reg [qm 18 8,
 qo 19 (.bin .add (.t 18) (c6 1)),
 qm 8 19]))))))
 (.seq (.reg [qo 70 (.add (.t 3) 0),
 qp 71 (.ld1 (.t 70)),
 qo 72 (.add (.t 3) 1),
 qp 73 (.ld1 (.t 72)),
 qm 74 7,
 qp 75 (.call 284 [(.t 71), (.t 73), (.t 74)]),
 qm 6 75])
 .ret))))⟩
def qf_s_PrimitiveSpace : QF := ⟨3, 31, [.t 6, .t 7],
 (.seq (.reg [qo 3 (.box (.t 0)),
 qo 4 (.box (.t 1)),
 qo 5 (.box (.t 2)),
 qo 6 (.mov (.c .sn)),
 qo 7 (.mov (c6 0))])
 (.seq (.seq (.reg [ql 9 3 2 522,
 ql 10 4 0 8,
 ql 11 5 0 8,
 qo 12 (.bsb 8 [(.t 10), (.t 11)]),
 qp 13 (.call 416 [(.t 9), (.t 12)]),
 qm 8 13])
 (.seq (.reg [qm 14 8,
 qo 15 (.bin .neq (.t 14) (c6 0))])
 (.cond (.t 15)
 (.seq (.reg [qm 16 8,
 qo 6 (.mov (.c .sn)),
 qm 7 16])
 .ret)
 .skip)))
 (.seq (.seq (.reg [ql 17 3 2 522,
 ql 18 4 0 8,
 qp 19 (.calp 417 [(.t 17), (.t 18)]),
 qo 20 (.nt (.t 19)),
 qm 21 20,
 ⟨(some 22), (some (21, false)), .lda (.t 3) 2 522⟩,
 ⟨(some 23), (some (21, false)), .lda (.t 5) 0 8⟩,
 ⟨(some 24), (some (21, false)), .calp 417 [(.t 22), (.t 23)]⟩,
 ⟨(some 25), (some (21, false)), .o (.nt (.t 24))⟩,
 qo 26 (.pick (.t 21) (.c (.b true)) (.t 25))])
 (.cond (.t 26)
 (.seq (.reg [qo 6 (.mov (.c .sn)),
 qo 7 (.mov (c6 5))])
 .ret)
 .skip))
 (.seq (.reg [ql 27 3 2 522,
 ql 28 4 0 8,
 ql 29 5 0 8,
 qp 30 (.call 423 [(.t 27), (.t 28), (.t 29)]),
 qm 6 30,
 qo 7 (.mov (c6 0))])
 .ret))))⟩
def qf_s_DrawLeastSubcoalgebra : QF := ⟨1, 8, [.c 2 2 522, .c 3 0 8],
 (.seq (.reg [qo 2 (.alo (.by 2 522)),
 qo 3 (.alo (.by 0 8))])
 (.seq (.reg [qm 4 0,
 qp 5 (.call 415 [(.t 4)]),
 qo 6 (.ext (.t 5) 0),
 qo 7 (.ext (.t 5) 1),
 ⟨none, none, .sta (.t 2) (.t 6) 522⟩,
 ⟨none, none, .sta (.t 3) (.t 7) 8⟩])
 .ret))⟩
def qf_s_l02Sub : QF := ⟨2, 53, [.t 4],
 (.seq (.reg [qo 2 (.box (.t 0)),
 qo 3 (.box (.t 1)),
 qo 4 (.mov (.c .sn))])
 (.seq (.reg [qo 12 (.bsb 8 []),
 ql 13 2 2 522,
 ql 14 3 0 8,
 qp 15 (.calp 430 [(.t 13), (.t 14)]),
 qo 6 (.alo (.by 0 64)),
 qm 5 12,
 ⟨none, none, .sta (.t 6) (.t 15) 64⟩])
 (.seq (.seq (.reg [qo 7 (.mov (c6 0))])
 (.blk 0
 (.loop
 (.seq (.seq (.reg [qm 16 7,
 qo 17 (.add (.t 2) 1),
 qp 18 (.ld1 (.t 17)),
 qo 19 (.bin .lss (.t 16) (.t 18))])
 (.cond (.t 19)
 .skip
 (.exit 0)))
 (.seq (.blk 1
 (.seq (.drs [0, 0, 2, 6, 15, 0, 63]
 [(0, true, ql 22 2 2 522),
 (1, false, qm 23 7),
 (2, false, qo 24 (.idx (.t 6) (.t 23) 8 8)),
 (3, true, ql 25 24 0 8),
 (4, false, qp 26 (.calp 430 [(.t 22), (.t 25)])),
 (5, false, qo 8 (.alo (.by 0 64))),
 (6, true, ⟨none, none, .sta (.t 8) (.t 26) 64⟩)])
 (.seq (.reg [qo 9 (.mov (c6 0))])
 (.blk 2
 (.loop
 (.seq (.seq (.reg [qm 27 9,
 qo 28 (.add (.t 2) 1),
 qp 29 (.ld1 (.t 28)),
 qo 30 (.bin .lss (.t 27) (.t 29))])
 (.cond (.t 30)
 .skip
 (.exit 2)))
 (.seq (.blk 3
 (.seq (.reg [qo 33 (.bld 0 8 []),
 qo 10 (.alo (.by 0 8)),
 ⟨none, none, .sta (.t 10) (.t 33) 8⟩])
 (.seq (.seq (.reg [qo 11 (.mov (c6 0))])
 (.blk 4
 (.loop
 (.seq (.seq (.reg [qm 34 11,
 qo 35 (.add (.t 2) 1),
 qp 36 (.ld1 (.t 35)),
 qo 37 (.bin .lss (.t 34) (.t 36))])
 (.cond (.t 37)
 .skip
 (.exit 4)))
 (.seq (.blk 5
 (.reg [qm 40 11,
 qm 41 11,
 qm 42 9,
 qo 43 (.idx (.t 8) (.t 41) 8 8),
 qo 44 (.idx (.t 43) (.t 42) 8 1),
 qp 45 (.ld1 (.t 44)),
 qo 46 (.idx (.t 10) (.t 40) 8 1),
 ⟨none, none, .st1 (.t 46) (.t 45)⟩]))
 (.reg [qm 38 11,
 qo 39 (.bin .add (.t 38) (c6 1)),
 qm 11 39]))))))
 (.reg [qo 47 (.add (.t 2) 0),
 qp 48 (.ld1 (.t 47)),
 qm 49 5,
 ql 50 10 0 8,
 qp 51 (.call 266 [(.t 48), (.t 49), (.t 50)]),
 qm 5 51]))))
 (.reg [qm 31 9,
 qo 32 (.bin .add (.t 31) (c6 1)),
 qm 9 32]))))))))
 (.reg [qm 20 7,
 qo 21 (.bin .add (.t 20) (c6 1)),
 qm 7 21]))))))
 (.seq (.reg [qm 52 5,
 qm 4 52])
 .ret))))⟩
def qf_s_LeastSubcoalgebra : QF := ⟨2, 17, [.t 4, .t 5],
 (.seq (.reg [qo 2 (.box (.t 0)),
 qo 3 (.box (.t 1)),
 qo 4 (.mov (.c .sn)),
 qo 5 (.mov (c6 0))])
 (.seq (.seq (.reg [ql 7 2 2 522,
 ql 8 3 0 8,
 qo 9 (.bsb 8 [(.t 8)]),
 qp 10 (.call 416 [(.t 7), (.t 9)]),
 qm 6 10])
 (.seq (.reg [qm 11 6,
 qo 12 (.bin .neq (.t 11) (c6 0))])
 (.cond (.t 12)
 (.seq (.reg [qm 13 6,
 qo 4 (.mov (.c .sn)),
 qm 5 13])
 .ret)
 .skip)))
 (.seq (.reg [ql 14 2 2 522,
 ql 15 3 0 8,
 qp 16 (.call 425 [(.t 14), (.t 15)]),
 qm 4 16,
 qo 5 (.mov (c6 0))])
 .ret)))⟩
def qf_s_DrawIsSubcoalgebra : QF := ⟨1, 45, [.c 2 2 522, .t 3],
 (.seq (.reg [qo 2 (.alo (.by 2 522)),
 qo 3 (.mov (.c .sn))])
 (.seq (.reg [qm 9 0,
 qp 10 (.call 186 [(.t 9)]),
 qm 4 10])
 (.seq (.reg [qm 12 0,
 qp 13 (.call 415 [(.t 12)]),
 qm 11 13,
 qo 14 (.ext (.t 11) 0),
 qo 15 (.ext (.t 11) 1),
 qo 5 (.alo (.by 2 522)),
 qo 6 (.alo (.by 0 8)),
 ⟨none, none, .sta (.t 5) (.t 14) 522⟩,
 ⟨none, none, .sta (.t 6) (.t 15) 8⟩])
 (.seq (.seq (.reg [ql 16 5 2 522,
 ql 17 6 0 8,
 qo 18 (.bsb 8 [(.t 17)]),
 qp 19 (.call 416 [(.t 16), (.t 18)]),
 qo 20 (.bin .eql (.t 19) (c6 0)),
 qm 21 20,
 ⟨(some 22), (some (21, true)), .o (.mov (.t 4))⟩,
 ⟨(some 23), (some (21, true)), .call 195 [(.t 22), (c6 2)]⟩,
 ⟨(some 24), (some (21, true)), .o (.bin .eql (.t 23) (c6 0))⟩,
 qo 25 (.pick (.t 21) (.t 24) (.c (.b false)))])
 (.cond (.t 25)
 (.seq (.drs [0, 0, 0, 6, 15, 31]
 [(0, true, ql 26 5 2 522),
 (1, false, ql 27 5 2 522),
 (2, false, ql 28 6 0 8),
 (3, false, qp 29 (.call 425 [(.t 27), (.t 28)])),
 (4, true, ⟨none, none, .sta (.t 2) (.t 26) 522⟩),
 (5, false, qm 3 29)])
 .ret)
 .skip))
 (.seq (.reg [qo 30 (.bsb 8 []),
 qm 7 30])
 (.seq (.seq (.reg [qm 31 4,
 qp 32 (.call 195 [(.t 31), (c6 4)]),
 qm 8 32])
 (.blk 0
 (.loop
 (.seq (.seq (.reg [qm 33 8,
 qo 34 (.bin .gtr (.t 33) (c6 0))])
 (.cond (.t 34)
 .skip
 (.exit 0)))
 (.seq (.blk 1
 (.reg [qm 37 7,
 qm 38 4,
 ql 39 5 2 522,
 qp 40 (.call 422 [(.t 38), (.t 39)]),
 qo 41 (.bsb 8 [(.t 40)]),
 qp 42 (.apb 8 8 (.t 37) (.t 41)),
 qm 7 42]))
 (.reg [qm 35 8,
 qo 36 (.bin .sub (.t 35) (c6 1)),
 qm 8 36]))))))
 (.seq (.reg [ql 43 5 2 522,
 qm 44 7,
 ⟨none, none, .sta (.t 2) (.t 43) 522⟩,
 qm 3 44])
 .ret)))))))⟩
def qf_s_l02Closed : QF := ⟨2, 60, [.t 4],
 (.seq (.reg [qo 2 (.box (.t 0)),
 qo 4 (.mov (.c (.b false)))])
 (.seq (.seq (.reg [qo 5 (.mov (c6 0))])
 (.blk 0
 (.loop
 (.seq (.seq (.reg [qm 10 5,
 qm 11 1,
 qp 12 (.len (.t 11)),
 qo 13 (.bin .lss (.t 10) (.t 12))])
 (.cond (.t 13)
 .skip
 (.exit 0)))
 (.seq (.blk 1
 (.seq (.drs [0, 0, 0, 6, 14, 31, 0, 127]
 [(0, true, ql 16 2 2 522),
 (1, false, qm 17 1),
 (2, false, qm 18 5),
 (3, false, qp 19 (.ids (.t 17) (.t 18) 8)),
 (4, true, ql 20 19 0 8),
 (5, false, qp 21 (.calp 430 [(.t 16), (.t 20)])),
 (6, false, qo 6 (.alo (.by 0 64))),
 (7, true, ⟨none, none, .sta (.t 6) (.t 21) 64⟩)])
 (.seq (.reg [qo 7 (.mov (c6 0))])
 (.blk 2
 (.loop
 (.seq (.seq (.reg [qm 22 7,
 qo 23 (.add (.t 2) 1),
 qp 24 (.ld1 (.t 23)),
 qo 25 (.bin .lss (.t 22) (.t 24))])
 (.cond (.t 25)
 .skip
 (.exit 2)))
 (.seq (.blk 3
 (.seq (.reg [qo 28 (.bld 0 8 []),
 qo 8 (.alo (.by 0 8)),
 ⟨none, none, .sta (.t 8) (.t 28) 8⟩])
 (.seq (.seq (.reg [qo 9 (.mov (c6 0))])
 (.blk 4
 (.loop
 (.seq (.seq (.reg [qm 29 9,
 qo 30 (.add (.t 2) 1),
 qp 31 (.ld1 (.t 30)),
 qo 32 (.bin .lss (.t 29) (.t 31))])
 (.cond (.t 32)
 .skip
 (.exit 4)))
 (.seq (.blk 5
 (.reg [qm 35 9,
 qm 36 9,
 qm 37 7,
 qo 38 (.idx (.t 6) (.t 36) 8 8),
 qo 39 (.idx (.t 38) (.t 37) 8 1),
 qp 40 (.ld1 (.t 39)),
 qo 41 (.idx (.t 8) (.t 35) 8 1),
 ⟨none, none, .st1 (.t 41) (.t 40)⟩]))
 (.reg [qm 33 9,
 qo 34 (.bin .add (.t 33) (c6 1)),
 qm 9 34]))))))
 (.seq (.drs [0, 1, 0, 4, 12, 0, 63, 127, 255, 511, 1023, 2047, 1023, 1023, 16383, 32767, 65535, 131071]
 [(0, false, qo 42 (.add (.t 2) 0)),
 (1, false, qp 43 (.ld1 (.t 42))),
 (2, false, qm 44 7),
 (3, false, qo 45 (.idx (.t 6) (.t 44) 8 8)),
 (4, false, ql 46 45 0 8),
 (5, false, qm 47 1),
 (6, false, qp 48 (.call 272 [(.t 43), (.t 46), (.t 47)])),
 (7, false, qp 49 (.calp 101 [(.t 48)])),
 (8, false, qo 50 (.nt (.t 49))),
 (9, false, qm 51 50),
 (10, false, ⟨(some 52), (some (51, false)), .o (.add (.t 2) 0)⟩),
 (11, false, ⟨(some 53), (some (51, false)), .ld1 (.t 52)⟩),
 (12, false, ⟨(some 54), (some (51, false)), .lda (.t 8) 0 8⟩),
 (13, false, ⟨(some 55), (some (51, false)), .o (.mov (.t 1))⟩),
 (14, false, ⟨(some 56), (some (51, false)), .call 272 [(.t 53), (.t 54), (.t 55)]⟩),
 (15, false, ⟨(some 57), (some (51, false)), .calp 101 [(.t 56)]⟩),
 (16, false, ⟨(some 58), (some (51, false)), .o (.nt (.t 57))⟩),
 (17, false, qo 59 (.pick (.t 51) (.c (.b true)) (.t 58)))])
 (.cond (.t 59)
 (.seq (.reg [qo 4 (.mov (.c (.b false)))])
 .ret)
 .skip)))))
 (.reg [qm 26 7,
 qo 27 (.bin .add (.t 26) (c6 1)),
 qm 7 27]))))))))
 (.reg [qm 14 5,
 qo 15 (.bin .add (.t 14) (c6 1)),
 qm 5 15]))))))
 (.seq (.reg [qo 4 (.mov (.c (.b true)))])
 .ret)))⟩
def qf_s_IsSubcoalgebra : QF := ⟨2, 19, [.t 4, .t 5],
 (.seq (.reg [qo 2 (.box (.t 0)),
 qo 4 (.mov (.c (.b false))),
 qo 5 (.mov (c6 0))])
 (.seq (.seq (.reg [ql 7 2 2 522,
 qm 8 1,
 qp 9 (.call 416 [(.t 7), (.t 8)]),
 qm 6 9])
 (.seq (.reg [qm 10 6,
 qo 11 (.bin .neq (.t 10) (c6 0))])
 (.cond (.t 11)
 (.seq (.reg [qm 12 6,
 qo 4 (.mov (.c (.b false))),
 qm 5 12])
 .ret)
 .skip)))
 (.seq (.drs [0, 0, 2, 0, 14, 31, 63, 127]
 [(0, true, ql 13 2 2 522),
 (1, false, qo 14 (.add (.t 2) 0)),
 (2, false, qp 15 (.ld1 (.t 14))),
 (3, false, qm 16 1),
 (4, false, qp 17 (.call 270 [(.t 15), (.t 16)])),
 (5, true, qp 18 (.call 427 [(.t 13), (.t 17)])),
 (6, false, qm 4 18),
 (7, false, qo 5 (.mov (c6 0)))])
 .ret)))⟩
def qf_l_FnGroupLikes : QF := ⟨1, 298, [.t 2],
 (.seq (.reg [qo 2 (.mov (.c (.b false)))])
 (.seq (.seq (.reg [qm 44 0,
 qp 45 (.call 176 [(.t 44)])])
 (.cond (.t 45)
 (.seq (.reg [qo 2 (.mov (.c (.b true)))])
 .ret)
 .skip))
 (.seq (.reg [qm 47 0,
 qp 48 (.call 396 [(.t 47)]),
 qm 46 48,
 qo 49 (.ext (.t 46) 0),
 qo 50 (.ext (.t 46) 1),
 qo 3 (.alo (.by 2 522)),
 qo 4 (.alo (.by 0 8)),
 ⟨none, none, .sta (.t 3) (.t 49) 522⟩,
 ⟨none, none, .sta (.t 4) (.t 50) 8⟩])
 (.seq (.reg [ql 52 3 2 522,
 ql 53 4 0 8,
 qp 54 (.calp 397 [(.t 52), (.t 53)]),
 qm 51 54,
 qo 55 (.ext (.t 51) 0),
 qo 56 (.ext (.t 51) 1),
 qm 5 55,
 qm 6 56])
 (.seq (.reg [ql 58 3 2 522,
 ql 59 4 0 8,
 qp 60 (.calp 398 [(.t 58), (.t 59)]),
 qm 57 60,
 qo 61 (.ext (.t 57) 0),
 qo 62 (.ext (.t 57) 1),
 qm 7 61,
 qm 8 62])
 (.seq (.seq (.reg [qm 63 8,
 qm 64 6,
 qo 65 (.bin .neq (.t 63) (.t 64)),
 qm 66 65,
 ⟨(some 67), (some (66, false)), .o (.mov (.t 7))⟩,
 ⟨(some 68), (some (66, false)), .o (.mov (.t 5))⟩,
 ⟨(some 69), (some (66, false)), .o (.eqb true (.t 67) (.t 68))⟩,
 qo 70 (.pick (.t 66) (.c (.b true)) (.t 69))])
 (.cond (.t 70)
 (.seq (.reg [qo 2 (.mov (.c (.b false)))])
 .ret)
 .skip))
 (.seq (.reg [qm 71 0,
 qp 72 (.call 399 [(.t 71)]),
 qo 9 (.alo (.by 2 522)),
 ⟨none, none, .sta (.t 9) (.t 72) 522⟩])
 (.seq (.reg [ql 74 9 2 522,
 qp 75 (.call 400 [(.t 74)]),
 qm 73 75,
 qo 76 (.ext (.t 73) 0),
 qo 77 (.ext (.t 73) 1),
 qm 10 76,
 qm 11 77])
 (.seq (.reg [ql 79 9 2 522,
 qp 80 (.call 401 [(.t 79)]),
 qm 78 80,
 qo 81 (.ext (.t 78) 0),
 qo 82 (.ext (.t 78) 1),
 qm 12 81,
 qm 13 82])
 (.seq (.seq (.reg [qm 83 13,
 qm 84 11,
 qo 85 (.bin .neq (.t 83) (.t 84)),
 qm 86 85,
 ⟨(some 87), (some (86, false)), .o (.mov (.t 12))⟩,
 ⟨(some 88), (some (86, false)), .o (.mov (.t 10))⟩,
 ⟨(some 89), (some (86, false)), .call 402 [(.t 87), (.t 88)]⟩,
 ⟨(some 90), (some (86, false)), .o (.nt (.t 89))⟩,
 qo 91 (.pick (.t 86) (.c (.b true)) (.t 90))])
 (.cond (.t 91)
 (.seq (.reg [qo 2 (.mov (.c (.b false)))])
 .ret)
 .skip))
 (.seq (.reg [qm 93 0,
 qp 94 (.call 403 [(.t 93)]),
 qm 92 94,
 qo 95 (.ext (.t 92) 0),
 qo 96 (.ext (.t 92) 1),
 qo 97 (.ext (.t 92) 2),
 qo 14 (.alo (.by 2 522)),
 qo 15 (.alo (.by 0 8)),
 qo 16 (.alo (.by 0 8)),
 ⟨none, none, .sta (.t 14) (.t 95) 522⟩,
 ⟨none, none, .sta (.t 15) (.t 96) 8⟩,
 ⟨none, none, .sta (.t 16) (.t 97) 8⟩])
 (.seq (.reg [ql 99 14 2 522,
 ql 100 15 0 8,
 ql 101 16 0 8,
 qp 102 (.call 404 [(.t 99), (.t 100), (.t 101)]),
 qm 98 102,
 qo 103 (.ext (.t 98) 0),
 qo 104 (.ext (.t 98) 1),
 qm 17 103,
 qm 18 104])
 (.seq (.reg [ql 106 14 2 522,
 ql 107 15 0 8,
 ql 108 16 0 8,
 qp 109 (.call 405 [(.t 106), (.t 107), (.t 108)]),
 qm 105 109,
 qo 110 (.ext (.t 105) 0),
 qo 111 (.ext (.t 105) 1),
 qm 19 110,
 qm 20 111])
 (.seq (.seq (.reg [qm 112 20,
 qm 113 18,
 qo 114 (.bin .neq (.t 112) (.t 113)),
 qm 115 114,
 ⟨(some 116), (some (115, false)), .o (.mov (.t 19))⟩,
 ⟨(some 117), (some (115, false)), .o (.mov (.t 17))⟩,
 ⟨(some 118), (some (115, false)), .call 402 [(.t 116), (.t 117)]⟩,
 ⟨(some 119), (some (115, false)), .o (.nt (.t 118))⟩,
 qo 120 (.pick (.t 115) (.c (.b true)) (.t 119))])
 (.cond (.t 120)
 (.seq (.reg [qo 2 (.mov (.c (.b false)))])
 .ret)
 .skip))
 (.seq (.reg [qm 122 0,
 qp 123 (.call 406 [(.t 122)]),
 qm 121 123,
 qo 124 (.ext (.t 121) 0),
 qo 125 (.ext (.t 121) 1),
 qo 21 (.alo (.by 2 522)),
 qo 22 (.alo (.by 0 8)),
 ⟨none, none, .sta (.t 21) (.t 124) 522⟩,
 ⟨none, none, .sta (.t 22) (.t 125) 8⟩])
 (.seq (.reg [ql 127 21 2 522,
 ql 128 22 0 8,
 qp 129 (.call 407 [(.t 127), (.t 128)]),
 qm 126 129,
 qo 130 (.ext (.t 126) 0),
 qo 131 (.ext (.t 126) 1),
 qm 23 130,
 qm 24 131])
 (.seq (.reg [ql 133 21 2 522,
 ql 134 22 0 8,
 qp 135 (.call 408 [(.t 133), (.t 134)]),
 qm 132 135,
 qo 136 (.ext (.t 132) 0),
 qo 137 (.ext (.t 132) 1),
 qm 25 136,
 qm 26 137])
 (.seq (.seq (.reg [qm 138 26,
 qm 139 24,
 qo 140 (.bin .neq (.t 138) (.t 139)),
 qm 141 140,
 ⟨(some 142), (some (141, false)), .o (.mov (.t 25))⟩,
 ⟨(some 143), (some (141, false)), .o (.mov (.t 23))⟩,
 ⟨(some 144), (some (141, false)), .call 402 [(.t 142), (.t 143)]⟩,
 ⟨(some 145), (some (141, false)), .o (.nt (.t 144))⟩,
 qo 146 (.pick (.t 141) (.c (.b true)) (.t 145))])
 (.cond (.t 146)
 (.seq (.reg [qo 2 (.mov (.c (.b false)))])
 .ret)
 .skip))
 (.seq (.reg [qm 148 0,
 qp 149 (.call 409 [(.t 148)]),
 qm 147 149,
 qo 150 (.ext (.t 147) 0),
 qo 151 (.ext (.t 147) 1),
 qo 27 (.alo (.by 2 522)),
 ⟨none, none, .sta (.t 27) (.t 150) 522⟩,
 qm 28 151])
 (.seq (.reg [ql 153 27 2 522,
 qm 154 28,
 qp 155 (.call 410 [(.t 153), (.t 154)]),
 qm 152 155,
 qo 156 (.ext (.t 152) 0),
 qo 157 (.ext (.t 152) 1),
 qm 29 156,
 qm 30 157])
 (.seq (.reg [ql 159 27 2 522,
 qm 160 28,
 qp 161 (.call 411 [(.t 159), (.t 160)]),
 qm 158 161,
 qo 162 (.ext (.t 158) 0),
 qo 163 (.ext (.t 158) 1),
 qm 31 162,
 qm 32 163])
 (.seq (.seq (.reg [qm 164 32,
 qm 165 30,
 qo 166 (.bin .neq (.t 164) (.t 165)),
 qm 167 166,
 ⟨(some 168), (some (167, false)), .o (.mov (.t 31))⟩,
 ⟨(some 169), (some (167, false)), .o (.mov (.t 29))⟩,
 ⟨(some 170), (some (167, false)), .o (.eqb true (.t 168) (.t 169))⟩,
 qo 171 (.pick (.t 167) (.c (.b true)) (.t 170))])
 (.cond (.t 171)
 (.seq (.reg [qo 2 (.mov (.c (.b false)))])
 .ret)
 .skip))
 (.cut (.seq (.reg [qm 172 13,
 qo 173 (.bin .eql (.t 172) (c6 0))])
 (.cond (.t 173)
 (.seq (.reg [qo 175 (.add (.t 9) 0),
 qp 176 (.ld1 (.t 175)),
 qo 177 (.add (.t 9) 1),
 qp 178 (.ld1 (.t 177)),
 qm 179 12,
 qp 180 (.call 412 [(.t 176), (.t 178), (.t 179)]),
 qm 174 180,
 qo 181 (.ext (.t 174) 0),
 qo 182 (.ext (.t 174) 1),
 qm 33 181,
 qm 34 182])
 (.seq (.reg [qm 183 34,
 qo 184 (.bin .neq (.t 183) (c6 0)),
 qm 185 184,
 ⟨(some 186), (some (185, false)), .o (.mov (.t 33))⟩,
 ⟨(some 187), (some (185, false)), .len (.t 186)⟩,
 ⟨(some 188), (some (185, false)), .o (.mov (.t 12))⟩,
 ⟨(some 189), (some (185, false)), .len (.t 188)⟩,
 ⟨(some 190), (some (185, false)), .o (.bin .neq (.t 187) (.t 189))⟩,
 qo 191 (.pick (.t 185) (.c (.b true)) (.t 190))])
 (.cond (.t 191)
 (.seq (.reg [qo 2 (.mov (.c (.b false)))])
 .ret)
 .skip)))
 .skip))
 (.cut (.seq (.reg [qm 192 20,
 qo 193 (.bin .eql (.t 192) (c6 0))])
 (.cond (.t 193)
 (.seq (.reg [qo 35 (.mov (c6 0))])
 (.blk 0
 (.loop
 (.seq (.seq (.reg [qm 194 35,
 qm 195 19,
 qp 196 (.len (.t 195)),
 qo 197 (.bin .lss (.t 194) (.t 196))])
 (.cond (.t 197)
 .skip
 (.exit 0)))
 (.seq (.blk 1
 (.seq (.drs [0, 0, 0, 6, 14, 31, 63, 127, 127, 0, 767, 2047]
 [(0, true, ql 201 14 2 522),
 (1, false, qm 202 19),
 (2, false, qm 203 35),
 (3, false, qp 204 (.ids (.t 202) (.t 203) 8)),
 (4, true, ql 205 204 0 8),
 (5, false, qp 206 (.calp 413 [(.t 201), (.t 205)])),
 (6, false, qm 200 206),
 (7, false, qo 207 (.ext (.t 200) 0)),
 (8, false, qo 208 (.ext (.t 200) 1)),
 (9, false, qo 36 (.alo (.by 0 64))),
 (10, true, ⟨none, none, .sta (.t 36) (.t 207) 64⟩),
 (11, false, qm 37 208)])
 (.seq (.seq (.reg [qm 209 37,
 qo 210 (.bin .neq (.t 209) (c6 0))])
 (.cond (.t 210)
 (.seq (.reg [qo 2 (.mov (.c (.b false)))])
 .ret)
 .skip))
 (.seq (.reg [qo 38 (.mov (c6 0))])
 (.blk 2
 (.loop
 (.seq (.seq (.reg [qm 211 38,
 qo 212 (.add (.t 14) 1),
 qp 213 (.ld1 (.t 212)),
 qo 214 (.bin .lss (.t 211) (.t 213))])
 (.cond (.t 214)
 .skip
 (.exit 2)))
 (.seq (.blk 3
 (.seq (.reg [qo 39 (.mov (c6 0))])
 (.blk 4
 (.loop
 (.seq (.seq (.reg [qm 217 39,
 qo 218 (.add (.t 14) 1),
 qp 219 (.ld1 (.t 218)),
 qo 220 (.bin .lss (.t 217) (.t 219))])
 (.cond (.t 220)
 .skip
 (.exit 4)))
 (.seq (.blk 5
 (.seq (.drs [0, 0, 1, 7, 15, 31, 0, 0, 0, 192, 960, 1984, 4032, 0, 8192, 24576, 57344, 131008, 262143, 0, 524288, 1572864, 3670016, 0, 0, 0, 25165824, 125829120, 260046848, 528482304, 1073217536, 2147483647, 0, 4294967296, 17179869183, 34359738367]
 [(0, false, qm 223 38),
 (1, false, qm 224 39),
 (2, false, qo 225 (.idx (.t 36) (.t 223) 8 8)),
 (3, false, qo 226 (.idx (.t 225) (.t 224) 8 1)),
 (4, false, qp 227 (.ld1 (.t 226))),
 (5, false, qo 228 (.cvt .i64 (.t 227))),
 (6, false, qm 229 19),
 (7, false, qm 230 35),
 (8, false, qm 231 38),
 (9, false, qp 232 (.ids (.t 229) (.t 230) 8)),
 (10, false, qo 233 (.idx (.t 232) (.t 231) 8 1)),
 (11, false, qp 234 (.ld1 (.t 233))),
 (12, false, qo 235 (.cvt .i64 (.t 234))),
 (13, false, qm 236 39),
 (14, false, qo 237 (.idx (.t 15) (.t 236) 8 1)),
 (15, false, qp 238 (.ld1 (.t 237))),
 (16, false, qo 239 (.cvt .i64 (.t 238))),
 (17, false, qo 240 (.bin .mul (.t 235) (.t 239))),
 (18, false, qo 241 (.bin .sub (.t 228) (.t 240))),
 (19, false, qm 242 38),
 (20, false, qo 243 (.idx (.t 16) (.t 242) 8 1)),
 (21, false, qp 244 (.ld1 (.t 243))),
 (22, false, qo 245 (.cvt .i64 (.t 244))),
 (23, false, qm 246 19),
 (24, false, qm 247 35),
 (25, false, qm 248 39),
 (26, false, qp 249 (.ids (.t 246) (.t 247) 8)),
 (27, false, qo 250 (.idx (.t 249) (.t 248) 8 1)),
 (28, false, qp 251 (.ld1 (.t 250))),
 (29, false, qo 252 (.cvt .i64 (.t 251))),
 (30, false, qo 253 (.bin .mul (.t 245) (.t 252))),
 (31, false, qo 254 (.bin .sub (.t 241) (.t 253))),
 (32, false, qo 255 (.add (.t 14) 0)),
 (33, false, qp 256 (.ld1 (.t 255))),
 (34, false, qo 257 (.bin .rem (.t 254) (.t 256))),
 (35, false, qo 258 (.bin .neq (.t 257) (c6 0)))])
 (.cond (.t 258)
 (.seq (.reg [qo 2 (.mov (.c (.b false)))])
 .ret)
 .skip)))
 (.reg [qm 221 39,
 qo 222 (.bin .add (.t 221) (c6 1)),
 qm 39 222])))))))
 (.reg [qm 215 38,
 qo 216 (.bin .add (.t 215) (c6 1)),
 qm 38 216])))))))))
 (.reg [qm 198 35,
 qo 199 (.bin .add (.t 198) (c6 1)),
 qm 35 199]))))))
 .skip))
 (.seq (.seq (.reg [qm 259 26,
 qo 260 (.bin .neq (.t 259) (c6 0))])
 (.cond (.t 260)
 (.seq (.reg [qm 261 25,
 qp 262 (.len (.t 261)),
 qo 263 (.bin .eql (.t 262) (c6 0)),
 qm 2 263])
 .ret)
 .skip))
 (.seq (.reg [ql 265 21 2 522,
 qm 266 25,
 qp 267 (.call 411 [(.t 265), (.t 266)]),
 qm 264 267,
 qo 268 (.ext (.t 264) 0),
 qo 269 (.ext (.t 264) 1),
 qm 40 268,
 qm 41 269])
 (.seq (.drt [0, 1, 0, 4, 0, 0, 48, 0, 128, 496, 1023, 2047, 4095, 4095, 8191, 32767]
 [(0, false, qo 271 (.add (.t 21) 0)),
 (1, true, qp 272 (.ld1 (.t 271))),
 (2, false, qo 273 (.add (.t 21) 1)),
 (3, true, qp 274 (.ld1 (.t 273))),
 (5, false, qm 276 25),
 (7, true, ql 278 22 0 8)]
 [(4, false, qo 275 (.bsb 8 [])),
 (6, false, qp 277 (.apb 8 8 (.t 275) (.t 276))),
 (8, false, qo 279 (.bsb 8 [(.t 278)])),
 (9, false, qp 280 (.apb 8 8 (.t 277) (.t 279))),
 (10, true, qp 281 (.call 412 [(.t 272), (.t 274), (.t 280)])),
 (11, false, qm 270 281),
 (12, false, qo 282 (.ext (.t 270) 0)),
 (13, false, qo 283 (.ext (.t 270) 1)),
 (14, false, qm 42 282),
 (15, false, qm 43 283)])
 (.seq (.reg [qm 284 41,
 qo 285 (.bin .eql (.t 284) (c6 0)),
 qm 286 285,
 ⟨(some 287), (some (286, true)), .o (.mov (.t 40))⟩,
 qo 288 (.pick (.t 286) (.t 287) (.c (.b false))),
 qm 289 288,
 ⟨(some 290), (some (289, true)), .o (.mov (.t 43))⟩,
 ⟨(some 291), (some (289, true)), .o (.bin .eql (.t 290) (c6 0))⟩,
 qo 292 (.pick (.t 289) (.t 291) (.c (.b false))),
 qm 293 292,
 ⟨(some 294), (some (293, true)), .o (.mov (.t 42))⟩,
 ⟨(some 295), (some (293, true)), .o (.mov (.t 25))⟩,
 ⟨(some 296), (some (293, true)), .call 402 [(.t 294), (.t 295)]⟩,
 qo 297 (.pick (.t 293) (.t 296) (.c (.b false))),
 qm 2 297])
 .ret))))))))))))))))))))))))))))⟩
def F_i_Coalgebra_has_1 (P : Program) (ρ : Nat → FuncId) : Prop := chkQF P ρ 433 qf_i_Coalgebra_has_1 = true ∧ E_i_IsVector P ρ
def F_x_IndexFunc_V2 (P : Program) (ρ : Nat → FuncId) : Prop := chkQF P ρ 91 qf_x_IndexFunc_V2 = true
def F_x_ContainsFunc_V2 (P : Program) (ρ : Nat → FuncId) : Prop := chkQF P ρ 70 qf_x_ContainsFunc_V2 = true ∧ F_x_IndexFunc_V2 P ρ
def F_i_Coalgebra_has (P : Program) (ρ : Nat → FuncId) : Prop := chkQF P ρ 432 qf_i_Coalgebra_has = true ∧ F_i_Coalgebra_has_1 P ρ ∧ F_x_ContainsFunc_V2 P ρ
def F_i_Coalgebra_code (P : Program) (ρ : Nat → FuncId) : Prop := chkQF P ρ 418 qf_i_Coalgebra_code = true ∧ E_i_IsCoalgebra P ρ ∧ F_i_Coalgebra_has P ρ ∧ E_i_unless P ρ
def F_i_Coalgebra_coproduct (P : Program) (ρ : Nat → FuncId) : Prop := chkQF P ρ 426 qf_i_Coalgebra_coproduct = true ∧ E_i_Coalgebra_field P ρ ∧ E_i_field_plus P ρ
def F_i_Coalgebra_isGroupLike (P : Program) (ρ : Nat → FuncId) : Prop := chkQF P ρ 419 qf_i_Coalgebra_isGroupLike = true ∧ E_i_Coalgebra_field P ρ ∧ E_i_field_dot P ρ ∧ F_i_Coalgebra_coproduct P ρ ∧ E_i_field_pair P ρ
def F_i_CoproductIn (P : Program) (ρ : Nat → FuncId) : Prop := chkQF P ρ 413 qf_i_CoproductIn = true ∧ F_i_Coalgebra_code P ρ ∧ F_i_Coalgebra_coproduct P ρ
def F_i_GroupLikes (P : Program) (ρ : Nat → FuncId) : Prop := chkQF P ρ 401 qf_i_GroupLikes = true ∧ F_i_Coalgebra_code P ρ ∧ E_i_Coalgebra_field P ρ ∧ F_i_Coalgebra_isGroupLike P ρ
def F_i_IsGroupLike (P : Program) (ρ : Nat → FuncId) : Prop := chkQF P ρ 398 qf_i_IsGroupLike = true ∧ F_i_Coalgebra_code P ρ ∧ F_i_Coalgebra_isGroupLike P ρ
def F_i_newSystem (P : Program) (ρ : Nat → FuncId) : Prop := chkQF P ρ 271 qf_i_newSystem = true
def F_x_Clone_B (P : Program) (ρ : Nat → FuncId) : Prop := chkQF P ρ 289 qf_x_Clone_B = true
def F_i_system_solve_1 (P : Program) (ρ : Nat → FuncId) : Prop := chkQF P ρ 276 qf_i_system_solve_1 = true
def F_x_IndexFunc_R (P : Program) (ρ : Nat → FuncId) : Prop := chkQF P ρ 277 qf_x_IndexFunc_R = true
def F_i_field_inverse (P : Program) (ρ : Nat → FuncId) : Prop := chkQF P ρ 279 qf_i_field_inverse = true
def F_i_system_clear (P : Program) (ρ : Nat → FuncId) : Prop := chkQF P ρ 280 qf_i_system_clear = true ∧ F_i_field_inverse P ρ ∧ E_i_field_mod P ρ
def F_i_system_solve_2 (P : Program) (ρ : Nat → FuncId) : Prop := chkQF P ρ 282 qf_i_system_solve_2 = true
def F_x_ContainsFunc_R (P : Program) (ρ : Nat → FuncId) : Prop := chkQF P ρ 281 qf_x_ContainsFunc_R = true ∧ F_x_IndexFunc_R P ρ
def F_i_system_solve (P : Program) (ρ : Nat → FuncId) : Prop := chkQF P ρ 287 qf_i_system_solve = true ∧ F_i_system_solve_1 P ρ ∧ F_x_IndexFunc_R P ρ ∧ F_i_system_clear P ρ ∧ F_i_system_solve_2 P ρ ∧ F_x_ContainsFunc_R P ρ
def F_i_reduced (P : Program) (ρ : Nat → FuncId) : Prop := chkQF P ρ 267 qf_i_reduced = true ∧ F_i_newSystem P ρ ∧ F_x_Clone_B P ρ ∧ F_i_system_solve P ρ
def F_x_Clone_V (P : Program) (ρ : Nat → FuncId) : Prop := chkQF P ρ 285 qf_x_Clone_V = true
def F_i_legs (P : Program) (ρ : Nat → FuncId) : Prop := chkQF P ρ 260 qf_i_legs = true ∧ E_i_transposed P ρ ∧ F_x_Clone_V P ρ
def F_x_IndexFunc_B (P : Program) (ρ : Nat → FuncId) : Prop := chkQF P ρ 319 qf_x_IndexFunc_B = true
def F_i_lead_1 (P : Program) (ρ : Nat → FuncId) : Prop := chkQF P ρ 320 qf_i_lead_1 = true
def F_i_lead (P : Program) (ρ : Nat → FuncId) : Prop := chkQF P ρ 316 qf_i_lead = true ∧ F_x_IndexFunc_B P ρ ∧ F_i_lead_1 P ρ
def F_i_field_rest (P : Program) (ρ : Nat → FuncId) : Prop := chkQF P ρ 379 qf_i_field_rest = true ∧ F_i_lead P ρ ∧ E_i_field_plus P ρ
def F_i_within_1 (P : Program) (ρ : Nat → FuncId) : Prop := chkQF P ρ 380 qf_i_within_1 = true ∧ F_i_field_rest P ρ
def F_i_within (P : Program) (ρ : Nat → FuncId) : Prop := chkQF P ρ 378 qf_i_within = true ∧ F_i_within_1 P ρ ∧ F_x_ContainsFunc_V2 P ρ
def F_i_IsSubcoalgebra (P : Program) (ρ : Nat → FuncId) : Prop := chkQF P ρ 411 qf_i_IsSubcoalgebra = true ∧ F_i_Coalgebra_code P ρ ∧ F_i_reduced P ρ ∧ F_i_Coalgebra_coproduct P ρ ∧ F_i_legs P ρ ∧ F_i_within P ρ
def F_i_LeastSubcoalgebra (P : Program) (ρ : Nat → FuncId) : Prop := chkQF P ρ 408 qf_i_LeastSubcoalgebra = true ∧ F_i_Coalgebra_code P ρ ∧ E_i_Coalgebra_field P ρ ∧ F_i_Coalgebra_coproduct P ρ ∧ E_i_transposed P ρ ∧ F_i_reduced P ρ
def F_i_PrimitiveSpace_1 (P : Program) (ρ : Nat → FuncId) : Prop := chkQF P ρ 424 qf_i_PrimitiveSpace_1 = true
def F_i_system_add (P : Program) (ρ : Nat → FuncId) : Prop := chkQF P ρ 286 qf_i_system_add = true ∧ E_i_field_mod P ρ
def F_x_Index_I (P : Program) (ρ : Nat → FuncId) : Prop := chkQF P ρ 283 qf_x_Index_I = true
def F_x_Contains_I (P : Program) (ρ : Nat → FuncId) : Prop := chkQF P ρ 278 qf_x_Contains_I = true ∧ F_x_Index_I P ρ
def F_i_system_spaces (P : Program) (ρ : Nat → FuncId) : Prop := chkQF P ρ 288 qf_i_system_spaces = true ∧ F_x_Contains_I P ρ ∧ E_i_basis P ρ ∧ E_i_field_mod P ρ ∧ F_i_reduced P ρ
def F_i_kernel (P : Program) (ρ : Nat → FuncId) : Prop := chkQF P ρ 265 qf_i_kernel = true ∧ F_i_newSystem P ρ ∧ F_i_system_add P ρ ∧ F_i_system_solve P ρ ∧ F_i_system_spaces P ρ
def F_i_PrimitiveSpace (P : Program) (ρ : Nat → FuncId) : Prop := chkQF P ρ 405 qf_i_PrimitiveSpace = true ∧ F_i_Coalgebra_code P ρ ∧ F_i_Coalgebra_isGroupLike P ρ ∧ E_i_unless P ρ ∧ E_i_first P ρ ∧ E_i_Coalgebra_field P ρ ∧ F_i_PrimitiveSpace_1 P ρ ∧ F_i_kernel P ρ
def F_i_ReduceVectors_1 (P : Program) (ρ : Nat → FuncId) : Prop := chkQF P ρ 428 qf_i_ReduceVectors_1 = true ∧ E_i_IsVector P ρ
def F_i_ReduceVectors (P : Program) (ρ : Nat → FuncId) : Prop := chkQF P ρ 412 qf_i_ReduceVectors = true ∧ F_i_ReduceVectors_1 P ρ ∧ F_x_ContainsFunc_V2 P ρ ∧ E_i_IsVector P ρ ∧ F_i_reduced P ρ
def F_l_big (P : Program) (ρ : Nat → FuncId) : Prop := chkQF P ρ 176 qf_l_big = true
def F_s_l01From (P : Program) (ρ : Nat → FuncId) : Prop := chkQF P ρ 186 qf_s_l01From = true
def F_s_l01Next (P : Program) (ρ : Nat → FuncId) : Prop := chkQF P ρ 195 qf_s_l01Next = true
def F_s_l01Pick (P : Program) (ρ : Nat → FuncId) : Prop := chkQF P ρ 205 qf_s_l01Pick = true ∧ F_s_l01Next P ρ
def F_s_l01DrawPrime (P : Program) (ρ : Nat → FuncId) : Prop := chkQF P ρ 206 qf_s_l01DrawPrime = true ∧ F_s_l01Pick P ρ
def F_s_l01Cyclic (P : Program) (ρ : Nat → FuncId) : Prop := chkQF P ρ 196 qf_s_l01Cyclic = true
def F_s_l01Powers (P : Program) (ρ : Nat → FuncId) : Prop := chkQF P ρ 208 qf_s_l01Powers = true
def F_s_l01Matrices (P : Program) (ρ : Nat → FuncId) : Prop := chkQF P ρ 197 qf_s_l01Matrices = true
def F_s_ProductAlgebra (P : Program) (ρ : Nat → FuncId) : Prop := chkQF P ρ 209 qf_s_ProductAlgebra = true ∧ E_s_l01Is P ρ
def F_s_l01Draw (P : Program) (ρ : Nat → FuncId) : Prop := chkQF P ρ 203 qf_s_l01Draw = true ∧ F_s_l01DrawPrime P ρ ∧ F_s_l01Next P ρ ∧ F_s_l01Cyclic P ρ ∧ F_s_l01Powers P ρ ∧ F_s_l01Matrices P ρ ∧ F_s_ProductAlgebra P ρ
def F_s_l02Turned (P : Program) (ρ : Nat → FuncId) : Prop := chkQF P ρ 210 qf_s_l02Turned = true
def F_s_DualCoalgebra (P : Program) (ρ : Nat → FuncId) : Prop := chkQF P ρ 207 qf_s_DualCoalgebra = true ∧ E_s_l01Is P ρ ∧ F_s_l02Turned P ρ
def F_s_l02Draw (P : Program) (ρ : Nat → FuncId) : Prop := chkQF P ρ 201 qf_s_l02Draw = true ∧ F_s_l01Next P ρ ∧ F_s_l01DrawPrime P ρ ∧ F_s_l01Draw P ρ ∧ F_s_DualCoalgebra P ρ
def F_s_l02Bad (P : Program) (ρ : Nat → FuncId) : Prop := chkQF P ρ 202 qf_s_l02Bad = true ∧ F_s_l01Next P ρ ∧ F_s_l01Pick P ρ
def F_s_l02Spoil (P : Program) (ρ : Nat → FuncId) : Prop := chkQF P ρ 193 qf_s_l02Spoil = true ∧ F_s_l02Draw P ρ ∧ F_s_l02Bad P ρ
def F_s_l01DrawVector (P : Program) (ρ : Nat → FuncId) : Prop := chkQF P ρ 198 qf_s_l01DrawVector = true ∧ F_s_l01Next P ρ
def F_s_l02Any (P : Program) (ρ : Nat → FuncId) : Prop := chkQF P ρ 422 qf_s_l02Any = true ∧ F_s_l01DrawVector P ρ ∧ F_s_l01Next P ρ ∧ F_s_l01Pick P ρ
def F_s_l02One (P : Program) (ρ : Nat → FuncId) : Prop := chkQF P ρ 415 qf_s_l02One = true ∧ F_s_l01From P ρ ∧ F_s_l02Spoil P ρ ∧ F_s_l01Next P ρ ∧ E_s_l01In P ρ ∧ E_s_l01Basis P ρ ∧ F_s_l02Any P ρ
def F_s_DrawIsGroupLike (P : Program) (ρ : Nat → FuncId) : Prop := chkQF P ρ 396 qf_s_DrawIsGroupLike = true ∧ F_s_l02One P ρ
def F_s_l02Code (P : Program) (ρ : Nat → FuncId) : Prop := chkQF P ρ 416 qf_s_l02Code = true ∧ E_s_l02Is P ρ ∧ E_s_l01Vector P ρ
def F_s_l02Counit (P : Program) (ρ : Nat → FuncId) : Prop := chkQF P ρ 429 qf_s_l02Counit = true
def F_s_l02Coproduct (P : Program) (ρ : Nat → FuncId) : Prop := chkQF P ρ 430 qf_s_l02Coproduct = true ∧ E_s_l01Add P ρ
def F_s_l02Outer (P : Program) (ρ : Nat → FuncId) : Prop := chkQF P ρ 431 qf_s_l02Outer = true ∧ E_s_l01Add P ρ
def F_s_l02Group (P : Program) (ρ : Nat → FuncId) : Prop := chkQF P ρ 417 qf_s_l02Group = true ∧ F_s_l02Counit P ρ ∧ F_s_l02Coproduct P ρ ∧ F_s_l02Outer P ρ
def F_s_IsGroupLike (P : Program) (ρ : Nat → FuncId) : Prop := chkQF P ρ 397 qf_s_IsGroupLike = true ∧ F_s_l02Code P ρ ∧ F_s_l02Group P ρ
def F_s_DrawGroupLikes (P : Program) (ρ : Nat → FuncId) : Prop := chkQF P ρ 399 qf_s_DrawGroupLikes = true ∧ F_s_l01From P ρ ∧ F_s_l02Spoil P ρ
def F_s_l02Count (P : Program) (ρ : Nat → FuncId) : Prop := chkQF P ρ 420 qf_s_l02Count = true
def F_s_l02Groups (P : Program) (ρ : Nat → FuncId) : Prop := chkQF P ρ 421 qf_s_l02Groups = true ∧ F_s_l02Count P ρ ∧ F_s_l02Counit P ρ ∧ F_s_l02Group P ρ
def F_s_GroupLikes (P : Program) (ρ : Nat → FuncId) : Prop := chkQF P ρ 400 qf_s_GroupLikes = true ∧ E_s_l02Is P ρ ∧ F_s_l02Count P ρ ∧ F_s_l02Groups P ρ
def F_l_vectors9 (P : Program) (ρ : Nat → FuncId) : Prop := chkQF P ρ 402 qf_l_vectors9 = true
def F_s_DrawPrimitiveSpace (P : Program) (ρ : Nat → FuncId) : Prop := chkQF P ρ 403 qf_s_DrawPrimitiveSpace = true ∧ F_s_l01From P ρ ∧ F_s_l02Spoil P ρ ∧ F_s_GroupLikes P ρ ∧ F_s_l01Next P ρ ∧ F_s_l02Any P ρ
def F_s_l01First (P : Program) (ρ : Nat → FuncId) : Prop := chkQF P ρ 273 qf_s_l01First = true
def F_s_l01By (P : Program) (ρ : Nat → FuncId) : Prop := chkQF P ρ 272 qf_s_l01By = true ∧ F_s_l01First P ρ ∧ E_s_l01Add P ρ
def F_s_l01Inverse (P : Program) (ρ : Nat → FuncId) : Prop := chkQF P ρ 274 qf_s_l01Inverse = true
def F_s_l01Put (P : Program) (ρ : Nat → FuncId) : Prop := chkQF P ρ 266 qf_s_l01Put = true ∧ F_s_l01By P ρ ∧ E_s_l01Zero P ρ ∧ F_s_l01First P ρ ∧ F_s_l01Inverse P ρ ∧ E_s_l01Add P ρ
def F_s_l01Reduce (P : Program) (ρ : Nat → FuncId) : Prop := chkQF P ρ 270 qf_s_l01Reduce = true ∧ F_s_l01Put P ρ
def F_s_l02Null (P : Program) (ρ : Nat → FuncId) : Prop := chkQF P ρ 284 qf_s_l02Null = true ∧ F_s_l01Reduce P ρ ∧ F_s_l01First P ρ ∧ E_s_l01Basis P ρ ∧ E_s_l01Mod P ρ
def F_s_l02Primitive (P : Program) (ρ : Nat → FuncId) : Prop := chkQF P ρ 423 qf_s_l02Primitive = true ∧ E_s_l01Mod P ρ ∧ F_s_l02Null P ρ
def F_s_PrimitiveSpace (P : Program) (ρ : Nat → FuncId) : Prop := chkQF P ρ 404 qf_s_PrimitiveSpace = true ∧ F_s_l02Code P ρ ∧ F_s_l02Group P ρ ∧ F_s_l02Primitive P ρ
def F_s_DrawLeastSubcoalgebra (P : Program) (ρ : Nat → FuncId) : Prop := chkQF P ρ 406 qf_s_DrawLeastSubcoalgebra = true ∧ F_s_l02One P ρ
def F_s_l02Sub (P : Program) (ρ : Nat → FuncId) : Prop := chkQF P ρ 425 qf_s_l02Sub = true ∧ F_s_l02Coproduct P ρ ∧ F_s_l01Put P ρ
def F_s_LeastSubcoalgebra (P : Program) (ρ : Nat → FuncId) : Prop := chkQF P ρ 407 qf_s_LeastSubcoalgebra = true ∧ F_s_l02Code P ρ ∧ F_s_l02Sub P ρ
def F_s_DrawIsSubcoalgebra (P : Program) (ρ : Nat → FuncId) : Prop := chkQF P ρ 409 qf_s_DrawIsSubcoalgebra = true ∧ F_s_l01From P ρ ∧ F_s_l02One P ρ ∧ F_s_l02Code P ρ ∧ F_s_l01Next P ρ ∧ F_s_l02Sub P ρ ∧ F_s_l02Any P ρ
def F_s_l02Closed (P : Program) (ρ : Nat → FuncId) : Prop := chkQF P ρ 427 qf_s_l02Closed = true ∧ F_s_l02Coproduct P ρ ∧ F_s_l01By P ρ ∧ E_s_l01Zero P ρ
def F_s_IsSubcoalgebra (P : Program) (ρ : Nat → FuncId) : Prop := chkQF P ρ 410 qf_s_IsSubcoalgebra = true ∧ F_s_l02Code P ρ ∧ F_s_l01Reduce P ρ ∧ F_s_l02Closed P ρ
def F_l_FnGroupLikes (P : Program) (ρ : Nat → FuncId) : Prop := chkQF P ρ 414 qf_l_FnGroupLikes = true ∧ F_l_big P ρ ∧ F_s_DrawIsGroupLike P ρ ∧ F_s_IsGroupLike P ρ ∧ F_i_IsGroupLike P ρ ∧ F_s_DrawGroupLikes P ρ ∧ F_s_GroupLikes P ρ ∧ F_i_GroupLikes P ρ ∧ F_l_vectors9 P ρ ∧ F_s_DrawPrimitiveSpace P ρ ∧ F_s_PrimitiveSpace P ρ ∧ F_i_PrimitiveSpace P ρ ∧ F_s_DrawLeastSubcoalgebra P ρ ∧ F_s_LeastSubcoalgebra P ρ ∧ F_i_LeastSubcoalgebra P ρ ∧ F_s_DrawIsSubcoalgebra P ρ ∧ F_s_IsSubcoalgebra P ρ ∧ F_i_IsSubcoalgebra P ρ ∧ F_i_ReduceVectors P ρ ∧ F_i_CoproductIn P ρ
end Hf
