import Derived.Test.YtkbgkjlgnmlghaaSeat0
import Derived.Test.YtkbgkjlgnmlghaaSymS
set_option linter.unusedSimpArgs false
set_option linter.unusedVariables false
namespace Go.Proofs.Ytkbgkjlgnmlghaa
open Go.Sim
set_option maxRecDepth 100000
def r28 : RFun :=
⟨.seq (.reg (some [0,1]) [Ol 4 (.assign (.const (.slice none 0 0))),Ac 5 0])
 (.seq (.seq (.reg (some [0,1]) [Mv 16 0,Ca 17 53 [.tmp 16] (some (.val (.one (.int .i64)))),As 6 17])
 (.seq (.reg (some [0,1,6]) [Mv 18 6,Bc 19 .neq 30 18 .i64 0])
 (.cond (.tmp 19) (.seq (.reg (some [6]) [Mv 20 6,Ol 4 (.assign (.const (.slice none 0 0))),As 5 20])
 .ret)
 .skip)))
 (.seq (.seq (.reg (some [0,1]) [Mv 21 0,Ro 22 (.lenS (.tmp 21)),Mv 23 1,Ca 24 14 [.tmp 22,.tmp 23] (some (.val (.one (.int .i64)))),As 7 24])
 (.seq (.reg (some [0,1,7]) [Mv 25 7,Bc 26 .neq 30 25 .i64 0])
 (.cond (.tmp 26) (.seq (.reg (some [7]) [Mv 27 7,Ol 4 (.assign (.const (.slice none 0 0))),As 5 27])
 .ret)
 .skip)))
 (.seq (.reg (some [0,1]) [Ol 8 (.assign (.const (.slice none 0 0)))])
 (.seq (.seq (.reg (some [0,1,8]) [Mv 28 1,Ro 29 (.lenS (.tmp 28)),Ol 30 (.move (.const (.int .i64 0)))])
 (.block 0 (.loop 9 (some [0,8,28,29,30]) (some [0,8,28,29,30]))))
 (.seq (.reg (some [8]) [Mv 77 8,As 4 77,Ac 5 0])
 .ret))))),
 [.tmp 4,.tmp 5],
 [(9,⟨some [0,8,28,29,30],some [0,8,28,29,30],.seq (.reg (some [0,8,28,29,30]) [Bt 31 .lss 3 30 29])
 (.seq (.cond (.tmp 31) .skip
 (.exit 0 (some [8])))
 (.seq (.block 1 (.seq (.reg (some [0,8,28,29,30]) [Ix 32 4 28 30,Ro 33 (.load 4 [.int .i64,.int .i64,.int .i64,.int .i64] (.tmp 32)),⟨some 10,none,.op true (.new 4 [.int .i64 0,.int .i64 0,.int .i64 0,.int .i64 0])⟩,⟨none,none,.op false (.store 4 (.tmp 10) (.tmp 33))⟩])
 (.seq (.reg (some [0,8,10,28,29,30]) [Mv 35 0,Ro 36 (.lenS (.tmp 35)),Ro 37 (.load 4 [.int .i64,.int .i64,.int .i64,.int .i64] (.tmp 10)),Ca 38 10 [.tmp 36,.tmp 37] (some (.tup [.one .slice,.one (.int .i64)])),Mv 34 38,Ex 39 34 0,Ex 40 34 1,As 11 39,As 12 40])
 (.seq (.seq (.reg (some [0,8,11,12,28,29,30]) [Mv 41 12,Bc 42 .neq 30 41 .i64 0])
 (.cond (.tmp 42) (.seq (.reg (some [12]) [Mv 43 12,Ol 4 (.assign (.const (.slice none 0 0))),As 5 43])
 .ret)
 .skip))
 (.seq (.reg (some [0,8,11,28,29,30]) [Ro 44 (.build [.int .i64 0,.int .i64 0,.int .i64 0] [(2,1,(.const (.int .i64 1)))]),⟨some 13,none,.op true (.new 3 [.int .i64 0,.int .i64 0,.int .i64 0])⟩,⟨none,none,.op false (.store 3 (.tmp 13) (.tmp 44))⟩])
 (.seq (.seq (.reg (some [0,8,11,13,28,29,30]) [Mv 45 11,Ro 46 (.lenS (.tmp 45)),Ol 47 (.move (.const (.int .i64 0)))])
 (.block 2 (.loop 16 (some [0,8,13,28,29,30,45,46,47]) (some [0,8,13,28,29,30,45,46,47]))))
 (.reg (some [0,8,13,28,29,30]) [Mv 72 8,Ro 73 (.load 3 [.int .i64,.int .i64,.int .i64] (.tmp 13)),Ro 74 (.buildSlice 3 1 [.int .i64 0,.int .i64 0,.int .i64 0] [(0,3,(.tmp 73))]),⟨some 75,none,.op false (.old (.call ⟨.builtin .append,#[.tmp 72,.tmp 74],#[27,27]⟩))⟩,As 8 75])))))))
 (.reg (some [0,8,28,29,30]) [Bc 76 .add 3 30 .i64 1,Mv 30 76])))⟩),(16,⟨some [0,8,13,28,29,30,45,46,47],some [0,8,13,28,29,30,45,46,47],.seq (.reg (some [0,8,13,28,29,30,45,46,47]) [Bt 48 .lss 3 47 46])
 (.seq (.cond (.tmp 48) .skip
 (.exit 2 (some [0,8,13,28,29,30])))
 (.seq (.block 3 (.seq (.reg (some [0,8,13,28,29,30,45,46,47]) [Ix 49 4 45 47,Ro 50 (.load 4 [.int .i64,.int .i64,.int .i64,.int .i64] (.tmp 49)),⟨some 15,none,.op true (.new 4 [.int .i64 0,.int .i64 0,.int .i64 0,.int .i64 0])⟩,⟨none,none,.op false (.store 4 (.tmp 15) (.tmp 50))⟩])
 (.seq (.draw (some [0,8,13,15,28,29,30,45,46,47]) 19 [Db (Ro 52 (.load 3 [.int .i64,.int .i64,.int .i64] (.tmp 13))) 0 13 [13,14,15,16,17,18],Dr (Fa 53 2 15) 1 [2,3,13,14,15,16,17,18],Db (Ld 54 53) 2 53 [3,13,14,15,16,17,18],Dr (Mv 56 0) 4 [7,8,11,12,13,14,15,16,17,18],Dr (Fa 57 1 15) 5 [6,7,8,11,12,13,14,15,16,17,18],Db (L1 58 57) 6 57 [7,8,11,12,13,14,15,16,17,18],Dr (Ix 59 1 56 58) 7 [8,11,12,13,14,15,16,17,18],Db (Ro 60 (.load1 .slice (.tmp 59))) 8 59 [11,12,13,14,15,16,17,18],Dr (Fa 61 0 15) 9 [10,11,12,13,14,15,16,17,18],Db (L1 62 61) 10 61 [11,12,13,14,15,16,17,18],Dr (Ix 63 3 60 62) 11 [12,13,14,15,16,17,18],Db (Ro 64 (.load 3 [.int .i64,.int .i64,.int .i64] (.tmp 63))) 12 63 [13,14,15,16,17,18],⟨Ca 55 42 [.tmp 54] (some (.val (.agg [.int .i64,.int .i64,.int .i64]))),3,.all,[13,14,15,16,17,18],false,false⟩,⟨Ca 65 41 [.tmp 52,.tmp 55,.tmp 64] (some (.tup [.agg [.int .i64,.int .i64,.int .i64],.one (.int .i64)])),13,.all,[14,15,16,17,18],false,false⟩,Dr (Mv 51 65) 14 [15,16,17,18],Dr (Ex 66 51 0) 15 [17,18],Dr (Ex 67 51 1) 16 [18],⟨⟨none,none,.op false (.store 3 (.tmp 13) (.tmp 66))⟩,17,.blk (.tmp 13),[18],true,true⟩,Dr (As 12 67) 18 []])
 (.seq (.reg (some [0,8,12,13,28,29,30,45,46,47]) [Mv 68 12,Bc 69 .neq 30 68 .i64 0])
 (.cond (.tmp 69) (.seq (.reg (some [12]) [Mv 70 12,Ol 4 (.assign (.const (.slice none 0 0))),As 5 70])
 .ret)
 .skip)))))
 (.reg (some [0,8,13,28,29,30,45,46,47]) [Bc 71 .add 3 47 .i64 1,Mv 47 71])))⟩)],
 []⟩
theorem r28_ok : resFun (progU ()) hint live 28 Try.f28 = some r28:=by kernel_rfl
def r30 : RFun :=
⟨.seq (.reg (some [0]) [Ol 2 (.assign (.const (.slice none 0 0))),Ac 3 0])
 (.seq (.seq (.reg (some [0]) [Mv 5 0,Ca 6 53 [.tmp 5] (some (.val (.one (.int .i64)))),As 4 6])
 (.seq (.reg (some [0,4]) [Mv 7 4,Bc 8 .neq 30 7 .i64 0])
 (.cond (.tmp 8) (.seq (.reg (some [4]) [Mv 9 4,Ol 2 (.assign (.const (.slice none 0 0))),As 3 9])
 .ret)
 .skip)))
 (.seq (.reg (some [0]) [Mv 10 0,Ca 11 54 [.tmp 10] (some (.val (.one .slice))),As 2 11,Ac 3 0])
 .ret)),
 [.tmp 2,.tmp 3],
 [],
 []⟩
theorem r30_ok : resFun (progU ()) hint live 30 Try.f30 = some r30:=by kernel_rfl
def r31 : RFun :=
⟨.seq (.reg (some [0,1]) [⟨some 4,none,.op true (.new 3 [.int .i64 0,.int .i64 0,.int .i64 0])⟩,Ac 5 0])
 (.seq (.seq (.reg (some [0,1,4]) [Mv 11 0,Ro 12 (.lenS (.tmp 11)),Bc 13 .gtr 3 12 .i64 64,Mv 14 13,⟨some 15,some (14,false),.op false (.old (.move (.tmp 1)))⟩,⟨some 16,some (14,false),.op false (.lenS (.tmp 15))⟩,⟨some 17,some (14,false),.op false (.old (.binOp .gtr 3 (.tmp 16) (.const (.int .i64 64)) 3))⟩,Ol 18 (.pick (.tmp 14) (.const (.bool true)) (.tmp 17))])
 (.cond (.tmp 18) (.seq (.reg (some [4]) [Ro 19 (.build [.int .i64 0,.int .i64 0,.int .i64 0] []),⟨none,none,.op false (.store 3 (.tmp 4) (.tmp 19))⟩,Ac 5 4])
 .ret)
 .skip))
 (.seq (.seq (.reg (some [0,1,4]) [Mv 20 0,Ro 21 (.lenS (.tmp 20)),Mv 22 1,Ro 23 (.lenS (.tmp 22)),Bt 24 .neq 3 21 23])
 (.cond (.tmp 24) (.seq (.reg (some [4]) [Ro 25 (.build [.int .i64 0,.int .i64 0,.int .i64 0] []),⟨none,none,.op false (.store 3 (.tmp 4) (.tmp 25))⟩,Ac 5 2])
 .ret)
 .skip))
 (.seq (.seq (.reg (some [0,1,4]) [Mv 26 0,Ca 27 40 [.tmp 26] (some (.val (.one .bool))),Ol 28 (.unOp .not 4 (.tmp 27)),Mv 29 28,⟨some 30,some (29,false),.op false (.old (.move (.tmp 1)))⟩,⟨some 31,some (29,false),.call (.func 40) [.tmp 30] (some (.val (.one .bool)))⟩,⟨some 32,some (29,false),.op false (.old (.unOp .not 4 (.tmp 31)))⟩,Ol 33 (.pick (.tmp 29) (.const (.bool true)) (.tmp 32))])
 (.cond (.tmp 33) (.seq (.reg (some [4]) [Ro 34 (.build [.int .i64 0,.int .i64 0,.int .i64 0] []),⟨none,none,.op false (.store 3 (.tmp 4) (.tmp 34))⟩,Ac 5 8])
 .ret)
 .skip))
 (.seq (.reg (some [0,1,4]) [Ro 35 (.build [.int .i64 0,.int .i64 0,.int .i64 0] [(2,1,(.const (.int .i64 1)))]),⟨some 6,none,.op true (.new 3 [.int .i64 0,.int .i64 0,.int .i64 0])⟩,⟨none,none,.op false (.store 3 (.tmp 6) (.tmp 35))⟩])
 (.seq (.seq (.reg (some [0,1,4,6]) [Mv 36 0,Ro 37 (.lenS (.tmp 36)),Ol 38 (.move (.const (.int .i64 0)))])
 (.block 0 (.loop 9 (some [1,4,6,36,37,38]) (some [1,4,6,36,37,38]))))
 (.seq (.reg (some [4,6]) [Ro 67 (.load 3 [.int .i64,.int .i64,.int .i64] (.tmp 6)),⟨none,none,.op false (.store 3 (.tmp 4) (.tmp 67))⟩,Ac 5 0])
 .ret)))))),
 [.agg 4 3 [.int .i64,.int .i64,.int .i64],.tmp 5],
 [(9,⟨some [1,4,6,36,37,38],some [1,4,6,36,37,38],.seq (.reg (some [1,4,6,36,37,38]) [Bt 39 .lss 3 38 37])
 (.seq (.cond (.tmp 39) .skip
 (.exit 0 (some [4,6])))
 (.seq (.block 1 (.seq (.reg (some [1,4,6,36,37,38]) [Mv 40 38,Ix 41 3 36 38,Ro 42 (.load 3 [.int .i64,.int .i64,.int .i64] (.tmp 41)),⟨some 8,none,.op true (.new 3 [.int .i64 0,.int .i64 0,.int .i64 0])⟩,As 7 40,⟨none,none,.op false (.store 3 (.tmp 8) (.tmp 42))⟩])
 (.seq (.reg (some [1,4,6,7,8,36,37,38]) [Mv 44 1,Mv 45 7,Ix 46 3 44 45,Ro 47 (.load 3 [.int .i64,.int .i64,.int .i64] (.tmp 46)),Ca 48 55 [.tmp 47] (some (.tup [.agg [.int .i64,.int .i64,.int .i64],.one (.int .i64)])),Mv 43 48,Ex 49 43 0,Ex 50 43 1,⟨some 9,none,.op true (.new 3 [.int .i64 0,.int .i64 0,.int .i64 0])⟩,⟨none,none,.op false (.store 3 (.tmp 9) (.tmp 49))⟩,As 10 50])
 (.seq (.seq (.reg (some [1,4,6,8,9,10,36,37,38]) [Mv 51 10,Bc 52 .neq 30 51 .i64 0])
 (.cond (.tmp 52) (.seq (.reg (some [4,10]) [Ro 53 (.build [.int .i64 0,.int .i64 0,.int .i64 0] []),Mv 54 10,⟨none,none,.op false (.store 3 (.tmp 4) (.tmp 53))⟩,As 5 54])
 .ret)
 .skip))
 (.seq (.reg (some [1,4,6,8,9,36,37,38]) [Ro 56 (.load 3 [.int .i64,.int .i64,.int .i64] (.tmp 6)),Ro 57 (.load 3 [.int .i64,.int .i64,.int .i64] (.tmp 8)),Ro 58 (.load 3 [.int .i64,.int .i64,.int .i64] (.tmp 9)),Ca 59 41 [.tmp 56,.tmp 57,.tmp 58] (some (.tup [.agg [.int .i64,.int .i64,.int .i64],.one (.int .i64)])),Mv 55 59,Ex 60 55 0,Ex 61 55 1,⟨none,none,.op false (.store 3 (.tmp 6) (.tmp 60))⟩,As 10 61])
 (.seq (.reg (some [1,4,6,10,36,37,38]) [Mv 62 10,Bc 63 .neq 30 62 .i64 0])
 (.cond (.tmp 63) (.seq (.reg (some [4,10]) [Ro 64 (.build [.int .i64 0,.int .i64 0,.int .i64 0] []),Mv 65 10,⟨none,none,.op false (.store 3 (.tmp 4) (.tmp 64))⟩,As 5 65])
 .ret)
 .skip)))))))
 (.reg (some [1,4,6,36,37,38]) [Bc 66 .add 3 38 .i64 1,Mv 38 66])))⟩)],
 []⟩
theorem r31_ok : resFun (progU ()) hint live 31 Try.f31 = some r31:=by kernel_rfl
def r33 : RFun :=
⟨.seq (.reg (some [0]) [Ol 2 (.assign (.const (.bool false)))])
 (.seq (.seq (.reg (some [0]) [Ac 3 0])
 (.block 0 (.loop 2 none (some [0,3]))))
 (.seq (.reg (some [0]) [Mv 16 0,Ro 17 (.lenS (.tmp 16)),Bc 18 .gtr 3 17 .i64 20,As 2 18])
 .ret)),
 [.tmp 2],
 [(2,⟨none,some [0,3],.seq (.seq (.reg (some [0,3]) [Mv 4 3,Mv 5 0,Ro 6 (.lenS (.tmp 5)),Bt 7 .lss 3 4 6])
 (.cond (.tmp 7) .skip
 (.exit 0 (some [0]))))
 (.seq (.block 1 (.seq (.reg (some [0,3]) [Mv 10 0,Mv 11 3,Ix 12 1 10 11,Ro 13 (.load1 .slice (.tmp 12)),Ro 14 (.lenS (.tmp 13)),Bc 15 .gtr 3 14 .i64 20])
 (.cond (.tmp 15) (.seq (.reg (some []) [Ol 2 (.assign (.const (.bool true)))])
 .ret)
 .skip)))
 (.reg (some [0,3]) [Mv 8 3,Bc 9 .add 3 8 .i64 1,As 3 9]))⟩)],
 []⟩
theorem r33_ok : resFun (progU ()) hint live 33 Try.f33 = some r33:=by kernel_rfl
def r34 : RFun :=
⟨.seq (.reg (some [0]) [⟨some 1,none,.op true (.box 2 (.tmp 0))⟩,Ac 2 0,⟨some 3,none,.op true (.new 4 [.int .i64 0,.int .i64 0,.int .i64 0,.int .i64 0])⟩,Ac 4 0])
 (.seq (.reg (some [1,3]) [Ld 10 1,Ca 11 56 [.tmp 10] (some (.tup [.one (.int .i64),.one (.int .i64)])),Mv 9 11,Ex 12 9 0,Ex 13 9 1,As 5 12,As 6 13])
 (.seq (.seq (.reg (some [1,3,5,6]) [Mv 14 6,Bc 15 .neq 30 14 .i64 0])
 (.cond (.tmp 15) (.seq (.reg (some [3,6]) [Ro 16 (.build [.int .i64 0,.int .i64 0,.int .i64 0,.int .i64 0] []),Mv 17 6,Ac 2 0,⟨none,none,.op false (.store 4 (.tmp 3) (.tmp 16))⟩,As 4 17])
 .ret)
 .skip))
 (.seq (.reg (some [1,3,5]) [Ld 19 1,Mv 20 5,Ro 21 (.build [.int .i64 0,.int .i64 0] [(0,1,(.tmp 20)),(1,1,(.const (.int .i64 1)))]),Ca 22 57 [.tmp 19,.tmp 21] (some (.tup [.agg [.int .i64,.int .i64],.one (.int .i64)])),Mv 18 22,Ex 23 18 0,Ex 24 18 1,⟨some 7,none,.op true (.new 2 [.int .i64 0,.int .i64 0])⟩,⟨none,none,.op false (.store 2 (.tmp 7) (.tmp 23))⟩,As 6 24])
 (.seq (.seq (.reg (some [3,5,6,7]) [Mv 25 6,Bc 26 .neq 30 25 .i64 0])
 (.cond (.tmp 26) (.seq (.reg (some [3,6]) [Ro 27 (.build [.int .i64 0,.int .i64 0,.int .i64 0,.int .i64 0] []),Mv 28 6,Ac 2 0,⟨none,none,.op false (.store 4 (.tmp 3) (.tmp 27))⟩,As 4 28])
 .ret)
 .skip))
 (.seq (.reg (some [3,5,7]) [Ro 30 (.build [.int .i64 0,.int .i64 0] [(0,1,(.const (.int .i64 1))),(1,1,(.const (.int .i64 1)))]),Ld 31 7,Ca 32 57 [.tmp 30,.tmp 31] (some (.tup [.agg [.int .i64,.int .i64],.one (.int .i64)])),Mv 29 32,Ex 33 29 0,Ex 34 29 1,⟨some 8,none,.op true (.new 2 [.int .i64 0,.int .i64 0])⟩,⟨none,none,.op false (.store 2 (.tmp 8) (.tmp 33))⟩,As 6 34])
 (.seq (.draw (some [3,5,6,7,8]) 8 [Dr (Mv 35 5) 0 [5,6,7],Db (Ld 36 8) 1 8 [3,6,7],Db (Ld 37 7) 2 7 [3,6,7],Dr (Ro 38 (.build [.int .i64 0,.int .i64 0,.int .i64 0,.int .i64 0] [(0,2,(.tmp 36)),(2,2,(.tmp 37))])) 3 [6,7],Dr (Mv 39 6) 4 [7],Dr (As 2 35) 5 [6,7],⟨⟨none,none,.op false (.store 4 (.tmp 3) (.tmp 38))⟩,6,.blk (.tmp 3),[7],true,true⟩,Dr (As 4 39) 7 []])
 .ret)))))),
 [.tmp 2,.agg 3 4 [.int .i64,.int .i64,.int .i64,.int .i64],.tmp 4],
 [],
 []⟩
theorem r34_ok : resFun (progU ()) hint live 34 Try.f34 = some r34:=by kernel_rfl
def r35 : RFun :=
⟨.seq (.reg (some [0,1]) [Mv 5 0,Ro 6 (.lenS (.tmp 5)),As 4 6])
 (.reg (some [0,1,4]) [Mv 7 0,Mv 8 4,Mv 9 4,Ro 10 (.convI .u64 (.tmp 9)),Ca 11 59 [.tmp 10] (some (.val (.one (.int .i64)))),Mv 12 1,Ca 13 58 [.tmp 7,.const (.int .i64 0),.tmp 8,.tmp 11,.tmp 12] (some (.tup []))]),
 [],
 [],
 []⟩
theorem r35_ok : resFun (progU ()) hint live 35 Try.f35 = some r35:=by kernel_rfl
def r36 : RFun :=
⟨.seq (.reg (some [0,1]) [⟨some 2,none,.op true (.box 4 (.tmp 0))⟩,⟨some 3,none,.op true (.box 4 (.tmp 1))⟩,Ac 4 0])
 (.seq (.draw (some [2,3]) 13 [Dr (Fa 5 1 2) 0 [1,4,9,10,11,12],Db (L1 6 5) 1 5 [4,9,10,11,12],Dr (Fa 7 1 3) 2 [3,4,9,10,11,12],Db (L1 8 7) 3 7 [4,9,10,11,12],Dr (Fa 10 0 2) 5 [6,9,10,11,12],Db (L1 11 10) 6 10 [9,10,11,12],Dr (Fa 12 0 3) 7 [8,9,10,11,12],Db (L1 13 12) 8 12 [9,10,11,12],⟨Ca 9 38 [.tmp 6,.tmp 8] (some (.val (.one (.int .i64)))),4,.all,[9,10,11,12],false,false⟩,⟨Ca 14 38 [.tmp 11,.tmp 13] (some (.val (.one (.int .i64)))),9,.all,[10,11,12],false,false⟩,⟨Ro 15 (.buildSlice 1 2 [.int .i64 0,.int .i64 0] [(0,1,(.tmp 9)),(1,1,(.tmp 14))]),10,.new false,[11,12],false,true⟩,⟨Ca 16 37 [.tmp 15] (some (.val (.one (.int .i64)))),11,.all,[12],false,false⟩,Dr (As 4 16) 12 []])
 .ret),
 [.tmp 4],
 [],
 []⟩
theorem r36_ok : resFun (progU ()) hint live 36 Try.f36 = some r36:=by kernel_rfl
def r37 : RFun :=
⟨.seq (.reg (some [0]) [Ac 2 0])
 (.seq (.reg (some [0]) [Ac 3 0])
 (.seq (.seq (.reg (some [0,3]) [Mv 6 0,Ro 7 (.lenS (.tmp 6)),Ol 8 (.move (.const (.int .i64 0)))])
 (.block 0 (.loop 3 none (some [3,6,7,8]))))
 (.seq (.reg (some [3]) [Mv 17 3,As 2 17])
 .ret))),
 [.tmp 2],
 [(3,⟨none,some [3,6,7,8],.seq (.reg (some [3,6,7,8]) [Bt 9 .lss 3 8 7])
 (.seq (.cond (.tmp 9) .skip
 (.exit 0 (some [3])))
 (.seq (.block 1 (.seq (.reg (some [3,6,7,8]) [Ix 10 1 6 8,L1 11 10,As 5 11])
 (.seq (.reg (some [3,5,6,7,8]) [Mv 12 5,Mv 13 3,Bt 14 .neq 3 12 13])
 (.cond (.tmp 14) (.seq (.reg (some [5]) [Mv 15 5,As 2 15])
 .ret)
 .skip))))
 (.reg (some [3,6,7,8]) [Bc 16 .add 3 8 .i64 1,Mv 8 16])))⟩)],
 []⟩
theorem r37_ok : resFun (progU ()) hint live 37 Try.f37 = some r37:=by kernel_rfl
def r38 : RFun :=
⟨.seq (.reg (some [0,1]) [Ac 4 0])
 (.seq (.reg (some [0,1]) [Mv 7 0,Ca 8 60 [.tmp 7] (some (.val (.one .bool))),As 5 8])
 (.seq (.reg (some [0,1,5]) [Mv 9 1,Ca 10 60 [.tmp 9] (some (.val (.one .bool))),As 6 10])
 (.seq (.seq (.reg (some [0,1,5,6]) [Mv 11 5])
 (.cond (.tmp 11) (.seq (.seq (.reg (some [6]) [Mv 12 6])
 (.cond (.tmp 12) (.seq (.reg (some []) [Ac 4 0])
 .ret)
 .skip))
 (.seq (.reg (some []) [Ol 4 (.assign (.const (.int .i64 (-1))))])
 .ret))
 .skip))
 (.seq (.seq (.reg (some [0,1,6]) [Mv 13 6])
 (.cond (.tmp 13) (.seq (.reg (some []) [Ac 4 1])
 .ret)
 .skip))
 (.seq (.seq (.reg (some [0,1]) [Mv 14 0,Mv 15 1,Bt 16 .lss 3 14 15])
 (.cond (.tmp 16) (.seq (.reg (some []) [Ol 4 (.assign (.const (.int .i64 (-1))))])
 .ret)
 .skip))
 (.seq (.seq (.reg (some [0,1]) [Mv 17 0,Mv 18 1,Bt 19 .gtr 3 17 18])
 (.cond (.tmp 19) (.seq (.reg (some []) [Ac 4 1])
 .ret)
 .skip))
 (.seq (.reg (some []) [Ac 4 0])
 .ret))))))),
 [.tmp 4],
 [],
 []⟩
theorem r38_ok : resFun (progU ()) hint live 38 Try.f38 = some r38:=by kernel_rfl
def r40 : RFun :=
⟨.seq (.reg (some [0]) [Ol 2 (.assign (.const (.bool false)))])
 (.seq (.seq (.reg (some [0]) [Mv 5 0,Ro 6 (.lenS (.tmp 5)),Ol 7 (.move (.const (.int .i64 0)))])
 (.block 0 (.loop 2 (some [5,6,7]) (some [5,6,7]))))
 (.seq (.reg (some []) [Ol 2 (.assign (.const (.bool true)))])
 .ret)),
 [.tmp 2],
 [(2,⟨some [5,6,7],some [5,6,7],.seq (.reg (some [5,6,7]) [Bt 8 .lss 3 7 6])
 (.seq (.cond (.tmp 8) .skip
 (.exit 0 (some [])))
 (.seq (.block 1 (.seq (.reg (some [5,6,7]) [Ix 9 3 5 7,Ro 10 (.load 3 [.int .i64,.int .i64,.int .i64] (.tmp 9)),⟨some 4,none,.op true (.new 3 [.int .i64 0,.int .i64 0,.int .i64 0])⟩,⟨none,none,.op false (.store 3 (.tmp 4) (.tmp 10))⟩])
 (.seq (.reg (some [4,5,6,7]) [Ro 11 (.load 3 [.int .i64,.int .i64,.int .i64] (.tmp 4)),Ca 12 63 [.tmp 11] (some (.val (.one (.int .i64)))),Bc 13 .neq 30 12 .i64 0])
 (.cond (.tmp 13) (.seq (.reg (some []) [Ol 2 (.assign (.const (.bool false)))])
 .ret)
 .skip))))
 (.reg (some [5,6,7]) [Bc 14 .add 3 7 .i64 1,Mv 7 14])))⟩)],
 []⟩
theorem r40_ok : resFun (progU ()) hint live 40 Try.f40 = some r40:=by kernel_rfl
def r41 : RFun :=
⟨.seq (.reg (some [0,1,2]) [⟨some 3,none,.op true (.box 3 (.tmp 0))⟩,⟨some 4,none,.op true (.box 3 (.tmp 1))⟩,⟨some 5,none,.op true (.box 3 (.tmp 2))⟩,⟨some 6,none,.op true (.new 3 [.int .i64 0,.int .i64 0,.int .i64 0])⟩,Ac 7 0])
 (.seq (.reg (some [3,4,5,6]) [Ro 11 (.load 3 [.int .i64,.int .i64,.int .i64] (.tmp 4)),Ro 12 (.load 3 [.int .i64,.int .i64,.int .i64] (.tmp 5)),Ca 13 21 [.tmp 11,.tmp 12] (some (.tup [.agg [.int .i64,.int .i64,.int .i64],.one (.int .i64)])),Mv 10 13,Ex 14 10 0,Ex 15 10 1,⟨some 8,none,.op true (.new 3 [.int .i64 0,.int .i64 0,.int .i64 0])⟩,⟨none,none,.op false (.store 3 (.tmp 8) (.tmp 14))⟩,As 9 15])
 (.seq (.seq (.reg (some [3,6,8,9]) [Mv 16 9,Bc 17 .neq 30 16 .i64 0])
 (.cond (.tmp 17) (.seq (.reg (some [6,9]) [Ro 18 (.build [.int .i64 0,.int .i64 0,.int .i64 0] []),Mv 19 9,⟨none,none,.op false (.store 3 (.tmp 6) (.tmp 18))⟩,As 7 19])
 .ret)
 .skip))
 (.seq (.reg (some [3,6,8]) [Ro 20 (.load 3 [.int .i64,.int .i64,.int .i64] (.tmp 3)),Ro 21 (.load 3 [.int .i64,.int .i64,.int .i64] (.tmp 8)),Ca 22 22 [.tmp 20,.tmp 21] (some (.tup [.agg [.int .i64,.int .i64,.int .i64],.one (.int .i64)])),Ex 23 22 0,Ex 24 22 1,⟨none,none,.op false (.store 3 (.tmp 6) (.tmp 23))⟩,As 7 24])
 .ret))),
 [.agg 6 3 [.int .i64,.int .i64,.int .i64],.tmp 7],
 [],
 []⟩
theorem r41_ok : resFun (progU ()) hint live 41 Try.f41 = some r41:=by kernel_rfl
def r42 : RFun :=
⟨.seq (.reg (some [0]) [⟨some 1,none,.op true (.box 2 (.tmp 0))⟩,⟨some 2,none,.op true (.new 3 [.int .i64 0,.int .i64 0,.int .i64 0])⟩])
 (.seq (.reg (some [1,2]) [Fa 3 0 1,L1 4 3,Fa 5 1 1,L1 6 5,Ro 7 (.build [.int .i64 0,.int .i64 0,.int .i64 0] [(0,1,(.tmp 4)),(2,1,(.tmp 6))]),⟨none,none,.op false (.store 3 (.tmp 2) (.tmp 7))⟩])
 .ret),
 [.agg 2 3 [.int .i64,.int .i64,.int .i64]],
 [],
 []⟩
theorem r42_ok : resFun (progU ()) hint live 42 Try.f42 = some r42:=by kernel_rfl
def r43 : RFun :=
⟨.seq (.reg (some [0]) [Ol 2 (.assign (.const (.bool false)))])
 (.seq (.seq (.reg (some [0]) [Ac 3 0])
 (.block 0 (.loop 2 none (some [0,3]))))
 (.seq (.reg (some []) [Ol 2 (.assign (.const (.bool true)))])
 .ret)),
 [.tmp 2],
 [(2,⟨none,some [0,3],.seq (.seq (.reg (some [0,3]) [Mv 4 3,Mv 5 0,Ro 6 (.lenS (.tmp 5)),Bt 7 .lss 3 4 6])
 (.cond (.tmp 7) .skip
 (.exit 0 (some []))))
 (.seq (.block 1 (.seq (.reg (some [0,3]) [Mv 10 0,Mv 11 3,Ix 12 3 10 11,Ro 13 (.load 3 [.int .i64,.int .i64,.int .i64] (.tmp 12)),Ca 14 20 [.tmp 13] (some (.val (.one (.int .i64)))),Bc 15 .neq 3 14 .i64 0])
 (.cond (.tmp 15) (.seq (.reg (some []) [Ol 2 (.assign (.const (.bool false)))])
 .ret)
 .skip)))
 (.reg (some [0,3]) [Mv 8 3,Bc 9 .add 3 8 .i64 1,As 3 9]))⟩)],
 []⟩
theorem r43_ok : resFun (progU ()) hint live 43 Try.f43 = some r43:=by kernel_rfl
def r45 : RFun :=
⟨.seq (.reg (some [0,1]) [⟨some 3,none,.op true (.box 2 (.tmp 1))⟩,Ol 4 (.assign (.const (.bool false)))])
 (.seq (.seq (.reg (some [0,3]) [Ld 7 3,Ca 8 66 [.tmp 7] (some (.val (.one (.int .i64)))),Bc 9 .neq 30 8 .i64 0,Mv 10 9,⟨some 11,some (10,false),.op false (.fieldAddr 1 (.tmp 3))⟩,⟨some 12,some (10,false),.op false (.load1 (.int .i64) (.tmp 11))⟩,⟨some 13,some (10,false),.op false (.old (.binOp .gtr 2 (.tmp 12) (.const (.int .i64 6)) 2))⟩,Ol 14 (.pick (.tmp 10) (.const (.bool true)) (.tmp 13)),Mv 15 14,⟨some 16,some (15,false),.op false (.fieldAddr 0 (.tmp 3))⟩,⟨some 17,some (15,false),.op false (.load1 (.int .i64) (.tmp 16))⟩,⟨some 18,some (15,false),.op false (.old (.binOp .lss 2 (.tmp 17) (.const (.int .i64 0)) 2))⟩,Ol 19 (.pick (.tmp 15) (.const (.bool true)) (.tmp 18))])
 (.cond (.tmp 19) (.seq (.reg (some []) [Ol 4 (.assign (.const (.bool false)))])
 .ret)
 .skip))
 (.seq (.reg (some [0,3]) [Ld 21 3,Mv 22 0,Ro 23 (.build [.int .i64 0,.int .i64 0] [(0,1,(.tmp 22)),(1,1,(.const (.int .i64 1)))]),Ca 24 67 [.tmp 21,.tmp 23] (some (.tup [.one (.int .i64),.one (.int .i64)])),Mv 20 24,Ex 25 20 0,Ex 26 20 1,As 5 25,As 6 26])
 (.seq (.reg (some [5,6]) [Mv 27 6,Bc 28 .eql 30 27 .i64 0,Mv 29 28,⟨some 30,some (29,true),.op false (.old (.move (.tmp 5)))⟩,⟨some 31,some (29,true),.op false (.old (.binOp .lss 3 (.tmp 30) (.const (.int .i64 0)) 3))⟩,Ol 32 (.pick (.tmp 29) (.tmp 31) (.const (.bool false))),As 4 32])
 .ret))),
 [.tmp 4],
 [],
 []⟩
theorem r45_ok : resFun (progU ()) hint live 45 Try.f45 = some r45:=by kernel_rfl
def r46 : RFun :=
⟨.seq (.reg (some [0,1]) [⟨some 3,none,.op true (.box 2 (.tmp 1))⟩,Ol 4 (.assign (.const (.bool false)))])
 (.seq (.draw (some [0,3]) 20 [Db (Ld 5 3) 0 3 [1,2,3,4,5,6,7,8,9,10,11,12,13,14,15,16,17,18,19],⟨Ca 6 68 [.tmp 5] (some (.val (.one (.int .i64)))),1,.all,[2,3,4,5,6,7,8,9,10,11,12,13,14,15,16,17,18,19],false,false⟩,Dr (Bc 7 .eql 3 6 .i64 0) 2 [3,4,5,6,7,8,9,10,11,12,13,14,15,16,17,18,19],Dr (Mv 8 7) 3 [4,5,6,7,8,9,10,11,12,13,14,15,16,17,18,19],⟨⟨some 9,some (8,true),.op false (.fieldAddr 0 (.tmp 3))⟩,4,.none,[5,6,7,8,9,10,11,12,13,14,15,16,17,18,19],false,true⟩,⟨⟨some 10,some (8,true),.op false (.load1 (.int .i64) (.tmp 9))⟩,5,.blk (.tmp 9),[6,7,8,9,10,11,12,13,14,15,16,17,18,19],false,true⟩,⟨⟨some 11,some (8,true),.op false (.old (.binOp .geq 2 (.tmp 10) (.const (.int .i64 0)) 2))⟩,6,.none,[7,8,9,10,11,12,13,14,15,16,17,18,19],false,true⟩,Dr (Ol 12 (.pick (.tmp 8) (.tmp 11) (.const (.bool false)))) 7 [8,9,10,11,12,13,14,15,16,17,18,19],Dr (Mv 13 12) 8 [9,10,11,12,13,14,15,16,17,18,19],⟨⟨some 14,some (13,true),.op false (.fieldAddr 1 (.tmp 3))⟩,9,.none,[10,11,12,13,14,15,16,17,18,19],false,true⟩,⟨⟨some 15,some (13,true),.op false (.load1 (.int .i64) (.tmp 14))⟩,10,.blk (.tmp 14),[11,12,13,14,15,16,17,18,19],false,true⟩,⟨⟨some 16,some (13,true),.op false (.old (.binOp .leq 2 (.tmp 15) (.const (.int .i64 6)) 2))⟩,11,.none,[12,13,14,15,16,17,18,19],false,true⟩,Dr (Ol 17 (.pick (.tmp 13) (.tmp 16) (.const (.bool false)))) 12 [13,14,15,16,17,18,19],Dr (Mv 18 17) 13 [14,15,16,17,18,19],⟨⟨some 19,some (18,true),.op false (.load 2 [.int .i64,.int .i64] (.tmp 3))⟩,14,.blk (.tmp 3),[17,18,19],false,true⟩,⟨⟨some 20,some (18,true),.op false (.old (.move (.tmp 0)))⟩,15,.none,[16,17,18,19],false,true⟩,⟨⟨some 21,some (18,true),.call (.func 24) [.tmp 20] (some (.val (.agg [.int .i64,.int .i64])))⟩,16,.all,[17,18,19],false,false⟩,⟨⟨some 22,some (18,true),.call (.func 69) [.tmp 19,.tmp 21] (some (.val (.one .bool)))⟩,17,.all,[18,19],false,false⟩,Dr (Ol 23 (.pick (.tmp 18) (.tmp 22) (.const (.bool false)))) 18 [19],Dr (As 4 23) 19 []])
 .ret),
 [.tmp 4],
 [],
 []⟩
theorem r46_ok : resFun (progU ()) hint live 46 Try.f46 = some r46:=by kernel_rfl
def r47 : RFun :=
⟨.seq (.reg (some [0,1]) [Ac 4 0])
 (.seq (.reg (some [0,1]) [Mv 5 0,Mv 6 0,Ol 7 (.unOp .neg 2 (.tmp 6)),⟨some 8,none,.op false (.old (.call ⟨.builtin .max,#[.tmp 5,.tmp 7],#[2,2]⟩))⟩,Mv 9 1,Mv 10 1,Ol 11 (.unOp .neg 2 (.tmp 10)),⟨some 12,none,.op false (.old (.call ⟨.builtin .max,#[.tmp 9,.tmp 11],#[2,2]⟩))⟩,As 0 8,As 1 12])
 (.seq (.block 0 (.loop 2 (some [0,1]) (some [0,1])))
 (.seq (.reg (some [0]) [Mv 19 0,As 4 19])
 .ret))),
 [.tmp 4],
 [(2,⟨some [0,1],some [0,1],.seq (.seq (.reg (some [0,1]) [Mv 13 1,Bc 14 .neq 2 13 .i64 0])
 (.cond (.tmp 14) .skip
 (.exit 0 (some [0]))))
 (.block 1 (.draw (some [0,1]) 6 [Dr (Mv 15 1) 0 [4,5],Dr (Mv 16 0) 1 [3,4,5],Dr (Mv 17 1) 2 [3,5],Dr (Bt 18 .rem 2 16 17) 3 [5],Dr (As 0 15) 4 [5],Dr (As 1 18) 5 []]))⟩)],
 []⟩
theorem r47_ok : resFun (progU ()) hint live 47 Try.f47 = some r47:=by kernel_rfl
def r48 : RFun :=
⟨.seq (.reg (some [0,1]) [⟨some 2,none,.op true (.box 3 (.tmp 0))⟩,⟨some 3,none,.op true (.box 3 (.tmp 1))⟩,Ac 4 0])
 (.seq (.seq (.reg (some [2,3]) [Ro 6 (.load 3 [.int .i64,.int .i64,.int .i64] (.tmp 2)),Ca 7 63 [.tmp 6] (some (.val (.one (.int .i64)))),As 5 7])
 (.seq (.reg (some [3,5]) [Mv 8 5,Bc 9 .neq 30 8 .i64 0])
 (.cond (.tmp 9) (.seq (.reg (some [5]) [Mv 10 5,As 4 10])
 .ret)
 .skip)))
 (.seq (.reg (some [3]) [Ro 11 (.load 3 [.int .i64,.int .i64,.int .i64] (.tmp 3)),Ca 12 63 [.tmp 11] (some (.val (.one (.int .i64)))),As 4 12])
 .ret)),
 [.tmp 4],
 [],
 []⟩
theorem r48_ok : resFun (progU ()) hint live 48 Try.f48 = some r48:=by kernel_rfl
def r49 : RFun :=
⟨.seq (.reg (some [0,1,2]) [⟨some 6,none,.op true (.new 3 [.int .i64 0,.int .i64 0,.int .i64 0])⟩,Ac 7 0])
 (.seq (.seq (.reg (some [0,1,2,6]) [Mv 12 0,Mv 13 1,Mv 14 2,Ro 15 (.build [.int .i64 0,.int .i64 0,.int .i64 0] [(0,1,(.tmp 12)),(1,1,(.tmp 13)),(2,1,(.tmp 14))]),Ol 16 (.move (.const (.int .i64 0)))])
 (.block 0 (.loop 2 none (some [0,1,2,6,15,16]))))
 (.seq (.seq (.reg (some [0,1,2,6]) [Mv 27 2,Bc 28 .eql 2 27 .i64 0])
 (.cond (.tmp 28) (.seq (.reg (some [6]) [Ro 29 (.build [.int .i64 0,.int .i64 0,.int .i64 0] []),⟨none,none,.op false (.store 3 (.tmp 6) (.tmp 29))⟩,Ac 7 18])
 .ret)
 .skip))
 (.seq (.reg (some [0,1,2,6]) [Mv 30 0,Mv 31 1,Ca 32 70 [.tmp 30,.tmp 31] (some (.val (.one (.int .i64)))),Mv 33 2,Ca 34 70 [.tmp 32,.tmp 33] (some (.val (.one (.int .i64)))),As 10 34])
 (.seq (.seq (.reg (some [0,1,2,6,10]) [Mv 35 2,Bc 36 .lss 2 35 .i64 0])
 (.cond (.tmp 36) (.reg (some [0,1,2,6,10]) [Mv 37 10,Ol 38 (.unOp .neg 2 (.tmp 37)),As 10 38])
 .skip))
 (.seq (.draw (some [0,1,2,6,10]) 12 [Dr (Mv 39 0) 0 [2,9,11],Dr (Mv 40 10) 1 [2,9,11],Dr (Bt 41 .quo 2 39 40) 2 [9,11],Dr (Mv 42 1) 3 [5,9,11],Dr (Mv 43 10) 4 [5,9,11],Dr (Bt 44 .quo 2 42 43) 5 [9,11],Dr (Mv 45 2) 6 [8,9,11],Dr (Mv 46 10) 7 [8,9,11],Dr (Bt 47 .quo 2 45 46) 8 [9,11],Dr (Ro 48 (.build [.int .i64 0,.int .i64 0,.int .i64 0] [(0,1,(.tmp 41)),(1,1,(.tmp 44)),(2,1,(.tmp 47))])) 9 [11],⟨⟨some 11,none,.op true (.new 3 [.int .i64 0,.int .i64 0,.int .i64 0])⟩,10,.new true,[11],false,true⟩,⟨⟨none,none,.op false (.store 3 (.tmp 11) (.tmp 48))⟩,11,.blk (.tmp 11),[],true,true⟩])
 (.seq (.seq (.reg (some [6,11]) [Fa 49 0 11,L1 50 49,Ca 51 71 [.tmp 50] (some (.val (.one .bool))),Ol 52 (.unOp .not 4 (.tmp 51)),Mv 53 52,⟨some 54,some (53,false),.op false (.fieldAddr 1 (.tmp 11))⟩,⟨some 55,some (53,false),.op false (.load1 (.int .i64) (.tmp 54))⟩,⟨some 56,some (53,false),.call (.func 71) [.tmp 55] (some (.val (.one .bool)))⟩,⟨some 57,some (53,false),.op false (.old (.unOp .not 4 (.tmp 56)))⟩,Ol 58 (.pick (.tmp 53) (.const (.bool true)) (.tmp 57)),Mv 59 58,⟨some 60,some (59,false),.op false (.fieldAddr 2 (.tmp 11))⟩,⟨some 61,some (59,false),.op false (.load1 (.int .i64) (.tmp 60))⟩,⟨some 62,some (59,false),.call (.func 71) [.tmp 61] (some (.val (.one .bool)))⟩,⟨some 63,some (59,false),.op false (.old (.unOp .not 4 (.tmp 62)))⟩,Ol 64 (.pick (.tmp 59) (.const (.bool true)) (.tmp 63))])
 (.cond (.tmp 64) (.seq (.reg (some [6]) [Ro 65 (.build [.int .i64 0,.int .i64 0,.int .i64 0] []),⟨none,none,.op false (.store 3 (.tmp 6) (.tmp 65))⟩,Ac 7 16])
 .ret)
 .skip))
 (.seq (.reg (some [6,11]) [Ro 66 (.load 3 [.int .i64,.int .i64,.int .i64] (.tmp 11)),⟨none,none,.op false (.store 3 (.tmp 6) (.tmp 66))⟩,Ac 7 0])
 .ret))))))),
 [.agg 6 3 [.int .i64,.int .i64,.int .i64],.tmp 7],
 [(2,⟨none,some [0,1,2,6,15,16],.seq (.reg (some [0,1,2,6,15,16]) [Bc 17 .lss 3 16 .i64 3])
 (.seq (.cond (.tmp 17) .skip
 (.exit 0 (some [0,1,2,6])))
 (.seq (.block 1 (.seq (.reg (some [0,1,2,6,15,16]) [Ol 18 (.index 108 (.tmp 15) (.tmp 16)),As 9 18])
 (.seq (.reg (some [0,1,2,6,9,15,16]) [Mv 19 9,Ol 20 (.binOp .lss 2 (.tmp 19) (.const (.int .i64 (-2000000000000000000))) 2),Mv 21 20,⟨some 22,some (21,false),.op false (.old (.move (.tmp 9)))⟩,⟨some 23,some (21,false),.op false (.old (.binOp .gtr 2 (.tmp 22) (.const (.int .i64 2000000000000000000)) 2))⟩,Ol 24 (.pick (.tmp 21) (.const (.bool true)) (.tmp 23))])
 (.cond (.tmp 24) (.seq (.reg (some [6]) [Ro 25 (.build [.int .i64 0,.int .i64 0,.int .i64 0] []),⟨none,none,.op false (.store 3 (.tmp 6) (.tmp 25))⟩,Ac 7 2])
 .ret)
 .skip))))
 (.reg (some [0,1,2,6,15,16]) [Bc 26 .add 3 16 .i64 1,Mv 16 26])))⟩)],
 []⟩
theorem r49_ok : resFun (progU ()) hint live 49 Try.f49 = some r49:=by kernel_rfl
def r50 : RFun :=
⟨.seq (.reg (some [0,1]) [⟨some 2,none,.op true (.box 2 (.tmp 0))⟩,⟨some 3,none,.op true (.box 2 (.tmp 1))⟩,Ac 4 0])
 (.seq (.seq (.reg (some [2,3]) [Ld 6 2,Ca 7 66 [.tmp 6] (some (.val (.one (.int .i64)))),As 5 7])
 (.seq (.reg (some [3,5]) [Mv 8 5,Bc 9 .neq 30 8 .i64 0])
 (.cond (.tmp 9) (.seq (.reg (some [5]) [Mv 10 5,As 4 10])
 .ret)
 .skip)))
 (.seq (.reg (some [3]) [Ld 11 3,Ca 12 66 [.tmp 11] (some (.val (.one (.int .i64)))),As 4 12])
 .ret)),
 [.tmp 4],
 [],
 []⟩
theorem r50_ok : resFun (progU ()) hint live 50 Try.f50 = some r50:=by kernel_rfl
def r51 : RFun :=
⟨.seq (.reg (some [0,1]) [⟨some 2,none,.op true (.box 2 (.tmp 0))⟩,⟨some 3,none,.op true (.box 2 (.tmp 1))⟩,⟨some 4,none,.op true (.new 2 [.int .i64 0,.int .i64 0])⟩,Ac 5 0])
 (.seq (.draw (some [2,3,4]) 16 [Dr (Fa 16 0 2) 0 [1,2,5,8,11,12,13,14,15],Db (L1 17 16) 1 16 [2,5,8,11,12,13,14,15],Dr (Fa 19 1 2) 3 [4,5,8,11,12,13,14,15],Db (L1 20 19) 4 19 [5,8,11,12,13,14,15],Dr (Fa 22 0 3) 6 [7,8,11,12,13,14,15],Db (L1 23 22) 7 22 [8,11,12,13,14,15],Dr (Fa 25 1 3) 9 [10,11,12,13,14,15],Db (L1 26 25) 10 25 [11,12,13,14,15],⟨Ca 18 72 [.tmp 17] (some (.val (.one (.int .u64)))),2,.all,[5,8,11,12,13,14,15],false,false⟩,⟨Ca 21 72 [.tmp 20] (some (.val (.one (.int .u64)))),5,.all,[8,11,12,13,14,15],false,false⟩,⟨Ca 24 72 [.tmp 23] (some (.val (.one (.int .u64)))),8,.all,[11,12,13,14,15],false,false⟩,⟨Ca 27 72 [.tmp 26] (some (.val (.one (.int .u64)))),11,.all,[12,13,14,15],false,false⟩,Dr (As 6 18) 12 [13,14,15],Dr (As 7 21) 13 [14,15],Dr (As 8 24) 14 [15],Dr (As 9 27) 15 []])
 (.seq (.reg (some [2,3,4,6,7,8,9]) [Mv 28 6,Mv 29 9,Ca 30 73 [.tmp 28,.tmp 29] (some (.val (.one (.int .u64)))),Mv 31 8,Mv 32 7,Ca 33 73 [.tmp 31,.tmp 32] (some (.val (.one (.int .u64)))),As 10 30,As 11 33])
 (.seq (.draw (some [2,3,4,6,7,8,9,10,11]) 12 [Dr (Mv 35 6) 0 [2,6,7,8,9,10,11],Dr (Mv 36 10) 1 [2,6,7,8,9,10,11],Dr (Bt 37 .quo 110 35 36) 2 [6,7,8,9,10,11],Dr (Mv 38 8) 3 [5,6,7,8,9,10,11],Dr (Mv 39 11) 4 [5,6,7,8,9,10,11],Dr (Bt 40 .quo 110 38 39) 5 [6,7,8,9,10,11],⟨Ca 41 74 [.tmp 37,.tmp 40] (some (.tup [.one (.int .u64),.one (.int .u64)])),6,.all,[7,8,9,10,11],false,false⟩,Dr (Mv 34 41) 7 [8,9,10,11],Dr (Ex 42 34 0) 8 [10,11],Dr (Ex 43 34 1) 9 [11],Dr (As 12 42) 10 [11],Dr (As 13 43) 11 []])
 (.seq (.draw (some [2,3,4,7,9,10,11,12,13]) 12 [Dr (Mv 45 7) 0 [2,6,7,8,9,10,11],Dr (Mv 46 11) 1 [2,6,7,8,9,10,11],Dr (Bt 47 .quo 110 45 46) 2 [6,7,8,9,10,11],Dr (Mv 48 9) 3 [5,6,7,8,9,10,11],Dr (Mv 49 10) 4 [5,6,7,8,9,10,11],Dr (Bt 50 .quo 110 48 49) 5 [6,7,8,9,10,11],⟨Ca 51 74 [.tmp 47,.tmp 50] (some (.tup [.one (.int .u64),.one (.int .u64)])),6,.all,[7,8,9,10,11],false,false⟩,Dr (Mv 44 51) 7 [8,9,10,11],Dr (Ex 52 44 0) 8 [10,11],Dr (Ex 53 44 1) 9 [11],Dr (As 14 52) 10 [11],Dr (As 15 53) 11 []])
 (.seq (.seq (.reg (some [2,3,4,12,13,14,15]) [Mv 54 12,Bc 55 .neq 110 54 .u64 0,Mv 56 55,⟨some 57,some (56,false),.op false (.old (.move (.tmp 14)))⟩,⟨some 58,some (56,false),.op false (.old (.binOp .neq 110 (.tmp 57) (.const (.int .u64 0)) 110))⟩,Ol 59 (.pick (.tmp 56) (.const (.bool true)) (.tmp 58))])
 (.cond (.tmp 59) (.seq (.reg (some [4]) [Ro 60 (.build [.int .i64 0,.int .i64 0] []),⟨none,none,.op false (.store 2 (.tmp 4) (.tmp 60))⟩,Ac 5 16])
 .ret)
 .skip))
 (.seq (.reg (some [2,3,4,13,15]) [Fa 61 0 2,L1 62 61,Bc 63 .lss 2 62 .i64 0,Fa 64 0 3,L1 65 64,Bc 66 .lss 2 65 .i64 0,Bt 67 .neq 4 63 66,Mv 68 13,Mv 69 15,Ca 70 75 [.tmp 67,.tmp 68,.tmp 69] (some (.tup [.agg [.int .i64,.int .i64],.one (.int .i64)])),Ex 71 70 0,Ex 72 70 1,⟨none,none,.op false (.store 2 (.tmp 4) (.tmp 71))⟩,As 5 72])
 .ret)))))),
 [.agg 4 2 [.int .i64,.int .i64],.tmp 5],
 [],
 []⟩
theorem r51_ok : resFun (progU ()) hint live 51 Try.f51 = some r51:=by kernel_rfl
end Go.Proofs.Ytkbgkjlgnmlghaa
