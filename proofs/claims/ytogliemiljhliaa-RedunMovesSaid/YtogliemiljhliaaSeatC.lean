import Derived.Test.YtogliemiljhliaaSeat0
import Derived.Test.YtogliemiljhliaaSymS
set_option linter.unusedSimpArgs false
set_option linter.unusedVariables false
namespace Go.Proofs.Ytogliemiljhliaa
open Go.Sim
set_option maxRecDepth 100000
def r27 : RFun :=
⟨.seq (.reg (some [0,1]) [Ol 4 (.assign (.const (.slice none 0 0))),Ol 5 (.assign (.const (.slice none 0 0))),Ac 6 0])
 (.seq (.seq (.reg (some [0,1]) [Mv 14 0,Ca 15 18 [.tmp 14] (some (.val (.one (.int .i64)))),As 7 15])
 (.seq (.reg (some [0,1,7]) [Mv 16 7,Bc 17 .neq 23 16 .i64 0])
 (.cond (.tmp 17) (.seq (.reg (some [7]) [Mv 18 7,Ol 4 (.assign (.const (.slice none 0 0))),Ol 5 (.assign (.const (.slice none 0 0))),As 6 18])
 .ret)
 .skip)))
 (.seq (.seq (.reg (some [0,1]) [Mv 19 1,Ro 20 (.lenS (.tmp 19)),Mv 21 0,Ca 22 44 [.tmp 21] (some (.val (.one .slice))),Ro 23 (.lenS (.tmp 22)),Bt 24 .neq 3 20 23])
 (.cond (.tmp 24) (.seq (.reg (some []) [Ol 4 (.assign (.const (.slice none 0 0))),Ol 5 (.assign (.const (.slice none 0 0))),Ac 6 2])
 .ret)
 .skip))
 (.seq (.seq (.reg (some [0,1]) [Mv 25 1,Ro 26 (.lenS (.tmp 25)),Ol 27 (.move (.const (.int .i64 0)))])
 (.block 0 (.loop 7 none (some [0,1,25,26,27]))))
 (.seq (.reg (some [0,1]) [Mv 38 0,Mv 39 1,Ca 40 45 [.tmp 38,.tmp 39] (some (.val (.agg [.slice,.int .i64,.slice,.int .i64]))),Ro 10 (.new 4 [.slice none 0 0,.int .i64 0,.slice none 0 0,.int .i64 0]),⟨none,none,.op false (.store 4 (.tmp 10) (.tmp 40))⟩])
 (.seq (.seq (.reg (some [0,10]) [Fa 41 0 10,Ro 42 (.load1 .slice (.tmp 41)),Fa 43 2 10,Ro 44 (.load1 .slice (.tmp 43)),Ro 45 (.lenS (.tmp 44)),Ro 46 (.cutS 77 (.tmp 42) (some (.tmp 45)) none none),Ro 47 (.lenS (.tmp 46)),Ol 48 (.move (.const (.int .i64 0)))])
 (.block 2 (.loop 14 none (some [0,10,46,47,48]))))
 (.seq (.reg (some [0,10]) [Fa 59 1 10,L1 60 59,Ca 61 46 [.tmp 10,.tmp 60,.const (.int .i64 1)] (some (.val (.one .slice))),As 13 61])
 (.seq (.draw (some [0,13]) 13 [Dr (Mv 62 13) 0 [3,4,9,10,11,12],Dr (Mv 63 0) 1 [2,3,4,9,10,11,12],Dr (Ro 64 (.lenS (.tmp 63))) 2 [3,4,9,10,11,12],Dr (Ro 65 (.cutS 50 (.tmp 62) none (some (.tmp 64)) none)) 3 [4,9,10,11,12],Dr (Mv 67 13) 5 [8,9,10,11,12],Dr (Mv 68 0) 6 [7,8,9,10,11,12],Dr (Ro 69 (.lenS (.tmp 68))) 7 [8,9,10,11,12],Dr (Ro 70 (.cutS 50 (.tmp 67) (some (.tmp 69)) none none)) 8 [9,10,11,12],⟨Ca 66 47 [.tmp 65] (some (.val (.one .slice))),4,.all,[9,10,11,12],false,false⟩,⟨Ca 71 47 [.tmp 70] (some (.val (.one .slice))),9,.all,[10,11,12],false,false⟩,Dr (As 4 66) 10 [11,12],Dr (As 5 71) 11 [12],Dr (Ac 6 0) 12 []])
 .ret))))))),
 [.tmp 4,.tmp 5,.tmp 6],
 [(7,⟨none,some [0,1,25,26,27],.seq (.reg (some [0,1,25,26,27]) [Bt 28 .lss 3 27 26])
 (.seq (.cond (.tmp 28) .skip
 (.exit 0 (some [0,1])))
 (.seq (.block 1 (.seq (.reg (some [0,1,25,26,27]) [Ix 29 1 25 27,L1 30 29,As 9 30])
 (.seq (.reg (some [0,1,9,25,26,27]) [Mv 31 9,Ol 32 (.binOp .lss 3 (.tmp 31) (.const (.int .i64 (-99))) 3),Mv 33 32,⟨some 34,some (33,false),.op false (.old (.move (.tmp 9)))⟩,⟨some 35,some (33,false),.op false (.old (.binOp .gtr 3 (.tmp 34) (.const (.int .i64 99)) 3))⟩,Ol 36 (.pick (.tmp 33) (.const (.bool true)) (.tmp 35))])
 (.cond (.tmp 36) (.seq (.reg (some []) [Ol 4 (.assign (.const (.slice none 0 0))),Ol 5 (.assign (.const (.slice none 0 0))),Ac 6 2])
 .ret)
 .skip))))
 (.reg (some [0,1,25,26,27]) [Bc 37 .add 3 27 .i64 1,Mv 27 37])))⟩),(14,⟨none,some [0,10,46,47,48],.seq (.reg (some [0,10,46,47,48]) [Bt 49 .lss 3 48 47])
 (.seq (.cond (.tmp 49) .skip
 (.exit 2 (some [0,10])))
 (.seq (.block 3 (.seq (.reg (some [0,10,46,47,48]) [Ix 50 1 46 48,Ro 51 (.load1 .slice (.tmp 50)),As 12 51])
 (.seq (.reg (some [0,10,12,46,47,48]) [Mv 52 12,Fa 53 1 10,L1 54 53,Ix 55 1 52 54,L1 56 55,Bc 57 .neq 2 56 .i64 0])
 (.cond (.tmp 57) (.seq (.reg (some []) [Ol 4 (.assign (.const (.slice none 0 0))),Ol 5 (.assign (.const (.slice none 0 0))),Ac 6 6])
 .ret)
 .skip))))
 (.reg (some [0,10,46,47,48]) [Bc 58 .add 3 48 .i64 1,Mv 48 58])))⟩)],
 []⟩
theorem r27_ok : resFun (progU ()) hint live 27 Try.f27 = some r27:=by kernel_rfl
def r28 : RFun :=
⟨.seq (.reg (some [0,1]) [Ol 4 (.assign (.const (.bool false)))])
 (.seq (.seq (.reg (some [0,1]) [Mv 6 0,Ro 7 (.lenS (.tmp 6)),Mv 8 1,Ro 9 (.lenS (.tmp 8)),Bt 10 .neq 3 7 9])
 (.cond (.tmp 10) (.seq (.reg (some []) [Ol 4 (.assign (.const (.bool false)))])
 .ret)
 .skip))
 (.seq (.seq (.reg (some [0,1]) [Ac 5 0])
 (.block 0 (.loop 4 (some [0,1,5]) (some [0,1,5]))))
 (.seq (.reg (some []) [Ol 4 (.assign (.const (.bool true)))])
 .ret))),
 [.tmp 4],
 [(4,⟨some [0,1,5],some [0,1,5],.seq (.seq (.reg (some [0,1,5]) [Mv 11 5,Mv 12 0,Ro 13 (.lenS (.tmp 12)),Bt 14 .lss 3 11 13])
 (.cond (.tmp 14) .skip
 (.exit 0 (some []))))
 (.seq (.block 1 (.seq (.draw (some [0,1,5]) 9 [Dr (Mv 17 0) 0 [2,3,8],Dr (Mv 18 5) 1 [2,3,8],Dr (Ix 19 2 17 18) 2 [3,8],Db (Ld 20 19) 3 19 [8],Dr (Mv 21 1) 4 [6,7,8],Dr (Mv 22 5) 5 [6,7,8],Dr (Ix 23 2 21 22) 6 [7,8],Db (Ld 24 23) 7 23 [8],Dr (Bt 25 .neq 52 20 24) 8 []])
 (.cond (.tmp 25) (.seq (.reg (some []) [Ol 4 (.assign (.const (.bool false)))])
 .ret)
 .skip)))
 (.reg (some [0,1,5]) [Mv 15 5,Bc 16 .add 3 15 .i64 1,As 5 16]))⟩)],
 []⟩
theorem r28_ok : resFun (progU ()) hint live 28 Try.f28 = some r28:=by kernel_rfl
def r33 : RFun :=
⟨.seq (.reg (some [0,1]) [⟨some 2,none,.op true (.box 2 (.tmp 0))⟩,⟨some 3,none,.op true (.box 2 (.tmp 1))⟩,⟨some 4,none,.op true (.new 2 [.int .i64 0,.int .i64 0])⟩,Ac 5 0])
 (.seq (.seq (.reg (some [2,3,4]) [Ld 6 2,Ld 7 3,Ca 8 55 [.tmp 6,.tmp 7] (some (.val (.one (.int .i64)))),Bc 9 .neq 3 8 .i64 0])
 (.cond (.tmp 9) (.seq (.reg (some [2,3,4]) [Ro 10 (.build [.int .i64 0,.int .i64 0] []),Ld 11 2,Ld 12 3,Ca 13 55 [.tmp 11,.tmp 12] (some (.val (.one (.int .i64)))),⟨none,none,.op false (.store 2 (.tmp 4) (.tmp 10))⟩,As 5 13])
 .ret)
 .skip))
 (.seq (.draw (some [2,3,4]) 8 [Db (Ld 14 2) 0 2 [3,4,5,6,7],Db (Ld 15 3) 1 3 [2,3,4,5,6,7],⟨Ca 16 56 [.tmp 15] (some (.val (.agg [.int .i64,.int .i64]))),2,.all,[3,4,5,6,7],false,false⟩,⟨Ca 17 43 [.tmp 14,.tmp 16] (some (.tup [.agg [.int .i64,.int .i64],.one (.int .i64)])),3,.all,[4,5,6,7],false,false⟩,Dr (Ex 18 17 0) 4 [6,7],Dr (Ex 19 17 1) 5 [6,7],⟨⟨none,none,.op false (.store 2 (.tmp 4) (.tmp 18))⟩,6,.blk (.tmp 4),[7],true,true⟩,Dr (As 5 19) 7 []])
 .ret)),
 [.agg 4 2 [.int .i64,.int .i64],.tmp 5],
 [],
 []⟩
theorem r33_ok : resFun (progU ()) hint live 33 Try.f33 = some r33:=by kernel_rfl
def r35 : RFun :=
⟨.seq (.reg (some [0]) [Ol 2 (.assign (.const (.slice none 0 0)))])
 (.seq (.reg (some [0]) [Ol 3 (.assign (.const (.slice none 0 0)))])
 (.seq (.seq (.reg (some [0,3]) [Mv 6 0,Ca 7 44 [.tmp 6] (some (.val (.one .slice))),Ro 8 (.lenS (.tmp 7)),Ol 9 (.move (.const (.int .i64 0)))])
 (.block 0 (.loop 3 (some [0,3,7,8,9]) (some [0,3,7,8,9]))))
 (.seq (.reg (some [3]) [Mv 28 3,Ca 29 58 [.tmp 28] (some (.tup []))])
 (.seq (.reg (some [3]) [Mv 30 3,Ca 31 59 [.tmp 30] (some (.val (.one .slice))),As 2 31])
 .ret)))),
 [.tmp 2],
 [(3,⟨some [0,3,7,8,9],some [0,3,7,8,9],.seq (.reg (some [0,3,7,8,9]) [Bt 10 .lss 3 9 8])
 (.seq (.cond (.tmp 10) .skip
 (.exit 0 (some [3])))
 (.seq (.block 1 (.seq (.reg (some [0,3,7,8,9]) [Ix 11 2 7 9,Ld 12 11,⟨some 5,none,.op true (.new 2 [.int .i64 0,.int .i64 0])⟩,⟨none,none,.op false (.store 2 (.tmp 5) (.tmp 12))⟩])
 (.draw (some [0,3,5,7,8,9]) 15 [Dr (Mv 13 3) 0 [13,14],Dr (Mv 14 0) 1 [4,5,11,12,13,14],Dr (Fa 15 1 5) 2 [3,4,5,11,12,13,14],Db (L1 16 15) 3 15 [4,5,11,12,13,14],Dr (Ix 17 1 14 16) 4 [5,11,12,13,14],Db (L1 18 17) 5 17 [11,12,13,14],Dr (Mv 19 0) 6 [9,10,11,12,13,14],Dr (Fa 20 0 5) 7 [8,9,10,11,12,13,14],Db (L1 21 20) 8 20 [9,10,11,12,13,14],Dr (Ix 22 1 19 21) 9 [10,11,12,13,14],Db (L1 23 22) 10 22 [11,12,13,14],Dr (Bt 24 .sub 3 18 23) 11 [12,13,14],⟨Ro 25 (.buildSlice 1 1 [.int .i64 0] [(0,1,(.tmp 24))]),12,.new false,[13,14],false,true⟩,⟨⟨some 26,none,.op false (.old (.call ⟨.builtin .append,#[.tmp 13,.tmp 25],#[22,22]⟩))⟩,13,.app [.tmp 13,.tmp 25],[14],false,false⟩,Dr (As 3 26) 14 []])))
 (.reg (some [0,3,7,8,9]) [Bc 27 .add 3 9 .i64 1,Mv 9 27])))⟩)],
 []⟩
theorem r35_ok : resFun (progU ()) hint live 35 Try.f35 = some r35:=by kernel_rfl
end Go.Proofs.Ytogliemiljhliaa
