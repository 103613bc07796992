import Derived.Test.YtogliemiljhliaaSeat0
import Derived.Test.YtogliemiljhliaaSymS
set_option linter.unusedSimpArgs false
set_option linter.unusedVariables false
namespace Go.Proofs.Ytogliemiljhliaa
open Go.Sim
set_option maxRecDepth 100000
def r33 : RFun :=
⟨.seq (.reg (some [0,1]) [⟨some 2,none,.op true (.box 2 (.tmp 0))⟩,⟨some 3,none,.op true (.box 2 (.tmp 1))⟩,⟨some 4,none,.op true (.new 2 [.int .i64 0,.int .i64 0])⟩,Ac 5 0])
 (.seq (.seq (.reg (some [2,3,4]) [Ld 6 2,Ld 7 3,Ca 8 55 [.tmp 6,.tmp 7] (some (.val (.one (.int .i64)))),Bc 9 .neq 3 8 .i64 0])
 (.cond (.tmp 9) (.seq (.reg (some [2,3,4]) [Ro 10 (.build [.int .i64 0,.int .i64 0] []),Ld 11 2,Ld 12 3,Ca 13 55 [.tmp 11,.tmp 12] (some (.val (.one (.int .i64)))),⟨none,none,.op false (.store 2 (.tmp 4) (.tmp 10))⟩,As 5 13])
 .ret)
 .skip))
 (.seq (.draw (some [2,3,4]) 8 [Db (Ld 14 2) 0 2 [3,4,5,6,7],Db (Ld 15 3) 1 3 [2,3,4,5,6,7],⟨Ca 16 56 [.tmp 15] (some (.val (.agg [.int .i64,.int .i64]))),2,.all,[3,4,5,6,7],false,false⟩,⟨Ca 17 43 [.tmp 14,.tmp 16] (some (.tup [.agg [.int .i64,.int .i64],.one (.int .i64)])),3,.all,[4,5,6,7],false,false⟩,Dr (Ex 18 17 0) 4 [6,7],Dr (Ex 19 17 1) 5 [6,7],⟨⟨none,none,.op false (.store 2 (.tmp 4) (.tmp 18))⟩,6,.blk (.tmp 4),[7],true,true⟩,Dr (As 5 19) 7 []])
 .ret)),
 [.agg 4 2 [.int .i64,.int .i64],.tmp 5],
 [],
 []⟩
theorem r33_ok : resFun (progU ()) hint live 33 Try.f33 = some r33:=by kernel_rfl
def r35 : RFun :=
⟨.seq (.reg (some [0]) [Ol 2 (.assign (.const (.slice none 0 0)))])
 (.seq (.reg (some [0]) [Ol 3 (.assign (.const (.slice none 0 0)))])
 (.seq (.seq (.reg (some [0,3]) [Mv 6 0,Ca 7 44 [.tmp 6] (some (.val (.one .slice))),Ro 8 (.lenS (.tmp 7)),Ol 9 (.move (.const (.int .i64 0)))])
 (.block 0 (.loop 3 (some [0,3,7,8,9]) (some [0,3,7,8,9]))))
 (.seq (.reg (some [3]) [Mv 28 3,Ca 29 58 [.tmp 28] (some (.tup []))])
 (.seq (.reg (some [3]) [Mv 30 3,Ca 31 59 [.tmp 30] (some (.val (.one .slice))),As 2 31])
 .ret)))),
 [.tmp 2],
 [(3,⟨some [0,3,7,8,9],some [0,3,7,8,9],.seq (.reg (some [0,3,7,8,9]) [Bt 10 .lss 3 9 8])
 (.seq (.cond (.tmp 10) .skip
 (.exit 0 (some [3])))
 (.seq (.block 1 (.seq (.reg (some [0,3,7,8,9]) [Ix 11 2 7 9,Ld 12 11,⟨some 5,none,.op true (.new 2 [.int .i64 0,.int .i64 0])⟩,⟨none,none,.op false (.store 2 (.tmp 5) (.tmp 12))⟩])
 (.draw (some [0,3,5,7,8,9]) 15 [Dr (Mv 13 3) 0 [13,14],Dr (Mv 14 0) 1 [4,5,11,12,13,14],Dr (Fa 15 1 5) 2 [3,4,5,11,12,13,14],Db (L1 16 15) 3 15 [4,5,11,12,13,14],Dr (Ix 17 1 14 16) 4 [5,11,12,13,14],Db (L1 18 17) 5 17 [11,12,13,14],Dr (Mv 19 0) 6 [9,10,11,12,13,14],Dr (Fa 20 0 5) 7 [8,9,10,11,12,13,14],Db (L1 21 20) 8 20 [9,10,11,12,13,14],Dr (Ix 22 1 19 21) 9 [10,11,12,13,14],Db (L1 23 22) 10 22 [11,12,13,14],Dr (Bt 24 .sub 3 18 23) 11 [12,13,14],⟨Ro 25 (.buildSlice 1 1 [.int .i64 0] [(0,1,(.tmp 24))]),12,.new false,[13,14],false,true⟩,⟨⟨some 26,none,.op false (.old (.call ⟨.builtin .append,#[.tmp 13,.tmp 25],#[22,22]⟩))⟩,13,.app [.tmp 13,.tmp 25],[14],false,false⟩,Dr (As 3 26) 14 []])))
 (.reg (some [0,3,7,8,9]) [Bc 27 .add 3 9 .i64 1,Mv 9 27])))⟩)],
 []⟩
theorem r35_ok : resFun (progU ()) hint live 35 Try.f35 = some r35:=by kernel_rfl
end Go.Proofs.Ytogliemiljhliaa
