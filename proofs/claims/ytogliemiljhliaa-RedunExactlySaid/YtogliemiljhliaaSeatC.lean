import Derived.Test.YtogliemiljhliaaSeat0
import Derived.Test.YtogliemiljhliaaSymS
set_option linter.unusedSimpArgs false
set_option linter.unusedVariables false
namespace Go.Proofs.Ytogliemiljhliaa
open Go.Sim
set_option maxRecDepth 100000
def r24 : RFun :=
⟨.seq (.reg (some [0,1]) [⟨some 4,none,.op true (.new 2 [.int .i64 0,.int .i64 0])⟩])
 (.seq (.reg (some [0,1,4]) [Mv 5 0,Mv 6 1,Ro 7 (.build [.int .i64 0,.int .i64 0] [(0,1,(.tmp 5)),(1,1,(.tmp 6))]),⟨none,none,.op false (.store 2 (.tmp 4) (.tmp 7))⟩])
 .ret),
 [.agg 4 2 [.int .i64,.int .i64]],
 [],
 []⟩
theorem r24_ok : resFun (progU ()) hint live 24 Try.f24 = some r24:=by kernel_rfl
def r25 : RFun :=
⟨.seq (.reg (some [0,1,2]) [⟨some 5,none,.op true (.box 2 (.tmp 2))⟩,Ol 6 (.assign (.const (.bool false)))])
 (.seq (.reg (some [0,1,5]) [Ca 11 41 [.const (.int .i64 0)] (some (.val (.agg [.int .i64,.int .i64]))),⟨some 7,none,.op true (.new 2 [.int .i64 0,.int .i64 0])⟩,⟨none,none,.op false (.store 2 (.tmp 7) (.tmp 11))⟩])
 (.seq (.seq (.reg (some [0,1,5,7]) [Ac 8 0])
 (.block 0 (.loop 3 (some [0,1,5,7,8]) (some [0,1,5,7,8]))))
 (.seq (.reg (some [5,7]) [Ld 41 7,Ld 42 5,Bt 43 .eql 52 41 42,As 6 43])
 .ret))),
 [.tmp 6],
 [(3,⟨some [0,1,5,7,8],some [0,1,5,7,8],.seq (.seq (.reg (some [0,1,5,7,8]) [Mv 12 8,Mv 13 0,Ro 14 (.lenS (.tmp 13)),Bt 15 .lss 3 12 14])
 (.cond (.tmp 15) .skip
 (.exit 0 (some [5,7]))))
 (.seq (.block 1 (.seq (.draw (some [0,1,5,7,8]) 16 [Dr (Mv 19 0) 0 [2,3,4,9,10,11,12,14,15],Dr (Mv 20 8) 1 [2,3,4,9,10,11,12,14,15],Dr (Ix 21 1 19 20) 2 [3,4,9,10,11,12,14,15],Db (L1 22 21) 3 21 [4,9,10,11,12,14,15],Dr (Mv 24 1) 5 [7,8,9,10,11,12,14,15],Dr (Mv 25 8) 6 [7,8,9,10,11,12,14,15],Dr (Ix 26 2 24 25) 7 [8,9,10,11,12,14,15],Db (Ld 27 26) 8 26 [9,10,11,12,14,15],⟨⟨some 9,none,.op true (.new 2 [.int .i64 0,.int .i64 0])⟩,13,.new true,[14,15],false,true⟩,⟨Ca 23 41 [.tmp 22] (some (.val (.agg [.int .i64,.int .i64]))),4,.all,[9,10,11,12,14,15],false,false⟩,⟨Ca 28 42 [.tmp 23,.tmp 27] (some (.tup [.agg [.int .i64,.int .i64],.one (.int .i64)])),9,.all,[10,11,12,14,15],false,false⟩,Dr (Mv 18 28) 10 [11,12,14,15],Dr (Ex 29 18 0) 11 [14,15],Dr (Ex 30 18 1) 12 [15],⟨⟨none,none,.op false (.store 2 (.tmp 9) (.tmp 29))⟩,14,.blk (.tmp 9),[15],true,true⟩,Dr (As 10 30) 15 []])
 (.seq (.seq (.reg (some [0,1,5,7,8,9,10]) [Mv 31 10,Bc 32 .eql 3 31 .i64 0])
 (.cond (.tmp 32) (.reg (some [0,1,5,7,8,9]) [Ld 34 7,Ld 35 9,Ca 36 43 [.tmp 34,.tmp 35] (some (.tup [.agg [.int .i64,.int .i64],.one (.int .i64)])),Mv 33 36,Ex 37 33 0,Ex 38 33 1,⟨none,none,.op false (.store 2 (.tmp 7) (.tmp 37))⟩,As 10 38])
 .skip))
 (.seq (.reg (some [0,1,5,7,8,10]) [Mv 39 10,Bc 40 .neq 3 39 .i64 0])
 (.cond (.tmp 40) (.seq (.reg (some []) [Ol 6 (.assign (.const (.bool false)))])
 .ret)
 .skip)))))
 (.reg (some [0,1,5,7,8]) [Mv 16 8,Bc 17 .add 3 16 .i64 1,As 8 17]))⟩)],
 []⟩
theorem r25_ok : resFun (progU ()) hint live 25 Try.f25 = some r25:=by kernel_rfl
def r26 : RFun :=
⟨.seq (.reg (some [0,1]) [Ol 4 (.assign (.const (.bool false)))])
 (.seq (.reg (some [0,1]) [Mv 14 1,Ro 15 (.lenS (.tmp 14)),Ro 16 (.mkSlice 2 [.int .i64 0,.int .i64 0] (.tmp 15) (.tmp 15)),As 5 16])
 (.seq (.seq (.reg (some [0,1,5]) [Ac 6 0])
 (.block 0 (.loop 3 none (some [0,1,5,6]))))
 (.seq (.seq (.reg (some [0,1,5]) [Ac 7 0])
 (.block 2 (.loop 7 (some [0,1,5,7]) (some [0,1,5,7]))))
 (.seq (.reg (some [1,5]) [Mv 104 5,Mv 105 1,Ca 106 28 [.tmp 104,.tmp 105] (some (.val (.one .bool))),As 4 106])
 .ret)))),
 [.tmp 4],
 [(3,⟨none,some [0,1,5,6],.seq (.seq (.reg (some [0,1,5,6]) [Mv 17 6,Mv 18 1,Ro 19 (.lenS (.tmp 18)),Bt 20 .lss 3 17 19])
 (.cond (.tmp 20) .skip
 (.exit 0 (some [0,1,5]))))
 (.seq (.block 1 (.reg (some [0,1,5,6]) [Mv 23 5,Mv 24 6,Ca 25 24 [.const (.int .i64 0),.const (.int .i64 1)] (some (.val (.agg [.int .i64,.int .i64]))),Ix 26 2 23 24,⟨none,none,.op false (.store 2 (.tmp 26) (.tmp 25))⟩]))
 (.reg (some [0,1,5,6]) [Mv 21 6,Bc 22 .add 3 21 .i64 1,As 6 22]))⟩),(7,⟨some [0,1,5,7],some [0,1,5,7],.seq (.seq (.reg (some [0,1,5,7]) [Mv 27 7,Mv 28 0,Ro 29 (.lenS (.tmp 28)),Bt 30 .lss 3 27 29])
 (.cond (.tmp 30) .skip
 (.exit 2 (some [1,5]))))
 (.seq (.block 3 (.seq (.reg (some [0,1,5,7]) [Mv 33 1,Ro 34 (.lenS (.tmp 33)),Bc 35 .sub 3 34 .i64 1,As 8 35])
 (.seq (.block 4 (.loop 10 none (some [0,1,5,7,8])))
 (.seq (.seq (.draw (some [0,1,5,7,8]) 13 [Dr (Mv 51 8) 0 [1,2,3,4,5,6,7,8,9,10,11,12],Dr (Bc 52 .lss 3 51 .i64 0) 1 [2,3,4,5,6,7,8,9,10,11,12],Dr (Mv 53 52) 2 [3,4,5,6,7,8,9,10,11,12],⟨⟨some 54,some (53,false),.op false (.old (.move (.tmp 0)))⟩,3,.none,[5,6,8,9,11,12],false,true⟩,⟨⟨some 55,some (53,false),.op false (.old (.move (.tmp 7)))⟩,4,.none,[5,6,8,9,11,12],false,true⟩,⟨⟨some 56,some (53,false),.op false (.ixS 1 (.tmp 54) (.tmp 55))⟩,5,.none,[6,8,9,11,12],false,true⟩,⟨⟨some 57,some (53,false),.op false (.load1 .slice (.tmp 56))⟩,6,.blk (.tmp 56),[8,9,11,12],false,true⟩,⟨⟨some 58,some (53,false),.op false (.old (.move (.tmp 8)))⟩,7,.none,[8,9,11,12],false,true⟩,⟨⟨some 59,some (53,false),.op false (.ixS 2 (.tmp 57) (.tmp 58))⟩,8,.none,[9,11,12],false,true⟩,⟨⟨some 60,some (53,false),.op false (.load 2 [.int .i64,.int .i64] (.tmp 59))⟩,9,.blk (.tmp 59),[11,12],false,true⟩,⟨⟨some 61,some (53,false),.call (.func 24) [.const (.int .i64 1),.const (.int .i64 1)] (some (.val (.agg [.int .i64,.int .i64])))⟩,10,.all,[11,12],false,false⟩,⟨⟨some 62,some (53,false),.op false (.old (.binOp .neq 52 (.tmp 60) (.tmp 61) 52))⟩,11,.none,[12],false,true⟩,Dr (Ol 63 (.pick (.tmp 53) (.const (.bool true)) (.tmp 62))) 12 []])
 (.cond (.tmp 63) (.seq (.reg (some []) [Ol 4 (.assign (.const (.bool false)))])
 .ret)
 .skip))
 (.seq (.reg (some [0,1,5,7,8]) [Ac 9 0])
 (.block 6 (.loop 15 (some [0,1,5,7,8,9]) (some [0,1,5,7,8,9]))))))))
 (.reg (some [0,1,5,7]) [Mv 31 7,Bc 32 .add 3 31 .i64 1,As 7 32]))⟩),(10,⟨none,some [0,1,5,7,8],.seq (.seq (.reg (some [0,1,5,7,8]) [Mv 36 8,Bc 37 .geq 3 36 .i64 0,Mv 38 37,⟨some 39,some (38,true),.op false (.old (.move (.tmp 0)))⟩,⟨some 40,some (38,true),.op false (.old (.move (.tmp 7)))⟩,⟨some 41,some (38,true),.op false (.ixS 1 (.tmp 39) (.tmp 40))⟩,⟨some 42,some (38,true),.op false (.load1 .slice (.tmp 41))⟩,⟨some 43,some (38,true),.op false (.old (.move (.tmp 8)))⟩,⟨some 44,some (38,true),.op false (.ixS 2 (.tmp 42) (.tmp 43))⟩,⟨some 45,some (38,true),.op false (.fieldAddr 0 (.tmp 44))⟩,⟨some 46,some (38,true),.op false (.load1 (.int .i64) (.tmp 45))⟩,⟨some 47,some (38,true),.op false (.old (.binOp .eql 2 (.tmp 46) (.const (.int .i64 0)) 2))⟩,Ol 48 (.pick (.tmp 38) (.tmp 47) (.const (.bool false)))])
 (.cond (.tmp 48) .skip
 (.exit 4 (some [0,1,5,7,8]))))
 (.block 5 (.reg (some [0,1,5,7,8]) [Mv 49 8,Bc 50 .sub 3 49 .i64 1,As 8 50]))⟩),(15,⟨some [0,1,5,7,8,9],some [0,1,5,7,8,9],.seq (.seq (.reg (some [0,1,5,7,8,9]) [Mv 64 9,Mv 65 1,Ro 66 (.lenS (.tmp 65)),Bt 67 .lss 3 64 66])
 (.cond (.tmp 67) .skip
 (.exit 6 (some [0,1,5,7]))))
 (.seq (.block 7 (.seq (.draw (some [0,1,5,7,8,9]) 18 [Dr (Mv 71 1) 0 [2,3,11,12,13,14,16,17],Dr (Mv 72 8) 1 [2,3,11,12,13,14,16,17],Dr (Ix 73 2 71 72) 2 [3,11,12,13,14,16,17],Db (Ld 74 73) 3 73 [11,12,13,14,16,17],Dr (Mv 75 0) 4 [6,7,9,10,11,12,13,14,16,17],Dr (Mv 76 7) 5 [6,7,9,10,11,12,13,14,16,17],Dr (Ix 77 1 75 76) 6 [7,9,10,11,12,13,14,16,17],Db (Ro 78 (.load1 .slice (.tmp 77))) 7 77 [9,10,11,12,13,14,16,17],Dr (Mv 79 9) 8 [9,10,11,12,13,14,16,17],Dr (Ix 80 2 78 79) 9 [10,11,12,13,14,16,17],Db (Ld 81 80) 10 80 [11,12,13,14,16,17],⟨⟨some 10,none,.op true (.new 2 [.int .i64 0,.int .i64 0])⟩,15,.new true,[16,17],false,true⟩,⟨Ca 82 42 [.tmp 74,.tmp 81] (some (.tup [.agg [.int .i64,.int .i64],.one (.int .i64)])),11,.all,[12,13,14,16,17],false,false⟩,Dr (Mv 70 82) 12 [13,14,16,17],Dr (Ex 83 70 0) 13 [16,17],Dr (Ex 84 70 1) 14 [17],⟨⟨none,none,.op false (.store 2 (.tmp 10) (.tmp 83))⟩,16,.blk (.tmp 10),[17],true,true⟩,Dr (As 11 84) 17 []])
 (.seq (.draw (some [0,1,5,7,8,9,10,11]) 12 [Dr (Mv 86 5) 0 [2,3,5,6,7,8,10,11],Dr (Mv 87 9) 1 [2,3,5,6,7,8,10,11],Dr (Ix 88 2 86 87) 2 [3,5,6,7,8,10,11],Db (Ld 89 88) 3 88 [5,6,7,8,10,11],Db (Ld 90 10) 4 10 [5,6,7,8,10,11],⟨⟨some 12,none,.op true (.new 2 [.int .i64 0,.int .i64 0])⟩,9,.new true,[10,11],false,true⟩,⟨Ca 91 43 [.tmp 89,.tmp 90] (some (.tup [.agg [.int .i64,.int .i64],.one (.int .i64)])),5,.all,[6,7,8,10,11],false,false⟩,Dr (Mv 85 91) 6 [7,8,10,11],Dr (Ex 92 85 0) 7 [10,11],Dr (Ex 93 85 1) 8 [11],⟨⟨none,none,.op false (.store 2 (.tmp 12) (.tmp 92))⟩,10,.blk (.tmp 12),[11],true,true⟩,Dr (As 13 93) 11 []])
 (.seq (.seq (.reg (some [0,1,5,7,8,9,11,12,13]) [Mv 94 11,Bc 95 .neq 3 94 .i64 0,Mv 96 95,⟨some 97,some (96,false),.op false (.old (.move (.tmp 13)))⟩,⟨some 98,some (96,false),.op false (.old (.binOp .neq 3 (.tmp 97) (.const (.int .i64 0)) 3))⟩,Ol 99 (.pick (.tmp 96) (.const (.bool true)) (.tmp 98))])
 (.cond (.tmp 99) (.seq (.reg (some []) [Ol 4 (.assign (.const (.bool false)))])
 .ret)
 .skip))
 (.reg (some [0,1,5,7,8,9,12]) [Mv 100 5,Mv 101 9,Ld 102 12,Ix 103 2 100 101,⟨none,none,.op false (.store 2 (.tmp 103) (.tmp 102))⟩])))))
 (.reg (some [0,1,5,7,8,9]) [Mv 68 9,Bc 69 .add 3 68 .i64 1,As 9 69]))⟩)],
 []⟩
theorem r26_ok : resFun (progU ()) hint live 26 Try.f26 = some r26:=by kernel_rfl
def r28 : RFun :=
⟨.seq (.reg (some [0,1]) [Ol 4 (.assign (.const (.bool false)))])
 (.seq (.seq (.reg (some [0,1]) [Mv 6 0,Ro 7 (.lenS (.tmp 6)),Mv 8 1,Ro 9 (.lenS (.tmp 8)),Bt 10 .neq 3 7 9])
 (.cond (.tmp 10) (.seq (.reg (some []) [Ol 4 (.assign (.const (.bool false)))])
 .ret)
 .skip))
 (.seq (.seq (.reg (some [0,1]) [Ac 5 0])
 (.block 0 (.loop 4 (some [0,1,5]) (some [0,1,5]))))
 (.seq (.reg (some []) [Ol 4 (.assign (.const (.bool true)))])
 .ret))),
 [.tmp 4],
 [(4,⟨some [0,1,5],some [0,1,5],.seq (.seq (.reg (some [0,1,5]) [Mv 11 5,Mv 12 0,Ro 13 (.lenS (.tmp 12)),Bt 14 .lss 3 11 13])
 (.cond (.tmp 14) .skip
 (.exit 0 (some []))))
 (.seq (.block 1 (.seq (.draw (some [0,1,5]) 9 [Dr (Mv 17 0) 0 [2,3,8],Dr (Mv 18 5) 1 [2,3,8],Dr (Ix 19 2 17 18) 2 [3,8],Db (Ld 20 19) 3 19 [8],Dr (Mv 21 1) 4 [6,7,8],Dr (Mv 22 5) 5 [6,7,8],Dr (Ix 23 2 21 22) 6 [7,8],Db (Ld 24 23) 7 23 [8],Dr (Bt 25 .neq 52 20 24) 8 []])
 (.cond (.tmp 25) (.seq (.reg (some []) [Ol 4 (.assign (.const (.bool false)))])
 .ret)
 .skip)))
 (.reg (some [0,1,5]) [Mv 15 5,Bc 16 .add 3 15 .i64 1,As 5 16]))⟩)],
 []⟩
theorem r28_ok : resFun (progU ()) hint live 28 Try.f28 = some r28:=by kernel_rfl
def r33 : RFun :=
⟨.seq (.reg (some [0,1]) [⟨some 2,none,.op true (.box 2 (.tmp 0))⟩,⟨some 3,none,.op true (.box 2 (.tmp 1))⟩,⟨some 4,none,.op true (.new 2 [.int .i64 0,.int .i64 0])⟩,Ac 5 0])
 (.seq (.seq (.reg (some [2,3,4]) [Ld 6 2,Ld 7 3,Ca 8 55 [.tmp 6,.tmp 7] (some (.val (.one (.int .i64)))),Bc 9 .neq 3 8 .i64 0])
 (.cond (.tmp 9) (.seq (.reg (some [2,3,4]) [Ro 10 (.build [.int .i64 0,.int .i64 0] []),Ld 11 2,Ld 12 3,Ca 13 55 [.tmp 11,.tmp 12] (some (.val (.one (.int .i64)))),⟨none,none,.op false (.store 2 (.tmp 4) (.tmp 10))⟩,As 5 13])
 .ret)
 .skip))
 (.seq (.draw (some [2,3,4]) 8 [Db (Ld 14 2) 0 2 [3,4,5,6,7],Db (Ld 15 3) 1 3 [2,3,4,5,6,7],⟨Ca 16 56 [.tmp 15] (some (.val (.agg [.int .i64,.int .i64]))),2,.all,[3,4,5,6,7],false,false⟩,⟨Ca 17 43 [.tmp 14,.tmp 16] (some (.tup [.agg [.int .i64,.int .i64],.one (.int .i64)])),3,.all,[4,5,6,7],false,false⟩,Dr (Ex 18 17 0) 4 [6,7],Dr (Ex 19 17 1) 5 [6,7],⟨⟨none,none,.op false (.store 2 (.tmp 4) (.tmp 18))⟩,6,.blk (.tmp 4),[7],true,true⟩,Dr (As 5 19) 7 []])
 .ret)),
 [.agg 4 2 [.int .i64,.int .i64],.tmp 5],
 [],
 []⟩
theorem r33_ok : resFun (progU ()) hint live 33 Try.f33 = some r33:=by kernel_rfl
def r35 : RFun :=
⟨.seq (.reg (some [0]) [Ol 2 (.assign (.const (.slice none 0 0)))])
 (.seq (.reg (some [0]) [Ol 3 (.assign (.const (.slice none 0 0)))])
 (.seq (.seq (.reg (some [0,3]) [Mv 6 0,Ca 7 44 [.tmp 6] (some (.val (.one .slice))),Ro 8 (.lenS (.tmp 7)),Ol 9 (.move (.const (.int .i64 0)))])
 (.block 0 (.loop 3 (some [0,3,7,8,9]) (some [0,3,7,8,9]))))
 (.seq (.reg (some [3]) [Mv 28 3,Ca 29 58 [.tmp 28] (some (.tup []))])
 (.seq (.reg (some [3]) [Mv 30 3,Ca 31 59 [.tmp 30] (some (.val (.one .slice))),As 2 31])
 .ret)))),
 [.tmp 2],
 [(3,⟨some [0,3,7,8,9],some [0,3,7,8,9],.seq (.reg (some [0,3,7,8,9]) [Bt 10 .lss 3 9 8])
 (.seq (.cond (.tmp 10) .skip
 (.exit 0 (some [3])))
 (.seq (.block 1 (.seq (.reg (some [0,3,7,8,9]) [Ix 11 2 7 9,Ld 12 11,⟨some 5,none,.op true (.new 2 [.int .i64 0,.int .i64 0])⟩,⟨none,none,.op false (.store 2 (.tmp 5) (.tmp 12))⟩])
 (.draw (some [0,3,5,7,8,9]) 15 [Dr (Mv 13 3) 0 [13,14],Dr (Mv 14 0) 1 [4,5,11,12,13,14],Dr (Fa 15 1 5) 2 [3,4,5,11,12,13,14],Db (L1 16 15) 3 15 [4,5,11,12,13,14],Dr (Ix 17 1 14 16) 4 [5,11,12,13,14],Db (L1 18 17) 5 17 [11,12,13,14],Dr (Mv 19 0) 6 [9,10,11,12,13,14],Dr (Fa 20 0 5) 7 [8,9,10,11,12,13,14],Db (L1 21 20) 8 20 [9,10,11,12,13,14],Dr (Ix 22 1 19 21) 9 [10,11,12,13,14],Db (L1 23 22) 10 22 [11,12,13,14],Dr (Bt 24 .sub 3 18 23) 11 [12,13,14],⟨Ro 25 (.buildSlice 1 1 [.int .i64 0] [(0,1,(.tmp 24))]),12,.new false,[13,14],false,true⟩,⟨⟨some 26,none,.op false (.old (.call ⟨.builtin .append,#[.tmp 13,.tmp 25],#[22,22]⟩))⟩,13,.app [.tmp 13,.tmp 25],[14],false,false⟩,Dr (As 3 26) 14 []])))
 (.reg (some [0,3,7,8,9]) [Bc 27 .add 3 9 .i64 1,Mv 9 27])))⟩)],
 []⟩
theorem r35_ok : resFun (progU ()) hint live 35 Try.f35 = some r35:=by kernel_rfl
end Go.Proofs.Ytogliemiljhliaa
