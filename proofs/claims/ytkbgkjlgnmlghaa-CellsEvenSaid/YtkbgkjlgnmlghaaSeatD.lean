import Derived.Test.YtkbgkjlgnmlghaaSeat0
import Derived.Test.YtkbgkjlgnmlghaaSymS
set_option linter.unusedSimpArgs false
set_option linter.unusedVariables false
namespace Go.Proofs.Ytkbgkjlgnmlghaa
open Go.Sim
set_option maxRecDepth 100000
def r11 : RFun :=
⟨.seq (.reg (some [0,1]) [⟨some 3,none,.op true (.box 4 (.tmp 1))⟩,Ol 4 (.assign (.const (.slice none 0 0))),Ac 5 0])
 (.seq (.seq (.reg (some [0,3]) [Mv 7 0,Ro 8 (.load 4 [.int .i64,.int .i64,.int .i64,.int .i64] (.tmp 3)),Ro 9 (.buildSlice 4 1 [.int .i64 0,.int .i64 0,.int .i64 0,.int .i64 0] [(0,4,(.tmp 8))]),Ca 10 15 [.tmp 7,.tmp 9] (some (.val (.one (.int .i64)))),As 6 10])
 (.seq (.reg (some [0,3,6]) [Mv 11 6,Bc 12 .neq 3 11 .i64 0])
 (.cond (.tmp 12) (.seq (.reg (some [6]) [Mv 13 6,Ol 4 (.assign (.const (.slice none 0 0))),As 5 13])
 .ret)
 .skip)))
 (.seq (.reg (some [0,3]) [Mv 14 0,Ro 15 (.load 4 [.int .i64,.int .i64,.int .i64,.int .i64] (.tmp 3)),Ca 16 39 [.tmp 14,.tmp 15] (some (.val (.one .slice))),As 4 16,Ac 5 0])
 .ret)),
 [.tmp 4,.tmp 5],
 [],
 []⟩
def r12 : RFun :=
⟨.seq (.reg (some [0,1,2]) [Ol 6 (.assign (.const (.slice none 0 0))),Ac 7 0])
 (.seq (.seq (.reg (some [0,1,2]) [Mv 17 0,Mv 18 1,Ca 19 14 [.tmp 17,.tmp 18] (some (.val (.one (.int .i64)))),As 8 19])
 (.seq (.reg (some [0,1,2,8]) [Mv 20 8,Bc 21 .neq 30 20 .i64 0])
 (.cond (.tmp 21) (.seq (.reg (some [8]) [Mv 22 8,Ol 6 (.assign (.const (.slice none 0 0))),As 7 22])
 .ret)
 .skip)))
 (.seq (.seq (.reg (some [0,1,2]) [Mv 23 2,Ro 24 (.lenS (.tmp 23)),Mv 25 1,Ro 26 (.lenS (.tmp 25)),Bt 27 .neq 3 24 26])
 (.cond (.tmp 27) (.seq (.reg (some []) [Ol 6 (.assign (.const (.slice none 0 0))),Ac 7 2])
 .ret)
 .skip))
 (.seq (.seq (.reg (some [0,1,2]) [Mv 28 2,Ca 29 40 [.tmp 28] (some (.val (.one .bool))),Ol 30 (.unOp .not 4 (.tmp 29))])
 (.cond (.tmp 30) (.seq (.reg (some []) [Ol 6 (.assign (.const (.slice none 0 0))),Ac 7 8])
 .ret)
 .skip))
 (.seq (.reg (some [0,1,2]) [Mv 31 0,Ro 32 (.mkSlice 1 [.slice none 0 0] (.tmp 31) (.tmp 31)),As 9 32])
 (.seq (.seq (.reg (some [0,1,2,9]) [Mv 33 9,Ro 34 (.lenS (.tmp 33)),Ol 35 (.move (.const (.int .i64 0)))])
 (.block 0 (.loop 10 none (some [0,1,2,9,34,35]))))
 (.seq (.seq (.reg (some [0,1,2,9]) [Mv 53 1,Ro 54 (.lenS (.tmp 53)),Ol 55 (.move (.const (.int .i64 0)))])
 (.block 4 (.loop 18 (some [0,2,9,53,54,55]) (some [0,2,9,53,54,55]))))
 (.seq (.reg (some [9]) [Mv 108 9,As 6 108,Ac 7 0])
 .ret))))))),
 [.tmp 6,.tmp 7],
 [(10,⟨none,some [0,1,2,9,34,35],.seq (.reg (some [0,1,2,9,34,35]) [Bt 36 .lss 3 35 34])
 (.seq (.cond (.tmp 36) .skip
 (.exit 0 (some [0,1,2,9])))
 (.seq (.block 1 (.seq (.reg (some [0,1,2,9,34,35]) [Mv 37 35,As 10 37])
 (.seq (.reg (some [0,1,2,9,10,34,35]) [Mv 38 0,Ol 39 (.move (.const (.int .i64 0)))])
 (.block 2 (.loop 13 none (some [0,1,2,9,10,34,35,38,39]))))))
 (.reg (some [0,1,2,9,34,35]) [Bc 52 .add 3 35 .i64 1,Mv 35 52])))⟩),(13,⟨none,some [0,1,2,9,10,34,35,38,39],.seq (.reg (some [0,1,2,9,10,34,35,38,39]) [Bt 40 .lss 3 39 38])
 (.seq (.cond (.tmp 40) .skip
 (.exit 2 (some [0,1,2,9,34,35])))
 (.seq (.block 3 (.reg (some [0,1,2,9,10,34,35,38,39]) [Mv 41 9,Mv 42 10,Mv 43 9,Mv 44 10,Ix 45 1 43 44,Ro 46 (.load1 .slice (.tmp 45)),Ro 47 (.build [.int .i64 0,.int .i64 0,.int .i64 0] [(2,1,(.const (.int .i64 1)))]),Ro 48 (.buildSlice 3 1 [.int .i64 0,.int .i64 0,.int .i64 0] [(0,3,(.tmp 47))]),⟨some 49,none,.op false (.old (.call ⟨.builtin .append,#[.tmp 46,.tmp 48],#[27,27]⟩))⟩,Ix 50 1 41 42,⟨none,none,.op false (.store 1 (.tmp 50) (.tmp 49))⟩]))
 (.reg (some [0,1,2,9,10,34,35,38,39]) [Bc 51 .add 3 39 .i64 1,Mv 39 51])))⟩),(18,⟨some [0,2,9,53,54,55],some [0,2,9,53,54,55],.seq (.reg (some [0,2,9,53,54,55]) [Bt 56 .lss 3 55 54])
 (.seq (.cond (.tmp 56) .skip
 (.exit 4 (some [9])))
 (.seq (.block 5 (.seq (.reg (some [0,2,9,53,54,55]) [Mv 57 55,Ix 58 4 53 55,Ro 59 (.load 4 [.int .i64,.int .i64,.int .i64,.int .i64] (.tmp 58)),⟨some 12,none,.op true (.new 4 [.int .i64 0,.int .i64 0,.int .i64 0,.int .i64 0])⟩,As 11 57,⟨none,none,.op false (.store 4 (.tmp 12) (.tmp 59))⟩])
 (.seq (.reg (some [0,2,9,11,12,53,54,55]) [Mv 61 0,Ro 62 (.load 4 [.int .i64,.int .i64,.int .i64,.int .i64] (.tmp 12)),Ca 63 10 [.tmp 61,.tmp 62] (some (.tup [.one .slice,.one (.int .i64)])),Mv 60 63,Ex 64 60 0,Ex 65 60 1,As 13 64,As 14 65])
 (.seq (.seq (.reg (some [0,2,9,11,13,14,53,54,55]) [Mv 66 14,Bc 67 .neq 30 66 .i64 0])
 (.cond (.tmp 67) (.seq (.reg (some [14]) [Mv 68 14,Ol 6 (.assign (.const (.slice none 0 0))),As 7 68])
 .ret)
 .skip))
 (.seq (.reg (some [0,2,9,11,13,53,54,55]) [Mv 69 13,Ro 70 (.lenS (.tmp 69)),Ol 71 (.move (.const (.int .i64 0)))])
 (.block 6 (.loop 24 (some [0,2,9,11,53,54,55,69,70,71]) (some [0,2,9,11,53,54,55,69,70,71]))))))))
 (.reg (some [0,2,9,53,54,55]) [Bc 107 .add 3 55 .i64 1,Mv 55 107])))⟩),(24,⟨some [0,2,9,11,53,54,55,69,70,71],some [0,2,9,11,53,54,55,69,70,71],.seq (.reg (some [0,2,9,11,53,54,55,69,70,71]) [Bt 72 .lss 3 71 70])
 (.seq (.cond (.tmp 72) .skip
 (.exit 6 (some [0,2,9,53,54,55])))
 (.seq (.block 7 (.seq (.reg (some [0,2,9,11,53,54,55,69,70,71]) [Ix 73 4 69 71,Ro 74 (.load 4 [.int .i64,.int .i64,.int .i64,.int .i64] (.tmp 73)),⟨some 16,none,.op true (.new 4 [.int .i64 0,.int .i64 0,.int .i64 0,.int .i64 0])⟩,⟨none,none,.op false (.store 4 (.tmp 16) (.tmp 74))⟩])
 (.seq (.draw (some [0,2,9,11,16,53,54,55,69,70,71]) 30 [Dr (Mv 76 9) 0 [3,4,27,28,29],Dr (Fa 77 1 16) 1 [2,3,4,27,28,29],Db (L1 78 77) 2 77 [3,4,27,28,29],Dr (Ix 79 1 76 78) 3 [4,27,28,29],Db (Ro 80 (.load1 .slice (.tmp 79))) 4 79 [27,28,29],Dr (Fa 81 0 16) 5 [6,27,28,29],Db (L1 82 81) 6 81 [27,28,29],Dr (Mv 83 9) 7 [10,11,14,15,23,24,25,26,27,28,29],Dr (Fa 84 1 16) 8 [9,10,11,14,15,23,24,25,26,27,28,29],Db (L1 85 84) 9 84 [10,11,14,15,23,24,25,26,27,28,29],Dr (Ix 86 1 83 85) 10 [11,14,15,23,24,25,26,27,28,29],Db (Ro 87 (.load1 .slice (.tmp 86))) 11 86 [14,15,23,24,25,26,27,28,29],Dr (Fa 88 0 16) 12 [13,14,15,23,24,25,26,27,28,29],Db (L1 89 88) 13 88 [14,15,23,24,25,26,27,28,29],Dr (Ix 90 3 87 89) 14 [15,23,24,25,26,27,28,29],Db (Ro 91 (.load 3 [.int .i64,.int .i64,.int .i64] (.tmp 90))) 15 90 [23,24,25,26,27,28,29],Dr (Fa 92 2 16) 16 [17,18,23,24,25,26,27,28,29],Db (Ld 93 92) 17 92 [18,23,24,25,26,27,28,29],Dr (Mv 95 2) 19 [21,22,23,24,25,26,27,28,29],Dr (Mv 96 11) 20 [21,22,23,24,25,26,27,28,29],Dr (Ix 97 3 95 96) 21 [22,23,24,25,26,27,28,29],Db (Ro 98 (.load 3 [.int .i64,.int .i64,.int .i64] (.tmp 97))) 22 97 [23,24,25,26,27,28,29],⟨Ca 94 42 [.tmp 93] (some (.val (.agg [.int .i64,.int .i64,.int .i64]))),18,.all,[23,24,25,26,27,28,29],false,false⟩,⟨Ca 99 41 [.tmp 91,.tmp 94,.tmp 98] (some (.tup [.agg [.int .i64,.int .i64,.int .i64],.one (.int .i64)])),23,.all,[24,25,26,27,28,29],false,false⟩,Dr (Mv 75 99) 24 [25,26,27,28,29],Dr (Ex 100 75 0) 25 [27,28,29],Dr (Ex 101 75 1) 26 [29],Dr (Ix 102 3 80 82) 27 [28,29],⟨⟨none,none,.op false (.store 3 (.tmp 102) (.tmp 100))⟩,28,.blk (.tmp 102),[29],true,true⟩,Dr (As 14 101) 29 []])
 (.seq (.reg (some [0,2,9,11,14,53,54,55,69,70,71]) [Mv 103 14,Bc 104 .neq 30 103 .i64 0])
 (.cond (.tmp 104) (.seq (.reg (some [14]) [Mv 105 14,Ol 6 (.assign (.const (.slice none 0 0))),As 7 105])
 .ret)
 .skip)))))
 (.reg (some [0,2,9,11,53,54,55,69,70,71]) [Bc 106 .add 3 71 .i64 1,Mv 71 106])))⟩)],
 []⟩
theorem r12_ok : resFun (progU ()) hint live 12 Try.f12 = some r12:=by kernel_rfl
def r14 : RFun :=
⟨.seq (.reg (some [0,1]) [Ac 4 0])
 (.seq (.seq (.reg (some [0,1]) [Mv 7 0,Bc 8 .lss 3 7 .i64 2,Mv 9 8,⟨some 10,some (9,false),.op false (.old (.move (.tmp 0)))⟩,⟨some 11,some (9,false),.op false (.old (.binOp .gtr 3 (.tmp 10) (.const (.int .i64 8)) 3))⟩,Ol 12 (.pick (.tmp 9) (.const (.bool true)) (.tmp 11))])
 (.cond (.tmp 12) (.seq (.reg (some []) [Ac 4 2])
 .ret)
 .skip))
 (.seq (.seq (.reg (some [0,1]) [Mv 13 1,Ro 14 (.lenS (.tmp 13)),Bc 15 .gtr 3 14 .i64 32])
 (.cond (.tmp 15) (.seq (.reg (some []) [Ac 4 4])
 .ret)
 .skip))
 (.seq (.seq (.reg (some [0,1]) [Mv 16 1,Ro 17 (.lenS (.tmp 16)),Ol 18 (.move (.const (.int .i64 0)))])
 (.block 0 (.loop 6 (some [0,16,17,18]) (some [0,16,17,18]))))
 (.seq (.reg (some []) [Ac 4 0])
 .ret)))),
 [.tmp 4],
 [(6,⟨some [0,16,17,18],some [0,16,17,18],.seq (.reg (some [0,16,17,18]) [Bt 19 .lss 3 18 17])
 (.seq (.cond (.tmp 19) .skip
 (.exit 0 (some [])))
 (.seq (.block 1 (.seq (.reg (some [0,16,17,18]) [Ix 20 4 16 18,Ro 21 (.load 4 [.int .i64,.int .i64,.int .i64,.int .i64] (.tmp 20)),⟨some 6,none,.op true (.new 4 [.int .i64 0,.int .i64 0,.int .i64 0,.int .i64 0])⟩,⟨none,none,.op false (.store 4 (.tmp 6) (.tmp 21))⟩])
 (.seq (.reg (some [0,6,16,17,18]) [Mv 22 0,Fa 23 0 6,Ld 24 23,Ca 25 45 [.tmp 22,.tmp 24] (some (.val (.one .bool))),Ol 26 (.unOp .not 4 (.tmp 25)),Mv 27 26,⟨some 28,some (27,false),.op false (.old (.move (.tmp 0)))⟩,⟨some 29,some (27,false),.op false (.fieldAddr 2 (.tmp 6))⟩,⟨some 30,some (27,false),.op false (.load 2 [.int .i64,.int .i64] (.tmp 29))⟩,⟨some 31,some (27,false),.call (.func 45) [.tmp 28,.tmp 30] (some (.val (.one .bool)))⟩,⟨some 32,some (27,false),.op false (.old (.unOp .not 4 (.tmp 31)))⟩,Ol 33 (.pick (.tmp 27) (.const (.bool true)) (.tmp 32))])
 (.cond (.tmp 33) (.seq (.reg (some []) [Ac 4 8])
 .ret)
 .skip))))
 (.reg (some [0,16,17,18]) [Bc 34 .add 3 18 .i64 1,Mv 18 34])))⟩)],
 []⟩
theorem r14_ok : resFun (progU ()) hint live 14 Try.f14 = some r14:=by kernel_rfl
def r15 : RFun :=
⟨.seq (.reg (some [0,1]) [Ac 4 0])
 (.seq (.seq (.reg (some [0,1]) [Mv 6 0,Bc 7 .lss 3 6 .i64 2,Mv 8 7,⟨some 9,some (8,false),.op false (.old (.move (.tmp 0)))⟩,⟨some 10,some (8,false),.op false (.old (.binOp .gtr 3 (.tmp 9) (.const (.int .i64 8)) 3))⟩,Ol 11 (.pick (.tmp 8) (.const (.bool true)) (.tmp 10))])
 (.cond (.tmp 11) (.seq (.reg (some []) [Ac 4 2])
 .ret)
 .skip))
 (.seq (.seq (.reg (some [0,1]) [Mv 12 1,Ro 13 (.lenS (.tmp 12)),Bc 14 .gtr 3 13 .i64 32])
 (.cond (.tmp 14) (.seq (.reg (some []) [Ac 4 4])
 .ret)
 .skip))
 (.seq (.seq (.reg (some [0,1]) [Ac 5 0])
 (.block 0 (.loop 6 none (some [0,1,5]))))
 (.seq (.reg (some []) [Ac 4 0])
 .ret)))),
 [.tmp 4],
 [(6,⟨none,some [0,1,5],.seq (.seq (.reg (some [0,1,5]) [Mv 15 5,Mv 16 1,Ro 17 (.lenS (.tmp 16)),Bt 18 .lss 3 15 17])
 (.cond (.tmp 18) .skip
 (.exit 0 (some []))))
 (.seq (.block 1 (.seq (.reg (some [0,1,5]) [Mv 21 0,Mv 22 1,Mv 23 5,Ix 24 4 22 23,Fa 25 0 24,Ld 26 25,Ca 27 46 [.tmp 21,.tmp 26] (some (.val (.one .bool))),Ol 28 (.unOp .not 4 (.tmp 27)),Mv 29 28,⟨some 30,some (29,false),.op false (.old (.move (.tmp 0)))⟩,⟨some 31,some (29,false),.op false (.old (.move (.tmp 1)))⟩,⟨some 32,some (29,false),.op false (.old (.move (.tmp 5)))⟩,⟨some 33,some (29,false),.op false (.ixS 4 (.tmp 31) (.tmp 32))⟩,⟨some 34,some (29,false),.op false (.fieldAddr 2 (.tmp 33))⟩,⟨some 35,some (29,false),.op false (.load 2 [.int .i64,.int .i64] (.tmp 34))⟩,⟨some 36,some (29,false),.call (.func 46) [.tmp 30,.tmp 35] (some (.val (.one .bool)))⟩,⟨some 37,some (29,false),.op false (.old (.unOp .not 4 (.tmp 36)))⟩,Ol 38 (.pick (.tmp 29) (.const (.bool true)) (.tmp 37))])
 (.cond (.tmp 38) (.seq (.reg (some []) [Ac 4 8])
 .ret)
 .skip)))
 (.reg (some [0,1,5]) [Mv 19 5,Bc 20 .add 3 19 .i64 1,As 5 20]))⟩)],
 []⟩
theorem r15_ok : resFun (progU ()) hint live 15 Try.f15 = some r15:=by kernel_rfl
def r19 : RFun :=
⟨.seq (.reg (some [0,1,2]) [Ol 6 (.assign (.const (.bool false)))])
 (.seq (.reg (some [0,1,2]) [Mv 7 1,Mv 8 2,Ca 9 9 [.tmp 7,.tmp 8] (some (.val (.one .bool))),Ol 10 (.unOp .not 4 (.tmp 9)),Mv 11 10,⟨some 12,some (11,true),.op false (.old (.move (.tmp 0)))⟩,⟨some 13,some (11,true),.op false (.old (.move (.tmp 1)))⟩,⟨some 14,some (11,true),.call (.func 15) [.tmp 12,.tmp 13] (some (.val (.one (.int .i64))))⟩,⟨some 15,some (11,true),.op false (.old (.binOp .eql 3 (.tmp 14) (.const (.int .i64 0)) 3))⟩,Ol 16 (.pick (.tmp 11) (.tmp 15) (.const (.bool false))),Mv 17 16,⟨some 18,some (17,true),.op false (.old (.move (.tmp 1)))⟩,⟨some 19,some (17,true),.op false (.lenS (.tmp 18))⟩,⟨some 20,some (17,true),.op false (.old (.move (.tmp 2)))⟩,⟨some 21,some (17,true),.op false (.lenS (.tmp 20))⟩,⟨some 22,some (17,true),.op false (.old (.binOp .eql 3 (.tmp 19) (.tmp 21) 3))⟩,Ol 23 (.pick (.tmp 17) (.tmp 22) (.const (.bool false))),Mv 24 23,⟨some 25,some (24,true),.op false (.old (.move (.tmp 2)))⟩,⟨some 26,some (24,true),.call (.func 43) [.tmp 25] (some (.val (.one .bool)))⟩,Ol 27 (.pick (.tmp 24) (.tmp 26) (.const (.bool false))),As 6 27])
 .ret),
 [.tmp 6],
 [],
 []⟩
theorem r19_ok : resFun (progU ()) hint live 19 Try.f19 = some r19:=by kernel_rfl
def r20 : RFun :=
⟨.seq (.reg (some [0]) [⟨some 1,none,.op true (.box 3 (.tmp 0))⟩,Ac 2 0])
 (.seq (.seq (.draw (some [1]) 39 [Dr (Fa 3 2 1) 0 [1,2,3,4,5,6,7,8,9,10,11,12,13,14,15,16,17,18,19,20,21,22,23,24,25,26,27,28,29,30,31,32,33,34,35,36,37,38],Db (L1 4 3) 1 3 [2,3,4,5,6,7,8,9,10,11,12,13,14,15,16,17,18,19,20,21,22,23,24,25,26,27,28,29,30,31,32,33,34,35,36,37,38],Dr (Bc 5 .lss 2 4 .i64 1) 2 [3,4,5,6,7,8,9,10,11,12,13,14,15,16,17,18,19,20,21,22,23,24,25,26,27,28,29,30,31,32,33,34,35,36,37,38],Dr (Mv 6 5) 3 [4,5,6,7,8,9,10,11,12,13,14,15,16,17,18,19,20,21,22,23,24,25,26,27,28,29,30,31,32,33,34,35,36,37,38],⟨⟨some 7,some (6,false),.op false (.fieldAddr 2 (.tmp 1))⟩,4,.none,[5,6,7,8,9,10,11,12,13,14,15,16,17,18,19,20,21,22,23,24,25,26,27,28,29,30,31,32,33,34,35,36,37,38],false,true⟩,⟨⟨some 8,some (6,false),.op false (.load1 (.int .i64) (.tmp 7))⟩,5,.blk (.tmp 7),[6,7,8,9,10,11,12,13,14,15,16,17,18,19,20,21,22,23,24,25,26,27,28,29,30,31,32,33,34,35,36,37,38],false,true⟩,⟨⟨some 9,some (6,false),.op false (.old (.binOp .gtr 2 (.tmp 8) (.const (.int .i64 1000000000)) 2))⟩,6,.none,[7,8,9,10,11,12,13,14,15,16,17,18,19,20,21,22,23,24,25,26,27,28,29,30,31,32,33,34,35,36,37,38],false,true⟩,Dr (Ol 10 (.pick (.tmp 6) (.const (.bool true)) (.tmp 9))) 7 [8,9,10,11,12,13,14,15,16,17,18,19,20,21,22,23,24,25,26,27,28,29,30,31,32,33,34,35,36,37,38],Dr (Mv 11 10) 8 [9,10,11,12,13,14,15,16,17,18,19,20,21,22,23,24,25,26,27,28,29,30,31,32,33,34,35,36,37,38],⟨⟨some 12,some (11,false),.op false (.fieldAddr 0 (.tmp 1))⟩,9,.none,[10,11,12,13,14,15,16,17,18,19,20,21,22,23,24,25,26,27,28,29,30,31,32,33,34,35,36,37,38],false,true⟩,⟨⟨some 13,some (11,false),.op false (.load1 (.int .i64) (.tmp 12))⟩,10,.blk (.tmp 12),[11,12,13,14,15,16,17,18,19,20,21,22,23,24,25,26,27,28,29,30,31,32,33,34,35,36,37,38],false,true⟩,⟨⟨some 14,some (11,false),.op false (.old (.binOp .lss 2 (.tmp 13) (.const (.int .i64 (-1000000000))) 2))⟩,11,.none,[12,13,14,15,16,17,18,19,20,21,22,23,24,25,26,27,28,29,30,31,32,33,34,35,36,37,38],false,true⟩,Dr (Ol 15 (.pick (.tmp 11) (.const (.bool true)) (.tmp 14))) 12 [13,14,15,16,17,18,19,20,21,22,23,24,25,26,27,28,29,30,31,32,33,34,35,36,37,38],Dr (Mv 16 15) 13 [14,15,16,17,18,19,20,21,22,23,24,25,26,27,28,29,30,31,32,33,34,35,36,37,38],⟨⟨some 17,some (16,false),.op false (.fieldAddr 0 (.tmp 1))⟩,14,.none,[15,16,17,18,19,20,21,22,23,24,25,26,27,28,29,30,31,32,33,34,35,36,37,38],false,true⟩,⟨⟨some 18,some (16,false),.op false (.load1 (.int .i64) (.tmp 17))⟩,15,.blk (.tmp 17),[16,17,18,19,20,21,22,23,24,25,26,27,28,29,30,31,32,33,34,35,36,37,38],false,true⟩,⟨⟨some 19,some (16,false),.op false (.old (.binOp .gtr 2 (.tmp 18) (.const (.int .i64 1000000000)) 2))⟩,16,.none,[17,18,19,20,21,22,23,24,25,26,27,28,29,30,31,32,33,34,35,36,37,38],false,true⟩,Dr (Ol 20 (.pick (.tmp 16) (.const (.bool true)) (.tmp 19))) 17 [18,19,20,21,22,23,24,25,26,27,28,29,30,31,32,33,34,35,36,37,38],Dr (Mv 21 20) 18 [19,20,21,22,23,24,25,26,27,28,29,30,31,32,33,34,35,36,37,38],⟨⟨some 22,some (21,false),.op false (.fieldAddr 1 (.tmp 1))⟩,19,.none,[20,21,22,23,24,25,26,27,28,29,30,31,32,33,34,35,36,37,38],false,true⟩,⟨⟨some 23,some (21,false),.op false (.load1 (.int .i64) (.tmp 22))⟩,20,.blk (.tmp 22),[21,22,23,24,25,26,27,28,29,30,31,32,33,34,35,36,37,38],false,true⟩,⟨⟨some 24,some (21,false),.op false (.old (.binOp .lss 2 (.tmp 23) (.const (.int .i64 (-1000000000))) 2))⟩,21,.none,[22,23,24,25,26,27,28,29,30,31,32,33,34,35,36,37,38],false,true⟩,Dr (Ol 25 (.pick (.tmp 21) (.const (.bool true)) (.tmp 24))) 22 [23,24,25,26,27,28,29,30,31,32,33,34,35,36,37,38],Dr (Mv 26 25) 23 [24,25,26,27,28,29,30,31,32,33,34,35,36,37,38],⟨⟨some 27,some (26,false),.op false (.fieldAddr 1 (.tmp 1))⟩,24,.none,[25,26,27,28,29,30,31,32,33,34,35,36,37,38],false,true⟩,⟨⟨some 28,some (26,false),.op false (.load1 (.int .i64) (.tmp 27))⟩,25,.blk (.tmp 27),[26,27,28,29,30,31,32,33,34,35,36,37,38],false,true⟩,⟨⟨some 29,some (26,false),.op false (.old (.binOp .gtr 2 (.tmp 28) (.const (.int .i64 1000000000)) 2))⟩,26,.none,[27,28,29,30,31,32,33,34,35,36,37,38],false,true⟩,Dr (Ol 30 (.pick (.tmp 26) (.const (.bool true)) (.tmp 29))) 27 [28,29,30,31,32,33,34,35,36,37,38],Dr (Mv 31 30) 28 [29,30,31,32,33,34,35,36,37,38],⟨⟨some 32,some (31,false),.op false (.fieldAddr 0 (.tmp 1))⟩,29,.none,[30,33,36,37,38],false,true⟩,⟨⟨some 33,some (31,false),.op false (.load1 (.int .i64) (.tmp 32))⟩,30,.blk (.tmp 32),[33,36,37,38],false,true⟩,⟨⟨some 34,some (31,false),.op false (.fieldAddr 1 (.tmp 1))⟩,31,.none,[32,33,36,37,38],false,true⟩,⟨⟨some 35,some (31,false),.op false (.load1 (.int .i64) (.tmp 34))⟩,32,.blk (.tmp 34),[33,36,37,38],false,true⟩,⟨⟨some 37,some (31,false),.op false (.fieldAddr 2 (.tmp 1))⟩,34,.none,[35,36,37,38],false,true⟩,⟨⟨some 38,some (31,false),.op false (.load1 (.int .i64) (.tmp 37))⟩,35,.blk (.tmp 37),[36,37,38],false,true⟩,⟨⟨some 36,some (31,false),.call (.func 47) [.tmp 33,.tmp 35] (some (.val (.one (.int .i64))))⟩,33,.all,[36,37,38],false,false⟩,⟨⟨some 39,some (31,false),.call (.func 47) [.tmp 36,.tmp 38] (some (.val (.one (.int .i64))))⟩,36,.all,[37,38],false,false⟩,⟨⟨some 40,some (31,false),.op false (.old (.binOp .neq 2 (.tmp 39) (.const (.int .i64 1)) 2))⟩,37,.none,[38],false,true⟩,Dr (Ol 41 (.pick (.tmp 31) (.const (.bool true)) (.tmp 40))) 38 []])
 (.cond (.tmp 41) (.seq (.reg (some []) [Ac 2 8])
 .ret)
 .skip))
 (.seq (.reg (some []) [Ac 2 0])
 .ret)),
 [.tmp 2],
 [],
 []⟩
theorem r20_ok : resFun (progU ()) hint live 20 Try.f20 = some r20:=by kernel_rfl
def r21 : RFun :=
⟨.seq (.reg (some [0,1]) [⟨some 2,none,.op true (.box 3 (.tmp 0))⟩,⟨some 3,none,.op true (.box 3 (.tmp 1))⟩,⟨some 4,none,.op true (.new 3 [.int .i64 0,.int .i64 0,.int .i64 0])⟩,Ac 5 0])
 (.seq (.seq (.reg (some [2,3,4]) [Ro 7 (.load 3 [.int .i64,.int .i64,.int .i64] (.tmp 2)),Ro 8 (.load 3 [.int .i64,.int .i64,.int .i64] (.tmp 3)),Ca 9 48 [.tmp 7,.tmp 8] (some (.val (.one (.int .i64)))),As 6 9])
 (.seq (.reg (some [2,3,4,6]) [Mv 10 6,Bc 11 .neq 30 10 .i64 0])
 (.cond (.tmp 11) (.seq (.reg (some [4,6]) [Ro 12 (.build [.int .i64 0,.int .i64 0,.int .i64 0] []),Mv 13 6,⟨none,none,.op false (.store 3 (.tmp 4) (.tmp 12))⟩,As 5 13])
 .ret)
 .skip)))
 (.seq (.reg (some [2,3,4]) [Fa 14 0 2,L1 15 14,Fa 16 0 3,L1 17 16,Bt 18 .mul 2 15 17,Fa 19 1 2,L1 20 19,Fa 21 1 3,L1 22 21,Bt 23 .mul 2 20 22,Bt 24 .sub 2 18 23,Fa 25 0 2,L1 26 25,Fa 27 1 3,L1 28 27,Bt 29 .mul 2 26 28,Fa 30 1 2,L1 31 30,Fa 32 0 3,L1 33 32,Bt 34 .mul 2 31 33,Bt 35 .add 2 29 34,Fa 36 2 2,L1 37 36,Fa 38 2 3,L1 39 38,Bt 40 .mul 2 37 39,Ca 41 49 [.tmp 24,.tmp 35,.tmp 40] (some (.tup [.agg [.int .i64,.int .i64,.int .i64],.one (.int .i64)])),Ex 42 41 0,Ex 43 41 1,⟨none,none,.op false (.store 3 (.tmp 4) (.tmp 42))⟩,As 5 43])
 .ret)),
 [.agg 4 3 [.int .i64,.int .i64,.int .i64],.tmp 5],
 [],
 []⟩
theorem r21_ok : resFun (progU ()) hint live 21 Try.f21 = some r21:=by kernel_rfl
def r22 : RFun :=
⟨.seq (.reg (some [0,1]) [⟨some 2,none,.op true (.box 3 (.tmp 0))⟩,⟨some 3,none,.op true (.box 3 (.tmp 1))⟩,⟨some 4,none,.op true (.new 3 [.int .i64 0,.int .i64 0,.int .i64 0])⟩,Ac 5 0])
 (.seq (.seq (.reg (some [2,3,4]) [Ro 7 (.load 3 [.int .i64,.int .i64,.int .i64] (.tmp 2)),Ro 8 (.load 3 [.int .i64,.int .i64,.int .i64] (.tmp 3)),Ca 9 48 [.tmp 7,.tmp 8] (some (.val (.one (.int .i64)))),As 6 9])
 (.seq (.reg (some [2,3,4,6]) [Mv 10 6,Bc 11 .neq 30 10 .i64 0])
 (.cond (.tmp 11) (.seq (.reg (some [4,6]) [Ro 12 (.build [.int .i64 0,.int .i64 0,.int .i64 0] []),Mv 13 6,⟨none,none,.op false (.store 3 (.tmp 4) (.tmp 12))⟩,As 5 13])
 .ret)
 .skip)))
 (.seq (.reg (some [2,3,4]) [Fa 14 0 2,L1 15 14,Fa 16 2 3,L1 17 16,Bt 18 .mul 2 15 17,Fa 19 0 3,L1 20 19,Fa 21 2 2,L1 22 21,Bt 23 .mul 2 20 22,Bt 24 .add 2 18 23,Fa 25 1 2,L1 26 25,Fa 27 2 3,L1 28 27,Bt 29 .mul 2 26 28,Fa 30 1 3,L1 31 30,Fa 32 2 2,L1 33 32,Bt 34 .mul 2 31 33,Bt 35 .add 2 29 34,Fa 36 2 2,L1 37 36,Fa 38 2 3,L1 39 38,Bt 40 .mul 2 37 39,Ca 41 49 [.tmp 24,.tmp 35,.tmp 40] (some (.tup [.agg [.int .i64,.int .i64,.int .i64],.one (.int .i64)])),Ex 42 41 0,Ex 43 41 1,⟨none,none,.op false (.store 3 (.tmp 4) (.tmp 42))⟩,As 5 43])
 .ret)),
 [.agg 4 3 [.int .i64,.int .i64,.int .i64],.tmp 5],
 [],
 []⟩
theorem r22_ok : resFun (progU ()) hint live 22 Try.f22 = some r22:=by kernel_rfl
def r23 : RFun :=
⟨.seq (.reg (some [0]) [Ac 2 0])
 (.seq (.seq (.reg (some [0]) [Mv 5 0,Ro 6 (.lenS (.tmp 5)),Bc 7 .lss 3 6 .i64 2,Mv 8 7,⟨some 9,some (8,false),.op false (.old (.move (.tmp 0)))⟩,⟨some 10,some (8,false),.op false (.lenS (.tmp 9))⟩,⟨some 11,some (8,false),.op false (.old (.binOp .gtr 3 (.tmp 10) (.const (.int .i64 8)) 3))⟩,Ol 12 (.pick (.tmp 8) (.const (.bool true)) (.tmp 11))])
 (.cond (.tmp 12) (.seq (.reg (some []) [Ac 2 2])
 .ret)
 .skip))
 (.seq (.seq (.reg (some [0]) [Ac 3 0])
 (.block 0 (.loop 4 none (some [0,3]))))
 (.seq (.seq (.reg (some [0]) [Ac 4 0])
 (.block 2 (.loop 9 none (some [0,4]))))
 (.seq (.reg (some []) [Ac 2 0])
 .ret)))),
 [.tmp 2],
 [(4,⟨none,some [0,3],.seq (.seq (.reg (some [0,3]) [Mv 13 3,Mv 14 0,Ro 15 (.lenS (.tmp 14)),Bt 16 .lss 3 13 15])
 (.cond (.tmp 16) .skip
 (.exit 0 (some [0]))))
 (.seq (.block 1 (.seq (.reg (some [0,3]) [Mv 19 0,Mv 20 3,Ix 21 1 19 20,Ro 22 (.load1 .slice (.tmp 21)),Ro 23 (.lenS (.tmp 22)),Mv 24 0,Ro 25 (.lenS (.tmp 24)),Bt 26 .neq 3 23 25])
 (.cond (.tmp 26) (.seq (.reg (some []) [Ac 2 2])
 .ret)
 .skip)))
 (.reg (some [0,3]) [Mv 17 3,Bc 18 .add 3 17 .i64 1,As 3 18]))⟩),(9,⟨none,some [0,4],.seq (.seq (.reg (some [0,4]) [Mv 27 4,Mv 28 0,Ro 29 (.lenS (.tmp 28)),Bt 30 .lss 3 27 29])
 (.cond (.tmp 30) .skip
 (.exit 2 (some []))))
 (.seq (.block 3 (.seq (.reg (some [0,4]) [Mv 33 0,Mv 34 4,Ix 35 1 33 34,Ro 36 (.load1 .slice (.tmp 35)),Ca 37 43 [.tmp 36] (some (.val (.one .bool))),Ol 38 (.unOp .not 4 (.tmp 37))])
 (.cond (.tmp 38) (.seq (.reg (some []) [Ac 2 8])
 .ret)
 .skip)))
 (.reg (some [0,4]) [Mv 31 4,Bc 32 .add 3 31 .i64 1,As 4 32]))⟩)],
 []⟩
theorem r23_ok : resFun (progU ()) hint live 23 Try.f23 = some r23:=by kernel_rfl
def r24 : RFun :=
⟨.seq (.reg (some [0]) [⟨some 2,none,.op true (.new 2 [.int .i64 0,.int .i64 0])⟩])
 (.seq (.reg (some [0,2]) [Mv 3 0,Ro 4 (.build [.int .i64 0,.int .i64 0] [(0,1,(.tmp 3)),(1,1,(.const (.int .i64 1)))]),⟨none,none,.op false (.store 2 (.tmp 2) (.tmp 4))⟩])
 .ret),
 [.agg 2 2 [.int .i64,.int .i64]],
 [],
 []⟩
theorem r24_ok : resFun (progU ()) hint live 24 Try.f24 = some r24:=by kernel_rfl
def r25 : RFun :=
⟨.seq (.reg (some [0,1]) [⟨some 2,none,.op true (.box 2 (.tmp 0))⟩,⟨some 3,none,.op true (.box 2 (.tmp 1))⟩,⟨some 4,none,.op true (.new 2 [.int .i64 0,.int .i64 0])⟩,Ac 5 0])
 (.seq (.seq (.reg (some [2,3,4]) [Ld 7 2,Ld 8 3,Ca 9 50 [.tmp 7,.tmp 8] (some (.val (.one (.int .i64)))),As 6 9])
 (.seq (.reg (some [2,3,4,6]) [Mv 10 6,Bc 11 .neq 30 10 .i64 0])
 (.cond (.tmp 11) (.seq (.reg (some [4,6]) [Ro 12 (.build [.int .i64 0,.int .i64 0] []),Mv 13 6,⟨none,none,.op false (.store 2 (.tmp 4) (.tmp 12))⟩,As 5 13])
 .ret)
 .skip)))
 (.seq (.reg (some [2,3,4]) [Ld 14 2,Ld 15 3,Ca 16 51 [.tmp 14,.tmp 15] (some (.tup [.agg [.int .i64,.int .i64],.one (.int .i64)])),Ex 17 16 0,Ex 18 16 1,⟨none,none,.op false (.store 2 (.tmp 4) (.tmp 17))⟩,As 5 18])
 .ret)),
 [.agg 4 2 [.int .i64,.int .i64],.tmp 5],
 [],
 []⟩
theorem r25_ok : resFun (progU ()) hint live 25 Try.f25 = some r25:=by kernel_rfl
def r26 : RFun :=
⟨.seq (.reg (some [0,1]) [⟨some 2,none,.op true (.box 2 (.tmp 0))⟩,⟨some 3,none,.op true (.box 2 (.tmp 1))⟩,⟨some 4,none,.op true (.new 2 [.int .i64 0,.int .i64 0])⟩,Ac 5 0])
 (.seq (.seq (.reg (some [2,3,4]) [Ld 7 2,Ld 8 3,Ca 9 50 [.tmp 7,.tmp 8] (some (.val (.one (.int .i64)))),As 6 9])
 (.seq (.reg (some [2,3,4,6]) [Mv 10 6,Bc 11 .neq 30 10 .i64 0])
 (.cond (.tmp 11) (.seq (.reg (some [4,6]) [Ro 12 (.build [.int .i64 0,.int .i64 0] []),Mv 13 6,⟨none,none,.op false (.store 2 (.tmp 4) (.tmp 12))⟩,As 5 13])
 .ret)
 .skip)))
 (.seq (.reg (some [2,3,4]) [Ld 14 2,Ld 15 3,Ca 16 52 [.tmp 14,.tmp 15] (some (.tup [.agg [.int .i64,.int .i64],.one (.int .i64)])),Ex 17 16 0,Ex 18 16 1,⟨none,none,.op false (.store 2 (.tmp 4) (.tmp 17))⟩,As 5 18])
 .ret)),
 [.agg 4 2 [.int .i64,.int .i64],.tmp 5],
 [],
 []⟩
theorem r26_ok : resFun (progU ()) hint live 26 Try.f26 = some r26:=by kernel_rfl
def r27 : RFun :=
⟨.seq (.reg (some [0]) [Ol 2 (.assign (.const (.slice none 0 0)))])
 (.seq (.reg (some [0]) [Ol 3 (.assign (.const (.slice none 0 0)))])
 (.seq (.seq (.reg (some [0,3]) [Ac 4 0])
 (.block 0 (.loop 3 none (some [0,3,4]))))
 (.seq (.reg (some [3]) [Mv 25 3,As 2 25])
 .ret))),
 [.tmp 2],
 [(3,⟨none,some [0,3,4],.seq (.seq (.reg (some [0,3,4]) [Mv 7 4,Mv 8 0,Bt 9 .lss 3 7 8])
 (.cond (.tmp 9) .skip
 (.exit 0 (some [3]))))
 (.seq (.block 1 (.seq (.reg (some [0,3,4]) [Ol 5 (.assign (.const (.slice none 0 0)))])
 (.seq (.seq (.reg (some [0,3,4,5]) [Ac 6 0])
 (.block 2 (.loop 7 none (some [0,3,4,5,6]))))
 (.reg (some [0,3,4,5]) [Mv 21 3,Mv 22 5,Ro 23 (.buildSlice 1 1 [.slice none 0 0] [(0,1,(.tmp 22))]),⟨some 24,none,.op false (.old (.call ⟨.builtin .append,#[.tmp 21,.tmp 23],#[35,35]⟩))⟩,As 3 24]))))
 (.reg (some [0,3,4]) [Mv 10 4,Bc 11 .add 3 10 .i64 1,As 4 11]))⟩),(7,⟨none,some [0,3,4,5,6],.seq (.seq (.reg (some [0,3,4,5,6]) [Mv 12 6,Mv 13 0,Bt 14 .lss 3 12 13])
 (.cond (.tmp 14) .skip
 (.exit 2 (some [0,3,4,5]))))
 (.seq (.block 3 (.reg (some [0,3,4,5,6]) [Mv 17 5,Ro 18 (.build [.int .i64 0,.int .i64 0,.int .i64 0] [(2,1,(.const (.int .i64 1)))]),Ro 19 (.buildSlice 3 1 [.int .i64 0,.int .i64 0,.int .i64 0] [(0,3,(.tmp 18))]),⟨some 20,none,.op false (.old (.call ⟨.builtin .append,#[.tmp 17,.tmp 19],#[27,27]⟩))⟩,As 5 20]))
 (.reg (some [0,3,4,5,6]) [Mv 15 6,Bc 16 .add 3 15 .i64 1,As 6 16]))⟩)],
 []⟩
theorem r27_ok : resFun (progU ()) hint live 27 Try.f27 = some r27:=by kernel_rfl
end Go.Proofs.Ytkbgkjlgnmlghaa
