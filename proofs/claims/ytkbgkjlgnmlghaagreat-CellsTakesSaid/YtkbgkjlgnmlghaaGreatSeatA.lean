import Derived.Test.YtkbgkjlgnmlghaaGreatSeat0
import Derived.Test.YtkbgkjlgnmlghaaGreatSymS
set_option linter.unusedSimpArgs false
set_option linter.unusedVariables false
namespace Go.Proofs.YtkbgkjlgnmlghaaGreat
open Go.Sim
set_option maxRecDepth 100000
def r2 : RFun :=
⟨.reg (some []) [Ca 0 1 [] (some (.tup []))],
 [],
 [],
 []⟩
def r3 : RFun :=
⟨.seq (.reg (some [0,1,2,3]) [Ol 8 (.assign (.const (.bool false)))])
 (.seq (.seq (.reg (some [0,1,2,3]) [Mv 22 0,Ca 23 4 [.tmp 22] (some (.val (.one .bool))),Mv 24 23,⟨some 25,some (24,false),.op false (.old (.move (.tmp 1)))⟩,⟨some 26,some (24,false),.op false (.old (.move (.tmp 2)))⟩,⟨some 27,some (24,false),.call (.func 5) [.tmp 25,.tmp 26] (some (.val (.one .bool)))⟩,Ol 28 (.pick (.tmp 24) (.const (.bool true)) (.tmp 27)),Mv 29 28,⟨some 30,some (29,false),.op false (.old (.move (.tmp 3)))⟩,⟨some 31,some (29,false),.op false (.lenS (.tmp 30))⟩,⟨some 32,some (29,false),.op false (.old (.binOp .gtr 3 (.tmp 31) (.const (.int .i64 80)) 3))⟩,Ol 33 (.pick (.tmp 29) (.const (.bool true)) (.tmp 32))])
 (.cond (.tmp 33) (.seq (.reg (some []) [Ol 8 (.assign (.const (.bool true)))])
 .ret)
 .skip))
 (.seq (.reg (some [0,1,2,3]) [Mv 35 0,Mv 36 1,Ca 37 6 [.tmp 35,.tmp 36] (some (.tup [.one .slice,.one (.int .i64)])),Mv 34 37,Ex 38 34 0,Ex 39 34 1,As 9 38,As 10 39])
 (.seq (.reg (some [0,1,2,3,9,10]) [Mv 41 0,Mv 42 1,Ca 43 7 [.tmp 41,.tmp 42] (some (.tup [.one .slice,.one (.int .i64)])),Mv 40 43,Ex 44 40 0,Ex 45 40 1,As 11 44,As 12 45])
 (.seq (.reg (some [0,2,3,9,10,11,12]) [Mv 47 2,Mv 48 3,Ca 49 8 [.tmp 47,.tmp 48] (some (.tup [.agg [.int .i64,.int .i64,.int .i64],.one (.int .i64)])),Mv 46 49,Ex 50 46 0,Ex 51 46 1,⟨some 13,none,.op true (.new 3 [.int .i64 0,.int .i64 0,.int .i64 0])⟩,⟨none,none,.op false (.store 3 (.tmp 13) (.tmp 50))⟩,As 14 51])
 (.seq (.reg (some [0,2,3,9,10,11,12,13,14]) [Mv 53 2,Mv 54 3,Ca 55 9 [.tmp 53,.tmp 54] (some (.tup [.agg [.int .i64,.int .i64,.int .i64],.one (.int .i64)])),Mv 52 55,Ex 56 52 0,Ex 57 52 1,⟨some 15,none,.op true (.new 3 [.int .i64 0,.int .i64 0,.int .i64 0])⟩,⟨none,none,.op false (.store 3 (.tmp 15) (.tmp 56))⟩,As 16 57])
 (.seq (.reg (some [0,9,10,11,12,13,14,15,16]) [Mv 59 0,Ca 60 10 [.tmp 59] (some (.tup [.one .slice,.one (.int .i64)])),Mv 58 60,Ex 61 58 0,Ex 62 58 1,As 17 61,As 18 62])
 (.seq (.reg (some [0,9,10,11,12,13,14,15,16,17,18]) [Mv 64 0,Ca 65 11 [.tmp 64] (some (.tup [.one .slice,.one (.int .i64)])),Mv 63 65,Ex 66 63 0,Ex 67 63 1,As 19 66,As 20 67])
 (.seq (.seq (.reg (some [0,9,10,11,12,13,14,15,16,17,18,19,20]) [Mv 68 9,Mv 69 11,Ca 70 12 [.tmp 68,.tmp 69] (some (.val (.one .bool))),Ol 71 (.unOp .not 4 (.tmp 70)),Mv 72 71,⟨some 73,some (72,false),.op false (.old (.move (.tmp 10)))⟩,⟨some 74,some (72,false),.op false (.old (.move (.tmp 12)))⟩,⟨some 75,some (72,false),.op false (.old (.binOp .neq 3 (.tmp 73) (.tmp 74) 3))⟩,Ol 76 (.pick (.tmp 72) (.const (.bool true)) (.tmp 75)),Mv 77 76,⟨some 78,some (77,false),.op false (.load 3 [.int .i64,.int .i64,.int .i64] (.tmp 13))⟩,⟨some 79,some (77,false),.op false (.load 3 [.int .i64,.int .i64,.int .i64] (.tmp 15))⟩,⟨some 80,some (77,false),.op false (.old (.binOp .neq 33 (.tmp 78) (.tmp 79) 33))⟩,Ol 81 (.pick (.tmp 77) (.const (.bool true)) (.tmp 80)),Mv 82 81,⟨some 83,some (82,false),.op false (.old (.move (.tmp 14)))⟩,⟨some 84,some (82,false),.op false (.old (.move (.tmp 16)))⟩,⟨some 85,some (82,false),.op false (.old (.binOp .neq 3 (.tmp 83) (.tmp 84) 3))⟩,Ol 86 (.pick (.tmp 82) (.const (.bool true)) (.tmp 85)),Mv 87 86,⟨some 88,some (87,false),.op false (.old (.move (.tmp 17)))⟩,⟨some 89,some (87,false),.op false (.old (.move (.tmp 19)))⟩,⟨some 90,some (87,false),.call (.func 12) [.tmp 88,.tmp 89] (some (.val (.one .bool)))⟩,⟨some 91,some (87,false),.op false (.old (.unOp .not 4 (.tmp 90)))⟩,Ol 92 (.pick (.tmp 87) (.const (.bool true)) (.tmp 91)),Mv 93 92,⟨some 94,some (93,false),.op false (.old (.move (.tmp 18)))⟩,⟨some 95,some (93,false),.op false (.old (.move (.tmp 20)))⟩,⟨some 96,some (93,false),.op false (.old (.binOp .neq 3 (.tmp 94) (.tmp 95) 3))⟩,Ol 97 (.pick (.tmp 93) (.const (.bool true)) (.tmp 96))])
 (.cond (.tmp 97) (.seq (.reg (some []) [Ol 8 (.assign (.const (.bool false)))])
 .ret)
 .skip))
 (.seq (.seq (.reg (some [0,17]) [Mv 98 17,Ro 99 (.lenS (.tmp 98)),Bc 100 .gtr 3 99 .i64 0])
 (.cond (.tmp 100) (.seq (.reg (some [0,17]) [Mv 101 0,Ro 102 (.ixS 1 (.tmp 101) (.const (.int .i64 0))),Ro 103 (.load1 .slice (.tmp 102)),Ro 104 (.ixS 3 (.tmp 103) (.const (.int .i64 0))),Ro 105 (.load 3 [.int .i64,.int .i64,.int .i64] (.tmp 104)),⟨some 21,none,.op true (.new 3 [.int .i64 0,.int .i64 0,.int .i64 0])⟩,⟨none,none,.op false (.store 3 (.tmp 21) (.tmp 105))⟩])
 (.seq (.reg (some [0,17,21]) [Mv 106 17,Ro 107 (.ixS 3 (.tmp 106) (.const (.int .i64 0))),Fa 108 0 107,L1 109 108,Bc 110 .add 2 109 .i64 1,Ro 111 (.ixS 3 (.tmp 106) (.const (.int .i64 0))),Fa 112 0 111,⟨none,none,.op false (.store 1 (.tmp 112) (.tmp 110))⟩])
 (.seq (.draw (some [0,21]) 8 [Dr (Mv 113 0) 0 [1,2,3,4,6,7],Dr (Ro 114 (.ixS 1 (.tmp 113) (.const (.int .i64 0)))) 1 [2,3,4,6,7],Db (Ro 115 (.load1 .slice (.tmp 114))) 2 114 [3,4,6,7],Dr (Ro 116 (.ixS 3 (.tmp 115) (.const (.int .i64 0)))) 3 [4,6,7],Db (Ro 117 (.load 3 [.int .i64,.int .i64,.int .i64] (.tmp 116))) 4 116 [6,7],Db (Ro 118 (.load 3 [.int .i64,.int .i64,.int .i64] (.tmp 21))) 5 21 [6,7],Dr (Bt 119 .eql 33 117 118) 6 [7],Dr (As 8 119) 7 []])
 .ret)))
 .skip))
 (.seq (.reg (some []) [Ol 8 (.assign (.const (.bool true)))])
 .ret)))))))))),
 [.tmp 8],
 [],
 []⟩
theorem r3_ok : resFun (progU ()) hint live 3 Tryz.f3 = some r3:=by kernel_rfl
def r4 : RFun :=
⟨.seq (.reg (some [0]) [Ol 2 (.assign (.const (.bool false)))])
 (.seq (.seq (.reg (some [0]) [Ac 3 0])
 (.block 0 (.loop 2 none (some [0,3]))))
 (.seq (.reg (some [0]) [Mv 16 0,Ro 17 (.lenS (.tmp 16)),Bc 18 .gtr 3 17 .i64 20,As 2 18])
 .ret)),
 [.tmp 2],
 [(2,⟨none,some [0,3],.seq (.seq (.reg (some [0,3]) [Mv 4 3,Mv 5 0,Ro 6 (.lenS (.tmp 5)),Bt 7 .lss 3 4 6])
 (.cond (.tmp 7) .skip
 (.exit 0 (some [0]))))
 (.seq (.block 1 (.seq (.reg (some [0,3]) [Mv 10 0,Mv 11 3,Ix 12 1 10 11,Ro 13 (.load1 .slice (.tmp 12)),Ro 14 (.lenS (.tmp 13)),Bc 15 .gtr 3 14 .i64 20])
 (.cond (.tmp 15) (.seq (.reg (some []) [Ol 2 (.assign (.const (.bool true)))])
 .ret)
 .skip)))
 (.reg (some [0,3]) [Mv 8 3,Bc 9 .add 3 8 .i64 1,As 3 9]))⟩)],
 []⟩
theorem r4_ok : resFun (progU ()) hint live 4 Tryz.f4 = some r4:=by kernel_rfl
def r5 : RFun :=
⟨.seq (.reg (some [0,1]) [Ol 4 (.assign (.const (.bool false)))])
 (.seq (.reg (some [0,1]) [Mv 5 0,Ro 6 (.lenS (.tmp 5)),Bc 7 .gtr 3 6 .i64 16,Mv 8 7,⟨some 9,some (8,true),.op false (.old (.move (.tmp 0)))⟩,⟨some 10,some (8,true),.op false (.lenS (.tmp 9))⟩,⟨some 11,some (8,true),.op false (.old (.binOp .leq 3 (.tmp 10) (.const (.int .i64 32)) 3))⟩,Ol 12 (.pick (.tmp 8) (.tmp 11) (.const (.bool false))),Mv 13 12,⟨some 14,some (13,false),.op false (.old (.move (.tmp 0)))⟩,⟨some 15,some (13,false),.op false (.lenS (.tmp 14))⟩,⟨some 16,some (13,false),.op false (.old (.binOp .gtr 3 (.tmp 15) (.const (.int .i64 40)) 3))⟩,Ol 17 (.pick (.tmp 13) (.const (.bool true)) (.tmp 16)),Mv 18 17,⟨some 19,some (18,false),.op false (.old (.move (.tmp 1)))⟩,⟨some 20,some (18,false),.op false (.lenS (.tmp 19))⟩,⟨some 21,some (18,false),.op false (.old (.binOp .gtr 3 (.tmp 20) (.const (.int .i64 80)) 3))⟩,Ol 22 (.pick (.tmp 18) (.const (.bool true)) (.tmp 21)),As 4 22])
 .ret),
 [.tmp 4],
 [],
 []⟩
theorem r5_ok : resFun (progU ()) hint live 5 Tryz.f5 = some r5:=by kernel_rfl
def r6 : RFun :=
⟨.seq (.reg (some [0,1]) [Ol 4 (.assign (.const (.slice none 0 0))),Ac 5 0])
 (.seq (.seq (.reg (some [0,1]) [Mv 16 0,Ca 17 13 [.tmp 16] (some (.val (.one (.int .i64)))),As 6 17])
 (.seq (.reg (some [0,1,6]) [Mv 18 6,Bc 19 .neq 27 18 .i64 0])
 (.cond (.tmp 19) (.seq (.reg (some [6]) [Mv 20 6,Ol 4 (.assign (.const (.slice none 0 0))),As 5 20])
 .ret)
 .skip)))
 (.seq (.seq (.reg (some [0,1]) [Mv 21 0,Ro 22 (.lenS (.tmp 21)),Mv 23 1,Ca 24 14 [.tmp 22,.tmp 23] (some (.val (.one (.int .i64)))),As 7 24])
 (.seq (.reg (some [0,1,7]) [Mv 25 7,Bc 26 .neq 27 25 .i64 0])
 (.cond (.tmp 26) (.seq (.reg (some [7]) [Mv 27 7,Ol 4 (.assign (.const (.slice none 0 0))),As 5 27])
 .ret)
 .skip)))
 (.seq (.reg (some [0,1]) [Ol 8 (.assign (.const (.slice none 0 0)))])
 (.seq (.seq (.reg (some [0,1,8]) [Mv 28 1,Ro 29 (.lenS (.tmp 28)),Ol 30 (.move (.const (.int .i64 0)))])
 (.block 0 (.loop 9 (some [0,8,28,29,30]) (some [0,8,28,29,30]))))
 (.seq (.reg (some [8]) [Mv 77 8,As 4 77,Ac 5 0])
 .ret))))),
 [.tmp 4,.tmp 5],
 [(9,⟨some [0,8,28,29,30],some [0,8,28,29,30],.seq (.reg (some [0,8,28,29,30]) [Bt 31 .lss 3 30 29])
 (.seq (.cond (.tmp 31) .skip
 (.exit 0 (some [8])))
 (.seq (.block 1 (.seq (.reg (some [0,8,28,29,30]) [Ix 32 4 28 30,Ro 33 (.load 4 [.int .i64,.int .i64,.int .i64,.int .i64] (.tmp 32)),⟨some 10,none,.op true (.new 4 [.int .i64 0,.int .i64 0,.int .i64 0,.int .i64 0])⟩,⟨none,none,.op false (.store 4 (.tmp 10) (.tmp 33))⟩])
 (.seq (.reg (some [0,8,10,28,29,30]) [Mv 35 0,Ro 36 (.lenS (.tmp 35)),Ro 37 (.load 4 [.int .i64,.int .i64,.int .i64,.int .i64] (.tmp 10)),Ca 38 15 [.tmp 36,.tmp 37] (some (.tup [.one .slice,.one (.int .i64)])),Mv 34 38,Ex 39 34 0,Ex 40 34 1,As 11 39,As 12 40])
 (.seq (.seq (.reg (some [0,8,11,12,28,29,30]) [Mv 41 12,Bc 42 .neq 27 41 .i64 0])
 (.cond (.tmp 42) (.seq (.reg (some [12]) [Mv 43 12,Ol 4 (.assign (.const (.slice none 0 0))),As 5 43])
 .ret)
 .skip))
 (.seq (.reg (some [0,8,11,28,29,30]) [Ro 44 (.build [.int .i64 0,.int .i64 0,.int .i64 0] [(2,1,(.const (.int .i64 1)))]),⟨some 13,none,.op true (.new 3 [.int .i64 0,.int .i64 0,.int .i64 0])⟩,⟨none,none,.op false (.store 3 (.tmp 13) (.tmp 44))⟩])
 (.seq (.seq (.reg (some [0,8,11,13,28,29,30]) [Mv 45 11,Ro 46 (.lenS (.tmp 45)),Ol 47 (.move (.const (.int .i64 0)))])
 (.block 2 (.loop 16 (some [0,8,13,28,29,30,45,46,47]) (some [0,8,13,28,29,30,45,46,47]))))
 (.reg (some [0,8,13,28,29,30]) [Mv 72 8,Ro 73 (.load 3 [.int .i64,.int .i64,.int .i64] (.tmp 13)),Ro 74 (.buildSlice 3 1 [.int .i64 0,.int .i64 0,.int .i64 0] [(0,3,(.tmp 73))]),⟨some 75,none,.op false (.old (.call ⟨.builtin .append,#[.tmp 72,.tmp 74],#[24,24]⟩))⟩,As 8 75])))))))
 (.reg (some [0,8,28,29,30]) [Bc 76 .add 3 30 .i64 1,Mv 30 76])))⟩),(16,⟨some [0,8,13,28,29,30,45,46,47],some [0,8,13,28,29,30,45,46,47],.seq (.reg (some [0,8,13,28,29,30,45,46,47]) [Bt 48 .lss 3 47 46])
 (.seq (.cond (.tmp 48) .skip
 (.exit 2 (some [0,8,13,28,29,30])))
 (.seq (.block 3 (.seq (.reg (some [0,8,13,28,29,30,45,46,47]) [Ix 49 4 45 47,Ro 50 (.load 4 [.int .i64,.int .i64,.int .i64,.int .i64] (.tmp 49)),⟨some 15,none,.op true (.new 4 [.int .i64 0,.int .i64 0,.int .i64 0,.int .i64 0])⟩,⟨none,none,.op false (.store 4 (.tmp 15) (.tmp 50))⟩])
 (.seq (.draw (some [0,8,13,15,28,29,30,45,46,47]) 19 [Db (Ro 52 (.load 3 [.int .i64,.int .i64,.int .i64] (.tmp 13))) 0 13 [13,14,15,16,17,18],Dr (Fa 53 2 15) 1 [2,3,13,14,15,16,17,18],Db (Ld 54 53) 2 53 [3,13,14,15,16,17,18],Dr (Mv 56 0) 4 [7,8,11,12,13,14,15,16,17,18],Dr (Fa 57 1 15) 5 [6,7,8,11,12,13,14,15,16,17,18],Db (L1 58 57) 6 57 [7,8,11,12,13,14,15,16,17,18],Dr (Ix 59 1 56 58) 7 [8,11,12,13,14,15,16,17,18],Db (Ro 60 (.load1 .slice (.tmp 59))) 8 59 [11,12,13,14,15,16,17,18],Dr (Fa 61 0 15) 9 [10,11,12,13,14,15,16,17,18],Db (L1 62 61) 10 61 [11,12,13,14,15,16,17,18],Dr (Ix 63 3 60 62) 11 [12,13,14,15,16,17,18],Db (Ro 64 (.load 3 [.int .i64,.int .i64,.int .i64] (.tmp 63))) 12 63 [13,14,15,16,17,18],⟨Ca 55 17 [.tmp 54] (some (.val (.agg [.int .i64,.int .i64,.int .i64]))),3,.all,[13,14,15,16,17,18],false,false⟩,⟨Ca 65 16 [.tmp 52,.tmp 55,.tmp 64] (some (.tup [.agg [.int .i64,.int .i64,.int .i64],.one (.int .i64)])),13,.all,[14,15,16,17,18],false,false⟩,Dr (Mv 51 65) 14 [15,16,17,18],Dr (Ex 66 51 0) 15 [17,18],Dr (Ex 67 51 1) 16 [18],⟨⟨none,none,.op false (.store 3 (.tmp 13) (.tmp 66))⟩,17,.blk (.tmp 13),[18],true,true⟩,Dr (As 12 67) 18 []])
 (.seq (.reg (some [0,8,12,13,28,29,30,45,46,47]) [Mv 68 12,Bc 69 .neq 27 68 .i64 0])
 (.cond (.tmp 69) (.seq (.reg (some [12]) [Mv 70 12,Ol 4 (.assign (.const (.slice none 0 0))),As 5 70])
 .ret)
 .skip)))))
 (.reg (some [0,8,13,28,29,30,45,46,47]) [Bc 71 .add 3 47 .i64 1,Mv 47 71])))⟩)],
 []⟩
theorem r6_ok : resFun (progU ()) hint live 6 Tryz.f6 = some r6:=by kernel_rfl
def r7 : RFun :=
⟨.seq (.reg (some [0,1]) [Ol 4 (.assign (.const (.slice none 0 0))),Ac 5 0])
 (.seq (.seq (.reg (some [0,1]) [Mv 14 0,Ca 15 18 [.tmp 14] (some (.val (.one (.int .i64)))),As 6 15])
 (.seq (.reg (some [0,1,6]) [Mv 16 6,Bc 17 .neq 3 16 .i64 0])
 (.cond (.tmp 17) (.seq (.reg (some [6]) [Mv 18 6,Ol 4 (.assign (.const (.slice none 0 0))),As 5 18])
 .ret)
 .skip)))
 (.seq (.seq (.reg (some [0,1]) [Mv 19 0,Ro 20 (.lenS (.tmp 19)),Mv 21 1,Ca 22 19 [.tmp 20,.tmp 21] (some (.val (.one (.int .i64)))),As 7 22])
 (.seq (.reg (some [0,1,7]) [Mv 23 7,Bc 24 .neq 3 23 .i64 0])
 (.cond (.tmp 24) (.seq (.reg (some [7]) [Mv 25 7,Ol 4 (.assign (.const (.slice none 0 0))),As 5 25])
 .ret)
 .skip)))
 (.seq (.reg (some [0,1]) [Ol 8 (.assign (.const (.slice none 0 0)))])
 (.seq (.seq (.reg (some [0,1,8]) [Ac 9 0])
 (.block 0 (.loop 9 (some [0,1,8,9]) (some [0,1,8,9]))))
 (.seq (.reg (some [8]) [Mv 78 8,As 4 78,Ac 5 0])
 .ret))))),
 [.tmp 4,.tmp 5],
 [(9,⟨some [0,1,8,9],some [0,1,8,9],.seq (.seq (.reg (some [0,1,8,9]) [Mv 26 9,Mv 27 1,Ro 28 (.lenS (.tmp 27)),Bt 29 .lss 3 26 28])
 (.cond (.tmp 29) .skip
 (.exit 0 (some [8]))))
 (.seq (.block 1 (.seq (.reg (some [0,1,8,9]) [Mv 32 0,Ro 33 (.lenS (.tmp 32)),Mv 34 1,Mv 35 9,Ix 36 4 34 35,Ro 37 (.load 4 [.int .i64,.int .i64,.int .i64,.int .i64] (.tmp 36)),Ca 38 20 [.tmp 33,.tmp 37] (some (.val (.one .slice))),As 10 38])
 (.seq (.reg (some [0,1,8,9,10]) [Ro 39 (.build [.int .i64 0,.int .i64 0,.int .i64 0] [(2,1,(.const (.int .i64 1)))]),⟨some 11,none,.op true (.new 3 [.int .i64 0,.int .i64 0,.int .i64 0])⟩,⟨none,none,.op false (.store 3 (.tmp 11) (.tmp 39))⟩,Ac 12 0])
 (.seq (.seq (.reg (some [0,1,8,9,10,11]) [Ac 13 0])
 (.block 2 (.loop 14 (some [0,1,8,9,10,11,13]) (some [0,1,8,9,10,11,13]))))
 (.reg (some [0,1,8,9,11]) [Mv 74 8,Ro 75 (.load 3 [.int .i64,.int .i64,.int .i64] (.tmp 11)),Ro 76 (.buildSlice 3 1 [.int .i64 0,.int .i64 0,.int .i64 0] [(0,3,(.tmp 75))]),⟨some 77,none,.op false (.old (.call ⟨.builtin .append,#[.tmp 74,.tmp 76],#[24,24]⟩))⟩,As 8 77])))))
 (.reg (some [0,1,8,9]) [Mv 30 9,Bc 31 .add 3 30 .i64 1,As 9 31]))⟩),(14,⟨some [0,1,8,9,10,11,13],some [0,1,8,9,10,11,13],.seq (.seq (.reg (some [0,1,8,9,10,11,13]) [Mv 40 13,Mv 41 10,Ro 42 (.lenS (.tmp 41)),Bt 43 .lss 3 40 42])
 (.cond (.tmp 43) .skip
 (.exit 2 (some [0,1,8,9,11]))))
 (.seq (.block 3 (.seq (.draw (some [0,1,8,9,10,11,13]) 27 [Db (Ro 47 (.load 3 [.int .i64,.int .i64,.int .i64] (.tmp 11))) 0 11 [21,22,23,24,25,26],Dr (Mv 48 10) 1 [3,4,5,21,22,23,24,25,26],Dr (Mv 49 13) 2 [3,4,5,21,22,23,24,25,26],Dr (Ix 50 4 48 49) 3 [4,5,21,22,23,24,25,26],Dr (Fa 51 2 50) 4 [5,21,22,23,24,25,26],Db (Ld 52 51) 5 51 [21,22,23,24,25,26],Dr (Mv 53 0) 6 [12,13,19,20,21,22,23,24,25,26],Dr (Mv 54 10) 7 [9,10,11,12,13,19,20,21,22,23,24,25,26],Dr (Mv 55 13) 8 [9,10,11,12,13,19,20,21,22,23,24,25,26],Dr (Ix 56 4 54 55) 9 [10,11,12,13,19,20,21,22,23,24,25,26],Dr (Fa 57 1 56) 10 [11,12,13,19,20,21,22,23,24,25,26],Db (L1 58 57) 11 57 [12,13,19,20,21,22,23,24,25,26],Dr (Ix 59 1 53 58) 12 [13,19,20,21,22,23,24,25,26],Db (Ro 60 (.load1 .slice (.tmp 59))) 13 59 [19,20,21,22,23,24,25,26],Dr (Mv 61 10) 14 [16,17,18,19,20,21,22,23,24,25,26],Dr (Mv 62 13) 15 [16,17,18,19,20,21,22,23,24,25,26],Dr (Ix 63 4 61 62) 16 [17,18,19,20,21,22,23,24,25,26],Dr (Fa 64 0 63) 17 [18,19,20,21,22,23,24,25,26],Db (L1 65 64) 18 64 [19,20,21,22,23,24,25,26],Dr (Ix 66 3 60 65) 19 [20,21,22,23,24,25,26],Db (Ro 67 (.load 3 [.int .i64,.int .i64,.int .i64] (.tmp 66))) 20 66 [21,22,23,24,25,26],⟨Ca 68 21 [.tmp 47,.tmp 52,.tmp 67] (some (.tup [.agg [.int .i64,.int .i64,.int .i64],.one (.int .i64)])),21,.all,[22,23,24,25,26],false,false⟩,Dr (Mv 46 68) 22 [23,24,25,26],Dr (Ex 69 46 0) 23 [25,26],Dr (Ex 70 46 1) 24 [26],⟨⟨none,none,.op false (.store 3 (.tmp 11) (.tmp 69))⟩,25,.blk (.tmp 11),[26],true,true⟩,Dr (As 12 70) 26 []])
 (.seq (.reg (some [0,1,8,9,10,11,12,13]) [Mv 71 12,Bc 72 .neq 3 71 .i64 0])
 (.cond (.tmp 72) (.seq (.reg (some [12]) [Mv 73 12,Ol 4 (.assign (.const (.slice none 0 0))),As 5 73])
 .ret)
 .skip))))
 (.reg (some [0,1,8,9,10,11,13]) [Mv 44 13,Bc 45 .add 3 44 .i64 1,As 13 45]))⟩)],
 []⟩
theorem r7_ok : resFun (progU ()) hint live 7 Tryz.f7 = some r7:=by kernel_rfl
def r8 : RFun :=
⟨.seq (.reg (some [0,1]) [⟨some 4,none,.op true (.new 3 [.int .i64 0,.int .i64 0,.int .i64 0])⟩,Ac 5 0])
 (.seq (.seq (.reg (some [0,1,4]) [Mv 11 0,Ro 12 (.lenS (.tmp 11)),Bc 13 .gtr 3 12 .i64 64,Mv 14 13,⟨some 15,some (14,false),.op false (.old (.move (.tmp 1)))⟩,⟨some 16,some (14,false),.op false (.lenS (.tmp 15))⟩,⟨some 17,some (14,false),.op false (.old (.binOp .gtr 3 (.tmp 16) (.const (.int .i64 64)) 3))⟩,Ol 18 (.pick (.tmp 14) (.const (.bool true)) (.tmp 17))])
 (.cond (.tmp 18) (.seq (.reg (some [4]) [Ro 19 (.build [.int .i64 0,.int .i64 0,.int .i64 0] []),⟨none,none,.op false (.store 3 (.tmp 4) (.tmp 19))⟩,Ac 5 4])
 .ret)
 .skip))
 (.seq (.seq (.reg (some [0,1,4]) [Mv 20 0,Ro 21 (.lenS (.tmp 20)),Mv 22 1,Ro 23 (.lenS (.tmp 22)),Bt 24 .neq 3 21 23])
 (.cond (.tmp 24) (.seq (.reg (some [4]) [Ro 25 (.build [.int .i64 0,.int .i64 0,.int .i64 0] []),⟨none,none,.op false (.store 3 (.tmp 4) (.tmp 25))⟩,Ac 5 2])
 .ret)
 .skip))
 (.seq (.seq (.reg (some [0,1,4]) [Mv 26 0,Ca 27 22 [.tmp 26] (some (.val (.one .bool))),Ol 28 (.unOp .not 4 (.tmp 27)),Mv 29 28,⟨some 30,some (29,false),.op false (.old (.move (.tmp 1)))⟩,⟨some 31,some (29,false),.call (.func 22) [.tmp 30] (some (.val (.one .bool)))⟩,⟨some 32,some (29,false),.op false (.old (.unOp .not 4 (.tmp 31)))⟩,Ol 33 (.pick (.tmp 29) (.const (.bool true)) (.tmp 32))])
 (.cond (.tmp 33) (.seq (.reg (some [4]) [Ro 34 (.build [.int .i64 0,.int .i64 0,.int .i64 0] []),⟨none,none,.op false (.store 3 (.tmp 4) (.tmp 34))⟩,Ac 5 8])
 .ret)
 .skip))
 (.seq (.reg (some [0,1,4]) [Ro 35 (.build [.int .i64 0,.int .i64 0,.int .i64 0] [(2,1,(.const (.int .i64 1)))]),⟨some 6,none,.op true (.new 3 [.int .i64 0,.int .i64 0,.int .i64 0])⟩,⟨none,none,.op false (.store 3 (.tmp 6) (.tmp 35))⟩])
 (.seq (.seq (.reg (some [0,1,4,6]) [Mv 36 0,Ro 37 (.lenS (.tmp 36)),Ol 38 (.move (.const (.int .i64 0)))])
 (.block 0 (.loop 9 (some [1,4,6,36,37,38]) (some [1,4,6,36,37,38]))))
 (.seq (.reg (some [4,6]) [Ro 67 (.load 3 [.int .i64,.int .i64,.int .i64] (.tmp 6)),⟨none,none,.op false (.store 3 (.tmp 4) (.tmp 67))⟩,Ac 5 0])
 .ret)))))),
 [.agg 4 3 [.int .i64,.int .i64,.int .i64],.tmp 5],
 [(9,⟨some [1,4,6,36,37,38],some [1,4,6,36,37,38],.seq (.reg (some [1,4,6,36,37,38]) [Bt 39 .lss 3 38 37])
 (.seq (.cond (.tmp 39) .skip
 (.exit 0 (some [4,6])))
 (.seq (.block 1 (.seq (.reg (some [1,4,6,36,37,38]) [Mv 40 38,Ix 41 3 36 38,Ro 42 (.load 3 [.int .i64,.int .i64,.int .i64] (.tmp 41)),⟨some 8,none,.op true (.new 3 [.int .i64 0,.int .i64 0,.int .i64 0])⟩,As 7 40,⟨none,none,.op false (.store 3 (.tmp 8) (.tmp 42))⟩])
 (.seq (.reg (some [1,4,6,7,8,36,37,38]) [Mv 44 1,Mv 45 7,Ix 46 3 44 45,Ro 47 (.load 3 [.int .i64,.int .i64,.int .i64] (.tmp 46)),Ca 48 23 [.tmp 47] (some (.tup [.agg [.int .i64,.int .i64,.int .i64],.one (.int .i64)])),Mv 43 48,Ex 49 43 0,Ex 50 43 1,⟨some 9,none,.op true (.new 3 [.int .i64 0,.int .i64 0,.int .i64 0])⟩,⟨none,none,.op false (.store 3 (.tmp 9) (.tmp 49))⟩,As 10 50])
 (.seq (.seq (.reg (some [1,4,6,8,9,10,36,37,38]) [Mv 51 10,Bc 52 .neq 27 51 .i64 0])
 (.cond (.tmp 52) (.seq (.reg (some [4,10]) [Ro 53 (.build [.int .i64 0,.int .i64 0,.int .i64 0] []),Mv 54 10,⟨none,none,.op false (.store 3 (.tmp 4) (.tmp 53))⟩,As 5 54])
 .ret)
 .skip))
 (.seq (.reg (some [1,4,6,8,9,36,37,38]) [Ro 56 (.load 3 [.int .i64,.int .i64,.int .i64] (.tmp 6)),Ro 57 (.load 3 [.int .i64,.int .i64,.int .i64] (.tmp 8)),Ro 58 (.load 3 [.int .i64,.int .i64,.int .i64] (.tmp 9)),Ca 59 16 [.tmp 56,.tmp 57,.tmp 58] (some (.tup [.agg [.int .i64,.int .i64,.int .i64],.one (.int .i64)])),Mv 55 59,Ex 60 55 0,Ex 61 55 1,⟨none,none,.op false (.store 3 (.tmp 6) (.tmp 60))⟩,As 10 61])
 (.seq (.reg (some [1,4,6,10,36,37,38]) [Mv 62 10,Bc 63 .neq 27 62 .i64 0])
 (.cond (.tmp 63) (.seq (.reg (some [4,10]) [Ro 64 (.build [.int .i64 0,.int .i64 0,.int .i64 0] []),Mv 65 10,⟨none,none,.op false (.store 3 (.tmp 4) (.tmp 64))⟩,As 5 65])
 .ret)
 .skip)))))))
 (.reg (some [1,4,6,36,37,38]) [Bc 66 .add 3 38 .i64 1,Mv 38 66])))⟩)],
 []⟩
theorem r8_ok : resFun (progU ()) hint live 8 Tryz.f8 = some r8:=by kernel_rfl
def r9 : RFun :=
⟨.seq (.reg (some [0,1]) [⟨some 4,none,.op true (.new 3 [.int .i64 0,.int .i64 0,.int .i64 0])⟩,Ac 5 0])
 (.seq (.seq (.reg (some [0,1,4]) [Mv 12 0,Ro 13 (.lenS (.tmp 12)),Bc 14 .gtr 3 13 .i64 64,Mv 15 14,⟨some 16,some (15,false),.op false (.old (.move (.tmp 1)))⟩,⟨some 17,some (15,false),.op false (.lenS (.tmp 16))⟩,⟨some 18,some (15,false),.op false (.old (.binOp .gtr 3 (.tmp 17) (.const (.int .i64 64)) 3))⟩,Ol 19 (.pick (.tmp 15) (.const (.bool true)) (.tmp 18))])
 (.cond (.tmp 19) (.seq (.reg (some [4]) [Ro 20 (.build [.int .i64 0,.int .i64 0,.int .i64 0] []),⟨none,none,.op false (.store 3 (.tmp 4) (.tmp 20))⟩,Ac 5 4])
 .ret)
 .skip))
 (.seq (.seq (.reg (some [0,1,4]) [Mv 21 0,Ro 22 (.lenS (.tmp 21)),Mv 23 1,Ro 24 (.lenS (.tmp 23)),Bt 25 .neq 3 22 24])
 (.cond (.tmp 25) (.seq (.reg (some [4]) [Ro 26 (.build [.int .i64 0,.int .i64 0,.int .i64 0] []),⟨none,none,.op false (.store 3 (.tmp 4) (.tmp 26))⟩,Ac 5 2])
 .ret)
 .skip))
 (.seq (.seq (.reg (some [0,1,4]) [Mv 27 0,Ca 28 24 [.tmp 27] (some (.val (.one .bool))),Ol 29 (.unOp .not 4 (.tmp 28)),Mv 30 29,⟨some 31,some (30,false),.op false (.old (.move (.tmp 1)))⟩,⟨some 32,some (30,false),.call (.func 24) [.tmp 31] (some (.val (.one .bool)))⟩,⟨some 33,some (30,false),.op false (.old (.unOp .not 4 (.tmp 32)))⟩,Ol 34 (.pick (.tmp 30) (.const (.bool true)) (.tmp 33))])
 (.cond (.tmp 34) (.seq (.reg (some [4]) [Ro 35 (.build [.int .i64 0,.int .i64 0,.int .i64 0] []),⟨none,none,.op false (.store 3 (.tmp 4) (.tmp 35))⟩,Ac 5 8])
 .ret)
 .skip))
 (.seq (.reg (some [0,1,4]) [Ro 36 (.build [.int .i64 0,.int .i64 0,.int .i64 0] [(2,1,(.const (.int .i64 1)))]),⟨some 6,none,.op true (.new 3 [.int .i64 0,.int .i64 0,.int .i64 0])⟩,⟨none,none,.op false (.store 3 (.tmp 6) (.tmp 36))⟩])
 (.seq (.seq (.reg (some [0,1,4,6]) [Ac 7 0])
 (.block 0 (.loop 9 (some [0,1,4,6,7]) (some [0,1,4,6,7]))))
 (.seq (.reg (some [4,6]) [Ro 74 (.load 3 [.int .i64,.int .i64,.int .i64] (.tmp 6)),⟨none,none,.op false (.store 3 (.tmp 4) (.tmp 74))⟩,Ac 5 0])
 .ret)))))),
 [.agg 4 3 [.int .i64,.int .i64,.int .i64],.tmp 5],
 [(9,⟨some [0,1,4,6,7],some [0,1,4,6,7],.seq (.seq (.reg (some [0,1,4,6,7]) [Mv 37 7,Mv 38 0,Ro 39 (.lenS (.tmp 38)),Bt 40 .lss 3 37 39])
 (.cond (.tmp 40) .skip
 (.exit 0 (some [4,6]))))
 (.seq (.block 1 (.seq (.reg (some [0,1,4,6,7]) [Mv 44 1,Mv 45 7,Ix 46 3 44 45,Ro 47 (.load 3 [.int .i64,.int .i64,.int .i64] (.tmp 46)),Ca 48 25 [.tmp 47] (some (.tup [.agg [.int .i64,.int .i64,.int .i64],.one (.int .i64)])),Mv 43 48,Ex 49 43 0,Ex 50 43 1,⟨some 8,none,.op true (.new 3 [.int .i64 0,.int .i64 0,.int .i64 0])⟩,⟨none,none,.op false (.store 3 (.tmp 8) (.tmp 49))⟩,As 9 50])
 (.seq (.draw (some [0,1,4,6,7,8]) 12 [Dr (Mv 52 0) 0 [2,3,5,6,7,8,10,11],Dr (Mv 53 7) 1 [2,3,5,6,7,8,10,11],Dr (Ix 54 3 52 53) 2 [3,5,6,7,8,10,11],Db (Ro 55 (.load 3 [.int .i64,.int .i64,.int .i64] (.tmp 54))) 3 54 [5,6,7,8,10,11],Db (Ro 56 (.load 3 [.int .i64,.int .i64,.int .i64] (.tmp 8))) 4 8 [5,6,7,8,10,11],⟨⟨some 10,none,.op true (.new 3 [.int .i64 0,.int .i64 0,.int .i64 0])⟩,9,.new true,[10,11],false,true⟩,⟨Ca 57 26 [.tmp 55,.tmp 56] (some (.tup [.agg [.int .i64,.int .i64,.int .i64],.one (.int .i64)])),5,.all,[6,7,8,10,11],false,false⟩,Dr (Mv 51 57) 6 [7,8,10,11],Dr (Ex 58 51 0) 7 [10,11],Dr (Ex 59 51 1) 8 [11],⟨⟨none,none,.op false (.store 3 (.tmp 10) (.tmp 58))⟩,10,.blk (.tmp 10),[11],true,true⟩,Dr (As 11 59) 11 []])
 (.seq (.seq (.reg (some [0,1,4,6,7,10,11]) [Mv 60 11,Bc 61 .neq 3 60 .i64 0])
 (.cond (.tmp 61) (.seq (.reg (some [4,11]) [Ro 62 (.build [.int .i64 0,.int .i64 0,.int .i64 0] []),Mv 63 11,⟨none,none,.op false (.store 3 (.tmp 4) (.tmp 62))⟩,As 5 63])
 .ret)
 .skip))
 (.seq (.reg (some [0,1,4,6,7,10]) [Ro 65 (.load 3 [.int .i64,.int .i64,.int .i64] (.tmp 6)),Ro 66 (.load 3 [.int .i64,.int .i64,.int .i64] (.tmp 10)),Ca 67 27 [.tmp 65,.tmp 66] (some (.tup [.agg [.int .i64,.int .i64,.int .i64],.one (.int .i64)])),Mv 64 67,Ex 68 64 0,Ex 69 64 1,⟨none,none,.op false (.store 3 (.tmp 6) (.tmp 68))⟩,As 11 69])
 (.seq (.reg (some [0,1,4,6,7,11]) [Mv 70 11,Bc 71 .neq 3 70 .i64 0])
 (.cond (.tmp 71) (.seq (.reg (some [4,11]) [Ro 72 (.build [.int .i64 0,.int .i64 0,.int .i64 0] []),Mv 73 11,⟨none,none,.op false (.store 3 (.tmp 4) (.tmp 72))⟩,As 5 73])
 .ret)
 .skip)))))))
 (.reg (some [0,1,4,6,7]) [Mv 41 7,Bc 42 .add 3 41 .i64 1,As 7 42]))⟩)],
 []⟩
theorem r9_ok : resFun (progU ()) hint live 9 Tryz.f9 = some r9:=by kernel_rfl
def r10 : RFun :=
⟨.seq (.reg (some [0]) [Ol 2 (.assign (.const (.slice none 0 0))),Ac 3 0])
 (.seq (.seq (.reg (some [0]) [Mv 5 0,Ca 6 13 [.tmp 5] (some (.val (.one (.int .i64)))),As 4 6])
 (.seq (.reg (some [0,4]) [Mv 7 4,Bc 8 .neq 27 7 .i64 0])
 (.cond (.tmp 8) (.seq (.reg (some [4]) [Mv 9 4,Ol 2 (.assign (.const (.slice none 0 0))),As 3 9])
 .ret)
 .skip)))
 (.seq (.reg (some [0]) [Mv 10 0,Ca 11 28 [.tmp 10] (some (.val (.one .slice))),As 2 11,Ac 3 0])
 .ret)),
 [.tmp 2,.tmp 3],
 [],
 []⟩
theorem r10_ok : resFun (progU ()) hint live 10 Tryz.f10 = some r10:=by kernel_rfl
def r11 : RFun :=
⟨.seq (.reg (some [0]) [Ol 2 (.assign (.const (.slice none 0 0))),Ac 3 0])
 (.seq (.seq (.reg (some [0]) [Mv 7 0,Ca 8 18 [.tmp 7] (some (.val (.one (.int .i64)))),As 4 8])
 (.seq (.reg (some [0,4]) [Mv 9 4,Bc 10 .neq 3 9 .i64 0])
 (.cond (.tmp 10) (.seq (.reg (some [4]) [Mv 11 4,Ol 2 (.assign (.const (.slice none 0 0))),As 3 11])
 .ret)
 .skip)))
 (.seq (.reg (some [0]) [Ol 5 (.assign (.const (.slice none 0 0)))])
 (.seq (.seq (.reg (some [0,5]) [Ac 6 0])
 (.block 0 (.loop 6 none (some [0,5,6]))))
 (.seq (.reg (some [5]) [Mv 24 5,As 2 24,Ac 3 0])
 .ret)))),
 [.tmp 2,.tmp 3],
 [(6,⟨none,some [0,5,6],.seq (.seq (.reg (some [0,5,6]) [Mv 12 6,Mv 13 0,Ro 14 (.lenS (.tmp 13)),Bt 15 .lss 3 12 14])
 (.cond (.tmp 15) .skip
 (.exit 0 (some [5]))))
 (.seq (.block 1 (.reg (some [0,5,6]) [Mv 18 5,Mv 19 0,Mv 20 6,Ix 21 1 19 20,Ro 22 (.load1 .slice (.tmp 21)),⟨some 23,none,.op false (.old (.call ⟨.builtin .append,#[.tmp 18,.tmp 22],#[24,24]⟩))⟩,As 5 23]))
 (.reg (some [0,5,6]) [Mv 16 6,Bc 17 .add 3 16 .i64 1,As 6 17]))⟩)],
 []⟩
theorem r11_ok : resFun (progU ()) hint live 11 Tryz.f11 = some r11:=by kernel_rfl
def r12 : RFun :=
⟨.seq (.reg (some [0,1]) [Ol 4 (.assign (.const (.bool false)))])
 (.seq (.seq (.reg (some [0,1]) [Mv 6 0,Ro 7 (.lenS (.tmp 6)),Mv 8 1,Ro 9 (.lenS (.tmp 8)),Bt 10 .neq 3 7 9])
 (.cond (.tmp 10) (.seq (.reg (some []) [Ol 4 (.assign (.const (.bool false)))])
 .ret)
 .skip))
 (.seq (.seq (.reg (some [0,1]) [Ac 5 0])
 (.block 0 (.loop 4 (some [0,1,5]) (some [0,1,5]))))
 (.seq (.reg (some []) [Ol 4 (.assign (.const (.bool true)))])
 .ret))),
 [.tmp 4],
 [(4,⟨some [0,1,5],some [0,1,5],.seq (.seq (.reg (some [0,1,5]) [Mv 11 5,Mv 12 0,Ro 13 (.lenS (.tmp 12)),Bt 14 .lss 3 11 13])
 (.cond (.tmp 14) .skip
 (.exit 0 (some []))))
 (.seq (.block 1 (.seq (.draw (some [0,1,5]) 9 [Dr (Mv 17 0) 0 [2,3,8],Dr (Mv 18 5) 1 [2,3,8],Dr (Ix 19 3 17 18) 2 [3,8],Db (Ro 20 (.load 3 [.int .i64,.int .i64,.int .i64] (.tmp 19))) 3 19 [8],Dr (Mv 21 1) 4 [6,7,8],Dr (Mv 22 5) 5 [6,7,8],Dr (Ix 23 3 21 22) 6 [7,8],Db (Ro 24 (.load 3 [.int .i64,.int .i64,.int .i64] (.tmp 23))) 7 23 [8],Dr (Bt 25 .neq 33 20 24) 8 []])
 (.cond (.tmp 25) (.seq (.reg (some []) [Ol 4 (.assign (.const (.bool false)))])
 .ret)
 .skip)))
 (.reg (some [0,1,5]) [Mv 15 5,Bc 16 .add 3 15 .i64 1,As 5 16]))⟩)],
 []⟩
theorem r12_ok : resFun (progU ()) hint live 12 Tryz.f12 = some r12:=by kernel_rfl
def r13 : RFun :=
⟨.seq (.reg (some [0]) [Ac 2 0])
 (.seq (.seq (.reg (some [0]) [Mv 7 0,Ro 8 (.lenS (.tmp 7)),Bc 9 .lss 3 8 .i64 2,Mv 10 9,⟨some 11,some (10,false),.op false (.old (.move (.tmp 0)))⟩,⟨some 12,some (10,false),.op false (.lenS (.tmp 11))⟩,⟨some 13,some (10,false),.op false (.old (.binOp .gtr 3 (.tmp 12) (.const (.int .i64 8)) 3))⟩,Ol 14 (.pick (.tmp 10) (.const (.bool true)) (.tmp 13))])
 (.cond (.tmp 14) (.seq (.reg (some []) [Ac 2 2])
 .ret)
 .skip))
 (.seq (.seq (.reg (some [0]) [Mv 15 0,Ro 16 (.lenS (.tmp 15)),Ol 17 (.move (.const (.int .i64 0)))])
 (.block 0 (.loop 4 none (some [0,15,16,17]))))
 (.seq (.seq (.reg (some [0]) [Mv 27 0,Ro 28 (.lenS (.tmp 27)),Ol 29 (.move (.const (.int .i64 0)))])
 (.block 2 (.loop 10 none (some [27,28,29]))))
 (.seq (.reg (some []) [Ac 2 0])
 .ret)))),
 [.tmp 2],
 [(4,⟨none,some [0,15,16,17],.seq (.reg (some [0,15,16,17]) [Bt 18 .lss 3 17 16])
 (.seq (.cond (.tmp 18) .skip
 (.exit 0 (some [0])))
 (.seq (.block 1 (.seq (.reg (some [0,15,16,17]) [Ix 19 1 15 17,Ro 20 (.load1 .slice (.tmp 19)),As 4 20])
 (.seq (.reg (some [0,4,15,16,17]) [Mv 21 4,Ro 22 (.lenS (.tmp 21)),Mv 23 0,Ro 24 (.lenS (.tmp 23)),Bt 25 .neq 3 22 24])
 (.cond (.tmp 25) (.seq (.reg (some []) [Ac 2 2])
 .ret)
 .skip))))
 (.reg (some [0,15,16,17]) [Bc 26 .add 3 17 .i64 1,Mv 17 26])))⟩),(10,⟨none,some [27,28,29],.seq (.reg (some [27,28,29]) [Bt 30 .lss 3 29 28])
 (.seq (.cond (.tmp 30) .skip
 (.exit 2 (some [])))
 (.seq (.block 3 (.seq (.reg (some [27,28,29]) [Ix 31 1 27 29,Ro 32 (.load1 .slice (.tmp 31)),As 6 32])
 (.seq (.reg (some [6,27,28,29]) [Mv 33 6,Ca 34 22 [.tmp 33] (some (.val (.one .bool))),Ol 35 (.unOp .not 4 (.tmp 34))])
 (.cond (.tmp 35) (.seq (.reg (some []) [Ac 2 8])
 .ret)
 .skip))))
 (.reg (some [27,28,29]) [Bc 36 .add 3 29 .i64 1,Mv 29 36])))⟩)],
 []⟩
theorem r13_ok : resFun (progU ()) hint live 13 Tryz.f13 = some r13:=by kernel_rfl
def r14 : RFun :=
⟨.seq (.reg (some [0,1]) [Ac 4 0])
 (.seq (.seq (.reg (some [0,1]) [Mv 7 0,Bc 8 .lss 3 7 .i64 2,Mv 9 8,⟨some 10,some (9,false),.op false (.old (.move (.tmp 0)))⟩,⟨some 11,some (9,false),.op false (.old (.binOp .gtr 3 (.tmp 10) (.const (.int .i64 8)) 3))⟩,Ol 12 (.pick (.tmp 9) (.const (.bool true)) (.tmp 11))])
 (.cond (.tmp 12) (.seq (.reg (some []) [Ac 4 2])
 .ret)
 .skip))
 (.seq (.seq (.reg (some [0,1]) [Mv 13 1,Ro 14 (.lenS (.tmp 13)),Bc 15 .gtr 3 14 .i64 32])
 (.cond (.tmp 15) (.seq (.reg (some []) [Ac 4 4])
 .ret)
 .skip))
 (.seq (.seq (.reg (some [0,1]) [Mv 16 1,Ro 17 (.lenS (.tmp 16)),Ol 18 (.move (.const (.int .i64 0)))])
 (.block 0 (.loop 6 (some [0,16,17,18]) (some [0,16,17,18]))))
 (.seq (.reg (some []) [Ac 4 0])
 .ret)))),
 [.tmp 4],
 [(6,⟨some [0,16,17,18],some [0,16,17,18],.seq (.reg (some [0,16,17,18]) [Bt 19 .lss 3 18 17])
 (.seq (.cond (.tmp 19) .skip
 (.exit 0 (some [])))
 (.seq (.block 1 (.seq (.reg (some [0,16,17,18]) [Ix 20 4 16 18,Ro 21 (.load 4 [.int .i64,.int .i64,.int .i64,.int .i64] (.tmp 20)),⟨some 6,none,.op true (.new 4 [.int .i64 0,.int .i64 0,.int .i64 0,.int .i64 0])⟩,⟨none,none,.op false (.store 4 (.tmp 6) (.tmp 21))⟩])
 (.seq (.reg (some [0,6,16,17,18]) [Mv 22 0,Fa 23 0 6,Ld 24 23,Ca 25 29 [.tmp 22,.tmp 24] (some (.val (.one .bool))),Ol 26 (.unOp .not 4 (.tmp 25)),Mv 27 26,⟨some 28,some (27,false),.op false (.old (.move (.tmp 0)))⟩,⟨some 29,some (27,false),.op false (.fieldAddr 2 (.tmp 6))⟩,⟨some 30,some (27,false),.op false (.load 2 [.int .i64,.int .i64] (.tmp 29))⟩,⟨some 31,some (27,false),.call (.func 29) [.tmp 28,.tmp 30] (some (.val (.one .bool)))⟩,⟨some 32,some (27,false),.op false (.old (.unOp .not 4 (.tmp 31)))⟩,Ol 33 (.pick (.tmp 27) (.const (.bool true)) (.tmp 32))])
 (.cond (.tmp 33) (.seq (.reg (some []) [Ac 4 8])
 .ret)
 .skip))))
 (.reg (some [0,16,17,18]) [Bc 34 .add 3 18 .i64 1,Mv 18 34])))⟩)],
 []⟩
theorem r14_ok : resFun (progU ()) hint live 14 Tryz.f14 = some r14:=by kernel_rfl
def r15 : RFun :=
⟨.seq (.reg (some [0,1]) [⟨some 3,none,.op true (.box 4 (.tmp 1))⟩,Ol 4 (.assign (.const (.slice none 0 0))),Ac 5 0])
 (.seq (.seq (.reg (some [0,3]) [Mv 17 0,Ro 18 (.load 4 [.int .i64,.int .i64,.int .i64,.int .i64] (.tmp 3)),Ro 19 (.buildSlice 4 1 [.int .i64 0,.int .i64 0,.int .i64 0,.int .i64 0] [(0,4,(.tmp 18))]),Ca 20 14 [.tmp 17,.tmp 19] (some (.val (.one (.int .i64)))),As 6 20])
 (.seq (.reg (some [0,3,6]) [Mv 21 6,Bc 22 .neq 27 21 .i64 0])
 (.cond (.tmp 22) (.seq (.reg (some [6]) [Mv 23 6,Ol 4 (.assign (.const (.slice none 0 0))),As 5 23])
 .ret)
 .skip)))
 (.seq (.reg (some [0,3]) [Fa 25 0 3,Ld 26 25,Ca 27 30 [.tmp 26] (some (.tup [.one (.int .i64),.agg [.int .i64,.int .i64,.int .i64,.int .i64],.one (.int .i64)])),Mv 24 27,Ex 28 24 0,Ex 29 24 1,Ex 30 24 2,Ro 8 (.new 4 [.int .i64 0,.int .i64 0,.int .i64 0,.int .i64 0]),As 7 28,⟨none,none,.op false (.store 4 (.tmp 8) (.tmp 29))⟩,As 9 30])
 (.seq (.seq (.reg (some [0,3,7,8,9]) [Mv 31 9,Bc 32 .neq 27 31 .i64 0])
 (.cond (.tmp 32) (.seq (.reg (some [9]) [Mv 33 9,Ol 4 (.assign (.const (.slice none 0 0))),As 5 33])
 .ret)
 .skip))
 (.seq (.reg (some [0,3,7,8]) [Fa 35 2 3,Ld 36 35,Ca 37 30 [.tmp 36] (some (.tup [.one (.int .i64),.agg [.int .i64,.int .i64,.int .i64,.int .i64],.one (.int .i64)])),Mv 34 37,Ex 38 34 0,Ex 39 34 1,Ex 40 34 2,Ro 11 (.new 4 [.int .i64 0,.int .i64 0,.int .i64 0,.int .i64 0]),As 10 38,⟨none,none,.op false (.store 4 (.tmp 11) (.tmp 39))⟩,As 9 40])
 (.seq (.seq (.reg (some [0,7,8,9,10,11]) [Mv 41 9,Bc 42 .neq 27 41 .i64 0])
 (.cond (.tmp 42) (.seq (.reg (some [9]) [Mv 43 9,Ol 4 (.assign (.const (.slice none 0 0))),As 5 43])
 .ret)
 .skip))
 (.seq (.reg (some [0,7,8,10,11]) [Ol 12 (.assign (.const (.slice none 0 0)))])
 (.seq (.seq (.reg (some [0,7,8,10,11,12]) [Ol 44 (.move (.const (.int .i64 0)))])
 (.block 0 (.loop 12 (some [0,7,8,10,11,12,44]) (some [0,7,8,10,11,12,44]))))
 (.seq (.reg (some [12]) [Mv 83 12,Ca 84 32 [.tmp 83,.func 33] (some (.tup []))])
 (.seq (.reg (some [12]) [Mv 85 12,As 4 85,Ac 5 0])
 .ret))))))))),
 [.tmp 4,.tmp 5],
 [(12,⟨some [0,7,8,10,11,12,44],some [0,7,8,10,11,12,44],.seq (.reg (some [0,7,8,10,11,12,44]) [Bc 45 .lss 3 44 .i64 2])
 (.seq (.cond (.tmp 45) .skip
 (.exit 0 (some [12])))
 (.seq (.block 1 (.seq (.reg (some [0,7,8,10,11,12,44]) [Mv 46 44,As 13 46])
 (.seq (.reg (some [0,7,8,10,11,12,13,44]) [Ol 47 (.move (.const (.int .i64 0)))])
 (.block 2 (.loop 15 (some [0,7,8,10,11,12,13,44,47]) (some [0,7,8,10,11,12,13,44,47]))))))
 (.reg (some [0,7,8,10,11,12,44]) [Bc 82 .add 3 44 .i64 1,Mv 44 82])))⟩),(15,⟨some [0,7,8,10,11,12,13,44,47],some [0,7,8,10,11,12,13,44,47],.seq (.reg (some [0,7,8,10,11,12,13,44,47]) [Bc 48 .lss 3 47 .i64 2])
 (.seq (.cond (.tmp 48) .skip
 (.exit 2 (some [0,7,8,10,11,12,44])))
 (.seq (.block 3 (.seq (.reg (some [0,7,8,10,11,12,13,44,47]) [Mv 49 47,As 14 49])
 (.seq (.draw (some [0,7,8,10,11,12,13,14,44,47]) 13 [Dr (Mv 51 14) 0 [1,2,6,7,8,9,11,12],Dr (Ro 52 (.ixA 2 2 (.tmp 8) (.tmp 51))) 1 [2,6,7,8,9,11,12],Db (Ld 53 52) 2 52 [6,7,8,9,11,12],Dr (Mv 54 13) 3 [4,5,6,7,8,9,11,12],Dr (Ro 55 (.ixA 2 2 (.tmp 11) (.tmp 54))) 4 [5,6,7,8,9,11,12],Db (Ld 56 55) 5 55 [6,7,8,9,11,12],⟨⟨some 15,none,.op true (.new 2 [.int .i64 0,.int .i64 0])⟩,10,.new true,[11,12],false,true⟩,⟨Ca 57 31 [.tmp 53,.tmp 56] (some (.tup [.agg [.int .i64,.int .i64],.one (.int .i64)])),6,.all,[7,8,9,11,12],false,false⟩,Dr (Mv 50 57) 7 [8,9,11,12],Dr (Ex 58 50 0) 8 [11,12],Dr (Ex 59 50 1) 9 [12],⟨⟨none,none,.op false (.store 2 (.tmp 15) (.tmp 58))⟩,11,.blk (.tmp 15),[12],true,true⟩,Dr (As 16 59) 12 []])
 (.seq (.seq (.reg (some [0,7,8,10,11,12,13,14,15,16,44,47]) [Mv 60 16,Bc 61 .neq 27 60 .i64 0])
 (.cond (.tmp 61) (.seq (.reg (some [16]) [Mv 62 16,Ol 4 (.assign (.const (.slice none 0 0))),As 5 62])
 .ret)
 .skip))
 (.seq (.reg (some [0,7,8,10,11,12,13,14,15,44,47]) [Fa 63 0 15,L1 64 63,Bc 65 .neq 2 64 .i64 0])
 (.cond (.tmp 65) (.draw (some [0,7,8,10,11,12,13,14,15,44,47]) 16 [Dr (Mv 66 12) 0 [14,15],Dr (Mv 67 7) 1 [3,5,12,13,14,15],Dr (Mv 68 14) 2 [3,5,12,13,14,15],Dr (Bt 69 .add 3 67 68) 3 [5,12,13,14,15],Dr (Mv 70 0) 4 [5,12,13,14,15],Dr (Bt 71 .rem 3 69 70) 5 [12,13,14,15],Dr (Mv 72 10) 6 [8,10,12,13,14,15],Dr (Mv 73 13) 7 [8,10,12,13,14,15],Dr (Bt 74 .add 3 72 73) 8 [10,12,13,14,15],Dr (Mv 75 0) 9 [10,12,13,14,15],Dr (Bt 76 .rem 3 74 75) 10 [12,13,14,15],Db (Ld 77 15) 11 15 [12,13,14,15],Dr (Ro 78 (.build [.int .i64 0,.int .i64 0,.int .i64 0,.int .i64 0] [(0,1,(.tmp 71)),(1,1,(.tmp 76)),(2,2,(.tmp 77))])) 12 [13,14,15],⟨Ro 79 (.buildSlice 4 1 [.int .i64 0,.int .i64 0,.int .i64 0,.int .i64 0] [(0,4,(.tmp 78))]),13,.new false,[14,15],false,true⟩,⟨⟨some 80,none,.op false (.old (.call ⟨.builtin .append,#[.tmp 66,.tmp 79],#[48,48]⟩))⟩,14,.app [.tmp 66,.tmp 79],[15],false,false⟩,Dr (As 12 80) 15 []])
 .skip))))))
 (.reg (some [0,7,8,10,11,12,13,44,47]) [Bc 81 .add 3 47 .i64 1,Mv 47 81])))⟩)],
 []⟩
theorem r15_ok : resFun (progU ()) hint live 15 Tryz.f15 = some r15:=by kernel_rfl
def r16 : RFun :=
⟨.seq (.reg (some [0,1,2]) [⟨some 3,none,.op true (.box 3 (.tmp 0))⟩,⟨some 4,none,.op true (.box 3 (.tmp 1))⟩,⟨some 5,none,.op true (.box 3 (.tmp 2))⟩,⟨some 6,none,.op true (.new 3 [.int .i64 0,.int .i64 0,.int .i64 0])⟩,Ac 7 0])
 (.seq (.reg (some [3,4,5,6]) [Ro 11 (.load 3 [.int .i64,.int .i64,.int .i64] (.tmp 4)),Ro 12 (.load 3 [.int .i64,.int .i64,.int .i64] (.tmp 5)),Ca 13 36 [.tmp 11,.tmp 12] (some (.tup [.agg [.int .i64,.int .i64,.int .i64],.one (.int .i64)])),Mv 10 13,Ex 14 10 0,Ex 15 10 1,⟨some 8,none,.op true (.new 3 [.int .i64 0,.int .i64 0,.int .i64 0])⟩,⟨none,none,.op false (.store 3 (.tmp 8) (.tmp 14))⟩,As 9 15])
 (.seq (.seq (.reg (some [3,6,8,9]) [Mv 16 9,Bc 17 .neq 27 16 .i64 0])
 (.cond (.tmp 17) (.seq (.reg (some [6,9]) [Ro 18 (.build [.int .i64 0,.int .i64 0,.int .i64 0] []),Mv 19 9,⟨none,none,.op false (.store 3 (.tmp 6) (.tmp 18))⟩,As 7 19])
 .ret)
 .skip))
 (.seq (.reg (some [3,6,8]) [Ro 20 (.load 3 [.int .i64,.int .i64,.int .i64] (.tmp 3)),Ro 21 (.load 3 [.int .i64,.int .i64,.int .i64] (.tmp 8)),Ca 22 37 [.tmp 20,.tmp 21] (some (.tup [.agg [.int .i64,.int .i64,.int .i64],.one (.int .i64)])),Ex 23 22 0,Ex 24 22 1,⟨none,none,.op false (.store 3 (.tmp 6) (.tmp 23))⟩,As 7 24])
 .ret))),
 [.agg 6 3 [.int .i64,.int .i64,.int .i64],.tmp 7],
 [],
 []⟩
theorem r16_ok : resFun (progU ()) hint live 16 Tryz.f16 = some r16:=by kernel_rfl
def r17 : RFun :=
⟨.seq (.reg (some [0]) [⟨some 1,none,.op true (.box 2 (.tmp 0))⟩,⟨some 2,none,.op true (.new 3 [.int .i64 0,.int .i64 0,.int .i64 0])⟩])
 (.seq (.reg (some [1,2]) [Fa 3 0 1,L1 4 3,Fa 5 1 1,L1 6 5,Ro 7 (.build [.int .i64 0,.int .i64 0,.int .i64 0] [(0,1,(.tmp 4)),(2,1,(.tmp 6))]),⟨none,none,.op false (.store 3 (.tmp 2) (.tmp 7))⟩])
 .ret),
 [.agg 2 3 [.int .i64,.int .i64,.int .i64]],
 [],
 []⟩
theorem r17_ok : resFun (progU ()) hint live 17 Tryz.f17 = some r17:=by kernel_rfl
def r18 : RFun :=
⟨.seq (.reg (some [0]) [Ac 2 0])
 (.seq (.seq (.reg (some [0]) [Mv 5 0,Ro 6 (.lenS (.tmp 5)),Bc 7 .lss 3 6 .i64 2,Mv 8 7,⟨some 9,some (8,false),.op false (.old (.move (.tmp 0)))⟩,⟨some 10,some (8,false),.op false (.lenS (.tmp 9))⟩,⟨some 11,some (8,false),.op false (.old (.binOp .gtr 3 (.tmp 10) (.const (.int .i64 8)) 3))⟩,Ol 12 (.pick (.tmp 8) (.const (.bool true)) (.tmp 11))])
 (.cond (.tmp 12) (.seq (.reg (some []) [Ac 2 2])
 .ret)
 .skip))
 (.seq (.seq (.reg (some [0]) [Ac 3 0])
 (.block 0 (.loop 4 none (some [0,3]))))
 (.seq (.seq (.reg (some [0]) [Ac 4 0])
 (.block 2 (.loop 9 none (some [0,4]))))
 (.seq (.reg (some []) [Ac 2 0])
 .ret)))),
 [.tmp 2],
 [(4,⟨none,some [0,3],.seq (.seq (.reg (some [0,3]) [Mv 13 3,Mv 14 0,Ro 15 (.lenS (.tmp 14)),Bt 16 .lss 3 13 15])
 (.cond (.tmp 16) .skip
 (.exit 0 (some [0]))))
 (.seq (.block 1 (.seq (.reg (some [0,3]) [Mv 19 0,Mv 20 3,Ix 21 1 19 20,Ro 22 (.load1 .slice (.tmp 21)),Ro 23 (.lenS (.tmp 22)),Mv 24 0,Ro 25 (.lenS (.tmp 24)),Bt 26 .neq 3 23 25])
 (.cond (.tmp 26) (.seq (.reg (some []) [Ac 2 2])
 .ret)
 .skip)))
 (.reg (some [0,3]) [Mv 17 3,Bc 18 .add 3 17 .i64 1,As 3 18]))⟩),(9,⟨none,some [0,4],.seq (.seq (.reg (some [0,4]) [Mv 27 4,Mv 28 0,Ro 29 (.lenS (.tmp 28)),Bt 30 .lss 3 27 29])
 (.cond (.tmp 30) .skip
 (.exit 2 (some []))))
 (.seq (.block 3 (.seq (.reg (some [0,4]) [Mv 33 0,Mv 34 4,Ix 35 1 33 34,Ro 36 (.load1 .slice (.tmp 35)),Ca 37 24 [.tmp 36] (some (.val (.one .bool))),Ol 38 (.unOp .not 4 (.tmp 37))])
 (.cond (.tmp 38) (.seq (.reg (some []) [Ac 2 8])
 .ret)
 .skip)))
 (.reg (some [0,4]) [Mv 31 4,Bc 32 .add 3 31 .i64 1,As 4 32]))⟩)],
 []⟩
theorem r18_ok : resFun (progU ()) hint live 18 Tryz.f18 = some r18:=by kernel_rfl
def r19 : RFun :=
⟨.seq (.reg (some [0,1]) [Ac 4 0])
 (.seq (.seq (.reg (some [0,1]) [Mv 6 0,Bc 7 .lss 3 6 .i64 2,Mv 8 7,⟨some 9,some (8,false),.op false (.old (.move (.tmp 0)))⟩,⟨some 10,some (8,false),.op false (.old (.binOp .gtr 3 (.tmp 9) (.const (.int .i64 8)) 3))⟩,Ol 11 (.pick (.tmp 8) (.const (.bool true)) (.tmp 10))])
 (.cond (.tmp 11) (.seq (.reg (some []) [Ac 4 2])
 .ret)
 .skip))
 (.seq (.seq (.reg (some [0,1]) [Mv 12 1,Ro 13 (.lenS (.tmp 12)),Bc 14 .gtr 3 13 .i64 32])
 (.cond (.tmp 14) (.seq (.reg (some []) [Ac 4 4])
 .ret)
 .skip))
 (.seq (.seq (.reg (some [0,1]) [Ac 5 0])
 (.block 0 (.loop 6 none (some [0,1,5]))))
 (.seq (.reg (some []) [Ac 4 0])
 .ret)))),
 [.tmp 4],
 [(6,⟨none,some [0,1,5],.seq (.seq (.reg (some [0,1,5]) [Mv 15 5,Mv 16 1,Ro 17 (.lenS (.tmp 16)),Bt 18 .lss 3 15 17])
 (.cond (.tmp 18) .skip
 (.exit 0 (some []))))
 (.seq (.block 1 (.seq (.reg (some [0,1,5]) [Mv 21 0,Mv 22 1,Mv 23 5,Ix 24 4 22 23,Fa 25 0 24,Ld 26 25,Ca 27 38 [.tmp 21,.tmp 26] (some (.val (.one .bool))),Ol 28 (.unOp .not 4 (.tmp 27)),Mv 29 28,⟨some 30,some (29,false),.op false (.old (.move (.tmp 0)))⟩,⟨some 31,some (29,false),.op false (.old (.move (.tmp 1)))⟩,⟨some 32,some (29,false),.op false (.old (.move (.tmp 5)))⟩,⟨some 33,some (29,false),.op false (.ixS 4 (.tmp 31) (.tmp 32))⟩,⟨some 34,some (29,false),.op false (.fieldAddr 2 (.tmp 33))⟩,⟨some 35,some (29,false),.op false (.load 2 [.int .i64,.int .i64] (.tmp 34))⟩,⟨some 36,some (29,false),.call (.func 38) [.tmp 30,.tmp 35] (some (.val (.one .bool)))⟩,⟨some 37,some (29,false),.op false (.old (.unOp .not 4 (.tmp 36)))⟩,Ol 38 (.pick (.tmp 29) (.const (.bool true)) (.tmp 37))])
 (.cond (.tmp 38) (.seq (.reg (some []) [Ac 4 8])
 .ret)
 .skip)))
 (.reg (some [0,1,5]) [Mv 19 5,Bc 20 .add 3 19 .i64 1,As 5 20]))⟩)],
 []⟩
theorem r19_ok : resFun (progU ()) hint live 19 Tryz.f19 = some r19:=by kernel_rfl
end Go.Proofs.YtkbgkjlgnmlghaaGreat
