import Derived.Test.YtogliemiljhliaaSeat0
import Derived.Test.YtogliemiljhliaaSymS
set_option linter.unusedSimpArgs false
set_option linter.unusedVariables false
namespace Go.Proofs.Ytogliemiljhliaa
open Go.Sim
set_option maxRecDepth 100000
def r2 : RFun :=
⟨.reg (some []) [Ca 0 1 [] (some (.tup []))],
 [],
 [],
 []⟩
def r3 : RFun :=
⟨.seq (.reg (some [0]) [Ol 2 (.assign (.const (.bool false)))])
 (.seq (.seq (.reg (some [0]) [Mv 19 0,Ro 20 (.lenS (.tmp 19)),Bc 21 .gtr 3 20 .i64 40])
 (.cond (.tmp 21) (.seq (.reg (some []) [Ol 2 (.assign (.const (.bool true)))])
 .ret)
 .skip))
 (.seq (.reg (some [0]) [Mv 23 0,Ca 24 10 [.tmp 23] (some (.tup [.one .slice,.one (.int .i64)])),Mv 22 24,Ex 25 22 0,Ex 26 22 1,As 3 25,As 4 26])
 (.seq (.reg (some [0,3,4]) [Mv 28 0,Ca 29 11 [.tmp 28] (some (.tup [.one .slice,.one (.int .i64)])),Mv 27 29,Ex 30 27 0,Ex 31 27 1,As 5 30,As 6 31])
 (.seq (.reg (some [0,3,4,5,6]) [Mv 33 0,Ca 34 12 [.tmp 33] (some (.tup [.one .slice,.one (.int .i64)])),Mv 32 34,Ex 35 32 0,Ex 36 32 1,As 7 35,As 8 36])
 (.seq (.reg (some [0,3,4,5,6,7,8]) [Mv 38 0,Ca 39 13 [.tmp 38] (some (.tup [.one .slice,.one (.int .i64)])),Mv 37 39,Ex 40 37 0,Ex 41 37 1,As 9 40,As 10 41])
 (.seq (.reg (some [0,3,4,5,6,7,8,9,10]) [Mv 43 0,Ca 44 14 [.tmp 43] (some (.tup [.one .slice,.one (.int .i64)])),Mv 42 44,Ex 45 42 0,Ex 46 42 1,As 11 45,As 12 46])
 (.seq (.reg (some [0,3,4,5,6,7,8,9,10,11,12]) [Mv 48 0,Ca 49 15 [.tmp 48] (some (.tup [.one .slice,.one (.int .i64)])),Mv 47 49,Ex 50 47 0,Ex 51 47 1,As 13 50,As 14 51])
 (.seq (.reg (some [0,3,4,5,6,7,8,9,10,11,12,13,14]) [Mv 53 0,Ca 54 16 [.tmp 53] (some (.tup [.one .bool,.one (.int .i64)])),Mv 52 54,Ex 55 52 0,Ex 56 52 1,As 15 55,As 16 56])
 (.seq (.reg (some [0,3,4,5,6,7,8,9,10,11,12,13,14,15,16]) [Mv 58 0,Ca 59 17 [.tmp 58] (some (.tup [.one .bool,.one (.int .i64)])),Mv 57 59,Ex 60 57 0,Ex 61 57 1,As 17 60,As 18 61])
 (.seq (.reg (some [0,3,4,5,6,7,8,9,10,11,12,13,14,15,16,17,18]) [Mv 62 0,Ca 63 18 [.tmp 62] (some (.val (.one (.int .i64)))),Mv 64 0,Ca 65 19 [.tmp 64] (some (.val (.one (.int .i64)))),Bt 66 .eql 3 63 65,Mv 67 66,⟨some 68,some (67,true),.op false (.old (.move (.tmp 3)))⟩,⟨some 69,some (67,true),.op false (.old (.move (.tmp 5)))⟩,⟨some 70,some (67,true),.call (.func 20) [.tmp 68,.tmp 69] (some (.val (.one .bool)))⟩,Ol 71 (.pick (.tmp 67) (.tmp 70) (.const (.bool false))),Mv 72 71,⟨some 73,some (72,true),.op false (.old (.move (.tmp 4)))⟩,⟨some 74,some (72,true),.op false (.old (.move (.tmp 6)))⟩,⟨some 75,some (72,true),.op false (.old (.binOp .eql 3 (.tmp 73) (.tmp 74) 3))⟩,Ol 76 (.pick (.tmp 72) (.tmp 75) (.const (.bool false))),Mv 77 76,⟨some 78,some (77,true),.op false (.old (.move (.tmp 7)))⟩,⟨some 79,some (77,true),.op false (.old (.move (.tmp 9)))⟩,⟨some 80,some (77,true),.call (.func 21) [.tmp 78,.tmp 79] (some (.val (.one .bool)))⟩,Ol 81 (.pick (.tmp 77) (.tmp 80) (.const (.bool false))),Mv 82 81,⟨some 83,some (82,true),.op false (.old (.move (.tmp 8)))⟩,⟨some 84,some (82,true),.op false (.old (.move (.tmp 10)))⟩,⟨some 85,some (82,true),.op false (.old (.binOp .eql 3 (.tmp 83) (.tmp 84) 3))⟩,Ol 86 (.pick (.tmp 82) (.tmp 85) (.const (.bool false))),Mv 87 86,⟨some 88,some (87,true),.op false (.old (.move (.tmp 11)))⟩,⟨some 89,some (87,true),.op false (.old (.move (.tmp 13)))⟩,⟨some 90,some (87,true),.call (.func 22) [.tmp 88,.tmp 89] (some (.val (.one .bool)))⟩,Ol 91 (.pick (.tmp 87) (.tmp 90) (.const (.bool false))),Mv 92 91,⟨some 93,some (92,true),.op false (.old (.move (.tmp 12)))⟩,⟨some 94,some (92,true),.op false (.old (.move (.tmp 14)))⟩,⟨some 95,some (92,true),.op false (.old (.binOp .eql 3 (.tmp 93) (.tmp 94) 3))⟩,Ol 96 (.pick (.tmp 92) (.tmp 95) (.const (.bool false))),Mv 97 96,⟨some 98,some (97,true),.op false (.old (.move (.tmp 15)))⟩,⟨some 99,some (97,true),.op false (.old (.move (.tmp 17)))⟩,⟨some 100,some (97,true),.op false (.old (.binOp .eql 4 (.tmp 98) (.tmp 99) 4))⟩,Ol 101 (.pick (.tmp 97) (.tmp 100) (.const (.bool false))),Mv 102 101,⟨some 103,some (102,true),.op false (.old (.move (.tmp 16)))⟩,⟨some 104,some (102,true),.op false (.old (.move (.tmp 18)))⟩,⟨some 105,some (102,true),.op false (.old (.binOp .eql 3 (.tmp 103) (.tmp 104) 3))⟩,Ol 106 (.pick (.tmp 102) (.tmp 105) (.const (.bool false))),As 2 106])
 .ret)))))))))),
 [.tmp 2],
 [],
 []⟩
def r4 : RFun :=
⟨.seq (.reg (some [0]) [Ol 2 (.assign (.const (.bool false)))])
 (.seq (.reg (some [0]) [Ca 16 23 [] (some (.val (.one .bool))),As 3 16])
 (.seq (.seq (.reg (some [0,3]) [Mv 17 0,Ca 18 19 [.tmp 17] (some (.val (.one (.int .i64)))),Bc 19 .neq 3 18 .i64 0,Mv 20 19,⟨some 21,some (20,false),.op false (.old (.move (.tmp 3)))⟩,⟨some 22,some (20,false),.op false (.old (.unOp .not 4 (.tmp 21)))⟩,Ol 23 (.pick (.tmp 20) (.const (.bool true)) (.tmp 22))])
 (.cond (.tmp 23) (.seq (.reg (some [3]) [Mv 24 3,As 2 24])
 .ret)
 .skip))
 (.seq (.reg (some [0,3]) [Mv 26 0,Ca 27 10 [.tmp 26] (some (.tup [.one .slice,.one (.int .i64)])),Mv 25 27,Ex 28 25 0,Ex 29 25 1,As 4 28,As 5 29])
 (.seq (.reg (some [0,3,4,5]) [Mv 31 0,Ca 32 12 [.tmp 31] (some (.tup [.one .slice,.one (.int .i64)])),Mv 30 32,Ex 33 30 0,Ex 34 30 1,As 6 33,As 7 34])
 (.seq (.seq (.reg (some [0,3,4,5,6,7]) [Mv 35 5,Bc 36 .neq 23 35 .i64 0,Mv 37 36,⟨some 38,some (37,false),.op false (.old (.move (.tmp 7)))⟩,⟨some 39,some (37,false),.op false (.old (.binOp .neq 23 (.tmp 38) (.const (.int .i64 0)) 23))⟩,Ol 40 (.pick (.tmp 37) (.const (.bool true)) (.tmp 39)),Mv 41 40,⟨some 42,some (41,false),.op false (.old (.move (.tmp 6)))⟩,⟨some 43,some (41,false),.op false (.lenS (.tmp 42))⟩,⟨some 44,some (41,false),.op false (.old (.move (.tmp 0)))⟩,⟨some 45,some (41,false),.op false (.lenS (.tmp 44))⟩,⟨some 46,some (41,false),.op false (.old (.move (.tmp 0)))⟩,⟨some 47,some (41,false),.op false (.lenS (.tmp 46))⟩,⟨some 48,some (41,false),.op false (.old (.binOp .sub 3 (.tmp 47) (.const (.int .i64 1)) 3))⟩,⟨some 49,some (41,false),.op false (.old (.binOp .mul 3 (.tmp 45) (.tmp 48) 3))⟩,⟨some 50,some (41,false),.op false (.old (.binOp .quo 3 (.tmp 49) (.const (.int .i64 2)) 3))⟩,⟨some 51,some (41,false),.op false (.old (.binOp .neq 3 (.tmp 43) (.tmp 50) 3))⟩,Ol 52 (.pick (.tmp 41) (.const (.bool true)) (.tmp 51))])
 (.cond (.tmp 52) (.seq (.reg (some []) [Ol 2 (.assign (.const (.bool false)))])
 .ret)
 .skip))
 (.seq (.reg (some [0,3,4,6]) [Mv 53 4,Ro 54 (.lenS (.tmp 53)),Ro 55 (.mkSlice 1 [.bool false] (.tmp 54) (.tmp 54)),As 8 55])
 (.seq (.reg (some [0,3,4,6,8]) [Ac 9 0])
 (.seq (.seq (.reg (some [0,3,4,6,8,9]) [Ac 10 0])
 (.block 0 (.loop 11 (some [0,3,4,6,8,9,10]) (some [0,3,4,6,8,9,10]))))
 (.seq (.seq (.reg (some [3,4,8]) [Ac 15 0])
 (.block 7 (.loop 34 (some [3,4,8,15]) (some [3,4,8,15]))))
 (.seq (.reg (some [3]) [Mv 161 3,As 2 161])
 .ret)))))))))),
 [.tmp 2],
 [(11,⟨some [0,3,4,6,8,9,10],some [0,3,4,6,8,9,10],.seq (.seq (.reg (some [0,3,4,6,8,9,10]) [Mv 56 10,Mv 57 0,Ro 58 (.lenS (.tmp 57)),Bt 59 .lss 3 56 58])
 (.cond (.tmp 59) .skip
 (.exit 0 (some [3,4,8]))))
 (.seq (.block 1 (.seq (.reg (some [0,3,4,6,8,9,10]) [Mv 62 10,Bc 63 .add 3 62 .i64 1,As 11 63])
 (.block 2 (.loop 14 (some [0,3,4,6,8,9,10,11]) (some [0,3,4,6,8,9,10,11])))))
 (.reg (some [0,3,4,6,8,9,10]) [Mv 60 10,Bc 61 .add 3 60 .i64 1,As 10 61]))⟩),(14,⟨some [0,3,4,6,8,9,10,11],some [0,3,4,6,8,9,10,11],.seq (.seq (.reg (some [0,3,4,6,8,9,10,11]) [Mv 64 11,Mv 65 0,Ro 66 (.lenS (.tmp 65)),Bt 67 .lss 3 64 66])
 (.cond (.tmp 67) .skip
 (.exit 2 (some [0,3,4,6,8,9,10]))))
 (.seq (.block 3 (.seq (.reg (some [0,3,4,6,8,9,10,11]) [Mv 70 6,Mv 71 9,Ix 72 1 70 71,Ro 73 (.load1 .slice (.tmp 72)),As 12 73])
 (.seq (.reg (some [0,3,4,6,8,9,10,11,12]) [Mv 74 9,Bc 75 .add 3 74 .i64 1,As 9 75])
 (.seq (.seq (.reg (some [0,3,4,6,8,9,10,11,12]) [Mv 76 12,Ro 77 (.lenS (.tmp 76)),Mv 78 0,Ro 79 (.lenS (.tmp 78)),Mv 80 4,Ro 81 (.lenS (.tmp 80)),Bt 82 .add 3 79 81,Bt 83 .neq 3 77 82])
 (.cond (.tmp 83) (.seq (.reg (some []) [Ol 2 (.assign (.const (.bool false)))])
 .ret)
 .skip))
 (.seq (.reg (some [0,3,4,6,8,9,10,11,12]) [Ac 13 0])
 (.block 4 (.loop 21 (some [0,3,4,6,8,9,10,11,12,13]) (some [0,3,4,6,8,9,10,11,12,13]))))))))
 (.reg (some [0,3,4,6,8,9,10,11]) [Mv 68 11,Bc 69 .add 3 68 .i64 1,As 11 69]))⟩),(21,⟨some [0,3,4,6,8,9,10,11,12,13],some [0,3,4,6,8,9,10,11,12,13],.seq (.seq (.reg (some [0,3,4,6,8,9,10,11,12,13]) [Mv 84 13,Mv 85 12,Ro 86 (.lenS (.tmp 85)),Bt 87 .lss 3 84 86])
 (.cond (.tmp 87) .skip
 (.exit 4 (some [0,3,4,6,8,9,10,11]))))
 (.seq (.block 5 (.seq (.reg (some [0,3,4,6,8,9,10,11,12,13]) [Ac 14 0])
 (.seq (.block 6 (.seq (.reg (some [0,3,4,6,8,9,10,11,12,13,14]) [Mv 91 13,Mv 92 10,Bt 93 .eql 3 91 92,As 90 93])
 (.cond (.tmp 90) (.reg (some [0,3,4,6,8,9,10,11,12,13]) [Ac 14 1])
 (.seq (.reg (some [0,3,4,6,8,9,10,11,12,13,14]) [Mv 95 13,Mv 96 11,Bt 97 .eql 3 95 96,As 94 97])
 (.cond (.tmp 94) (.reg (some [0,3,4,6,8,9,10,11,12,13]) [Ol 14 (.assign (.const (.int .i64 (-1))))])
 (.seq (.draw (some [0,3,4,6,8,9,10,11,12,13,14]) 24 [Dr (Mv 99 13) 0 [3,4,5,6,7,8,9,10,11,12,13,14,15,16,17,18,19,20,21,22,23],Dr (Mv 100 0) 1 [2,3,4,5,6,7,8,9,10,11,12,13,14,15,16,17,18,19,20,21,22,23],Dr (Ro 101 (.lenS (.tmp 100))) 2 [3,4,5,6,7,8,9,10,11,12,13,14,15,16,17,18,19,20,21,22,23],Dr (Bt 102 .geq 3 99 101) 3 [4,5,6,7,8,9,10,11,12,13,14,15,16,17,18,19,20,21,22,23],Dr (Mv 103 102) 4 [5,6,7,8,9,10,11,12,13,14,15,16,17,18,19,20,21,22,23],⟨⟨some 104,some (103,true),.op false (.old (.move (.tmp 4)))⟩,5,.none,[10,11,21,22,23],false,true⟩,⟨⟨some 105,some (103,true),.op false (.old (.move (.tmp 13)))⟩,6,.none,[9,10,11,21,22,23],false,true⟩,⟨⟨some 106,some (103,true),.op false (.old (.move (.tmp 0)))⟩,7,.none,[8,9,10,11,21,22,23],false,true⟩,⟨⟨some 107,some (103,true),.op false (.lenS (.tmp 106))⟩,8,.none,[9,10,11,21,22,23],false,true⟩,⟨⟨some 108,some (103,true),.op false (.old (.binOp .sub 3 (.tmp 105) (.tmp 107) 3))⟩,9,.none,[10,11,21,22,23],false,true⟩,⟨⟨some 109,some (103,true),.op false (.ixS 1 (.tmp 104) (.tmp 108))⟩,10,.none,[11,21,22,23],false,true⟩,⟨⟨some 110,some (103,true),.op false (.load1 (.int .i64) (.tmp 109))⟩,11,.blk (.tmp 109),[21,22,23],false,true⟩,⟨⟨some 111,some (103,true),.op false (.old (.move (.tmp 0)))⟩,12,.none,[14,15,20,21,22,23],false,true⟩,⟨⟨some 112,some (103,true),.op false (.old (.move (.tmp 11)))⟩,13,.none,[14,15,20,21,22,23],false,true⟩,⟨⟨some 113,some (103,true),.op false (.ixS 1 (.tmp 111) (.tmp 112))⟩,14,.none,[15,20,21,22,23],false,true⟩,⟨⟨some 114,some (103,true),.op false (.load1 (.int .i64) (.tmp 113))⟩,15,.blk (.tmp 113),[20,21,22,23],false,true⟩,⟨⟨some 115,some (103,true),.op false (.old (.move (.tmp 0)))⟩,16,.none,[18,19,20,21,22,23],false,true⟩,⟨⟨some 116,some (103,true),.op false (.old (.move (.tmp 10)))⟩,17,.none,[18,19,20,21,22,23],false,true⟩,⟨⟨some 117,some (103,true),.op false (.ixS 1 (.tmp 115) (.tmp 116))⟩,18,.none,[19,20,21,22,23],false,true⟩,⟨⟨some 118,some (103,true),.op false (.load1 (.int .i64) (.tmp 117))⟩,19,.blk (.tmp 117),[20,21,22,23],false,true⟩,⟨⟨some 119,some (103,true),.op false (.old (.binOp .sub 3 (.tmp 114) (.tmp 118) 3))⟩,20,.none,[21,22,23],false,true⟩,⟨⟨some 120,some (103,true),.op false (.old (.binOp .eql 3 (.tmp 110) (.tmp 119) 3))⟩,21,.none,[22,23],false,true⟩,Dr (Ol 121 (.pick (.tmp 103) (.tmp 120) (.const (.bool false)))) 22 [23],Dr (As 98 121) 23 []])
 (.cond (.tmp 98) (.seq (.reg (some [0,3,4,6,8,9,10,11,12,13]) [Ac 14 1])
 (.reg (some [0,3,4,6,8,9,10,11,12,13,14]) [Mv 122 8,Mv 123 13,Mv 124 0,Ro 125 (.lenS (.tmp 124)),Bt 126 .sub 3 123 125,Ix 127 1 122 126,⟨none,none,.op false (.store 1 (.tmp 127) (.const (.bool true)))⟩]))
 .skip)))))))
 (.seq (.reg (some [0,3,4,6,8,9,10,11,12,13,14]) [Mv 128 12,Mv 129 13,Ix 130 1 128 129,L1 131 130,Mv 132 14,Bt 133 .neq 3 131 132])
 (.cond (.tmp 133) (.seq (.reg (some []) [Ol 2 (.assign (.const (.bool false)))])
 .ret)
 .skip)))))
 (.reg (some [0,3,4,6,8,9,10,11,12,13]) [Mv 88 13,Bc 89 .add 3 88 .i64 1,As 13 89]))⟩),(34,⟨some [3,4,8,15],some [3,4,8,15],.seq (.seq (.reg (some [3,4,8,15]) [Mv 134 15,Mv 135 4,Ro 136 (.lenS (.tmp 135)),Bt 137 .lss 3 134 136])
 (.cond (.tmp 137) .skip
 (.exit 7 (some [3]))))
 (.seq (.block 8 (.seq (.draw (some [3,4,8,15]) 21 [Dr (Mv 140 8) 0 [2,3,4,5,6,7,8,9,10,11,12,13,14,15,16,17,18,19,20],Dr (Mv 141 15) 1 [2,3,4,5,6,7,8,9,10,11,12,13,14,15,16,17,18,19,20],Dr (Ix 142 1 140 141) 2 [3,4,5,6,7,8,9,10,11,12,13,14,15,16,17,18,19,20],Db (Ro 143 (.load1 .bool (.tmp 142))) 3 142 [4,5,6,7,8,9,10,11,12,13,14,15,16,17,18,19,20],Dr (Ol 144 (.unOp .not 4 (.tmp 143))) 4 [5,6,7,8,9,10,11,12,13,14,15,16,17,18,19,20],Dr (Mv 145 144) 5 [6,7,8,9,10,11,12,13,14,15,16,17,18,19,20],⟨⟨some 146,some (145,false),.op false (.old (.move (.tmp 15)))⟩,6,.none,[7,8,9,10,11,12,13,14,15,16,17,18,19,20],false,true⟩,⟨⟨some 147,some (145,false),.op false (.old (.binOp .gtr 3 (.tmp 146) (.const (.int .i64 0)) 3))⟩,7,.none,[8,9,10,11,12,13,14,15,16,17,18,19,20],false,true⟩,⟨⟨some 148,some (145,false),.op false (.old (.move (.tmp 147)))⟩,8,.none,[9,10,11,12,13,14,15,16,17,18,19,20],false,true⟩,⟨⟨some 149,some (148,true),.op false (.old (.move (.tmp 4)))⟩,9,.none,[11,12,18,19,20],false,true⟩,⟨⟨some 150,some (148,true),.op false (.old (.move (.tmp 15)))⟩,10,.none,[11,12,18,19,20],false,true⟩,⟨⟨some 151,some (148,true),.op false (.ixS 1 (.tmp 149) (.tmp 150))⟩,11,.none,[12,18,19,20],false,true⟩,⟨⟨some 152,some (148,true),.op false (.load1 (.int .i64) (.tmp 151))⟩,12,.blk (.tmp 151),[18,19,20],false,true⟩,⟨⟨some 153,some (148,true),.op false (.old (.move (.tmp 4)))⟩,13,.none,[16,17,18,19,20],false,true⟩,⟨⟨some 154,some (148,true),.op false (.old (.move (.tmp 15)))⟩,14,.none,[15,16,17,18,19,20],false,true⟩,⟨⟨some 155,some (148,true),.op false (.old (.binOp .sub 3 (.tmp 154) (.const (.int .i64 1)) 3))⟩,15,.none,[16,17,18,19,20],false,true⟩,⟨⟨some 156,some (148,true),.op false (.ixS 1 (.tmp 153) (.tmp 155))⟩,16,.none,[17,18,19,20],false,true⟩,⟨⟨some 157,some (148,true),.op false (.load1 (.int .i64) (.tmp 156))⟩,17,.blk (.tmp 156),[18,19,20],false,true⟩,⟨⟨some 158,some (148,true),.op false (.old (.binOp .leq 3 (.tmp 152) (.tmp 157) 3))⟩,18,.none,[19,20],false,true⟩,⟨⟨some 159,some (145,false),.op false (.old (.pick (.tmp 148) (.tmp 158) (.const (.bool false))))⟩,19,.none,[20],false,true⟩,Dr (Ol 160 (.pick (.tmp 145) (.const (.bool true)) (.tmp 159))) 20 []])
 (.cond (.tmp 160) (.seq (.reg (some []) [Ol 2 (.assign (.const (.bool false)))])
 .ret)
 .skip)))
 (.reg (some [3,4,8,15]) [Mv 138 15,Bc 139 .add 3 138 .i64 1,As 15 139]))⟩)],
 []⟩
def r5 : RFun :=
⟨.seq (.reg (some [0]) [Ol 2 (.assign (.const (.bool false)))])
 (.seq (.reg (some [0]) [Ca 20 23 [] (some (.val (.one .bool))),As 3 20])
 (.seq (.seq (.reg (some [0,3]) [Mv 21 0,Ca 22 19 [.tmp 21] (some (.val (.one (.int .i64)))),Bc 23 .neq 3 22 .i64 0,Mv 24 23,⟨some 25,some (24,false),.op false (.old (.move (.tmp 3)))⟩,⟨some 26,some (24,false),.op false (.old (.unOp .not 4 (.tmp 25)))⟩,Ol 27 (.pick (.tmp 24) (.const (.bool true)) (.tmp 26))])
 (.cond (.tmp 27) (.seq (.reg (some [3]) [Mv 28 3,As 2 28])
 .ret)
 .skip))
 (.seq (.reg (some [0,3]) [Mv 30 0,Ca 31 10 [.tmp 30] (some (.tup [.one .slice,.one (.int .i64)])),Mv 29 31,Ex 32 29 0,Ex 33 29 1,As 4 32,As 5 33])
 (.seq (.reg (some [0,3,4,5]) [Mv 35 0,Ca 36 12 [.tmp 35] (some (.tup [.one .slice,.one (.int .i64)])),Mv 34 36,Ex 37 34 0,Ex 38 34 1,As 6 37,As 7 38])
 (.seq (.reg (some [0,3,4,5,6,7]) [Mv 40 0,Ca 41 14 [.tmp 40] (some (.tup [.one .slice,.one (.int .i64)])),Mv 39 41,Ex 42 39 0,Ex 43 39 1,As 8 42,As 9 43])
 (.seq (.reg (some [0,3,4,5,6,7,8,9]) [Mv 45 0,Ca 46 16 [.tmp 45] (some (.tup [.one .bool,.one (.int .i64)])),Mv 44 46,Ex 47 44 0,Ex 48 44 1,As 10 47,As 11 48])
 (.seq (.seq (.reg (some [0,3,4,5,6,7,8,9,10,11]) [Mv 49 5,Bc 50 .neq 23 49 .i64 0,Mv 51 50,⟨some 52,some (51,false),.op false (.old (.move (.tmp 7)))⟩,⟨some 53,some (51,false),.op false (.old (.binOp .neq 23 (.tmp 52) (.const (.int .i64 0)) 23))⟩,Ol 54 (.pick (.tmp 51) (.const (.bool true)) (.tmp 53)),Mv 55 54,⟨some 56,some (55,false),.op false (.old (.move (.tmp 9)))⟩,⟨some 57,some (55,false),.op false (.old (.binOp .neq 23 (.tmp 56) (.const (.int .i64 0)) 23))⟩,Ol 58 (.pick (.tmp 55) (.const (.bool true)) (.tmp 57)),Mv 59 58,⟨some 60,some (59,false),.op false (.old (.move (.tmp 11)))⟩,⟨some 61,some (59,false),.op false (.old (.binOp .neq 23 (.tmp 60) (.const (.int .i64 0)) 23))⟩,Ol 62 (.pick (.tmp 59) (.const (.bool true)) (.tmp 61)),Mv 63 62,⟨some 64,some (63,false),.op false (.old (.move (.tmp 10)))⟩,⟨some 65,some (63,false),.op false (.old (.move (.tmp 8)))⟩,⟨some 66,some (63,false),.op false (.lenS (.tmp 65))⟩,⟨some 67,some (63,false),.op false (.old (.binOp .eql 3 (.tmp 66) (.const (.int .i64 2)) 3))⟩,⟨some 68,some (63,false),.op false (.old (.binOp .neq 4 (.tmp 64) (.tmp 67) 4))⟩,Ol 69 (.pick (.tmp 63) (.const (.bool true)) (.tmp 68)),Mv 70 69,⟨some 71,some (70,false),.op false (.old (.move (.tmp 8)))⟩,⟨some 72,some (70,false),.op false (.lenS (.tmp 71))⟩,⟨some 73,some (70,false),.op false (.old (.binOp .lss 3 (.tmp 72) (.const (.int .i64 2)) 3))⟩,Ol 74 (.pick (.tmp 70) (.const (.bool true)) (.tmp 73))])
 (.cond (.tmp 74) (.seq (.reg (some []) [Ol 2 (.assign (.const (.bool false)))])
 .ret)
 .skip))
 (.seq (.reg (some [0,3,4,6,8]) [Mv 75 0,Ro 76 (.lenS (.tmp 75)),Mv 77 4,Ro 78 (.lenS (.tmp 77)),Bt 79 .add 3 76 78,As 12 79])
 (.seq (.reg (some [0,3,4,6,8,12]) [Ol 13 (.assign (.const (.slice none 0 0))),Ol 14 (.assign (.const (.slice none 0 0)))])
 (.seq (.seq (.reg (some [0,3,4,6,8,12,13,14]) [Ac 15 0])
 (.block 0 (.loop 13 (some [0,3,4,6,8,12,13,14,15]) (some [0,3,4,6,8,12,13,14,15]))))
 (.seq (.seq (.reg (some [3,4,6,8,12,13,14]) [Ac 16 0])
 (.block 2 (.loop 17 (some [3,4,6,8,12,13,14,16]) (some [3,4,6,8,12,13,14,16]))))
 (.seq (.reg (some [3,6,8,12,13,14]) [Mv 116 13,Mv 117 14,Ro 118 (.buildSlice 1 2 [.slice none 0 0,.slice none 0 0] [(0,1,(.tmp 116)),(1,1,(.tmp 117))]),Mv 119 8,⟨some 120,none,.op false (.old (.call ⟨.builtin .append,#[.tmp 118,.tmp 119],#[33,33]⟩))⟩,As 17 120])
 (.seq (.seq (.reg (some [3,6,8,12,13,14,17]) [Ac 18 0])
 (.block 4 (.loop 22 (some [3,6,8,12,13,14,17,18]) (some [3,6,8,12,13,14,17,18]))))
 (.seq (.reg (some [3,8,13,14]) [Mv 160 3,Mv 161 160,⟨some 162,some (161,true),.op false (.old (.move (.tmp 8)))⟩,⟨some 163,some (161,true),.op false (.old (.move (.tmp 13)))⟩,⟨some 164,some (161,true),.call (.func 26) [.tmp 162,.tmp 163] (some (.val (.one .bool)))⟩,Ol 165 (.pick (.tmp 161) (.tmp 164) (.const (.bool false))),Mv 166 165,⟨some 167,some (166,true),.op false (.old (.move (.tmp 8)))⟩,⟨some 168,some (166,true),.op false (.old (.move (.tmp 14)))⟩,⟨some 169,some (166,true),.call (.func 26) [.tmp 167,.tmp 168] (some (.val (.one .bool)))⟩,Ol 170 (.pick (.tmp 166) (.tmp 169) (.const (.bool false))),As 2 170])
 .ret)))))))))))))),
 [.tmp 2],
 [(13,⟨some [0,3,4,6,8,12,13,14,15],some [0,3,4,6,8,12,13,14,15],.seq (.seq (.reg (some [0,3,4,6,8,12,13,14,15]) [Mv 80 15,Mv 81 0,Ro 82 (.lenS (.tmp 81)),Bt 83 .lss 3 80 82])
 (.cond (.tmp 83) .skip
 (.exit 0 (some [3,4,6,8,12,13,14]))))
 (.seq (.block 1 (.draw (some [0,3,4,6,8,12,13,14,15]) 14 [Dr (Mv 86 13) 0 [3,9,10,11,12,13],Dr (Mv 90 14) 4 [11,12,13],Dr (Mv 91 0) 5 [7,8,9,10,11,12,13],Dr (Mv 92 15) 6 [7,8,9,10,11,12,13],Dr (Ix 93 1 91 92) 7 [8,9,10,11,12,13],Db (L1 94 93) 8 93 [9,10,11,12,13],⟨Ca 87 24 [.const (.int .i64 1),.const (.int .i64 1)] (some (.val (.agg [.int .i64,.int .i64]))),1,.all,[2,3,9,10,11,12,13],false,false⟩,⟨Ro 88 (.buildSlice 2 1 [.int .i64 0,.int .i64 0] [(0,2,(.tmp 87))]),2,.new false,[3,9,10,11,12,13],false,true⟩,⟨⟨some 89,none,.op false (.old (.call ⟨.builtin .append,#[.tmp 86,.tmp 88],#[50,50]⟩))⟩,3,.app [.tmp 86,.tmp 88],[9,10,11,12,13],false,false⟩,⟨Ca 95 24 [.tmp 94,.const (.int .i64 1)] (some (.val (.agg [.int .i64,.int .i64]))),9,.all,[10,11,12,13],false,false⟩,⟨Ro 96 (.buildSlice 2 1 [.int .i64 0,.int .i64 0] [(0,2,(.tmp 95))]),10,.new false,[11,12,13],false,true⟩,⟨⟨some 97,none,.op false (.old (.call ⟨.builtin .append,#[.tmp 90,.tmp 96],#[50,50]⟩))⟩,11,.app [.tmp 90,.tmp 96],[12,13],false,false⟩,Dr (As 13 89) 12 [13],Dr (As 14 97) 13 []]))
 (.reg (some [0,3,4,6,8,12,13,14,15]) [Mv 84 15,Bc 85 .add 3 84 .i64 1,As 15 85]))⟩),(17,⟨some [3,4,6,8,12,13,14,16],some [3,4,6,8,12,13,14,16],.seq (.seq (.reg (some [3,4,6,8,12,13,14,16]) [Mv 98 16,Mv 99 4,Ro 100 (.lenS (.tmp 99)),Bt 101 .lss 3 98 100])
 (.cond (.tmp 101) .skip
 (.exit 2 (some [3,6,8,12,13,14]))))
 (.seq (.block 3 (.draw (some [3,4,6,8,12,13,14,16]) 14 [Dr (Mv 104 13) 0 [3,9,10,11,12,13],Dr (Mv 108 14) 4 [11,12,13],Dr (Mv 109 4) 5 [7,8,9,10,11,12,13],Dr (Mv 110 16) 6 [7,8,9,10,11,12,13],Dr (Ix 111 1 109 110) 7 [8,9,10,11,12,13],Db (L1 112 111) 8 111 [9,10,11,12,13],⟨Ca 105 24 [.const (.int .i64 0),.const (.int .i64 1)] (some (.val (.agg [.int .i64,.int .i64]))),1,.all,[2,3,9,10,11,12,13],false,false⟩,⟨Ro 106 (.buildSlice 2 1 [.int .i64 0,.int .i64 0] [(0,2,(.tmp 105))]),2,.new false,[3,9,10,11,12,13],false,true⟩,⟨⟨some 107,none,.op false (.old (.call ⟨.builtin .append,#[.tmp 104,.tmp 106],#[50,50]⟩))⟩,3,.app [.tmp 104,.tmp 106],[9,10,11,12,13],false,false⟩,⟨Ca 113 24 [.tmp 112,.const (.int .i64 1)] (some (.val (.agg [.int .i64,.int .i64]))),9,.all,[10,11,12,13],false,false⟩,⟨Ro 114 (.buildSlice 2 1 [.int .i64 0,.int .i64 0] [(0,2,(.tmp 113))]),10,.new false,[11,12,13],false,true⟩,⟨⟨some 115,none,.op false (.old (.call ⟨.builtin .append,#[.tmp 108,.tmp 114],#[50,50]⟩))⟩,11,.app [.tmp 108,.tmp 114],[12,13],false,false⟩,Dr (As 13 107) 12 [13],Dr (As 14 115) 13 []]))
 (.reg (some [3,4,6,8,12,13,14,16]) [Mv 102 16,Bc 103 .add 3 102 .i64 1,As 16 103]))⟩),(22,⟨some [3,6,8,12,13,14,17,18],some [3,6,8,12,13,14,17,18],.seq (.seq (.reg (some [3,6,8,12,13,14,17,18]) [Mv 121 18,Mv 122 17,Ro 123 (.lenS (.tmp 122)),Bt 124 .lss 3 121 123])
 (.cond (.tmp 124) .skip
 (.exit 4 (some [3,8,13,14]))))
 (.seq (.block 5 (.seq (.seq (.reg (some [3,6,8,12,13,14,17,18]) [Mv 127 17,Mv 128 18,Ix 129 1 127 128,Ro 130 (.load1 .slice (.tmp 129)),Ro 131 (.lenS (.tmp 130)),Mv 132 12,Bt 133 .neq 3 131 132])
 (.cond (.tmp 133) (.seq (.reg (some []) [Ol 2 (.assign (.const (.bool false)))])
 .ret)
 .skip))
 (.seq (.reg (some [3,6,8,12,13,14,17,18]) [Ac 19 0])
 (.block 6 (.loop 27 (some [3,6,8,12,13,14,17,18,19]) (some [3,6,8,12,13,14,17,18,19]))))))
 (.reg (some [3,6,8,12,13,14,17,18]) [Mv 125 18,Bc 126 .add 3 125 .i64 1,As 18 126]))⟩),(27,⟨some [3,6,8,12,13,14,17,18,19],some [3,6,8,12,13,14,17,18,19],.seq (.seq (.reg (some [3,6,8,12,13,14,17,18,19]) [Mv 134 19,Mv 135 6,Ro 136 (.lenS (.tmp 135)),Bt 137 .lss 3 134 136])
 (.cond (.tmp 137) .skip
 (.exit 6 (some [3,6,8,12,13,14,17,18]))))
 (.seq (.block 7 (.seq (.draw (some [3,6,8,12,13,14,17,18,19]) 20 [Dr (Mv 140 6) 0 [2,3,4,6,7,8,9,10,11,12,13,14,15,16,17,18,19],Dr (Mv 141 19) 1 [2,3,4,6,7,8,9,10,11,12,13,14,15,16,17,18,19],Dr (Ix 142 1 140 141) 2 [3,4,6,7,8,9,10,11,12,13,14,15,16,17,18,19],Db (Ro 143 (.load1 .slice (.tmp 142))) 3 142 [4,6,7,8,9,10,11,12,13,14,15,16,17,18,19],Dr (Ro 144 (.lenS (.tmp 143))) 4 [6,7,8,9,10,11,12,13,14,15,16,17,18,19],Dr (Mv 145 12) 5 [6,7,8,9,10,11,12,13,14,15,16,17,18,19],Dr (Bt 146 .neq 3 144 145) 6 [7,8,9,10,11,12,13,14,15,16,17,18,19],Dr (Mv 147 146) 7 [8,9,10,11,12,13,14,15,16,17,18,19],⟨⟨some 148,some (147,false),.op false (.old (.move (.tmp 6)))⟩,8,.none,[10,11,17,18,19],false,true⟩,⟨⟨some 149,some (147,false),.op false (.old (.move (.tmp 19)))⟩,9,.none,[10,11,17,18,19],false,true⟩,⟨⟨some 150,some (147,false),.op false (.ixS 1 (.tmp 148) (.tmp 149))⟩,10,.none,[11,17,18,19],false,true⟩,⟨⟨some 151,some (147,false),.op false (.load1 .slice (.tmp 150))⟩,11,.blk (.tmp 150),[17,18,19],false,true⟩,⟨⟨some 152,some (147,false),.op false (.old (.move (.tmp 17)))⟩,12,.none,[14,15,17,18,19],false,true⟩,⟨⟨some 153,some (147,false),.op false (.old (.move (.tmp 18)))⟩,13,.none,[14,15,17,18,19],false,true⟩,⟨⟨some 154,some (147,false),.op false (.ixS 1 (.tmp 152) (.tmp 153))⟩,14,.none,[15,17,18,19],false,true⟩,⟨⟨some 155,some (147,false),.op false (.load1 .slice (.tmp 154))⟩,15,.blk (.tmp 154),[17,18,19],false,true⟩,⟨⟨some 156,some (147,false),.call (.func 24) [.const (.int .i64 0),.const (.int .i64 1)] (some (.val (.agg [.int .i64,.int .i64])))⟩,16,.all,[17,18,19],false,false⟩,⟨⟨some 157,some (147,false),.call (.func 25) [.tmp 151,.tmp 155,.tmp 156] (some (.val (.one .bool)))⟩,17,.all,[18,19],false,false⟩,⟨⟨some 158,some (147,false),.op false (.old (.unOp .not 4 (.tmp 157)))⟩,18,.none,[19],false,true⟩,Dr (Ol 159 (.pick (.tmp 147) (.const (.bool true)) (.tmp 158))) 19 []])
 (.cond (.tmp 159) (.seq (.reg (some []) [Ol 2 (.assign (.const (.bool false)))])
 .ret)
 .skip)))
 (.reg (some [3,6,8,12,13,14,17,18,19]) [Mv 138 19,Bc 139 .add 3 138 .i64 1,As 19 139]))⟩)],
 []⟩
def r6 : RFun :=
⟨.seq (.reg (some [0,1,2]) [Ol 6 (.assign (.const (.bool false)))])
 (.seq (.reg (some [0,1,2]) [Ca 28 23 [] (some (.val (.one .bool))),As 7 28])
 (.seq (.seq (.reg (some [0,1,2,7]) [Mv 29 0,Ca 30 19 [.tmp 29] (some (.val (.one (.int .i64)))),Bc 31 .neq 3 30 .i64 0,Mv 32 31,⟨some 33,some (32,false),.op false (.old (.move (.tmp 1)))⟩,⟨some 34,some (32,false),.op false (.lenS (.tmp 33))⟩,⟨some 35,some (32,false),.op false (.old (.binOp .gtr 3 (.tmp 34) (.const (.int .i64 20)) 3))⟩,Ol 36 (.pick (.tmp 32) (.const (.bool true)) (.tmp 35)),Mv 37 36,⟨some 38,some (37,false),.op false (.old (.move (.tmp 2)))⟩,⟨some 39,some (37,false),.op false (.old (.binOp .lss 3 (.tmp 38) (.const (.int .i64 (-31))) 3))⟩,Ol 40 (.pick (.tmp 37) (.const (.bool true)) (.tmp 39)),Mv 41 40,⟨some 42,some (41,false),.op false (.old (.move (.tmp 2)))⟩,⟨some 43,some (41,false),.op false (.old (.binOp .gtr 3 (.tmp 42) (.const (.int .i64 31)) 3))⟩,Ol 44 (.pick (.tmp 41) (.const (.bool true)) (.tmp 43)),Mv 45 44,⟨some 46,some (45,false),.op false (.old (.move (.tmp 7)))⟩,⟨some 47,some (45,false),.op false (.old (.unOp .not 4 (.tmp 46)))⟩,Ol 48 (.pick (.tmp 45) (.const (.bool true)) (.tmp 47))])
 (.cond (.tmp 48) (.seq (.reg (some [7]) [Mv 49 7,As 6 49])
 .ret)
 .skip))
 (.seq (.reg (some [0,1,2,7]) [Ol 8 (.assign (.const (.slice none 0 0)))])
 (.seq (.seq (.reg (some [0,1,2,7,8]) [Ac 9 0])
 (.block 0 (.loop 6 none (some [0,1,2,7,8,9]))))
 (.seq (.seq (.reg (some [0,1,7,8]) [Mv 65 8,Ca 66 19 [.tmp 65] (some (.val (.one (.int .i64)))),Bc 67 .neq 3 66 .i64 0])
 (.cond (.tmp 67) (.seq (.reg (some [7]) [Mv 68 7,As 6 68])
 .ret)
 .skip))
 (.seq (.reg (some [0,1,7,8]) [Mv 70 0,Ca 71 10 [.tmp 70] (some (.tup [.one .slice,.one (.int .i64)])),Mv 69 71,Ex 72 69 0,Ex 73 69 1,As 10 72,As 11 73])
 (.seq (.reg (some [0,1,7,8,10,11]) [Mv 75 8,Ca 76 10 [.tmp 75] (some (.tup [.one .slice,.one (.int .i64)])),Mv 74 76,Ex 77 74 0,Ex 78 74 1,As 12 77,As 13 78])
 (.seq (.reg (some [0,1,7,8,10,11,12,13]) [Mv 80 0,Ca 81 12 [.tmp 80] (some (.tup [.one .slice,.one (.int .i64)])),Mv 79 81,Ex 82 79 0,Ex 83 79 1,As 14 82,As 15 83])
 (.seq (.reg (some [0,1,7,8,10,11,12,13,14,15]) [Mv 85 8,Ca 86 12 [.tmp 85] (some (.tup [.one .slice,.one (.int .i64)])),Mv 84 86,Ex 87 84 0,Ex 88 84 1,As 16 87,As 17 88])
 (.seq (.reg (some [0,1,7,8,10,11,12,13,14,15,16,17]) [Mv 90 0,Ca 91 14 [.tmp 90] (some (.tup [.one .slice,.one (.int .i64)])),Mv 89 91,Ex 92 89 0,Ex 93 89 1,As 18 92,As 19 93])
 (.seq (.reg (some [0,1,7,8,10,11,12,13,14,15,16,17,18,19]) [Mv 95 8,Ca 96 14 [.tmp 95] (some (.tup [.one .slice,.one (.int .i64)])),Mv 94 96,Ex 97 94 0,Ex 98 94 1,As 20 97,As 21 98])
 (.seq (.reg (some [0,1,7,8,10,11,12,13,14,15,16,17,18,19,20,21]) [Mv 100 0,Mv 101 1,Ca 102 27 [.tmp 100,.tmp 101] (some (.tup [.one .slice,.one .slice,.one (.int .i64)])),Mv 99 102,Ex 103 99 0,Ex 104 99 1,Ex 105 99 2,As 22 103,As 23 104,As 24 105])
 (.seq (.reg (some [1,7,8,10,11,12,13,14,15,16,17,18,19,20,21,22,23,24]) [Mv 107 8,Mv 108 1,Ca 109 27 [.tmp 107,.tmp 108] (some (.tup [.one .slice,.one .slice,.one (.int .i64)])),Mv 106 109,Ex 110 106 0,Ex 111 106 1,Ex 112 106 2,As 25 110,As 26 111,As 27 112])
 (.seq (.reg (some [7,10,11,12,13,14,15,16,17,18,19,20,21,22,23,24,25,26,27]) [Mv 113 7,Mv 114 113,⟨some 115,some (114,true),.op false (.old (.move (.tmp 11)))⟩,⟨some 116,some (114,true),.op false (.old (.binOp .eql 23 (.tmp 115) (.const (.int .i64 0)) 23))⟩,Ol 117 (.pick (.tmp 114) (.tmp 116) (.const (.bool false))),Mv 118 117,⟨some 119,some (118,true),.op false (.old (.move (.tmp 13)))⟩,⟨some 120,some (118,true),.op false (.old (.binOp .eql 23 (.tmp 119) (.const (.int .i64 0)) 23))⟩,Ol 121 (.pick (.tmp 118) (.tmp 120) (.const (.bool false))),Mv 122 121,⟨some 123,some (122,true),.op false (.old (.move (.tmp 10)))⟩,⟨some 124,some (122,true),.op false (.old (.move (.tmp 12)))⟩,⟨some 125,some (122,true),.call (.func 20) [.tmp 123,.tmp 124] (some (.val (.one .bool)))⟩,Ol 126 (.pick (.tmp 122) (.tmp 125) (.const (.bool false))),Mv 127 126,⟨some 128,some (127,true),.op false (.old (.move (.tmp 15)))⟩,⟨some 129,some (127,true),.op false (.old (.binOp .eql 23 (.tmp 128) (.const (.int .i64 0)) 23))⟩,Ol 130 (.pick (.tmp 127) (.tmp 129) (.const (.bool false))),Mv 131 130,⟨some 132,some (131,true),.op false (.old (.move (.tmp 17)))⟩,⟨some 133,some (131,true),.op false (.old (.binOp .eql 23 (.tmp 132) (.const (.int .i64 0)) 23))⟩,Ol 134 (.pick (.tmp 131) (.tmp 133) (.const (.bool false))),Mv 135 134,⟨some 136,some (135,true),.op false (.old (.move (.tmp 14)))⟩,⟨some 137,some (135,true),.op false (.old (.move (.tmp 16)))⟩,⟨some 138,some (135,true),.call (.func 21) [.tmp 136,.tmp 137] (some (.val (.one .bool)))⟩,Ol 139 (.pick (.tmp 135) (.tmp 138) (.const (.bool false))),Mv 140 139,⟨some 141,some (140,true),.op false (.old (.move (.tmp 19)))⟩,⟨some 142,some (140,true),.op false (.old (.binOp .eql 23 (.tmp 141) (.const (.int .i64 0)) 23))⟩,Ol 143 (.pick (.tmp 140) (.tmp 142) (.const (.bool false))),Mv 144 143,⟨some 145,some (144,true),.op false (.old (.move (.tmp 21)))⟩,⟨some 146,some (144,true),.op false (.old (.binOp .eql 23 (.tmp 145) (.const (.int .i64 0)) 23))⟩,Ol 147 (.pick (.tmp 144) (.tmp 146) (.const (.bool false))),Mv 148 147,⟨some 149,some (148,true),.op false (.old (.move (.tmp 18)))⟩,⟨some 150,some (148,true),.op false (.old (.move (.tmp 20)))⟩,⟨some 151,some (148,true),.call (.func 22) [.tmp 149,.tmp 150] (some (.val (.one .bool)))⟩,Ol 152 (.pick (.tmp 148) (.tmp 151) (.const (.bool false))),Mv 153 152,⟨some 154,some (153,true),.op false (.old (.move (.tmp 24)))⟩,⟨some 155,some (153,true),.op false (.old (.move (.tmp 27)))⟩,⟨some 156,some (153,true),.op false (.old (.binOp .eql 23 (.tmp 154) (.tmp 155) 23))⟩,Ol 157 (.pick (.tmp 153) (.tmp 156) (.const (.bool false))),Mv 158 157,⟨some 159,some (158,true),.op false (.old (.move (.tmp 22)))⟩,⟨some 160,some (158,true),.op false (.old (.move (.tmp 25)))⟩,⟨some 161,some (158,true),.call (.func 28) [.tmp 159,.tmp 160] (some (.val (.one .bool)))⟩,Ol 162 (.pick (.tmp 158) (.tmp 161) (.const (.bool false))),Mv 163 162,⟨some 164,some (163,true),.op false (.old (.move (.tmp 23)))⟩,⟨some 165,some (163,true),.op false (.old (.move (.tmp 26)))⟩,⟨some 166,some (163,true),.call (.func 28) [.tmp 164,.tmp 165] (some (.val (.one .bool)))⟩,Ol 167 (.pick (.tmp 163) (.tmp 166) (.const (.bool false))),As 6 167])
 .ret)))))))))))))),
 [.tmp 6],
 [(6,⟨none,some [0,1,2,7,8,9],.seq (.seq (.reg (some [0,1,2,7,8,9]) [Mv 50 9,Mv 51 0,Ro 52 (.lenS (.tmp 51)),Bt 53 .lss 3 50 52])
 (.cond (.tmp 53) .skip
 (.exit 0 (some [0,1,7,8]))))
 (.seq (.block 1 (.reg (some [0,1,2,7,8,9]) [Mv 56 8,Mv 57 0,Mv 58 9,Ix 59 1 57 58,L1 60 59,Mv 61 2,Bt 62 .add 3 60 61,Ro 63 (.buildSlice 1 1 [.int .i64 0] [(0,1,(.tmp 62))]),⟨some 64,none,.op false (.old (.call ⟨.builtin .append,#[.tmp 56,.tmp 63],#[22,22]⟩))⟩,As 8 64]))
 (.reg (some [0,1,2,7,8,9]) [Mv 54 9,Bc 55 .add 3 54 .i64 1,As 9 55]))⟩)],
 []⟩
