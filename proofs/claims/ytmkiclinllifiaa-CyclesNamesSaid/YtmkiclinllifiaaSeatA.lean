import Derived.Test.YtmkiclinllifiaaSeat0
import Derived.Test.YtmkiclinllifiaaSymS
set_option linter.unusedSimpArgs false
set_option linter.unusedVariables false
namespace Go.Proofs.Ytmkiclinllifiaa
open Go.Sim
set_option maxRecDepth 100000
def r2 : RFun :=
⟨.reg (some []) [Ca 0 1 [] (some (.tup []))],
 [],
 [],
 []⟩
def r3 : RFun :=
⟨.seq (.reg (some [0,1,2]) [Ol 6 (.assign (.const (.bool false)))])
 (.seq (.seq (.reg (some [0,1,2]) [Mv 25 0,Ro 26 (.lenS (.tmp 25)),Bc 27 .gtr 3 26 .i64 100])
 (.cond (.tmp 27) (.seq (.reg (some []) [Ol 6 (.assign (.const (.bool true)))])
 .ret)
 .skip))
 (.seq (.reg (some [0,1,2]) [Mv 29 0,Ca 30 10 [.tmp 29] (some (.tup [.one .slice,.one (.int .i64),.one (.int .i64)])),Mv 28 30,Ex 31 28 0,Ex 32 28 1,Ex 33 28 2,As 7 31,As 8 32,As 9 33])
 (.seq (.reg (some [0,1,2,7,8,9]) [Mv 35 0,Ca 36 11 [.tmp 35] (some (.tup [.one .slice,.one (.int .i64),.one (.int .i64)])),Mv 34 36,Ex 37 34 0,Ex 38 34 1,Ex 39 34 2,As 10 37,As 11 38,As 12 39])
 (.seq (.reg (some [0,1,2,7,8,9,10,11,12]) [Mv 41 0,Ca 42 12 [.tmp 41] (some (.tup [.one .slice,.one (.int .i64)])),Mv 40 42,Ex 43 40 0,Ex 44 40 1,As 13 43,As 14 44])
 (.seq (.reg (some [0,1,2,7,8,9,10,11,12,13,14]) [Mv 46 0,Ca 47 13 [.tmp 46] (some (.tup [.one .slice,.one (.int .i64)])),Mv 45 47,Ex 48 45 0,Ex 49 45 1,As 15 48,As 16 49])
 (.seq (.reg (some [0,1,2,7,8,9,10,11,12,13,14,15,16]) [Mv 51 0,Ca 52 14 [.tmp 51] (some (.tup [.one .slice,.one (.int .i64)])),Mv 50 52,Ex 53 50 0,Ex 54 50 1,As 17 53,As 18 54])
 (.seq (.reg (some [0,1,2,7,8,9,10,11,12,13,14,15,16,17,18]) [Mv 56 0,Ca 57 15 [.tmp 56] (some (.tup [.one .slice,.one (.int .i64)])),Mv 55 57,Ex 58 55 0,Ex 59 55 1,As 19 58,As 20 59])
 (.seq (.reg (some [0,1,2,7,8,9,10,11,12,13,14,15,16,17,18,19,20]) [Mv 61 0,Mv 62 1,Mv 63 2,Ca 64 16 [.tmp 61,.tmp 62,.tmp 63] (some (.tup [.one .slice,.one (.int .i64)])),Mv 60 64,Ex 65 60 0,Ex 66 60 1,As 21 65,As 22 66])
 (.seq (.reg (some [0,1,2,7,8,9,10,11,12,13,14,15,16,17,18,19,20,21,22]) [Mv 68 0,Mv 69 1,Mv 70 2,Ca 71 17 [.tmp 68,.tmp 69,.tmp 70] (some (.tup [.one .slice,.one (.int .i64)])),Mv 67 71,Ex 72 67 0,Ex 73 67 1,As 23 72,As 24 73])
 (.seq (.reg (some [7,8,9,10,11,12,13,14,15,16,17,18,19,20,21,22,23,24]) [Mv 74 7,Mv 75 10,Ca 76 18 [.tmp 74,.tmp 75] (some (.val (.one .bool))),Mv 77 76,⟨some 78,some (77,true),.op false (.old (.move (.tmp 8)))⟩,⟨some 79,some (77,true),.op false (.old (.move (.tmp 11)))⟩,⟨some 80,some (77,true),.op false (.old (.binOp .eql 3 (.tmp 78) (.tmp 79) 3))⟩,Ol 81 (.pick (.tmp 77) (.tmp 80) (.const (.bool false))),Mv 82 81,⟨some 83,some (82,true),.op false (.old (.move (.tmp 9)))⟩,⟨some 84,some (82,true),.op false (.old (.move (.tmp 12)))⟩,⟨some 85,some (82,true),.op false (.old (.binOp .eql 3 (.tmp 83) (.tmp 84) 3))⟩,Ol 86 (.pick (.tmp 82) (.tmp 85) (.const (.bool false))),Mv 87 86,⟨some 88,some (87,true),.op false (.old (.move (.tmp 13)))⟩,⟨some 89,some (87,true),.op false (.old (.move (.tmp 15)))⟩,⟨some 90,some (87,true),.call (.func 18) [.tmp 88,.tmp 89] (some (.val (.one .bool)))⟩,Ol 91 (.pick (.tmp 87) (.tmp 90) (.const (.bool false))),Mv 92 91,⟨some 93,some (92,true),.op false (.old (.move (.tmp 14)))⟩,⟨some 94,some (92,true),.op false (.old (.move (.tmp 16)))⟩,⟨some 95,some (92,true),.op false (.old (.binOp .eql 3 (.tmp 93) (.tmp 94) 3))⟩,Ol 96 (.pick (.tmp 92) (.tmp 95) (.const (.bool false))),Mv 97 96,⟨some 98,some (97,true),.op false (.old (.move (.tmp 17)))⟩,⟨some 99,some (97,true),.op false (.old (.move (.tmp 19)))⟩,⟨some 100,some (97,true),.call (.func 19) [.tmp 98,.tmp 99] (some (.val (.one .bool)))⟩,Ol 101 (.pick (.tmp 97) (.tmp 100) (.const (.bool false))),Mv 102 101,⟨some 103,some (102,true),.op false (.old (.move (.tmp 18)))⟩,⟨some 104,some (102,true),.op false (.old (.move (.tmp 20)))⟩,⟨some 105,some (102,true),.op false (.old (.binOp .eql 3 (.tmp 103) (.tmp 104) 3))⟩,Ol 106 (.pick (.tmp 102) (.tmp 105) (.const (.bool false))),Mv 107 106,⟨some 108,some (107,true),.op false (.old (.move (.tmp 21)))⟩,⟨some 109,some (107,true),.op false (.old (.move (.tmp 23)))⟩,⟨some 110,some (107,true),.call (.func 20) [.tmp 108,.tmp 109] (some (.val (.one .bool)))⟩,Ol 111 (.pick (.tmp 107) (.tmp 110) (.const (.bool false))),Mv 112 111,⟨some 113,some (112,true),.op false (.old (.move (.tmp 22)))⟩,⟨some 114,some (112,true),.op false (.old (.move (.tmp 24)))⟩,⟨some 115,some (112,true),.op false (.old (.binOp .eql 3 (.tmp 113) (.tmp 114) 3))⟩,Ol 116 (.pick (.tmp 112) (.tmp 115) (.const (.bool false))),As 6 116])
 .ret)))))))))),
 [.tmp 6],
 [],
 []⟩
def r4 : RFun :=
⟨.seq (.reg (some [0,1]) [Ol 4 (.assign (.const (.bool false)))])
 (.seq (.reg (some [0,1]) [Ca 14 21 [] (some (.val (.one .bool))),As 5 14])
 (.seq (.seq (.reg (some [0,1,5]) [Mv 15 0,Ca 16 22 [.tmp 15] (some (.val (.one (.int .i64)))),Bc 17 .neq 3 16 .i64 0,Mv 18 17,⟨some 19,some (18,false),.op false (.old (.move (.tmp 1)))⟩,⟨some 20,some (18,false),.op false (.lenS (.tmp 19))⟩,⟨some 21,some (18,false),.op false (.old (.binOp .gtr 3 (.tmp 20) (.const (.int .i64 20)) 3))⟩,Ol 22 (.pick (.tmp 18) (.const (.bool true)) (.tmp 21)),Mv 23 22,⟨some 24,some (23,false),.op false (.old (.move (.tmp 5)))⟩,⟨some 25,some (23,false),.op false (.old (.unOp .not 4 (.tmp 24)))⟩,Ol 26 (.pick (.tmp 23) (.const (.bool true)) (.tmp 25))])
 (.cond (.tmp 26) (.seq (.reg (some [5]) [Mv 27 5,As 4 27])
 .ret)
 .skip))
 (.seq (.reg (some [0,1,5]) [Mv 29 0,Mv 30 1,Ca 31 23 [.tmp 29,.tmp 30] (some (.tup [.one .slice,.one (.int .i64)])),Mv 28 31,Ex 32 28 0,Ex 33 28 1,As 6 32,As 7 33])
 (.seq (.reg (some [0,1,5,6,7]) [Mv 35 0,Ca 36 14 [.tmp 35] (some (.tup [.one .slice,.one (.int .i64)])),Mv 34 36,Ex 37 34 0,Ex 38 34 1,As 8 37,As 9 38])
 (.seq (.seq (.reg (some [0,1,5,6,7,8,9]) [Mv 39 7,Bc 40 .neq 24 39 .i64 0])
 (.cond (.tmp 40) (.seq (.reg (some [5,6,9]) [Mv 41 5,Mv 42 41,⟨some 43,some (42,true),.op false (.old (.move (.tmp 9)))⟩,⟨some 44,some (42,true),.op false (.old (.binOp .eql 24 (.tmp 43) (.const (.int .i64 0)) 24))⟩,Ol 45 (.pick (.tmp 42) (.tmp 44) (.const (.bool false))),Mv 46 45,⟨some 47,some (46,true),.op false (.old (.move (.tmp 6)))⟩,⟨some 48,some (46,true),.op false (.lenS (.tmp 47))⟩,⟨some 49,some (46,true),.op false (.old (.binOp .eql 3 (.tmp 48) (.const (.int .i64 0)) 3))⟩,Ol 50 (.pick (.tmp 46) (.tmp 49) (.const (.bool false))),As 4 50])
 .ret)
 .skip))
 (.seq (.seq (.reg (some [0,1,5,6,8,9]) [Mv 51 9,Bc 52 .neq 24 51 .i64 0,Mv 53 52,⟨some 54,some (53,false),.op false (.old (.move (.tmp 6)))⟩,⟨some 55,some (53,false),.op false (.lenS (.tmp 54))⟩,⟨some 56,some (53,false),.op false (.old (.move (.tmp 8)))⟩,⟨some 57,some (53,false),.op false (.lenS (.tmp 56))⟩,⟨some 58,some (53,false),.op false (.old (.binOp .neq 3 (.tmp 55) (.tmp 57) 3))⟩,Ol 59 (.pick (.tmp 53) (.const (.bool true)) (.tmp 58))])
 (.cond (.tmp 59) (.seq (.reg (some []) [Ol 4 (.assign (.const (.bool false)))])
 .ret)
 .skip))
 (.seq (.reg (some [0,1,5,6,8]) [Mv 60 0,Ca 61 24 [.tmp 60] (some (.val (.one .slice))),As 10 61])
 (.seq (.seq (.reg (some [1,5,6,8,10]) [Ac 11 0])
 (.block 0 (.loop 12 (some [1,5,6,8,10,11]) (some [1,5,6,8,10,11]))))
 (.seq (.reg (some [5]) [Mv 130 5,As 4 130])
 .ret))))))))),
 [.tmp 4],
 [(12,⟨some [1,5,6,8,10,11],some [1,5,6,8,10,11],.seq (.seq (.reg (some [1,5,6,8,10,11]) [Mv 62 11,Mv 63 10,Ro 64 (.lenS (.tmp 63)),Bt 65 .lss 3 62 64])
 (.cond (.tmp 65) .skip
 (.exit 0 (some [5]))))
 (.seq (.block 1 (.seq (.reg (some [1,5,6,8,10,11]) [Ac 12 0])
 (.seq (.seq (.reg (some [1,5,6,8,10,11,12]) [Ac 13 0])
 (.block 2 (.loop 16 (some [1,5,6,8,10,11,12,13]) (some [1,5,6,8,10,11,12,13]))))
 (.seq (.draw (some [1,5,6,8,10,11,12]) 14 [Dr (Mv 116 12) 0 [13],Dr (Mv 117 1) 1 [12,13],Dr (Mv 118 10) 2 [4,5,6,12,13],Dr (Mv 119 11) 3 [4,5,6,12,13],Dr (Ix 120 2 118 119) 4 [5,6,12,13],Dr (Fa 121 0 120) 5 [6,12,13],Db (L1 122 121) 6 121 [12,13],Dr (Mv 123 10) 7 [9,10,11,12,13],Dr (Mv 124 11) 8 [9,10,11,12,13],Dr (Ix 125 2 123 124) 9 [10,11,12,13],Dr (Fa 126 1 125) 10 [11,12,13],Db (L1 127 126) 11 126 [12,13],⟨Ca 128 26 [.tmp 117,.tmp 122,.tmp 127] (some (.val (.one (.int .i64)))),12,.all,[13],false,false⟩,Dr (Bt 129 .neq 3 116 128) 13 []])
 (.cond (.tmp 129) (.seq (.reg (some []) [Ol 4 (.assign (.const (.bool false)))])
 .ret)
 .skip)))))
 (.reg (some [1,5,6,8,10,11]) [Mv 66 11,Bc 67 .add 3 66 .i64 1,As 11 67]))⟩),(16,⟨some [1,5,6,8,10,11,12,13],some [1,5,6,8,10,11,12,13],.seq (.seq (.reg (some [1,5,6,8,10,11,12,13]) [Mv 68 13,Mv 69 8,Ro 70 (.lenS (.tmp 69)),Bt 71 .lss 3 68 70])
 (.cond (.tmp 71) .skip
 (.exit 2 (some [1,5,6,8,10,11,12]))))
 (.seq (.block 3 (.seq (.seq (.reg (some [1,5,6,8,10,11,12,13]) [Mv 74 8,Mv 75 13,Ix 76 1 74 75,Ro 77 (.load1 .slice (.tmp 76)),Ca 78 25 [.tmp 77] (some (.val (.one .bool))),Ol 79 (.unOp .not 4 (.tmp 78)),Mv 80 79,⟨some 81,some (80,false),.op false (.old (.move (.tmp 6)))⟩,⟨some 82,some (80,false),.op false (.old (.move (.tmp 13)))⟩,⟨some 83,some (80,false),.op false (.ixS 1 (.tmp 81) (.tmp 82))⟩,⟨some 84,some (80,false),.op false (.load1 (.int .i64) (.tmp 83))⟩,⟨some 85,some (80,false),.op false (.old (.binOp .lss 3 (.tmp 84) (.const (.int .i64 (-1))) 3))⟩,Ol 86 (.pick (.tmp 80) (.const (.bool true)) (.tmp 85)),Mv 87 86,⟨some 88,some (87,false),.op false (.old (.move (.tmp 6)))⟩,⟨some 89,some (87,false),.op false (.old (.move (.tmp 13)))⟩,⟨some 90,some (87,false),.op false (.ixS 1 (.tmp 88) (.tmp 89))⟩,⟨some 91,some (87,false),.op false (.load1 (.int .i64) (.tmp 90))⟩,⟨some 92,some (87,false),.op false (.old (.binOp .gtr 3 (.tmp 91) (.const (.int .i64 1)) 3))⟩,Ol 93 (.pick (.tmp 87) (.const (.bool true)) (.tmp 92))])
 (.cond (.tmp 93) (.seq (.reg (some []) [Ol 4 (.assign (.const (.bool false)))])
 .ret)
 .skip))
 (.draw (some [1,5,6,8,10,11,12,13]) 23 [Dr (Mv 94 12) 0 [21,22],Dr (Mv 95 6) 1 [3,4,20,21,22],Dr (Mv 96 13) 2 [3,4,20,21,22],Dr (Ix 97 1 95 96) 3 [4,20,21,22],Db (L1 98 97) 4 97 [20,21,22],Dr (Mv 99 8) 5 [7,8,19,20,21,22],Dr (Mv 100 13) 6 [7,8,19,20,21,22],Dr (Ix 101 1 99 100) 7 [8,19,20,21,22],Db (Ro 102 (.load1 .slice (.tmp 101))) 8 101 [19,20,21,22],Dr (Mv 103 10) 9 [11,12,13,19,20,21,22],Dr (Mv 104 11) 10 [11,12,13,19,20,21,22],Dr (Ix 105 2 103 104) 11 [12,13,19,20,21,22],Dr (Fa 106 0 105) 12 [13,19,20,21,22],Db (L1 107 106) 13 106 [19,20,21,22],Dr (Mv 108 10) 14 [16,17,18,19,20,21,22],Dr (Mv 109 11) 15 [16,17,18,19,20,21,22],Dr (Ix 110 2 108 109) 16 [17,18,19,20,21,22],Dr (Fa 111 1 110) 17 [18,19,20,21,22],Db (L1 112 111) 18 111 [19,20,21,22],⟨Ca 113 26 [.tmp 102,.tmp 107,.tmp 112] (some (.val (.one (.int .i64)))),19,.all,[20,21,22],false,false⟩,Dr (Bt 114 .mul 3 98 113) 20 [21,22],Dr (Bt 115 .add 3 94 114) 21 [22],Dr (As 12 115) 22 []])))
 (.reg (some [1,5,6,8,10,11,12,13]) [Mv 72 13,Bc 73 .add 3 72 .i64 1,As 13 73]))⟩)],
 []⟩
def r5 : RFun :=
⟨.seq (.reg (some [0]) [Ol 2 (.assign (.const (.bool false)))])
 (.seq (.reg (some [0]) [Ca 22 21 [] (some (.val (.one .bool))),As 3 22])
 (.seq (.seq (.reg (some [0,3]) [Mv 23 0,Ca 24 22 [.tmp 23] (some (.val (.one (.int .i64)))),Bc 25 .neq 3 24 .i64 0,Mv 26 25,⟨some 27,some (26,false),.op false (.old (.move (.tmp 3)))⟩,⟨some 28,some (26,false),.op false (.old (.unOp .not 4 (.tmp 27)))⟩,Ol 29 (.pick (.tmp 26) (.const (.bool true)) (.tmp 28))])
 (.cond (.tmp 29) (.seq (.reg (some [3]) [Mv 30 3,As 2 30])
 .ret)
 .skip))
 (.seq (.reg (some [0,3]) [Mv 32 0,Ca 33 10 [.tmp 32] (some (.tup [.one .slice,.one (.int .i64),.one (.int .i64)])),Mv 31 33,Ex 34 31 0,Ex 35 31 1,Ex 36 31 2,As 4 34,As 5 35,As 6 36])
 (.seq (.reg (some [0,3,4,5,6]) [Mv 38 0,Ca 39 12 [.tmp 38] (some (.tup [.one .slice,.one (.int .i64)])),Mv 37 39,Ex 40 37 0,Ex 41 37 1,As 7 40,As 8 41])
 (.seq (.reg (some [0,3,4,5,6,7,8]) [Mv 43 0,Ca 44 14 [.tmp 43] (some (.tup [.one .slice,.one (.int .i64)])),Mv 42 44,Ex 45 42 0,Ex 46 42 1,As 9 45,As 10 46])
 (.seq (.reg (some [0,3,4,5,6,7,8,9,10]) [Mv 47 0,Ca 48 24 [.tmp 47] (some (.val (.one .slice))),As 11 48])
 (.seq (.reg (some [0,3,4,5,6,7,8,9,10,11]) [Ac 12 0])
 (.seq (.seq (.reg (some [0,3,4,5,6,7,8,9,10,11,12]) [Ac 13 0])
 (.block 0 (.loop 10 none (some [0,3,4,5,6,7,8,9,10,11,12,13]))))
 (.seq (.seq (.reg (some [0,3,4,5,6,7,8,9,10,11,12]) [Mv 58 6,Bc 59 .neq 24 58 .i64 0,Mv 60 59,⟨some 61,some (60,false),.op false (.old (.move (.tmp 8)))⟩,⟨some 62,some (60,false),.op false (.old (.binOp .neq 24 (.tmp 61) (.const (.int .i64 0)) 24))⟩,Ol 63 (.pick (.tmp 60) (.const (.bool true)) (.tmp 62)),Mv 64 63,⟨some 65,some (64,false),.op false (.old (.move (.tmp 10)))⟩,⟨some 66,some (64,false),.op false (.old (.binOp .neq 24 (.tmp 65) (.const (.int .i64 0)) 24))⟩,Ol 67 (.pick (.tmp 64) (.const (.bool true)) (.tmp 66)),Mv 68 67,⟨some 69,some (68,false),.op false (.old (.move (.tmp 7)))⟩,⟨some 70,some (68,false),.op false (.lenS (.tmp 69))⟩,⟨some 71,some (68,false),.op false (.old (.move (.tmp 11)))⟩,⟨some 72,some (68,false),.op false (.lenS (.tmp 71))⟩,⟨some 73,some (68,false),.op false (.old (.move (.tmp 12)))⟩,⟨some 74,some (68,false),.op false (.old (.binOp .sub 3 (.tmp 72) (.tmp 73) 3))⟩,⟨some 75,some (68,false),.op false (.old (.move (.tmp 5)))⟩,⟨some 76,some (68,false),.op false (.old (.binOp .add 3 (.tmp 74) (.tmp 75) 3))⟩,⟨some 77,some (68,false),.op false (.old (.binOp .neq 3 (.tmp 70) (.tmp 76) 3))⟩,Ol 78 (.pick (.tmp 68) (.const (.bool true)) (.tmp 77)),Mv 79 78,⟨some 80,some (79,false),.op false (.old (.move (.tmp 4)))⟩,⟨some 81,some (79,false),.op false (.lenS (.tmp 80))⟩,⟨some 82,some (79,false),.op false (.old (.move (.tmp 7)))⟩,⟨some 83,some (79,false),.op false (.lenS (.tmp 82))⟩,⟨some 84,some (79,false),.op false (.old (.binOp .add 3 (.tmp 81) (.tmp 83) 3))⟩,⟨some 85,some (79,false),.op false (.old (.move (.tmp 11)))⟩,⟨some 86,some (79,false),.op false (.lenS (.tmp 85))⟩,⟨some 87,some (79,false),.op false (.old (.binOp .neq 3 (.tmp 84) (.tmp 86) 3))⟩,Ol 88 (.pick (.tmp 79) (.const (.bool true)) (.tmp 87)),Mv 89 88,⟨some 90,some (89,false),.op false (.old (.move (.tmp 9)))⟩,⟨some 91,some (89,false),.op false (.lenS (.tmp 90))⟩,⟨some 92,some (89,false),.op false (.old (.move (.tmp 7)))⟩,⟨some 93,some (89,false),.op false (.lenS (.tmp 92))⟩,⟨some 94,some (89,false),.op false (.old (.binOp .neq 3 (.tmp 91) (.tmp 93) 3))⟩,Ol 95 (.pick (.tmp 89) (.const (.bool true)) (.tmp 94))])
 (.cond (.tmp 95) (.seq (.reg (some []) [Ol 2 (.assign (.const (.bool false)))])
 .ret)
 .skip))
 (.seq (.seq (.reg (some [0,3,4,7,9,11]) [Ac 14 0])
 (.block 2 (.loop 17 (some [0,3,4,7,9,11,14]) (some [0,3,4,7,9,11,14]))))
 (.seq (.seq (.reg (some [0,3,7,9]) [Ac 18 0])
 (.block 8 (.loop 33 (some [0,3,7,9,18]) (some [0,3,7,9,18]))))
 (.seq (.reg (some [3]) [Mv 226 3,As 2 226])
 .ret)))))))))))),
 [.tmp 2],
 [(10,⟨none,some [0,3,4,5,6,7,8,9,10,11,12,13],.seq (.seq (.reg (some [0,3,4,5,6,7,8,9,10,11,12,13]) [Mv 49 13,Bc 50 .lss 3 49 .i64 8])
 (.cond (.tmp 50) .skip
 (.exit 0 (some [0,3,4,5,6,7,8,9,10,11,12]))))
 (.seq (.block 1 (.seq (.reg (some [0,3,4,5,6,7,8,9,10,11,12,13]) [Mv 53 0,Mv 54 13,Ca 55 27 [.tmp 53,.tmp 54] (some (.val (.one .bool)))])
 (.cond (.tmp 55) (.reg (some [0,3,4,5,6,7,8,9,10,11,12,13]) [Mv 56 12,Bc 57 .add 3 56 .i64 1,As 12 57])
 .skip)))
 (.reg (some [0,3,4,5,6,7,8,9,10,11,12,13]) [Mv 51 13,Bc 52 .add 3 51 .i64 1,As 13 52]))⟩),(17,⟨some [0,3,4,7,9,11,14],some [0,3,4,7,9,11,14],.seq (.seq (.reg (some [0,3,4,7,9,11,14]) [Mv 96 14,Mv 97 11,Ro 98 (.lenS (.tmp 97)),Bt 99 .lss 3 96 98])
 (.cond (.tmp 99) .skip
 (.exit 2 (some [0,3,7,9]))))
 (.seq (.block 3 (.seq (.reg (some [0,3,4,7,9,11,14]) [Ac 15 0])
 (.seq (.seq (.reg (some [0,3,4,7,9,11,14,15]) [Ac 16 0])
 (.block 4 (.loop 21 (some [0,3,4,7,9,11,14,15,16]) (some [0,3,4,7,9,11,14,15,16]))))
 (.seq (.seq (.reg (some [0,3,4,7,9,11,14,15]) [Ac 17 0])
 (.block 6 (.loop 26 (some [0,3,4,7,9,11,14,15,17]) (some [0,3,4,7,9,11,14,15,17]))))
 (.seq (.reg (some [0,3,4,7,9,11,14,15]) [Mv 136 15,Bc 137 .neq 3 136 .i64 1])
 (.cond (.tmp 137) (.seq (.reg (some []) [Ol 2 (.assign (.const (.bool false)))])
 .ret)
 .skip))))))
 (.reg (some [0,3,4,7,9,11,14]) [Mv 100 14,Bc 101 .add 3 100 .i64 1,As 14 101]))⟩),(21,⟨some [0,3,4,7,9,11,14,15,16],some [0,3,4,7,9,11,14,15,16],.seq (.seq (.reg (some [0,3,4,7,9,11,14,15,16]) [Mv 102 16,Mv 103 4,Ro 104 (.lenS (.tmp 103)),Bt 105 .lss 3 102 104])
 (.cond (.tmp 105) .skip
 (.exit 4 (some [0,3,4,7,9,11,14,15]))))
 (.seq (.block 5 (.seq (.draw (some [0,3,4,7,9,11,14,15,16]) 9 [Dr (Mv 108 4) 0 [2,3,8],Dr (Mv 109 16) 1 [2,3,8],Dr (Ix 110 2 108 109) 2 [3,8],Db (Ld 111 110) 3 110 [8],Dr (Mv 112 11) 4 [6,7,8],Dr (Mv 113 14) 5 [6,7,8],Dr (Ix 114 2 112 113) 6 [7,8],Db (Ld 115 114) 7 114 [8],Dr (Bt 116 .eql 54 111 115) 8 []])
 (.cond (.tmp 116) (.reg (some [0,3,4,7,9,11,14,15,16]) [Mv 117 15,Bc 118 .add 3 117 .i64 1,As 15 118])
 .skip)))
 (.reg (some [0,3,4,7,9,11,14,15,16]) [Mv 106 16,Bc 107 .add 3 106 .i64 1,As 16 107]))⟩),(26,⟨some [0,3,4,7,9,11,14,15,17],some [0,3,4,7,9,11,14,15,17],.seq (.seq (.reg (some [0,3,4,7,9,11,14,15,17]) [Mv 119 17,Mv 120 7,Ro 121 (.lenS (.tmp 120)),Bt 122 .lss 3 119 121])
 (.cond (.tmp 122) .skip
 (.exit 6 (some [0,3,4,7,9,11,14,15]))))
 (.seq (.block 7 (.seq (.draw (some [0,3,4,7,9,11,14,15,17]) 9 [Dr (Mv 125 7) 0 [2,3,8],Dr (Mv 126 17) 1 [2,3,8],Dr (Ix 127 2 125 126) 2 [3,8],Db (Ld 128 127) 3 127 [8],Dr (Mv 129 11) 4 [6,7,8],Dr (Mv 130 14) 5 [6,7,8],Dr (Ix 131 2 129 130) 6 [7,8],Db (Ld 132 131) 7 131 [8],Dr (Bt 133 .eql 54 128 132) 8 []])
 (.cond (.tmp 133) (.reg (some [0,3,4,7,9,11,14,15,17]) [Mv 134 15,Bc 135 .add 3 134 .i64 1,As 15 135])
 .skip)))
 (.reg (some [0,3,4,7,9,11,14,15,17]) [Mv 123 17,Bc 124 .add 3 123 .i64 1,As 17 124]))⟩),(33,⟨some [0,3,7,9,18],some [0,3,7,9,18],.seq (.seq (.reg (some [0,3,7,9,18]) [Mv 138 18,Mv 139 9,Ro 140 (.lenS (.tmp 139)),Bt 141 .lss 3 138 140])
 (.cond (.tmp 141) .skip
 (.exit 8 (some [3]))))
 (.seq (.block 9 (.seq (.reg (some [0,3,7,9,18]) [Mv 145 0,Mv 146 9,Mv 147 18,Ix 148 1 146 147,Ro 149 (.load1 .slice (.tmp 148)),Ca 150 23 [.tmp 145,.tmp 149] (some (.tup [.one .slice,.one (.int .i64)])),Mv 144 150,Ex 151 144 0,Ex 152 144 1,As 19 151,As 20 152])
 (.seq (.seq (.draw (some [0,3,7,9,18,19,20]) 45 [Dr (Mv 153 20) 0 [1,2,3,4,5,6,7,8,9,10,11,12,13,14,15,16,17,18,19,20,21,22,23,24,25,26,27,28,29,30,31,32,33,34,35,36,37,38,39,40,41,42,43,44],Dr (Bc 154 .neq 24 153 .i64 0) 1 [2,3,4,5,6,7,8,9,10,11,12,13,14,15,16,17,18,19,20,21,22,23,24,25,26,27,28,29,30,31,32,33,34,35,36,37,38,39,40,41,42,43,44],Dr (Mv 155 154) 2 [3,4,5,6,7,8,9,10,11,12,13,14,15,16,17,18,19,20,21,22,23,24,25,26,27,28,29,30,31,32,33,34,35,36,37,38,39,40,41,42,43,44],⟨⟨some 156,some (155,false),.op false (.old (.move (.tmp 19)))⟩,3,.none,[4,7,8,9,10,11,12,13,14,15,16,17,18,19,20,21,22,23,24,25,26,27,28,29,30,31,32,33,34,35,36,37,38,39,40,41,42,43,44],false,true⟩,⟨⟨some 157,some (155,false),.op false (.lenS (.tmp 156))⟩,4,.none,[7,8,9,10,11,12,13,14,15,16,17,18,19,20,21,22,23,24,25,26,27,28,29,30,31,32,33,34,35,36,37,38,39,40,41,42,43,44],false,true⟩,⟨⟨some 158,some (155,false),.op false (.old (.move (.tmp 9)))⟩,5,.none,[6,7,8,9,10,11,12,13,14,15,16,17,18,19,20,21,22,23,24,25,26,27,28,29,30,31,32,33,34,35,36,37,38,39,40,41,42,43,44],false,true⟩,⟨⟨some 159,some (155,false),.op false (.lenS (.tmp 158))⟩,6,.none,[7,8,9,10,11,12,13,14,15,16,17,18,19,20,21,22,23,24,25,26,27,28,29,30,31,32,33,34,35,36,37,38,39,40,41,42,43,44],false,true⟩,⟨⟨some 160,some (155,false),.op false (.old (.binOp .neq 3 (.tmp 157) (.tmp 159) 3))⟩,7,.none,[8,9,10,11,12,13,14,15,16,17,18,19,20,21,22,23,24,25,26,27,28,29,30,31,32,33,34,35,36,37,38,39,40,41,42,43,44],false,true⟩,Dr (Ol 161 (.pick (.tmp 155) (.const (.bool true)) (.tmp 160))) 8 [9,10,11,12,13,14,15,16,17,18,19,20,21,22,23,24,25,26,27,28,29,30,31,32,33,34,35,36,37,38,39,40,41,42,43,44],Dr (Mv 162 161) 9 [10,11,12,13,14,15,16,17,18,19,20,21,22,23,24,25,26,27,28,29,30,31,32,33,34,35,36,37,38,39,40,41,42,43,44],⟨⟨some 163,some (162,false),.op false (.old (.move (.tmp 9)))⟩,10,.none,[12,13,14,15,16,17,18,19,20,21,22,23,24,25,26,27,28,29,30,31,32,33,34,35,36,37,38,39,40,41,42,43,44],false,true⟩,⟨⟨some 164,some (162,false),.op false (.old (.move (.tmp 18)))⟩,11,.none,[12,13,14,15,16,17,18,19,20,21,22,23,24,25,26,27,28,29,30,31,32,33,34,35,36,37,38,39,40,41,42,43,44],false,true⟩,⟨⟨some 165,some (162,false),.op false (.ixS 1 (.tmp 163) (.tmp 164))⟩,12,.none,[13,14,15,16,17,18,19,20,21,22,23,24,25,26,27,28,29,30,31,32,33,34,35,36,37,38,39,40,41,42,43,44],false,true⟩,⟨⟨some 166,some (162,false),.op false (.load1 .slice (.tmp 165))⟩,13,.blk (.tmp 165),[14,15,16,17,18,19,20,21,22,23,24,25,26,27,28,29,30,31,32,33,34,35,36,37,38,39,40,41,42,43,44],false,true⟩,⟨⟨some 167,some (162,false),.op false (.lenS (.tmp 166))⟩,14,.none,[15,16,17,18,19,20,21,22,23,24,25,26,27,28,29,30,31,32,33,34,35,36,37,38,39,40,41,42,43,44],false,true⟩,⟨⟨some 168,some (162,false),.op false (.old (.binOp .lss 3 (.tmp 167) (.const (.int .i64 3)) 3))⟩,15,.none,[16,17,18,19,20,21,22,23,24,25,26,27,28,29,30,31,32,33,34,35,36,37,38,39,40,41,42,43,44],false,true⟩,Dr (Ol 169 (.pick (.tmp 162) (.const (.bool true)) (.tmp 168))) 16 [17,18,19,20,21,22,23,24,25,26,27,28,29,30,31,32,33,34,35,36,37,38,39,40,41,42,43,44],Dr (Mv 170 169) 17 [18,19,20,21,22,23,24,25,26,27,28,29,30,31,32,33,34,35,36,37,38,39,40,41,42,43,44],⟨⟨some 171,some (170,false),.op false (.old (.move (.tmp 9)))⟩,18,.none,[20,21,22,23,29,30,31,32,33,34,35,36,37,38,39,40,41,42,43,44],false,true⟩,⟨⟨some 172,some (170,false),.op false (.old (.move (.tmp 18)))⟩,19,.none,[20,21,22,23,29,30,31,32,33,34,35,36,37,38,39,40,41,42,43,44],false,true⟩,⟨⟨some 173,some (170,false),.op false (.ixS 1 (.tmp 171) (.tmp 172))⟩,20,.none,[21,22,23,29,30,31,32,33,34,35,36,37,38,39,40,41,42,43,44],false,true⟩,⟨⟨some 174,some (170,false),.op false (.load1 .slice (.tmp 173))⟩,21,.blk (.tmp 173),[22,23,29,30,31,32,33,34,35,36,37,38,39,40,41,42,43,44],false,true⟩,⟨⟨some 175,some (170,false),.op false (.ixS 1 (.tmp 174) (.const (.int .i64 0)))⟩,22,.none,[23,29,30,31,32,33,34,35,36,37,38,39,40,41,42,43,44],false,true⟩,⟨⟨some 176,some (170,false),.op false (.load1 (.int .i64) (.tmp 175))⟩,23,.blk (.tmp 175),[29,30,31,32,33,34,35,36,37,38,39,40,41,42,43,44],false,true⟩,⟨⟨some 177,some (170,false),.op false (.old (.move (.tmp 7)))⟩,24,.none,[26,27,28,29,30,31,32,33,34,35,36,37,38,39,40,41,42,43,44],false,true⟩,⟨⟨some 178,some (170,false),.op false (.old (.move (.tmp 18)))⟩,25,.none,[26,27,28,29,30,31,32,33,34,35,36,37,38,39,40,41,42,43,44],false,true⟩,⟨⟨some 179,some (170,false),.op false (.ixS 2 (.tmp 177) (.tmp 178))⟩,26,.none,[27,28,29,30,31,32,33,34,35,36,37,38,39,40,41,42,43,44],false,true⟩,⟨⟨some 180,some (170,false),.op false (.fieldAddr 0 (.tmp 179))⟩,27,.none,[28,29,30,31,32,33,34,35,36,37,38,39,40,41,42,43,44],false,true⟩,⟨⟨some 181,some (170,false),.op false (.load1 (.int .i64) (.tmp 180))⟩,28,.blk (.tmp 180),[29,30,31,32,33,34,35,36,37,38,39,40,41,42,43,44],false,true⟩,⟨⟨some 182,some (170,false),.op false (.old (.binOp .neq 3 (.tmp 176) (.tmp 181) 3))⟩,29,.none,[30,31,32,33,34,35,36,37,38,39,40,41,42,43,44],false,true⟩,Dr (Ol 183 (.pick (.tmp 170) (.const (.bool true)) (.tmp 182))) 30 [31,32,33,34,35,36,37,38,39,40,41,42,43,44],Dr (Mv 184 183) 31 [32,33,34,35,36,37,38,39,40,41,42,43,44],⟨⟨some 185,some (184,false),.op false (.old (.move (.tmp 9)))⟩,32,.none,[34,35,36,37,43,44],false,true⟩,⟨⟨some 186,some (184,false),.op false (.old (.move (.tmp 18)))⟩,33,.none,[34,35,36,37,43,44],false,true⟩,⟨⟨some 187,some (184,false),.op false (.ixS 1 (.tmp 185) (.tmp 186))⟩,34,.none,[35,36,37,43,44],false,true⟩,⟨⟨some 188,some (184,false),.op false (.load1 .slice (.tmp 187))⟩,35,.blk (.tmp 187),[36,37,43,44],false,true⟩,⟨⟨some 189,some (184,false),.op false (.ixS 1 (.tmp 188) (.const (.int .i64 1)))⟩,36,.none,[37,43,44],false,true⟩,⟨⟨some 190,some (184,false),.op false (.load1 (.int .i64) (.tmp 189))⟩,37,.blk (.tmp 189),[43,44],false,true⟩,⟨⟨some 191,some (184,false),.op false (.old (.move (.tmp 7)))⟩,38,.none,[40,41,42,43,44],false,true⟩,⟨⟨some 192,some (184,false),.op false (.old (.move (.tmp 18)))⟩,39,.none,[40,41,42,43,44],false,true⟩,⟨⟨some 193,some (184,false),.op false (.ixS 2 (.tmp 191) (.tmp 192))⟩,40,.none,[41,42,43,44],false,true⟩,⟨⟨some 194,some (184,false),.op false (.fieldAddr 1 (.tmp 193))⟩,41,.none,[42,43,44],false,true⟩,⟨⟨some 195,some (184,false),.op false (.load1 (.int .i64) (.tmp 194))⟩,42,.blk (.tmp 194),[43,44],false,true⟩,⟨⟨some 196,some (184,false),.op false (.old (.binOp .neq 3 (.tmp 190) (.tmp 195) 3))⟩,43,.none,[44],false,true⟩,Dr (Ol 197 (.pick (.tmp 184) (.const (.bool true)) (.tmp 196))) 44 []])
 (.cond (.tmp 197) (.seq (.reg (some []) [Ol 2 (.assign (.const (.bool false)))])
 .ret)
 .skip))
 (.seq (.reg (some [0,3,7,9,18,19]) [Ac 21 0])
 (.block 10 (.loop 39 none (some [0,3,7,9,18,19,21])))))))
 (.reg (some [0,3,7,9,18]) [Mv 142 18,Bc 143 .add 3 142 .i64 1,As 18 143]))⟩),(39,⟨none,some [0,3,7,9,18,19,21],.seq (.seq (.reg (some [0,3,7,9,18,19,21]) [Mv 198 21,Mv 199 19,Ro 200 (.lenS (.tmp 199)),Bt 201 .lss 3 198 200])
 (.cond (.tmp 201) .skip
 (.exit 10 (some [0,3,7,9,18]))))
 (.seq (.block 11 (.seq (.reg (some [0,3,7,9,18,19,21]) [Mv 204 21,Mv 205 18,Bt 206 .eql 3 204 205,Mv 207 206,⟨some 208,some (207,true),.op false (.old (.move (.tmp 19)))⟩,⟨some 209,some (207,true),.op false (.old (.move (.tmp 21)))⟩,⟨some 210,some (207,true),.op false (.ixS 1 (.tmp 208) (.tmp 209))⟩,⟨some 211,some (207,true),.op false (.load1 (.int .i64) (.tmp 210))⟩,⟨some 212,some (207,true),.op false (.old (.binOp .neq 3 (.tmp 211) (.const (.int .i64 1)) 3))⟩,Ol 213 (.pick (.tmp 207) (.tmp 212) (.const (.bool false))),Mv 214 213,⟨some 215,some (214,false),.op false (.old (.move (.tmp 21)))⟩,⟨some 216,some (214,false),.op false (.old (.move (.tmp 18)))⟩,⟨some 217,some (214,false),.op false (.old (.binOp .neq 3 (.tmp 215) (.tmp 216) 3))⟩,⟨some 218,some (214,false),.op false (.old (.move (.tmp 217)))⟩,⟨some 219,some (218,true),.op false (.old (.move (.tmp 19)))⟩,⟨some 220,some (218,true),.op false (.old (.move (.tmp 21)))⟩,⟨some 221,some (218,true),.op false (.ixS 1 (.tmp 219) (.tmp 220))⟩,⟨some 222,some (218,true),.op false (.load1 (.int .i64) (.tmp 221))⟩,⟨some 223,some (218,true),.op false (.old (.binOp .neq 3 (.tmp 222) (.const (.int .i64 0)) 3))⟩,⟨some 224,some (214,false),.op false (.old (.pick (.tmp 218) (.tmp 223) (.const (.bool false))))⟩,Ol 225 (.pick (.tmp 214) (.const (.bool true)) (.tmp 224))])
 (.cond (.tmp 225) (.seq (.reg (some []) [Ol 2 (.assign (.const (.bool false)))])
 .ret)
 .skip)))
 (.reg (some [0,3,7,9,18,19,21]) [Mv 202 21,Bc 203 .add 3 202 .i64 1,As 21 203]))⟩)],
 []⟩
def r6 : RFun :=
⟨.seq (.reg (some [0,1]) [Ol 4 (.assign (.const (.bool false)))])
 (.seq (.seq (.reg (some [0,1]) [Mv 13 0,Ro 14 (.lenS (.tmp 13)),Bc 15 .gtr 3 14 .i64 100,Mv 16 15,⟨some 17,some (16,false),.op false (.old (.move (.tmp 1)))⟩,⟨some 18,some (16,false),.op false (.lenS (.tmp 17))⟩,⟨some 19,some (16,false),.op false (.old (.binOp .gtr 3 (.tmp 18) (.const (.int .i64 20)) 3))⟩,Ol 20 (.pick (.tmp 16) (.const (.bool true)) (.tmp 19))])
 (.cond (.tmp 20) (.seq (.reg (some []) [Ol 4 (.assign (.const (.bool true)))])
 .ret)
 .skip))
 (.seq (.reg (some [0,1]) [Mv 22 0,Mv 23 1,Ca 24 23 [.tmp 22,.tmp 23] (some (.tup [.one .slice,.one (.int .i64)])),Mv 21 24,Ex 25 21 0,Ex 26 21 1,As 5 25,As 6 26])
 (.seq (.reg (some [0,1,5,6]) [Mv 28 0,Mv 29 1,Ca 30 28 [.tmp 28,.tmp 29] (some (.tup [.one .slice,.one (.int .i64)])),Mv 27 30,Ex 31 27 0,Ex 32 27 1,As 7 31,As 8 32])
 (.seq (.reg (some [0,1,5,6,7,8]) [Mv 34 0,Mv 35 1,Ca 36 29 [.tmp 34,.tmp 35] (some (.tup [.agg [.int .i64,.int .i64,.int .i64],.one (.int .i64)])),Mv 33 36,Ex 37 33 0,Ex 38 33 1,⟨some 9,none,.op true (.new 3 [.int .i64 0,.int .i64 0,.int .i64 0])⟩,⟨none,none,.op false (.store 3 (.tmp 9) (.tmp 37))⟩,As 10 38])
 (.seq (.reg (some [0,1,5,6,7,8,9,10]) [Mv 40 0,Mv 41 1,Ca 42 30 [.tmp 40,.tmp 41] (some (.tup [.agg [.int .i64,.int .i64,.int .i64],.one (.int .i64)])),Mv 39 42,Ex 43 39 0,Ex 44 39 1,⟨some 11,none,.op true (.new 3 [.int .i64 0,.int .i64 0,.int .i64 0])⟩,⟨none,none,.op false (.store 3 (.tmp 11) (.tmp 43))⟩,As 12 44])
 (.seq (.reg (some [5,6,7,8,9,10,11,12]) [Mv 45 5,Mv 46 7,Ca 47 20 [.tmp 45,.tmp 46] (some (.val (.one .bool))),Mv 48 47,⟨some 49,some (48,true),.op false (.old (.move (.tmp 6)))⟩,⟨some 50,some (48,true),.op false (.old (.move (.tmp 8)))⟩,⟨some 51,some (48,true),.op false (.old (.binOp .eql 3 (.tmp 49) (.tmp 50) 3))⟩,Ol 52 (.pick (.tmp 48) (.tmp 51) (.const (.bool false))),Mv 53 52,⟨some 54,some (53,true),.op false (.load 3 [.int .i64,.int .i64,.int .i64] (.tmp 9))⟩,⟨some 55,some (53,true),.op false (.load 3 [.int .i64,.int .i64,.int .i64] (.tmp 11))⟩,⟨some 56,some (53,true),.op false (.old (.binOp .eql 60 (.tmp 54) (.tmp 55) 60))⟩,Ol 57 (.pick (.tmp 53) (.tmp 56) (.const (.bool false))),Mv 58 57,⟨some 59,some (58,true),.op false (.old (.move (.tmp 10)))⟩,⟨some 60,some (58,true),.op false (.old (.move (.tmp 12)))⟩,⟨some 61,some (58,true),.op false (.old (.binOp .eql 3 (.tmp 59) (.tmp 60) 3))⟩,Ol 62 (.pick (.tmp 58) (.tmp 61) (.const (.bool false))),As 4 62])
 .ret)))))),
 [.tmp 4],
 [],
 []⟩
