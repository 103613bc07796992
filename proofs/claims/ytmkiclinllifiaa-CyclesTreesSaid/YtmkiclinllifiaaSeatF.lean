import Derived.Test.YtmkiclinllifiaaSeat0
import Derived.Test.YtmkiclinllifiaaSymS
set_option linter.unusedSimpArgs false
set_option linter.unusedVariables false
namespace Go.Proofs.Ytmkiclinllifiaa
open Go.Sim
set_option maxRecDepth 100000
def r82 : RFun :=
⟨.seq (.reg (some [0,1,2,3,4]) [Ol 10 (.assign (.const (.bool true)))])
 (.seq (.reg (some [0,1,2,3,4,10]) [Ol 11 (.assign (.const (.bool true)))])
 (.block 0 (.loop 2 (some [0,1,2,3,4,10,11]) (some [0,1,2,3,4,10,11])))),
 [],
 [(2,⟨some [0,1,2,3,4,10,11],some [0,1,2,3,4,10,11],.block 1 (.seq (.reg (some [0,1,2,3,4,10,11]) [Mv 21 2,Mv 22 1,Bt 23 .sub 3 21 22,As 12 23])
 (.seq (.seq (.reg (some [0,1,2,3,4,10,11,12]) [Mv 24 12,Bc 25 .leq 3 24 .i64 12])
 (.cond (.tmp 25) (.seq (.reg (some [0,1,2,4]) [Mv 26 0,Mv 27 1,Mv 28 2,Mv 29 4,Ca 30 85 [.tmp 26,.tmp 27,.tmp 28,.tmp 29] (some (.tup []))])
 .ret)
 .skip))
 (.seq (.seq (.reg (some [0,1,2,3,4,10,11,12]) [Mv 31 3,Bc 32 .eql 3 31 .i64 0])
 (.cond (.tmp 32) (.seq (.reg (some [0,1,2,4]) [Mv 33 0,Mv 34 1,Mv 35 2,Mv 36 4,Ca 37 86 [.tmp 33,.tmp 34,.tmp 35,.tmp 36] (some (.tup []))])
 .ret)
 .skip))
 (.seq (.seq (.reg (some [0,1,2,3,4,10,11,12]) [Mv 38 10,Ol 39 (.unOp .not 4 (.tmp 38))])
 (.cond (.tmp 39) (.seq (.reg (some [0,1,2,3,4,10,11,12]) [Mv 40 0,Mv 41 1,Mv 42 2,Mv 43 4,Ca 44 87 [.tmp 40,.tmp 41,.tmp 42,.tmp 43] (some (.tup []))])
 (.reg (some [0,1,2,3,4,10,11,12]) [Mv 45 3,Bc 46 .sub 3 45 .i64 1,As 3 46]))
 .skip))
 (.seq (.reg (some [0,1,2,3,4,10,11,12]) [Mv 48 0,Mv 49 1,Mv 50 2,Mv 51 4,Ca 52 88 [.tmp 48,.tmp 49,.tmp 50,.tmp 51] (some (.tup [.one (.int .i64),.one (.int .i64)])),Mv 47 52,Ex 53 47 0,Ex 54 47 1,As 13 53,As 14 54])
 (.seq (.seq (.reg (some [0,1,2,3,4,10,11,12,13,14]) [Mv 55 14,Bc 56 .eql 128 55 .i64 2])
 (.cond (.tmp 56) (.seq (.reg (some [0,1,2,3,4,10,11,12,13]) [Mv 57 0,Mv 58 1,Mv 59 2,Mv 60 4,Ca 61 89 [.tmp 57,.tmp 58,.tmp 59,.tmp 60] (some (.tup []))])
 (.seq (.reg (some [0,1,2,3,4,10,11,12,13]) [Mv 62 2,Bc 63 .sub 3 62 .i64 1,Mv 64 13,Mv 65 1,Bt 66 .sub 3 64 65,Bt 67 .sub 3 63 66,As 13 67])
 (.reg (some [0,1,2,3,4,10,11,12,13]) [Ac 14 1])))
 .skip))
 (.seq (.seq (.reg (some [0,1,2,3,4,10,11,12,13,14]) [Mv 68 10,Mv 69 68,⟨some 70,some (69,true),.op false (.old (.move (.tmp 11)))⟩,Ol 71 (.pick (.tmp 69) (.tmp 70) (.const (.bool false))),Mv 72 71,⟨some 73,some (72,true),.op false (.old (.move (.tmp 14)))⟩,⟨some 74,some (72,true),.op false (.old (.binOp .eql 128 (.tmp 73) (.const (.int .i64 1)) 128))⟩,Ol 75 (.pick (.tmp 72) (.tmp 74) (.const (.bool false)))])
 (.cond (.tmp 75) (.seq (.reg (some [0,1,2,3,4,10,11,12,13]) [Mv 76 0,Mv 77 1,Mv 78 2,Mv 79 4,Ca 80 90 [.tmp 76,.tmp 77,.tmp 78,.tmp 79] (some (.val (.one .bool)))])
 (.cond (.tmp 80) .ret
 .skip))
 .skip))
 (.seq (.seq (.draw (some [0,1,2,3,4,10,11,12,13]) 17 [Dr (Mv 81 1) 0 [1,2,3,4,5,6,7,8,9,10,11,12,13,14,15,16],Dr (Bc 82 .gtr 3 81 .i64 0) 1 [2,3,4,5,6,7,8,9,10,11,12,13,14,15,16],Dr (Mv 83 82) 2 [3,4,5,6,7,8,9,10,11,12,13,14,15,16],⟨⟨some 84,some (83,true),.op false (.old (.move (.tmp 4)))⟩,3,.none,[13,14,15,16],false,true⟩,⟨⟨some 85,some (83,true),.op false (.old (.move (.tmp 0)))⟩,4,.none,[7,8,13,14,15,16],false,true⟩,⟨⟨some 86,some (83,true),.op false (.old (.move (.tmp 1)))⟩,5,.none,[6,7,8,13,14,15,16],false,true⟩,⟨⟨some 87,some (83,true),.op false (.old (.binOp .sub 3 (.tmp 86) (.const (.int .i64 1)) 3))⟩,6,.none,[7,8,13,14,15,16],false,true⟩,⟨⟨some 88,some (83,true),.op false (.ixS 2 (.tmp 85) (.tmp 87))⟩,7,.none,[8,13,14,15,16],false,true⟩,⟨⟨some 89,some (83,true),.op false (.load 2 [.int .i64,.int .i64] (.tmp 88))⟩,8,.blk (.tmp 88),[13,14,15,16],false,true⟩,⟨⟨some 90,some (83,true),.op false (.old (.move (.tmp 0)))⟩,9,.none,[11,12,13,14,15,16],false,true⟩,⟨⟨some 91,some (83,true),.op false (.old (.move (.tmp 13)))⟩,10,.none,[11,12,13,14,15,16],false,true⟩,⟨⟨some 92,some (83,true),.op false (.ixS 2 (.tmp 90) (.tmp 91))⟩,11,.none,[12,13,14,15,16],false,true⟩,⟨⟨some 93,some (83,true),.op false (.load 2 [.int .i64,.int .i64] (.tmp 92))⟩,12,.blk (.tmp 92),[13,14,15,16],false,true⟩,⟨⟨some 94,some (83,true),.call (.tmp 84) [.tmp 89,.tmp 93] (some (.val (.one (.int .i64))))⟩,13,.all,[14,15,16],false,false⟩,⟨⟨some 95,some (83,true),.op false (.old (.binOp .lss 3 (.tmp 94) (.const (.int .i64 0)) 3))⟩,14,.none,[15,16],false,true⟩,⟨⟨some 96,some (83,true),.op false (.old (.unOp .not 4 (.tmp 95)))⟩,15,.none,[16],false,true⟩,Dr (Ol 97 (.pick (.tmp 83) (.tmp 96) (.const (.bool false)))) 16 []])
 (.cond (.tmp 97) (.seq (.reg (some [0,1,2,3,4,10,11,13]) [Mv 98 0,Mv 99 1,Mv 100 2,Mv 101 13,Mv 102 4,Ca 103 91 [.tmp 98,.tmp 99,.tmp 100,.tmp 101,.tmp 102] (some (.val (.one (.int .i64)))),As 15 103])
 (.seq (.reg (some [0,2,3,4,10,11,15]) [Mv 104 15,As 1 104])
 (.exit 1 (some [0,1,2,3,4,10,11]))))
 .skip))
 (.seq (.reg (some [0,1,2,3,4,12,13]) [Mv 106 0,Mv 107 1,Mv 108 2,Mv 109 13,Mv 110 4,Ca 111 92 [.tmp 106,.tmp 107,.tmp 108,.tmp 109,.tmp 110] (some (.tup [.one (.int .i64),.one .bool])),Mv 105 111,Ex 112 105 0,Ex 113 105 1,As 16 112,As 17 113])
 (.seq (.reg (some [0,1,2,3,4,12,16,17]) [Mv 114 17,As 11 114])
 (.seq (.reg (some [0,1,2,3,4,11,12,16]) [Mv 115 16,Mv 116 1,Bt 117 .sub 3 115 116,Mv 118 2,Mv 119 16,Bt 120 .sub 3 118 119,As 18 117,As 19 120])
 (.seq (.reg (some [0,1,2,3,4,11,12,16,18,19]) [Mv 121 12,Bc 122 .quo 3 121 .i64 8,As 20 122])
 (.seq (.reg (some [0,1,2,3,4,11,16,18,19,20]) [Mv 123 18,Mv 124 19,Bt 125 .lss 3 123 124])
 (.cond (.tmp 125) (.seq (.reg (some [0,1,2,3,4,11,16,18,20]) [Mv 126 18,Mv 127 20,Bt 128 .geq 3 126 127,As 10 128])
 (.seq (.reg (some [0,1,2,3,4,10,11,16]) [Mv 129 0,Mv 130 1,Mv 131 16,Mv 132 3,Mv 133 4,Ca 134 82 [.tmp 129,.tmp 130,.tmp 131,.tmp 132,.tmp 133] (some (.tup []))])
 (.reg (some [0,2,3,4,10,11,16]) [Mv 135 16,Bc 136 .add 3 135 .i64 1,As 1 136])))
 (.seq (.reg (some [0,1,2,3,4,11,16,19,20]) [Mv 137 19,Mv 138 20,Bt 139 .geq 3 137 138,As 10 139])
 (.seq (.reg (some [0,1,2,3,4,10,11,16]) [Mv 140 0,Mv 141 16,Bc 142 .add 3 141 .i64 1,Mv 143 2,Mv 144 3,Mv 145 4,Ca 146 82 [.tmp 140,.tmp 142,.tmp 143,.tmp 144,.tmp 145] (some (.tup []))])
 (.reg (some [0,1,3,4,10,11,16]) [Mv 147 16,As 2 147])))))))))))))))))⟩)],
 []⟩
theorem r82_ok : resFun (progU ()) hint live 82 Try.f82 = some r82:=by kernel_rfl
def r83 : RFun :=
⟨.seq (.reg (some [0]) [Ac 2 0])
 (.seq (.cond (.const (.bool false)) (.seq (.reg (some [0]) [Mv 3 0,Ro 4 (.convI .u32 (.tmp 3)),Ca 5 93 [.tmp 4] (some (.val (.one (.int .i64)))),As 2 5])
 .ret)
 .skip)
 (.seq (.reg (some [0]) [Mv 6 0,Ca 7 94 [.tmp 6] (some (.val (.one (.int .i64)))),As 2 7])
 .ret)),
 [.tmp 2],
 [],
 []⟩
theorem r83_ok : resFun (progU ()) hint live 83 Try.f83 = some r83:=by kernel_rfl
def r84 : RFun :=
⟨.seq (.reg (some [0]) [Ol 2 (.assign (.const (.bool false)))])
 (.seq (.reg (some [0]) [Mv 3 0,Mv 4 0,Bt 5 .neq 3 3 4,As 2 5])
 .ret),
 [.tmp 2],
 [],
 []⟩
theorem r84_ok : resFun (progU ()) hint live 84 Try.f84 = some r84:=by kernel_rfl
def r85 : RFun :=
⟨.seq (.reg (some [0,1,2,3]) [Mv 10 1,Bc 11 .add 3 10 .i64 1,As 8 11])
 (.block 0 (.loop 1 (some [0,1,2,3,8]) (some [0,1,2,3,8]))),
 [],
 [(1,⟨some [0,1,2,3,8],some [0,1,2,3,8],.seq (.seq (.reg (some [0,1,2,3,8]) [Mv 12 8,Mv 13 2,Bt 14 .lss 3 12 13])
 (.cond (.tmp 14) .skip
 (.exit 0 (some []))))
 (.seq (.block 1 (.seq (.reg (some [0,1,2,3,8]) [Mv 17 8,As 9 17])
 (.block 2 (.loop 4 (some [0,1,2,3,8,9]) (some [0,1,2,3,8,9])))))
 (.reg (some [0,1,2,3,8]) [Mv 15 8,Bc 16 .add 3 15 .i64 1,As 8 16]))⟩),(4,⟨some [0,1,2,3,8,9],some [0,1,2,3,8,9],.seq (.seq (.draw (some [0,1,2,3,8,9]) 17 [Dr (Mv 18 9) 0 [2,3,4,5,6,7,8,9,10,11,12,13,14,15,16],Dr (Mv 19 1) 1 [2,3,4,5,6,7,8,9,10,11,12,13,14,15,16],Dr (Bt 20 .gtr 3 18 19) 2 [3,4,5,6,7,8,9,10,11,12,13,14,15,16],Dr (Mv 21 20) 3 [4,5,6,7,8,9,10,11,12,13,14,15,16],⟨⟨some 22,some (21,true),.op false (.old (.move (.tmp 3)))⟩,4,.none,[14,15,16],false,true⟩,⟨⟨some 23,some (21,true),.op false (.old (.move (.tmp 0)))⟩,5,.none,[7,8,14,15,16],false,true⟩,⟨⟨some 24,some (21,true),.op false (.old (.move (.tmp 9)))⟩,6,.none,[7,8,14,15,16],false,true⟩,⟨⟨some 25,some (21,true),.op false (.ixS 2 (.tmp 23) (.tmp 24))⟩,7,.none,[8,14,15,16],false,true⟩,⟨⟨some 26,some (21,true),.op false (.load 2 [.int .i64,.int .i64] (.tmp 25))⟩,8,.blk (.tmp 25),[14,15,16],false,true⟩,⟨⟨some 27,some (21,true),.op false (.old (.move (.tmp 0)))⟩,9,.none,[12,13,14,15,16],false,true⟩,⟨⟨some 28,some (21,true),.op false (.old (.move (.tmp 9)))⟩,10,.none,[11,12,13,14,15,16],false,true⟩,⟨⟨some 29,some (21,true),.op false (.old (.binOp .sub 3 (.tmp 28) (.const (.int .i64 1)) 3))⟩,11,.none,[12,13,14,15,16],false,true⟩,⟨⟨some 30,some (21,true),.op false (.ixS 2 (.tmp 27) (.tmp 29))⟩,12,.none,[13,14,15,16],false,true⟩,⟨⟨some 31,some (21,true),.op false (.load 2 [.int .i64,.int .i64] (.tmp 30))⟩,13,.blk (.tmp 30),[14,15,16],false,true⟩,⟨⟨some 32,some (21,true),.call (.tmp 22) [.tmp 26,.tmp 31] (some (.val (.one (.int .i64))))⟩,14,.all,[15,16],false,false⟩,⟨⟨some 33,some (21,true),.op false (.old (.binOp .lss 3 (.tmp 32) (.const (.int .i64 0)) 3))⟩,15,.none,[16],false,true⟩,Dr (Ol 34 (.pick (.tmp 21) (.tmp 33) (.const (.bool false)))) 16 []])
 (.cond (.tmp 34) .skip
 (.exit 2 (some [0,1,2,3,8]))))
 (.seq (.block 3 (.draw (some [0,1,2,3,8,9]) 18 [Dr (Mv 37 0) 0 [14,15,16,17],Dr (Mv 38 9) 1 [14,15,16,17],Dr (Mv 39 0) 2 [16,17],Dr (Mv 40 9) 3 [4,16,17],Dr (Bc 41 .sub 3 40 .i64 1) 4 [16,17],Dr (Mv 42 0) 5 [8,9,14,15,16,17],Dr (Mv 43 9) 6 [7,8,9,14,15,16,17],Dr (Bc 44 .sub 3 43 .i64 1) 7 [8,9,14,15,16,17],Dr (Ix 45 2 42 44) 8 [9,14,15,16,17],Db (Ld 46 45) 9 45 [14,15,16,17],Dr (Mv 47 0) 10 [12,13,14,15,16,17],Dr (Mv 48 9) 11 [12,13,14,15,16,17],Dr (Ix 49 2 47 48) 12 [13,14,15,16,17],Db (Ld 50 49) 13 49 [14,15,16,17],Dr (Ix 51 2 37 38) 14 [15,16,17],⟨⟨none,none,.op false (.store 2 (.tmp 51) (.tmp 46))⟩,15,.blk (.tmp 51),[16,17],true,true⟩,Dr (Ix 52 2 39 41) 16 [17],⟨⟨none,none,.op false (.store 2 (.tmp 52) (.tmp 50))⟩,17,.blk (.tmp 52),[],true,true⟩]))
 (.reg (some [0,1,2,3,8,9]) [Mv 35 9,Bc 36 .sub 3 35 .i64 1,As 9 36]))⟩)],
 []⟩
theorem r85_ok : resFun (progU ()) hint live 85 Try.f85 = some r85:=by kernel_rfl
def r86 : RFun :=
⟨.seq (.reg (some [0,1,2,3]) [Mv 13 1,As 8 13])
 (.seq (.reg (some [0,1,2,3,8]) [Ac 9 0])
 (.seq (.reg (some [0,1,2,3,8,9]) [Mv 14 2,Mv 15 1,Bt 16 .sub 3 14 15,As 10 16])
 (.seq (.seq (.reg (some [0,3,8,9,10]) [Mv 17 10,Bc 18 .sub 3 17 .i64 1,Bc 19 .quo 3 18 .i64 2,As 11 19])
 (.block 0 (.loop 4 none (some [0,3,8,9,10,11]))))
 (.seq (.reg (some [0,3,8,9,10]) [Mv 30 10,Bc 31 .sub 3 30 .i64 1,As 12 31])
 (.block 2 (.loop 8 (some [0,3,8,9,12]) (some [0,3,8,9,12]))))))),
 [],
 [(4,⟨none,some [0,3,8,9,10,11],.seq (.seq (.reg (some [0,3,8,9,10,11]) [Mv 20 11,Bc 21 .geq 3 20 .i64 0])
 (.cond (.tmp 21) .skip
 (.exit 0 (some [0,3,8,9,10]))))
 (.seq (.block 1 (.reg (some [0,3,8,9,10,11]) [Mv 24 0,Mv 25 11,Mv 26 10,Mv 27 8,Mv 28 3,Ca 29 95 [.tmp 24,.tmp 25,.tmp 26,.tmp 27,.tmp 28] (some (.tup []))]))
 (.reg (some [0,3,8,9,10,11]) [Mv 22 11,Bc 23 .sub 3 22 .i64 1,As 11 23]))⟩),(8,⟨some [0,3,8,9,12],some [0,3,8,9,12],.seq (.seq (.reg (some [0,3,8,9,12]) [Mv 32 12,Bc 33 .geq 3 32 .i64 0])
 (.cond (.tmp 33) .skip
 (.exit 2 (some []))))
 (.seq (.block 3 (.seq (.draw (some [0,3,8,9,12]) 20 [Dr (Mv 36 0) 0 [16,17,18,19],Dr (Mv 37 8) 1 [16,17,18,19],Dr (Mv 38 0) 2 [18,19],Dr (Mv 39 8) 3 [5,18,19],Dr (Mv 40 12) 4 [5,18,19],Dr (Bt 41 .add 3 39 40) 5 [18,19],Dr (Mv 42 0) 6 [10,11,16,17,18,19],Dr (Mv 43 8) 7 [9,10,11,16,17,18,19],Dr (Mv 44 12) 8 [9,10,11,16,17,18,19],Dr (Bt 45 .add 3 43 44) 9 [10,11,16,17,18,19],Dr (Ix 46 2 42 45) 10 [11,16,17,18,19],Db (Ld 47 46) 11 46 [16,17,18,19],Dr (Mv 48 0) 12 [14,15,16,17,18,19],Dr (Mv 49 8) 13 [14,15,16,17,18,19],Dr (Ix 50 2 48 49) 14 [15,16,17,18,19],Db (Ld 51 50) 15 50 [16,17,18,19],Dr (Ix 52 2 36 37) 16 [17,18,19],⟨⟨none,none,.op false (.store 2 (.tmp 52) (.tmp 47))⟩,17,.blk (.tmp 52),[18,19],true,true⟩,Dr (Ix 53 2 38 41) 18 [19],⟨⟨none,none,.op false (.store 2 (.tmp 53) (.tmp 51))⟩,19,.blk (.tmp 53),[],true,true⟩])
 (.reg (some [0,3,8,9,12]) [Mv 54 0,Mv 55 9,Mv 56 12,Mv 57 8,Mv 58 3,Ca 59 95 [.tmp 54,.tmp 55,.tmp 56,.tmp 57,.tmp 58] (some (.tup []))])))
 (.reg (some [0,3,8,9,12]) [Mv 34 12,Bc 35 .sub 3 34 .i64 1,As 12 35]))⟩)],
 []⟩
theorem r86_ok : resFun (progU ()) hint live 86 Try.f86 = some r86:=by kernel_rfl
def r87 : RFun :=
⟨.seq (.reg (some [0,1,2]) [Mv 13 2,Mv 14 1,Bt 15 .sub 3 13 14,As 8 15])
 (.seq (.reg (some [0,1,8]) [Mv 16 8,Bc 17 .geq 3 16 .i64 8])
 (.cond (.tmp 17) (.seq (.reg (some [0,1,8]) [Mv 18 8,Ro 19 (.convI .u64 (.tmp 18)),Ro 9 (.new 1 [.int .u64 0]),⟨none,none,.op false (.store 1 (.tmp 9) (.tmp 19))⟩])
 (.seq (.reg (some [0,1,8,9]) [Mv 20 8,Ca 21 96 [.tmp 20] (some (.val (.one (.int .u64)))),As 10 21])
 (.seq (.reg (some [0,1,8,9,10]) [Mv 22 1,Mv 23 8,Bc 24 .quo 3 23 .i64 4,Bc 25 .mul 3 24 .i64 2,Bt 26 .add 3 22 25,Bc 27 .sub 3 26 .i64 1,As 11 27])
 (.block 0 (.loop 5 (some [0,1,8,9,10,11]) (some [0,1,8,9,10,11]))))))
 .skip)),
 [],
 [(5,⟨some [0,1,8,9,10,11],some [0,1,8,9,10,11],.seq (.seq (.reg (some [0,1,8,9,10,11]) [Mv 28 11,Mv 29 1,Mv 30 8,Bc 31 .quo 3 30 .i64 4,Bc 32 .mul 3 31 .i64 2,Bt 33 .add 3 29 32,Bc 34 .add 3 33 .i64 1,Bt 35 .leq 3 28 34])
 (.cond (.tmp 35) .skip
 (.exit 0 (some []))))
 (.seq (.block 1 (.seq (.reg (some [0,1,8,9,10,11]) [Ca 38 97 [.tmp 9] (some (.val (.one (.int .u64)))),Mv 39 10,Bc 40 .sub 126 39 .u64 1,Bt 41 .and 126 38 40,Ro 42 (.convI .i64 (.tmp 41)),As 12 42])
 (.seq (.seq (.reg (some [0,1,8,9,10,11,12]) [Mv 43 12,Mv 44 8,Bt 45 .geq 3 43 44])
 (.cond (.tmp 45) (.reg (some [0,1,8,9,10,11,12]) [Mv 46 12,Mv 47 8,Bt 48 .sub 3 46 47,As 12 48])
 .skip))
 (.draw (some [0,1,8,9,10,11,12]) 20 [Dr (Mv 49 0) 0 [16,17,18,19],Dr (Mv 50 11) 1 [16,17,18,19],Dr (Mv 51 0) 2 [18,19],Dr (Mv 52 1) 3 [5,18,19],Dr (Mv 53 12) 4 [5,18,19],Dr (Bt 54 .add 3 52 53) 5 [18,19],Dr (Mv 55 0) 6 [10,11,16,17,18,19],Dr (Mv 56 1) 7 [9,10,11,16,17,18,19],Dr (Mv 57 12) 8 [9,10,11,16,17,18,19],Dr (Bt 58 .add 3 56 57) 9 [10,11,16,17,18,19],Dr (Ix 59 2 55 58) 10 [11,16,17,18,19],Db (Ld 60 59) 11 59 [16,17,18,19],Dr (Mv 61 0) 12 [14,15,16,17,18,19],Dr (Mv 62 11) 13 [14,15,16,17,18,19],Dr (Ix 63 2 61 62) 14 [15,16,17,18,19],Db (Ld 64 63) 15 63 [16,17,18,19],Dr (Ix 65 2 49 50) 16 [17,18,19],⟨⟨none,none,.op false (.store 2 (.tmp 65) (.tmp 60))⟩,17,.blk (.tmp 65),[18,19],true,true⟩,Dr (Ix 66 2 51 54) 18 [19],⟨⟨none,none,.op false (.store 2 (.tmp 66) (.tmp 64))⟩,19,.blk (.tmp 66),[],true,true⟩]))))
 (.reg (some [0,1,8,9,10,11]) [Mv 36 11,Bc 37 .add 3 36 .i64 1,As 11 37]))⟩)],
 []⟩
theorem r87_ok : resFun (progU ()) hint live 87 Try.f87 = some r87:=by kernel_rfl
def r88 : RFun :=
⟨.seq (.reg (some [0,1,2,3]) [Ac 8 0,Ac 9 0])
 (.seq (.reg (some [0,1,2,3]) [Mv 15 2,Mv 16 1,Bt 17 .sub 3 15 16,As 10 17])
 (.seq (.reg (some [0,1,3,10]) [Ro 11 (.new 1 [.int .i64 0])])
 (.seq (.reg (some [0,1,3,10,11]) [Mv 18 1,Mv 19 10,Bc 20 .quo 3 19 .i64 4,Bc 21 .mul 3 20 .i64 1,Bt 22 .add 3 18 21,As 12 22])
 (.seq (.reg (some [0,1,3,10,11,12]) [Mv 23 1,Mv 24 10,Bc 25 .quo 3 24 .i64 4,Bc 26 .mul 3 25 .i64 2,Bt 27 .add 3 23 26,As 13 27])
 (.seq (.reg (some [0,1,3,10,11,12,13]) [Mv 28 1,Mv 29 10,Bc 30 .quo 3 29 .i64 4,Bc 31 .mul 3 30 .i64 3,Bt 32 .add 3 28 31,As 14 32])
 (.seq (.seq (.reg (some [0,3,10,11,12,13,14]) [Mv 33 10,Bc 34 .geq 3 33 .i64 8])
 (.cond (.tmp 34) (.seq (.seq (.reg (some [0,3,10,11,12,13,14]) [Mv 35 10,Bc 36 .geq 3 35 .i64 50])
 (.cond (.tmp 36) (.seq (.reg (some [0,3,11,12,13,14]) [Mv 37 0,Mv 38 12,Mv 39 3,Ca 40 98 [.tmp 37,.tmp 38,.tmp 11,.tmp 39] (some (.val (.one (.int .i64)))),As 12 40])
 (.seq (.reg (some [0,3,11,12,13,14]) [Mv 41 0,Mv 42 13,Mv 43 3,Ca 44 98 [.tmp 41,.tmp 42,.tmp 11,.tmp 43] (some (.val (.one (.int .i64)))),As 13 44])
 (.reg (some [0,3,11,12,13,14]) [Mv 45 0,Mv 46 14,Mv 47 3,Ca 48 98 [.tmp 45,.tmp 46,.tmp 11,.tmp 47] (some (.val (.one (.int .i64)))),As 14 48])))
 .skip))
 (.reg (some [0,3,11,12,13,14]) [Mv 49 0,Mv 50 12,Mv 51 13,Mv 52 14,Mv 53 3,Ca 54 99 [.tmp 49,.tmp 50,.tmp 51,.tmp 52,.tmp 11,.tmp 53] (some (.val (.one (.int .i64)))),As 13 54]))
 .skip))
 (.seq (.reg (some [11,13]) [L1 55 11])
 (.block 0 (.seq (.reg (some [13,55]) [Bc 58 .eql 3 55 .i64 0,As 57 58])
 (.cond (.tmp 57) (.seq (.reg (some [13]) [Mv 59 13,As 8 59,Ac 9 1])
 .ret)
 (.seq (.reg (some [13,55]) [Bc 61 .eql 3 55 .i64 12,As 60 61])
 (.cond (.tmp 60) (.seq (.reg (some [13]) [Mv 62 13,As 8 62,Ac 9 2])
 .ret)
 (.seq (.reg (some [13]) [Mv 56 13,As 8 56,Ac 9 0])
 .ret))))))))))))),
 [.tmp 8,.tmp 9],
 [],
 []⟩
theorem r88_ok : resFun (progU ()) hint live 88 Try.f88 = some r88:=by kernel_rfl
def r89 : RFun :=
⟨.seq (.reg (some [0,1,2]) [Mv 10 1,As 8 10])
 (.seq (.reg (some [0,2,8]) [Mv 11 2,Bc 12 .sub 3 11 .i64 1,As 9 12])
 (.block 0 (.loop 2 (some [0,8,9]) (some [0,8,9])))),
 [],
 [(2,⟨some [0,8,9],some [0,8,9],.seq (.seq (.reg (some [0,8,9]) [Mv 13 8,Mv 14 9,Bt 15 .lss 3 13 14])
 (.cond (.tmp 15) .skip
 (.exit 0 (some []))))
 (.block 1 (.seq (.draw (some [0,8,9]) 16 [Dr (Mv 16 0) 0 [12,13,14,15],Dr (Mv 17 8) 1 [12,13,14,15],Dr (Mv 18 0) 2 [14,15],Dr (Mv 19 9) 3 [14,15],Dr (Mv 20 0) 4 [6,7,12,13,14,15],Dr (Mv 21 9) 5 [6,7,12,13,14,15],Dr (Ix 22 2 20 21) 6 [7,12,13,14,15],Db (Ld 23 22) 7 22 [12,13,14,15],Dr (Mv 24 0) 8 [10,11,12,13,14,15],Dr (Mv 25 8) 9 [10,11,12,13,14,15],Dr (Ix 26 2 24 25) 10 [11,12,13,14,15],Db (Ld 27 26) 11 26 [12,13,14,15],Dr (Ix 28 2 16 17) 12 [13,14,15],⟨⟨none,none,.op false (.store 2 (.tmp 28) (.tmp 23))⟩,13,.blk (.tmp 28),[14,15],true,true⟩,Dr (Ix 29 2 18 19) 14 [15],⟨⟨none,none,.op false (.store 2 (.tmp 29) (.tmp 27))⟩,15,.blk (.tmp 29),[],true,true⟩])
 (.seq (.reg (some [0,8,9]) [Mv 30 8,Bc 31 .add 3 30 .i64 1,As 8 31])
 (.reg (some [0,8,9]) [Mv 32 9,Bc 33 .sub 3 32 .i64 1,As 9 33]))))⟩)],
 []⟩
theorem r89_ok : resFun (progU ()) hint live 89 Try.f89 = some r89:=by kernel_rfl
def r90 : RFun :=
⟨.seq (.reg (some [0,1,2,3]) [Ol 8 (.assign (.const (.bool false)))])
 (.seq (.reg (some [0,1,2,3]) [Mv 13 1,Bc 14 .add 3 13 .i64 1,As 9 14])
 (.seq (.seq (.reg (some [0,1,2,3,9]) [Ac 10 0])
 (.block 0 (.loop 3 (some [0,1,2,3,9,10]) (some [0,1,2,3,9,10]))))
 (.seq (.reg (some []) [Ol 8 (.assign (.const (.bool false)))])
 .ret))),
 [.tmp 8],
 [(3,⟨some [0,1,2,3,9,10],some [0,1,2,3,9,10],.seq (.seq (.reg (some [0,1,2,3,9,10]) [Mv 15 10,Bc 16 .lss 3 15 .i64 5])
 (.cond (.tmp 16) .skip
 (.exit 0 (some []))))
 (.seq (.block 1 (.seq (.block 2 (.loop 5 (some [0,1,2,3,9,10]) (some [0,1,2,3,9,10])))
 (.seq (.seq (.reg (some [0,1,2,3,9,10]) [Mv 39 9,Mv 40 2,Bt 41 .eql 3 39 40])
 (.cond (.tmp 41) (.seq (.reg (some []) [Ol 8 (.assign (.const (.bool true)))])
 .ret)
 .skip))
 (.seq (.seq (.reg (some [0,1,2,3,9,10]) [Mv 42 2,Mv 43 1,Bt 44 .sub 3 42 43,Bc 45 .lss 3 44 .i64 50])
 (.cond (.tmp 45) (.seq (.reg (some []) [Ol 8 (.assign (.const (.bool false)))])
 .ret)
 .skip))
 (.seq (.draw (some [0,1,2,3,9,10]) 18 [Dr (Mv 46 0) 0 [14,15,16,17],Dr (Mv 47 9) 1 [14,15,16,17],Dr (Mv 48 0) 2 [16,17],Dr (Mv 49 9) 3 [4,16,17],Dr (Bc 50 .sub 3 49 .i64 1) 4 [16,17],Dr (Mv 51 0) 5 [8,9,14,15,16,17],Dr (Mv 52 9) 6 [7,8,9,14,15,16,17],Dr (Bc 53 .sub 3 52 .i64 1) 7 [8,9,14,15,16,17],Dr (Ix 54 2 51 53) 8 [9,14,15,16,17],Db (Ld 55 54) 9 54 [14,15,16,17],Dr (Mv 56 0) 10 [12,13,14,15,16,17],Dr (Mv 57 9) 11 [12,13,14,15,16,17],Dr (Ix 58 2 56 57) 12 [13,14,15,16,17],Db (Ld 59 58) 13 58 [14,15,16,17],Dr (Ix 60 2 46 47) 14 [15,16,17],⟨⟨none,none,.op false (.store 2 (.tmp 60) (.tmp 55))⟩,15,.blk (.tmp 60),[16,17],true,true⟩,Dr (Ix 61 2 48 50) 16 [17],⟨⟨none,none,.op false (.store 2 (.tmp 61) (.tmp 59))⟩,17,.blk (.tmp 61),[],true,true⟩])
 (.seq (.seq (.reg (some [0,1,2,3,9,10]) [Mv 62 9,Mv 63 1,Bt 64 .sub 3 62 63,Bc 65 .geq 3 64 .i64 2])
 (.cond (.tmp 65) (.seq (.reg (some [0,1,2,3,9,10]) [Mv 66 9,Bc 67 .sub 3 66 .i64 1,As 11 67])
 (.block 4 (.loop 14 (some [0,1,2,3,9,10,11]) (some [0,1,2,3,9,10,11]))))
 .skip))
 (.seq (.reg (some [0,1,2,3,9,10]) [Mv 101 2,Mv 102 9,Bt 103 .sub 3 101 102,Bc 104 .geq 3 103 .i64 2])
 (.cond (.tmp 104) (.seq (.reg (some [0,1,2,3,9,10]) [Mv 105 9,Bc 106 .add 3 105 .i64 1,As 12 106])
 (.block 6 (.loop 20 (some [0,1,2,3,9,10,12]) (some [0,1,2,3,9,10,12]))))
 .skip))))))))
 (.reg (some [0,1,2,3,9,10]) [Mv 17 10,Bc 18 .add 3 17 .i64 1,As 10 18]))⟩),(5,⟨some [0,1,2,3,9,10],some [0,1,2,3,9,10],.seq (.seq (.draw (some [0,1,2,3,9,10]) 18 [Dr (Mv 19 9) 0 [2,3,4,5,6,7,8,9,10,11,12,13,14,15,16,17],Dr (Mv 20 2) 1 [2,3,4,5,6,7,8,9,10,11,12,13,14,15,16,17],Dr (Bt 21 .lss 3 19 20) 2 [3,4,5,6,7,8,9,10,11,12,13,14,15,16,17],Dr (Mv 22 21) 3 [4,5,6,7,8,9,10,11,12,13,14,15,16,17],⟨⟨some 23,some (22,true),.op false (.old (.move (.tmp 3)))⟩,4,.none,[14,15,16,17],false,true⟩,⟨⟨some 24,some (22,true),.op false (.old (.move (.tmp 0)))⟩,5,.none,[7,8,14,15,16,17],false,true⟩,⟨⟨some 25,some (22,true),.op false (.old (.move (.tmp 9)))⟩,6,.none,[7,8,14,15,16,17],false,true⟩,⟨⟨some 26,some (22,true),.op false (.ixS 2 (.tmp 24) (.tmp 25))⟩,7,.none,[8,14,15,16,17],false,true⟩,⟨⟨some 27,some (22,true),.op false (.load 2 [.int .i64,.int .i64] (.tmp 26))⟩,8,.blk (.tmp 26),[14,15,16,17],false,true⟩,⟨⟨some 28,some (22,true),.op false (.old (.move (.tmp 0)))⟩,9,.none,[12,13,14,15,16,17],false,true⟩,⟨⟨some 29,some (22,true),.op false (.old (.move (.tmp 9)))⟩,10,.none,[11,12,13,14,15,16,17],false,true⟩,⟨⟨some 30,some (22,true),.op false (.old (.binOp .sub 3 (.tmp 29) (.const (.int .i64 1)) 3))⟩,11,.none,[12,13,14,15,16,17],false,true⟩,⟨⟨some 31,some (22,true),.op false (.ixS 2 (.tmp 28) (.tmp 30))⟩,12,.none,[13,14,15,16,17],false,true⟩,⟨⟨some 32,some (22,true),.op false (.load 2 [.int .i64,.int .i64] (.tmp 31))⟩,13,.blk (.tmp 31),[14,15,16,17],false,true⟩,⟨⟨some 33,some (22,true),.call (.tmp 23) [.tmp 27,.tmp 32] (some (.val (.one (.int .i64))))⟩,14,.all,[15,16,17],false,false⟩,⟨⟨some 34,some (22,true),.op false (.old (.binOp .lss 3 (.tmp 33) (.const (.int .i64 0)) 3))⟩,15,.none,[16,17],false,true⟩,⟨⟨some 35,some (22,true),.op false (.old (.unOp .not 4 (.tmp 34)))⟩,16,.none,[17],false,true⟩,Dr (Ol 36 (.pick (.tmp 22) (.tmp 35) (.const (.bool false)))) 17 []])
 (.cond (.tmp 36) .skip
 (.exit 2 (some [0,1,2,3,9,10]))))
 (.block 3 (.reg (some [0,1,2,3,9,10]) [Mv 37 9,Bc 38 .add 3 37 .i64 1,As 9 38]))⟩),(14,⟨some [0,1,2,3,9,10,11],some [0,1,2,3,9,10,11],.seq (.seq (.reg (some [0,1,2,3,9,10,11]) [Mv 68 11,Bc 69 .geq 3 68 .i64 1])
 (.cond (.tmp 69) .skip
 (.exit 4 (some [0,1,2,3,9,10]))))
 (.seq (.block 5 (.seq (.seq (.draw (some [0,1,2,3,9,10,11]) 13 [Dr (Mv 72 3) 0 [10,11,12],Dr (Mv 73 0) 1 [3,4,10,11,12],Dr (Mv 74 11) 2 [3,4,10,11,12],Dr (Ix 75 2 73 74) 3 [4,10,11,12],Db (Ld 76 75) 4 75 [10,11,12],Dr (Mv 77 0) 5 [8,9,10,11,12],Dr (Mv 78 11) 6 [7,8,9,10,11,12],Dr (Bc 79 .sub 3 78 .i64 1) 7 [8,9,10,11,12],Dr (Ix 80 2 77 79) 8 [9,10,11,12],Db (Ld 81 80) 9 80 [10,11,12],⟨⟨some 82,none,.call (.tmp 72) [.tmp 76,.tmp 81] (some (.val (.one (.int .i64))))⟩,10,.all,[11,12],false,false⟩,Dr (Bc 83 .lss 3 82 .i64 0) 11 [12],Dr (Ol 84 (.unOp .not 4 (.tmp 83))) 12 []])
 (.cond (.tmp 84) (.exit 4 (some [0,1,2,3,9,10]))
 .skip))
 (.draw (some [0,1,2,3,9,10,11]) 18 [Dr (Mv 85 0) 0 [14,15,16,17],Dr (Mv 86 11) 1 [14,15,16,17],Dr (Mv 87 0) 2 [16,17],Dr (Mv 88 11) 3 [4,16,17],Dr (Bc 89 .sub 3 88 .i64 1) 4 [16,17],Dr (Mv 90 0) 5 [8,9,14,15,16,17],Dr (Mv 91 11) 6 [7,8,9,14,15,16,17],Dr (Bc 92 .sub 3 91 .i64 1) 7 [8,9,14,15,16,17],Dr (Ix 93 2 90 92) 8 [9,14,15,16,17],Db (Ld 94 93) 9 93 [14,15,16,17],Dr (Mv 95 0) 10 [12,13,14,15,16,17],Dr (Mv 96 11) 11 [12,13,14,15,16,17],Dr (Ix 97 2 95 96) 12 [13,14,15,16,17],Db (Ld 98 97) 13 97 [14,15,16,17],Dr (Ix 99 2 85 86) 14 [15,16,17],⟨⟨none,none,.op false (.store 2 (.tmp 99) (.tmp 94))⟩,15,.blk (.tmp 99),[16,17],true,true⟩,Dr (Ix 100 2 87 89) 16 [17],⟨⟨none,none,.op false (.store 2 (.tmp 100) (.tmp 98))⟩,17,.blk (.tmp 100),[],true,true⟩])))
 (.reg (some [0,1,2,3,9,10,11]) [Mv 70 11,Bc 71 .sub 3 70 .i64 1,As 11 71]))⟩),(20,⟨some [0,1,2,3,9,10,12],some [0,1,2,3,9,10,12],.seq (.seq (.reg (some [0,1,2,3,9,10,12]) [Mv 107 12,Mv 108 2,Bt 109 .lss 3 107 108])
 (.cond (.tmp 109) .skip
 (.exit 6 (some [0,1,2,3,9,10]))))
 (.seq (.block 7 (.seq (.seq (.draw (some [0,1,2,3,9,10,12]) 13 [Dr (Mv 112 3) 0 [10,11,12],Dr (Mv 113 0) 1 [3,4,10,11,12],Dr (Mv 114 12) 2 [3,4,10,11,12],Dr (Ix 115 2 113 114) 3 [4,10,11,12],Db (Ld 116 115) 4 115 [10,11,12],Dr (Mv 117 0) 5 [8,9,10,11,12],Dr (Mv 118 12) 6 [7,8,9,10,11,12],Dr (Bc 119 .sub 3 118 .i64 1) 7 [8,9,10,11,12],Dr (Ix 120 2 117 119) 8 [9,10,11,12],Db (Ld 121 120) 9 120 [10,11,12],⟨⟨some 122,none,.call (.tmp 112) [.tmp 116,.tmp 121] (some (.val (.one (.int .i64))))⟩,10,.all,[11,12],false,false⟩,Dr (Bc 123 .lss 3 122 .i64 0) 11 [12],Dr (Ol 124 (.unOp .not 4 (.tmp 123))) 12 []])
 (.cond (.tmp 124) (.exit 6 (some [0,1,2,3,9,10]))
 .skip))
 (.draw (some [0,1,2,3,9,10,12]) 18 [Dr (Mv 125 0) 0 [14,15,16,17],Dr (Mv 126 12) 1 [14,15,16,17],Dr (Mv 127 0) 2 [16,17],Dr (Mv 128 12) 3 [4,16,17],Dr (Bc 129 .sub 3 128 .i64 1) 4 [16,17],Dr (Mv 130 0) 5 [8,9,14,15,16,17],Dr (Mv 131 12) 6 [7,8,9,14,15,16,17],Dr (Bc 132 .sub 3 131 .i64 1) 7 [8,9,14,15,16,17],Dr (Ix 133 2 130 132) 8 [9,14,15,16,17],Db (Ld 134 133) 9 133 [14,15,16,17],Dr (Mv 135 0) 10 [12,13,14,15,16,17],Dr (Mv 136 12) 11 [12,13,14,15,16,17],Dr (Ix 137 2 135 136) 12 [13,14,15,16,17],Db (Ld 138 137) 13 137 [14,15,16,17],Dr (Ix 139 2 125 126) 14 [15,16,17],⟨⟨none,none,.op false (.store 2 (.tmp 139) (.tmp 134))⟩,15,.blk (.tmp 139),[16,17],true,true⟩,Dr (Ix 140 2 127 129) 16 [17],⟨⟨none,none,.op false (.store 2 (.tmp 140) (.tmp 138))⟩,17,.blk (.tmp 140),[],true,true⟩])))
 (.reg (some [0,1,2,3,9,10,12]) [Mv 110 12,Bc 111 .add 3 110 .i64 1,As 12 111]))⟩)],
 []⟩
theorem r90_ok : resFun (progU ()) hint live 90 Try.f90 = some r90:=by kernel_rfl
def r91 : RFun :=
⟨.seq (.reg (some [0,1,2,3,4]) [Ac 10 0])
 (.seq (.draw (some [0,1,2,3,4]) 16 [Dr (Mv 13 0) 0 [12,13,14,15],Dr (Mv 14 1) 1 [12,13,14,15],Dr (Mv 15 0) 2 [14,15],Dr (Mv 16 3) 3 [14,15],Dr (Mv 17 0) 4 [6,7,12,13,14,15],Dr (Mv 18 3) 5 [6,7,12,13,14,15],Dr (Ix 19 2 17 18) 6 [7,12,13,14,15],Db (Ld 20 19) 7 19 [12,13,14,15],Dr (Mv 21 0) 8 [10,11,12,13,14,15],Dr (Mv 22 1) 9 [10,11,12,13,14,15],Dr (Ix 23 2 21 22) 10 [11,12,13,14,15],Db (Ld 24 23) 11 23 [12,13,14,15],Dr (Ix 25 2 13 14) 12 [13,14,15],⟨⟨none,none,.op false (.store 2 (.tmp 25) (.tmp 20))⟩,13,.blk (.tmp 25),[14,15],true,true⟩,Dr (Ix 26 2 15 16) 14 [15],⟨⟨none,none,.op false (.store 2 (.tmp 26) (.tmp 24))⟩,15,.blk (.tmp 26),[],true,true⟩])
 (.seq (.reg (some [0,1,2,4]) [Mv 27 1,Bc 28 .add 3 27 .i64 1,Mv 29 2,Bc 30 .sub 3 29 .i64 1,As 11 28,As 12 30])
 (.seq (.block 0 (.loop 1003 (some [0,1,4,11,12]) (some [0,1,4,11,12])))
 (.seq (.reg (some [11]) [Mv 89 11,As 10 89])
 .ret)))),
 [.tmp 10],
 [(1003,⟨some [0,1,4,11,12],some [0,1,4,11,12],.block 1 (.seq (.block 2 (.loop 3 (some [0,1,4,11,12]) (some [0,1,4,11,12])))
 (.seq (.block 4 (.loop 5 (some [0,1,4,11,12]) (some [0,1,4,11,12])))
 (.seq (.seq (.reg (some [0,1,4,11,12]) [Mv 68 11,Mv 69 12,Bt 70 .gtr 3 68 69])
 (.cond (.tmp 70) (.exit 0 (some [11]))
 .skip))
 (.seq (.draw (some [0,1,4,11,12]) 16 [Dr (Mv 71 0) 0 [12,13,14,15],Dr (Mv 72 11) 1 [12,13,14,15],Dr (Mv 73 0) 2 [14,15],Dr (Mv 74 12) 3 [14,15],Dr (Mv 75 0) 4 [6,7,12,13,14,15],Dr (Mv 76 12) 5 [6,7,12,13,14,15],Dr (Ix 77 2 75 76) 6 [7,12,13,14,15],Db (Ld 78 77) 7 77 [12,13,14,15],Dr (Mv 79 0) 8 [10,11,12,13,14,15],Dr (Mv 80 11) 9 [10,11,12,13,14,15],Dr (Ix 81 2 79 80) 10 [11,12,13,14,15],Db (Ld 82 81) 11 81 [12,13,14,15],Dr (Ix 83 2 71 72) 12 [13,14,15],⟨⟨none,none,.op false (.store 2 (.tmp 83) (.tmp 78))⟩,13,.blk (.tmp 83),[14,15],true,true⟩,Dr (Ix 84 2 73 74) 14 [15],⟨⟨none,none,.op false (.store 2 (.tmp 84) (.tmp 82))⟩,15,.blk (.tmp 84),[],true,true⟩])
 (.seq (.reg (some [0,1,4,11,12]) [Mv 85 11,Bc 86 .add 3 85 .i64 1,As 11 86])
 (.reg (some [0,1,4,11,12]) [Mv 87 12,Bc 88 .sub 3 87 .i64 1,As 12 88]))))))⟩),(3,⟨some [0,1,4,11,12],some [0,1,4,11,12],.seq (.seq (.draw (some [0,1,4,11,12]) 17 [Dr (Mv 31 11) 0 [2,3,4,5,6,7,8,9,10,11,12,13,14,15,16],Dr (Mv 32 12) 1 [2,3,4,5,6,7,8,9,10,11,12,13,14,15,16],Dr (Bt 33 .leq 3 31 32) 2 [3,4,5,6,7,8,9,10,11,12,13,14,15,16],Dr (Mv 34 33) 3 [4,5,6,7,8,9,10,11,12,13,14,15,16],⟨⟨some 35,some (34,true),.op false (.old (.move (.tmp 4)))⟩,4,.none,[13,14,15,16],false,true⟩,⟨⟨some 36,some (34,true),.op false (.old (.move (.tmp 0)))⟩,5,.none,[7,8,13,14,15,16],false,true⟩,⟨⟨some 37,some (34,true),.op false (.old (.move (.tmp 1)))⟩,6,.none,[7,8,13,14,15,16],false,true⟩,⟨⟨some 38,some (34,true),.op false (.ixS 2 (.tmp 36) (.tmp 37))⟩,7,.none,[8,13,14,15,16],false,true⟩,⟨⟨some 39,some (34,true),.op false (.load 2 [.int .i64,.int .i64] (.tmp 38))⟩,8,.blk (.tmp 38),[13,14,15,16],false,true⟩,⟨⟨some 40,some (34,true),.op false (.old (.move (.tmp 0)))⟩,9,.none,[11,12,13,14,15,16],false,true⟩,⟨⟨some 41,some (34,true),.op false (.old (.move (.tmp 11)))⟩,10,.none,[11,12,13,14,15,16],false,true⟩,⟨⟨some 42,some (34,true),.op false (.ixS 2 (.tmp 40) (.tmp 41))⟩,11,.none,[12,13,14,15,16],false,true⟩,⟨⟨some 43,some (34,true),.op false (.load 2 [.int .i64,.int .i64] (.tmp 42))⟩,12,.blk (.tmp 42),[13,14,15,16],false,true⟩,⟨⟨some 44,some (34,true),.call (.tmp 35) [.tmp 39,.tmp 43] (some (.val (.one (.int .i64))))⟩,13,.all,[14,15,16],false,false⟩,⟨⟨some 45,some (34,true),.op false (.old (.binOp .lss 3 (.tmp 44) (.const (.int .i64 0)) 3))⟩,14,.none,[15,16],false,true⟩,⟨⟨some 46,some (34,true),.op false (.old (.unOp .not 4 (.tmp 45)))⟩,15,.none,[16],false,true⟩,Dr (Ol 47 (.pick (.tmp 34) (.tmp 46) (.const (.bool false)))) 16 []])
 (.cond (.tmp 47) .skip
 (.exit 2 (some [0,1,4,11,12]))))
 (.block 3 (.reg (some [0,1,4,11,12]) [Mv 48 11,Bc 49 .add 3 48 .i64 1,As 11 49]))⟩),(5,⟨some [0,1,4,11,12],some [0,1,4,11,12],.seq (.seq (.draw (some [0,1,4,11,12]) 16 [Dr (Mv 50 11) 0 [2,3,4,5,6,7,8,9,10,11,12,13,14,15],Dr (Mv 51 12) 1 [2,3,4,5,6,7,8,9,10,11,12,13,14,15],Dr (Bt 52 .leq 3 50 51) 2 [3,4,5,6,7,8,9,10,11,12,13,14,15],Dr (Mv 53 52) 3 [4,5,6,7,8,9,10,11,12,13,14,15],⟨⟨some 54,some (53,true),.op false (.old (.move (.tmp 4)))⟩,4,.none,[13,14,15],false,true⟩,⟨⟨some 55,some (53,true),.op false (.old (.move (.tmp 0)))⟩,5,.none,[7,8,13,14,15],false,true⟩,⟨⟨some 56,some (53,true),.op false (.old (.move (.tmp 1)))⟩,6,.none,[7,8,13,14,15],false,true⟩,⟨⟨some 57,some (53,true),.op false (.ixS 2 (.tmp 55) (.tmp 56))⟩,7,.none,[8,13,14,15],false,true⟩,⟨⟨some 58,some (53,true),.op false (.load 2 [.int .i64,.int .i64] (.tmp 57))⟩,8,.blk (.tmp 57),[13,14,15],false,true⟩,⟨⟨some 59,some (53,true),.op false (.old (.move (.tmp 0)))⟩,9,.none,[11,12,13,14,15],false,true⟩,⟨⟨some 60,some (53,true),.op false (.old (.move (.tmp 12)))⟩,10,.none,[11,12,13,14,15],false,true⟩,⟨⟨some 61,some (53,true),.op false (.ixS 2 (.tmp 59) (.tmp 60))⟩,11,.none,[12,13,14,15],false,true⟩,⟨⟨some 62,some (53,true),.op false (.load 2 [.int .i64,.int .i64] (.tmp 61))⟩,12,.blk (.tmp 61),[13,14,15],false,true⟩,⟨⟨some 63,some (53,true),.call (.tmp 54) [.tmp 58,.tmp 62] (some (.val (.one (.int .i64))))⟩,13,.all,[14,15],false,false⟩,⟨⟨some 64,some (53,true),.op false (.old (.binOp .lss 3 (.tmp 63) (.const (.int .i64 0)) 3))⟩,14,.none,[15],false,true⟩,Dr (Ol 65 (.pick (.tmp 53) (.tmp 64) (.const (.bool false)))) 15 []])
 (.cond (.tmp 65) .skip
 (.exit 4 (some [0,1,4,11,12]))))
 (.block 5 (.reg (some [0,1,4,11,12]) [Mv 66 12,Bc 67 .sub 3 66 .i64 1,As 12 67]))⟩)],
 []⟩
theorem r91_ok : resFun (progU ()) hint live 91 Try.f91 = some r91:=by kernel_rfl
def r92 : RFun :=
⟨.seq (.reg (some [0,1,2,3,4]) [Ac 10 0,Ol 11 (.assign (.const (.bool false)))])
 (.seq (.draw (some [0,1,2,3,4]) 16 [Dr (Mv 14 0) 0 [12,13,14,15],Dr (Mv 15 1) 1 [12,13,14,15],Dr (Mv 16 0) 2 [14,15],Dr (Mv 17 3) 3 [14,15],Dr (Mv 18 0) 4 [6,7,12,13,14,15],Dr (Mv 19 3) 5 [6,7,12,13,14,15],Dr (Ix 20 2 18 19) 6 [7,12,13,14,15],Db (Ld 21 20) 7 20 [12,13,14,15],Dr (Mv 22 0) 8 [10,11,12,13,14,15],Dr (Mv 23 1) 9 [10,11,12,13,14,15],Dr (Ix 24 2 22 23) 10 [11,12,13,14,15],Db (Ld 25 24) 11 24 [12,13,14,15],Dr (Ix 26 2 14 15) 12 [13,14,15],⟨⟨none,none,.op false (.store 2 (.tmp 26) (.tmp 21))⟩,13,.blk (.tmp 26),[14,15],true,true⟩,Dr (Ix 27 2 16 17) 14 [15],⟨⟨none,none,.op false (.store 2 (.tmp 27) (.tmp 25))⟩,15,.blk (.tmp 27),[],true,true⟩])
 (.seq (.reg (some [0,1,2,4]) [Mv 28 1,Bc 29 .add 3 28 .i64 1,Mv 30 2,Bc 31 .sub 3 30 .i64 1,As 12 29,As 13 31])
 (.seq (.block 0 (.loop 3 (some [0,1,4,12,13]) (some [0,1,4,12,13])))
 (.seq (.block 2 (.loop 5 (some [0,1,4,12,13]) (some [0,1,4,12,13])))
 (.seq (.seq (.reg (some [0,1,4,12,13]) [Mv 69 12,Mv 70 13,Bt 71 .gtr 3 69 70])
 (.cond (.tmp 71) (.seq (.draw (some [0,1,13]) 16 [Dr (Mv 72 0) 0 [12,13,14,15],Dr (Mv 73 13) 1 [12,13,14,15],Dr (Mv 74 0) 2 [14,15],Dr (Mv 75 1) 3 [14,15],Dr (Mv 76 0) 4 [6,7,12,13,14,15],Dr (Mv 77 1) 5 [6,7,12,13,14,15],Dr (Ix 78 2 76 77) 6 [7,12,13,14,15],Db (Ld 79 78) 7 78 [12,13,14,15],Dr (Mv 80 0) 8 [10,11,12,13,14,15],Dr (Mv 81 13) 9 [10,11,12,13,14,15],Dr (Ix 82 2 80 81) 10 [11,12,13,14,15],Db (Ld 83 82) 11 82 [12,13,14,15],Dr (Ix 84 2 72 73) 12 [13,14,15],⟨⟨none,none,.op false (.store 2 (.tmp 84) (.tmp 79))⟩,13,.blk (.tmp 84),[14,15],true,true⟩,Dr (Ix 85 2 74 75) 14 [15],⟨⟨none,none,.op false (.store 2 (.tmp 85) (.tmp 83))⟩,15,.blk (.tmp 85),[],true,true⟩])
 (.seq (.reg (some [13]) [Mv 86 13,As 10 86,Ol 11 (.assign (.const (.bool true)))])
 .ret))
 .skip))
 (.seq (.draw (some [0,1,4,12,13]) 16 [Dr (Mv 87 0) 0 [12,13,14,15],Dr (Mv 88 12) 1 [12,13,14,15],Dr (Mv 89 0) 2 [14,15],Dr (Mv 90 13) 3 [14,15],Dr (Mv 91 0) 4 [6,7,12,13,14,15],Dr (Mv 92 13) 5 [6,7,12,13,14,15],Dr (Ix 93 2 91 92) 6 [7,12,13,14,15],Db (Ld 94 93) 7 93 [12,13,14,15],Dr (Mv 95 0) 8 [10,11,12,13,14,15],Dr (Mv 96 12) 9 [10,11,12,13,14,15],Dr (Ix 97 2 95 96) 10 [11,12,13,14,15],Db (Ld 98 97) 11 97 [12,13,14,15],Dr (Ix 99 2 87 88) 12 [13,14,15],⟨⟨none,none,.op false (.store 2 (.tmp 99) (.tmp 94))⟩,13,.blk (.tmp 99),[14,15],true,true⟩,Dr (Ix 100 2 89 90) 14 [15],⟨⟨none,none,.op false (.store 2 (.tmp 100) (.tmp 98))⟩,15,.blk (.tmp 100),[],true,true⟩])
 (.seq (.reg (some [0,1,4,12,13]) [Mv 101 12,Bc 102 .add 3 101 .i64 1,As 12 102])
 (.seq (.reg (some [0,1,4,12,13]) [Mv 103 13,Bc 104 .sub 3 103 .i64 1,As 13 104])
 (.seq (.block 4 (.loop 1013 (some [0,1,4,12,13]) (some [0,1,4,12,13])))
 (.seq (.draw (some [0,1,13]) 16 [Dr (Mv 163 0) 0 [12,13,14,15],Dr (Mv 164 13) 1 [12,13,14,15],Dr (Mv 165 0) 2 [14,15],Dr (Mv 166 1) 3 [14,15],Dr (Mv 167 0) 4 [6,7,12,13,14,15],Dr (Mv 168 1) 5 [6,7,12,13,14,15],Dr (Ix 169 2 167 168) 6 [7,12,13,14,15],Db (Ld 170 169) 7 169 [12,13,14,15],Dr (Mv 171 0) 8 [10,11,12,13,14,15],Dr (Mv 172 13) 9 [10,11,12,13,14,15],Dr (Ix 173 2 171 172) 10 [11,12,13,14,15],Db (Ld 174 173) 11 173 [12,13,14,15],Dr (Ix 175 2 163 164) 12 [13,14,15],⟨⟨none,none,.op false (.store 2 (.tmp 175) (.tmp 170))⟩,13,.blk (.tmp 175),[14,15],true,true⟩,Dr (Ix 176 2 165 166) 14 [15],⟨⟨none,none,.op false (.store 2 (.tmp 176) (.tmp 174))⟩,15,.blk (.tmp 176),[],true,true⟩])
 (.seq (.reg (some [13]) [Mv 177 13,As 10 177,Ol 11 (.assign (.const (.bool false)))])
 .ret))))))))))),
 [.tmp 10,.tmp 11],
 [(3,⟨some [0,1,4,12,13],some [0,1,4,12,13],.seq (.seq (.draw (some [0,1,4,12,13]) 16 [Dr (Mv 32 12) 0 [2,3,4,5,6,7,8,9,10,11,12,13,14,15],Dr (Mv 33 13) 1 [2,3,4,5,6,7,8,9,10,11,12,13,14,15],Dr (Bt 34 .leq 3 32 33) 2 [3,4,5,6,7,8,9,10,11,12,13,14,15],Dr (Mv 35 34) 3 [4,5,6,7,8,9,10,11,12,13,14,15],⟨⟨some 36,some (35,true),.op false (.old (.move (.tmp 4)))⟩,4,.none,[13,14,15],false,true⟩,⟨⟨some 37,some (35,true),.op false (.old (.move (.tmp 0)))⟩,5,.none,[7,8,13,14,15],false,true⟩,⟨⟨some 38,some (35,true),.op false (.old (.move (.tmp 12)))⟩,6,.none,[7,8,13,14,15],false,true⟩,⟨⟨some 39,some (35,true),.op false (.ixS 2 (.tmp 37) (.tmp 38))⟩,7,.none,[8,13,14,15],false,true⟩,⟨⟨some 40,some (35,true),.op false (.load 2 [.int .i64,.int .i64] (.tmp 39))⟩,8,.blk (.tmp 39),[13,14,15],false,true⟩,⟨⟨some 41,some (35,true),.op false (.old (.move (.tmp 0)))⟩,9,.none,[11,12,13,14,15],false,true⟩,⟨⟨some 42,some (35,true),.op false (.old (.move (.tmp 1)))⟩,10,.none,[11,12,13,14,15],false,true⟩,⟨⟨some 43,some (35,true),.op false (.ixS 2 (.tmp 41) (.tmp 42))⟩,11,.none,[12,13,14,15],false,true⟩,⟨⟨some 44,some (35,true),.op false (.load 2 [.int .i64,.int .i64] (.tmp 43))⟩,12,.blk (.tmp 43),[13,14,15],false,true⟩,⟨⟨some 45,some (35,true),.call (.tmp 36) [.tmp 40,.tmp 44] (some (.val (.one (.int .i64))))⟩,13,.all,[14,15],false,false⟩,⟨⟨some 46,some (35,true),.op false (.old (.binOp .lss 3 (.tmp 45) (.const (.int .i64 0)) 3))⟩,14,.none,[15],false,true⟩,Dr (Ol 47 (.pick (.tmp 35) (.tmp 46) (.const (.bool false)))) 15 []])
 (.cond (.tmp 47) .skip
 (.exit 0 (some [0,1,4,12,13]))))
 (.block 1 (.reg (some [0,1,4,12,13]) [Mv 48 12,Bc 49 .add 3 48 .i64 1,As 12 49]))⟩),(5,⟨some [0,1,4,12,13],some [0,1,4,12,13],.seq (.seq (.draw (some [0,1,4,12,13]) 17 [Dr (Mv 50 12) 0 [2,3,4,5,6,7,8,9,10,11,12,13,14,15,16],Dr (Mv 51 13) 1 [2,3,4,5,6,7,8,9,10,11,12,13,14,15,16],Dr (Bt 52 .leq 3 50 51) 2 [3,4,5,6,7,8,9,10,11,12,13,14,15,16],Dr (Mv 53 52) 3 [4,5,6,7,8,9,10,11,12,13,14,15,16],⟨⟨some 54,some (53,true),.op false (.old (.move (.tmp 4)))⟩,4,.none,[13,14,15,16],false,true⟩,⟨⟨some 55,some (53,true),.op false (.old (.move (.tmp 0)))⟩,5,.none,[7,8,13,14,15,16],false,true⟩,⟨⟨some 56,some (53,true),.op false (.old (.move (.tmp 13)))⟩,6,.none,[7,8,13,14,15,16],false,true⟩,⟨⟨some 57,some (53,true),.op false (.ixS 2 (.tmp 55) (.tmp 56))⟩,7,.none,[8,13,14,15,16],false,true⟩,⟨⟨some 58,some (53,true),.op false (.load 2 [.int .i64,.int .i64] (.tmp 57))⟩,8,.blk (.tmp 57),[13,14,15,16],false,true⟩,⟨⟨some 59,some (53,true),.op false (.old (.move (.tmp 0)))⟩,9,.none,[11,12,13,14,15,16],false,true⟩,⟨⟨some 60,some (53,true),.op false (.old (.move (.tmp 1)))⟩,10,.none,[11,12,13,14,15,16],false,true⟩,⟨⟨some 61,some (53,true),.op false (.ixS 2 (.tmp 59) (.tmp 60))⟩,11,.none,[12,13,14,15,16],false,true⟩,⟨⟨some 62,some (53,true),.op false (.load 2 [.int .i64,.int .i64] (.tmp 61))⟩,12,.blk (.tmp 61),[13,14,15,16],false,true⟩,⟨⟨some 63,some (53,true),.call (.tmp 54) [.tmp 58,.tmp 62] (some (.val (.one (.int .i64))))⟩,13,.all,[14,15,16],false,false⟩,⟨⟨some 64,some (53,true),.op false (.old (.binOp .lss 3 (.tmp 63) (.const (.int .i64 0)) 3))⟩,14,.none,[15,16],false,true⟩,⟨⟨some 65,some (53,true),.op false (.old (.unOp .not 4 (.tmp 64)))⟩,15,.none,[16],false,true⟩,Dr (Ol 66 (.pick (.tmp 53) (.tmp 65) (.const (.bool false)))) 16 []])
 (.cond (.tmp 66) .skip
 (.exit 2 (some [0,1,4,12,13]))))
 (.block 3 (.reg (some [0,1,4,12,13]) [Mv 67 13,Bc 68 .sub 3 67 .i64 1,As 13 68]))⟩),(1013,⟨some [0,1,4,12,13],some [0,1,4,12,13],.block 5 (.seq (.block 6 (.loop 13 (some [0,1,4,12,13]) (some [0,1,4,12,13])))
 (.seq (.block 8 (.loop 15 (some [0,1,4,12,13]) (some [0,1,4,12,13])))
 (.seq (.seq (.reg (some [0,1,4,12,13]) [Mv 142 12,Mv 143 13,Bt 144 .gtr 3 142 143])
 (.cond (.tmp 144) (.exit 4 (some [0,1,13]))
 .skip))
 (.seq (.draw (some [0,1,4,12,13]) 16 [Dr (Mv 145 0) 0 [12,13,14,15],Dr (Mv 146 12) 1 [12,13,14,15],Dr (Mv 147 0) 2 [14,15],Dr (Mv 148 13) 3 [14,15],Dr (Mv 149 0) 4 [6,7,12,13,14,15],Dr (Mv 150 13) 5 [6,7,12,13,14,15],Dr (Ix 151 2 149 150) 6 [7,12,13,14,15],Db (Ld 152 151) 7 151 [12,13,14,15],Dr (Mv 153 0) 8 [10,11,12,13,14,15],Dr (Mv 154 12) 9 [10,11,12,13,14,15],Dr (Ix 155 2 153 154) 10 [11,12,13,14,15],Db (Ld 156 155) 11 155 [12,13,14,15],Dr (Ix 157 2 145 146) 12 [13,14,15],⟨⟨none,none,.op false (.store 2 (.tmp 157) (.tmp 152))⟩,13,.blk (.tmp 157),[14,15],true,true⟩,Dr (Ix 158 2 147 148) 14 [15],⟨⟨none,none,.op false (.store 2 (.tmp 158) (.tmp 156))⟩,15,.blk (.tmp 158),[],true,true⟩])
 (.seq (.reg (some [0,1,4,12,13]) [Mv 159 12,Bc 160 .add 3 159 .i64 1,As 12 160])
 (.reg (some [0,1,4,12,13]) [Mv 161 13,Bc 162 .sub 3 161 .i64 1,As 13 162]))))))⟩),(13,⟨some [0,1,4,12,13],some [0,1,4,12,13],.seq (.seq (.draw (some [0,1,4,12,13]) 16 [Dr (Mv 105 12) 0 [2,3,4,5,6,7,8,9,10,11,12,13,14,15],Dr (Mv 106 13) 1 [2,3,4,5,6,7,8,9,10,11,12,13,14,15],Dr (Bt 107 .leq 3 105 106) 2 [3,4,5,6,7,8,9,10,11,12,13,14,15],Dr (Mv 108 107) 3 [4,5,6,7,8,9,10,11,12,13,14,15],⟨⟨some 109,some (108,true),.op false (.old (.move (.tmp 4)))⟩,4,.none,[13,14,15],false,true⟩,⟨⟨some 110,some (108,true),.op false (.old (.move (.tmp 0)))⟩,5,.none,[7,8,13,14,15],false,true⟩,⟨⟨some 111,some (108,true),.op false (.old (.move (.tmp 12)))⟩,6,.none,[7,8,13,14,15],false,true⟩,⟨⟨some 112,some (108,true),.op false (.ixS 2 (.tmp 110) (.tmp 111))⟩,7,.none,[8,13,14,15],false,true⟩,⟨⟨some 113,some (108,true),.op false (.load 2 [.int .i64,.int .i64] (.tmp 112))⟩,8,.blk (.tmp 112),[13,14,15],false,true⟩,⟨⟨some 114,some (108,true),.op false (.old (.move (.tmp 0)))⟩,9,.none,[11,12,13,14,15],false,true⟩,⟨⟨some 115,some (108,true),.op false (.old (.move (.tmp 1)))⟩,10,.none,[11,12,13,14,15],false,true⟩,⟨⟨some 116,some (108,true),.op false (.ixS 2 (.tmp 114) (.tmp 115))⟩,11,.none,[12,13,14,15],false,true⟩,⟨⟨some 117,some (108,true),.op false (.load 2 [.int .i64,.int .i64] (.tmp 116))⟩,12,.blk (.tmp 116),[13,14,15],false,true⟩,⟨⟨some 118,some (108,true),.call (.tmp 109) [.tmp 113,.tmp 117] (some (.val (.one (.int .i64))))⟩,13,.all,[14,15],false,false⟩,⟨⟨some 119,some (108,true),.op false (.old (.binOp .lss 3 (.tmp 118) (.const (.int .i64 0)) 3))⟩,14,.none,[15],false,true⟩,Dr (Ol 120 (.pick (.tmp 108) (.tmp 119) (.const (.bool false)))) 15 []])
 (.cond (.tmp 120) .skip
 (.exit 6 (some [0,1,4,12,13]))))
 (.block 7 (.reg (some [0,1,4,12,13]) [Mv 121 12,Bc 122 .add 3 121 .i64 1,As 12 122]))⟩),(15,⟨some [0,1,4,12,13],some [0,1,4,12,13],.seq (.seq (.draw (some [0,1,4,12,13]) 17 [Dr (Mv 123 12) 0 [2,3,4,5,6,7,8,9,10,11,12,13,14,15,16],Dr (Mv 124 13) 1 [2,3,4,5,6,7,8,9,10,11,12,13,14,15,16],Dr (Bt 125 .leq 3 123 124) 2 [3,4,5,6,7,8,9,10,11,12,13,14,15,16],Dr (Mv 126 125) 3 [4,5,6,7,8,9,10,11,12,13,14,15,16],⟨⟨some 127,some (126,true),.op false (.old (.move (.tmp 4)))⟩,4,.none,[13,14,15,16],false,true⟩,⟨⟨some 128,some (126,true),.op false (.old (.move (.tmp 0)))⟩,5,.none,[7,8,13,14,15,16],false,true⟩,⟨⟨some 129,some (126,true),.op false (.old (.move (.tmp 13)))⟩,6,.none,[7,8,13,14,15,16],false,true⟩,⟨⟨some 130,some (126,true),.op false (.ixS 2 (.tmp 128) (.tmp 129))⟩,7,.none,[8,13,14,15,16],false,true⟩,⟨⟨some 131,some (126,true),.op false (.load 2 [.int .i64,.int .i64] (.tmp 130))⟩,8,.blk (.tmp 130),[13,14,15,16],false,true⟩,⟨⟨some 132,some (126,true),.op false (.old (.move (.tmp 0)))⟩,9,.none,[11,12,13,14,15,16],false,true⟩,⟨⟨some 133,some (126,true),.op false (.old (.move (.tmp 1)))⟩,10,.none,[11,12,13,14,15,16],false,true⟩,⟨⟨some 134,some (126,true),.op false (.ixS 2 (.tmp 132) (.tmp 133))⟩,11,.none,[12,13,14,15,16],false,true⟩,⟨⟨some 135,some (126,true),.op false (.load 2 [.int .i64,.int .i64] (.tmp 134))⟩,12,.blk (.tmp 134),[13,14,15,16],false,true⟩,⟨⟨some 136,some (126,true),.call (.tmp 127) [.tmp 131,.tmp 135] (some (.val (.one (.int .i64))))⟩,13,.all,[14,15,16],false,false⟩,⟨⟨some 137,some (126,true),.op false (.old (.binOp .lss 3 (.tmp 136) (.const (.int .i64 0)) 3))⟩,14,.none,[15,16],false,true⟩,⟨⟨some 138,some (126,true),.op false (.old (.unOp .not 4 (.tmp 137)))⟩,15,.none,[16],false,true⟩,Dr (Ol 139 (.pick (.tmp 126) (.tmp 138) (.const (.bool false)))) 16 []])
 (.cond (.tmp 139) .skip
 (.exit 8 (some [0,1,4,12,13]))))
 (.block 9 (.reg (some [0,1,4,12,13]) [Mv 140 13,Bc 141 .sub 3 140 .i64 1,As 13 141]))⟩)],
 []⟩
theorem r92_ok : resFun (progU ()) hint live 92 Try.f92 = some r92:=by kernel_rfl
end Go.Proofs.Ytmkiclinllifiaa
