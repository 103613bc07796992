import Derived.Test.YtkbgkjlgnmlghaaGreatSeat0
import Derived.Test.YtkbgkjlgnmlghaaGreatSymS
set_option linter.unusedSimpArgs false
set_option linter.unusedVariables false
namespace Go.Proofs.YtkbgkjlgnmlghaaGreat
open Go.Sim
set_option maxRecDepth 100000
def r74 : RFun :=
⟨.seq (.reg (some [0,1]) [⟨some 2,none,.op true (.box 2 (.tmp 0))⟩,⟨some 3,none,.op true (.box 2 (.tmp 1))⟩,⟨some 4,none,.op true (.new 2 [.int .i64 0,.int .i64 0])⟩,Ac 5 0])
 (.seq (.draw (some [2,3,4]) 8 [Dr (Fa 22 1 2) 0 [1,2,5,6,7],Db (L1 23 22) 1 22 [2,5,6,7],Dr (Fa 25 1 3) 3 [4,5,6,7],Db (L1 26 25) 4 25 [5,6,7],⟨Ca 24 71 [.tmp 23] (some (.val (.one (.int .u64)))),2,.all,[5,6,7],false,false⟩,⟨Ca 27 71 [.tmp 26] (some (.val (.one (.int .u64)))),5,.all,[6,7],false,false⟩,Dr (As 6 24) 6 [7],Dr (As 7 27) 7 []])
 (.seq (.reg (some [2,3,4,6,7]) [Mv 28 6,Mv 29 7,Ca 30 70 [.tmp 28,.tmp 29] (some (.val (.one (.int .u64)))),As 8 30])
 (.seq (.draw (some [2,3,4,6,7,8]) 12 [Dr (Fa 32 0 2) 0 [1,2,6,7,8,9,10,11],Db (L1 33 32) 1 32 [2,6,7,8,9,10,11],Dr (Mv 35 7) 3 [5,6,7,8,9,10,11],Dr (Mv 36 8) 4 [5,6,7,8,9,10,11],Dr (Bt 37 .quo 100 35 36) 5 [6,7,8,9,10,11],⟨Ca 34 71 [.tmp 33] (some (.val (.one (.int .u64)))),2,.all,[6,7,8,9,10,11],false,false⟩,⟨Ca 38 75 [.tmp 34,.tmp 37] (some (.tup [.one (.int .u64),.one (.int .u64)])),6,.all,[7,8,9,10,11],false,false⟩,Dr (Mv 31 38) 7 [8,9,10,11],Dr (Ex 39 31 0) 8 [10,11],Dr (Ex 40 31 1) 9 [11],Dr (As 9 39) 10 [11],Dr (As 10 40) 11 []])
 (.seq (.draw (some [2,3,4,6,7,8,9,10]) 12 [Dr (Fa 42 0 3) 0 [1,2,6,7,8,9,10,11],Db (L1 43 42) 1 42 [2,6,7,8,9,10,11],Dr (Mv 45 6) 3 [5,6,7,8,9,10,11],Dr (Mv 46 8) 4 [5,6,7,8,9,10,11],Dr (Bt 47 .quo 100 45 46) 5 [6,7,8,9,10,11],⟨Ca 44 71 [.tmp 43] (some (.val (.one (.int .u64)))),2,.all,[6,7,8,9,10,11],false,false⟩,⟨Ca 48 75 [.tmp 44,.tmp 47] (some (.tup [.one (.int .u64),.one (.int .u64)])),6,.all,[7,8,9,10,11],false,false⟩,Dr (Mv 41 48) 7 [8,9,10,11],Dr (Ex 49 41 0) 8 [10,11],Dr (Ex 50 41 1) 9 [11],Dr (As 11 49) 10 [11],Dr (As 12 50) 11 []])
 (.seq (.reg (some [2,3,4,6,7,8,9,10,11,12]) [Fa 51 0 2,L1 52 51,Bc 53 .lss 2 52 .i64 0,As 13 53])
 (.seq (.reg (some [2,3,4,6,7,8,9,10,11,12,13]) [Ol 14 (.assign (.const (.int .u64 0))),Ol 15 (.assign (.const (.int .u64 0))),Ol 16 (.assign (.const (.int .u64 0)))])
 (.seq (.block 0 (.seq (.reg (some [2,3,4,6,7,8,9,10,11,12,13]) [Fa 71 0 2,L1 72 71,Bc 73 .lss 2 72 .i64 0,Fa 74 0 3,L1 75 74,Bc 76 .lss 2 75 .i64 0,Bt 77 .eql 4 73 76,As 70 77])
 (.cond (.tmp 70) (.seq (.reg (some [4,6,7,8,9,10,11,12,13]) [Mv 79 10,Mv 80 12,Ca 81 93 [.tmp 79,.tmp 80,.const (.int .u64 0)] (some (.tup [.one (.int .u64),.one (.int .u64)])),Mv 78 81,Ex 82 78 0,Ex 83 78 1,As 15 82,As 16 83])
 (.reg (some [4,6,7,8,9,11,13,15,16]) [Mv 85 9,Mv 86 11,Mv 87 16,Ca 88 93 [.tmp 85,.tmp 86,.tmp 87] (some (.tup [.one (.int .u64),.one (.int .u64)])),Mv 84 88,Ex 89 84 0,Ex 90 84 1,As 14 89]))
 (.seq (.reg (some [3,4,6,7,8,9,10,11,12,13]) [Mv 92 9,Mv 93 10,Mv 94 11,Mv 95 12,Ca 96 94 [.tmp 92,.tmp 93,.tmp 94,.tmp 95] (some (.val (.one (.int .i64)))),Bc 97 .geq 3 96 .i64 0,As 91 97])
 (.cond (.tmp 91) (.seq (.reg (some [4,6,7,8,9,10,11,12,13]) [Mv 99 10,Mv 100 12,Ca 101 95 [.tmp 99,.tmp 100,.const (.int .u64 0)] (some (.tup [.one (.int .u64),.one (.int .u64)])),Mv 98 101,Ex 102 98 0,Ex 103 98 1,As 15 102,As 16 103])
 (.reg (some [4,6,7,8,9,11,13,15,16]) [Mv 105 9,Mv 106 11,Mv 107 16,Ca 108 95 [.tmp 105,.tmp 106,.tmp 107] (some (.tup [.one (.int .u64),.one (.int .u64)])),Mv 104 108,Ex 109 104 0,Ex 110 104 1,As 14 109]))
 (.seq (.reg (some [3,4,6,7,8,9,10,11,12]) [Fa 54 0 3,L1 55 54,Bc 56 .lss 2 55 .i64 0,As 13 56])
 (.seq (.reg (some [4,6,7,8,9,10,11,12,13]) [Mv 58 12,Mv 59 10,Ca 60 95 [.tmp 58,.tmp 59,.const (.int .u64 0)] (some (.tup [.one (.int .u64),.one (.int .u64)])),Mv 57 60,Ex 61 57 0,Ex 62 57 1,As 15 61,As 16 62])
 (.reg (some [4,6,7,8,9,11,13,15,16]) [Mv 64 11,Mv 65 9,Mv 66 16,Ca 67 95 [.tmp 64,.tmp 65,.tmp 66] (some (.tup [.one (.int .u64),.one (.int .u64)])),Mv 63 67,Ex 68 63 0,Ex 69 63 1,As 14 68]))))))))
 (.seq (.reg (some [4,6,7,8,13,14,15]) [Mv 111 8,Mv 112 14,Mv 113 15,Mv 114 8,Ca 115 96 [.tmp 112,.tmp 113,.tmp 114] (some (.val (.one (.int .u64)))),Ca 116 70 [.tmp 111,.tmp 115] (some (.val (.one (.int .u64)))),As 17 116])
 (.seq (.seq (.reg (some [4,6,7,8,13,14,15,17]) [Mv 117 14,Mv 118 17,Bt 119 .geq 100 117 118])
 (.cond (.tmp 119) (.seq (.reg (some [4]) [Ro 120 (.build [.int .i64 0,.int .i64 0] []),⟨none,none,.op false (.store 2 (.tmp 4) (.tmp 120))⟩,Ac 5 16])
 .ret)
 .skip))
 (.seq (.reg (some [4,6,7,8,13,14,15,17]) [Mv 122 14,Mv 123 15,Mv 124 17,Ca 125 97 [.tmp 122,.tmp 123,.tmp 124] (some (.tup [.one (.int .u64),.one (.int .u64)])),Mv 121 125,Ex 126 121 0,Ex 127 121 1,As 18 126,As 19 127])
 (.seq (.draw (some [4,6,7,8,13,17,18]) 12 [Dr (Mv 129 6) 0 [2,6,7,8,9,10,11],Dr (Mv 130 8) 1 [2,6,7,8,9,10,11],Dr (Bt 131 .quo 100 129 130) 2 [6,7,8,9,10,11],Dr (Mv 132 7) 3 [5,6,7,8,9,10,11],Dr (Mv 133 17) 4 [5,6,7,8,9,10,11],Dr (Bt 134 .quo 100 132 133) 5 [6,7,8,9,10,11],⟨Ca 135 75 [.tmp 131,.tmp 134] (some (.tup [.one (.int .u64),.one (.int .u64)])),6,.all,[7,8,9,10,11],false,false⟩,Dr (Mv 128 135) 7 [8,9,10,11],Dr (Ex 136 128 0) 8 [10,11],Dr (Ex 137 128 1) 9 [11],Dr (As 20 136) 10 [11],Dr (As 21 137) 11 []])
 (.seq (.seq (.reg (some [4,13,18,20,21]) [Mv 138 20,Bc 139 .neq 100 138 .u64 0])
 (.cond (.tmp 139) (.seq (.reg (some [4]) [Ro 140 (.build [.int .i64 0,.int .i64 0] []),⟨none,none,.op false (.store 2 (.tmp 4) (.tmp 140))⟩,Ac 5 16])
 .ret)
 .skip))
 (.seq (.reg (some [4,13,18,21]) [Mv 141 13,Mv 142 18,Mv 143 21,Ca 144 76 [.tmp 141,.tmp 142,.tmp 143] (some (.tup [.agg [.int .i64,.int .i64],.one (.int .i64)])),Ex 145 144 0,Ex 146 144 1,⟨none,none,.op false (.store 2 (.tmp 4) (.tmp 145))⟩,As 5 146])
 .ret))))))))))))),
 [.agg 4 2 [.int .i64,.int .i64],.tmp 5],
 [],
 []⟩
theorem r74_ok : resFun (progU ()) hint live 74 Tryz.f74 = some r74:=by kernel_rfl
def r75 : RFun :=
⟨.seq (.reg (some [0,1]) [Ol 4 (.assign (.const (.int .u64 0))),Ol 5 (.assign (.const (.int .u64 0)))])
 (.seq (.reg (some [0,1]) [Mv 14 0,Bc 15 .and 100 14 .u64 4294967295,As 6 15])
 (.seq (.reg (some [0,1,6]) [Mv 16 0,Ol 17 (.binOp .shr 100 (.tmp 16) (.const (.int .u64 32)) 91),As 7 17])
 (.seq (.reg (some [0,1,6,7]) [Mv 18 1,Bc 19 .and 100 18 .u64 4294967295,As 8 19])
 (.seq (.reg (some [0,1,6,7,8]) [Mv 20 1,Ol 21 (.binOp .shr 100 (.tmp 20) (.const (.int .u64 32)) 91),As 9 21])
 (.seq (.reg (some [0,1,6,7,8,9]) [Mv 22 6,Mv 23 8,Bt 24 .mul 100 22 23,As 10 24])
 (.seq (.reg (some [0,1,6,7,8,9,10]) [Mv 25 7,Mv 26 8,Bt 27 .mul 100 25 26,Mv 28 10,Ol 29 (.binOp .shr 100 (.tmp 28) (.const (.int .u64 32)) 91),Bt 30 .add 100 27 29,As 11 30])
 (.seq (.reg (some [0,1,6,7,9,11]) [Mv 31 11,Bc 32 .and 100 31 .u64 4294967295,As 12 32])
 (.seq (.reg (some [0,1,6,7,9,11,12]) [Mv 33 11,Ol 34 (.binOp .shr 100 (.tmp 33) (.const (.int .u64 32)) 91),As 13 34])
 (.seq (.reg (some [0,1,6,7,9,12,13]) [Mv 35 12,Mv 36 6,Mv 37 9,Bt 38 .mul 100 36 37,Bt 39 .add 100 35 38,As 12 39])
 (.seq (.reg (some [0,1,7,9,12,13]) [Mv 40 7,Mv 41 9,Bt 42 .mul 100 40 41,Mv 43 13,Bt 44 .add 100 42 43,Mv 45 12,Ol 46 (.binOp .shr 100 (.tmp 45) (.const (.int .u64 32)) 91),Bt 47 .add 100 44 46,As 4 47])
 (.seq (.reg (some [0,1,4]) [Mv 48 0,Mv 49 1,Bt 50 .mul 100 48 49,As 5 50])
 .ret))))))))))),
 [.tmp 4,.tmp 5],
 [],
 []⟩
theorem r75_ok : resFun (progU ()) hint live 75 Tryz.f75 = some r75:=by kernel_rfl
def r76 : RFun :=
⟨.seq (.reg (some [0,1,2]) [⟨some 6,none,.op true (.new 2 [.int .i64 0,.int .i64 0])⟩,Ac 7 0])
 (.seq (.seq (.reg (some [0,1,2,6]) [Mv 9 1,Bc 10 .gtr 100 9 .u64 1000000000000000000,Mv 11 10,⟨some 12,some (11,false),.op false (.old (.move (.tmp 2)))⟩,⟨some 13,some (11,false),.op false (.old (.binOp .gtr 100 (.tmp 12) (.const (.int .u64 1000000000000000000)) 100))⟩,Ol 14 (.pick (.tmp 11) (.const (.bool true)) (.tmp 13))])
 (.cond (.tmp 14) (.seq (.reg (some [6]) [Ro 15 (.build [.int .i64 0,.int .i64 0] []),⟨none,none,.op false (.store 2 (.tmp 6) (.tmp 15))⟩,Ac 7 16])
 .ret)
 .skip))
 (.seq (.reg (some [0,1,2,6]) [Mv 16 1,Ro 17 (.convI .i64 (.tmp 16)),Mv 18 2,Ro 19 (.convI .i64 (.tmp 18)),Ro 20 (.build [.int .i64 0,.int .i64 0] [(0,1,(.tmp 17)),(1,1,(.tmp 19))]),⟨some 8,none,.op true (.new 2 [.int .i64 0,.int .i64 0])⟩,⟨none,none,.op false (.store 2 (.tmp 8) (.tmp 20))⟩])
 (.seq (.seq (.reg (some [0,6,8]) [Mv 21 0])
 (.cond (.tmp 21) (.reg (some [6,8]) [Fa 22 0 8,L1 23 22,Ol 24 (.unOp .neg 2 (.tmp 23)),Fa 25 0 8,⟨none,none,.op false (.store 1 (.tmp 25) (.tmp 24))⟩])
 .skip))
 (.seq (.reg (some [6,8]) [Ld 26 8,⟨none,none,.op false (.store 2 (.tmp 6) (.tmp 26))⟩,Ac 7 0])
 .ret)))),
 [.agg 6 2 [.int .i64,.int .i64],.tmp 7],
 [],
 []⟩
theorem r76_ok : resFun (progU ()) hint live 76 Tryz.f76 = some r76:=by kernel_rfl
def r77 : RFun :=
⟨.seq (.reg (some [0,1,2,3]) [Mv 10 1,Bc 11 .add 3 10 .i64 1,As 8 11])
 (.block 0 (.loop 1 (some [0,1,2,3,8]) (some [0,1,2,3,8]))),
 [],
 [(1,⟨some [0,1,2,3,8],some [0,1,2,3,8],.seq (.seq (.reg (some [0,1,2,3,8]) [Mv 12 8,Mv 13 2,Bt 14 .lss 3 12 13])
 (.cond (.tmp 14) .skip
 (.exit 0 (some []))))
 (.seq (.block 1 (.seq (.reg (some [0,1,2,3,8]) [Mv 17 8,As 9 17])
 (.block 2 (.loop 4 (some [0,1,2,3,8,9]) (some [0,1,2,3,8,9])))))
 (.reg (some [0,1,2,3,8]) [Mv 15 8,Bc 16 .add 3 15 .i64 1,As 8 16]))⟩),(4,⟨some [0,1,2,3,8,9],some [0,1,2,3,8,9],.seq (.seq (.draw (some [0,1,2,3,8,9]) 17 [Dr (Mv 18 9) 0 [2,3,4,5,6,7,8,9,10,11,12,13,14,15,16],Dr (Mv 19 1) 1 [2,3,4,5,6,7,8,9,10,11,12,13,14,15,16],Dr (Bt 20 .gtr 3 18 19) 2 [3,4,5,6,7,8,9,10,11,12,13,14,15,16],Dr (Mv 21 20) 3 [4,5,6,7,8,9,10,11,12,13,14,15,16],⟨⟨some 22,some (21,true),.op false (.old (.move (.tmp 3)))⟩,4,.none,[14,15,16],false,true⟩,⟨⟨some 23,some (21,true),.op false (.old (.move (.tmp 0)))⟩,5,.none,[7,8,14,15,16],false,true⟩,⟨⟨some 24,some (21,true),.op false (.old (.move (.tmp 9)))⟩,6,.none,[7,8,14,15,16],false,true⟩,⟨⟨some 25,some (21,true),.op false (.ixS 4 (.tmp 23) (.tmp 24))⟩,7,.none,[8,14,15,16],false,true⟩,⟨⟨some 26,some (21,true),.op false (.load 4 [.int .i64,.int .i64,.int .i64,.int .i64] (.tmp 25))⟩,8,.blk (.tmp 25),[14,15,16],false,true⟩,⟨⟨some 27,some (21,true),.op false (.old (.move (.tmp 0)))⟩,9,.none,[12,13,14,15,16],false,true⟩,⟨⟨some 28,some (21,true),.op false (.old (.move (.tmp 9)))⟩,10,.none,[11,12,13,14,15,16],false,true⟩,⟨⟨some 29,some (21,true),.op false (.old (.binOp .sub 3 (.tmp 28) (.const (.int .i64 1)) 3))⟩,11,.none,[12,13,14,15,16],false,true⟩,⟨⟨some 30,some (21,true),.op false (.ixS 4 (.tmp 27) (.tmp 29))⟩,12,.none,[13,14,15,16],false,true⟩,⟨⟨some 31,some (21,true),.op false (.load 4 [.int .i64,.int .i64,.int .i64,.int .i64] (.tmp 30))⟩,13,.blk (.tmp 30),[14,15,16],false,true⟩,⟨⟨some 32,some (21,true),.call (.tmp 22) [.tmp 26,.tmp 31] (some (.val (.one (.int .i64))))⟩,14,.all,[15,16],false,false⟩,⟨⟨some 33,some (21,true),.op false (.old (.binOp .lss 3 (.tmp 32) (.const (.int .i64 0)) 3))⟩,15,.none,[16],false,true⟩,Dr (Ol 34 (.pick (.tmp 21) (.tmp 33) (.const (.bool false)))) 16 []])
 (.cond (.tmp 34) .skip
 (.exit 2 (some [0,1,2,3,8]))))
 (.seq (.block 3 (.draw (some [0,1,2,3,8,9]) 18 [Dr (Mv 37 0) 0 [14,15,16,17],Dr (Mv 38 9) 1 [14,15,16,17],Dr (Mv 39 0) 2 [16,17],Dr (Mv 40 9) 3 [4,16,17],Dr (Bc 41 .sub 3 40 .i64 1) 4 [16,17],Dr (Mv 42 0) 5 [8,9,14,15,16,17],Dr (Mv 43 9) 6 [7,8,9,14,15,16,17],Dr (Bc 44 .sub 3 43 .i64 1) 7 [8,9,14,15,16,17],Dr (Ix 45 4 42 44) 8 [9,14,15,16,17],Db (Ro 46 (.load 4 [.int .i64,.int .i64,.int .i64,.int .i64] (.tmp 45))) 9 45 [14,15,16,17],Dr (Mv 47 0) 10 [12,13,14,15,16,17],Dr (Mv 48 9) 11 [12,13,14,15,16,17],Dr (Ix 49 4 47 48) 12 [13,14,15,16,17],Db (Ro 50 (.load 4 [.int .i64,.int .i64,.int .i64,.int .i64] (.tmp 49))) 13 49 [14,15,16,17],Dr (Ix 51 4 37 38) 14 [15,16,17],⟨⟨none,none,.op false (.store 4 (.tmp 51) (.tmp 46))⟩,15,.blk (.tmp 51),[16,17],true,true⟩,Dr (Ix 52 4 39 41) 16 [17],⟨⟨none,none,.op false (.store 4 (.tmp 52) (.tmp 50))⟩,17,.blk (.tmp 52),[],true,true⟩]))
 (.reg (some [0,1,2,3,8,9]) [Mv 35 9,Bc 36 .sub 3 35 .i64 1,As 9 36]))⟩)],
 []⟩
theorem r77_ok : resFun (progU ()) hint live 77 Tryz.f77 = some r77:=by kernel_rfl
end Go.Proofs.YtkbgkjlgnmlghaaGreat
