import Derived.Test.YtnokkniofajnhaaSeat0
import Derived.Test.YtnokkniofajnhaaSymS
set_option linter.unusedSimpArgs false
set_option linter.unusedVariables false
namespace Go.Proofs.Ytnokkniofajnhaa
open Go.Sim
set_option maxRecDepth 100000
def r74 : RFun :=
⟨.seq (Rg [0,1,2,3,4] [Ol 10 (.assign (.const (.bool true)))])
 (.seq (Rg [0,1,2,3,4,10] [Ol 11 (.assign (.const (.bool true)))])
 (.block 0 (.loop 2 (some [0,1,2,3,4,10,11]) (some [0,1,2,3,4,10,11])))),
 [],
 [(2,⟨some [0,1,2,3,4,10,11],some [0,1,2,3,4,10,11],.block 1 (.seq (Rg [0,1,2,3,4,10,11] [Mv 21 2,Mv 22 1,Bt 23 .sub 3 21 22,As 12 23])
 (.seq (.seq (Rg [0,1,2,3,4,10,11,12] [Mv 24 12,Bc 25 .leq 3 24 .i64 12])
 (.cond (T 25) (.seq (Rg [0,1,2,4] [Mv 26 0,Mv 27 1,Mv 28 2,Mv 29 4,Ca 30 89 [T 26,T 27,T 28,T 29] (some (.tup []))])
 .ret)
 .skip))
 (.seq (.seq (Rg [0,1,2,3,4,10,11,12] [Mv 31 3,Bc 32 .eql 3 31 .i64 0])
 (.cond (T 32) (.seq (Rg [0,1,2,4] [Mv 33 0,Mv 34 1,Mv 35 2,Mv 36 4,Ca 37 90 [T 33,T 34,T 35,T 36] (some (.tup []))])
 .ret)
 .skip))
 (.seq (.seq (Rg [0,1,2,3,4,10,11,12] [Mv 38 10,Ol 39 (.unOp .not 4 (T 38))])
 (.cond (T 39) (.seq (Rg [0,1,2,3,4,10,11,12] [Mv 40 0,Mv 41 1,Mv 42 2,Mv 43 4,Ca 44 91 [T 40,T 41,T 42,T 43] (some (.tup []))])
 (Rg [0,1,2,3,4,10,11,12] [Mv 45 3,Bc 46 .sub 3 45 .i64 1,As 3 46]))
 .skip))
 (.seq (Rg [0,1,2,3,4,10,11,12] [Mv 48 0,Mv 49 1,Mv 50 2,Mv 51 4,Ca 52 92 [T 48,T 49,T 50,T 51] (some (.tup [.one (.int .i64),.one (.int .i64)])),Mv 47 52,Ex 53 47 0,Ex 54 47 1,As 13 53,As 14 54])
 (.seq (.seq (Rg [0,1,2,3,4,10,11,12,13,14] [Mv 55 14,Bc 56 .eql 115 55 .i64 2])
 (.cond (T 56) (.seq (Rg [0,1,2,3,4,10,11,12,13] [Mv 57 0,Mv 58 1,Mv 59 2,Mv 60 4,Ca 61 93 [T 57,T 58,T 59,T 60] (some (.tup []))])
 (.seq (Rg [0,1,2,3,4,10,11,12,13] [Mv 62 2,Bc 63 .sub 3 62 .i64 1,Mv 64 13,Mv 65 1,Bt 66 .sub 3 64 65,Bt 67 .sub 3 63 66,As 13 67])
 (Rg [0,1,2,3,4,10,11,12,13] [Ac 14 1])))
 .skip))
 (.seq (.seq (Rg [0,1,2,3,4,10,11,12,13,14] [Mv 68 10,Mv 69 68,Gt 70 69 (.move (T 11)),Ol 71 (.pick (T 69) (T 70) (.const (.bool false))),Mv 72 71,Gt 73 72 (.move (T 14)),Gt 74 72 (.binOp .eql 115 (T 73) (Ci 1) 115),Ol 75 (.pick (T 72) (T 74) (.const (.bool false)))])
 (.cond (T 75) (.seq (Rg [0,1,2,3,4,10,11,12,13] [Mv 76 0,Mv 77 1,Mv 78 2,Mv 79 4,Ca 80 94 [T 76,T 77,T 78,T 79] vB])
 (.cond (T 80) .ret
 .skip))
 .skip))
 (.seq (.seq (.draw (some [0,1,2,3,4,10,11,12,13]) 17 [Dr (Mv 81 1) 0 [1,2,3,4,5,6,7,8,9,10,11,12,13,14,15,16],Dr (Bc 82 .gtr 3 81 .i64 0) 1 [2,3,4,5,6,7,8,9,10,11,12,13,14,15,16],Dr (Mv 83 82) 2 [3,4,5,6,7,8,9,10,11,12,13,14,15,16],⟨Gt 84 83 (.move (T 4)),3,.none,[13,14,15,16],false,true⟩,⟨Gt 85 83 (.move (T 0)),4,.none,[7,8,13,14,15,16],false,true⟩,⟨Gt 86 83 (.move (T 1)),5,.none,[6,7,8,13,14,15,16],false,true⟩,⟨Gt 87 83 (.binOp .sub 3 (T 86) (Ci 1) 3),6,.none,[7,8,13,14,15,16],false,true⟩,⟨Ht 88 83 (.ixS 2 (T 85) (T 87)),7,.none,[8,13,14,15,16],false,true⟩,⟨Ht 89 83 (.load 2 s2 (T 88)),8,.blk (T 88),[13,14,15,16],false,true⟩,⟨Gt 90 83 (.move (T 0)),9,.none,[11,12,13,14,15,16],false,true⟩,⟨Gt 91 83 (.move (T 13)),10,.none,[11,12,13,14,15,16],false,true⟩,⟨Ht 92 83 (.ixS 2 (T 90) (T 91)),11,.none,[12,13,14,15,16],false,true⟩,⟨Ht 93 83 (.load 2 s2 (T 92)),12,.blk (T 92),[13,14,15,16],false,true⟩,⟨⟨some 94,some (83,true),.call (T 84) [T 89,T 93] vI⟩,13,.all,[14,15,16],false,false⟩,⟨Gt 95 83 (.binOp .lss 3 (T 94) (Ci 0) 3),14,.none,[15,16],false,true⟩,⟨Gt 96 83 (.unOp .not 4 (T 95)),15,.none,[16],false,true⟩,Dr (Ol 97 (.pick (T 83) (T 96) (.const (.bool false)))) 16 []])
 (.cond (T 97) (.seq (Rg [0,1,2,3,4,10,11,13] [Mv 98 0,Mv 99 1,Mv 100 2,Mv 101 13,Mv 102 4,Ca 103 95 [T 98,T 99,T 100,T 101,T 102] vI,As 15 103])
 (.seq (Rg [0,2,3,4,10,11,15] [Mv 104 15,As 1 104])
 (.exit 1 (some [0,1,2,3,4,10,11]))))
 .skip))
 (.seq (Rg [0,1,2,3,4,12,13] [Mv 106 0,Mv 107 1,Mv 108 2,Mv 109 13,Mv 110 4,Ca 111 96 [T 106,T 107,T 108,T 109,T 110] (some (.tup [.one (.int .i64),.one .bool])),Mv 105 111,Ex 112 105 0,Ex 113 105 1,As 16 112,As 17 113])
 (.seq (Rg [0,1,2,3,4,12,16,17] [Mv 114 17,As 11 114])
 (.seq (Rg [0,1,2,3,4,11,12,16] [Mv 115 16,Mv 116 1,Bt 117 .sub 3 115 116,Mv 118 2,Mv 119 16,Bt 120 .sub 3 118 119,As 18 117,As 19 120])
 (.seq (Rg [0,1,2,3,4,11,12,16,18,19] [Mv 121 12,Bc 122 .quo 3 121 .i64 8,As 20 122])
 (.seq (Rg [0,1,2,3,4,11,16,18,19,20] [Mv 123 18,Mv 124 19,Bt 125 .lss 3 123 124])
 (.cond (T 125) (.seq (Rg [0,1,2,3,4,11,16,18,20] [Mv 126 18,Mv 127 20,Bt 128 .geq 3 126 127,As 10 128])
 (.seq (Rg [0,1,2,3,4,10,11,16] [Mv 129 0,Mv 130 1,Mv 131 16,Mv 132 3,Mv 133 4,Ca 134 74 [T 129,T 130,T 131,T 132,T 133] (some (.tup []))])
 (Rg [0,2,3,4,10,11,16] [Mv 135 16,Bc 136 .add 3 135 .i64 1,As 1 136])))
 (.seq (Rg [0,1,2,3,4,11,16,19,20] [Mv 137 19,Mv 138 20,Bt 139 .geq 3 137 138,As 10 139])
 (.seq (Rg [0,1,2,3,4,10,11,16] [Mv 140 0,Mv 141 16,Bc 142 .add 3 141 .i64 1,Mv 143 2,Mv 144 3,Mv 145 4,Ca 146 74 [T 140,T 142,T 143,T 144,T 145] (some (.tup []))])
 (Rg [0,1,3,4,10,11,16] [Mv 147 16,As 2 147])))))))))))))))))⟩)],
 []⟩
theorem r74_ok : resFun (progU ()) hint live 74 Try.f74 = some r74:=by kernel_rfl
def r75 : RFun :=
⟨.seq (Rg [0] [Ac 2 0])
 (.seq (.cond (.const (.bool false)) (.seq (Rg [0] [Mv 3 0,Ro 4 (.convI .u32 (T 3)),Ca 5 97 [T 4] vI,As 2 5])
 .ret)
 .skip)
 (.seq (Rg [0] [Mv 6 0,Ca 7 98 [T 6] vI,As 2 7])
 .ret)),
 [.tmp 2],
 [],
 []⟩
theorem r75_ok : resFun (progU ()) hint live 75 Try.f75 = some r75:=by kernel_rfl
def r76 : RFun :=
⟨.seq (Rg [0,1] [Ol 4 (.assign (.const (.int .u64 0))),Ol 5 (.assign (.const (.int .u64 0)))])
 (.seq (Rg [0,1] [Mv 14 0,Bc 15 .and 80 14 .u64 4294967295,As 6 15])
 (.seq (Rg [0,1,6] [Mv 16 0,Ol 17 (.binOp .shr 80 (T 16) (.const (.int .u64 32)) 100),As 7 17])
 (.seq (Rg [0,1,6,7] [Mv 18 1,Bc 19 .and 80 18 .u64 4294967295,As 8 19])
 (.seq (Rg [0,1,6,7,8] [Mv 20 1,Ol 21 (.binOp .shr 80 (T 20) (.const (.int .u64 32)) 100),As 9 21])
 (.seq (Rg [0,1,6,7,8,9] [Mv 22 6,Mv 23 8,Bt 24 .mul 80 22 23,As 10 24])
 (.seq (Rg [0,1,6,7,8,9,10] [Mv 25 7,Mv 26 8,Bt 27 .mul 80 25 26,Mv 28 10,Ol 29 (.binOp .shr 80 (T 28) (.const (.int .u64 32)) 100),Bt 30 .add 80 27 29,As 11 30])
 (.seq (Rg [0,1,6,7,9,11] [Mv 31 11,Bc 32 .and 80 31 .u64 4294967295,As 12 32])
 (.seq (Rg [0,1,6,7,9,11,12] [Mv 33 11,Ol 34 (.binOp .shr 80 (T 33) (.const (.int .u64 32)) 100),As 13 34])
 (.seq (Rg [0,1,6,7,9,12,13] [Mv 35 12,Mv 36 6,Mv 37 9,Bt 38 .mul 80 36 37,Bt 39 .add 80 35 38,As 12 39])
 (.seq (Rg [0,1,7,9,12,13] [Mv 40 7,Mv 41 9,Bt 42 .mul 80 40 41,Mv 43 13,Bt 44 .add 80 42 43,Mv 45 12,Ol 46 (.binOp .shr 80 (T 45) (.const (.int .u64 32)) 100),Bt 47 .add 80 44 46,As 4 47])
 (.seq (Rg [0,1,4] [Mv 48 0,Mv 49 1,Bt 50 .mul 80 48 49,As 5 50])
 .ret))))))))))),
 [.tmp 4,.tmp 5],
 [],
 []⟩
theorem r76_ok : resFun (progU ()) hint live 76 Try.f76 = some r76:=by kernel_rfl
def r77 : RFun :=
⟨.seq (Rg [0,1] [Nw 4 4 [.int .u64 0,.int .u64 0,.int .u64 0,.int .u64 0]])
 (.seq (Rg [0,1,4] [Mv 11 0,Ca 12 52 [T 11] (some (.val (.agg s4))),Mv 13 1,Ca 14 52 [T 13] (some (.val (.agg s4))),Ro 5 (.new 4 [.int .u64 0,.int .u64 0,.int .u64 0,.int .u64 0]),Ro 6 (.new 4 [.int .u64 0,.int .u64 0,.int .u64 0,.int .u64 0]),Sr 4 5 12,Sr 4 6 14])
 (.seq (Rg [4,5,6] [Ro 15 (.build [.int .u64 0,.int .u64 0,.int .u64 0,.int .u64 0] []),Ro 7 (.new 4 [.int .u64 0,.int .u64 0,.int .u64 0,.int .u64 0]),Sr 4 7 15])
 (.seq (.seq (Rg [4,5,6,7] [Ac 8 0])
 (.block 0 (.loop 4 (some [4,5,6,7,8]) (some [4,5,6,7,8]))))
 (.seq (Rg [4,7] [Ro 60 (.load 4 s4 (T 7)),Sr 4 4 60])
 .ret)))),
 [.agg 4 4 [.int .u64,.int .u64,.int .u64,.int .u64]],
 [(4,⟨some [4,5,6,7,8],some [4,5,6,7,8],.seq (.seq (Rg [4,5,6,7,8] [Mv 16 8,Bc 17 .lss 3 16 .i64 2])
 (.cond (T 17) .skip
 (.exit 0 (some [4,7]))))
 (.seq (.block 1 (.seq (Rg [4,5,6,7,8] [Ol 9 (.assign (.const (.int .u64 0)))])
 (.seq (.seq (Rg [4,5,6,7,8,9] [Ac 10 0])
 (.block 2 (.loop 8 (some [4,5,6,7,8,9,10]) (some [4,5,6,7,8,9,10]))))
 (Rg [4,5,6,7,8,9] [Mv 51 8,Bc 52 .add 3 51 .i64 2,Fa 53 0 7,Ro 54 (.ixA 4 1 (T 53) (T 52)),Ro 55 (.load1 (.int .u64) (T 54)),Mv 56 9,Bt 57 .add 80 55 56,Fa 58 0 7,Ro 59 (.ixA 4 1 (T 58) (T 52)),Sr 1 59 57]))))
 (Rg [4,5,6,7,8] [Mv 18 8,Bc 19 .add 3 18 .i64 1,As 8 19]))⟩),(8,⟨some [4,5,6,7,8,9,10],some [4,5,6,7,8,9,10],.seq (.seq (Rg [4,5,6,7,8,9,10] [Mv 20 10,Bc 21 .lss 3 20 .i64 2])
 (.cond (T 21) .skip
 (.exit 2 (some [4,5,6,7,8,9]))))
 (.seq (.block 3 (.seq (.draw (some [4,5,6,7,8,9,10]) 19 [Dr (Mv 24 9) 0 [17,18],Dr (Mv 25 8) 1 [3,5,6,16,17,18],Dr (Mv 26 10) 2 [3,5,6,16,17,18],Dr (Bt 27 .add 3 25 26) 3 [5,6,16,17,18],Dr (Fa 28 0 7) 4 [5,6,16,17,18],Dr (Ro 29 (.ixA 4 1 (T 28) (T 27))) 5 [6,16,17,18],Db (Ro 30 (.load1 (.int .u64) (T 29))) 6 29 [16,17,18],Dr (Mv 31 8) 7 [9,10,15,16,17,18],Dr (Fa 32 0 5) 8 [9,10,15,16,17,18],Dr (Ro 33 (.ixA 4 1 (T 32) (T 31))) 9 [10,15,16,17,18],Db (Ro 34 (.load1 (.int .u64) (T 33))) 10 33 [15,16,17,18],Dr (Mv 35 10) 11 [13,14,15,16,17,18],Dr (Fa 36 0 6) 12 [13,14,15,16,17,18],Dr (Ro 37 (.ixA 4 1 (T 36) (T 35))) 13 [14,15,16,17,18],Db (Ro 38 (.load1 (.int .u64) (T 37))) 14 37 [15,16,17,18],Dr (Bt 39 .mul 80 34 38) 15 [16,17,18],Dr (Bt 40 .add 80 30 39) 16 [17,18],Dr (Bt 41 .add 80 24 40) 17 [18],Dr (As 9 41) 18 []])
 (.seq (Rg [4,5,6,7,8,9,10] [Mv 42 8,Mv 43 10,Bt 44 .add 3 42 43,Mv 45 9,Bc 46 .and 80 45 .u64 4294967295,Fa 47 0 7,Ro 48 (.ixA 4 1 (T 47) (T 44)),Sr 1 48 46])
 (Rg [4,5,6,7,8,9,10] [Mv 49 9,Ol 50 (.binOp .shr 80 (T 49) (.const (.int .u64 32)) 100),As 9 50]))))
 (Rg [4,5,6,7,8,9,10] [Mv 22 10,Bc 23 .add 3 22 .i64 1,As 10 23]))⟩)],
 []⟩
theorem r77_ok : resFun (progU ()) hint live 77 Try.f77 = some r77:=by kernel_rfl
def r78 : RFun :=
⟨.seq (Rg [0,1] [Ro 2 (.box 4 (T 0)),Ro 3 (.box 4 (T 1)),Ol 4 (.assign (.const (.bool false)))])
 (.seq (.seq (Rg [2,3] [Ac 5 3])
 (.block 0 (.loop 2 (some [2,3,5]) (some [2,3,5]))))
 (.seq (Rg [] [Ol 4 (.assign (.const (.bool false)))])
 .ret)),
 [.tmp 4],
 [(2,⟨some [2,3,5],some [2,3,5],.seq (.seq (Rg [2,3,5] [Mv 6 5,Bc 7 .geq 3 6 .i64 0])
 (.cond (T 7) .skip
 (.exit 0 (some []))))
 (.seq (.block 1 (.seq (.draw (some [2,3,5]) 9 [Dr (Mv 10 5) 0 [2,3,8],Dr (Fa 11 0 2) 1 [2,3,8],Dr (Ro 12 (.ixA 4 1 (T 11) (T 10))) 2 [3,8],Db (Ro 13 (.load1 (.int .u64) (T 12))) 3 12 [8],Dr (Mv 14 5) 4 [6,7,8],Dr (Fa 15 0 3) 5 [6,7,8],Dr (Ro 16 (.ixA 4 1 (T 15) (T 14))) 6 [7,8],Db (Ro 17 (.load1 (.int .u64) (T 16))) 7 16 [8],Dr (Bt 18 .neq 80 13 17) 8 []])
 (.cond (T 18) (.seq (.draw (some [2,3,5]) 10 [Dr (Mv 19 5) 0 [2,3,8,9],Dr (Fa 20 0 2) 1 [2,3,8,9],Dr (Ro 21 (.ixA 4 1 (T 20) (T 19))) 2 [3,8,9],Db (Ro 22 (.load1 (.int .u64) (T 21))) 3 21 [8,9],Dr (Mv 23 5) 4 [6,7,8,9],Dr (Fa 24 0 3) 5 [6,7,8,9],Dr (Ro 25 (.ixA 4 1 (T 24) (T 23))) 6 [7,8,9],Db (Ro 26 (.load1 (.int .u64) (T 25))) 7 25 [8,9],Dr (Bt 27 .lss 80 22 26) 8 [9],Dr (As 4 27) 9 []])
 .ret)
 .skip)))
 (Rg [2,3,5] [Mv 8 5,Bc 9 .sub 3 8 .i64 1,As 5 9]))⟩)],
 []⟩
theorem r78_ok : resFun (progU ()) hint live 78 Try.f78 = some r78:=by kernel_rfl
def r79 : RFun :=
⟨.seq (Rg [0,1,2,3] [Ac 8 0])
 (.seq (Rg [0,1,2,3] [Mv 14 0,Mv 15 1,Ca 16 76 [T 14,T 15] (some (.tup [.one (.int .u64),.one (.int .u64)])),Mv 13 16,Ex 17 13 0,Ex 18 13 1,As 9 17,As 10 18])
 (.seq (Rg [2,3,9,10] [Mv 20 2,Mv 21 3,Ca 22 76 [T 20,T 21] (some (.tup [.one (.int .u64),.one (.int .u64)])),Mv 19 22,Ex 23 19 0,Ex 24 19 1,As 11 23,As 12 24])
 (.seq (Rg [9,10,11,12] [Mv 25 9,Mv 26 10,Mv 27 11,Mv 28 12,Ca 29 81 [T 25,T 26,T 27,T 28] vI,As 8 29])
 .ret))),
 [.tmp 8],
 [],
 []⟩
theorem r79_ok : resFun (progU ()) hint live 79 Try.f79 = some r79:=by kernel_rfl
def r81 : RFun :=
⟨.seq (Rg [0,1,2,3] [Ac 8 0])
 (.seq (.block 0 (.seq (Rg [0,1,2,3] [Mv 10 0,Mv 11 2,Bt 12 .gtr 80 10 11,Mv 13 12,Gf 14 13 (.move (T 0)),Gf 15 13 (.move (T 2)),Gf 16 13 (.binOp .eql 80 (T 14) (T 15) 80),Gf 17 13 (.move (T 16)),Gt 18 17 (.move (T 1)),Gt 19 17 (.move (T 3)),Gt 20 17 (.binOp .gtr 80 (T 18) (T 19) 80),Gf 21 13 (.pick (T 17) (T 20) (.const (.bool false))),Ol 22 (.pick (T 13) (.const (.bool true)) (T 21)),As 9 22])
 (.cond (T 9) (.seq (Rg [] [Ac 8 1])
 .ret)
 (.seq (Rg [0,1,2,3] [Mv 24 0,Mv 25 2,Bt 26 .eql 80 24 25,Mv 27 26,Gt 28 27 (.move (T 1)),Gt 29 27 (.move (T 3)),Gt 30 27 (.binOp .eql 80 (T 28) (T 29) 80),Ol 31 (.pick (T 27) (T 30) (.const (.bool false))),As 23 31])
 (.cond (T 23) (.seq (Rg [] [Ac 8 0])
 .ret)
 .skip)))))
 (.seq (Rg [] [Ol 8 (.assign (.const (.int .i64 (-1))))])
 .ret)),
 [.tmp 8],
 [],
 []⟩
theorem r81_ok : resFun (progU ()) hint live 81 Try.f81 = some r81:=by kernel_rfl
def r83 : RFun :=
⟨.seq (Rg [0,1,2] [Ol 6 (.assign (.const (.int .u64 0)))])
 (.seq (Rg [0,1,2] [Mv 10 0,Mv 11 2,Bt 12 .rem 80 10 11,Mv 13 1,Mv 14 2,Ca 15 84 [T 12,T 13,T 14] (some (.tup [.one (.int .u64),.one (.int .u64)])),Mv 9 15,Ex 16 9 0,Ex 17 9 1,As 7 16,As 8 17])
 (.seq (Rg [8] [Mv 18 8,As 6 18])
 .ret)),
 [.tmp 6],
 [],
 []⟩
theorem r83_ok : resFun (progU ()) hint live 83 Try.f83 = some r83:=by kernel_rfl
def r84 : RFun :=
⟨.seq (Rg [0,1,2] [Ol 6 (.assign (.const (.int .u64 0))),Ol 7 (.assign (.const (.int .u64 0)))])
 (.seq (.seq (Rg [0,1,2] [Mv 19 2,Bc 20 .eql 80 19 .u64 0])
 (.cond (T 20) (Rg [0,1,2] [Ro 21 (.load1 .any (.global 0)),⟨none,none,.op false (.old (.panic (T 21)))⟩])
 .skip))
 (.seq (.seq (Rg [0,1,2] [Mv 22 2,Mv 23 0,Bt 24 .leq 80 22 23])
 (.cond (T 24) (Rg [0,1,2] [Ro 25 (.load1 .any (.global 1)),⟨none,none,.op false (.old (.panic (T 25)))⟩])
 .skip))
 (.seq (.seq (Rg [0,1,2] [Mv 26 0,Bc 27 .eql 80 26 .u64 0])
 (.cond (T 27) (.seq (.draw (some [1,2]) 8 [Dr (Mv 28 1) 0 [2,6,7],Dr (Mv 29 2) 1 [2,6,7],Dr (Bt 30 .quo 80 28 29) 2 [6,7],Dr (Mv 31 1) 3 [5,7],Dr (Mv 32 2) 4 [5,7],Dr (Bt 33 .rem 80 31 32) 5 [7],Dr (As 6 30) 6 [7],Dr (As 7 33) 7 []])
 .ret)
 .skip))
 (.seq (Rg [0,1,2] [Mv 34 2,Ca 35 99 [T 34] vI,Ro 36 (.convI .u64 (T 35)),As 8 36])
 (.seq (Rg [0,1,2,8] [Mv 37 2,Mv 38 8,Ol 39 (.binOp .shl 80 (T 37) (T 38) 100),As 2 39])
 (.seq (Rg [0,1,2,8] [Mv 40 2,Ol 41 (.binOp .shr 80 (T 40) (.const (.int .u64 32)) 100),As 9 41])
 (.seq (Rg [0,1,2,8,9] [Mv 42 2,Bc 43 .and 80 42 .u64 4294967295,As 10 43])
 (.seq (Rg [0,1,2,8,9,10] [Mv 44 0,Mv 45 8,Ol 46 (.binOp .shl 80 (T 44) (T 45) 100),Mv 47 1,Mv 48 8,Ol 49 (.binOp .sub 100 (.const (.int .u64 64)) (T 48) 100),Ol 50 (.binOp .shr 80 (T 47) (T 49) 100),Bt 51 .or 80 46 50,As 11 51])
 (.seq (Rg [1,2,8,9,10,11] [Mv 52 1,Mv 53 8,Ol 54 (.binOp .shl 80 (T 52) (T 53) 100),As 12 54])
 (.seq (Rg [2,8,9,10,11,12] [Mv 55 12,Ol 56 (.binOp .shr 80 (T 55) (.const (.int .u64 32)) 100),As 13 56])
 (.seq (Rg [2,8,9,10,11,12,13] [Mv 57 12,Bc 58 .and 80 57 .u64 4294967295,As 14 58])
 (.seq (Rg [2,8,9,10,11,13,14] [Mv 59 11,Mv 60 9,Bt 61 .quo 80 59 60,As 15 61])
 (.seq (Rg [2,8,9,10,11,13,14,15] [Mv 62 11,Mv 63 15,Mv 64 9,Bt 65 .mul 80 63 64,Bt 66 .sub 80 62 65,As 16 66])
 (.seq (.block 0 (.loop 17 none (some [2,8,9,10,11,13,14,15,16])))
 (.seq (Rg [2,8,9,10,11,13,14,15] [Mv 86 11,Bc 87 .mul 80 86 .u64 4294967296,Mv 88 13,Bt 89 .add 80 87 88,Mv 90 15,Mv 91 2,Bt 92 .mul 80 90 91,Bt 93 .sub 80 89 92,As 17 93])
 (.seq (Rg [2,8,9,10,14,15,17] [Mv 94 17,Mv 95 9,Bt 96 .quo 80 94 95,As 18 96])
 (.seq (Rg [2,8,9,10,14,15,17,18] [Mv 97 17,Mv 98 18,Mv 99 9,Bt 100 .mul 80 98 99,Bt 101 .sub 80 97 100,As 16 101])
 (.seq (.block 2 (.loop 24 none (some [2,8,9,10,14,15,16,17,18])))
 (.seq (Rg [2,8,14,15,17,18] [Mv 121 15,Bc 122 .mul 80 121 .u64 4294967296,Mv 123 18,Bt 124 .add 80 122 123,Mv 125 17,Bc 126 .mul 80 125 .u64 4294967296,Mv 127 14,Bt 128 .add 80 126 127,Mv 129 18,Mv 130 2,Bt 131 .mul 80 129 130,Bt 132 .sub 80 128 131,Mv 133 8,Ol 134 (.binOp .shr 80 (T 132) (T 133) 100),As 6 124,As 7 134])
 .ret))))))))))))))))))),
 [.tmp 6,.tmp 7],
 [(17,⟨none,some [2,8,9,10,11,13,14,15,16],.seq (.seq (Rg [2,8,9,10,11,13,14,15,16] [Mv 67 15,Bc 68 .geq 80 67 .u64 4294967296,Mv 69 68,Gf 70 69 (.move (T 15)),Gf 71 69 (.move (T 10)),Gf 72 69 (.binOp .mul 80 (T 70) (T 71) 80),Gf 73 69 (.move (T 16)),Gf 74 69 (.binOp .mul 80 (.const (.int .u64 4294967296)) (T 73) 80),Gf 75 69 (.move (T 13)),Gf 76 69 (.binOp .add 80 (T 74) (T 75) 80),Gf 77 69 (.binOp .gtr 80 (T 72) (T 76) 80),Ol 78 (.pick (T 69) (.const (.bool true)) (T 77))])
 (.cond (T 78) .skip
 (.exit 0 (some [2,8,9,10,11,13,14,15]))))
 (.block 1 (.seq (Rg [2,8,9,10,11,13,14,15,16] [Mv 79 15,Bc 80 .sub 80 79 .u64 1,As 15 80])
 (.seq (Rg [2,8,9,10,11,13,14,15,16] [Mv 81 16,Mv 82 9,Bt 83 .add 80 81 82,As 16 83])
 (.seq (Rg [2,8,9,10,11,13,14,15,16] [Mv 84 16,Bc 85 .geq 80 84 .u64 4294967296])
 (.cond (T 85) (.exit 0 (some [2,8,9,10,11,13,14,15]))
 .skip)))))⟩),(24,⟨none,some [2,8,9,10,14,15,16,17,18],.seq (.seq (Rg [2,8,9,10,14,15,16,17,18] [Mv 102 18,Bc 103 .geq 80 102 .u64 4294967296,Mv 104 103,Gf 105 104 (.move (T 18)),Gf 106 104 (.move (T 10)),Gf 107 104 (.binOp .mul 80 (T 105) (T 106) 80),Gf 108 104 (.move (T 16)),Gf 109 104 (.binOp .mul 80 (.const (.int .u64 4294967296)) (T 108) 80),Gf 110 104 (.move (T 14)),Gf 111 104 (.binOp .add 80 (T 109) (T 110) 80),Gf 112 104 (.binOp .gtr 80 (T 107) (T 111) 80),Ol 113 (.pick (T 104) (.const (.bool true)) (T 112))])
 (.cond (T 113) .skip
 (.exit 2 (some [2,8,14,15,17,18]))))
 (.block 3 (.seq (Rg [2,8,9,10,14,15,16,17,18] [Mv 114 18,Bc 115 .sub 80 114 .u64 1,As 18 115])
 (.seq (Rg [2,8,9,10,14,15,16,17,18] [Mv 116 16,Mv 117 9,Bt 118 .add 80 116 117,As 16 118])
 (.seq (Rg [2,8,9,10,14,15,16,17,18] [Mv 119 16,Bc 120 .geq 80 119 .u64 4294967296])
 (.cond (T 120) (.exit 2 (some [2,8,14,15,17,18]))
 .skip)))))⟩)],
 []⟩
theorem r84_ok : resFun (progU ()) hint live 84 Try.f84 = some r84:=by kernel_rfl
def r85 : RFun :=
⟨.seq (Rg [0] [Bo 1 2 0,Nw 2 2 z2])
 (.seq (Rg [1,2] [Fa 3 0 1,L1 4 3,Ol 5 (.unOp .neg 2 (T 4)),Fa 6 1 1,L1 7 6,Ro 8 (.build z2 [(0,1,(T 5)),(1,1,(T 7))]),Sr 2 2 8])
 .ret),
 [.agg 2 2 [.int .i64,.int .i64]],
 [],
 []⟩
theorem r85_ok : resFun (progU ()) hint live 85 Try.f85 = some r85:=by kernel_rfl
def r86 : RFun :=
⟨.seq (Rg [0,1] [Ro 2 (.box 4 (T 0)),Ro 3 (.box 4 (T 1)),Nw 4 4 [.int .u64 0,.int .u64 0,.int .u64 0,.int .u64 0]])
 (.seq (Rg [2,3,4] [Ol 5 (.assign (.const (.int .u64 0)))])
 (.seq (.seq (Rg [2,3,4,5] [Ac 6 0])
 (.block 0 (.loop 3 (some [2,3,4,5,6]) (some [2,3,4,5,6]))))
 (.seq (Rg [2,4] [Ro 29 (.load 4 s4 (T 2)),Sr 4 4 29])
 .ret))),
 [.agg 4 4 [.int .u64,.int .u64,.int .u64,.int .u64]],
 [(3,⟨some [2,3,4,5,6],some [2,3,4,5,6],.seq (.seq (Rg [2,3,4,5,6] [Mv 7 6,Bc 8 .lss 3 7 .i64 4])
 (.cond (T 8) .skip
 (.exit 0 (some [2,4]))))
 (.seq (.block 1 (.seq (.draw (some [2,3,4,5,6]) 12 [Dr (Mv 11 5) 0 [10,11],Dr (Mv 12 6) 1 [3,4,9,10,11],Dr (Fa 13 0 2) 2 [3,4,9,10,11],Dr (Ro 14 (.ixA 4 1 (T 13) (T 12))) 3 [4,9,10,11],Db (Ro 15 (.load1 (.int .u64) (T 14))) 4 14 [9,10,11],Dr (Mv 16 6) 5 [7,8,9,10,11],Dr (Fa 17 0 3) 6 [7,8,9,10,11],Dr (Ro 18 (.ixA 4 1 (T 17) (T 16))) 7 [8,9,10,11],Db (Ro 19 (.load1 (.int .u64) (T 18))) 8 18 [9,10,11],Dr (Bt 20 .add 80 15 19) 9 [10,11],Dr (Bt 21 .add 80 11 20) 10 [11],Dr (As 5 21) 11 []])
 (.seq (Rg [2,3,4,5,6] [Mv 22 6,Mv 23 5,Bc 24 .and 80 23 .u64 4294967295,Fa 25 0 2,Ro 26 (.ixA 4 1 (T 25) (T 22)),Sr 1 26 24])
 (Rg [2,3,4,5,6] [Mv 27 5,Ol 28 (.binOp .shr 80 (T 27) (.const (.int .u64 32)) 100),As 5 28]))))
 (Rg [2,3,4,5,6] [Mv 9 6,Bc 10 .add 3 9 .i64 1,As 6 10]))⟩)],
 []⟩
theorem r86_ok : resFun (progU ()) hint live 86 Try.f86 = some r86:=by kernel_rfl
def r87 : RFun :=
⟨.seq (Rg [0,1] [Ro 2 (.box 4 (T 0)),Ro 3 (.box 4 (T 1)),Nw 4 4 [.int .u64 0,.int .u64 0,.int .u64 0,.int .u64 0]])
 (.seq (Rg [2,3,4] [Ol 5 (.assign (.const (.int .u64 0)))])
 (.seq (.seq (Rg [2,3,4,5] [Ac 6 0])
 (.block 0 (.loop 3 (some [2,3,4,5,6]) (some [2,3,4,5,6]))))
 (.seq (Rg [2,4] [Ro 33 (.load 4 s4 (T 2)),Sr 4 4 33])
 .ret))),
 [.agg 4 4 [.int .u64,.int .u64,.int .u64,.int .u64]],
 [(3,⟨some [2,3,4,5,6],some [2,3,4,5,6],.seq (.seq (Rg [2,3,4,5,6] [Mv 8 6,Bc 9 .lss 3 8 .i64 4])
 (.cond (T 9) .skip
 (.exit 0 (some [2,4]))))
 (.seq (.block 1 (.seq (.draw (some [2,3,4,5,6]) 14 [Dr (Mv 12 6) 0 [2,3,4,5,10,12,13],Dr (Fa 13 0 2) 1 [2,3,4,5,10,12,13],Dr (Ro 14 (.ixA 4 1 (T 13) (T 12))) 2 [3,4,5,10,12,13],Db (Ro 15 (.load1 (.int .u64) (T 14))) 3 14 [4,5,10,12,13],Dr (Bc 16 .add 80 15 .u64 4294967295) 4 [5,10,12,13],Dr (Bc 17 .add 80 16 .u64 1) 5 [10,12,13],Dr (Mv 18 6) 6 [8,9,10,12,13],Dr (Fa 19 0 3) 7 [8,9,10,12,13],Dr (Ro 20 (.ixA 4 1 (T 19) (T 18))) 8 [9,10,12,13],Db (Ro 21 (.load1 (.int .u64) (T 20))) 9 20 [10,12,13],Dr (Bt 22 .sub 80 17 21) 10 [12,13],Dr (Mv 23 5) 11 [12,13],Dr (Bt 24 .sub 80 22 23) 12 [13],Dr (As 7 24) 13 []])
 (.seq (Rg [2,3,4,6,7] [Mv 25 6,Mv 26 7,Bc 27 .and 80 26 .u64 4294967295,Fa 28 0 2,Ro 29 (.ixA 4 1 (T 28) (T 25)),Sr 1 29 27])
 (Rg [2,3,4,6,7] [Mv 30 7,Ol 31 (.binOp .shr 80 (T 30) (.const (.int .u64 32)) 100),Ol 32 (.binOp .sub 80 (.const (.int .u64 1)) (T 31) 80),As 5 32]))))
 (Rg [2,3,4,5,6] [Mv 10 6,Bc 11 .add 3 10 .i64 1,As 6 11]))⟩)],
 []⟩
theorem r87_ok : resFun (progU ()) hint live 87 Try.f87 = some r87:=by kernel_rfl
def r88 : RFun :=
⟨.seq (Rg [0,1] [Ro 2 (.box 4 (T 0)),Nw 4 4 [.int .u64 0,.int .u64 0,.int .u64 0,.int .u64 0],Ol 5 (.assign (.const (.int .u64 0)))])
 (.seq (Rg [1,2,4] [Ro 10 (.build [.int .u64 0,.int .u64 0,.int .u64 0,.int .u64 0] []),Ro 6 (.new 4 [.int .u64 0,.int .u64 0,.int .u64 0,.int .u64 0]),Sr 4 6 10,Ol 7 (.assign (.const (.int .u64 0)))])
 (.seq (.seq (Rg [1,2,4,6,7] [Ac 8 3])
 (.block 0 (.loop 3 (some [1,2,4,6,7,8]) (some [1,2,4,6,7,8]))))
 (.seq (Rg [4,6,7] [Ro 44 (.load 4 s4 (T 6)),Mv 45 7,Sr 4 4 44,As 5 45])
 .ret))),
 [.agg 4 4 [.int .u64,.int .u64,.int .u64,.int .u64],.tmp 5],
 [(3,⟨some [1,2,4,6,7,8],some [1,2,4,6,7,8],.seq (.seq (Rg [1,2,4,6,7,8] [Mv 11 8,Bc 12 .geq 3 11 .i64 0])
 (.cond (T 12) .skip
 (.exit 0 (some [4,6,7]))))
 (.seq (.block 1 (.seq (Rg [1,2,4,6,7,8] [Ac 9 31])
 (.block 2 (.loop 6 (some [1,2,4,6,7,8,9]) (some [1,2,4,6,7,8,9])))))
 (Rg [1,2,4,6,7,8] [Mv 13 8,Bc 14 .sub 3 13 .i64 1,As 8 14]))⟩),(6,⟨some [1,2,4,6,7,8,9],some [1,2,4,6,7,8,9],.seq (.seq (Rg [1,2,4,6,7,8,9] [Mv 15 9,Bc 16 .geq 3 15 .i64 0])
 (.cond (T 16) .skip
 (.exit 2 (some [1,2,4,6,7,8]))))
 (.seq (.block 3 (.seq (Rg [1,2,4,6,7,8,9] [Mv 19 7,Ol 20 (.binOp .shl 80 (T 19) (.const (.int .u64 1)) 100),Mv 21 8,Fa 22 0 2,Ro 23 (.ixA 4 1 (T 22) (T 21)),Ro 24 (.load1 (.int .u64) (T 23)),Mv 25 9,Ol 26 (.binOp .shr 80 (T 24) (T 25) 3),Bc 27 .and 80 26 .u64 1,Bt 28 .or 80 20 27,As 7 28])
 (.seq (Rg [1,2,4,6,7,8,9] [Mv 29 7,Mv 30 1,Bt 31 .geq 80 29 30])
 (.cond (T 31) (.seq (Rg [1,2,4,6,7,8,9] [Mv 32 7,Mv 33 1,Bt 34 .sub 80 32 33,As 7 34])
 (.draw (some [1,2,4,6,7,8,9]) 10 [Dr (Mv 35 8) 0 [2,3,6,8,9],Dr (Fa 36 0 6) 1 [2,3,6,8,9],Dr (Ro 37 (.ixA 4 1 (T 36) (T 35))) 2 [3,6,8,9],Db (Ro 38 (.load1 (.int .u64) (T 37))) 3 37 [6,8,9],Dr (Mv 39 9) 4 [5,6,8,9],Dr (Ol 40 (.binOp .shl 80 (.const (.int .u64 1)) (T 39) 3)) 5 [6,8,9],Dr (Bt 41 .or 80 38 40) 6 [8,9],Dr (Fa 42 0 6) 7 [8,9],Dr (Ro 43 (.ixA 4 1 (T 42) (T 35))) 8 [9],⟨Sr 1 43 41,9,.blk (T 43),[],true,true⟩]))
 .skip))))
 (Rg [1,2,4,6,7,8,9] [Mv 17 9,Bc 18 .sub 3 17 .i64 1,As 9 18]))⟩)],
 []⟩
theorem r88_ok : resFun (progU ()) hint live 88 Try.f88 = some r88:=by kernel_rfl
def r89 : RFun :=
⟨.seq (Rg [0,1,2,3] [Mv 10 1,Bc 11 .add 3 10 .i64 1,As 8 11])
 (.block 0 (.loop 1 (some [0,1,2,3,8]) (some [0,1,2,3,8]))),
 [],
 [(1,⟨some [0,1,2,3,8],some [0,1,2,3,8],.seq (.seq (Rg [0,1,2,3,8] [Mv 12 8,Mv 13 2,Bt 14 .lss 3 12 13])
 (.cond (T 14) .skip
 (.exit 0 (some []))))
 (.seq (.block 1 (.seq (Rg [0,1,2,3,8] [Mv 17 8,As 9 17])
 (.block 2 (.loop 4 (some [0,1,2,3,8,9]) (some [0,1,2,3,8,9])))))
 (Rg [0,1,2,3,8] [Mv 15 8,Bc 16 .add 3 15 .i64 1,As 8 16]))⟩),(4,⟨some [0,1,2,3,8,9],some [0,1,2,3,8,9],.seq (.seq (.draw (some [0,1,2,3,8,9]) 17 [Dr (Mv 18 9) 0 [2,3,4,5,6,7,8,9,10,11,12,13,14,15,16],Dr (Mv 19 1) 1 [2,3,4,5,6,7,8,9,10,11,12,13,14,15,16],Dr (Bt 20 .gtr 3 18 19) 2 [3,4,5,6,7,8,9,10,11,12,13,14,15,16],Dr (Mv 21 20) 3 [4,5,6,7,8,9,10,11,12,13,14,15,16],⟨Gt 22 21 (.move (T 3)),4,.none,[14,15,16],false,true⟩,⟨Gt 23 21 (.move (T 0)),5,.none,[7,8,14,15,16],false,true⟩,⟨Gt 24 21 (.move (T 9)),6,.none,[7,8,14,15,16],false,true⟩,⟨Ht 25 21 (.ixS 2 (T 23) (T 24)),7,.none,[8,14,15,16],false,true⟩,⟨Ht 26 21 (.load 2 s2 (T 25)),8,.blk (T 25),[14,15,16],false,true⟩,⟨Gt 27 21 (.move (T 0)),9,.none,[12,13,14,15,16],false,true⟩,⟨Gt 28 21 (.move (T 9)),10,.none,[11,12,13,14,15,16],false,true⟩,⟨Gt 29 21 (.binOp .sub 3 (T 28) (Ci 1) 3),11,.none,[12,13,14,15,16],false,true⟩,⟨Ht 30 21 (.ixS 2 (T 27) (T 29)),12,.none,[13,14,15,16],false,true⟩,⟨Ht 31 21 (.load 2 s2 (T 30)),13,.blk (T 30),[14,15,16],false,true⟩,⟨⟨some 32,some (21,true),.call (T 22) [T 26,T 31] vI⟩,14,.all,[15,16],false,false⟩,⟨Gt 33 21 (.binOp .lss 3 (T 32) (Ci 0) 3),15,.none,[16],false,true⟩,Dr (Ol 34 (.pick (T 21) (T 33) (.const (.bool false)))) 16 []])
 (.cond (T 34) .skip
 (.exit 2 (some [0,1,2,3,8]))))
 (.seq (.block 3 (.draw (some [0,1,2,3,8,9]) 18 [Dr (Mv 37 0) 0 [14,15,16,17],Dr (Mv 38 9) 1 [14,15,16,17],Dr (Mv 39 0) 2 [16,17],Dr (Mv 40 9) 3 [4,16,17],Dr (Bc 41 .sub 3 40 .i64 1) 4 [16,17],Dr (Mv 42 0) 5 [8,9,14,15,16,17],Dr (Mv 43 9) 6 [7,8,9,14,15,16,17],Dr (Bc 44 .sub 3 43 .i64 1) 7 [8,9,14,15,16,17],Dr (Ix 45 2 42 44) 8 [9,14,15,16,17],Db (Ld 46 45) 9 45 [14,15,16,17],Dr (Mv 47 0) 10 [12,13,14,15,16,17],Dr (Mv 48 9) 11 [12,13,14,15,16,17],Dr (Ix 49 2 47 48) 12 [13,14,15,16,17],Db (Ld 50 49) 13 49 [14,15,16,17],Dr (Ix 51 2 37 38) 14 [15,16,17],⟨Sr 2 51 46,15,.blk (T 51),[16,17],true,true⟩,Dr (Ix 52 2 39 41) 16 [17],⟨Sr 2 52 50,17,.blk (T 52),[],true,true⟩]))
 (Rg [0,1,2,3,8,9] [Mv 35 9,Bc 36 .sub 3 35 .i64 1,As 9 36]))⟩)],
 []⟩
theorem r89_ok : resFun (progU ()) hint live 89 Try.f89 = some r89:=by kernel_rfl
def r90 : RFun :=
⟨.seq (Rg [0,1,2,3] [Mv 13 1,As 8 13])
 (.seq (Rg [0,1,2,3,8] [Ac 9 0])
 (.seq (Rg [0,1,2,3,8,9] [Mv 14 2,Mv 15 1,Bt 16 .sub 3 14 15,As 10 16])
 (.seq (.seq (Rg [0,3,8,9,10] [Mv 17 10,Bc 18 .sub 3 17 .i64 1,Bc 19 .quo 3 18 .i64 2,As 11 19])
 (.block 0 (.loop 4 none (some [0,3,8,9,10,11]))))
 (.seq (Rg [0,3,8,9,10] [Mv 30 10,Bc 31 .sub 3 30 .i64 1,As 12 31])
 (.block 2 (.loop 8 (some [0,3,8,9,12]) (some [0,3,8,9,12]))))))),
 [],
 [(4,⟨none,some [0,3,8,9,10,11],.seq (.seq (Rg [0,3,8,9,10,11] [Mv 20 11,Bc 21 .geq 3 20 .i64 0])
 (.cond (T 21) .skip
 (.exit 0 (some [0,3,8,9,10]))))
 (.seq (.block 1 (Rg [0,3,8,9,10,11] [Mv 24 0,Mv 25 11,Mv 26 10,Mv 27 8,Mv 28 3,Ca 29 100 [T 24,T 25,T 26,T 27,T 28] (some (.tup []))]))
 (Rg [0,3,8,9,10,11] [Mv 22 11,Bc 23 .sub 3 22 .i64 1,As 11 23]))⟩),(8,⟨some [0,3,8,9,12],some [0,3,8,9,12],.seq (.seq (Rg [0,3,8,9,12] [Mv 32 12,Bc 33 .geq 3 32 .i64 0])
 (.cond (T 33) .skip
 (.exit 2 (some []))))
 (.seq (.block 3 (.seq (.draw (some [0,3,8,9,12]) 20 [Dr (Mv 36 0) 0 [16,17,18,19],Dr (Mv 37 8) 1 [16,17,18,19],Dr (Mv 38 0) 2 [18,19],Dr (Mv 39 8) 3 [5,18,19],Dr (Mv 40 12) 4 [5,18,19],Dr (Bt 41 .add 3 39 40) 5 [18,19],Dr (Mv 42 0) 6 [10,11,16,17,18,19],Dr (Mv 43 8) 7 [9,10,11,16,17,18,19],Dr (Mv 44 12) 8 [9,10,11,16,17,18,19],Dr (Bt 45 .add 3 43 44) 9 [10,11,16,17,18,19],Dr (Ix 46 2 42 45) 10 [11,16,17,18,19],Db (Ld 47 46) 11 46 [16,17,18,19],Dr (Mv 48 0) 12 [14,15,16,17,18,19],Dr (Mv 49 8) 13 [14,15,16,17,18,19],Dr (Ix 50 2 48 49) 14 [15,16,17,18,19],Db (Ld 51 50) 15 50 [16,17,18,19],Dr (Ix 52 2 36 37) 16 [17,18,19],⟨Sr 2 52 47,17,.blk (T 52),[18,19],true,true⟩,Dr (Ix 53 2 38 41) 18 [19],⟨Sr 2 53 51,19,.blk (T 53),[],true,true⟩])
 (Rg [0,3,8,9,12] [Mv 54 0,Mv 55 9,Mv 56 12,Mv 57 8,Mv 58 3,Ca 59 100 [T 54,T 55,T 56,T 57,T 58] (some (.tup []))])))
 (Rg [0,3,8,9,12] [Mv 34 12,Bc 35 .sub 3 34 .i64 1,As 12 35]))⟩)],
 []⟩
theorem r90_ok : resFun (progU ()) hint live 90 Try.f90 = some r90:=by kernel_rfl
def r91 : RFun :=
⟨.seq (Rg [0,1,2] [Mv 13 2,Mv 14 1,Bt 15 .sub 3 13 14,As 8 15])
 (.seq (Rg [0,1,8] [Mv 16 8,Bc 17 .geq 3 16 .i64 8])
 (.cond (T 17) (.seq (Rg [0,1,8] [Mv 18 8,Ro 19 (.convI .u64 (T 18)),Ro 9 (.new 1 [.int .u64 0]),Sr 1 9 19])
 (.seq (Rg [0,1,8,9] [Mv 20 8,Ca 21 101 [T 20] (some (.val (.one (.int .u64)))),As 10 21])
 (.seq (Rg [0,1,8,9,10] [Mv 22 1,Mv 23 8,Bc 24 .quo 3 23 .i64 4,Bc 25 .mul 3 24 .i64 2,Bt 26 .add 3 22 25,Bc 27 .sub 3 26 .i64 1,As 11 27])
 (.block 0 (.loop 5 (some [0,1,8,9,10,11]) (some [0,1,8,9,10,11]))))))
 .skip)),
 [],
 [(5,⟨some [0,1,8,9,10,11],some [0,1,8,9,10,11],.seq (.seq (Rg [0,1,8,9,10,11] [Mv 28 11,Mv 29 1,Mv 30 8,Bc 31 .quo 3 30 .i64 4,Bc 32 .mul 3 31 .i64 2,Bt 33 .add 3 29 32,Bc 34 .add 3 33 .i64 1,Bt 35 .leq 3 28 34])
 (.cond (T 35) .skip
 (.exit 0 (some []))))
 (.seq (.block 1 (.seq (Rg [0,1,8,9,10,11] [Ca 38 102 [T 9] (some (.val (.one (.int .u64)))),Mv 39 10,Bc 40 .sub 100 39 .u64 1,Bt 41 .and 100 38 40,Ro 42 (.convI .i64 (T 41)),As 12 42])
 (.seq (.seq (Rg [0,1,8,9,10,11,12] [Mv 43 12,Mv 44 8,Bt 45 .geq 3 43 44])
 (.cond (T 45) (Rg [0,1,8,9,10,11,12] [Mv 46 12,Mv 47 8,Bt 48 .sub 3 46 47,As 12 48])
 .skip))
 (.draw (some [0,1,8,9,10,11,12]) 20 [Dr (Mv 49 0) 0 [16,17,18,19],Dr (Mv 50 11) 1 [16,17,18,19],Dr (Mv 51 0) 2 [18,19],Dr (Mv 52 1) 3 [5,18,19],Dr (Mv 53 12) 4 [5,18,19],Dr (Bt 54 .add 3 52 53) 5 [18,19],Dr (Mv 55 0) 6 [10,11,16,17,18,19],Dr (Mv 56 1) 7 [9,10,11,16,17,18,19],Dr (Mv 57 12) 8 [9,10,11,16,17,18,19],Dr (Bt 58 .add 3 56 57) 9 [10,11,16,17,18,19],Dr (Ix 59 2 55 58) 10 [11,16,17,18,19],Db (Ld 60 59) 11 59 [16,17,18,19],Dr (Mv 61 0) 12 [14,15,16,17,18,19],Dr (Mv 62 11) 13 [14,15,16,17,18,19],Dr (Ix 63 2 61 62) 14 [15,16,17,18,19],Db (Ld 64 63) 15 63 [16,17,18,19],Dr (Ix 65 2 49 50) 16 [17,18,19],⟨Sr 2 65 60,17,.blk (T 65),[18,19],true,true⟩,Dr (Ix 66 2 51 54) 18 [19],⟨Sr 2 66 64,19,.blk (T 66),[],true,true⟩]))))
 (Rg [0,1,8,9,10,11] [Mv 36 11,Bc 37 .add 3 36 .i64 1,As 11 37]))⟩)],
 []⟩
theorem r91_ok : resFun (progU ()) hint live 91 Try.f91 = some r91:=by kernel_rfl
def r92 : RFun :=
⟨.seq (Rg [0,1,2,3] [Ac 8 0,Ac 9 0])
 (.seq (Rg [0,1,2,3] [Mv 15 2,Mv 16 1,Bt 17 .sub 3 15 16,As 10 17])
 (.seq (Rg [0,1,3,10] [Ro 11 (.new 1 [.int .i64 0])])
 (.seq (Rg [0,1,3,10,11] [Mv 18 1,Mv 19 10,Bc 20 .quo 3 19 .i64 4,Bc 21 .mul 3 20 .i64 1,Bt 22 .add 3 18 21,As 12 22])
 (.seq (Rg [0,1,3,10,11,12] [Mv 23 1,Mv 24 10,Bc 25 .quo 3 24 .i64 4,Bc 26 .mul 3 25 .i64 2,Bt 27 .add 3 23 26,As 13 27])
 (.seq (Rg [0,1,3,10,11,12,13] [Mv 28 1,Mv 29 10,Bc 30 .quo 3 29 .i64 4,Bc 31 .mul 3 30 .i64 3,Bt 32 .add 3 28 31,As 14 32])
 (.seq (.seq (Rg [0,3,10,11,12,13,14] [Mv 33 10,Bc 34 .geq 3 33 .i64 8])
 (.cond (T 34) (.seq (.seq (Rg [0,3,10,11,12,13,14] [Mv 35 10,Bc 36 .geq 3 35 .i64 50])
 (.cond (T 36) (.seq (Rg [0,3,11,12,13,14] [Mv 37 0,Mv 38 12,Mv 39 3,Ca 40 103 [T 37,T 38,T 11,T 39] vI,As 12 40])
 (.seq (Rg [0,3,11,12,13,14] [Mv 41 0,Mv 42 13,Mv 43 3,Ca 44 103 [T 41,T 42,T 11,T 43] vI,As 13 44])
 (Rg [0,3,11,12,13,14] [Mv 45 0,Mv 46 14,Mv 47 3,Ca 48 103 [T 45,T 46,T 11,T 47] vI,As 14 48])))
 .skip))
 (Rg [0,3,11,12,13,14] [Mv 49 0,Mv 50 12,Mv 51 13,Mv 52 14,Mv 53 3,Ca 54 104 [T 49,T 50,T 51,T 52,T 11,T 53] vI,As 13 54]))
 .skip))
 (.seq (Rg [11,13] [L1 55 11])
 (.block 0 (.seq (Rg [13,55] [Bc 58 .eql 3 55 .i64 0,As 57 58])
 (.cond (T 57) (.seq (Rg [13] [Mv 59 13,As 8 59,Ac 9 1])
 .ret)
 (.seq (Rg [13,55] [Bc 61 .eql 3 55 .i64 12,As 60 61])
 (.cond (T 60) (.seq (Rg [13] [Mv 62 13,As 8 62,Ac 9 2])
 .ret)
 (.seq (Rg [13] [Mv 56 13,As 8 56,Ac 9 0])
 .ret))))))))))))),
 [.tmp 8,.tmp 9],
 [],
 []⟩
theorem r92_ok : resFun (progU ()) hint live 92 Try.f92 = some r92:=by kernel_rfl
def r93 : RFun :=
⟨.seq (Rg [0,1,2] [Mv 10 1,As 8 10])
 (.seq (Rg [0,2,8] [Mv 11 2,Bc 12 .sub 3 11 .i64 1,As 9 12])
 (.block 0 (.loop 2 (some [0,8,9]) (some [0,8,9])))),
 [],
 [(2,⟨some [0,8,9],some [0,8,9],.seq (.seq (Rg [0,8,9] [Mv 13 8,Mv 14 9,Bt 15 .lss 3 13 14])
 (.cond (T 15) .skip
 (.exit 0 (some []))))
 (.block 1 (.seq (.draw (some [0,8,9]) 16 [Dr (Mv 16 0) 0 [12,13,14,15],Dr (Mv 17 8) 1 [12,13,14,15],Dr (Mv 18 0) 2 [14,15],Dr (Mv 19 9) 3 [14,15],Dr (Mv 20 0) 4 [6,7,12,13,14,15],Dr (Mv 21 9) 5 [6,7,12,13,14,15],Dr (Ix 22 2 20 21) 6 [7,12,13,14,15],Db (Ld 23 22) 7 22 [12,13,14,15],Dr (Mv 24 0) 8 [10,11,12,13,14,15],Dr (Mv 25 8) 9 [10,11,12,13,14,15],Dr (Ix 26 2 24 25) 10 [11,12,13,14,15],Db (Ld 27 26) 11 26 [12,13,14,15],Dr (Ix 28 2 16 17) 12 [13,14,15],⟨Sr 2 28 23,13,.blk (T 28),[14,15],true,true⟩,Dr (Ix 29 2 18 19) 14 [15],⟨Sr 2 29 27,15,.blk (T 29),[],true,true⟩])
 (.seq (Rg [0,8,9] [Mv 30 8,Bc 31 .add 3 30 .i64 1,As 8 31])
 (Rg [0,8,9] [Mv 32 9,Bc 33 .sub 3 32 .i64 1,As 9 33]))))⟩)],
 []⟩
theorem r93_ok : resFun (progU ()) hint live 93 Try.f93 = some r93:=by kernel_rfl
