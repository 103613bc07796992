import Derived.Test.YtogliemiljhliaaSeat0
import Derived.Test.YtogliemiljhliaaSymS
set_option linter.unusedSimpArgs false
set_option linter.unusedVariables false
namespace Go.Proofs.Ytogliemiljhliaa
open Go.Sim
set_option maxRecDepth 100000
def r79 : RFun :=
⟨.seq (Rg [0,1,2,3] [Ol 8 (.assign (.const (.bool true)))])
 (.seq (Rg [0,1,2,3,8] [Ol 9 (.assign (.const (.bool true)))])
 (.block 0 (.loop 2 (some [0,1,2,3,8,9]) (some [0,1,2,3,8,9])))),
 [],
 [(2,⟨some [0,1,2,3,8,9],some [0,1,2,3,8,9],.block 1 (.seq (Rg [0,1,2,3,8,9] [Mv 19 2,Mv 20 1,Bt 21 .sub 3 19 20,As 10 21])
 (.seq (.seq (Rg [0,1,2,3,8,9,10] [Mv 22 10,Bc 23 .leq 3 22 .i64 12])
 (.cond (T 23) (.seq (Rg [0,1,2] [Mv 24 0,Mv 25 1,Mv 26 2,Ca 27 93 [T 24,T 25,T 26] (some (.tup []))])
 .ret)
 .skip))
 (.seq (.seq (Rg [0,1,2,3,8,9,10] [Mv 28 3,Bc 29 .eql 3 28 .i64 0])
 (.cond (T 29) (.seq (Rg [0,1,2] [Mv 30 0,Mv 31 1,Mv 32 2,Ca 33 94 [T 30,T 31,T 32] (some (.tup []))])
 .ret)
 .skip))
 (.seq (.seq (Rg [0,1,2,3,8,9,10] [Mv 34 8,Ol 35 (.unOp .not 4 (T 34))])
 (.cond (T 35) (.seq (Rg [0,1,2,3,8,9,10] [Mv 36 0,Mv 37 1,Mv 38 2,Ca 39 95 [T 36,T 37,T 38] (some (.tup []))])
 (Rg [0,1,2,3,8,9,10] [Mv 40 3,Bc 41 .sub 3 40 .i64 1,As 3 41]))
 .skip))
 (.seq (Rg [0,1,2,3,8,9,10] [Mv 43 0,Mv 44 1,Mv 45 2,Ca 46 96 [T 43,T 44,T 45] (some (.tup [.one (.int .i64),.one (.int .i64)])),Mv 42 46,Ex 47 42 0,Ex 48 42 1,As 11 47,As 12 48])
 (.seq (.seq (Rg [0,1,2,3,8,9,10,11,12] [Mv 49 12,Bc 50 .eql 134 49 .i64 2])
 (.cond (T 50) (.seq (Rg [0,1,2,3,8,9,10,11] [Mv 51 0,Mv 52 1,Mv 53 2,Ca 54 97 [T 51,T 52,T 53] (some (.tup []))])
 (.seq (Rg [0,1,2,3,8,9,10,11] [Mv 55 2,Bc 56 .sub 3 55 .i64 1,Mv 57 11,Mv 58 1,Bt 59 .sub 3 57 58,Bt 60 .sub 3 56 59,As 11 60])
 (Rg [0,1,2,3,8,9,10,11] [Ac 12 1])))
 .skip))
 (.seq (.seq (Rg [0,1,2,3,8,9,10,11,12] [Mv 61 8,Mv 62 61,Gt 63 62 (.move (T 9)),Ol 64 (.pick (T 62) (T 63) (.const (.bool false))),Mv 65 64,Gt 66 65 (.move (T 12)),Gt 67 65 (.binOp .eql 134 (T 66) (Ci 1) 134),Ol 68 (.pick (T 65) (T 67) (.const (.bool false)))])
 (.cond (T 68) (.seq (Rg [0,1,2,3,8,9,10,11] [Mv 69 0,Mv 70 1,Mv 71 2,Ca 72 98 [T 69,T 70,T 71] vB])
 (.cond (T 72) .ret
 .skip))
 .skip))
 (.seq (.seq (.draw (some [0,1,2,3,8,9,10,11]) 15 [Dr (Mv 73 1) 0 [1,2,3,4,5,6,7,8,9,10,11,12,13,14],Dr (Bc 74 .gtr 3 73 .i64 0) 1 [2,3,4,5,6,7,8,9,10,11,12,13,14],Dr (Mv 75 74) 2 [3,4,5,6,7,8,9,10,11,12,13,14],⟨Gt 76 75 (.move (T 0)),3,.none,[6,7,12,13,14],false,true⟩,⟨Gt 77 75 (.move (T 1)),4,.none,[5,6,7,12,13,14],false,true⟩,⟨Gt 78 75 (.binOp .sub 3 (T 77) (Ci 1) 3),5,.none,[6,7,12,13,14],false,true⟩,⟨Ht 79 75 (.ixS 1 (T 76) (T 78)),6,.none,[7,12,13,14],false,true⟩,⟨Ht 80 75 (.load1 (.int .i64) (T 79)),7,.blk (T 79),[12,13,14],false,true⟩,⟨Gt 81 75 (.move (T 0)),8,.none,[10,11,12,13,14],false,true⟩,⟨Gt 82 75 (.move (T 11)),9,.none,[10,11,12,13,14],false,true⟩,⟨Ht 83 75 (.ixS 1 (T 81) (T 82)),10,.none,[11,12,13,14],false,true⟩,⟨Ht 84 75 (.load1 (.int .i64) (T 83)),11,.blk (T 83),[12,13,14],false,true⟩,⟨⟨some 85,some (75,true),.call (.func 99) [T 80,T 84] vB⟩,12,.all,[13,14],false,false⟩,⟨Gt 86 75 (.unOp .not 4 (T 85)),13,.none,[14],false,true⟩,Dr (Ol 87 (.pick (T 75) (T 86) (.const (.bool false)))) 14 []])
 (.cond (T 87) (.seq (Rg [0,1,2,3,8,9,11] [Mv 88 0,Mv 89 1,Mv 90 2,Mv 91 11,Ca 92 100 [T 88,T 89,T 90,T 91] vI,As 13 92])
 (.seq (Rg [0,2,3,8,9,13] [Mv 93 13,As 1 93])
 (.exit 1 (some [0,1,2,3,8,9]))))
 .skip))
 (.seq (Rg [0,1,2,3,10,11] [Mv 95 0,Mv 96 1,Mv 97 2,Mv 98 11,Ca 99 101 [T 95,T 96,T 97,T 98] (some (.tup [.one (.int .i64),.one .bool])),Mv 94 99,Ex 100 94 0,Ex 101 94 1,As 14 100,As 15 101])
 (.seq (Rg [0,1,2,3,10,14,15] [Mv 102 15,As 9 102])
 (.seq (Rg [0,1,2,3,9,10,14] [Mv 103 14,Mv 104 1,Bt 105 .sub 3 103 104,Mv 106 2,Mv 107 14,Bt 108 .sub 3 106 107,As 16 105,As 17 108])
 (.seq (Rg [0,1,2,3,9,10,14,16,17] [Mv 109 10,Bc 110 .quo 3 109 .i64 8,As 18 110])
 (.seq (Rg [0,1,2,3,9,14,16,17,18] [Mv 111 16,Mv 112 17,Bt 113 .lss 3 111 112])
 (.cond (T 113) (.seq (Rg [0,1,2,3,9,14,16,18] [Mv 114 16,Mv 115 18,Bt 116 .geq 3 114 115,As 8 116])
 (.seq (Rg [0,1,2,3,8,9,14] [Mv 117 0,Mv 118 1,Mv 119 14,Mv 120 3,Ca 121 79 [T 117,T 118,T 119,T 120] (some (.tup []))])
 (Rg [0,2,3,8,9,14] [Mv 122 14,Bc 123 .add 3 122 .i64 1,As 1 123])))
 (.seq (Rg [0,1,2,3,9,14,17,18] [Mv 124 17,Mv 125 18,Bt 126 .geq 3 124 125,As 8 126])
 (.seq (Rg [0,1,2,3,8,9,14] [Mv 127 0,Mv 128 14,Bc 129 .add 3 128 .i64 1,Mv 130 2,Mv 131 3,Ca 132 79 [T 127,T 129,T 130,T 131] (some (.tup []))])
 (Rg [0,1,3,8,9,14] [Mv 133 14,As 2 133])))))))))))))))))⟩)],
 []⟩
theorem r79_ok:resFun (progU ()) hint live 79 Try.f79=some r79:=by kernel_rfl
def r80 : RFun :=
⟨.seq (Rg [0] [Ac 2 0])
 (.seq (.cond (.const (.bool false)) (.seq (Rg [0] [Mv 3 0,Ro 4 (.convI .u32 (T 3)),Ca 5 102 [T 4] vI,As 2 5])
 .ret)
 .skip)
 (.seq (Rg [0] [Mv 6 0,Ca 7 103 [T 6] vI,As 2 7])
 .ret)),
 [.tmp 2],
 [],
 []⟩
theorem r80_ok:resFun (progU ()) hint live 80 Try.f80=some r80:=by kernel_rfl
def r82 : RFun :=
⟨.seq (Rg [0] [Ro 1 (.box 4 (T 0)),Ac 2 0,Ol 3 (.assign (.const (.bool false)))])
 (.seq (Rg [1] [Fa 5 0 1,Ro 6 (.ixA 4 1 (T 5) (Ci 1)),Ro 7 (.load1 (.int .u64) (T 6)),Ol 8 (.binOp .shl 100 (T 7) (.const (.int .u64 32)) 122),Fa 9 0 1,Ro 10 (.ixA 4 1 (T 9) (Ci 0)),Ro 11 (.load1 (.int .u64) (T 10)),Bt 12 .or 100 8 11,As 4 12])
 (.seq (Rg [1,4] [Mv 13 4,Bc 14 .and 100 13 .u64 9223372036854775807,Ro 15 (.convI .i64 (T 14)),Fa 16 0 1,Ro 17 (.ixA 4 1 (T 16) (Ci 2)),Ro 18 (.load1 (.int .u64) (T 17)),Bc 19 .eql 100 18 .u64 0,Mv 20 19,Ht 21 20 (.fieldAddr 0 (T 1)),Ht 22 20 (.ixA 4 1 (T 21) (Ci 3)),Ht 23 20 (.load1 (.int .u64) (T 22)),Gt 24 20 (.binOp .eql 100 (T 23) (.const (.int .u64 0)) 100),Ol 25 (.pick (T 20) (T 24) (.const (.bool false))),Mv 26 25,Gt 27 26 (.move (T 4)),Gt 28 26 (.binOp .leq 100 (T 27) (.const (.int .u64 1000000000000000000)) 100),Ol 29 (.pick (T 26) (T 28) (.const (.bool false))),As 2 15,As 3 29])
 .ret)),
 [.tmp 2,.tmp 3],
 [],
 []⟩
theorem r82_ok:resFun (progU ()) hint live 82 Try.f82=some r82:=by kernel_rfl
def r83 : RFun :=
⟨.seq (Rg [0] [Nw 2 4 [.int .u64 0,.int .u64 0,.int .u64 0,.int .u64 0]])
 (.seq (Rg [0,2] [Mv 3 0,Bc 4 .and 100 3 .u64 4294967295,Mv 5 0,Ol 6 (.binOp .shr 100 (T 5) (.const (.int .u64 32)) 122),Ro 7 (.build [.int .u64 0,.int .u64 0,.int .u64 0,.int .u64 0] [(0,1,(T 4)),(1,1,(T 6)),(2,1,(.const (.int .u64 0))),(3,1,(.const (.int .u64 0)))]),Ro 8 (.build [.int .u64 0,.int .u64 0,.int .u64 0,.int .u64 0] [(0,4,(T 7))]),Sr 4 2 8])
 .ret),
 [.agg 2 4 [.int .u64,.int .u64,.int .u64,.int .u64]],
 [],
 []⟩
theorem r83_ok:resFun (progU ()) hint live 83 Try.f83=some r83:=by kernel_rfl
def r84 : RFun :=
⟨.seq (Rg [0] [Ol 2 (.assign (.const (.int .u64 0)))])
 (.seq (.seq (Rg [0] [Mv 3 0,Bc 4 .lss 2 3 .i64 0])
 (.cond (T 4) (.seq (Rg [0] [Mv 5 0,Ro 6 (.convI .u64 (T 5)),Ol 7 (.unOp .neg 100 (T 6)),As 2 7])
 .ret)
 .skip))
 (.seq (Rg [0] [Mv 8 0,Ro 9 (.convI .u64 (T 8)),As 2 9])
 .ret)),
 [.tmp 2],
 [],
 []⟩
theorem r84_ok:resFun (progU ()) hint live 84 Try.f84=some r84:=by kernel_rfl
def r85 : RFun :=
⟨.seq (Rg [0,1] [Ol 4 (.assign (.const (.int .u64 0)))])
 (.seq (.block 0 (.loop 1 (some [0,1]) (some [0,1])))
 (.seq (Rg [0] [Mv 11 0,As 4 11])
 .ret)),
 [.tmp 4],
 [(1,⟨some [0,1],some [0,1],.seq (.seq (Rg [0,1] [Mv 5 1,Bc 6 .neq 100 5 .u64 0])
 (.cond (T 6) .skip
 (.exit 0 (some [0]))))
 (.block 1 (.draw (some [0,1]) 6 [Dr (Mv 7 1) 0 [4,5],Dr (Mv 8 0) 1 [3,4,5],Dr (Mv 9 1) 2 [3,5],Dr (Bt 10 .rem 100 8 9) 3 [5],Dr (As 0 7) 4 [5],Dr (As 1 10) 5 []]))⟩)],
 []⟩
theorem r85_ok:resFun (progU ()) hint live 85 Try.f85=some r85:=by kernel_rfl
def r86 : RFun :=
⟨.seq (Rg [0,1,2] [Nw 6 2 z2,Ac 7 0])
 (.seq (.seq (Rg [0,1,2,6] [Mv 9 1,Bc 10 .gtr 100 9 .u64 1000000000000000000,Mv 11 10,Gf 12 11 (.move (T 2)),Gf 13 11 (.binOp .gtr 100 (T 12) (.const (.int .u64 1000000000000000000)) 100),Ol 14 (.pick (T 11) (.const (.bool true)) (T 13))])
 (.cond (T 14) (.seq (Rg [6] [Ro 15 (.build z2 []),Sr 2 6 15,Ac 7 16])
 .ret)
 .skip))
 (.seq (Rg [0,1,2,6] [Mv 16 1,Ro 17 (.convI .i64 (T 16)),Mv 18 2,Ro 19 (.convI .i64 (T 18)),Ro 20 (.build z2 [(0,1,(T 17)),(1,1,(T 19))]),Nw 8 2 z2,Sr 2 8 20])
 (.seq (.seq (Rg [0,6,8] [Mv 21 0])
 (.cond (T 21) (Rg [6,8] [Fa 22 0 8,L1 23 22,Ol 24 (.unOp .neg 2 (T 23)),Fa 25 0 8,Sr 1 25 24])
 .skip))
 (.seq (Rg [6,8] [Ld 26 8,Sr 2 6 26,Ac 7 0])
 .ret)))),
 [.agg 6 2 [.int .i64,.int .i64],.tmp 7],
 [],
 []⟩
theorem r86_ok:resFun (progU ()) hint live 86 Try.f86=some r86:=by kernel_rfl
def r87 : RFun :=
⟨.seq (Rg [0,1] [Ol 4 (.assign (.const (.int .u64 0))),Ol 5 (.assign (.const (.int .u64 0)))])
 (.seq (Rg [0,1] [Mv 14 0,Bc 15 .and 100 14 .u64 4294967295,As 6 15])
 (.seq (Rg [0,1,6] [Mv 16 0,Ol 17 (.binOp .shr 100 (T 16) (.const (.int .u64 32)) 122),As 7 17])
 (.seq (Rg [0,1,6,7] [Mv 18 1,Bc 19 .and 100 18 .u64 4294967295,As 8 19])
 (.seq (Rg [0,1,6,7,8] [Mv 20 1,Ol 21 (.binOp .shr 100 (T 20) (.const (.int .u64 32)) 122),As 9 21])
 (.seq (Rg [0,1,6,7,8,9] [Mv 22 6,Mv 23 8,Bt 24 .mul 100 22 23,As 10 24])
 (.seq (Rg [0,1,6,7,8,9,10] [Mv 25 7,Mv 26 8,Bt 27 .mul 100 25 26,Mv 28 10,Ol 29 (.binOp .shr 100 (T 28) (.const (.int .u64 32)) 122),Bt 30 .add 100 27 29,As 11 30])
 (.seq (Rg [0,1,6,7,9,11] [Mv 31 11,Bc 32 .and 100 31 .u64 4294967295,As 12 32])
 (.seq (Rg [0,1,6,7,9,11,12] [Mv 33 11,Ol 34 (.binOp .shr 100 (T 33) (.const (.int .u64 32)) 122),As 13 34])
 (.seq (Rg [0,1,6,7,9,12,13] [Mv 35 12,Mv 36 6,Mv 37 9,Bt 38 .mul 100 36 37,Bt 39 .add 100 35 38,As 12 39])
 (.seq (Rg [0,1,7,9,12,13] [Mv 40 7,Mv 41 9,Bt 42 .mul 100 40 41,Mv 43 13,Bt 44 .add 100 42 43,Mv 45 12,Ol 46 (.binOp .shr 100 (T 45) (.const (.int .u64 32)) 122),Bt 47 .add 100 44 46,As 4 47])
 (.seq (Rg [0,1,4] [Mv 48 0,Mv 49 1,Bt 50 .mul 100 48 49,As 5 50])
 .ret))))))))))),
 [.tmp 4,.tmp 5],
 [],
 []⟩
theorem r87_ok:resFun (progU ()) hint live 87 Try.f87=some r87:=by kernel_rfl
def r89 : RFun :=
⟨.seq (Rg [0,1,2,3] [Ac 8 0])
 (.seq (.block 0 (.seq (Rg [0,1,2,3] [Mv 10 0,Mv 11 2,Bt 12 .gtr 100 10 11,Mv 13 12,Gf 14 13 (.move (T 0)),Gf 15 13 (.move (T 2)),Gf 16 13 (.binOp .eql 100 (T 14) (T 15) 100),Gf 17 13 (.move (T 16)),Gt 18 17 (.move (T 1)),Gt 19 17 (.move (T 3)),Gt 20 17 (.binOp .gtr 100 (T 18) (T 19) 100),Gf 21 13 (.pick (T 17) (T 20) (.const (.bool false))),Ol 22 (.pick (T 13) (.const (.bool true)) (T 21)),As 9 22])
 (.cond (T 9) (.seq (Rg [] [Ac 8 1])
 .ret)
 (.seq (Rg [0,1,2,3] [Mv 24 0,Mv 25 2,Bt 26 .eql 100 24 25,Mv 27 26,Gt 28 27 (.move (T 1)),Gt 29 27 (.move (T 3)),Gt 30 27 (.binOp .eql 100 (T 28) (T 29) 100),Ol 31 (.pick (T 27) (T 30) (.const (.bool false))),As 23 31])
 (.cond (T 23) (.seq (Rg [] [Ac 8 0])
 .ret)
 .skip)))))
 (.seq (Rg [] [Ol 8 (.assign (.const (.int .i64 (-1))))])
 .ret)),
 [.tmp 8],
 [],
 []⟩
theorem r89_ok:resFun (progU ()) hint live 89 Try.f89=some r89:=by kernel_rfl
def r91 : RFun :=
⟨.seq (Rg [0,1,2] [Ol 6 (.assign (.const (.int .u64 0)))])
 (.seq (Rg [0,1,2] [Mv 10 0,Mv 11 2,Bt 12 .rem 100 10 11,Mv 13 1,Mv 14 2,Ca 15 92 [T 12,T 13,T 14] (some (.tup [.one (.int .u64),.one (.int .u64)])),Mv 9 15,Ex 16 9 0,Ex 17 9 1,As 7 16,As 8 17])
 (.seq (Rg [8] [Mv 18 8,As 6 18])
 .ret)),
 [.tmp 6],
 [],
 []⟩
theorem r91_ok:resFun (progU ()) hint live 91 Try.f91=some r91:=by kernel_rfl
def r92 : RFun :=
⟨.seq (Rg [0,1,2] [Ol 6 (.assign (.const (.int .u64 0))),Ol 7 (.assign (.const (.int .u64 0)))])
 (.seq (.seq (Rg [0,1,2] [Mv 19 2,Bc 20 .eql 100 19 .u64 0])
 (.cond (T 20) (Rg [0,1,2] [Ro 21 (.load1 .any (.global 0)),⟨none,none,.op false (.old (.panic (T 21)))⟩])
 .skip))
 (.seq (.seq (Rg [0,1,2] [Mv 22 2,Mv 23 0,Bt 24 .leq 100 22 23])
 (.cond (T 24) (Rg [0,1,2] [Ro 25 (.load1 .any (.global 1)),⟨none,none,.op false (.old (.panic (T 25)))⟩])
 .skip))
 (.seq (.seq (Rg [0,1,2] [Mv 26 0,Bc 27 .eql 100 26 .u64 0])
 (.cond (T 27) (.seq (.draw (some [1,2]) 8 [Dr (Mv 28 1) 0 [2,6,7],Dr (Mv 29 2) 1 [2,6,7],Dr (Bt 30 .quo 100 28 29) 2 [6,7],Dr (Mv 31 1) 3 [5,7],Dr (Mv 32 2) 4 [5,7],Dr (Bt 33 .rem 100 31 32) 5 [7],Dr (As 6 30) 6 [7],Dr (As 7 33) 7 []])
 .ret)
 .skip))
 (.seq (Rg [0,1,2] [Mv 34 2,Ca 35 104 [T 34] vI,Ro 36 (.convI .u64 (T 35)),As 8 36])
 (.seq (Rg [0,1,2,8] [Mv 37 2,Mv 38 8,Ol 39 (.binOp .shl 100 (T 37) (T 38) 122),As 2 39])
 (.seq (Rg [0,1,2,8] [Mv 40 2,Ol 41 (.binOp .shr 100 (T 40) (.const (.int .u64 32)) 122),As 9 41])
 (.seq (Rg [0,1,2,8,9] [Mv 42 2,Bc 43 .and 100 42 .u64 4294967295,As 10 43])
 (.seq (Rg [0,1,2,8,9,10] [Mv 44 0,Mv 45 8,Ol 46 (.binOp .shl 100 (T 44) (T 45) 122),Mv 47 1,Mv 48 8,Ol 49 (.binOp .sub 122 (.const (.int .u64 64)) (T 48) 122),Ol 50 (.binOp .shr 100 (T 47) (T 49) 122),Bt 51 .or 100 46 50,As 11 51])
 (.seq (Rg [1,2,8,9,10,11] [Mv 52 1,Mv 53 8,Ol 54 (.binOp .shl 100 (T 52) (T 53) 122),As 12 54])
 (.seq (Rg [2,8,9,10,11,12] [Mv 55 12,Ol 56 (.binOp .shr 100 (T 55) (.const (.int .u64 32)) 122),As 13 56])
 (.seq (Rg [2,8,9,10,11,12,13] [Mv 57 12,Bc 58 .and 100 57 .u64 4294967295,As 14 58])
 (.seq (Rg [2,8,9,10,11,13,14] [Mv 59 11,Mv 60 9,Bt 61 .quo 100 59 60,As 15 61])
 (.seq (Rg [2,8,9,10,11,13,14,15] [Mv 62 11,Mv 63 15,Mv 64 9,Bt 65 .mul 100 63 64,Bt 66 .sub 100 62 65,As 16 66])
 (.seq (.block 0 (.loop 17 none (some [2,8,9,10,11,13,14,15,16])))
 (.seq (Rg [2,8,9,10,11,13,14,15] [Mv 86 11,Bc 87 .mul 100 86 .u64 4294967296,Mv 88 13,Bt 89 .add 100 87 88,Mv 90 15,Mv 91 2,Bt 92 .mul 100 90 91,Bt 93 .sub 100 89 92,As 17 93])
 (.seq (Rg [2,8,9,10,14,15,17] [Mv 94 17,Mv 95 9,Bt 96 .quo 100 94 95,As 18 96])
 (.seq (Rg [2,8,9,10,14,15,17,18] [Mv 97 17,Mv 98 18,Mv 99 9,Bt 100 .mul 100 98 99,Bt 101 .sub 100 97 100,As 16 101])
 (.seq (.block 2 (.loop 24 none (some [2,8,9,10,14,15,16,17,18])))
 (.seq (Rg [2,8,14,15,17,18] [Mv 121 15,Bc 122 .mul 100 121 .u64 4294967296,Mv 123 18,Bt 124 .add 100 122 123,Mv 125 17,Bc 126 .mul 100 125 .u64 4294967296,Mv 127 14,Bt 128 .add 100 126 127,Mv 129 18,Mv 130 2,Bt 131 .mul 100 129 130,Bt 132 .sub 100 128 131,Mv 133 8,Ol 134 (.binOp .shr 100 (T 132) (T 133) 122),As 6 124,As 7 134])
 .ret))))))))))))))))))),
 [.tmp 6,.tmp 7],
 [(17,⟨none,some [2,8,9,10,11,13,14,15,16],.seq (.seq (Rg [2,8,9,10,11,13,14,15,16] [Mv 67 15,Bc 68 .geq 100 67 .u64 4294967296,Mv 69 68,Gf 70 69 (.move (T 15)),Gf 71 69 (.move (T 10)),Gf 72 69 (.binOp .mul 100 (T 70) (T 71) 100),Gf 73 69 (.move (T 16)),Gf 74 69 (.binOp .mul 100 (.const (.int .u64 4294967296)) (T 73) 100),Gf 75 69 (.move (T 13)),Gf 76 69 (.binOp .add 100 (T 74) (T 75) 100),Gf 77 69 (.binOp .gtr 100 (T 72) (T 76) 100),Ol 78 (.pick (T 69) (.const (.bool true)) (T 77))])
 (.cond (T 78) .skip
 (.exit 0 (some [2,8,9,10,11,13,14,15]))))
 (.block 1 (.seq (Rg [2,8,9,10,11,13,14,15,16] [Mv 79 15,Bc 80 .sub 100 79 .u64 1,As 15 80])
 (.seq (Rg [2,8,9,10,11,13,14,15,16] [Mv 81 16,Mv 82 9,Bt 83 .add 100 81 82,As 16 83])
 (.seq (Rg [2,8,9,10,11,13,14,15,16] [Mv 84 16,Bc 85 .geq 100 84 .u64 4294967296])
 (.cond (T 85) (.exit 0 (some [2,8,9,10,11,13,14,15]))
 .skip)))))⟩),(24,⟨none,some [2,8,9,10,14,15,16,17,18],.seq (.seq (Rg [2,8,9,10,14,15,16,17,18] [Mv 102 18,Bc 103 .geq 100 102 .u64 4294967296,Mv 104 103,Gf 105 104 (.move (T 18)),Gf 106 104 (.move (T 10)),Gf 107 104 (.binOp .mul 100 (T 105) (T 106) 100),Gf 108 104 (.move (T 16)),Gf 109 104 (.binOp .mul 100 (.const (.int .u64 4294967296)) (T 108) 100),Gf 110 104 (.move (T 14)),Gf 111 104 (.binOp .add 100 (T 109) (T 110) 100),Gf 112 104 (.binOp .gtr 100 (T 107) (T 111) 100),Ol 113 (.pick (T 104) (.const (.bool true)) (T 112))])
 (.cond (T 113) .skip
 (.exit 2 (some [2,8,14,15,17,18]))))
 (.block 3 (.seq (Rg [2,8,9,10,14,15,16,17,18] [Mv 114 18,Bc 115 .sub 100 114 .u64 1,As 18 115])
 (.seq (Rg [2,8,9,10,14,15,16,17,18] [Mv 116 16,Mv 117 9,Bt 118 .add 100 116 117,As 16 118])
 (.seq (Rg [2,8,9,10,14,15,16,17,18] [Mv 119 16,Bc 120 .geq 100 119 .u64 4294967296])
 (.cond (T 120) (.exit 2 (some [2,8,14,15,17,18]))
 .skip)))))⟩)],
 []⟩
theorem r92_ok:resFun (progU ()) hint live 92 Try.f92=some r92:=by kernel_rfl
def r93 : RFun :=
⟨.seq (Rg [0,1,2] [Mv 8 1,Bc 9 .add 3 8 .i64 1,As 6 9])
 (.block 0 (.loop 1 (some [0,1,2,6]) (some [0,1,2,6]))),
 [],
 [(1,⟨some [0,1,2,6],some [0,1,2,6],.seq (.seq (Rg [0,1,2,6] [Mv 10 6,Mv 11 2,Bt 12 .lss 3 10 11])
 (.cond (T 12) .skip
 (.exit 0 (some []))))
 (.seq (.block 1 (.seq (Rg [0,1,2,6] [Mv 15 6,As 7 15])
 (.block 2 (.loop 4 (some [0,1,2,6,7]) (some [0,1,2,6,7])))))
 (Rg [0,1,2,6] [Mv 13 6,Bc 14 .add 3 13 .i64 1,As 6 14]))⟩),(4,⟨some [0,1,2,6,7],some [0,1,2,6,7],.seq (.seq (.draw (some [0,1,2,6,7]) 15 [Dr (Mv 16 7) 0 [2,3,4,5,6,7,8,9,10,11,12,13,14],Dr (Mv 17 1) 1 [2,3,4,5,6,7,8,9,10,11,12,13,14],Dr (Bt 18 .gtr 3 16 17) 2 [3,4,5,6,7,8,9,10,11,12,13,14],Dr (Mv 19 18) 3 [4,5,6,7,8,9,10,11,12,13,14],⟨Gt 20 19 (.move (T 0)),4,.none,[6,7,13,14],false,true⟩,⟨Gt 21 19 (.move (T 7)),5,.none,[6,7,13,14],false,true⟩,⟨Ht 22 19 (.ixS 1 (T 20) (T 21)),6,.none,[7,13,14],false,true⟩,⟨Ht 23 19 (.load1 (.int .i64) (T 22)),7,.blk (T 22),[13,14],false,true⟩,⟨Gt 24 19 (.move (T 0)),8,.none,[11,12,13,14],false,true⟩,⟨Gt 25 19 (.move (T 7)),9,.none,[10,11,12,13,14],false,true⟩,⟨Gt 26 19 (.binOp .sub 3 (T 25) (Ci 1) 3),10,.none,[11,12,13,14],false,true⟩,⟨Ht 27 19 (.ixS 1 (T 24) (T 26)),11,.none,[12,13,14],false,true⟩,⟨Ht 28 19 (.load1 (.int .i64) (T 27)),12,.blk (T 27),[13,14],false,true⟩,⟨⟨some 29,some (19,true),.call (.func 99) [T 23,T 28] vB⟩,13,.all,[14],false,false⟩,Dr (Ol 30 (.pick (T 19) (T 29) (.const (.bool false)))) 14 []])
 (.cond (T 30) .skip
 (.exit 2 (some [0,1,2,6]))))
 (.seq (.block 3 (.draw (some [0,1,2,6,7]) 18 [Dr (Mv 33 0) 0 [14,15,16,17],Dr (Mv 34 7) 1 [14,15,16,17],Dr (Mv 35 0) 2 [16,17],Dr (Mv 36 7) 3 [4,16,17],Dr (Bc 37 .sub 3 36 .i64 1) 4 [16,17],Dr (Mv 38 0) 5 [8,9,14,15,16,17],Dr (Mv 39 7) 6 [7,8,9,14,15,16,17],Dr (Bc 40 .sub 3 39 .i64 1) 7 [8,9,14,15,16,17],Dr (Ix 41 1 38 40) 8 [9,14,15,16,17],Db (L1 42 41) 9 41 [14,15,16,17],Dr (Mv 43 0) 10 [12,13,14,15,16,17],Dr (Mv 44 7) 11 [12,13,14,15,16,17],Dr (Ix 45 1 43 44) 12 [13,14,15,16,17],Db (L1 46 45) 13 45 [14,15,16,17],Dr (Ix 47 1 33 34) 14 [15,16,17],⟨Sr 1 47 42,15,.blk (T 47),[16,17],true,true⟩,Dr (Ix 48 1 35 37) 16 [17],⟨Sr 1 48 46,17,.blk (T 48),[],true,true⟩]))
 (Rg [0,1,2,6,7] [Mv 31 7,Bc 32 .sub 3 31 .i64 1,As 7 32]))⟩)],
 []⟩
theorem r93_ok:resFun (progU ()) hint live 93 Try.f93=some r93:=by kernel_rfl
def r99 : RFun :=
⟨.seq (Rg [0,1] [Ol 4 (.assign (.const (.bool false)))])
 (.seq (Rg [0,1] [Mv 5 0,Ca 6 110 [T 5] vB,Mv 7 6,Gt 8 7 (.move (T 1)),⟨some 9,some (7,true),.call (.func 110) [T 8] vB⟩,Gt 10 7 (.unOp .not 4 (T 9)),Ol 11 (.pick (T 7) (T 10) (.const (.bool false))),Mv 12 11,Gf 13 12 (.move (T 0)),Gf 14 12 (.move (T 1)),Gf 15 12 (.binOp .lss 3 (T 13) (T 14) 3),Ol 16 (.pick (T 12) (.const (.bool true)) (T 15)),As 4 16])
 .ret),
 [.tmp 4],
 [],
 []⟩
theorem r99_ok:resFun (progU ()) hint live 99 Try.f99=some r99:=by kernel_rfl
