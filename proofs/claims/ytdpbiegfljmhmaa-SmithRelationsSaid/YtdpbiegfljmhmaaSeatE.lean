import Derived.Test.YtdpbiegfljmhmaaSeat0
import Derived.Test.YtdpbiegfljmhmaaSymS
set_option linter.unusedSimpArgs false
set_option linter.unusedVariables false
namespace Go.Proofs.Ytdpbiegfljmhmaa
open Go.Sim
set_option maxRecDepth 100000
def r60 : RFun :=
⟨.seq (Rg [0] [Bo 1 2 0,Ac 2 0])
 (.seq (.seq (Rg [1] [Fa 3 1 1,L1 4 3,Bc 5 .lss 2 4 .i64 1,Mv 6 5,Hf 7 6 (.fieldAddr 1 (T 1)),Hf 8 6 (.load1 (.int .i64) (T 7)),Gf 9 6 (.binOp .gtr 2 (T 8) (Ci 1000000000000000000) 2),Ol 10 (.pick (T 6) (.const (.bool true)) (T 9)),Mv 11 10,Hf 12 11 (.fieldAddr 0 (T 1)),Hf 13 11 (.load1 (.int .i64) (T 12)),Gf 14 11 (.binOp .lss 2 (T 13) (.const (.int .i64 (-1000000000000000000))) 2),Ol 15 (.pick (T 11) (.const (.bool true)) (T 14)),Mv 16 15,Hf 17 16 (.fieldAddr 0 (T 1)),Hf 18 16 (.load1 (.int .i64) (T 17)),Gf 19 16 (.binOp .gtr 2 (T 18) (Ci 1000000000000000000) 2),Ol 20 (.pick (T 16) (.const (.bool true)) (T 19))])
 (.cond (T 20) (.seq (Rg [] [Ac 2 8])
 .ret)
 .skip))
 (.seq (.seq (.draw (some [1]) 8 [Dr (Fa 21 0 1) 0 [1,2,5,6,7],Db (L1 22 21) 1 21 [2,5,6,7],Dr (Fa 24 1 1) 3 [4,5,6,7],Db (L1 25 24) 4 24 [5,6,7],⟨Ca 23 71 [T 22] (some (.val (.one (.int .u64)))),2,.all,[5,6,7],false,false⟩,⟨Ca 26 71 [T 25] (some (.val (.one (.int .u64)))),5,.all,[6,7],false,false⟩,⟨Ca 27 72 [T 23,T 26] (some (.val (.one (.int .u64)))),6,.all,[7],false,false⟩,Dr (Bc 28 .neq 69 27 .u64 1) 7 []])
 (.cond (T 28) (.seq (Rg [] [Ac 2 8])
 .ret)
 .skip))
 (.seq (Rg [] [Ac 2 0])
 .ret))),
 [.tmp 2],
 [],
 []⟩
theorem r60_ok:resFun (progU ()) hint live 60 Try.f60=some r60:=by kernel_rfl
def r61 : RFun :=
⟨.seq (Rg [0] [Bo 1 2 0,Ac 2 0])
 (.seq (.seq (.draw (some [1]) 28 [Dr (Fa 3 1 1) 0 [1,2,3,4,5,6,7,8,9,10,11,12,13,14,15,16,17,18,19,20,21,22,23,24,25,26,27],Db (L1 4 3) 1 3 [2,3,4,5,6,7,8,9,10,11,12,13,14,15,16,17,18,19,20,21,22,23,24,25,26,27],Dr (Bc 5 .lss 2 4 .i64 1) 2 [3,4,5,6,7,8,9,10,11,12,13,14,15,16,17,18,19,20,21,22,23,24,25,26,27],Dr (Mv 6 5) 3 [4,5,6,7,8,9,10,11,12,13,14,15,16,17,18,19,20,21,22,23,24,25,26,27],⟨Hf 7 6 (.fieldAddr 1 (T 1)),4,.none,[5,6,7,8,9,10,11,12,13,14,15,16,17,18,19,20,21,22,23,24,25,26,27],false,true⟩,⟨Hf 8 6 (.load1 (.int .i64) (T 7)),5,.blk (T 7),[6,7,8,9,10,11,12,13,14,15,16,17,18,19,20,21,22,23,24,25,26,27],false,true⟩,⟨Gf 9 6 (.binOp .gtr 2 (T 8) (Ci 1000000000000000000) 2),6,.none,[7,8,9,10,11,12,13,14,15,16,17,18,19,20,21,22,23,24,25,26,27],false,true⟩,Dr (Ol 10 (.pick (T 6) (.const (.bool true)) (T 9))) 7 [8,9,10,11,12,13,14,15,16,17,18,19,20,21,22,23,24,25,26,27],Dr (Mv 11 10) 8 [9,10,11,12,13,14,15,16,17,18,19,20,21,22,23,24,25,26,27],⟨Hf 12 11 (.fieldAddr 0 (T 1)),9,.none,[10,11,12,13,14,15,16,17,18,19,20,21,22,23,24,25,26,27],false,true⟩,⟨Hf 13 11 (.load1 (.int .i64) (T 12)),10,.blk (T 12),[11,12,13,14,15,16,17,18,19,20,21,22,23,24,25,26,27],false,true⟩,⟨Gf 14 11 (.binOp .lss 2 (T 13) (.const (.int .i64 (-1000000000000000000))) 2),11,.none,[12,13,14,15,16,17,18,19,20,21,22,23,24,25,26,27],false,true⟩,Dr (Ol 15 (.pick (T 11) (.const (.bool true)) (T 14))) 12 [13,14,15,16,17,18,19,20,21,22,23,24,25,26,27],Dr (Mv 16 15) 13 [14,15,16,17,18,19,20,21,22,23,24,25,26,27],⟨Hf 17 16 (.fieldAddr 0 (T 1)),14,.none,[15,16,17,18,19,20,21,22,23,24,25,26,27],false,true⟩,⟨Hf 18 16 (.load1 (.int .i64) (T 17)),15,.blk (T 17),[16,17,18,19,20,21,22,23,24,25,26,27],false,true⟩,⟨Gf 19 16 (.binOp .gtr 2 (T 18) (Ci 1000000000000000000) 2),16,.none,[17,18,19,20,21,22,23,24,25,26,27],false,true⟩,Dr (Ol 20 (.pick (T 16) (.const (.bool true)) (T 19))) 17 [18,19,20,21,22,23,24,25,26,27],Dr (Mv 21 20) 18 [19,20,21,22,23,24,25,26,27],⟨Hf 22 21 (.fieldAddr 0 (T 1)),19,.none,[20,21,25,26,27],false,true⟩,⟨Hf 23 21 (.load1 (.int .i64) (T 22)),20,.blk (T 22),[21,25,26,27],false,true⟩,⟨Hf 25 21 (.fieldAddr 1 (T 1)),22,.none,[23,24,25,26,27],false,true⟩,⟨Hf 26 21 (.load1 (.int .i64) (T 25)),23,.blk (T 25),[24,25,26,27],false,true⟩,⟨Hf 27 21 (.convI .u64 (T 26)),24,.cvt (T 26),[25,26,27],false,true⟩,⟨⟨some 24,some (21,false),.call (.func 40) [T 23] (some (.val (.one (.int .u64))))⟩,21,.all,[25,26,27],false,false⟩,⟨⟨some 28,some (21,false),.call (.func 38) [T 24,T 27] (some (.val (.one (.int .u64))))⟩,25,.all,[26,27],false,false⟩,⟨Gf 29 21 (.binOp .neq 69 (T 28) (.const (.int .u64 1)) 69),26,.none,[27],false,true⟩,Dr (Ol 30 (.pick (T 21) (.const (.bool true)) (T 29))) 27 []])
 (.cond (T 30) (.seq (Rg [] [Ac 2 8])
 .ret)
 .skip))
 (.seq (Rg [] [Ac 2 0])
 .ret)),
 [.tmp 2],
 [],
 []⟩
theorem r61_ok:resFun (progU ()) hint live 61 Try.f61=some r61:=by kernel_rfl
def r62 : RFun :=
⟨.seq (Rg [0,1,2] [Ac 6 0])
 (.seq (Rg [0,1,2] [Ac 7 0])
 (.seq (.seq (Rg [0,1,2,7] [Mv 10 1,Ro 11 (.lenS (T 10)),Ol 12 (.move (Ci 0))])
 (.block 0 (.loop 3 none (some [0,2,7,10,11,12]))))
 (.seq (Rg [2,7] [Mv 26 7,Mv 27 2,Mv 28 7,Mv 29 2,Ca 30 68 [T 28,T 29] vI,Bt 31 .mul 3 27 30,Bt 32 .sub 3 26 31,As 6 32])
 .ret))),
 [.tmp 6],
 [(3,⟨none,some [0,2,7,10,11,12],.seq (Rg [0,2,7,10,11,12] [Bt 13 .lss 3 12 11])
 (.seq (.cond (T 13) .skip
 (.exit 0 (some [2,7])))
 (.seq (.block 1 (.seq (Rg [0,2,7,10,11,12] [Mv 14 12,Ix 15 1 10 12,L1 16 15,As 8 14,As 9 16])
 (Rg [0,2,7,8,9,10,11,12] [Mv 17 7,Mv 18 0,Mv 19 8,Ix 20 1 18 19,L1 21 20,Mv 22 9,Bt 23 .mul 3 21 22,Bt 24 .add 3 17 23,As 7 24])))
 (Rg [0,2,7,10,11,12] [Bc 25 .add 3 12 .i64 1,Mv 12 25])))⟩)],
 []⟩
theorem r62_ok:resFun (progU ()) hint live 62 Try.f62=some r62:=by kernel_rfl
def r63 : RFun :=
⟨.seq (Rg [0] [Nw 2 4 [.int .u64 0,.int .u64 0,.int .u64 0,.int .u64 0]])
 (.seq (Rg [0,2] [Mv 3 0,Bc 4 .and 69 3 .u64 4294967295,Mv 5 0,Ol 6 (.binOp .shr 69 (T 5) (.const (.int .u64 32)) 95),Ro 7 (.build [.int .u64 0,.int .u64 0,.int .u64 0,.int .u64 0] [(0,1,(T 4)),(1,1,(T 6)),(2,1,(.const (.int .u64 0))),(3,1,(.const (.int .u64 0)))]),Ro 8 (.build [.int .u64 0,.int .u64 0,.int .u64 0,.int .u64 0] [(0,4,(T 7))]),Sr 4 2 8])
 .ret),
 [.agg 2 4 [.int .u64,.int .u64,.int .u64,.int .u64]],
 [],
 []⟩
theorem r63_ok:resFun (progU ()) hint live 63 Try.f63=some r63:=by kernel_rfl
def r64 : RFun :=
⟨.seq (Rg [0] [Ro 1 (.box 4 (T 0)),Ac 2 0,Ol 3 (.assign (.const (.bool false)))])
 (.seq (Rg [1] [Fa 5 0 1,Ro 6 (.ixA 4 1 (T 5) (Ci 1)),Ro 7 (.load1 (.int .u64) (T 6)),Ol 8 (.binOp .shl 69 (T 7) (.const (.int .u64 32)) 95),Fa 9 0 1,Ro 10 (.ixA 4 1 (T 9) (Ci 0)),Ro 11 (.load1 (.int .u64) (T 10)),Bt 12 .or 69 8 11,As 4 12])
 (.seq (Rg [1,4] [Mv 13 4,Bc 14 .and 69 13 .u64 9223372036854775807,Ro 15 (.convI .i64 (T 14)),Fa 16 0 1,Ro 17 (.ixA 4 1 (T 16) (Ci 2)),Ro 18 (.load1 (.int .u64) (T 17)),Bc 19 .eql 69 18 .u64 0,Mv 20 19,Ht 21 20 (.fieldAddr 0 (T 1)),Ht 22 20 (.ixA 4 1 (T 21) (Ci 3)),Ht 23 20 (.load1 (.int .u64) (T 22)),Gt 24 20 (.binOp .eql 69 (T 23) (.const (.int .u64 0)) 69),Ol 25 (.pick (T 20) (T 24) (.const (.bool false))),Mv 26 25,Gt 27 26 (.move (T 4)),Gt 28 26 (.binOp .leq 69 (T 27) (.const (.int .u64 1000000000000000000)) 69),Ol 29 (.pick (T 26) (T 28) (.const (.bool false))),As 2 15,As 3 29])
 .ret)),
 [.tmp 2,.tmp 3],
 [],
 []⟩
theorem r64_ok:resFun (progU ()) hint live 64 Try.f64=some r64:=by kernel_rfl
def r65 : RFun :=
⟨.seq (Rg [0,1] [Ac 4 0])
 (.seq (Rg [0,1] [Mv 6 0,Mv 7 1,Bt 8 .quo 2 6 7,As 5 8])
 (.seq (.seq (Rg [0,1,5] [Mv 9 0,Mv 10 1,Bt 11 .rem 2 9 10,Bc 12 .lss 2 11 .i64 0])
 (.cond (T 12) (Rg [5] [Mv 13 5,Bc 14 .sub 2 13 .i64 1,As 5 14])
 .skip))
 (.seq (Rg [5] [Mv 15 5,As 4 15])
 .ret))),
 [.tmp 4],
 [],
 []⟩
theorem r65_ok:resFun (progU ()) hint live 65 Try.f65=some r65:=by kernel_rfl
def r66 : RFun :=
⟨.seq (Rg [0] [Bo 1 2 0,Nw 2 2 z2])
 (.seq (Rg [1,2] [Fa 3 0 1,L1 4 3,Ol 5 (.unOp .neg 2 (T 4)),Fa 6 1 1,L1 7 6,Ro 8 (.build z2 [(0,1,(T 5)),(1,1,(T 7))]),Sr 2 2 8])
 .ret),
 [.agg 2 2 [.int .i64,.int .i64]],
 [],
 []⟩
theorem r66_ok:resFun (progU ()) hint live 66 Try.f66=some r66:=by kernel_rfl
def r67 : RFun :=
⟨.seq (Rg [0,1] [Ac 4 0])
 (.seq (.block 0 (.loop 1 (some [0,1]) (some [0,1])))
 (.seq (Rg [0] [Mv 11 0,Mv 12 0,Ol 13 (.unOp .neg 3 (T 12)),⟨some 14,none,.op false (.old (.call ⟨.builtin .max,#[T 11,T 13],#[3,3]⟩))⟩,As 4 14])
 .ret)),
 [.tmp 4],
 [(1,⟨some [0,1],some [0,1],.seq (.seq (Rg [0,1] [Mv 5 1,Bc 6 .neq 3 5 .i64 0])
 (.cond (T 6) .skip
 (.exit 0 (some [0]))))
 (.block 1 (.draw (some [0,1]) 6 [Dr (Mv 7 1) 0 [4,5],Dr (Mv 8 0) 1 [3,4,5],Dr (Mv 9 1) 2 [3,5],Dr (Bt 10 .rem 3 8 9) 3 [5],Dr (As 0 7) 4 [5],Dr (As 1 10) 5 []]))⟩)],
 []⟩
theorem r67_ok:resFun (progU ()) hint live 67 Try.f67=some r67:=by kernel_rfl
def r68 : RFun :=
⟨.seq (Rg [0,1] [Ac 4 0])
 (.seq (Rg [0,1] [Mv 6 0,Mv 7 1,Bt 8 .quo 3 6 7,As 5 8])
 (.seq (.seq (Rg [0,1,5] [Mv 9 0,Mv 10 1,Bt 11 .rem 3 9 10,Bc 12 .lss 3 11 .i64 0])
 (.cond (T 12) (Rg [5] [Mv 13 5,Bc 14 .sub 3 13 .i64 1,As 5 14])
 .skip))
 (.seq (Rg [5] [Mv 15 5,As 4 15])
 .ret))),
 [.tmp 4],
 [],
 []⟩
theorem r68_ok:resFun (progU ()) hint live 68 Try.f68=some r68:=by kernel_rfl
def r71 : RFun :=
⟨.seq (Rg [0] [Ol 2 (.assign (.const (.int .u64 0)))])
 (.seq (.seq (Rg [0] [Mv 3 0,Bc 4 .lss 2 3 .i64 0])
 (.cond (T 4) (.seq (Rg [0] [Mv 5 0,Ro 6 (.convI .u64 (T 5)),Ol 7 (.unOp .neg 69 (T 6)),As 2 7])
 .ret)
 .skip))
 (.seq (Rg [0] [Mv 8 0,Ro 9 (.convI .u64 (T 8)),As 2 9])
 .ret)),
 [.tmp 2],
 [],
 []⟩
theorem r71_ok:resFun (progU ()) hint live 71 Try.f71=some r71:=by kernel_rfl
def r72 : RFun :=
⟨.seq (Rg [0,1] [Ol 4 (.assign (.const (.int .u64 0)))])
 (.seq (.block 0 (.loop 1 (some [0,1]) (some [0,1])))
 (.seq (Rg [0] [Mv 11 0,As 4 11])
 .ret)),
 [.tmp 4],
 [(1,⟨some [0,1],some [0,1],.seq (.seq (Rg [0,1] [Mv 5 1,Bc 6 .neq 69 5 .u64 0])
 (.cond (T 6) .skip
 (.exit 0 (some [0]))))
 (.block 1 (.draw (some [0,1]) 6 [Dr (Mv 7 1) 0 [4,5],Dr (Mv 8 0) 1 [3,4,5],Dr (Mv 9 1) 2 [3,5],Dr (Bt 10 .rem 69 8 9) 3 [5],Dr (As 0 7) 4 [5],Dr (As 1 10) 5 []]))⟩)],
 []⟩
theorem r72_ok:resFun (progU ()) hint live 72 Try.f72=some r72:=by kernel_rfl
def r73 : RFun :=
⟨.seq (Rg [0,1,2] [Nw 6 2 z2,Ac 7 0])
 (.seq (.seq (Rg [0,1,2,6] [Mv 9 1,Bc 10 .gtr 69 9 .u64 1000000000000000000,Mv 11 10,Gf 12 11 (.move (T 2)),Gf 13 11 (.binOp .gtr 69 (T 12) (.const (.int .u64 1000000000000000000)) 69),Ol 14 (.pick (T 11) (.const (.bool true)) (T 13))])
 (.cond (T 14) (.seq (Rg [6] [Ro 15 (.build z2 []),Sr 2 6 15,Ac 7 16])
 .ret)
 .skip))
 (.seq (Rg [0,1,2,6] [Mv 16 1,Ro 17 (.convI .i64 (T 16)),Mv 18 2,Ro 19 (.convI .i64 (T 18)),Ro 20 (.build z2 [(0,1,(T 17)),(1,1,(T 19))]),Nw 8 2 z2,Sr 2 8 20])
 (.seq (.seq (Rg [0,6,8] [Mv 21 0])
 (.cond (T 21) (Rg [6,8] [Fa 22 0 8,L1 23 22,Ol 24 (.unOp .neg 2 (T 23)),Fa 25 0 8,Sr 1 25 24])
 .skip))
 (.seq (Rg [6,8] [Ld 26 8,Sr 2 6 26,Ac 7 0])
 .ret)))),
 [.agg 6 2 [.int .i64,.int .i64],.tmp 7],
 [],
 []⟩
theorem r73_ok:resFun (progU ()) hint live 73 Try.f73=some r73:=by kernel_rfl
def r75 : RFun :=
⟨.seq (Rg [0,1] [Bo 2 2 0,Bo 3 2 1,Nw 4 2 z2,Ac 5 0])
 (.seq (.seq (Rg [2,3,4] [Ld 7 2,Ld 8 3,Ca 9 89 [T 7,T 8] vI,As 6 9])
 (.seq (Rg [2,3,4,6] [Mv 10 6,Bc 11 .neq 28 10 .i64 0])
 (.cond (T 11) (.seq (Rg [4,6] [Ro 12 (.build z2 []),Mv 13 6,Sr 2 4 12,As 5 13])
 .ret)
 .skip)))
 (.seq (Rg [2,3,4] [Ld 14 2,Ld 15 3,Ca 16 90 [T 14,T 15] (some (.tup [.agg s2,.one (.int .i64)])),Ex 17 16 0,Ex 18 16 1,Sr 2 4 17,As 5 18])
 .ret)),
 [.agg 4 2 [.int .i64,.int .i64],.tmp 5],
 [],
 []⟩
theorem r75_ok:resFun (progU ()) hint live 75 Try.f75=some r75:=by kernel_rfl
def r76 : RFun :=
⟨.seq (Rg [0,1] [Bo 2 2 0,Bo 3 2 1,Nw 4 2 z2,Ac 5 0])
 (.seq (.seq (Rg [2,3,4] [Ld 7 2,Ld 8 3,Ca 9 89 [T 7,T 8] vI,As 6 9])
 (.seq (Rg [2,3,4,6] [Mv 10 6,Bc 11 .neq 28 10 .i64 0])
 (.cond (T 11) (.seq (Rg [4,6] [Ro 12 (.build z2 []),Mv 13 6,Sr 2 4 12,As 5 13])
 .ret)
 .skip)))
 (.seq (Rg [2,3,4] [Ld 14 2,Ld 15 3,Ca 16 91 [T 14,T 15] (some (.tup [.agg s2,.one (.int .i64)])),Ex 17 16 0,Ex 18 16 1,Sr 2 4 17,As 5 18])
 .ret)),
 [.agg 4 2 [.int .i64,.int .i64],.tmp 5],
 [],
 []⟩
theorem r76_ok:resFun (progU ()) hint live 76 Try.f76=some r76:=by kernel_rfl
def r78 : RFun :=
⟨.seq (Rg [0,1] [Bo 2 2 0,Bo 3 2 1,Nw 4 2 z2,Ac 5 0])
 (.seq (.seq (Rg [2,3,4] [Ld 7 2,Ld 8 3,Ca 9 89 [T 7,T 8] vI,As 6 9])
 (.seq (Rg [2,3,4,6] [Mv 10 6,Bc 11 .neq 28 10 .i64 0])
 (.cond (T 11) (.seq (Rg [4,6] [Ro 12 (.build z2 []),Mv 13 6,Sr 2 4 12,As 5 13])
 .ret)
 .skip)))
 (.seq (Rg [2,3,4] [Ld 14 2,Fa 15 0 3,L1 16 15,Ol 17 (.unOp .neg 2 (T 16)),Fa 18 1 3,L1 19 18,Ro 20 (.build z2 [(0,1,(T 17)),(1,1,(T 19))]),Ca 21 91 [T 14,T 20] (some (.tup [.agg s2,.one (.int .i64)])),Ex 22 21 0,Ex 23 21 1,Sr 2 4 22,As 5 23])
 .ret)),
 [.agg 4 2 [.int .i64,.int .i64],.tmp 5],
 [],
 []⟩
theorem r78_ok:resFun (progU ()) hint live 78 Try.f78=some r78:=by kernel_rfl
def r79 : RFun :=
⟨.seq (Rg [0] [Ac 2 0])
 (.seq (.cond (.const (.bool false)) (.seq (Rg [0] [Mv 3 0,Ro 4 (.convI .u32 (T 3)),Ca 5 93 [T 4] vI,As 2 5])
 .ret)
 .skip)
 (.seq (Rg [0] [Mv 6 0,Ca 7 94 [T 6] vI,As 2 7])
 .ret)),
 [.tmp 2],
 [],
 []⟩
theorem r79_ok:resFun (progU ()) hint live 79 Try.f79=some r79:=by kernel_rfl
def r80 : RFun :=
⟨.seq (Rg [0,1,2] [Ol 6 (.assign (.const (.pointer none)))])
 (.seq (Rg [0,1,2] [Ro 12 (.build [.int .i64 0,.int .i64 0,.int .i64 0,.int .i64 0,.int .i64 0,.int .i64 0,.int .i64 0,.int .i64 0,.int .i64 0,.int .i64 0,.int .i64 0,.int .i64 0,.int .i64 0,.int .i64 0,.int .i64 0,.int .i64 0,.int .i64 0] []),Ro 13 (.box 17 (T 12)),As 7 13])
 (.seq (.seq (Rg [0,1,2,7] [Mv 14 0,Ro 15 (.lenS (T 14)),Ol 16 (.move (Ci 0))])
 (.block 0 (.loop 3 (some [0,1,2,7,15,16]) (some [0,1,2,7,15,16]))))
 (.seq (Rg [7] [Mv 61 7,As 6 61])
 .ret))),
 [.tmp 6],
 [(3,⟨some [0,1,2,7,15,16],some [0,1,2,7,15,16],.seq (Rg [0,1,2,7,15,16] [Bt 17 .lss 3 16 15])
 (.seq (.cond (T 17) .skip
 (.exit 0 (some [7])))
 (.seq (.block 1 (.seq (Rg [0,1,2,7,15,16] [Mv 18 16,As 8 18])
 (.seq (.seq (Rg [0,1,2,7,8,15,16] [Mv 19 1,Mv 20 8,Bt 21 .shr 3 19 20,Bc 22 .and 3 21 .i64 1,Bc 23 .eql 3 22 .i64 0])
 (.cond (T 23) (.exit 1 (some [0,1,2,7,15,16]))
 .skip))
 (.seq (Rg [0,1,2,7,8,15,16] [Ac 9 0])
 (.seq (.seq (Rg [0,1,2,7,8,9,15,16] [Mv 24 0,Mv 25 8,Ix 26 1 24 25,Ro 27 (.load1 .slice (T 26)),Ro 28 (.lenS (T 27)),Ol 29 (.move (Ci 0))])
 (.block 2 (.loop 8 (some [0,1,2,7,9,15,16,27,28,29]) (some [0,1,2,7,9,15,16,27,28,29]))))
 (Rg [0,1,2,7,15,16] [Mv 53 7,Ol 54 (.nilCheck (T 53)),Fa 55 0 54,L1 56 55,Bc 57 .add 3 56 .i64 1,Ol 58 (.nilCheck (T 53)),Fa 59 0 58,Sr 1 59 57]))))))
 (Rg [0,1,2,7,15,16] [Bc 60 .add 3 16 .i64 1,Mv 16 60])))⟩),(8,⟨some [0,1,2,7,9,15,16,27,28,29],some [0,1,2,7,9,15,16,27,28,29],.seq (Rg [0,1,2,7,9,15,16,27,28,29] [Bt 30 .lss 3 29 28])
 (.seq (.cond (T 30) .skip
 (.exit 2 (some [0,1,2,7,15,16])))
 (.seq (.block 3 (.seq (Rg [0,1,2,7,9,15,16,27,28,29] [Mv 31 29,Ix 32 1 27 29,L1 33 32,As 10 31,As 11 33])
 (.seq (Rg [0,1,2,7,9,10,11,15,16,27,28,29] [Mv 34 2,Mv 35 10,Bt 36 .shr 3 34 35,Bc 37 .and 3 36 .i64 1,Bc 38 .eql 3 37 .i64 1])
 (.cond (T 38) (.seq (.draw (some [0,1,2,7,9,11,15,16,27,28,29]) 12 [Dr (Mv 39 7) 0 [7,8,9,10,11],Dr (Mv 40 7) 1 [2,3,4,9,10,11],Dr (Ol 41 (.nilCheck (T 40))) 2 [3,4,9,10,11],Dr (Fa 42 0 41) 3 [4,9,10,11],Db (L1 43 42) 4 42 [9,10,11],Dr (Mv 44 9) 5 [10,11],Dr (Mv 45 11) 6 [10,11],Dr (Ol 46 (.nilCheck (T 39))) 7 [8,9,10,11],Dr (Fa 47 1 46) 8 [9,10,11],Dr (Ro 48 (.ixA 4 4 (T 47) (T 43))) 9 [10,11],Dr (Ro 49 (.ixA 4 1 (T 48) (T 44))) 10 [11],⟨Sr 1 49 45,11,.blk (T 49),[],true,true⟩])
 (Rg [0,1,2,7,9,15,16,27,28,29] [Mv 50 9,Bc 51 .add 3 50 .i64 1,As 9 51]))
 .skip))))
 (Rg [0,1,2,7,9,15,16,27,28,29] [Bc 52 .add 3 29 .i64 1,Mv 29 52])))⟩)],
 []⟩
theorem r80_ok:resFun (progU ()) hint live 80 Try.f80=some r80:=by kernel_rfl
