import Derived.Test.YtogliemiljhliaaSeat0
import Derived.Test.YtogliemiljhliaaSymS
set_option linter.unusedSimpArgs false
set_option linter.unusedVariables false
namespace Go.Proofs.Ytogliemiljhliaa
open Go.Sim
set_option maxRecDepth 100000
def r52 : RFun :=
⟨.seq (Rg [0,1] [Bo 2 2 0,Bo 3 2 1,Nw 4 2 z2,Ac 5 0])
 (.seq (.seq (Rg [2,3,4] [Ld 7 2,Ld 8 3,Ca 9 77 [T 7,T 8] vI,As 6 9])
 (.seq (Rg [2,3,4,6] [Mv 10 6,Bc 11 .neq 23 10 .i64 0])
 (.cond (T 11) (.seq (Rg [4,6] [Ro 12 (.build z2 []),Mv 13 6,Sr 2 4 12,As 5 13])
 .ret)
 .skip)))
 (.seq (Rg [2,3,4] [Ld 14 2,Ld 15 3,Ca 16 78 [T 14,T 15] (some (.tup [.agg s2,.one (.int .i64)])),Ex 17 16 0,Ex 18 16 1,Sr 2 4 17,As 5 18])
 .ret)),
 [.agg 4 2 [.int .i64,.int .i64],.tmp 5],
 [],
 []⟩
theorem r52_ok:resFun (progU ()) hint live 52 Try.f52=some r52:=by kernel_rfl
def r53 : RFun :=
⟨.seq (Rg [0,1] [Ac 4 0])
 (.seq (.seq (Rg [0,1] [Mv 6 0,Ro 7 (.lenS (T 6)),Ol 8 (.move (Ci 0))])
 (.block 0 (.loop 2 none (some [0,1,7,8]))))
 (.seq (Rg [] [Ol 4 (.assign (.const (.int .i64 (-1))))])
 .ret)),
 [.tmp 4],
 [(2,⟨none,some [0,1,7,8],.seq (Rg [0,1,7,8] [Bt 9 .lss 3 8 7])
 (.seq (.cond (T 9) .skip
 (.exit 0 (some [])))
 (.seq (.block 1 (.seq (Rg [0,1,7,8] [Mv 10 8,As 5 10])
 (.seq (Rg [0,1,5,7,8] [Mv 11 1,Mv 12 0,Mv 13 5,Ix 14 1 12 13,L1 15 14,Bt 16 .eql 3 11 15])
 (.cond (T 16) (.seq (Rg [5] [Mv 17 5,As 4 17])
 .ret)
 .skip))))
 (Rg [0,1,7,8] [Bc 18 .add 3 8 .i64 1,Mv 8 18])))⟩)],
 []⟩
theorem r53_ok:resFun (progU ()) hint live 53 Try.f53=some r53:=by kernel_rfl
def r54 : RFun :=
⟨.seq (Rg [0,1] [Ac 4 0])
 (.seq (.seq (Rg [0,1] [Ac 5 0])
 (.block 0 (.loop 2 none (some [0,1,5]))))
 (.seq (Rg [] [Ol 4 (.assign (.const (.int .i64 (-1))))])
 .ret)),
 [.tmp 4],
 [(2,⟨none,some [0,1,5],.seq (.seq (Rg [0,1,5] [Mv 6 5,Mv 7 0,Ro 8 (.lenS (T 7)),Bt 9 .lss 3 6 8])
 (.cond (T 9) .skip
 (.exit 0 (some []))))
 (.seq (.block 1 (.seq (Rg [0,1,5] [Mv 12 0,Mv 13 5,Ix 14 1 12 13,L1 15 14,Mv 16 1,Bt 17 .eql 3 15 16])
 (.cond (T 17) (.seq (Rg [5] [Mv 18 5,As 4 18])
 .ret)
 .skip)))
 (Rg [0,1,5] [Mv 10 5,Bc 11 .add 3 10 .i64 1,As 5 11]))⟩)],
 []⟩
theorem r54_ok:resFun (progU ()) hint live 54 Try.f54=some r54:=by kernel_rfl
def r55 : RFun :=
⟨.seq (Rg [0,1] [Bo 2 2 0,Bo 3 2 1,Ac 4 0])
 (.seq (.seq (Rg [2,3] [Ld 5 2,Ca 6 57 [T 5] vI,Bc 7 .neq 3 6 .i64 0])
 (.cond (T 7) (.seq (Rg [2] [Ld 8 2,Ca 9 57 [T 8] vI,As 4 9])
 .ret)
 .skip))
 (.seq (Rg [3] [Ld 10 3,Ca 11 57 [T 10] vI,As 4 11])
 .ret)),
 [.tmp 4],
 [],
 []⟩
theorem r55_ok:resFun (progU ()) hint live 55 Try.f55=some r55:=by kernel_rfl
def r56 : RFun :=
⟨.seq (Rg [0] [Bo 1 2 0,Nw 2 2 z2])
 (.seq (Rg [1,2] [Fa 3 0 1,L1 4 3,Ol 5 (.unOp .neg 2 (T 4)),Fa 6 1 1,L1 7 6,Ro 8 (.build z2 [(0,1,(T 5)),(1,1,(T 7))]),Sr 2 2 8])
 .ret),
 [.agg 2 2 [.int .i64,.int .i64]],
 [],
 []⟩
theorem r56_ok:resFun (progU ()) hint live 56 Try.f56=some r56:=by kernel_rfl
def r57 : RFun :=
⟨.seq (Rg [0] [Bo 1 2 0,Ac 2 0])
 (.seq (.seq (.draw (some [1]) 28 [Dr (Fa 3 1 1) 0 [1,2,3,4,5,6,7,8,9,10,11,12,13,14,15,16,17,18,19,20,21,22,23,24,25,26,27],Db (L1 4 3) 1 3 [2,3,4,5,6,7,8,9,10,11,12,13,14,15,16,17,18,19,20,21,22,23,24,25,26,27],Dr (Bc 5 .lss 2 4 .i64 1) 2 [3,4,5,6,7,8,9,10,11,12,13,14,15,16,17,18,19,20,21,22,23,24,25,26,27],Dr (Mv 6 5) 3 [4,5,6,7,8,9,10,11,12,13,14,15,16,17,18,19,20,21,22,23,24,25,26,27],⟨Hf 7 6 (.fieldAddr 1 (T 1)),4,.none,[5,6,7,8,9,10,11,12,13,14,15,16,17,18,19,20,21,22,23,24,25,26,27],false,true⟩,⟨Hf 8 6 (.load1 (.int .i64) (T 7)),5,.blk (T 7),[6,7,8,9,10,11,12,13,14,15,16,17,18,19,20,21,22,23,24,25,26,27],false,true⟩,⟨Gf 9 6 (.binOp .gtr 2 (T 8) (Ci 1000000000000000000) 2),6,.none,[7,8,9,10,11,12,13,14,15,16,17,18,19,20,21,22,23,24,25,26,27],false,true⟩,Dr (Ol 10 (.pick (T 6) (.const (.bool true)) (T 9))) 7 [8,9,10,11,12,13,14,15,16,17,18,19,20,21,22,23,24,25,26,27],Dr (Mv 11 10) 8 [9,10,11,12,13,14,15,16,17,18,19,20,21,22,23,24,25,26,27],⟨Hf 12 11 (.fieldAddr 0 (T 1)),9,.none,[10,11,12,13,14,15,16,17,18,19,20,21,22,23,24,25,26,27],false,true⟩,⟨Hf 13 11 (.load1 (.int .i64) (T 12)),10,.blk (T 12),[11,12,13,14,15,16,17,18,19,20,21,22,23,24,25,26,27],false,true⟩,⟨Gf 14 11 (.binOp .lss 2 (T 13) (.const (.int .i64 (-1000000000000000000))) 2),11,.none,[12,13,14,15,16,17,18,19,20,21,22,23,24,25,26,27],false,true⟩,Dr (Ol 15 (.pick (T 11) (.const (.bool true)) (T 14))) 12 [13,14,15,16,17,18,19,20,21,22,23,24,25,26,27],Dr (Mv 16 15) 13 [14,15,16,17,18,19,20,21,22,23,24,25,26,27],⟨Hf 17 16 (.fieldAddr 0 (T 1)),14,.none,[15,16,17,18,19,20,21,22,23,24,25,26,27],false,true⟩,⟨Hf 18 16 (.load1 (.int .i64) (T 17)),15,.blk (T 17),[16,17,18,19,20,21,22,23,24,25,26,27],false,true⟩,⟨Gf 19 16 (.binOp .gtr 2 (T 18) (Ci 1000000000000000000) 2),16,.none,[17,18,19,20,21,22,23,24,25,26,27],false,true⟩,Dr (Ol 20 (.pick (T 16) (.const (.bool true)) (T 19))) 17 [18,19,20,21,22,23,24,25,26,27],Dr (Mv 21 20) 18 [19,20,21,22,23,24,25,26,27],⟨Hf 22 21 (.fieldAddr 0 (T 1)),19,.none,[20,21,25,26,27],false,true⟩,⟨Hf 23 21 (.load1 (.int .i64) (T 22)),20,.blk (T 22),[21,25,26,27],false,true⟩,⟨Hf 25 21 (.fieldAddr 1 (T 1)),22,.none,[23,24,25,26,27],false,true⟩,⟨Hf 26 21 (.load1 (.int .i64) (T 25)),23,.blk (T 25),[24,25,26,27],false,true⟩,⟨Hf 27 21 (.convI .u64 (T 26)),24,.cvt (T 26),[25,26,27],false,true⟩,⟨⟨some 24,some (21,false),.call (.func 63) [T 23] (some (.val (.one (.int .u64))))⟩,21,.all,[25,26,27],false,false⟩,⟨⟨some 28,some (21,false),.call (.func 62) [T 24,T 27] (some (.val (.one (.int .u64))))⟩,25,.all,[26,27],false,false⟩,⟨Gf 29 21 (.binOp .neq 100 (T 28) (.const (.int .u64 1)) 100),26,.none,[27],false,true⟩,Dr (Ol 30 (.pick (T 21) (.const (.bool true)) (T 29))) 27 []])
 (.cond (T 30) (.seq (Rg [] [Ac 2 8])
 .ret)
 .skip))
 (.seq (Rg [] [Ac 2 0])
 .ret)),
 [.tmp 2],
 [],
 []⟩
theorem r57_ok:resFun (progU ()) hint live 57 Try.f57=some r57:=by kernel_rfl
def r58 : RFun :=
⟨.seq (Rg [0] [Mv 3 0,Ro 4 (.lenS (T 3)),As 2 4])
 (Rg [0,2] [Mv 5 0,Mv 6 2,Mv 7 2,Ro 8 (.convI .u64 (T 7)),Ca 9 80 [T 8] vI,Ca 10 79 [T 5,.const (.int .i64 0),T 6,T 9] (some (.tup []))]),
 [],
 [],
 []⟩
theorem r58_ok:resFun (progU ()) hint live 58 Try.f58=some r58:=by kernel_rfl
def r59 : RFun :=
⟨.seq (Rg [0] [Ol 2 (.assign (.const (.slice none 0 0)))])
 (.seq (.seq (Rg [0] [Mv 6 0,Ro 7 (.lenS (T 6)),Bc 8 .lss 3 7 .i64 2])
 (.cond (T 8) (.seq (Rg [0] [Mv 9 0,As 2 9])
 .ret)
 .skip))
 (.seq (.seq (Rg [0] [Ac 3 1])
 (.block 0 (.loop 4 (some [0,3]) (some [0,3]))))
 (.seq (Rg [0] [Mv 60 0,As 2 60])
 .ret))),
 [.tmp 2],
 [(4,⟨some [0,3],some [0,3],.seq (.seq (Rg [0,3] [Mv 10 3,Mv 11 0,Ro 12 (.lenS (T 11)),Bt 13 .lss 3 10 12])
 (.cond (T 13) .skip
 (.exit 0 (some [0]))))
 (.seq (.block 1 (.seq (.draw (some [0,3]) 10 [Dr (Mv 16 0) 0 [2,3,9],Dr (Mv 17 3) 1 [2,3,9],Dr (Ix 18 1 16 17) 2 [3,9],Db (L1 19 18) 3 18 [9],Dr (Mv 20 0) 4 [7,8,9],Dr (Mv 21 3) 5 [6,7,8,9],Dr (Bc 22 .sub 3 21 .i64 1) 6 [7,8,9],Dr (Ix 23 1 20 22) 7 [8,9],Db (L1 24 23) 8 23 [9],Dr (Bt 25 .eql 3 19 24) 9 []])
 (.cond (T 25) (.seq (Rg [0,3] [Mv 26 0,Mv 27 3,Ro 28 (.cutS 22 (T 26) (some (T 27)) none none),As 4 28])
 (.seq (.seq (Rg [0,3,4] [Ac 5 1])
 (.block 2 (.loop 9 (some [0,3,4,5]) (some [0,3,4,5]))))
 (.seq (Rg [0,3] [Mv 54 0,Mv 55 3,Ro 56 (.cutS 22 (T 54) (some (T 55)) none none),⟨none,none,.op false (.old (.call ⟨.builtin .clear,#[T 56],#[22]⟩))⟩])
 (.seq (Rg [0,3] [Mv 57 0,Mv 58 3,Ro 59 (.cutS 22 (T 57) none (some (T 58)) none),As 2 59])
 .ret))))
 .skip)))
 (Rg [0,3] [Mv 14 3,Bc 15 .add 3 14 .i64 1,As 3 15]))⟩),(9,⟨some [0,3,4,5],some [0,3,4,5],.seq (.seq (Rg [0,3,4,5] [Mv 29 5,Mv 30 4,Ro 31 (.lenS (T 30)),Bt 32 .lss 3 29 31])
 (.cond (T 32) .skip
 (.exit 2 (some [0,3]))))
 (.seq (.block 3 (.seq (.draw (some [0,3,4,5]) 10 [Dr (Mv 35 4) 0 [2,3,9],Dr (Mv 36 5) 1 [2,3,9],Dr (Ix 37 1 35 36) 2 [3,9],Db (L1 38 37) 3 37 [9],Dr (Mv 39 4) 4 [7,8,9],Dr (Mv 40 5) 5 [6,7,8,9],Dr (Bc 41 .sub 3 40 .i64 1) 6 [7,8,9],Dr (Ix 42 1 39 41) 7 [8,9],Db (L1 43 42) 8 42 [9],Dr (Bt 44 .neq 3 38 43) 9 []])
 (.cond (T 44) (.seq (Rg [0,3,4,5] [Mv 45 0,Mv 46 3,Mv 47 4,Mv 48 5,Ix 49 1 47 48,L1 50 49,Ix 51 1 45 46,Sr 1 51 50])
 (Rg [0,3,4,5] [Mv 52 3,Bc 53 .add 3 52 .i64 1,As 3 53]))
 .skip)))
 (Rg [0,3,4,5] [Mv 33 5,Bc 34 .add 3 33 .i64 1,As 5 34]))⟩)],
 []⟩
theorem r59_ok:resFun (progU ()) hint live 59 Try.f59=some r59:=by kernel_rfl
def r60 : RFun :=
⟨.seq (Rg [0,1] [Ol 4 (.assign (.const (.bool false)))])
 (.seq (Rg [0,1] [Mv 5 0,Mv 6 1,Ca 7 53 [T 5,T 6] vI,Bc 8 .geq 3 7 .i64 0,As 4 8])
 .ret),
 [.tmp 4],
 [],
 []⟩
theorem r60_ok:resFun (progU ()) hint live 60 Try.f60=some r60:=by kernel_rfl
def r62 : RFun :=
⟨.seq (Rg [0,1] [Ol 4 (.assign (.const (.int .u64 0)))])
 (.seq (.block 0 (.loop 1 (some [0,1]) (some [0,1])))
 (.seq (Rg [0] [Mv 11 0,As 4 11])
 .ret)),
 [.tmp 4],
 [(1,⟨some [0,1],some [0,1],.seq (.seq (Rg [0,1] [Mv 5 1,Bc 6 .neq 100 5 .u64 0])
 (.cond (T 6) .skip
 (.exit 0 (some [0]))))
 (.block 1 (.draw (some [0,1]) 6 [Dr (Mv 7 1) 0 [4,5],Dr (Mv 8 0) 1 [3,4,5],Dr (Mv 9 1) 2 [3,5],Dr (Bt 10 .rem 100 8 9) 3 [5],Dr (As 0 7) 4 [5],Dr (As 1 10) 5 []]))⟩)],
 []⟩
theorem r62_ok:resFun (progU ()) hint live 62 Try.f62=some r62:=by kernel_rfl
def r63 : RFun :=
⟨.seq (Rg [0] [Ol 2 (.assign (.const (.int .u64 0)))])
 (.seq (.seq (Rg [0] [Mv 3 0,Bc 4 .geq 2 3 .i64 0])
 (.cond (T 4) (.seq (Rg [0] [Mv 5 0,Ro 6 (.convI .u64 (T 5)),As 2 6])
 .ret)
 .skip))
 (.seq (Rg [0] [Mv 7 0,Bc 8 .add 2 7 .i64 1,Ol 9 (.unOp .neg 2 (T 8)),Ro 10 (.convI .u64 (T 9)),Bc 11 .add 100 10 .u64 1,As 2 11])
 .ret)),
 [.tmp 2],
 [],
 []⟩
theorem r63_ok:resFun (progU ()) hint live 63 Try.f63=some r63:=by kernel_rfl
def r64 : RFun :=
⟨.seq (Rg [0,1,2] [Bo 4 4 1,Bo 5 4 2,Nw 6 2 z2,Ac 7 0])
 (.seq (Rg [0,4,5,6] [Ro 13 (.load 4 s4 (T 4)),Ca 14 82 [T 13] (some (.tup [.one (.int .i64),.one .bool])),Mv 12 14,Ex 15 12 0,Ex 16 12 1,As 8 15,As 9 16])
 (.seq (Rg [0,5,6,8,9] [Ro 18 (.load 4 s4 (T 5)),Ca 19 82 [T 18] (some (.tup [.one (.int .i64),.one .bool])),Mv 17 19,Ex 20 17 0,Ex 21 17 1,As 10 20,As 11 21])
 (.seq (.seq (Rg [0,6,8,9,10,11] [Mv 22 9,Ol 23 (.unOp .not 4 (T 22)),Mv 24 23,Gf 25 24 (.move (T 11)),Gf 26 24 (.unOp .not 4 (T 25)),Ol 27 (.pick (T 24) (.const (.bool true)) (T 26))])
 (.cond (T 27) (.seq (Rg [6] [Ro 28 (.build z2 []),Sr 2 6 28,Ac 7 16])
 .ret)
 .skip))
 (.seq (.seq (Rg [0,6,8,10] [Mv 29 0])
 (.cond (T 29) (Rg [6,8,10] [Mv 30 8,Ol 31 (.unOp .neg 2 (T 30)),As 8 31])
 .skip))
 (.seq (Rg [6,8,10] [Mv 32 8,Mv 33 10,Ro 34 (.build z2 [(0,1,(T 32)),(1,1,(T 33))]),Sr 2 6 34,Ac 7 0])
 .ret))))),
 [.agg 6 2 [.int .i64,.int .i64],.tmp 7],
 [],
 []⟩
theorem r64_ok:resFun (progU ()) hint live 64 Try.f64=some r64:=by kernel_rfl
def r65 : RFun :=
⟨.seq (Rg [0,1] [Nw 4 4 [.int .u64 0,.int .u64 0,.int .u64 0,.int .u64 0]])
 (.seq (Rg [0,1,4] [Mv 11 0,Ca 12 83 [T 11] (some (.val (.agg s4))),Mv 13 1,Ca 14 83 [T 13] (some (.val (.agg s4))),Ro 5 (.new 4 [.int .u64 0,.int .u64 0,.int .u64 0,.int .u64 0]),Ro 6 (.new 4 [.int .u64 0,.int .u64 0,.int .u64 0,.int .u64 0]),Sr 4 5 12,Sr 4 6 14])
 (.seq (Rg [4,5,6] [Ro 15 (.build [.int .u64 0,.int .u64 0,.int .u64 0,.int .u64 0] []),Ro 7 (.new 4 [.int .u64 0,.int .u64 0,.int .u64 0,.int .u64 0]),Sr 4 7 15])
 (.seq (.seq (Rg [4,5,6,7] [Ac 8 0])
 (.block 0 (.loop 4 (some [4,5,6,7,8]) (some [4,5,6,7,8]))))
 (.seq (Rg [4,7] [Ro 60 (.load 4 s4 (T 7)),Sr 4 4 60])
 .ret)))),
 [.agg 4 4 [.int .u64,.int .u64,.int .u64,.int .u64]],
 [(4,⟨some [4,5,6,7,8],some [4,5,6,7,8],.seq (.seq (Rg [4,5,6,7,8] [Mv 16 8,Bc 17 .lss 3 16 .i64 2])
 (.cond (T 17) .skip
 (.exit 0 (some [4,7]))))
 (.seq (.block 1 (.seq (Rg [4,5,6,7,8] [Ol 9 (.assign (.const (.int .u64 0)))])
 (.seq (.seq (Rg [4,5,6,7,8,9] [Ac 10 0])
 (.block 2 (.loop 8 (some [4,5,6,7,8,9,10]) (some [4,5,6,7,8,9,10]))))
 (Rg [4,5,6,7,8,9] [Mv 51 8,Bc 52 .add 3 51 .i64 2,Fa 53 0 7,Ro 54 (.ixA 4 1 (T 53) (T 52)),Ro 55 (.load1 (.int .u64) (T 54)),Mv 56 9,Bt 57 .add 100 55 56,Fa 58 0 7,Ro 59 (.ixA 4 1 (T 58) (T 52)),Sr 1 59 57]))))
 (Rg [4,5,6,7,8] [Mv 18 8,Bc 19 .add 3 18 .i64 1,As 8 19]))⟩),(8,⟨some [4,5,6,7,8,9,10],some [4,5,6,7,8,9,10],.seq (.seq (Rg [4,5,6,7,8,9,10] [Mv 20 10,Bc 21 .lss 3 20 .i64 2])
 (.cond (T 21) .skip
 (.exit 2 (some [4,5,6,7,8,9]))))
 (.seq (.block 3 (.seq (.draw (some [4,5,6,7,8,9,10]) 19 [Dr (Mv 24 9) 0 [17,18],Dr (Mv 25 8) 1 [3,5,6,16,17,18],Dr (Mv 26 10) 2 [3,5,6,16,17,18],Dr (Bt 27 .add 3 25 26) 3 [5,6,16,17,18],Dr (Fa 28 0 7) 4 [5,6,16,17,18],Dr (Ro 29 (.ixA 4 1 (T 28) (T 27))) 5 [6,16,17,18],Db (Ro 30 (.load1 (.int .u64) (T 29))) 6 29 [16,17,18],Dr (Mv 31 8) 7 [9,10,15,16,17,18],Dr (Fa 32 0 5) 8 [9,10,15,16,17,18],Dr (Ro 33 (.ixA 4 1 (T 32) (T 31))) 9 [10,15,16,17,18],Db (Ro 34 (.load1 (.int .u64) (T 33))) 10 33 [15,16,17,18],Dr (Mv 35 10) 11 [13,14,15,16,17,18],Dr (Fa 36 0 6) 12 [13,14,15,16,17,18],Dr (Ro 37 (.ixA 4 1 (T 36) (T 35))) 13 [14,15,16,17,18],Db (Ro 38 (.load1 (.int .u64) (T 37))) 14 37 [15,16,17,18],Dr (Bt 39 .mul 100 34 38) 15 [16,17,18],Dr (Bt 40 .add 100 30 39) 16 [17,18],Dr (Bt 41 .add 100 24 40) 17 [18],Dr (As 9 41) 18 []])
 (.seq (Rg [4,5,6,7,8,9,10] [Mv 42 8,Mv 43 10,Bt 44 .add 3 42 43,Mv 45 9,Bc 46 .and 100 45 .u64 4294967295,Fa 47 0 7,Ro 48 (.ixA 4 1 (T 47) (T 44)),Sr 1 48 46])
 (Rg [4,5,6,7,8,9,10] [Mv 49 9,Ol 50 (.binOp .shr 100 (T 49) (.const (.int .u64 32)) 122),As 9 50]))))
 (Rg [4,5,6,7,8,9,10] [Mv 22 10,Bc 23 .add 3 22 .i64 1,As 10 23]))⟩)],
 []⟩
theorem r65_ok:resFun (progU ()) hint live 65 Try.f65=some r65:=by kernel_rfl
def r66 : RFun :=
⟨.seq (Rg [0,1] [Ro 2 (.box 4 (T 0)),Ro 3 (.box 4 (T 1)),Nw 4 4 [.int .u64 0,.int .u64 0,.int .u64 0,.int .u64 0]])
 (.seq (Rg [2,3,4] [Ol 5 (.assign (.const (.int .u64 0)))])
 (.seq (.seq (Rg [2,3,4,5] [Ac 6 0])
 (.block 0 (.loop 3 (some [2,3,4,5,6]) (some [2,3,4,5,6]))))
 (.seq (Rg [2,4] [Ro 29 (.load 4 s4 (T 2)),Sr 4 4 29])
 .ret))),
 [.agg 4 4 [.int .u64,.int .u64,.int .u64,.int .u64]],
 [(3,⟨some [2,3,4,5,6],some [2,3,4,5,6],.seq (.seq (Rg [2,3,4,5,6] [Mv 7 6,Bc 8 .lss 3 7 .i64 4])
 (.cond (T 8) .skip
 (.exit 0 (some [2,4]))))
 (.seq (.block 1 (.seq (.draw (some [2,3,4,5,6]) 12 [Dr (Mv 11 5) 0 [10,11],Dr (Mv 12 6) 1 [3,4,9,10,11],Dr (Fa 13 0 2) 2 [3,4,9,10,11],Dr (Ro 14 (.ixA 4 1 (T 13) (T 12))) 3 [4,9,10,11],Db (Ro 15 (.load1 (.int .u64) (T 14))) 4 14 [9,10,11],Dr (Mv 16 6) 5 [7,8,9,10,11],Dr (Fa 17 0 3) 6 [7,8,9,10,11],Dr (Ro 18 (.ixA 4 1 (T 17) (T 16))) 7 [8,9,10,11],Db (Ro 19 (.load1 (.int .u64) (T 18))) 8 18 [9,10,11],Dr (Bt 20 .add 100 15 19) 9 [10,11],Dr (Bt 21 .add 100 11 20) 10 [11],Dr (As 5 21) 11 []])
 (.seq (Rg [2,3,4,5,6] [Mv 22 6,Mv 23 5,Bc 24 .and 100 23 .u64 4294967295,Fa 25 0 2,Ro 26 (.ixA 4 1 (T 25) (T 22)),Sr 1 26 24])
 (Rg [2,3,4,5,6] [Mv 27 5,Ol 28 (.binOp .shr 100 (T 27) (.const (.int .u64 32)) 122),As 5 28]))))
 (Rg [2,3,4,5,6] [Mv 9 6,Bc 10 .add 3 9 .i64 1,As 6 10]))⟩)],
 []⟩
theorem r66_ok:resFun (progU ()) hint live 66 Try.f66=some r66:=by kernel_rfl
def r67 : RFun :=
⟨.seq (Rg [0,1] [Ro 2 (.box 4 (T 0)),Ro 3 (.box 4 (T 1)),Ol 4 (.assign (.const (.bool false)))])
 (.seq (.seq (Rg [2,3] [Ac 5 3])
 (.block 0 (.loop 2 (some [2,3,5]) (some [2,3,5]))))
 (.seq (Rg [] [Ol 4 (.assign (.const (.bool false)))])
 .ret)),
 [.tmp 4],
 [(2,⟨some [2,3,5],some [2,3,5],.seq (.seq (Rg [2,3,5] [Mv 6 5,Bc 7 .geq 3 6 .i64 0])
 (.cond (T 7) .skip
 (.exit 0 (some []))))
 (.seq (.block 1 (.seq (.draw (some [2,3,5]) 9 [Dr (Mv 10 5) 0 [2,3,8],Dr (Fa 11 0 2) 1 [2,3,8],Dr (Ro 12 (.ixA 4 1 (T 11) (T 10))) 2 [3,8],Db (Ro 13 (.load1 (.int .u64) (T 12))) 3 12 [8],Dr (Mv 14 5) 4 [6,7,8],Dr (Fa 15 0 3) 5 [6,7,8],Dr (Ro 16 (.ixA 4 1 (T 15) (T 14))) 6 [7,8],Db (Ro 17 (.load1 (.int .u64) (T 16))) 7 16 [8],Dr (Bt 18 .neq 100 13 17) 8 []])
 (.cond (T 18) (.seq (.draw (some [2,3,5]) 10 [Dr (Mv 19 5) 0 [2,3,8,9],Dr (Fa 20 0 2) 1 [2,3,8,9],Dr (Ro 21 (.ixA 4 1 (T 20) (T 19))) 2 [3,8,9],Db (Ro 22 (.load1 (.int .u64) (T 21))) 3 21 [8,9],Dr (Mv 23 5) 4 [6,7,8,9],Dr (Fa 24 0 3) 5 [6,7,8,9],Dr (Ro 25 (.ixA 4 1 (T 24) (T 23))) 6 [7,8,9],Db (Ro 26 (.load1 (.int .u64) (T 25))) 7 25 [8,9],Dr (Bt 27 .lss 100 22 26) 8 [9],Dr (As 4 27) 9 []])
 .ret)
 .skip)))
 (Rg [2,3,5] [Mv 8 5,Bc 9 .sub 3 8 .i64 1,As 5 9]))⟩)],
 []⟩
theorem r67_ok:resFun (progU ()) hint live 67 Try.f67=some r67:=by kernel_rfl
def r68 : RFun :=
⟨.seq (Rg [0,1] [Ro 2 (.box 4 (T 0)),Ro 3 (.box 4 (T 1)),Nw 4 4 [.int .u64 0,.int .u64 0,.int .u64 0,.int .u64 0]])
 (.seq (Rg [2,3,4] [Ol 5 (.assign (.const (.int .u64 0)))])
 (.seq (.seq (Rg [2,3,4,5] [Ac 6 0])
 (.block 0 (.loop 3 (some [2,3,4,5,6]) (some [2,3,4,5,6]))))
 (.seq (Rg [2,4] [Ro 33 (.load 4 s4 (T 2)),Sr 4 4 33])
 .ret))),
 [.agg 4 4 [.int .u64,.int .u64,.int .u64,.int .u64]],
 [(3,⟨some [2,3,4,5,6],some [2,3,4,5,6],.seq (.seq (Rg [2,3,4,5,6] [Mv 8 6,Bc 9 .lss 3 8 .i64 4])
 (.cond (T 9) .skip
 (.exit 0 (some [2,4]))))
 (.seq (.block 1 (.seq (.draw (some [2,3,4,5,6]) 14 [Dr (Mv 12 6) 0 [2,3,4,5,10,12,13],Dr (Fa 13 0 2) 1 [2,3,4,5,10,12,13],Dr (Ro 14 (.ixA 4 1 (T 13) (T 12))) 2 [3,4,5,10,12,13],Db (Ro 15 (.load1 (.int .u64) (T 14))) 3 14 [4,5,10,12,13],Dr (Bc 16 .add 100 15 .u64 4294967295) 4 [5,10,12,13],Dr (Bc 17 .add 100 16 .u64 1) 5 [10,12,13],Dr (Mv 18 6) 6 [8,9,10,12,13],Dr (Fa 19 0 3) 7 [8,9,10,12,13],Dr (Ro 20 (.ixA 4 1 (T 19) (T 18))) 8 [9,10,12,13],Db (Ro 21 (.load1 (.int .u64) (T 20))) 9 20 [10,12,13],Dr (Bt 22 .sub 100 17 21) 10 [12,13],Dr (Mv 23 5) 11 [12,13],Dr (Bt 24 .sub 100 22 23) 12 [13],Dr (As 7 24) 13 []])
 (.seq (Rg [2,3,4,6,7] [Mv 25 6,Mv 26 7,Bc 27 .and 100 26 .u64 4294967295,Fa 28 0 2,Ro 29 (.ixA 4 1 (T 28) (T 25)),Sr 1 29 27])
 (Rg [2,3,4,6,7] [Mv 30 7,Ol 31 (.binOp .shr 100 (T 30) (.const (.int .u64 32)) 122),Ol 32 (.binOp .sub 100 (.const (.int .u64 1)) (T 31) 100),As 5 32]))))
 (Rg [2,3,4,5,6] [Mv 10 6,Bc 11 .add 3 10 .i64 1,As 6 11]))⟩)],
 []⟩
theorem r68_ok:resFun (progU ()) hint live 68 Try.f68=some r68:=by kernel_rfl
def r69 : RFun :=
⟨.seq (Rg [0,1] [Ro 2 (.box 4 (T 0)),Nw 4 4 [.int .u64 0,.int .u64 0,.int .u64 0,.int .u64 0],Ol 5 (.assign (.const (.int .u64 0)))])
 (.seq (Rg [1,2,4] [Ro 10 (.build [.int .u64 0,.int .u64 0,.int .u64 0,.int .u64 0] []),Ro 6 (.new 4 [.int .u64 0,.int .u64 0,.int .u64 0,.int .u64 0]),Sr 4 6 10,Ol 7 (.assign (.const (.int .u64 0)))])
 (.seq (.seq (Rg [1,2,4,6,7] [Ac 8 3])
 (.block 0 (.loop 3 (some [1,2,4,6,7,8]) (some [1,2,4,6,7,8]))))
 (.seq (Rg [4,6,7] [Ro 44 (.load 4 s4 (T 6)),Mv 45 7,Sr 4 4 44,As 5 45])
 .ret))),
 [.agg 4 4 [.int .u64,.int .u64,.int .u64,.int .u64],.tmp 5],
 [(3,⟨some [1,2,4,6,7,8],some [1,2,4,6,7,8],.seq (.seq (Rg [1,2,4,6,7,8] [Mv 11 8,Bc 12 .geq 3 11 .i64 0])
 (.cond (T 12) .skip
 (.exit 0 (some [4,6,7]))))
 (.seq (.block 1 (.seq (Rg [1,2,4,6,7,8] [Ac 9 31])
 (.block 2 (.loop 6 (some [1,2,4,6,7,8,9]) (some [1,2,4,6,7,8,9])))))
 (Rg [1,2,4,6,7,8] [Mv 13 8,Bc 14 .sub 3 13 .i64 1,As 8 14]))⟩),(6,⟨some [1,2,4,6,7,8,9],some [1,2,4,6,7,8,9],.seq (.seq (Rg [1,2,4,6,7,8,9] [Mv 15 9,Bc 16 .geq 3 15 .i64 0])
 (.cond (T 16) .skip
 (.exit 2 (some [1,2,4,6,7,8]))))
 (.seq (.block 3 (.seq (Rg [1,2,4,6,7,8,9] [Mv 19 7,Ol 20 (.binOp .shl 100 (T 19) (.const (.int .u64 1)) 122),Mv 21 8,Fa 22 0 2,Ro 23 (.ixA 4 1 (T 22) (T 21)),Ro 24 (.load1 (.int .u64) (T 23)),Mv 25 9,Ol 26 (.binOp .shr 100 (T 24) (T 25) 3),Bc 27 .and 100 26 .u64 1,Bt 28 .or 100 20 27,As 7 28])
 (.seq (Rg [1,2,4,6,7,8,9] [Mv 29 7,Mv 30 1,Bt 31 .geq 100 29 30])
 (.cond (T 31) (.seq (Rg [1,2,4,6,7,8,9] [Mv 32 7,Mv 33 1,Bt 34 .sub 100 32 33,As 7 34])
 (.draw (some [1,2,4,6,7,8,9]) 10 [Dr (Mv 35 8) 0 [2,3,6,8,9],Dr (Fa 36 0 6) 1 [2,3,6,8,9],Dr (Ro 37 (.ixA 4 1 (T 36) (T 35))) 2 [3,6,8,9],Db (Ro 38 (.load1 (.int .u64) (T 37))) 3 37 [6,8,9],Dr (Mv 39 9) 4 [5,6,8,9],Dr (Ol 40 (.binOp .shl 100 (.const (.int .u64 1)) (T 39) 3)) 5 [6,8,9],Dr (Bt 41 .or 100 38 40) 6 [8,9],Dr (Fa 42 0 6) 7 [8,9],Dr (Ro 43 (.ixA 4 1 (T 42) (T 35))) 8 [9],⟨Sr 1 43 41,9,.blk (T 43),[],true,true⟩]))
 .skip))))
 (Rg [1,2,4,6,7,8,9] [Mv 17 9,Bc 18 .sub 3 17 .i64 1,As 9 18]))⟩)],
 []⟩
theorem r69_ok:resFun (progU ()) hint live 69 Try.f69=some r69:=by kernel_rfl
def r70 : RFun :=
⟨.seq (Rg [0,1] [Ac 4 0])
 (.seq (.seq (Rg [0,1] [Mv 6 0,Ro 7 (.lenS (T 6)),Ol 8 (.move (Ci 0))])
 (.block 0 (.loop 2 none (some [0,1,7,8]))))
 (.seq (Rg [] [Ol 4 (.assign (.const (.int .i64 (-1))))])
 .ret)),
 [.tmp 4],
 [(2,⟨none,some [0,1,7,8],.seq (Rg [0,1,7,8] [Bt 9 .lss 3 8 7])
 (.seq (.cond (T 9) .skip
 (.exit 0 (some [])))
 (.seq (.block 1 (.seq (Rg [0,1,7,8] [Mv 10 8,As 5 10])
 (.seq (Rg [0,1,5,7,8] [Mv 11 1,Mv 12 0,Mv 13 5,Ix 14 1 12 13,Ro 15 (.load1 .slice (T 14)),⟨some 16,none,.call (T 11) [T 15] vB⟩])
 (.cond (T 16) (.seq (Rg [5] [Mv 17 5,As 4 17])
 .ret)
 .skip))))
 (Rg [0,1,7,8] [Bc 18 .add 3 8 .i64 1,Mv 8 18])))⟩)],
 []⟩
theorem r70_ok:resFun (progU ()) hint live 70 Try.f70=some r70:=by kernel_rfl
def r71 : RFun :=
⟨.seq (Rg [0,1] [Ol 3 (.assign (.const (.bool false)))])
 (.seq (Rg [0,1] [Mv 4 0,L1 5 1,Ix 6 1 4 5,L1 7 6,Bc 8 .neq 2 7 .i64 0,As 3 8])
 .ret),
 [.tmp 3],
 [],
 []⟩
theorem r71_ok:resFun (progU ()) hint live 71 Try.f71=some r71:=by kernel_rfl
def r72 : RFun :=
⟨.seq (Rg [0,1,2] [Mv 11 0,Ol 12 (.nilCheck (T 11)),Fa 13 0 12,Ro 14 (.load1 .slice (T 13)),Mv 15 1,Ix 16 1 14 15,Ro 17 (.load1 .slice (T 16)),Mv 18 2,Ix 19 1 17 18,L1 20 19,As 6 20])
 (.seq (Rg [0,1,2,6] [Mv 21 0,Ol 22 (.nilCheck (T 21)),Fa 23 0 22,Ro 24 (.load1 .slice (T 23)),Ro 25 (.lenS (T 24)),Ol 26 (.move (Ci 0))])
 (.block 0 (.loop 2 (some [0,1,2,6,24,25,26]) (some [0,1,2,6,24,25,26])))),
 [],
 [(2,⟨some [0,1,2,6,24,25,26],some [0,1,2,6,24,25,26],.seq (Rg [0,1,2,6,24,25,26] [Bt 27 .lss 3 26 25])
 (.seq (.cond (T 27) .skip
 (.exit 0 (some [])))
 (.seq (.block 1 (.seq (Rg [0,1,2,6,24,25,26] [Mv 28 26,Ix 29 1 24 26,Ro 30 (.load1 .slice (T 29)),As 7 28,As 8 30])
 (.seq (.seq (Rg [0,1,2,6,7,8,24,25,26] [Mv 31 7,Mv 32 1,Bt 33 .eql 3 31 32])
 (.cond (T 33) (.exit 1 (some [0,1,2,6,24,25,26]))
 .skip))
 (.seq (Rg [0,1,2,6,8,24,25,26] [Mv 34 8,Mv 35 2,Ix 36 1 34 35,L1 37 36,As 9 37])
 (.seq (Rg [0,1,2,6,8,9,24,25,26] [Mv 38 8,Ro 39 (.lenS (T 38)),Ol 40 (.move (Ci 0))])
 (.block 2 (.loop 7 (some [0,1,2,6,8,9,24,25,26,39,40]) (some [0,1,2,6,8,9,24,25,26,39,40]))))))))
 (Rg [0,1,2,6,24,25,26] [Bc 71 .add 3 26 .i64 1,Mv 26 71])))⟩),(7,⟨some [0,1,2,6,8,9,24,25,26,39,40],some [0,1,2,6,8,9,24,25,26,39,40],.seq (Rg [0,1,2,6,8,9,24,25,26,39,40] [Bt 41 .lss 3 40 39])
 (.seq (.cond (T 41) .skip
 (.exit 2 (some [0,1,2,6,24,25,26])))
 (.seq (.block 3 (.seq (Rg [0,1,2,6,8,9,24,25,26,39,40] [Mv 42 40,As 10 42])
 (.draw (some [0,1,2,6,8,9,10,24,25,26,39,40]) 28 [Dr (Mv 43 8) 0 [26,27],Dr (Mv 44 10) 1 [26,27],Dr (Mv 45 6) 2 [7,20,25,26,27],Dr (Mv 46 8) 3 [5,6,7,20,25,26,27],Dr (Mv 47 10) 4 [5,6,7,20,25,26,27],Dr (Ix 48 1 46 47) 5 [6,7,20,25,26,27],Db (L1 49 48) 6 48 [7,20,25,26,27],Dr (Bt 50 .mul 2 45 49) 7 [20,25,26,27],Dr (Mv 51 9) 8 [19,20,25,26,27],Dr (Mv 52 0) 9 [10,11,12,14,15,17,18,19,20,25,26,27],Dr (Ol 53 (.nilCheck (T 52))) 10 [11,12,14,15,17,18,19,20,25,26,27],Dr (Fa 54 0 53) 11 [12,14,15,17,18,19,20,25,26,27],Db (Ro 55 (.load1 .slice (T 54))) 12 54 [14,15,17,18,19,20,25,26,27],Dr (Mv 56 1) 13 [14,15,17,18,19,20,25,26,27],Dr (Ix 57 1 55 56) 14 [15,17,18,19,20,25,26,27],Db (Ro 58 (.load1 .slice (T 57))) 15 57 [17,18,19,20,25,26,27],Dr (Mv 59 10) 16 [17,18,19,20,25,26,27],Dr (Ix 60 1 58 59) 17 [18,19,20,25,26,27],Db (L1 61 60) 18 60 [19,20,25,26,27],Dr (Bt 62 .mul 2 51 61) 19 [20,25,26,27],Dr (Bt 63 .sub 2 50 62) 20 [25,26,27],Dr (Mv 64 0) 21 [22,23,24,25,26,27],Dr (Ol 65 (.nilCheck (T 64))) 22 [23,24,25,26,27],Dr (Fa 66 3 65) 23 [24,25,26,27],Db (L1 67 66) 24 66 [25,26,27],Dr (Bt 68 .quo 2 63 67) 25 [26,27],Dr (Ix 69 1 43 44) 26 [27],⟨Sr 1 69 68,27,.blk (T 69),[],true,true⟩])))
 (Rg [0,1,2,6,8,9,24,25,26,39,40] [Bc 70 .add 3 40 .i64 1,Mv 40 70])))⟩)],
 []⟩
theorem r72_ok:resFun (progU ()) hint live 72 Try.f72=some r72:=by kernel_rfl
def r73 : RFun :=
⟨.seq (Rg [0] [Ol 2 (.assign (.const (.slice none 0 0)))])
 (.seq (Rg [0] [Mv 5 0,Ro 6 (.mkSlice 2 z2 (T 5) (T 5)),As 3 6])
 (.seq (.seq (Rg [3] [Mv 7 3,Ro 8 (.lenS (T 7)),Ol 9 (.move (Ci 0))])
 (.block 0 (.loop 3 none (some [3,8,9]))))
 (.seq (Rg [3] [Mv 17 3,As 2 17])
 .ret))),
 [.tmp 2],
 [(3,⟨none,some [3,8,9],.seq (Rg [3,8,9] [Bt 10 .lss 3 9 8])
 (.seq (.cond (T 10) .skip
 (.exit 0 (some [3])))
 (.seq (.block 1 (.seq (Rg [3,8,9] [Mv 11 9,As 4 11])
 (Rg [3,4,8,9] [Mv 12 3,Mv 13 4,Ro 14 (.build z2 [(0,1,(Ci 0)),(1,1,(Ci 1))]),Ix 15 2 12 13,Sr 2 15 14])))
 (Rg [3,8,9] [Bc 16 .add 3 9 .i64 1,Mv 9 16])))⟩)],
 []⟩
theorem r73_ok:resFun (progU ()) hint live 73 Try.f73=some r73:=by kernel_rfl
def r74 : RFun :=
⟨.seq (Rg [0,1] [Nw 4 2 z2,Ac 5 0])
 (.seq (.seq (Rg [0,1,4] [Mv 9 1,Bc 10 .eql 2 9 .i64 0])
 (.cond (T 10) (.seq (Rg [4] [Ro 11 (.build z2 []),Sr 2 4 11,Ac 5 18])
 .ret)
 .skip))
 (.seq (Rg [0,1,4] [Mv 12 0,Ca 13 84 [T 12] (some (.val (.one (.int .u64)))),Mv 14 1,Ca 15 84 [T 14] (some (.val (.one (.int .u64)))),As 6 13,As 7 15])
 (.seq (Rg [0,1,4,6,7] [Mv 16 6,Mv 17 7,Ca 18 85 [T 16,T 17] (some (.val (.one (.int .u64)))),As 8 18])
 (.seq (.draw (some [0,1,4,6,7,8]) 16 [Dr (Mv 19 0) 0 [1,4,11,12,13,14,15],Dr (Bc 20 .lss 2 19 .i64 0) 1 [4,11,12,13,14,15],Dr (Mv 21 1) 2 [3,4,11,12,13,14,15],Dr (Bc 22 .lss 2 21 .i64 0) 3 [4,11,12,13,14,15],Dr (Bt 23 .neq 4 20 22) 4 [11,12,13,14,15],Dr (Mv 24 6) 5 [7,11,12,13,14,15],Dr (Mv 25 8) 6 [7,11,12,13,14,15],Dr (Bt 26 .quo 100 24 25) 7 [11,12,13,14,15],Dr (Mv 27 7) 8 [10,11,12,13,14,15],Dr (Mv 28 8) 9 [10,11,12,13,14,15],Dr (Bt 29 .quo 100 27 28) 10 [11,12,13,14,15],⟨Ca 30 86 [T 23,T 26,T 29] (some (.tup [.agg s2,.one (.int .i64)])),11,.all,[12,13,14,15],false,false⟩,Dr (Ex 31 30 0) 12 [14,15],Dr (Ex 32 30 1) 13 [14,15],⟨Sr 2 4 31,14,.blk (T 4),[15],true,true⟩,Dr (As 5 32) 15 []])
 .ret)))),
 [.agg 4 2 [.int .i64,.int .i64],.tmp 5],
 [],
 []⟩
theorem r74_ok:resFun (progU ()) hint live 74 Try.f74=some r74:=by kernel_rfl
def r75 : RFun :=
⟨.seq (Rg [0,1] [Bo 2 2 0,Bo 3 2 1,Nw 4 2 z2,Ac 5 0])
 (.seq (.seq (Rg [2,3,4] [Ld 6 2,Ld 7 3,Ca 8 55 [T 6,T 7] vI,Bc 9 .neq 3 8 .i64 0])
 (.cond (T 9) (.seq (Rg [2,3,4] [Ro 10 (.build z2 []),Ld 11 2,Ld 12 3,Ca 13 55 [T 11,T 12] vI,Sr 2 4 10,As 5 13])
 .ret)
 .skip))
 (.seq (.seq (Rg [2,3,4] [Fa 14 0 3,L1 15 14,Bc 16 .eql 2 15 .i64 0])
 (.cond (T 16) (.seq (Rg [4] [Ro 17 (.build z2 []),Sr 2 4 17,Ac 5 18])
 .ret)
 .skip))
 (.seq (.seq (Rg [2,3,4] [Fa 18 0 3,L1 19 18,Bc 20 .lss 2 19 .i64 0])
 (.cond (T 20) (.seq (Rg [2,3,4] [Ld 21 2,Fa 22 1 3,L1 23 22,Ol 24 (.unOp .neg 2 (T 23)),Fa 25 0 3,L1 26 25,Ol 27 (.unOp .neg 2 (T 26)),Ro 28 (.build z2 [(0,1,(T 24)),(1,1,(T 27))]),Ca 29 42 [T 21,T 28] (some (.tup [.agg s2,.one (.int .i64)])),Ex 30 29 0,Ex 31 29 1,Sr 2 4 30,As 5 31])
 .ret)
 .skip))
 (.seq (Rg [2,3,4] [Ld 32 2,Fa 33 1 3,L1 34 33,Fa 35 0 3,L1 36 35,Ro 37 (.build z2 [(0,1,(T 34)),(1,1,(T 36))]),Ca 38 42 [T 32,T 37] (some (.tup [.agg s2,.one (.int .i64)])),Ex 39 38 0,Ex 40 38 1,Sr 2 4 39,As 5 40])
 .ret)))),
 [.agg 4 2 [.int .i64,.int .i64],.tmp 5],
 [],
 []⟩
theorem r75_ok:resFun (progU ()) hint live 75 Try.f75=some r75:=by kernel_rfl
def r76 : RFun :=
⟨.seq (Rg [0] [Bo 1 2 0,Ac 2 0])
 (.seq (.seq (Rg [1] [Fa 3 1 1,L1 4 3,Bc 5 .lss 2 4 .i64 1,Mv 6 5,Hf 7 6 (.fieldAddr 1 (T 1)),Hf 8 6 (.load1 (.int .i64) (T 7)),Gf 9 6 (.binOp .gtr 2 (T 8) (Ci 1000000000000000000) 2),Ol 10 (.pick (T 6) (.const (.bool true)) (T 9)),Mv 11 10,Hf 12 11 (.fieldAddr 0 (T 1)),Hf 13 11 (.load1 (.int .i64) (T 12)),Gf 14 11 (.binOp .lss 2 (T 13) (.const (.int .i64 (-1000000000000000000))) 2),Ol 15 (.pick (T 11) (.const (.bool true)) (T 14)),Mv 16 15,Hf 17 16 (.fieldAddr 0 (T 1)),Hf 18 16 (.load1 (.int .i64) (T 17)),Gf 19 16 (.binOp .gtr 2 (T 18) (Ci 1000000000000000000) 2),Ol 20 (.pick (T 16) (.const (.bool true)) (T 19))])
 (.cond (T 20) (.seq (Rg [] [Ac 2 8])
 .ret)
 .skip))
 (.seq (.seq (.draw (some [1]) 8 [Dr (Fa 21 0 1) 0 [1,2,5,6,7],Db (L1 22 21) 1 21 [2,5,6,7],Dr (Fa 24 1 1) 3 [4,5,6,7],Db (L1 25 24) 4 24 [5,6,7],⟨Ca 23 84 [T 22] (some (.val (.one (.int .u64)))),2,.all,[5,6,7],false,false⟩,⟨Ca 26 84 [T 25] (some (.val (.one (.int .u64)))),5,.all,[6,7],false,false⟩,⟨Ca 27 85 [T 23,T 26] (some (.val (.one (.int .u64)))),6,.all,[7],false,false⟩,Dr (Bc 28 .neq 100 27 .u64 1) 7 []])
 (.cond (T 28) (.seq (Rg [] [Ac 2 8])
 .ret)
 .skip))
 (.seq (Rg [] [Ac 2 0])
 .ret))),
 [.tmp 2],
 [],
 []⟩
theorem r76_ok:resFun (progU ()) hint live 76 Try.f76=some r76:=by kernel_rfl
def r77 : RFun :=
⟨.seq (Rg [0,1] [Bo 2 2 0,Bo 3 2 1,Ac 4 0])
 (.seq (.seq (Rg [2,3] [Ld 6 2,Ca 7 76 [T 6] vI,As 5 7])
 (.seq (Rg [3,5] [Mv 8 5,Bc 9 .neq 23 8 .i64 0])
 (.cond (T 9) (.seq (Rg [5] [Mv 10 5,As 4 10])
 .ret)
 .skip)))
 (.seq (Rg [3] [Ld 11 3,Ca 12 76 [T 11] vI,As 4 12])
 .ret)),
 [.tmp 4],
 [],
 []⟩
theorem r77_ok:resFun (progU ()) hint live 77 Try.f77=some r77:=by kernel_rfl
def r78 : RFun :=
⟨.seq (Rg [0,1] [Bo 2 2 0,Bo 3 2 1,Nw 4 2 z2,Ac 5 0])
 (.seq (.draw (some [2,3,4]) 8 [Dr (Fa 22 1 2) 0 [1,2,5,6,7],Db (L1 23 22) 1 22 [2,5,6,7],Dr (Fa 25 1 3) 3 [4,5,6,7],Db (L1 26 25) 4 25 [5,6,7],⟨Ca 24 84 [T 23] (some (.val (.one (.int .u64)))),2,.all,[5,6,7],false,false⟩,⟨Ca 27 84 [T 26] (some (.val (.one (.int .u64)))),5,.all,[6,7],false,false⟩,Dr (As 6 24) 6 [7],Dr (As 7 27) 7 []])
 (.seq (Rg [2,3,4,6,7] [Mv 28 6,Mv 29 7,Ca 30 85 [T 28,T 29] (some (.val (.one (.int .u64)))),As 8 30])
 (.seq (.draw (some [2,3,4,6,7,8]) 12 [Dr (Fa 32 0 2) 0 [1,2,6,7,8,9,10,11],Db (L1 33 32) 1 32 [2,6,7,8,9,10,11],Dr (Mv 35 7) 3 [5,6,7,8,9,10,11],Dr (Mv 36 8) 4 [5,6,7,8,9,10,11],Dr (Bt 37 .quo 100 35 36) 5 [6,7,8,9,10,11],⟨Ca 34 84 [T 33] (some (.val (.one (.int .u64)))),2,.all,[6,7,8,9,10,11],false,false⟩,⟨Ca 38 87 [T 34,T 37] (some (.tup [.one (.int .u64),.one (.int .u64)])),6,.all,[7,8,9,10,11],false,false⟩,Dr (Mv 31 38) 7 [8,9,10,11],Dr (Ex 39 31 0) 8 [10,11],Dr (Ex 40 31 1) 9 [11],Dr (As 9 39) 10 [11],Dr (As 10 40) 11 []])
 (.seq (.draw (some [2,3,4,6,7,8,9,10]) 12 [Dr (Fa 42 0 3) 0 [1,2,6,7,8,9,10,11],Db (L1 43 42) 1 42 [2,6,7,8,9,10,11],Dr (Mv 45 6) 3 [5,6,7,8,9,10,11],Dr (Mv 46 8) 4 [5,6,7,8,9,10,11],Dr (Bt 47 .quo 100 45 46) 5 [6,7,8,9,10,11],⟨Ca 44 84 [T 43] (some (.val (.one (.int .u64)))),2,.all,[6,7,8,9,10,11],false,false⟩,⟨Ca 48 87 [T 44,T 47] (some (.tup [.one (.int .u64),.one (.int .u64)])),6,.all,[7,8,9,10,11],false,false⟩,Dr (Mv 41 48) 7 [8,9,10,11],Dr (Ex 49 41 0) 8 [10,11],Dr (Ex 50 41 1) 9 [11],Dr (As 11 49) 10 [11],Dr (As 12 50) 11 []])
 (.seq (Rg [2,3,4,6,7,8,9,10,11,12] [Fa 51 0 2,L1 52 51,Bc 53 .lss 2 52 .i64 0,As 13 53])
 (.seq (Rg [2,3,4,6,7,8,9,10,11,12,13] [Ol 14 (.assign (.const (.int .u64 0))),Ol 15 (.assign (.const (.int .u64 0))),Ol 16 (.assign (.const (.int .u64 0)))])
 (.seq (.block 0 (.seq (Rg [2,3,4,6,7,8,9,10,11,12,13] [Fa 71 0 2,L1 72 71,Bc 73 .lss 2 72 .i64 0,Fa 74 0 3,L1 75 74,Bc 76 .lss 2 75 .i64 0,Bt 77 .eql 4 73 76,As 70 77])
 (.cond (T 70) (.seq (Rg [4,6,7,8,9,10,11,12,13] [Mv 79 10,Mv 80 12,Ca 81 88 [T 79,T 80,.const (.int .u64 0)] (some (.tup [.one (.int .u64),.one (.int .u64)])),Mv 78 81,Ex 82 78 0,Ex 83 78 1,As 15 82,As 16 83])
 (Rg [4,6,7,8,9,11,13,15,16] [Mv 85 9,Mv 86 11,Mv 87 16,Ca 88 88 [T 85,T 86,T 87] (some (.tup [.one (.int .u64),.one (.int .u64)])),Mv 84 88,Ex 89 84 0,Ex 90 84 1,As 14 89]))
 (.seq (Rg [3,4,6,7,8,9,10,11,12,13] [Mv 92 9,Mv 93 10,Mv 94 11,Mv 95 12,Ca 96 89 [T 92,T 93,T 94,T 95] vI,Bc 97 .geq 3 96 .i64 0,As 91 97])
 (.cond (T 91) (.seq (Rg [4,6,7,8,9,10,11,12,13] [Mv 99 10,Mv 100 12,Ca 101 90 [T 99,T 100,.const (.int .u64 0)] (some (.tup [.one (.int .u64),.one (.int .u64)])),Mv 98 101,Ex 102 98 0,Ex 103 98 1,As 15 102,As 16 103])
 (Rg [4,6,7,8,9,11,13,15,16] [Mv 105 9,Mv 106 11,Mv 107 16,Ca 108 90 [T 105,T 106,T 107] (some (.tup [.one (.int .u64),.one (.int .u64)])),Mv 104 108,Ex 109 104 0,Ex 110 104 1,As 14 109]))
 (.seq (Rg [3,4,6,7,8,9,10,11,12] [Fa 54 0 3,L1 55 54,Bc 56 .lss 2 55 .i64 0,As 13 56])
 (.seq (Rg [4,6,7,8,9,10,11,12,13] [Mv 58 12,Mv 59 10,Ca 60 90 [T 58,T 59,.const (.int .u64 0)] (some (.tup [.one (.int .u64),.one (.int .u64)])),Mv 57 60,Ex 61 57 0,Ex 62 57 1,As 15 61,As 16 62])
 (Rg [4,6,7,8,9,11,13,15,16] [Mv 64 11,Mv 65 9,Mv 66 16,Ca 67 90 [T 64,T 65,T 66] (some (.tup [.one (.int .u64),.one (.int .u64)])),Mv 63 67,Ex 68 63 0,Ex 69 63 1,As 14 68]))))))))
 (.seq (Rg [4,6,7,8,13,14,15] [Mv 111 8,Mv 112 14,Mv 113 15,Mv 114 8,Ca 115 91 [T 112,T 113,T 114] (some (.val (.one (.int .u64)))),Ca 116 85 [T 111,T 115] (some (.val (.one (.int .u64)))),As 17 116])
 (.seq (.seq (Rg [4,6,7,8,13,14,15,17] [Mv 117 14,Mv 118 17,Bt 119 .geq 100 117 118])
 (.cond (T 119) (.seq (Rg [4] [Ro 120 (.build z2 []),Sr 2 4 120,Ac 5 16])
 .ret)
 .skip))
 (.seq (Rg [4,6,7,8,13,14,15,17] [Mv 122 14,Mv 123 15,Mv 124 17,Ca 125 92 [T 122,T 123,T 124] (some (.tup [.one (.int .u64),.one (.int .u64)])),Mv 121 125,Ex 126 121 0,Ex 127 121 1,As 18 126,As 19 127])
 (.seq (.draw (some [4,6,7,8,13,17,18]) 12 [Dr (Mv 129 6) 0 [2,6,7,8,9,10,11],Dr (Mv 130 8) 1 [2,6,7,8,9,10,11],Dr (Bt 131 .quo 100 129 130) 2 [6,7,8,9,10,11],Dr (Mv 132 7) 3 [5,6,7,8,9,10,11],Dr (Mv 133 17) 4 [5,6,7,8,9,10,11],Dr (Bt 134 .quo 100 132 133) 5 [6,7,8,9,10,11],⟨Ca 135 87 [T 131,T 134] (some (.tup [.one (.int .u64),.one (.int .u64)])),6,.all,[7,8,9,10,11],false,false⟩,Dr (Mv 128 135) 7 [8,9,10,11],Dr (Ex 136 128 0) 8 [10,11],Dr (Ex 137 128 1) 9 [11],Dr (As 20 136) 10 [11],Dr (As 21 137) 11 []])
 (.seq (.seq (Rg [4,13,18,20,21] [Mv 138 20,Bc 139 .neq 100 138 .u64 0])
 (.cond (T 139) (.seq (Rg [4] [Ro 140 (.build z2 []),Sr 2 4 140,Ac 5 16])
 .ret)
 .skip))
 (.seq (Rg [4,13,18,21] [Mv 141 13,Mv 142 18,Mv 143 21,Ca 144 86 [T 141,T 142,T 143] (some (.tup [.agg s2,.one (.int .i64)])),Ex 145 144 0,Ex 146 144 1,Sr 2 4 145,As 5 146])
 .ret))))))))))))),
 [.agg 4 2 [.int .i64,.int .i64],.tmp 5],
 [],
 []⟩
theorem r78_ok:resFun (progU ()) hint live 78 Try.f78=some r78:=by kernel_rfl
