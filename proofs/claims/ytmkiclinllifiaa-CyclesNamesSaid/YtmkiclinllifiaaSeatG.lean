import Derived.Test.YtmkiclinllifiaaSeat0
import Derived.Test.YtmkiclinllifiaaSymS
set_option linter.unusedSimpArgs false
set_option linter.unusedVariables false
namespace Go.Proofs.Ytmkiclinllifiaa
open Go.Sim
set_option maxRecDepth 100000
def r94 : RFun :=
⟨.seq (Rg [0] [Ac 2 0])
 (.seq (.seq (Rg [0,2] [Mv 3 0,Bc 4 .geq 137 3 .u64 4294967296])
 (.cond (T 4) (.seq (Rg [0] [Mv 5 0,Ol 6 (.binOp .shr 137 (T 5) (.const (.int .u64 32)) 126),As 0 6])
 (Rg [0] [Ac 2 32]))
 .skip))
 (.seq (.seq (Rg [0,2] [Mv 7 0,Bc 8 .geq 137 7 .u64 65536])
 (.cond (T 8) (.seq (Rg [0,2] [Mv 9 0,Ol 10 (.binOp .shr 137 (T 9) (.const (.int .u64 16)) 126),As 0 10])
 (Rg [0,2] [Mv 11 2,Bc 12 .add 3 11 .i64 16,As 2 12]))
 .skip))
 (.seq (.seq (Rg [0,2] [Mv 13 0,Bc 14 .geq 137 13 .u64 256])
 (.cond (T 14) (.seq (Rg [0,2] [Mv 15 0,Ol 16 (.binOp .shr 137 (T 15) (.const (.int .u64 8)) 126),As 0 16])
 (Rg [0,2] [Mv 17 2,Bc 18 .add 3 17 .i64 8,As 2 18]))
 .skip))
 (.seq (Rg [0,2] [Mv 19 2,Mv 20 0,Ro 21 (.convI .u8 (T 20)),⟨some 22,none,.op false (.old (.index 9 (.const (.string ⟨#[0,1,2,2,3,3,3,3,4,4,4,4,4,4,4,4,5,5,5,5,5,5,5,5,5,5,5,5,5,5,5,5,6,6,6,6,6,6,6,6,6,6,6,6,6,6,6,6,6,6,6,6,6,6,6,6,6,6,6,6,6,6,6,6,7,7,7,7,7,7,7,7,7,7,7,7,7,7,7,7,7,7,7,7,7,7,7,7,7,7,7,7,7,7,7,7,7,7,7,7,7,7,7,7,7,7,7,7,7,7,7,7,7,7,7,7,7,7,7,7,7,7,7,7,7,7,7,7,8,8,8,8,8,8,8,8,8,8,8,8,8,8,8,8,8,8,8,8,8,8,8,8,8,8,8,8,8,8,8,8,8,8,8,8,8,8,8,8,8,8,8,8,8,8,8,8,8,8,8,8,8,8,8,8,8,8,8,8,8,8,8,8,8,8,8,8,8,8,8,8,8,8,8,8,8,8,8,8,8,8,8,8,8,8,8,8,8,8,8,8,8,8,8,8,8,8,8,8,8,8,8,8,8,8,8,8,8,8,8,8,8,8,8,8,8,8,8,8,8,8,8,8,8,8,8,8]⟩)) (T 21)))⟩,Ro 23 (.convI .i64 (T 22)),Bt 24 .add 3 19 23,As 2 24])
 .ret)))),
 [.tmp 2],
 [],
 []⟩
theorem r94_ok:resFun (progU ()) hint live 94 Try.f94=some r94:=by kernel_rfl
def r95 : RFun :=
⟨.seq (Rg [0,1,2,3,4] [Mv 12 1,As 10 12])
 (.block 0 (.loop 1 (some [0,2,3,4,10]) (some [0,2,3,4,10]))),
 [],
 [(1,⟨some [0,2,3,4,10],some [0,2,3,4,10],.block 1 (.seq (Rg [0,2,3,4,10] [Mv 13 10,Ol 14 (.binOp .mul 3 (Ci 2) (T 13) 3),Bc 15 .add 3 14 .i64 1,As 11 15])
 (.seq (.seq (Rg [0,2,3,4,10,11] [Mv 16 11,Mv 17 2,Bt 18 .geq 3 16 17])
 (.cond (T 18) (.exit 0 (some []))
 .skip))
 (.seq (.seq (.draw (some [0,2,3,4,10,11]) 22 [Dr (Mv 19 11) 0 [1,3,4,5,6,7,8,9,10,11,12,13,14,15,16,17,18,19,20,21],Dr (Bc 20 .add 3 19 .i64 1) 1 [3,4,5,6,7,8,9,10,11,12,13,14,15,16,17,18,19,20,21],Dr (Mv 21 2) 2 [3,4,5,6,7,8,9,10,11,12,13,14,15,16,17,18,19,20,21],Dr (Bt 22 .lss 3 20 21) 3 [4,5,6,7,8,9,10,11,12,13,14,15,16,17,18,19,20,21],Dr (Mv 23 22) 4 [5,6,7,8,9,10,11,12,13,14,15,16,17,18,19,20,21],⟨Gt 24 23 (.move (T 4)),5,.none,[19,20,21],false,true⟩,⟨Gt 25 23 (.move (T 0)),6,.none,[10,11,19,20,21],false,true⟩,⟨Gt 26 23 (.move (T 3)),7,.none,[9,10,11,19,20,21],false,true⟩,⟨Gt 27 23 (.move (T 11)),8,.none,[9,10,11,19,20,21],false,true⟩,⟨Gt 28 23 (.binOp .add 3 (T 26) (T 27) 3),9,.none,[10,11,19,20,21],false,true⟩,⟨Ht 29 23 (.ixS 2 (T 25) (T 28)),10,.none,[11,19,20,21],false,true⟩,⟨Ht 30 23 (.load 2 s2 (T 29)),11,.blk (T 29),[19,20,21],false,true⟩,⟨Gt 31 23 (.move (T 0)),12,.none,[17,18,19,20,21],false,true⟩,⟨Gt 32 23 (.move (T 3)),13,.none,[15,16,17,18,19,20,21],false,true⟩,⟨Gt 33 23 (.move (T 11)),14,.none,[15,16,17,18,19,20,21],false,true⟩,⟨Gt 34 23 (.binOp .add 3 (T 32) (T 33) 3),15,.none,[16,17,18,19,20,21],false,true⟩,⟨Gt 35 23 (.binOp .add 3 (T 34) (Ci 1) 3),16,.none,[17,18,19,20,21],false,true⟩,⟨Ht 36 23 (.ixS 2 (T 31) (T 35)),17,.none,[18,19,20,21],false,true⟩,⟨Ht 37 23 (.load 2 s2 (T 36)),18,.blk (T 36),[19,20,21],false,true⟩,⟨⟨some 38,some (23,true),.call (T 24) [T 30,T 37] vI⟩,19,.all,[20,21],false,false⟩,⟨Gt 39 23 (.binOp .lss 3 (T 38) (Ci 0) 3),20,.none,[21],false,true⟩,Dr (Ol 40 (.pick (T 23) (T 39) (.const (.bool false)))) 21 []])
 (.cond (T 40) (Rg [0,2,3,4,10,11] [Mv 41 11,Bc 42 .add 3 41 .i64 1,As 11 42])
 .skip))
 (.seq (.seq (.draw (some [0,2,3,4,10,11]) 16 [Dr (Mv 43 4) 0 [13,14,15],Dr (Mv 44 0) 1 [5,6,13,14,15],Dr (Mv 45 3) 2 [4,5,6,13,14,15],Dr (Mv 46 10) 3 [4,5,6,13,14,15],Dr (Bt 47 .add 3 45 46) 4 [5,6,13,14,15],Dr (Ix 48 2 44 47) 5 [6,13,14,15],Db (Ld 49 48) 6 48 [13,14,15],Dr (Mv 50 0) 7 [11,12,13,14,15],Dr (Mv 51 3) 8 [10,11,12,13,14,15],Dr (Mv 52 11) 9 [10,11,12,13,14,15],Dr (Bt 53 .add 3 51 52) 10 [11,12,13,14,15],Dr (Ix 54 2 50 53) 11 [12,13,14,15],Db (Ld 55 54) 12 54 [13,14,15],⟨⟨some 56,none,.call (T 43) [T 49,T 55] vI⟩,13,.all,[14,15],false,false⟩,Dr (Bc 57 .lss 3 56 .i64 0) 14 [15],Dr (Ol 58 (.unOp .not 4 (T 57))) 15 []])
 (.cond (T 58) .ret
 .skip))
 (.seq (.draw (some [0,2,3,4,10,11]) 24 [Dr (Mv 59 0) 0 [20,21,22,23],Dr (Mv 60 3) 1 [3,20,21,22,23],Dr (Mv 61 10) 2 [3,20,21,22,23],Dr (Bt 62 .add 3 60 61) 3 [20,21,22,23],Dr (Mv 63 0) 4 [22,23],Dr (Mv 64 3) 5 [7,22,23],Dr (Mv 65 11) 6 [7,22,23],Dr (Bt 66 .add 3 64 65) 7 [22,23],Dr (Mv 67 0) 8 [12,13,20,21,22,23],Dr (Mv 68 3) 9 [11,12,13,20,21,22,23],Dr (Mv 69 11) 10 [11,12,13,20,21,22,23],Dr (Bt 70 .add 3 68 69) 11 [12,13,20,21,22,23],Dr (Ix 71 2 67 70) 12 [13,20,21,22,23],Db (Ld 72 71) 13 71 [20,21,22,23],Dr (Mv 73 0) 14 [18,19,20,21,22,23],Dr (Mv 74 3) 15 [17,18,19,20,21,22,23],Dr (Mv 75 10) 16 [17,18,19,20,21,22,23],Dr (Bt 76 .add 3 74 75) 17 [18,19,20,21,22,23],Dr (Ix 77 2 73 76) 18 [19,20,21,22,23],Db (Ld 78 77) 19 77 [20,21,22,23],Dr (Ix 79 2 59 62) 20 [21,22,23],⟨Sr 2 79 72,21,.blk (T 79),[22,23],true,true⟩,Dr (Ix 80 2 63 66) 22 [23],⟨Sr 2 80 78,23,.blk (T 80),[],true,true⟩])
 (Rg [0,2,3,4,11] [Mv 81 11,As 10 81]))))))⟩)],
 []⟩
theorem r95_ok:resFun (progU ()) hint live 95 Try.f95=some r95:=by kernel_rfl
def r96 : RFun :=
⟨.seq (Rg [0] [Ol 2 (.assign (.const (.int .u64 0)))])
 (.seq (Rg [0] [Mv 3 0,Ro 4 (.convI .u64 (T 3)),Ca 5 83 [T 4] vI,Ol 6 (.binOp .shl 126 (.const (.int .u64 1)) (T 5) 3),As 2 6])
 .ret),
 [.tmp 2],
 [],
 []⟩
theorem r96_ok:resFun (progU ()) hint live 96 Try.f96=some r96:=by kernel_rfl
def r97 : RFun :=
⟨.seq (Rg [0] [Ol 2 (.assign (.const (.int .u64 0)))])
 (.seq (.draw (some [0]) 10 [Dr (Mv 3 0) 0 [1,2,7,8,9],Dr (Ol 4 (.nilCheck (T 3))) 1 [2,7,8,9],Db (Ro 5 (.load1 (.int .u64) (T 4))) 2 4 [7,8,9],Dr (Mv 6 0) 3 [4,5,6,7,8,9],Dr (Ol 7 (.nilCheck (T 6))) 4 [5,6,7,8,9],Db (Ro 8 (.load1 (.int .u64) (T 7))) 5 7 [6,7,8,9],Dr (Ol 9 (.binOp .shl 138 (T 8) (.const (.int .u64 13)) 126)) 6 [7,8,9],Dr (Bt 10 .xor 138 5 9) 7 [8,9],Dr (Ol 11 (.nilCheck (T 3))) 8 [9],⟨Sr 1 11 10,9,.blk (T 11),[],true,true⟩])
 (.seq (.draw (some [0]) 10 [Dr (Mv 12 0) 0 [1,2,7,8,9],Dr (Ol 13 (.nilCheck (T 12))) 1 [2,7,8,9],Db (Ro 14 (.load1 (.int .u64) (T 13))) 2 13 [7,8,9],Dr (Mv 15 0) 3 [4,5,6,7,8,9],Dr (Ol 16 (.nilCheck (T 15))) 4 [5,6,7,8,9],Db (Ro 17 (.load1 (.int .u64) (T 16))) 5 16 [6,7,8,9],Dr (Ol 18 (.binOp .shr 138 (T 17) (.const (.int .u64 7)) 126)) 6 [7,8,9],Dr (Bt 19 .xor 138 14 18) 7 [8,9],Dr (Ol 20 (.nilCheck (T 12))) 8 [9],⟨Sr 1 20 19,9,.blk (T 20),[],true,true⟩])
 (.seq (.draw (some [0]) 10 [Dr (Mv 21 0) 0 [1,2,7,8,9],Dr (Ol 22 (.nilCheck (T 21))) 1 [2,7,8,9],Db (Ro 23 (.load1 (.int .u64) (T 22))) 2 22 [7,8,9],Dr (Mv 24 0) 3 [4,5,6,7,8,9],Dr (Ol 25 (.nilCheck (T 24))) 4 [5,6,7,8,9],Db (Ro 26 (.load1 (.int .u64) (T 25))) 5 25 [6,7,8,9],Dr (Ol 27 (.binOp .shl 138 (T 26) (.const (.int .u64 17)) 126)) 6 [7,8,9],Dr (Bt 28 .xor 138 23 27) 7 [8,9],Dr (Ol 29 (.nilCheck (T 21))) 8 [9],⟨Sr 1 29 28,9,.blk (T 29),[],true,true⟩])
 (.seq (Rg [0] [Mv 30 0,Ol 31 (.nilCheck (T 30)),Ro 32 (.load1 (.int .u64) (T 31)),As 2 32])
 .ret)))),
 [.tmp 2],
 [],
 []⟩
theorem r97_ok:resFun (progU ()) hint live 97 Try.f97=some r97:=by kernel_rfl
def r98 : RFun :=
⟨.seq (Rg [0,1,2,3] [Ac 8 0])
 (.seq (Rg [0,1,2,3] [Mv 9 0,Mv 10 1,Bc 11 .sub 3 10 .i64 1,Mv 12 1,Mv 13 1,Bc 14 .add 3 13 .i64 1,Mv 15 2,Mv 16 3,Ca 17 99 [T 9,T 11,T 12,T 14,T 15,T 16] vI,As 8 17])
 .ret),
 [.tmp 8],
 [],
 []⟩
theorem r98_ok:resFun (progU ()) hint live 98 Try.f98=some r98:=by kernel_rfl
def r99 : RFun :=
⟨.seq (Rg [0,1,2,3,4,5] [Ac 12 0])
 (.seq (Rg [0,1,2,3,4,5] [Mv 14 0,Mv 15 1,Mv 16 2,Mv 17 4,Mv 18 5,Ca 19 100 [T 14,T 15,T 16,T 17,T 18] (some (.tup [.one (.int .i64),.one (.int .i64)])),Mv 13 19,Ex 20 13 0,Ex 21 13 1,As 1 20,As 2 21])
 (.seq (Rg [0,1,2,3,4,5] [Mv 23 0,Mv 24 2,Mv 25 3,Mv 26 4,Mv 27 5,Ca 28 100 [T 23,T 24,T 25,T 26,T 27] (some (.tup [.one (.int .i64),.one (.int .i64)])),Mv 22 28,Ex 29 22 0,Ex 30 22 1,As 2 29,As 3 30])
 (.seq (Rg [0,1,2,4,5] [Mv 32 0,Mv 33 1,Mv 34 2,Mv 35 4,Mv 36 5,Ca 37 100 [T 32,T 33,T 34,T 35,T 36] (some (.tup [.one (.int .i64),.one (.int .i64)])),Mv 31 37,Ex 38 31 0,Ex 39 31 1,As 1 38,As 2 39])
 (.seq (Rg [2] [Mv 40 2,As 12 40])
 .ret)))),
 [.tmp 12],
 [],
 []⟩
theorem r99_ok:resFun (progU ()) hint live 99 Try.f99=some r99:=by kernel_rfl
def r100 : RFun :=
⟨.seq (Rg [0,1,2,3,4] [Ac 10 0,Ac 11 0])
 (.seq (.seq (.draw (some [0,1,2,3,4]) 11 [Dr (Mv 12 4) 0 [9,10],Dr (Mv 13 0) 1 [3,4,9,10],Dr (Mv 14 2) 2 [3,4,9,10],Dr (Ix 15 2 13 14) 3 [4,9,10],Db (Ld 16 15) 4 15 [9,10],Dr (Mv 17 0) 5 [7,8,9,10],Dr (Mv 18 1) 6 [7,8,9,10],Dr (Ix 19 2 17 18) 7 [8,9,10],Db (Ld 20 19) 8 19 [9,10],⟨⟨some 21,none,.call (T 12) [T 16,T 20] vI⟩,9,.all,[10],false,false⟩,Dr (Bc 22 .lss 3 21 .i64 0) 10 []])
 (.cond (T 22) (.seq (Rg [1,2,3] [Mv 23 3,Ol 24 (.nilCheck (T 23)),L1 25 24,Bc 26 .add 3 25 .i64 1,Ol 27 (.nilCheck (T 23)),Sr 1 27 26])
 (.seq (Rg [1,2] [Mv 28 2,Mv 29 1,As 10 28,As 11 29])
 .ret))
 .skip))
 (.seq (Rg [1,2] [Mv 30 1,Mv 31 2,As 10 30,As 11 31])
 .ret)),
 [.tmp 10,.tmp 11],
 [],
 []⟩
theorem r100_ok:resFun (progU ()) hint live 100 Try.f100=some r100:=by kernel_rfl
