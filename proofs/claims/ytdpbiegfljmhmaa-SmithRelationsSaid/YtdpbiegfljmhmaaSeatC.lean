import Derived.Test.YtdpbiegfljmhmaaSeat0
import Derived.Test.YtdpbiegfljmhmaaSymS
set_option linter.unusedSimpArgs false
set_option linter.unusedVariables false
namespace Go.Proofs.Ytdpbiegfljmhmaa
open Go.Sim
set_option maxRecDepth 100000
def r18 : RFun :=
⟨.seq (Rg [0,1] [Nw 4 2 z2,Ol 5 (.assign (.const (.bool false)))])
 (.seq (Rg [0,1,4] [Ca 10 35 [.const (.int .i64 0)] (some (.val (.agg s2))),Nw 6 2 z2,Sr 2 6 10])
 (.seq (.seq (Rg [0,1,4,6] [Ac 7 0])
 (.block 0 (.loop 3 (some [0,1,4,6,7]) (some [0,1,4,6,7]))))
 (.seq (Rg [4,6] [Ld 43 6,Sr 2 4 43,Ol 5 (.assign (.const (.bool true)))])
 .ret))),
 [.agg 4 2 [.int .i64,.int .i64],.tmp 5],
 [(3,⟨some [0,1,4,6,7],some [0,1,4,6,7],.seq (.seq (Rg [0,1,4,6,7] [Mv 11 7,Mv 12 0,Ro 13 (.lenS (T 12)),Bt 14 .lss 3 11 13])
 (.cond (T 14) .skip
 (.exit 0 (some [4,6]))))
 (.seq (.block 1 (.seq (.draw (some [0,1,4,6,7]) 16 [Dr (Mv 18 0) 0 [2,3,4,9,10,11,12,14,15],Dr (Mv 19 7) 1 [2,3,4,9,10,11,12,14,15],Dr (Ix 20 1 18 19) 2 [3,4,9,10,11,12,14,15],Db (L1 21 20) 3 20 [4,9,10,11,12,14,15],Dr (Mv 23 1) 5 [7,8,9,10,11,12,14,15],Dr (Mv 24 7) 6 [7,8,9,10,11,12,14,15],Dr (Ix 25 2 23 24) 7 [8,9,10,11,12,14,15],Db (Ld 26 25) 8 25 [9,10,11,12,14,15],⟨Nw 8 2 z2,13,.new true,[14,15],false,true⟩,⟨Ca 22 35 [T 21] (some (.val (.agg s2))),4,.all,[9,10,11,12,14,15],false,false⟩,⟨Ca 27 36 [T 22,T 26] (some (.tup [.agg s2,.one (.int .i64)])),9,.all,[10,11,12,14,15],false,false⟩,Dr (Mv 17 27) 10 [11,12,14,15],Dr (Ex 28 17 0) 11 [14,15],Dr (Ex 29 17 1) 12 [15],⟨Sr 2 8 28,14,.blk (T 8),[15],true,true⟩,Dr (As 9 29) 15 []])
 (.seq (.seq (Rg [0,1,4,6,7,8,9] [Mv 30 9,Bc 31 .eql 3 30 .i64 0])
 (.cond (T 31) (Rg [0,1,4,6,7,8] [Ld 33 6,Ld 34 8,Ca 35 19 [T 33,T 34] (some (.tup [.agg s2,.one (.int .i64)])),Mv 32 35,Ex 36 32 0,Ex 37 32 1,Sr 2 6 36,As 9 37])
 .skip))
 (.seq (.seq (Rg [0,1,4,6,7,9] [Mv 38 9,Bc 39 .neq 3 38 .i64 0])
 (.cond (T 39) (.seq (Rg [4,6] [Ld 40 6,Sr 2 4 40,Ol 5 (.assign (.const (.bool false)))])
 .ret)
 .skip))
 (Rg [0,1,4,6,7] [Ld 41 6,Ca 42 20 [T 41] (some (.val (.agg s2))),Sr 2 6 42])))))
 (Rg [0,1,4,6,7] [Mv 15 7,Bc 16 .add 3 15 .i64 1,As 7 16]))⟩)],
 []⟩
theorem r18_ok:resFun (progU ()) hint live 18 Try.f18=some r18:=by kernel_rfl
def r19 : RFun :=
⟨.seq (Rg [0,1] [Bo 2 2 0,Bo 3 2 1,Nw 4 2 z2,Ac 5 0])
 (.seq (.seq (Rg [2,3,4] [Ld 12 2,Ld 13 3,Ca 14 37 [T 12,T 13] vI,Bc 15 .neq 3 14 .i64 0])
 (.cond (T 15) (.seq (Rg [2,3,4] [Ro 16 (.build z2 []),Ld 17 2,Ld 18 3,Ca 19 37 [T 17,T 18] vI,Sr 2 4 16,As 5 19])
 .ret)
 .skip))
 (.seq (Rg [2,3,4] [Fa 20 1 2,L1 21 20,Ro 22 (.convI .u64 (T 21)),Fa 23 1 3,L1 24 23,Ro 25 (.convI .u64 (T 24)),Ca 26 38 [T 22,T 25] (some (.val (.one (.int .u64)))),As 6 26])
 (.seq (.draw (some [2,3,4,6]) 22 [Dr (Fa 27 0 2) 0 [1,2,8,11,17,20,21],Db (L1 28 27) 1 27 [2,8,11,17,20,21],Dr (Fa 30 1 3) 3 [4,5,7,8,11,17,20,21],Db (L1 31 30) 4 30 [5,7,8,11,17,20,21],⟨Ro 32 (.convI .u64 (T 31)),5,.cvt (T 31),[7,8,11,17,20,21],false,true⟩,Dr (Mv 33 6) 6 [7,8,11,17,20,21],Dr (Bt 34 .quo 69 32 33) 7 [8,11,17,20,21],Dr (Fa 36 0 3) 9 [10,11,17,20,21],Db (L1 37 36) 10 36 [11,17,20,21],Dr (Fa 39 1 2) 12 [13,14,16,17,20,21],Db (L1 40 39) 13 39 [14,16,17,20,21],⟨Ro 41 (.convI .u64 (T 40)),14,.cvt (T 40),[16,17,20,21],false,true⟩,Dr (Mv 42 6) 15 [16,17,20,21],Dr (Bt 43 .quo 69 41 42) 16 [17,20,21],⟨Nw 7 4 [.int .u64 0,.int .u64 0,.int .u64 0,.int .u64 0],18,.new true,[20,21],false,true⟩,⟨Nw 8 4 [.int .u64 0,.int .u64 0,.int .u64 0,.int .u64 0],19,.new true,[20,21],false,true⟩,⟨Ca 29 40 [T 28] (some (.val (.one (.int .u64)))),2,.all,[8,11,17,20,21],false,false⟩,⟨Ca 35 39 [T 29,T 34] (some (.val (.agg s4))),8,.all,[11,17,20,21],false,false⟩,⟨Ca 38 40 [T 37] (some (.val (.one (.int .u64)))),11,.all,[17,20,21],false,false⟩,⟨Ca 44 39 [T 38,T 43] (some (.val (.agg s4))),17,.all,[20,21],false,false⟩,⟨Sr 4 7 35,20,.blk (T 7),[21],true,true⟩,⟨Sr 4 8 44,21,.blk (T 8),[],true,true⟩])
 (.seq (.seq (Rg [2,3,4,6,7,8] [Fa 45 0 2,L1 46 45,Bc 47 .lss 2 46 .i64 0,Fa 48 0 3,L1 49 48,Bc 50 .lss 2 49 .i64 0,Bt 51 .eql 4 47 50])
 (.cond (T 51) (Rg [2,3,4,6,7,8] [Ro 52 (.load 4 s4 (T 7)),Ro 53 (.load 4 s4 (T 8)),Ca 54 41 [T 52,T 53] (some (.val (.agg s4))),Sr 4 7 54])
 (.seq (Rg [2,3,4,6,7,8] [Ro 55 (.load 4 s4 (T 7)),Ro 56 (.load 4 s4 (T 8)),Ca 57 42 [T 55,T 56] vB])
 (.cond (T 57) (.draw (some [2,3,4,6,7,8]) 8 [Db (Ro 58 (.load 4 s4 (T 8))) 0 8 [2,5,6,7],Db (Ro 59 (.load 4 s4 (T 7))) 1 7 [2,5,6,7],Db (Ld 61 3) 3 3 [6,7],Db (Ld 62 2) 4 2 [5,6,7],⟨Ca 60 43 [T 58,T 59] (some (.val (.agg s4))),2,.all,[5,6,7],false,false⟩,⟨Sr 4 7 60,5,.blk (T 7),[6,7],true,true⟩,⟨Sr 2 2 61,6,.blk (T 2),[7],true,true⟩,⟨Sr 2 3 62,7,.blk (T 3),[],true,true⟩])
 (Rg [2,3,4,6,7,8] [Ro 63 (.load 4 s4 (T 7)),Ro 64 (.load 4 s4 (T 8)),Ca 65 43 [T 63,T 64] (some (.val (.agg s4))),Sr 4 7 65])))))
 (.seq (Rg [2,3,4,6,7] [Ro 67 (.load 4 s4 (T 7)),Mv 68 6,Ca 69 44 [T 67,T 68] (some (.tup [.agg s4,.one (.int .u64)])),Mv 66 69,Ex 70 66 0,Ex 71 66 1,Nw 9 4 [.int .u64 0,.int .u64 0,.int .u64 0,.int .u64 0],Sr 4 9 70,As 10 71])
 (.seq (Rg [2,3,4,6,7,10] [Mv 72 10,Mv 73 6,Ca 74 38 [T 72,T 73] (some (.val (.one (.int .u64)))),As 11 74])
 (.seq (Rg [2,3,4,6,7,11] [Ro 76 (.load 4 s4 (T 7)),Mv 77 11,Ca 78 44 [T 76,T 77] (some (.tup [.agg s4,.one (.int .u64)])),Mv 75 78,Ex 79 75 0,Ex 80 75 1,Sr 4 7 79])
 (.seq (.seq (Rg [2,3,4,6,7,11] [Ro 81 (.load 4 s4 (T 7)),Ro 82 (.build [.int .u64 0,.int .u64 0,.int .u64 0,.int .u64 0] []),Bt 83 .eql 73 81 82])
 (.cond (T 83) (.seq (Rg [4] [Ro 84 (.build z2 [(1,1,(Ci 1))]),Sr 2 4 84,Ac 5 0])
 .ret)
 .skip))
 (.seq (.draw (some [2,3,4,6,7,11]) 20 [Dr (Fa 85 0 2) 0 [1,2,15,16,17,18,19],Db (L1 86 85) 1 85 [2,15,16,17,18,19],Dr (Bc 87 .lss 2 86 .i64 0) 2 [15,16,17,18,19],Db (Ro 88 (.load 4 s4 (T 7))) 3 7 [15,16,17,18,19],Dr (Fa 89 1 2) 4 [5,6,8,14,15,16,17,18,19],Db (L1 90 89) 5 89 [6,8,14,15,16,17,18,19],⟨Ro 91 (.convI .u64 (T 90)),6,.cvt (T 90),[8,14,15,16,17,18,19],false,true⟩,Dr (Mv 92 6) 7 [8,14,15,16,17,18,19],Dr (Bt 93 .quo 69 91 92) 8 [14,15,16,17,18,19],Dr (Fa 94 1 3) 9 [10,11,13,14,15,16,17,18,19],Db (L1 95 94) 10 94 [11,13,14,15,16,17,18,19],⟨Ro 96 (.convI .u64 (T 95)),11,.cvt (T 95),[13,14,15,16,17,18,19],false,true⟩,Dr (Mv 97 11) 12 [13,14,15,16,17,18,19],Dr (Bt 98 .quo 69 96 97) 13 [14,15,16,17,18,19],⟨Ca 99 39 [T 93,T 98] (some (.val (.agg s4))),14,.all,[15,16,17,18,19],false,false⟩,⟨Ca 100 45 [T 87,T 88,T 99] (some (.tup [.agg s2,.one (.int .i64)])),15,.all,[16,17,18,19],false,false⟩,Dr (Ex 101 100 0) 16 [18,19],Dr (Ex 102 100 1) 17 [18,19],⟨Sr 2 4 101,18,.blk (T 4),[19],true,true⟩,Dr (As 5 102) 19 []])
 .ret))))))))),
 [.agg 4 2 [.int .i64,.int .i64],.tmp 5],
 [],
 []⟩
theorem r19_ok:resFun (progU ()) hint live 19 Try.f19=some r19:=by kernel_rfl
def r20 : RFun :=
⟨.seq (Rg [0] [Bo 1 2 0,Nw 2 2 z2])
 (.seq (Rg [1,2] [Ld 8 1,Ca 9 46 [T 8] (some (.tup [.one (.int .i64),.one (.int .i64)])),Mv 7 9,Ex 10 7 0,Ex 11 7 1,As 3 10,As 4 11])
 (.seq (.draw (some [1,2,3]) 10 [Db (Ld 13 1) 0 1 [3,4,5,6,8,9],Dr (Mv 14 3) 1 [2,3,4,5,6,8,9],⟨Nw 5 2 z2,7,.new true,[8,9],false,true⟩,⟨Ca 15 35 [T 14] (some (.val (.agg s2))),2,.all,[3,4,5,6,8,9],false,false⟩,⟨Ca 16 47 [T 13,T 15] (some (.tup [.agg s2,.one (.int .i64)])),3,.all,[4,5,6,8,9],false,false⟩,Dr (Mv 12 16) 4 [5,6,8,9],Dr (Ex 17 12 0) 5 [8,9],Dr (Ex 18 12 1) 6 [9],⟨Sr 2 5 17,8,.blk (T 5),[9],true,true⟩,Dr (As 6 18) 9 []])
 (.seq (Rg [2,5] [Ld 19 5,Sr 2 2 19])
 .ret))),
 [.agg 2 2 [.int .i64,.int .i64]],
 [],
 []⟩
theorem r20_ok:resFun (progU ()) hint live 20 Try.f20=some r20:=by kernel_rfl
def r27 : RFun :=
⟨.seq (Rg [0] [Ol 2 (.assign (.const (.slice none 0 0)))])
 (.seq (Rg [0] [Ro 6 (.buildSlice 1 1 [.int .i64 0] [(0,1,(Ci 1))]),As 3 6])
 (.seq (.seq (Rg [0,3] [Ac 4 1])
 (.block 0 (.loop 3 none (some [0,3,4]))))
 (.seq (Rg [3] [Mv 27 3,As 2 27])
 .ret))),
 [.tmp 2],
 [(3,⟨none,some [0,3,4],.seq (.seq (Rg [0,3,4] [Mv 7 4,Mv 8 0,Ro 9 (.lenS (T 8)),Mv 10 0,Ro 11 (.ixS 1 (T 10) (Ci 0)),Ro 12 (.load1 .slice (T 11)),Ro 13 (.lenS (T 12)),⟨some 14,none,.op false (.old (.call ⟨.builtin .min,#[T 9,T 13],#[3,3]⟩))⟩,Bt 15 .leq 3 7 14])
 (.cond (T 15) .skip
 (.exit 0 (some [3]))))
 (.seq (.block 1 (.seq (Rg [0,3,4] [Mv 18 0,Mv 19 4,Ca 20 53 [T 18,T 19] vI,As 5 20])
 (.seq (.seq (Rg [0,3,4,5] [Mv 21 5,Bc 22 .eql 3 21 .i64 0])
 (.cond (T 22) (.exit 0 (some [3]))
 .skip))
 (Rg [0,3,4,5] [Mv 23 3,Mv 24 5,Ro 25 (.buildSlice 1 1 [.int .i64 0] [(0,1,(T 24))]),⟨some 26,none,.op false (.old (.call ⟨.builtin .append,#[T 23,T 25],#[27,27]⟩))⟩,As 3 26]))))
 (Rg [0,3,4] [Mv 16 4,Bc 17 .add 3 16 .i64 1,As 4 17]))⟩)],
 []⟩
theorem r27_ok:resFun (progU ()) hint live 27 Try.f27=some r27:=by kernel_rfl
def r29 : RFun :=
⟨.seq (Rg [0] [Ol 2 (.assign (.const (.slice none 0 0))),Ol 3 (.assign (.const (.slice none 0 0)))])
 (.seq (Rg [0,2,3] [Mv 7 0,Ro 8 (.ixS 1 (T 7) (Ci 0)),Ro 9 (.load1 .slice (T 8)),Ro 10 (.lenS (T 9)),As 4 10])
 (.seq (.seq (Rg [0,2,3,4] [Mv 11 0,Ca 12 55 [T 11] (some (.val (.one .slice))),Ro 13 (.lenS (T 12)),Ol 14 (.move (Ci 0))])
 (.block 0 (.loop 3 none (some [2,3,4,12,13,14]))))
 (.seq (Rg [2,3] [Mv 34 2,Mv 35 3,As 2 34,As 3 35])
 .ret))),
 [.tmp 2,.tmp 3],
 [(3,⟨none,some [2,3,4,12,13,14],.seq (Rg [2,3,4,12,13,14] [Bt 15 .lss 3 14 13])
 (.seq (.cond (T 15) .skip
 (.exit 0 (some [2,3])))
 (.seq (.block 1 (.seq (Rg [2,3,4,12,13,14] [Ix 16 1 12 14,Ro 17 (.load1 .slice (T 16)),As 6 17])
 (.seq (Rg [2,3,4,6,12,13,14] [Mv 18 6,Ca 19 56 [T 18] vI,Mv 20 4,Bt 21 .lss 3 19 20])
 (.cond (T 21) (Rg [2,3,4,6,12,13,14] [Mv 22 2,Mv 23 6,Ro 24 (.buildSlice 1 1 [.slice none 0 0] [(0,1,(T 23))]),⟨some 25,none,.op false (.old (.call ⟨.builtin .append,#[T 22,T 24],#[22,22]⟩))⟩,As 2 25])
 (Rg [2,3,4,6,12,13,14] [Mv 26 3,Mv 27 6,Mv 28 4,Ro 29 (.cutS 27 (T 27) (some (T 28)) none none),Ca 30 57 [T 29] (some (.val (.one .slice))),Ro 31 (.buildSlice 1 1 [.slice none 0 0] [(0,1,(T 30))]),⟨some 32,none,.op false (.old (.call ⟨.builtin .append,#[T 26,T 31],#[22,22]⟩))⟩,As 3 32])))))
 (Rg [2,3,4,12,13,14] [Bc 33 .add 3 14 .i64 1,Mv 14 33])))⟩)],
 []⟩
theorem r29_ok:resFun (progU ()) hint live 29 Try.f29=some r29:=by kernel_rfl
def r31 : RFun :=
⟨.seq (Rg [0] [Bo 1 2 0,Ol 2 (.assign (.const (.bool false)))])
 (.seq (Rg [1] [Ld 3 1,Ca 4 60 [T 3] vI,Bc 5 .eql 28 4 .i64 0,Mv 6 5,Ht 7 6 (.fieldAddr 0 (T 1)),Ht 8 6 (.load1 (.int .i64) (T 7)),Gt 9 6 (.binOp .geq 2 (T 8) (Ci 0) 2),Ol 10 (.pick (T 6) (T 9) (.const (.bool false))),Mv 11 10,Ht 12 11 (.fieldAddr 0 (T 1)),Ht 13 11 (.load1 (.int .i64) (T 12)),Ht 14 11 (.fieldAddr 1 (T 1)),Ht 15 11 (.load1 (.int .i64) (T 14)),Gt 16 11 (.binOp .lss 2 (T 13) (T 15) 2),Ol 17 (.pick (T 11) (T 16) (.const (.bool false))),As 2 17])
 .ret),
 [.tmp 2],
 [],
 []⟩
theorem r31_ok:resFun (progU ()) hint live 31 Try.f31=some r31:=by kernel_rfl
def r32 : RFun :=
⟨.seq (Rg [0] [Bo 1 2 0,Ol 2 (.assign (.const (.bool false)))])
 (.seq (Rg [1] [Ld 3 1,Ca 4 61 [T 3] vI,Bc 5 .eql 3 4 .i64 0,Mv 6 5,Ht 7 6 (.fieldAddr 0 (T 1)),Ht 8 6 (.load1 (.int .i64) (T 7)),Gt 9 6 (.binOp .geq 2 (T 8) (Ci 0) 2),Ol 10 (.pick (T 6) (T 9) (.const (.bool false))),Mv 11 10,Ht 12 11 (.fieldAddr 0 (T 1)),Ht 13 11 (.load1 (.int .i64) (T 12)),Ht 14 11 (.fieldAddr 1 (T 1)),Ht 15 11 (.load1 (.int .i64) (T 14)),Gt 16 11 (.binOp .lss 2 (T 13) (T 15) 2),Ol 17 (.pick (T 11) (T 16) (.const (.bool false))),As 2 17])
 .ret),
 [.tmp 2],
 [],
 []⟩
theorem r32_ok:resFun (progU ()) hint live 32 Try.f32=some r32:=by kernel_rfl
def r34 : RFun :=
⟨.seq (Rg [0] [Bo 1 2 0,Ol 2 (.assign (.const (.bool false)))])
 (.seq (Rg [1] [Fa 10 1 1,Ro 11 (.load1 .slice (T 10)),Ca 12 48 [T 11] (some (.tup [.one .slice,.one (.int .i64)])),Mv 9 12,Ex 13 9 0,Ex 14 9 1,As 3 13,As 4 14])
 (.seq (Rg [1,3,4] [Fa 16 0 1,Ro 17 (.load1 .slice (T 16)),Ca 18 29 [T 17] (some (.tup [.one .slice,.one .slice])),Mv 15 18,Ex 19 15 0,Ex 20 15 1,As 5 19,As 6 20])
 (.seq (.seq (Rg [3,4,6] [Mv 21 6,Ro 22 (.lenS (T 21)),Ol 23 (.move (Ci 0))])
 (.block 0 (.loop 4 none (some [3,4,21,22,23]))))
 (.seq (Rg [] [Ol 2 (.assign (.const (.bool true)))])
 .ret)))),
 [.tmp 2],
 [(4,⟨none,some [3,4,21,22,23],.seq (Rg [3,4,21,22,23] [Bt 24 .lss 3 23 22])
 (.seq (.cond (T 24) .skip
 (.exit 0 (some [])))
 (.seq (.block 1 (.seq (Rg [3,4,21,22,23] [Ix 25 1 21 23,Ro 26 (.load1 .slice (T 25)),As 8 26])
 (.seq (Rg [3,4,8,21,22,23] [Mv 27 8,Mv 28 3,Mv 29 4,Ca 30 62 [T 27,T 28,T 29] vI,Bc 31 .neq 3 30 .i64 0])
 (.cond (T 31) (.seq (Rg [] [Ol 2 (.assign (.const (.bool false)))])
 .ret)
 .skip))))
 (Rg [3,4,21,22,23] [Bc 32 .add 3 23 .i64 1,Mv 23 32])))⟩)],
 []⟩
theorem r34_ok:resFun (progU ()) hint live 34 Try.f34=some r34:=by kernel_rfl
def r35 : RFun :=
⟨.seq (Rg [0] [Nw 2 2 z2])
 (.seq (Rg [0,2] [Mv 3 0,Ro 4 (.build z2 [(0,1,(T 3)),(1,1,(Ci 1))]),Sr 2 2 4])
 .ret),
 [.agg 2 2 [.int .i64,.int .i64]],
 [],
 []⟩
theorem r35_ok:resFun (progU ()) hint live 35 Try.f35=some r35:=by kernel_rfl
def r36 : RFun :=
⟨.seq (Rg [0,1] [Bo 2 2 0,Bo 3 2 1,Nw 4 2 z2,Ac 5 0])
 (.seq (.seq (Rg [2,3,4] [Ld 8 2,Ld 9 3,Ca 10 37 [T 8,T 9] vI,Bc 11 .neq 3 10 .i64 0])
 (.cond (T 11) (.seq (Rg [2,3,4] [Ro 12 (.build z2 []),Ld 13 2,Ld 14 3,Ca 15 37 [T 13,T 14] vI,Sr 2 4 12,As 5 15])
 .ret)
 .skip))
 (.seq (.draw (some [2,3,4]) 16 [Dr (Fa 16 0 2) 0 [1,2,6,9,13,14,15],Db (L1 17 16) 1 16 [2,6,9,13,14,15],Dr (Fa 19 1 3) 3 [4,5,6,9,13,14,15],Db (L1 20 19) 4 19 [5,6,9,13,14,15],⟨Ro 21 (.convI .u64 (T 20)),5,.cvt (T 20),[6,9,13,14,15],false,true⟩,Dr (Fa 23 0 3) 7 [8,9,13,14,15],Db (L1 24 23) 8 23 [9,13,14,15],Dr (Fa 26 1 2) 10 [11,12,13,14,15],Db (L1 27 26) 11 26 [12,13,14,15],⟨Ro 28 (.convI .u64 (T 27)),12,.cvt (T 27),[13,14,15],false,true⟩,⟨Ca 18 40 [T 17] (some (.val (.one (.int .u64)))),2,.all,[6,9,13,14,15],false,false⟩,⟨Ca 22 38 [T 18,T 21] (some (.val (.one (.int .u64)))),6,.all,[9,13,14,15],false,false⟩,⟨Ca 25 40 [T 24] (some (.val (.one (.int .u64)))),9,.all,[13,14,15],false,false⟩,⟨Ca 29 38 [T 25,T 28] (some (.val (.one (.int .u64)))),13,.all,[14,15],false,false⟩,Dr (As 6 22) 14 [15],Dr (As 7 29) 15 []])
 (.seq (.draw (some [2,3,4,6,7]) 34 [Dr (Fa 30 0 2) 0 [1,2,6,29,30,31,32,33],Db (L1 31 30) 1 30 [2,6,29,30,31,32,33],Dr (Bc 32 .lss 2 31 .i64 0) 2 [6,29,30,31,32,33],Dr (Fa 33 0 3) 3 [4,5,6,29,30,31,32,33],Db (L1 34 33) 4 33 [5,6,29,30,31,32,33],Dr (Bc 35 .lss 2 34 .i64 0) 5 [6,29,30,31,32,33],Dr (Bt 36 .neq 4 32 35) 6 [29,30,31,32,33],Dr (Fa 37 0 2) 7 [8,9,11,14,16,17,28,29,30,31,32,33],Db (L1 38 37) 8 37 [9,11,14,16,17,28,29,30,31,32,33],Dr (Mv 40 6) 10 [11,17,28,29,30,31,32,33],Dr (Fa 42 0 3) 12 [13,14,16,17,28,29,30,31,32,33],Db (L1 43 42) 13 42 [14,16,17,28,29,30,31,32,33],Dr (Mv 45 7) 15 [16,17,28,29,30,31,32,33],Dr (Fa 48 1 2) 18 [19,20,22,28,29,30,31,32,33],Db (L1 49 48) 19 48 [20,22,28,29,30,31,32,33],⟨Ro 50 (.convI .u64 (T 49)),20,.cvt (T 49),[22,28,29,30,31,32,33],false,true⟩,Dr (Mv 51 7) 21 [22,28,29,30,31,32,33],Dr (Bt 52 .quo 69 50 51) 22 [28,29,30,31,32,33],Dr (Fa 53 1 3) 23 [24,25,27,28,29,30,31,32,33],Db (L1 54 53) 24 53 [25,27,28,29,30,31,32,33],⟨Ro 55 (.convI .u64 (T 54)),25,.cvt (T 54),[27,28,29,30,31,32,33],false,true⟩,Dr (Mv 56 6) 26 [27,28,29,30,31,32,33],Dr (Bt 57 .quo 69 55 56) 27 [28,29,30,31,32,33],⟨Ca 39 40 [T 38] (some (.val (.one (.int .u64)))),9,.all,[11,14,16,17,28,29,30,31,32,33],false,false⟩,Dr (Bt 41 .quo 69 39 40) 11 [17,28,29,30,31,32,33],⟨Ca 44 40 [T 43] (some (.val (.one (.int .u64)))),14,.all,[16,17,28,29,30,31,32,33],false,false⟩,Dr (Bt 46 .quo 69 44 45) 16 [17,28,29,30,31,32,33],⟨Ca 47 39 [T 41,T 46] (some (.val (.agg s4))),17,.all,[28,29,30,31,32,33],false,false⟩,⟨Ca 58 39 [T 52,T 57] (some (.val (.agg s4))),28,.all,[29,30,31,32,33],false,false⟩,⟨Ca 59 45 [T 36,T 47,T 58] (some (.tup [.agg s2,.one (.int .i64)])),29,.all,[30,31,32,33],false,false⟩,Dr (Ex 60 59 0) 30 [32,33],Dr (Ex 61 59 1) 31 [32,33],⟨Sr 2 4 60,32,.blk (T 4),[33],true,true⟩,Dr (As 5 61) 33 []])
 .ret))),
 [.agg 4 2 [.int .i64,.int .i64],.tmp 5],
 [],
 []⟩
theorem r36_ok:resFun (progU ()) hint live 36 Try.f36=some r36:=by kernel_rfl
def r37 : RFun :=
⟨.seq (Rg [0,1] [Bo 2 2 0,Bo 3 2 1,Ac 4 0])
 (.seq (.seq (Rg [2,3] [Ld 5 2,Ca 6 61 [T 5] vI,Bc 7 .neq 3 6 .i64 0])
 (.cond (T 7) (.seq (Rg [2] [Ld 8 2,Ca 9 61 [T 8] vI,As 4 9])
 .ret)
 .skip))
 (.seq (Rg [3] [Ld 10 3,Ca 11 61 [T 10] vI,As 4 11])
 .ret)),
 [.tmp 4],
 [],
 []⟩
theorem r37_ok:resFun (progU ()) hint live 37 Try.f37=some r37:=by kernel_rfl
def r38 : RFun :=
⟨.seq (Rg [0,1] [Ol 4 (.assign (.const (.int .u64 0)))])
 (.seq (.block 0 (.loop 1 (some [0,1]) (some [0,1])))
 (.seq (Rg [0] [Mv 11 0,As 4 11])
 .ret)),
 [.tmp 4],
 [(1,⟨some [0,1],some [0,1],.seq (.seq (Rg [0,1] [Mv 5 1,Bc 6 .neq 69 5 .u64 0])
 (.cond (T 6) .skip
 (.exit 0 (some [0]))))
 (.block 1 (.draw (some [0,1]) 6 [Dr (Mv 7 1) 0 [4,5],Dr (Mv 8 0) 1 [3,4,5],Dr (Mv 9 1) 2 [3,5],Dr (Bt 10 .rem 69 8 9) 3 [5],Dr (As 0 7) 4 [5],Dr (As 1 10) 5 []]))⟩)],
 []⟩
theorem r38_ok:resFun (progU ()) hint live 38 Try.f38=some r38:=by kernel_rfl
def r39 : RFun :=
⟨.seq (Rg [0,1] [Nw 4 4 [.int .u64 0,.int .u64 0,.int .u64 0,.int .u64 0]])
 (.seq (Rg [0,1,4] [Mv 11 0,Ca 12 63 [T 11] (some (.val (.agg s4))),Mv 13 1,Ca 14 63 [T 13] (some (.val (.agg s4))),Ro 5 (.new 4 [.int .u64 0,.int .u64 0,.int .u64 0,.int .u64 0]),Ro 6 (.new 4 [.int .u64 0,.int .u64 0,.int .u64 0,.int .u64 0]),Sr 4 5 12,Sr 4 6 14])
 (.seq (Rg [4,5,6] [Ro 15 (.build [.int .u64 0,.int .u64 0,.int .u64 0,.int .u64 0] []),Ro 7 (.new 4 [.int .u64 0,.int .u64 0,.int .u64 0,.int .u64 0]),Sr 4 7 15])
 (.seq (.seq (Rg [4,5,6,7] [Ac 8 0])
 (.block 0 (.loop 4 (some [4,5,6,7,8]) (some [4,5,6,7,8]))))
 (.seq (Rg [4,7] [Ro 60 (.load 4 s4 (T 7)),Sr 4 4 60])
 .ret)))),
 [.agg 4 4 [.int .u64,.int .u64,.int .u64,.int .u64]],
 [(4,⟨some [4,5,6,7,8],some [4,5,6,7,8],.seq (.seq (Rg [4,5,6,7,8] [Mv 16 8,Bc 17 .lss 3 16 .i64 2])
 (.cond (T 17) .skip
 (.exit 0 (some [4,7]))))
 (.seq (.block 1 (.seq (Rg [4,5,6,7,8] [Ol 9 (.assign (.const (.int .u64 0)))])
 (.seq (.seq (Rg [4,5,6,7,8,9] [Ac 10 0])
 (.block 2 (.loop 8 (some [4,5,6,7,8,9,10]) (some [4,5,6,7,8,9,10]))))
 (Rg [4,5,6,7,8,9] [Mv 51 8,Bc 52 .add 3 51 .i64 2,Fa 53 0 7,Ro 54 (.ixA 4 1 (T 53) (T 52)),Ro 55 (.load1 (.int .u64) (T 54)),Mv 56 9,Bt 57 .add 69 55 56,Fa 58 0 7,Ro 59 (.ixA 4 1 (T 58) (T 52)),Sr 1 59 57]))))
 (Rg [4,5,6,7,8] [Mv 18 8,Bc 19 .add 3 18 .i64 1,As 8 19]))⟩),(8,⟨some [4,5,6,7,8,9,10],some [4,5,6,7,8,9,10],.seq (.seq (Rg [4,5,6,7,8,9,10] [Mv 20 10,Bc 21 .lss 3 20 .i64 2])
 (.cond (T 21) .skip
 (.exit 2 (some [4,5,6,7,8,9]))))
 (.seq (.block 3 (.seq (.draw (some [4,5,6,7,8,9,10]) 19 [Dr (Mv 24 9) 0 [17,18],Dr (Mv 25 8) 1 [3,5,6,16,17,18],Dr (Mv 26 10) 2 [3,5,6,16,17,18],Dr (Bt 27 .add 3 25 26) 3 [5,6,16,17,18],Dr (Fa 28 0 7) 4 [5,6,16,17,18],Dr (Ro 29 (.ixA 4 1 (T 28) (T 27))) 5 [6,16,17,18],Db (Ro 30 (.load1 (.int .u64) (T 29))) 6 29 [16,17,18],Dr (Mv 31 8) 7 [9,10,15,16,17,18],Dr (Fa 32 0 5) 8 [9,10,15,16,17,18],Dr (Ro 33 (.ixA 4 1 (T 32) (T 31))) 9 [10,15,16,17,18],Db (Ro 34 (.load1 (.int .u64) (T 33))) 10 33 [15,16,17,18],Dr (Mv 35 10) 11 [13,14,15,16,17,18],Dr (Fa 36 0 6) 12 [13,14,15,16,17,18],Dr (Ro 37 (.ixA 4 1 (T 36) (T 35))) 13 [14,15,16,17,18],Db (Ro 38 (.load1 (.int .u64) (T 37))) 14 37 [15,16,17,18],Dr (Bt 39 .mul 69 34 38) 15 [16,17,18],Dr (Bt 40 .add 69 30 39) 16 [17,18],Dr (Bt 41 .add 69 24 40) 17 [18],Dr (As 9 41) 18 []])
 (.seq (Rg [4,5,6,7,8,9,10] [Mv 42 8,Mv 43 10,Bt 44 .add 3 42 43,Mv 45 9,Bc 46 .and 69 45 .u64 4294967295,Fa 47 0 7,Ro 48 (.ixA 4 1 (T 47) (T 44)),Sr 1 48 46])
 (Rg [4,5,6,7,8,9,10] [Mv 49 9,Ol 50 (.binOp .shr 69 (T 49) (.const (.int .u64 32)) 95),As 9 50]))))
 (Rg [4,5,6,7,8,9,10] [Mv 22 10,Bc 23 .add 3 22 .i64 1,As 10 23]))⟩)],
 []⟩
theorem r39_ok:resFun (progU ()) hint live 39 Try.f39=some r39:=by kernel_rfl
def r40 : RFun :=
⟨.seq (Rg [0] [Ol 2 (.assign (.const (.int .u64 0)))])
 (.seq (.seq (Rg [0] [Mv 3 0,Bc 4 .geq 2 3 .i64 0])
 (.cond (T 4) (.seq (Rg [0] [Mv 5 0,Ro 6 (.convI .u64 (T 5)),As 2 6])
 .ret)
 .skip))
 (.seq (Rg [0] [Mv 7 0,Bc 8 .add 2 7 .i64 1,Ol 9 (.unOp .neg 2 (T 8)),Ro 10 (.convI .u64 (T 9)),Bc 11 .add 69 10 .u64 1,As 2 11])
 .ret)),
 [.tmp 2],
 [],
 []⟩
theorem r40_ok:resFun (progU ()) hint live 40 Try.f40=some r40:=by kernel_rfl
def r41 : RFun :=
⟨.seq (Rg [0,1] [Ro 2 (.box 4 (T 0)),Ro 3 (.box 4 (T 1)),Nw 4 4 [.int .u64 0,.int .u64 0,.int .u64 0,.int .u64 0]])
 (.seq (Rg [2,3,4] [Ol 5 (.assign (.const (.int .u64 0)))])
 (.seq (.seq (Rg [2,3,4,5] [Ac 6 0])
 (.block 0 (.loop 3 (some [2,3,4,5,6]) (some [2,3,4,5,6]))))
 (.seq (Rg [2,4] [Ro 29 (.load 4 s4 (T 2)),Sr 4 4 29])
 .ret))),
 [.agg 4 4 [.int .u64,.int .u64,.int .u64,.int .u64]],
 [(3,⟨some [2,3,4,5,6],some [2,3,4,5,6],.seq (.seq (Rg [2,3,4,5,6] [Mv 7 6,Bc 8 .lss 3 7 .i64 4])
 (.cond (T 8) .skip
 (.exit 0 (some [2,4]))))
 (.seq (.block 1 (.seq (.draw (some [2,3,4,5,6]) 12 [Dr (Mv 11 5) 0 [10,11],Dr (Mv 12 6) 1 [3,4,9,10,11],Dr (Fa 13 0 2) 2 [3,4,9,10,11],Dr (Ro 14 (.ixA 4 1 (T 13) (T 12))) 3 [4,9,10,11],Db (Ro 15 (.load1 (.int .u64) (T 14))) 4 14 [9,10,11],Dr (Mv 16 6) 5 [7,8,9,10,11],Dr (Fa 17 0 3) 6 [7,8,9,10,11],Dr (Ro 18 (.ixA 4 1 (T 17) (T 16))) 7 [8,9,10,11],Db (Ro 19 (.load1 (.int .u64) (T 18))) 8 18 [9,10,11],Dr (Bt 20 .add 69 15 19) 9 [10,11],Dr (Bt 21 .add 69 11 20) 10 [11],Dr (As 5 21) 11 []])
 (.seq (Rg [2,3,4,5,6] [Mv 22 6,Mv 23 5,Bc 24 .and 69 23 .u64 4294967295,Fa 25 0 2,Ro 26 (.ixA 4 1 (T 25) (T 22)),Sr 1 26 24])
 (Rg [2,3,4,5,6] [Mv 27 5,Ol 28 (.binOp .shr 69 (T 27) (.const (.int .u64 32)) 95),As 5 28]))))
 (Rg [2,3,4,5,6] [Mv 9 6,Bc 10 .add 3 9 .i64 1,As 6 10]))⟩)],
 []⟩
theorem r41_ok:resFun (progU ()) hint live 41 Try.f41=some r41:=by kernel_rfl
def r42 : RFun :=
⟨.seq (Rg [0,1] [Ro 2 (.box 4 (T 0)),Ro 3 (.box 4 (T 1)),Ol 4 (.assign (.const (.bool false)))])
 (.seq (.seq (Rg [2,3] [Ac 5 3])
 (.block 0 (.loop 2 (some [2,3,5]) (some [2,3,5]))))
 (.seq (Rg [] [Ol 4 (.assign (.const (.bool false)))])
 .ret)),
 [.tmp 4],
 [(2,⟨some [2,3,5],some [2,3,5],.seq (.seq (Rg [2,3,5] [Mv 6 5,Bc 7 .geq 3 6 .i64 0])
 (.cond (T 7) .skip
 (.exit 0 (some []))))
 (.seq (.block 1 (.seq (.draw (some [2,3,5]) 9 [Dr (Mv 10 5) 0 [2,3,8],Dr (Fa 11 0 2) 1 [2,3,8],Dr (Ro 12 (.ixA 4 1 (T 11) (T 10))) 2 [3,8],Db (Ro 13 (.load1 (.int .u64) (T 12))) 3 12 [8],Dr (Mv 14 5) 4 [6,7,8],Dr (Fa 15 0 3) 5 [6,7,8],Dr (Ro 16 (.ixA 4 1 (T 15) (T 14))) 6 [7,8],Db (Ro 17 (.load1 (.int .u64) (T 16))) 7 16 [8],Dr (Bt 18 .neq 69 13 17) 8 []])
 (.cond (T 18) (.seq (.draw (some [2,3,5]) 10 [Dr (Mv 19 5) 0 [2,3,8,9],Dr (Fa 20 0 2) 1 [2,3,8,9],Dr (Ro 21 (.ixA 4 1 (T 20) (T 19))) 2 [3,8,9],Db (Ro 22 (.load1 (.int .u64) (T 21))) 3 21 [8,9],Dr (Mv 23 5) 4 [6,7,8,9],Dr (Fa 24 0 3) 5 [6,7,8,9],Dr (Ro 25 (.ixA 4 1 (T 24) (T 23))) 6 [7,8,9],Db (Ro 26 (.load1 (.int .u64) (T 25))) 7 25 [8,9],Dr (Bt 27 .lss 69 22 26) 8 [9],Dr (As 4 27) 9 []])
 .ret)
 .skip)))
 (Rg [2,3,5] [Mv 8 5,Bc 9 .sub 3 8 .i64 1,As 5 9]))⟩)],
 []⟩
theorem r42_ok:resFun (progU ()) hint live 42 Try.f42=some r42:=by kernel_rfl
