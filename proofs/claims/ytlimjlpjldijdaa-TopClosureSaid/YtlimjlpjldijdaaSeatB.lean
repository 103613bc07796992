import Derived.Test.YtlimjlpjldijdaaSeat0
import Derived.Test.YtlimjlpjldijdaaSymS
set_option linter.unusedSimpArgs false
set_option linter.unusedVariables false
namespace Go.Proofs.Ytlimjlpjldijdaa
open Go.Sim
set_option maxRecDepth 100000
def r15 : RFun :=
⟨.seq (Rg [0] [Bo 1 3 0,Ac 2 0])
 (.seq (.seq (.draw (some [1]) 39 [Dr (Fa 3 2 1) 0 [1,2,3,4,5,6,7,8,9,10,11,12,13,14,15,16,17,18,19,20,21,22,23,24,25,26,27,28,29,30,31,32,33,34,35,36,37,38],Db (L1 4 3) 1 3 [2,3,4,5,6,7,8,9,10,11,12,13,14,15,16,17,18,19,20,21,22,23,24,25,26,27,28,29,30,31,32,33,34,35,36,37,38],Dr (Bc 5 .lss 2 4 .i64 1) 2 [3,4,5,6,7,8,9,10,11,12,13,14,15,16,17,18,19,20,21,22,23,24,25,26,27,28,29,30,31,32,33,34,35,36,37,38],Dr (Mv 6 5) 3 [4,5,6,7,8,9,10,11,12,13,14,15,16,17,18,19,20,21,22,23,24,25,26,27,28,29,30,31,32,33,34,35,36,37,38],⟨Hf 7 6 (.fieldAddr 2 (T 1)),4,.none,[5,6,7,8,9,10,11,12,13,14,15,16,17,18,19,20,21,22,23,24,25,26,27,28,29,30,31,32,33,34,35,36,37,38],false,true⟩,⟨Hf 8 6 (.load1 (.int .i64) (T 7)),5,.blk (T 7),[6,7,8,9,10,11,12,13,14,15,16,17,18,19,20,21,22,23,24,25,26,27,28,29,30,31,32,33,34,35,36,37,38],false,true⟩,⟨Gf 9 6 (.binOp .gtr 2 (T 8) (Ci 1000000000) 2),6,.none,[7,8,9,10,11,12,13,14,15,16,17,18,19,20,21,22,23,24,25,26,27,28,29,30,31,32,33,34,35,36,37,38],false,true⟩,Dr (Ol 10 (.pick (T 6) (.const (.bool true)) (T 9))) 7 [8,9,10,11,12,13,14,15,16,17,18,19,20,21,22,23,24,25,26,27,28,29,30,31,32,33,34,35,36,37,38],Dr (Mv 11 10) 8 [9,10,11,12,13,14,15,16,17,18,19,20,21,22,23,24,25,26,27,28,29,30,31,32,33,34,35,36,37,38],⟨Hf 12 11 (.fieldAddr 0 (T 1)),9,.none,[10,11,12,13,14,15,16,17,18,19,20,21,22,23,24,25,26,27,28,29,30,31,32,33,34,35,36,37,38],false,true⟩,⟨Hf 13 11 (.load1 (.int .i64) (T 12)),10,.blk (T 12),[11,12,13,14,15,16,17,18,19,20,21,22,23,24,25,26,27,28,29,30,31,32,33,34,35,36,37,38],false,true⟩,⟨Gf 14 11 (.binOp .lss 2 (T 13) (.const (.int .i64 (-1000000000))) 2),11,.none,[12,13,14,15,16,17,18,19,20,21,22,23,24,25,26,27,28,29,30,31,32,33,34,35,36,37,38],false,true⟩,Dr (Ol 15 (.pick (T 11) (.const (.bool true)) (T 14))) 12 [13,14,15,16,17,18,19,20,21,22,23,24,25,26,27,28,29,30,31,32,33,34,35,36,37,38],Dr (Mv 16 15) 13 [14,15,16,17,18,19,20,21,22,23,24,25,26,27,28,29,30,31,32,33,34,35,36,37,38],⟨Hf 17 16 (.fieldAddr 0 (T 1)),14,.none,[15,16,17,18,19,20,21,22,23,24,25,26,27,28,29,30,31,32,33,34,35,36,37,38],false,true⟩,⟨Hf 18 16 (.load1 (.int .i64) (T 17)),15,.blk (T 17),[16,17,18,19,20,21,22,23,24,25,26,27,28,29,30,31,32,33,34,35,36,37,38],false,true⟩,⟨Gf 19 16 (.binOp .gtr 2 (T 18) (Ci 1000000000) 2),16,.none,[17,18,19,20,21,22,23,24,25,26,27,28,29,30,31,32,33,34,35,36,37,38],false,true⟩,Dr (Ol 20 (.pick (T 16) (.const (.bool true)) (T 19))) 17 [18,19,20,21,22,23,24,25,26,27,28,29,30,31,32,33,34,35,36,37,38],Dr (Mv 21 20) 18 [19,20,21,22,23,24,25,26,27,28,29,30,31,32,33,34,35,36,37,38],⟨Hf 22 21 (.fieldAddr 1 (T 1)),19,.none,[20,21,22,23,24,25,26,27,28,29,30,31,32,33,34,35,36,37,38],false,true⟩,⟨Hf 23 21 (.load1 (.int .i64) (T 22)),20,.blk (T 22),[21,22,23,24,25,26,27,28,29,30,31,32,33,34,35,36,37,38],false,true⟩,⟨Gf 24 21 (.binOp .lss 2 (T 23) (.const (.int .i64 (-1000000000))) 2),21,.none,[22,23,24,25,26,27,28,29,30,31,32,33,34,35,36,37,38],false,true⟩,Dr (Ol 25 (.pick (T 21) (.const (.bool true)) (T 24))) 22 [23,24,25,26,27,28,29,30,31,32,33,34,35,36,37,38],Dr (Mv 26 25) 23 [24,25,26,27,28,29,30,31,32,33,34,35,36,37,38],⟨Hf 27 26 (.fieldAddr 1 (T 1)),24,.none,[25,26,27,28,29,30,31,32,33,34,35,36,37,38],false,true⟩,⟨Hf 28 26 (.load1 (.int .i64) (T 27)),25,.blk (T 27),[26,27,28,29,30,31,32,33,34,35,36,37,38],false,true⟩,⟨Gf 29 26 (.binOp .gtr 2 (T 28) (Ci 1000000000) 2),26,.none,[27,28,29,30,31,32,33,34,35,36,37,38],false,true⟩,Dr (Ol 30 (.pick (T 26) (.const (.bool true)) (T 29))) 27 [28,29,30,31,32,33,34,35,36,37,38],Dr (Mv 31 30) 28 [29,30,31,32,33,34,35,36,37,38],⟨Hf 32 31 (.fieldAddr 0 (T 1)),29,.none,[30,33,36,37,38],false,true⟩,⟨Hf 33 31 (.load1 (.int .i64) (T 32)),30,.blk (T 32),[33,36,37,38],false,true⟩,⟨Hf 34 31 (.fieldAddr 1 (T 1)),31,.none,[32,33,36,37,38],false,true⟩,⟨Hf 35 31 (.load1 (.int .i64) (T 34)),32,.blk (T 34),[33,36,37,38],false,true⟩,⟨Hf 37 31 (.fieldAddr 2 (T 1)),34,.none,[35,36,37,38],false,true⟩,⟨Hf 38 31 (.load1 (.int .i64) (T 37)),35,.blk (T 37),[36,37,38],false,true⟩,⟨⟨some 36,some (31,false),.call (.func 39) [T 33,T 35] vI⟩,33,.all,[36,37,38],false,false⟩,⟨⟨some 39,some (31,false),.call (.func 39) [T 36,T 38] vI⟩,36,.all,[37,38],false,false⟩,⟨Gf 40 31 (.binOp .neq 2 (T 39) (Ci 1) 2),37,.none,[38],false,true⟩,Dr (Ol 41 (.pick (T 31) (.const (.bool true)) (T 40))) 38 []])
 (.cond (T 41) (.seq (Rg [] [Ac 2 8])
 .ret)
 .skip))
 (.seq (Rg [] [Ac 2 0])
 .ret)),
 [.tmp 2],
 [],
 []⟩
theorem r15_ok:resFun (progU ()) hint live 15 Try.f15=some r15:=by kernel_rfl
def r16 : RFun :=
⟨.seq (Rg [0] [Bo 1 3 0,Ol 2 (.assign (.const (.bool false)))])
 (.seq (Rg [1] [Fa 3 0 1,L1 4 3,Bc 5 .eql 2 4 .i64 0,Mv 6 5,Ht 7 6 (.fieldAddr 1 (T 1)),Ht 8 6 (.load1 (.int .i64) (T 7)),Gt 9 6 (.binOp .eql 2 (T 8) (Ci 0) 2),Ol 10 (.pick (T 6) (T 9) (.const (.bool false))),As 2 10])
 .ret),
 [.tmp 2],
 [],
 []⟩
theorem r16_ok:resFun (progU ()) hint live 16 Try.f16=some r16:=by kernel_rfl
def r17 : RFun :=
⟨.seq (Rg [0] [Ac 2 0])
 (.seq (.seq (Rg [0] [Mv 3 0,Ro 4 (.lenS (T 3)),Bc 5 .gtr 3 4 .i64 8])
 (.cond (T 5) (.seq (Rg [] [Ac 2 4])
 .ret)
 .skip))
 (.seq (.seq (Rg [0] [Mv 6 0,Ro 7 (.lenS (T 6)),Bc 8 .eql 3 7 .i64 0])
 (.cond (T 8) (.seq (Rg [] [Ac 2 8])
 .ret)
 .skip))
 (.seq (Rg [0] [Mv 9 0,Ca 10 40 [T 9,.func 41] vI,As 2 10])
 .ret))),
 [.tmp 2],
 [],
 []⟩
theorem r17_ok:resFun (progU ()) hint live 17 Try.f17=some r17:=by kernel_rfl
def r18 : RFun :=
⟨.seq (Rg [0,1] [Bo 2 6 0,Ol 4 (.assign (.const (.bool false)))])
 (.seq (Rg [1,2] [Fa 5 0 2,L1 6 5,Bc 7 .geq 3 6 .i64 0,Mv 8 7,Ht 9 8 (.fieldAddr 0 (T 2)),Ht 10 8 (.load1 (.int .i64) (T 9)),Ht 11 8 (.fieldAddr 1 (T 2)),Ht 12 8 (.load1 (.int .i64) (T 11)),Gt 13 8 (.binOp .lss 3 (T 10) (T 12) 3),Ol 14 (.pick (T 8) (T 13) (.const (.bool false))),Mv 15 14,Ht 16 15 (.fieldAddr 1 (T 2)),Ht 17 15 (.load1 (.int .i64) (T 16)),Gt 18 15 (.move (T 1)),Gt 19 15 (.binOp .lss 3 (T 17) (T 18) 3),Ol 20 (.pick (T 15) (T 19) (.const (.bool false))),Mv 21 20,Ht 22 21 (.fieldAddr 5 (T 2)),Ht 23 21 (.load1 (.int .i64) (T 22)),Gt 24 21 (.binOp .geq 3 (T 23) (Ci 0) 3),Ol 25 (.pick (T 21) (T 24) (.const (.bool false))),Mv 26 25,Ht 27 26 (.fieldAddr 2 (T 2)),Ht 28 26 (.load 3 [.int .i64,.int .i64,.int .i64] (T 27)),⟨some 29,some (26,true),.call (.func 42) [T 28] vI⟩,Gt 30 26 (.binOp .eql 33 (T 29) (Ci 0) 33),Ol 31 (.pick (T 26) (T 30) (.const (.bool false))),As 4 31])
 .ret),
 [.tmp 4],
 [],
 []⟩
theorem r18_ok:resFun (progU ()) hint live 18 Try.f18=some r18:=by kernel_rfl
def r19 : RFun :=
⟨.seq (Rg [0,1,2] [Ol 6 (.assign (.const (.slice none 0 0))),Ac 7 0])
 (.seq (Rg [0,1,2] [Mv 14 0,Ro 15 (.mkSlice 3 [.int .i64 0,.int .i64 0,.int .i64 0] (Ci 0) (T 14)),As 8 15])
 (.seq (.seq (Rg [0,1,2,8] [Mv 16 0,Ol 17 (.move (Ci 0))])
 (.block 0 (.loop 3 (some [1,2,8,16,17]) (some [1,2,8,16,17]))))
 (.seq (Rg [8] [Mv 41 8,As 6 41,Ac 7 0])
 .ret))),
 [.tmp 6,.tmp 7],
 [(3,⟨some [1,2,8,16,17],some [1,2,8,16,17],.seq (Rg [1,2,8,16,17] [Bt 18 .lss 3 17 16])
 (.seq (.cond (T 18) .skip
 (.exit 0 (some [8])))
 (.seq (.block 1 (.seq (Rg [1,2,8,16,17] [Mv 19 17,As 9 19])
 (.seq (Rg [1,2,8,9,16,17] [Mv 21 1,Mv 22 9,⟨some 23,none,.call (T 21) [T 22] (some (.tup [.agg [.int .i64,.int .i64,.int .i64],.agg [.int .i64,.int .i64,.int .i64]]))⟩,Mv 20 23,Ex 24 20 0,Ex 25 20 1,Nw 10 3 [.int .i64 0,.int .i64 0,.int .i64 0],Nw 11 3 [.int .i64 0,.int .i64 0,.int .i64 0],Sr 3 10 24,Sr 3 11 25])
 (.seq (Rg [1,2,8,10,11,16,17] [Mv 27 2,Ro 28 (.load 3 [.int .i64,.int .i64,.int .i64] (T 10)),Ro 29 (.load 3 [.int .i64,.int .i64,.int .i64] (T 11)),⟨some 30,none,.call (T 27) [T 28,T 29] (some (.tup [.agg [.int .i64,.int .i64,.int .i64],.one (.int .i64)]))⟩,Mv 26 30,Ex 31 26 0,Ex 32 26 1,Nw 12 3 [.int .i64 0,.int .i64 0,.int .i64 0],Sr 3 12 31,As 13 32])
 (.seq (.seq (Rg [1,2,8,12,13,16,17] [Mv 33 13,Bc 34 .neq 33 33 .i64 0])
 (.cond (T 34) (.seq (Rg [13] [Mv 35 13,Ol 6 (.assign (.const (.slice none 0 0))),As 7 35])
 .ret)
 .skip))
 (Rg [1,2,8,12,16,17] [Mv 36 8,Ro 37 (.load 3 [.int .i64,.int .i64,.int .i64] (T 12)),Ro 38 (.buildSlice 3 1 [.int .i64 0,.int .i64 0,.int .i64 0] [(0,3,(T 37))]),⟨some 39,none,.op false (.old (.call ⟨.builtin .append,#[T 36,T 38],#[23,23]⟩))⟩,As 8 39]))))))
 (Rg [1,2,8,16,17] [Bc 40 .add 3 17 .i64 1,Mv 17 40])))⟩)],
 []⟩
theorem r19_ok:resFun (progU ()) hint live 19 Try.f19=some r19:=by kernel_rfl
def r20 : RFun :=
⟨.seq (Rg [0,1,2] [Nw 4 3 [.int .i64 0,.int .i64 0,.int .i64 0],Nw 5 3 [.int .i64 0,.int .i64 0,.int .i64 0]])
 (.seq (.draw (some [0,1,2,4,5]) 15 [Db (Ro 6 (.load1 .slice (T 1))) 0 1 [6,7,13,14],Db (Ro 7 (.load1 .slice (T 2))) 1 2 [3,4,5,6,7,13,14],Dr (Mv 8 0) 2 [3,4,5,6,7,13,14],Dr (Ix 9 6 7 8) 3 [4,5,6,7,13,14],Dr (Fa 10 0 9) 4 [5,6,7,13,14],Db (L1 11 10) 5 10 [6,7,13,14],Dr (Ix 12 3 6 11) 6 [7,13,14],Db (Ro 13 (.load 3 [.int .i64,.int .i64,.int .i64] (T 12))) 7 12 [13,14],Db (Ro 14 (.load1 .slice (T 2))) 8 2 [10,11,12,14],Dr (Mv 15 0) 9 [10,11,12,14],Dr (Ix 16 6 14 15) 10 [11,12,14],Dr (Fa 17 2 16) 11 [12,14],Db (Ro 18 (.load 3 [.int .i64,.int .i64,.int .i64] (T 17))) 12 17 [14],⟨Sr 3 4 13,13,.blk (T 4),[14],true,true⟩,⟨Sr 3 5 18,14,.blk (T 5),[],true,true⟩])
 .ret),
 [.agg 4 3 [.int .i64,.int .i64,.int .i64],.agg 5 3 [.int .i64,.int .i64,.int .i64]],
 [],
 []⟩
theorem r20_ok:resFun (progU ()) hint live 20 Try.f20=some r20:=by kernel_rfl
def r21 : RFun :=
⟨.seq (Rg [0,1] [Bo 2 3 0,Bo 3 3 1,Nw 4 3 [.int .i64 0,.int .i64 0,.int .i64 0],Ac 5 0])
 (.seq (.seq (Rg [2,3,4] [Ro 7 (.load 3 [.int .i64,.int .i64,.int .i64] (T 2)),Ro 8 (.load 3 [.int .i64,.int .i64,.int .i64] (T 3)),Ca 9 43 [T 7,T 8] vI,As 6 9])
 (.seq (Rg [2,3,4,6] [Mv 10 6,Bc 11 .neq 33 10 .i64 0])
 (.cond (T 11) (.seq (Rg [4,6] [Ro 12 (.build [.int .i64 0,.int .i64 0,.int .i64 0] []),Mv 13 6,Sr 3 4 12,As 5 13])
 .ret)
 .skip)))
 (.seq (Rg [2,3,4] [Fa 14 0 2,L1 15 14,Fa 16 0 3,L1 17 16,Bt 18 .mul 2 15 17,Fa 19 1 2,L1 20 19,Fa 21 1 3,L1 22 21,Bt 23 .mul 2 20 22,Bt 24 .sub 2 18 23,Fa 25 0 2,L1 26 25,Fa 27 1 3,L1 28 27,Bt 29 .mul 2 26 28,Fa 30 1 2,L1 31 30,Fa 32 0 3,L1 33 32,Bt 34 .mul 2 31 33,Bt 35 .add 2 29 34,Fa 36 2 2,L1 37 36,Fa 38 2 3,L1 39 38,Bt 40 .mul 2 37 39,Ca 41 44 [T 24,T 35,T 40] (some (.tup [.agg [.int .i64,.int .i64,.int .i64],.one (.int .i64)])),Ex 42 41 0,Ex 43 41 1,Sr 3 4 42,As 5 43])
 .ret)),
 [.agg 4 3 [.int .i64,.int .i64,.int .i64],.tmp 5],
 [],
 []⟩
theorem r21_ok:resFun (progU ()) hint live 21 Try.f21=some r21:=by kernel_rfl
def r22 : RFun :=
⟨.seq (Rg [0,1,2,3] [Nw 5 3 [.int .i64 0,.int .i64 0,.int .i64 0],Nw 6 3 [.int .i64 0,.int .i64 0,.int .i64 0]])
 (.seq (.draw (some [0,1,2,3,5,6]) 14 [Db (Ro 7 (.load1 .slice (T 1))) 0 1 [2,3,12,13],Dr (Mv 8 0) 1 [2,3,12,13],Dr (Ix 9 3 7 8) 2 [3,12,13],Db (Ro 10 (.load 3 [.int .i64,.int .i64,.int .i64] (T 9))) 3 9 [12,13],Db (Ro 11 (.load1 .slice (T 2))) 4 2 [10,11,13],Db (Ro 12 (.load1 .slice (T 3))) 5 3 [7,8,9,10,11,13],Dr (Mv 13 0) 6 [7,8,9,10,11,13],Dr (Ix 14 6 12 13) 7 [8,9,10,11,13],Dr (Fa 15 1 14) 8 [9,10,11,13],Db (L1 16 15) 9 15 [10,11,13],Dr (Ix 17 3 11 16) 10 [11,13],Db (Ro 18 (.load 3 [.int .i64,.int .i64,.int .i64] (T 17))) 11 17 [13],⟨Sr 3 5 10,12,.blk (T 5),[13],true,true⟩,⟨Sr 3 6 18,13,.blk (T 6),[],true,true⟩])
 .ret),
 [.agg 5 3 [.int .i64,.int .i64,.int .i64],.agg 6 3 [.int .i64,.int .i64,.int .i64]],
 [],
 []⟩
theorem r22_ok:resFun (progU ()) hint live 22 Try.f22=some r22:=by kernel_rfl
def r23 : RFun :=
⟨.seq (Rg [0,1] [Bo 2 3 0,Bo 3 3 1,Nw 4 3 [.int .i64 0,.int .i64 0,.int .i64 0],Ac 5 0])
 (.seq (Rg [2,3,4] [Ro 9 (.load 3 [.int .i64,.int .i64,.int .i64] (T 3)),Ca 10 45 [T 9] (some (.tup [.agg [.int .i64,.int .i64,.int .i64],.one (.int .i64)])),Mv 8 10,Ex 11 8 0,Ex 12 8 1,Nw 6 3 [.int .i64 0,.int .i64 0,.int .i64 0],Sr 3 6 11,As 7 12])
 (.seq (.seq (Rg [2,4,6,7] [Mv 13 7,Bc 14 .neq 33 13 .i64 0])
 (.cond (T 14) (.seq (Rg [4,7] [Ro 15 (.build [.int .i64 0,.int .i64 0,.int .i64 0] []),Mv 16 7,Sr 3 4 15,As 5 16])
 .ret)
 .skip))
 (.seq (Rg [2,4,6] [Ro 17 (.load 3 [.int .i64,.int .i64,.int .i64] (T 2)),Ro 18 (.load 3 [.int .i64,.int .i64,.int .i64] (T 6)),Ca 19 21 [T 17,T 18] (some (.tup [.agg [.int .i64,.int .i64,.int .i64],.one (.int .i64)])),Ex 20 19 0,Ex 21 19 1,Sr 3 4 20,As 5 21])
 .ret))),
 [.agg 4 3 [.int .i64,.int .i64,.int .i64],.tmp 5],
 [],
 []⟩
theorem r23_ok:resFun (progU ()) hint live 23 Try.f23=some r23:=by kernel_rfl
def r24 : RFun :=
⟨.seq (Rg [0] [Ol 2 (.assign (.const (.slice none 0 0))),Ac 3 0])
 (.seq (.seq (Rg [0] [Mv 12 0,Ca 13 33 [T 12] vI,As 4 13])
 (.seq (Rg [0,4] [Mv 14 4,Bc 15 .neq 33 14 .i64 0])
 (.cond (T 15) (.seq (Rg [4] [Mv 16 4,Ol 2 (.assign (.const (.slice none 0 0))),As 3 16])
 .ret)
 .skip)))
 (.seq (Rg [0] [Ro 5 (.new 64 [.bool false,.bool false,.bool false,.bool false,.bool false,.bool false,.bool false,.bool false,.bool false,.bool false,.bool false,.bool false,.bool false,.bool false,.bool false,.bool false,.bool false,.bool false,.bool false,.bool false,.bool false,.bool false,.bool false,.bool false,.bool false,.bool false,.bool false,.bool false,.bool false,.bool false,.bool false,.bool false,.bool false,.bool false,.bool false,.bool false,.bool false,.bool false,.bool false,.bool false,.bool false,.bool false,.bool false,.bool false,.bool false,.bool false,.bool false,.bool false,.bool false,.bool false,.bool false,.bool false,.bool false,.bool false,.bool false,.bool false,.bool false,.bool false,.bool false,.bool false,.bool false,.bool false,.bool false,.bool false])])
 (.seq (.seq (Rg [0,5] [Mv 17 0,Ro 18 (.lenS (T 17)),Ol 19 (.move (Ci 0))])
 (.block 0 (.loop 6 (some [5,17,18,19]) (some [5,17,18,19]))))
 (.seq (Rg [5] [Ol 8 (.assign (.const (.slice none 0 0)))])
 (.seq (.seq (Rg [5,8] [Ol 30 (.move (Ci 0))])
 (.block 2 (.loop 12 none (some [5,8,30]))))
 (.seq (Rg [8] [Mv 72 8,As 2 72,Ac 3 0])
 .ret)))))),
 [.tmp 2,.tmp 3],
 [(6,⟨some [5,17,18,19],some [5,17,18,19],.seq (Rg [5,17,18,19] [Bt 20 .lss 3 19 18])
 (.seq (.cond (T 20) .skip
 (.exit 0 (some [5])))
 (.seq (.block 1 (.seq (Rg [5,17,18,19] [Ix 21 6 17 19,Ro 22 (.load 6 [.int .i64,.int .i64,.int .i64,.int .i64,.int .i64,.int .i64] (T 21)),Nw 7 6 [.int .i64 0,.int .i64 0,.int .i64 0,.int .i64 0,.int .i64 0,.int .i64 0],Sr 6 7 22])
 (.draw (some [5,7,17,18,19]) 7 [Dr (Fa 23 0 7) 0 [1,4,5,6],Db (L1 24 23) 1 23 [4,5,6],Dr (Fa 25 1 7) 2 [3,5,6],Db (L1 26 25) 3 25 [5,6],Dr (Ro 27 (.ixA 8 8 (T 5) (T 24))) 4 [5,6],Dr (Ro 28 (.ixA 8 1 (T 27) (T 26))) 5 [6],⟨⟨none,none,.op false (.store 1 (T 28) (.const (.bool true)))⟩,6,.blk (T 28),[],true,true⟩])))
 (Rg [5,17,18,19] [Bc 29 .add 3 19 .i64 1,Mv 19 29])))⟩),(12,⟨none,some [5,8,30],.seq (Rg [5,8,30] [Bc 31 .lss 3 30 .i64 8])
 (.seq (.cond (T 31) .skip
 (.exit 2 (some [8])))
 (.seq (.block 3 (.seq (Rg [5,8,30] [Mv 32 30,As 9 32])
 (.seq (Rg [5,8,9,30] [Mv 33 9,Bc 34 .add 3 33 .i64 1,As 10 34])
 (.block 4 (.loop 15 none (some [5,8,9,10,30]))))))
 (Rg [5,8,30] [Bc 71 .add 3 30 .i64 1,Mv 30 71])))⟩),(15,⟨none,some [5,8,9,10,30],.seq (.seq (Rg [5,8,9,10,30] [Mv 35 10,Bc 36 .lss 3 35 .i64 8])
 (.cond (T 36) .skip
 (.exit 4 (some [5,8,30]))))
 (.seq (.block 5 (.seq (Rg [5,8,9,10,30] [Mv 39 10,Bc 40 .add 3 39 .i64 1,As 11 40])
 (.block 6 (.loop 18 none (some [5,8,9,10,11,30])))))
 (Rg [5,8,9,10,30] [Mv 37 10,Bc 38 .add 3 37 .i64 1,As 10 38]))⟩),(18,⟨none,some [5,8,9,10,11,30],.seq (.seq (Rg [5,8,9,10,11,30] [Mv 41 11,Bc 42 .lss 3 41 .i64 8])
 (.cond (T 42) .skip
 (.exit 6 (some [5,8,9,10,30]))))
 (.seq (.block 7 (.seq (Rg [5,8,9,10,11,30] [Mv 45 9,Mv 46 10,Ro 47 (.ixA 8 8 (T 5) (T 45)),Ro 48 (.ixA 8 1 (T 47) (T 46)),Ro 49 (.load1 .bool (T 48)),Mv 50 49,Gt 51 50 (.move (T 10)),Gt 52 50 (.move (T 11)),Ht 53 50 (.ixA 8 8 (T 5) (T 51)),Ht 54 50 (.ixA 8 1 (T 53) (T 52)),Ht 55 50 (.load1 .bool (T 54)),Ol 56 (.pick (T 50) (T 55) (.const (.bool false))),Mv 57 56,Gt 58 57 (.move (T 9)),Gt 59 57 (.move (T 11)),Ht 60 57 (.ixA 8 8 (T 5) (T 58)),Ht 61 57 (.ixA 8 1 (T 60) (T 59)),Ht 62 57 (.load1 .bool (T 61)),Ol 63 (.pick (T 57) (T 62) (.const (.bool false)))])
 (.cond (T 63) (Rg [5,8,9,10,11,30] [Mv 64 8,Mv 65 9,Mv 66 10,Mv 67 11,Ro 68 (.build [.int .i64 0,.int .i64 0,.int .i64 0] [(0,1,(T 65)),(1,1,(T 66)),(2,1,(T 67))]),Ro 69 (.buildSlice 3 1 [.int .i64 0,.int .i64 0,.int .i64 0] [(0,3,(T 68))]),⟨some 70,none,.op false (.old (.call ⟨.builtin .append,#[T 64,T 69],#[59,59]⟩))⟩,As 8 70])
 .skip)))
 (Rg [5,8,9,10,11,30] [Mv 43 11,Bc 44 .add 3 43 .i64 1,As 11 44]))⟩)],
 []⟩
theorem r24_ok:resFun (progU ()) hint live 24 Try.f24=some r24:=by kernel_rfl
def r25 : RFun :=
⟨.seq (Rg [0,1] [Ol 4 (.assign (.const (.bool false)))])
 (.seq (.seq (Rg [0,1] [Mv 6 0,Ro 7 (.lenS (T 6)),Mv 8 1,Ro 9 (.lenS (T 8)),Bt 10 .neq 3 7 9])
 (.cond (T 10) (.seq (Rg [] [Ol 4 (.assign (.const (.bool false)))])
 .ret)
 .skip))
 (.seq (.seq (Rg [0,1] [Ac 5 0])
 (.block 0 (.loop 4 (some [0,1,5]) (some [0,1,5]))))
 (.seq (Rg [] [Ol 4 (.assign (.const (.bool true)))])
 .ret))),
 [.tmp 4],
 [(4,⟨some [0,1,5],some [0,1,5],.seq (.seq (Rg [0,1,5] [Mv 11 5,Mv 12 0,Ro 13 (.lenS (T 12)),Bt 14 .lss 3 11 13])
 (.cond (T 14) .skip
 (.exit 0 (some []))))
 (.seq (.block 1 (.seq (.draw (some [0,1,5]) 9 [Dr (Mv 17 0) 0 [2,3,8],Dr (Mv 18 5) 1 [2,3,8],Dr (Ix 19 3 17 18) 2 [3,8],Db (Ro 20 (.load 3 [.int .i64,.int .i64,.int .i64] (T 19))) 3 19 [8],Dr (Mv 21 1) 4 [6,7,8],Dr (Mv 22 5) 5 [6,7,8],Dr (Ix 23 3 21 22) 6 [7,8],Db (Ro 24 (.load 3 [.int .i64,.int .i64,.int .i64] (T 23))) 7 23 [8],Dr (Bt 25 .neq 86 20 24) 8 []])
 (.cond (T 25) (.seq (Rg [] [Ol 4 (.assign (.const (.bool false)))])
 .ret)
 .skip)))
 (Rg [0,1,5] [Mv 15 5,Bc 16 .add 3 15 .i64 1,As 5 16]))⟩)],
 []⟩
theorem r25_ok:resFun (progU ()) hint live 25 Try.f25=some r25:=by kernel_rfl
def r26 : RFun :=
⟨.seq (Rg [0,1] [Ol 4 (.assign (.const (.slice none 0 0))),Ac 5 0])
 (.seq (.seq (Rg [0,1] [Mv 16 0,Ca 17 33 [T 16] vI,As 6 17])
 (.seq (Rg [0,1,6] [Mv 18 6,Bc 19 .neq 33 18 .i64 0])
 (.cond (T 19) (.seq (Rg [6] [Mv 20 6,Ol 4 (.assign (.const (.slice none 0 0))),As 5 20])
 .ret)
 .skip)))
 (.seq (.seq (Rg [0,1] [Mv 22 0,Mv 23 1,Ca 24 13 [T 22,T 23] (some (.tup [.agg [.int .i64,.int .i64,.int .i64],.one (.int .i64)])),Mv 21 24,Ex 25 21 0,Ex 26 21 1,Nw 7 3 [.int .i64 0,.int .i64 0,.int .i64 0],Sr 3 7 25,As 8 26])
 (.seq (Rg [0,1,8] [Mv 27 8,Bc 28 .eql 33 27 .i64 2,Mv 29 28,Gf 30 29 (.move (T 8)),Gf 31 29 (.binOp .eql 33 (T 30) (Ci 6) 33),Ol 32 (.pick (T 29) (.const (.bool true)) (T 31))])
 (.cond (T 32) (.seq (Rg [8] [Mv 33 8,Ol 4 (.assign (.const (.slice none 0 0))),As 5 33])
 .ret)
 .skip)))
 (.seq (Rg [0,1] [Ol 34 (.makeMap 87 none),As 9 34])
 (.seq (.seq (Rg [0,1,9] [Mv 35 1,Ro 36 (.lenS (T 35)),Ol 37 (.move (Ci 0))])
 (.block 0 (.loop 9 none (some [0,1,9,35,36,37]))))
 (.seq (Rg [0,9] [Ol 12 (.assign (.const (.slice none 0 0)))])
 (.seq (.seq (Rg [0,9,12] [Mv 54 0,Mv 55 0,Ca 56 47 [T 55] (some (.val (.one .any))),Ca 57 46 [T 54,T 56] (some (.val (.one .slice))),Ro 58 (.lenS (T 57)),Ol 59 (.move (Ci 0))])
 (.block 2 (.loop 15 (some [9,12,57,58,59]) (some [9,12,57,58,59]))))
 (.seq (Rg [12] [Mv 78 12,As 4 78,Ac 5 0])
 .ret))))))),
 [.tmp 4,.tmp 5],
 [(9,⟨none,some [0,1,9,35,36,37],.seq (Rg [0,1,9,35,36,37] [Bt 38 .lss 3 37 36])
 (.seq (.cond (T 38) .skip
 (.exit 0 (some [0,9])))
 (.seq (.block 1 (.seq (Rg [0,1,9,35,36,37] [Mv 39 37,Ix 40 1 35 37,L1 41 40,As 10 39,As 11 41])
 (Rg [0,1,9,10,11,35,36,37] [Mv 42 9,Mv 43 11,Mv 44 1,Mv 45 10,Bc 46 .add 3 45 .i64 1,Mv 47 1,Ro 48 (.lenS (T 47)),Bt 49 .rem 3 46 48,Ix 50 1 44 49,L1 51 50,Ro 52 (.build z2 [(0,1,(T 43)),(1,1,(T 51))]),⟨none,none,.op false (.old (.mapUpdate 87 (T 42) (T 52) (.const (.bool true))))⟩])))
 (Rg [0,1,9,35,36,37] [Bc 53 .add 3 37 .i64 1,Mv 37 53])))⟩),(15,⟨some [9,12,57,58,59],some [9,12,57,58,59],.seq (Rg [9,12,57,58,59] [Bt 60 .lss 3 59 58])
 (.seq (.cond (T 60) .skip
 (.exit 2 (some [12])))
 (.seq (.block 3 (.seq (Rg [9,12,57,58,59] [Ix 61 2 57 59,Ld 62 61,Nw 14 2 z2,Sr 2 14 62])
 (.seq (Rg [9,12,14,57,58,59] [Ac 15 0])
 (.seq (.seq (Rg [9,12,14,15,57,58,59] [Mv 63 9,Ld 64 14,Ol 65 (.lookup 87 (T 63) (T 64) false)])
 (.cond (T 65) (Rg [9,12,57,58,59] [Ac 15 1])
 (.seq (Rg [9,12,14,15,57,58,59] [Mv 66 9,Fa 67 1 14,L1 68 67,Fa 69 0 14,L1 70 69,Ro 71 (.build z2 [(0,1,(T 68)),(1,1,(T 70))]),Ol 72 (.lookup 87 (T 66) (T 71) false)])
 (.cond (T 72) (Rg [9,12,57,58,59] [Ol 15 (.assign (.const (.int .i64 (-1))))])
 .skip))))
 (Rg [9,12,15,57,58,59] [Mv 73 12,Mv 74 15,Ro 75 (.buildSlice 1 1 [.int .i64 0] [(0,1,(T 74))]),⟨some 76,none,.op false (.old (.call ⟨.builtin .append,#[T 73,T 75],#[25,25]⟩))⟩,As 12 76])))))
 (Rg [9,12,57,58,59] [Bc 77 .add 3 59 .i64 1,Mv 59 77])))⟩)],
 []⟩
theorem r26_ok:resFun (progU ()) hint live 26 Try.f26=some r26:=by kernel_rfl
def r27 : RFun :=
⟨.seq (Rg [0,1] [Ol 4 (.assign (.const (.bool false)))])
 (.seq (.seq (Rg [0,1] [Mv 6 0,Ro 7 (.lenS (T 6)),Mv 8 1,Ro 9 (.lenS (T 8)),Bt 10 .neq 3 7 9])
 (.cond (T 10) (.seq (Rg [] [Ol 4 (.assign (.const (.bool false)))])
 .ret)
 .skip))
 (.seq (.seq (Rg [0,1] [Ac 5 0])
 (.block 0 (.loop 4 (some [0,1,5]) (some [0,1,5]))))
 (.seq (Rg [] [Ol 4 (.assign (.const (.bool true)))])
 .ret))),
 [.tmp 4],
 [(4,⟨some [0,1,5],some [0,1,5],.seq (.seq (Rg [0,1,5] [Mv 11 5,Mv 12 0,Ro 13 (.lenS (T 12)),Bt 14 .lss 3 11 13])
 (.cond (T 14) .skip
 (.exit 0 (some []))))
 (.seq (.block 1 (.seq (.draw (some [0,1,5]) 9 [Dr (Mv 17 0) 0 [2,3,8],Dr (Mv 18 5) 1 [2,3,8],Dr (Ix 19 1 17 18) 2 [3,8],Db (L1 20 19) 3 19 [8],Dr (Mv 21 1) 4 [6,7,8],Dr (Mv 22 5) 5 [6,7,8],Dr (Ix 23 1 21 22) 6 [7,8],Db (L1 24 23) 7 23 [8],Dr (Bt 25 .neq 3 20 24) 8 []])
 (.cond (T 25) (.seq (Rg [] [Ol 4 (.assign (.const (.bool false)))])
 .ret)
 .skip)))
 (Rg [0,1,5] [Mv 15 5,Bc 16 .add 3 15 .i64 1,As 5 16]))⟩)],
 []⟩
theorem r27_ok:resFun (progU ()) hint live 27 Try.f27=some r27:=by kernel_rfl
def r28 : RFun :=
⟨.seq (Rg [0,1] [Nw 4 3 [.int .i64 0,.int .i64 0,.int .i64 0],Ac 5 0])
 (.seq (Rg [0,1,4] [Mv 21 0,Mv 22 1,Ca 23 26 [T 21,T 22] (some (.tup [.one .slice,.one (.int .i64)])),Mv 20 23,Ex 24 20 0,Ex 25 20 1,As 6 24,As 7 25])
 (.seq (.seq (Rg [0,4,6,7] [Mv 26 7,Bc 27 .neq 33 26 .i64 0])
 (.cond (T 27) (.seq (Rg [4,7] [Ro 28 (.build [.int .i64 0,.int .i64 0,.int .i64 0] []),Mv 29 7,Sr 3 4 28,As 5 29])
 .ret)
 .skip))
 (.seq (Rg [0,4,6] [Mv 31 0,Ca 32 34 [T 31] (some (.tup [.one .slice,.one .slice])),Mv 30 32,Ex 33 30 0,Ex 34 30 1,As 8 33,As 9 34])
 (.seq (Rg [0,4,6,9] [Ol 10 (.assign (.const (.slice none 0 0)))])
 (.seq (.seq (Rg [0,4,6,9,10] [Mv 35 6,Ro 36 (.lenS (T 35)),Ol 37 (.move (Ci 0))])
 (.block 0 (.loop 7 (some [0,4,9,10,35,36,37]) (some [0,4,9,10,35,36,37]))))
 (.seq (Rg [4,10] [Ro 73 (.build [.int .i64 0,.int .i64 0,.int .i64 0] [(0,1,(Ci 1)),(2,1,(Ci 1))]),Nw 15 3 [.int .i64 0,.int .i64 0,.int .i64 0],Sr 3 15 73])
 (.seq (.seq (Rg [4,10,15] [Mv 74 10,Ro 75 (.lenS (T 74)),Ol 76 (.move (Ci 0))])
 (.block 2 (.loop 19 (some [4,15,74,75,76]) (some [4,15,74,75,76]))))
 (.seq (Rg [4,15] [Ro 100 (.load 3 [.int .i64,.int .i64,.int .i64] (T 15)),Sr 3 4 100,Ac 5 0])
 .ret)))))))),
 [.agg 4 3 [.int .i64,.int .i64,.int .i64],.tmp 5],
 [(7,⟨some [0,4,9,10,35,36,37],some [0,4,9,10,35,36,37],.seq (Rg [0,4,9,10,35,36,37] [Bt 38 .lss 3 37 36])
 (.seq (.cond (T 38) .skip
 (.exit 0 (some [4,10])))
 (.seq (.block 1 (.seq (Rg [0,4,9,10,35,36,37] [Mv 39 37,Ix 40 1 35 37,L1 41 40,As 11 39,As 12 41])
 (.seq (.seq (Rg [0,4,9,10,11,12,35,36,37] [Mv 42 12,Bc 43 .eql 3 42 .i64 0])
 (.cond (T 43) (.exit 1 (some [0,4,9,10,35,36,37]))
 .skip))
 (.seq (Rg [0,4,9,10,11,12,35,36,37] [Mv 45 0,Mv 46 9,Mv 47 11,Ix 48 1 46 47,Ro 49 (.load1 .slice (T 48)),Ca 50 13 [T 45,T 49] (some (.tup [.agg [.int .i64,.int .i64,.int .i64],.one (.int .i64)])),Mv 44 50,Ex 51 44 0,Ex 52 44 1,Nw 13 3 [.int .i64 0,.int .i64 0,.int .i64 0],Sr 3 13 51,As 14 52])
 (.seq (.seq (Rg [0,4,9,10,12,13,14,35,36,37] [Mv 53 14,Bc 54 .eql 33 53 .i64 0,Mv 55 54,Gt 56 55 (.move (T 12)),Gt 57 55 (.binOp .lss 3 (T 56) (Ci 0) 3),Ol 58 (.pick (T 55) (T 57) (.const (.bool false)))])
 (.cond (T 58) (Rg [0,4,9,10,13,35,36,37] [Ro 60 (.load 3 [.int .i64,.int .i64,.int .i64] (T 13)),Ca 61 45 [T 60] (some (.tup [.agg [.int .i64,.int .i64,.int .i64],.one (.int .i64)])),Mv 59 61,Ex 62 59 0,Ex 63 59 1,Sr 3 13 62,As 14 63])
 .skip))
 (.seq (.seq (Rg [0,4,9,10,13,14,35,36,37] [Mv 64 14,Bc 65 .neq 33 64 .i64 0])
 (.cond (T 65) (.seq (Rg [4,14] [Ro 66 (.build [.int .i64 0,.int .i64 0,.int .i64 0] []),Mv 67 14,Sr 3 4 66,As 5 67])
 .ret)
 .skip))
 (Rg [0,4,9,10,13,35,36,37] [Mv 68 10,Ro 69 (.load 3 [.int .i64,.int .i64,.int .i64] (T 13)),Ro 70 (.buildSlice 3 1 [.int .i64 0,.int .i64 0,.int .i64 0] [(0,3,(T 69))]),⟨some 71,none,.op false (.old (.call ⟨.builtin .append,#[T 68,T 70],#[23,23]⟩))⟩,As 10 71])))))))
 (Rg [0,4,9,10,35,36,37] [Bc 72 .add 3 37 .i64 1,Mv 37 72])))⟩),(19,⟨some [4,15,74,75,76],some [4,15,74,75,76],.seq (Rg [4,15,74,75,76] [Bt 77 .lss 3 76 75])
 (.seq (.cond (T 77) .skip
 (.exit 2 (some [4,15])))
 (.seq (.block 3 (.seq (Rg [4,15,74,75,76] [Ix 78 3 74 76,Ro 79 (.load 3 [.int .i64,.int .i64,.int .i64] (T 78)),Nw 17 3 [.int .i64 0,.int .i64 0,.int .i64 0],Sr 3 17 79])
 (.seq (Rg [4,15,17,74,75,76] [Ro 81 (.load 3 [.int .i64,.int .i64,.int .i64] (T 15)),Ro 82 (.load 3 [.int .i64,.int .i64,.int .i64] (T 17)),Ca 83 21 [T 81,T 82] (some (.tup [.agg [.int .i64,.int .i64,.int .i64],.one (.int .i64)])),Mv 80 83,Ex 84 80 0,Ex 85 80 1,Nw 18 3 [.int .i64 0,.int .i64 0,.int .i64 0],Sr 3 18 84,As 19 85])
 (.seq (.seq (Rg [4,15,18,19,74,75,76] [Mv 86 19,Bc 87 .neq 33 86 .i64 0])
 (.cond (T 87) (.seq (Rg [4,19] [Ro 88 (.build [.int .i64 0,.int .i64 0,.int .i64 0] []),Mv 89 19,Sr 3 4 88,As 5 89])
 .ret)
 .skip))
 (.seq (Rg [4,15,18,74,75,76] [Ro 91 (.load 3 [.int .i64,.int .i64,.int .i64] (T 18)),Ca 92 32 [T 91] (some (.tup [.agg [.int .i64,.int .i64,.int .i64],.one (.int .i64)])),Mv 90 92,Ex 93 90 0,Ex 94 90 1,Sr 3 15 93,As 19 94])
 (.seq (Rg [4,15,19,74,75,76] [Mv 95 19,Bc 96 .neq 33 95 .i64 0])
 (.cond (T 96) (.seq (Rg [4,19] [Ro 97 (.build [.int .i64 0,.int .i64 0,.int .i64 0] []),Mv 98 19,Sr 3 4 97,As 5 98])
 .ret)
 .skip)))))))
 (Rg [4,15,74,75,76] [Bc 99 .add 3 76 .i64 1,Mv 76 99])))⟩)],
 []⟩
theorem r28_ok:resFun (progU ()) hint live 28 Try.f28=some r28:=by kernel_rfl
def r29 : RFun :=
⟨.seq (Rg [0,1,2] [Ol 6 (.assign (.const (.slice none 0 0))),Ac 7 0])
 (.seq (.seq (Rg [0,1,2] [Mv 21 0,Ca 22 48 [T 21] vI,As 8 22])
 (.seq (Rg [0,1,2,8] [Mv 23 8,Bc 24 .neq 33 23 .i64 0])
 (.cond (T 24) (.seq (Rg [8] [Mv 25 8,Ol 6 (.assign (.const (.slice none 0 0))),As 7 25])
 .ret)
 .skip)))
 (.seq (.seq (Rg [0,1,2] [Mv 26 0,Ro 27 (.lenS (T 26)),Bc 28 .eql 3 27 .i64 0])
 (.cond (T 28) (.seq (Rg [1] [Mv 30 1,Ca 31 49 [T 30,.const (.int .i64 0)] (some (.tup [.one .slice,.one (.int .i64)])),Mv 29 31,Ex 32 29 0,Ex 33 29 1,As 9 32,As 10 33])
 (.seq (Rg [10] [Mv 34 10,Ol 6 (.assign (.const (.slice none 0 0))),As 7 34])
 .ret))
 .skip))
 (.seq (Rg [0,1,2] [Ol 11 (.assign (.const (.slice none 0 0)))])
 (.seq (.seq (Rg [0,1,2,11] [Mv 35 0,Ro 36 (.lenS (T 35)),Ol 37 (.move (Ci 0))])
 (.block 0 (.loop 9 none (some [0,1,2,11,36,37]))))
 (.seq (Rg [0,2,11] [Ol 15 (.assign (.const (.slice none 0 0)))])
 (.seq (.seq (Rg [0,2,11,15] [Mv 54 0,Ro 55 (.lenS (T 54)),Ol 56 (.move (Ci 0))])
 (.block 2 (.loop 18 none (some [2,11,15,54,55,56]))))
 (.seq (Rg [15] [Mv 87 15,As 6 87,Ac 7 0])
 .ret))))))),
 [.tmp 6,.tmp 7],
 [(9,⟨none,some [0,1,2,11,36,37],.seq (Rg [0,1,2,11,36,37] [Bt 38 .lss 3 37 36])
 (.seq (.cond (T 38) .skip
 (.exit 0 (some [0,2,11])))
 (.seq (.block 1 (.seq (Rg [0,1,2,11,36,37] [Mv 39 37,As 12 39])
 (.seq (Rg [0,1,2,11,12,36,37] [Mv 41 1,Mv 42 12,Ca 43 49 [T 41,T 42] (some (.tup [.one .slice,.one (.int .i64)])),Mv 40 43,Ex 44 40 0,Ex 45 40 1,As 13 44,As 14 45])
 (.seq (.seq (Rg [0,1,2,11,13,14,36,37] [Mv 46 14,Bc 47 .neq 33 46 .i64 0])
 (.cond (T 47) (.seq (Rg [14] [Mv 48 14,Ol 6 (.assign (.const (.slice none 0 0))),As 7 48])
 .ret)
 .skip))
 (Rg [0,1,2,11,13,36,37] [Mv 49 11,Mv 50 13,Ro 51 (.buildSlice 1 1 [.slice none 0 0] [(0,1,(T 50))]),⟨some 52,none,.op false (.old (.call ⟨.builtin .append,#[T 49,T 51],#[94,94]⟩))⟩,As 11 52])))))
 (Rg [0,1,2,11,36,37] [Bc 53 .add 3 37 .i64 1,Mv 37 53])))⟩),(18,⟨none,some [2,11,15,54,55,56],.seq (Rg [2,11,15,54,55,56] [Bt 57 .lss 3 56 55])
 (.seq (.cond (T 57) .skip
 (.exit 2 (some [15])))
 (.seq (.block 3 (.seq (Rg [2,11,15,54,55,56] [Mv 58 56,Ix 59 1 54 56,Ro 60 (.load1 .slice (T 59)),As 16 58,As 17 60])
 (.seq (Rg [2,11,15,16,17,54,55,56] [Mv 62 2,Mv 63 11,Mv 64 16,Ix 65 1 63 64,Ro 66 (.load1 .slice (T 65)),⟨some 67,none,.call (T 62) [T 66] (some (.tup [.one .slice,.one (.int .i64)]))⟩,Mv 61 67,Ex 68 61 0,Ex 69 61 1,As 18 68,As 19 69])
 (.seq (.seq (Rg [2,11,15,17,18,19,54,55,56] [Mv 70 19,Bc 71 .neq 33 70 .i64 0])
 (.cond (T 71) (.seq (Rg [19] [Mv 72 19,Ol 6 (.assign (.const (.slice none 0 0))),As 7 72])
 .ret)
 .skip))
 (.seq (Rg [2,11,15,17,18,54,55,56] [Mv 74 18,Mv 75 17,Ca 76 7 [T 74,T 75] (some (.tup [.one .slice,.one (.int .i64)])),Mv 73 76,Ex 77 73 0,Ex 78 73 1,As 20 77,As 19 78])
 (.seq (.seq (Rg [2,11,15,19,20,54,55,56] [Mv 79 19,Bc 80 .neq 33 79 .i64 0])
 (.cond (T 80) (.seq (Rg [19] [Mv 81 19,Ol 6 (.assign (.const (.slice none 0 0))),As 7 81])
 .ret)
 .skip))
 (Rg [2,11,15,20,54,55,56] [Mv 82 15,Mv 83 20,Ro 84 (.buildSlice 1 1 [.slice none 0 0] [(0,1,(T 83))]),⟨some 85,none,.op false (.old (.call ⟨.builtin .append,#[T 82,T 84],#[37,37]⟩))⟩,As 15 85])))))))
 (Rg [2,11,15,54,55,56] [Bc 86 .add 3 56 .i64 1,Mv 56 86])))⟩)],
 []⟩
theorem r29_ok:resFun (progU ()) hint live 29 Try.f29=some r29:=by kernel_rfl
def r30 : RFun :=
⟨.seq (Rg [0] [Ol 2 (.assign (.const (.slice none 0 0))),Ac 3 0])
 (.seq (Rg [0] [Mv 4 0,As 2 4,Ac 3 0])
 .ret),
 [.tmp 2,.tmp 3],
 [],
 []⟩
theorem r30_ok:resFun (progU ()) hint live 30 Try.f30=some r30:=by kernel_rfl
def r31 : RFun :=
⟨.seq (Rg [0] [Ol 2 (.assign (.const (.bool false)))])
 (.seq (Rg [0] [Mv 3 0,Ro 4 (.lenS (T 3)),Bc 5 .geq 3 4 .i64 3,Mv 6 5,Gt 7 6 (.move (T 0)),Ht 8 6 (.lenS (T 7)),Gt 9 6 (.binOp .leq 3 (T 8) (Ci 8) 3),Ol 10 (.pick (T 6) (T 9) (.const (.bool false))),Mv 11 10,Gt 12 11 (.move (T 0)),⟨some 13,some (11,true),.call (.func 50) [T 12] vB⟩,Ol 14 (.pick (T 11) (T 13) (.const (.bool false))),As 2 14])
 .ret),
 [.tmp 2],
 [],
 []⟩
theorem r31_ok:resFun (progU ()) hint live 31 Try.f31=some r31:=by kernel_rfl
def r32 : RFun :=
⟨.seq (Rg [0] [Bo 1 3 0,Nw 2 3 [.int .i64 0,.int .i64 0,.int .i64 0],Ac 3 0])
 (.seq (.seq (Rg [1,2] [Ro 6 (.load 3 [.int .i64,.int .i64,.int .i64] (T 1)),Ca 7 42 [T 6] vI,As 4 7])
 (.seq (Rg [1,2,4] [Mv 8 4,Bc 9 .neq 33 8 .i64 0])
 (.cond (T 9) (.seq (Rg [2,4] [Ro 10 (.build [.int .i64 0,.int .i64 0,.int .i64 0] []),Mv 11 4,Sr 3 2 10,As 3 11])
 .ret)
 .skip)))
 (.seq (.seq (Rg [1,2] [Ro 12 (.load 3 [.int .i64,.int .i64,.int .i64] (T 1)),Ca 13 51 [T 12] vB])
 (.cond (T 13) (.seq (Rg [2] [Ro 14 (.build [.int .i64 0,.int .i64 0,.int .i64 0] []),Sr 3 2 14,Ac 3 18])
 .ret)
 .skip))
 (.seq (Rg [1,2] [Fa 15 0 1,L1 16 15,Fa 17 1 1,L1 18 17,Ca 19 52 [T 16,T 18] vI,As 5 19])
 (.seq (.draw (some [1,2,5]) 11 [Dr (Fa 20 0 1) 0 [1,3,8,9,10],Db (L1 21 20) 1 20 [3,8,9,10],Dr (Mv 22 5) 2 [3,8,9,10],Dr (Bt 23 .quo 2 21 22) 3 [8,9,10],Dr (Fa 24 1 1) 4 [5,7,8,9,10],Db (L1 25 24) 5 24 [7,8,9,10],Dr (Mv 26 5) 6 [7,8,9,10],Dr (Bt 27 .quo 2 25 26) 7 [8,9,10],Dr (Ro 28 (.build [.int .i64 0,.int .i64 0,.int .i64 0] [(0,1,(T 23)),(1,1,(T 27)),(2,1,(Ci 1))])) 8 [9,10],⟨Sr 3 2 28,9,.blk (T 2),[10],true,true⟩,Dr (Ac 3 0) 10 []])
 .ret)))),
 [.agg 2 3 [.int .i64,.int .i64,.int .i64],.tmp 3],
 [],
 []⟩
theorem r32_ok:resFun (progU ()) hint live 32 Try.f32=some r32:=by kernel_rfl
def r33 : RFun :=
⟨.seq (Rg [0] [Ac 2 0])
 (.seq (.seq (Rg [0] [Mv 8 0,Ro 9 (.lenS (T 8)),Bc 10 .gtr 3 9 .i64 64])
 (.cond (T 10) (.seq (Rg [] [Ac 2 4])
 .ret)
 .skip))
 (.seq (.seq (Rg [0] [Mv 11 0,Ro 12 (.lenS (T 11)),Ol 13 (.move (Ci 0))])
 (.block 0 (.loop 4 (some [0,11,12,13]) (some [0,11,12,13]))))
 (.seq (Rg [0] [Ro 5 (.new 64 [.bool false,.bool false,.bool false,.bool false,.bool false,.bool false,.bool false,.bool false,.bool false,.bool false,.bool false,.bool false,.bool false,.bool false,.bool false,.bool false,.bool false,.bool false,.bool false,.bool false,.bool false,.bool false,.bool false,.bool false,.bool false,.bool false,.bool false,.bool false,.bool false,.bool false,.bool false,.bool false,.bool false,.bool false,.bool false,.bool false,.bool false,.bool false,.bool false,.bool false,.bool false,.bool false,.bool false,.bool false,.bool false,.bool false,.bool false,.bool false,.bool false,.bool false,.bool false,.bool false,.bool false,.bool false,.bool false,.bool false,.bool false,.bool false,.bool false,.bool false,.bool false,.bool false,.bool false,.bool false])])
 (.seq (.seq (Rg [0,5] [Mv 45 0,Ro 46 (.lenS (T 45)),Ol 47 (.move (Ci 0))])
 (.block 2 (.loop 11 (some [5,45,46,47]) (some [5,45,46,47]))))
 (.seq (Rg [] [Ac 2 0])
 .ret))))),
 [.tmp 2],
 [(4,⟨some [0,11,12,13],some [0,11,12,13],.seq (Rg [0,11,12,13] [Bt 14 .lss 3 13 12])
 (.seq (.cond (T 14) .skip
 (.exit 0 (some [0])))
 (.seq (.block 1 (.seq (Rg [0,11,12,13] [Ix 15 6 11 13,Ro 16 (.load 6 [.int .i64,.int .i64,.int .i64,.int .i64,.int .i64,.int .i64] (T 15)),Nw 4 6 [.int .i64 0,.int .i64 0,.int .i64 0,.int .i64 0,.int .i64 0,.int .i64 0],Sr 6 4 16])
 (.seq (Rg [0,4,11,12,13] [Fa 17 0 4,L1 18 17,Bc 19 .lss 3 18 .i64 0,Mv 20 19,Hf 21 20 (.fieldAddr 0 (T 4)),Hf 22 20 (.load1 (.int .i64) (T 21)),Hf 23 20 (.fieldAddr 1 (T 4)),Hf 24 20 (.load1 (.int .i64) (T 23)),Gf 25 20 (.binOp .geq 3 (T 22) (T 24) 3),Ol 26 (.pick (T 20) (.const (.bool true)) (T 25)),Mv 27 26,Hf 28 27 (.fieldAddr 1 (T 4)),Hf 29 27 (.load1 (.int .i64) (T 28)),⟨some 30,some (27,false),.call (.func 53) [T 29] vB⟩,Gf 31 27 (.unOp .not 4 (T 30)),Ol 32 (.pick (T 27) (.const (.bool true)) (T 31)),Mv 33 32,Hf 34 33 (.fieldAddr 5 (T 4)),Hf 35 33 (.load1 (.int .i64) (T 34)),Gf 36 33 (.binOp .lss 3 (T 35) (Ci 0) 3),Ol 37 (.pick (T 33) (.const (.bool true)) (T 36)),Mv 38 37,Hf 39 38 (.fieldAddr 2 (T 4)),Hf 40 38 (.load 3 [.int .i64,.int .i64,.int .i64] (T 39)),⟨some 41,some (38,false),.call (.func 42) [T 40] vI⟩,Gf 42 38 (.binOp .neq 33 (T 41) (Ci 0) 33),Ol 43 (.pick (T 38) (.const (.bool true)) (T 42))])
 (.cond (T 43) (.seq (Rg [] [Ac 2 8])
 .ret)
 .skip))))
 (Rg [0,11,12,13] [Bc 44 .add 3 13 .i64 1,Mv 13 44])))⟩),(11,⟨some [5,45,46,47],some [5,45,46,47],.seq (Rg [5,45,46,47] [Bt 48 .lss 3 47 46])
 (.seq (.cond (T 48) .skip
 (.exit 2 (some [])))
 (.seq (.block 3 (.seq (Rg [5,45,46,47] [Ix 49 6 45 47,Ro 50 (.load 6 [.int .i64,.int .i64,.int .i64,.int .i64,.int .i64,.int .i64] (T 49)),Nw 7 6 [.int .i64 0,.int .i64 0,.int .i64 0,.int .i64 0,.int .i64 0,.int .i64 0],Sr 6 7 50])
 (.seq (.seq (.draw (some [5,7,45,46,47]) 7 [Dr (Fa 51 0 7) 0 [1,4,5,6],Db (L1 52 51) 1 51 [4,5,6],Dr (Fa 53 1 7) 2 [3,5,6],Db (L1 54 53) 3 53 [5,6],Dr (Ro 55 (.ixA 8 8 (T 5) (T 52))) 4 [5,6],Dr (Ro 56 (.ixA 8 1 (T 55) (T 54))) 5 [6],Db (Ro 57 (.load1 .bool (T 56))) 6 56 []])
 (.cond (T 57) (.seq (Rg [] [Ac 2 14])
 .ret)
 .skip))
 (.draw (some [5,7,45,46,47]) 7 [Dr (Fa 58 0 7) 0 [1,4,5,6],Db (L1 59 58) 1 58 [4,5,6],Dr (Fa 60 1 7) 2 [3,5,6],Db (L1 61 60) 3 60 [5,6],Dr (Ro 62 (.ixA 8 8 (T 5) (T 59))) 4 [5,6],Dr (Ro 63 (.ixA 8 1 (T 62) (T 61))) 5 [6],⟨⟨none,none,.op false (.store 1 (T 63) (.const (.bool true)))⟩,6,.blk (T 63),[],true,true⟩]))))
 (Rg [5,45,46,47] [Bc 64 .add 3 47 .i64 1,Mv 47 64])))⟩)],
 []⟩
theorem r33_ok:resFun (progU ()) hint live 33 Try.f33=some r33:=by kernel_rfl
