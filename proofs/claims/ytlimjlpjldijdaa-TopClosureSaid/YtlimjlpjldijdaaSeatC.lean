import Derived.Test.YtlimjlpjldijdaaSeat0
import Derived.Test.YtlimjlpjldijdaaSymS
set_option linter.unusedSimpArgs false
set_option linter.unusedVariables false
namespace Go.Proofs.Ytlimjlpjldijdaa
open Go.Sim
set_option maxRecDepth 100000
def r34 : RFun :=
⟨.seq (Rg [0] [Ol 2 (.assign (.const (.slice none 0 0))),Ol 3 (.assign (.const (.slice none 0 0)))])
 (.seq (Rg [0] [Mv 11 0,Ca 12 47 [T 11] (some (.val (.one .any))),As 4 12])
 (.seq (Rg [0,4] [Mv 13 0,Mv 14 4,Ca 15 46 [T 13,T 14] (some (.val (.one .slice))),As 5 15])
 (.seq (Rg [4,5] [Ol 6 (.assign (.const (.slice none 0 0)))])
 (.seq (.seq (Rg [4,5,6] [Mv 16 5,Ro 17 (.lenS (T 16)),Ol 18 (.move (Ci 0))])
 (.block 0 (.loop 5 (some [4,5,6,16,17,18]) (some [4,5,6,16,17,18]))))
 (.seq (Rg [5,6] [Mv 42 5,Mv 43 6,As 2 42,As 3 43])
 .ret))))),
 [.tmp 2,.tmp 3],
 [(5,⟨some [4,5,6,16,17,18],some [4,5,6,16,17,18],.seq (Rg [4,5,6,16,17,18] [Bt 19 .lss 3 18 17])
 (.seq (.cond (T 19) .skip
 (.exit 0 (some [5,6])))
 (.seq (.block 1 (.seq (Rg [4,5,6,16,17,18] [Ix 20 2 16 18,Ld 21 20,Nw 8 2 z2,Sr 2 8 21])
 (.seq (Rg [4,5,6,8,16,17,18] [Mv 22 4,Fa 23 1 8,L1 24 23,Fa 25 0 8,L1 26 25,Ca 27 54 [T 22,T 24,T 26] (some (.val (.one .slice))),As 9 27])
 (.seq (Rg [4,5,6,8,9,16,17,18] [Fa 28 0 8,L1 29 28,Ro 30 (.buildSlice 1 1 [.int .i64 0] [(0,1,(T 29))]),As 10 30])
 (Rg [4,5,6,9,10,16,17,18] [Mv 31 6,Mv 32 10,Mv 33 9,Mv 34 9,Ro 35 (.lenS (T 34)),Bc 36 .sub 3 35 .i64 1,Ro 37 (.cutS 25 (T 33) none (some (T 36)) none),⟨some 38,none,.op false (.old (.call ⟨.builtin .append,#[T 32,T 37],#[25,25]⟩))⟩,Ro 39 (.buildSlice 1 1 [.slice none 0 0] [(0,1,(T 38))]),⟨some 40,none,.op false (.old (.call ⟨.builtin .append,#[T 31,T 39],#[44,44]⟩))⟩,As 6 40])))))
 (Rg [4,5,6,16,17,18] [Bc 41 .add 3 18 .i64 1,Mv 18 41])))⟩)],
 []⟩
theorem r34_ok:resFun (progU ()) hint live 34 Try.f34=some r34:=by kernel_rfl
def r35 : RFun :=
⟨.seq (Rg [0] [Ol 2 (.assign (.const (.bool false)))])
 (.seq (Rg [0] [Ro 3 (.new 8 [.bool false,.bool false,.bool false,.bool false,.bool false,.bool false,.bool false,.bool false])])
 (.seq (.seq (Rg [0,3] [Mv 6 0,Ro 7 (.lenS (T 6)),Ol 8 (.move (Ci 0))])
 (.block 0 (.loop 3 none (some [3,6,7,8]))))
 (.seq (Rg [] [Ol 2 (.assign (.const (.bool true)))])
 .ret))),
 [.tmp 2],
 [(3,⟨none,some [3,6,7,8],.seq (Rg [3,6,7,8] [Bt 9 .lss 3 8 7])
 (.seq (.cond (T 9) .skip
 (.exit 0 (some [])))
 (.seq (.block 1 (.seq (Rg [3,6,7,8] [Ix 10 1 6 8,L1 11 10,As 5 11])
 (.seq (.seq (Rg [3,5,6,7,8] [Mv 12 5,Ca 13 53 [T 12] vB,Ol 14 (.unOp .not 4 (T 13)),Mv 15 14,Gf 16 15 (.move (T 5)),Hf 17 15 (.ixA 8 1 (T 3) (T 16)),Hf 18 15 (.load1 .bool (T 17)),Ol 19 (.pick (T 15) (.const (.bool true)) (T 18))])
 (.cond (T 19) (.seq (Rg [] [Ol 2 (.assign (.const (.bool false)))])
 .ret)
 .skip))
 (Rg [3,5,6,7,8] [Mv 20 5,Ro 21 (.ixA 8 1 (T 3) (T 20)),⟨none,none,.op false (.store 1 (T 21) (.const (.bool true)))⟩]))))
 (Rg [3,6,7,8] [Bc 22 .add 3 8 .i64 1,Mv 8 22])))⟩)],
 []⟩
theorem r35_ok:resFun (progU ()) hint live 35 Try.f35=some r35:=by kernel_rfl
def r36 : RFun :=
⟨.seq (Rg [0,1] [Ol 4 (.assign (.const (.slice none 0 0))),Ac 5 0])
 (.seq (Rg [0,1] [Ol 6 (.assign (.const (.slice none 0 0)))])
 (.seq (.seq (Rg [0,1,6] [Mv 13 1,Ro 14 (.lenS (T 13)),Ol 15 (.move (Ci 0))])
 (.block 0 (.loop 3 (some [0,6,13,14,15]) (some [0,6,13,14,15]))))
 (.seq (.seq (Rg [6] [Mv 36 6,Ro 37 (.lenS (T 36)),Ol 38 (.move (Ci 0))])
 (.block 2 (.loop 11 (some [6,36,37,38]) (some [6,36,37,38]))))
 (.seq (Rg [6] [Mv 51 6,As 4 51,Ac 5 0])
 .ret)))),
 [.tmp 4,.tmp 5],
 [(3,⟨some [0,6,13,14,15],some [0,6,13,14,15],.seq (Rg [0,6,13,14,15] [Bt 16 .lss 3 15 14])
 (.seq (.cond (T 16) .skip
 (.exit 0 (some [6])))
 (.seq (.block 1 (.seq (Rg [0,6,13,14,15] [Ix 17 2 13 15,Ld 18 17,Ro 8 (.new 2 z2),Sr 2 8 18])
 (.seq (Rg [0,6,8,13,14,15] [Mv 20 0,Ro 21 (.ixA 2 1 (T 8) (Ci 0)),L1 22 21,Ro 23 (.ixA 2 1 (T 8) (Ci 1)),L1 24 23,Ca 25 55 [T 20,T 22,T 24] (some (.tup [.agg [.int .i64,.int .i64,.int .i64],.one (.int .i64)])),Mv 19 25,Ex 26 19 0,Ex 27 19 1,Nw 9 3 [.int .i64 0,.int .i64 0,.int .i64 0],Sr 3 9 26,As 10 27])
 (.seq (.seq (Rg [0,6,9,10,13,14,15] [Mv 28 10,Bc 29 .neq 33 28 .i64 0])
 (.cond (T 29) (.seq (Rg [10] [Mv 30 10,Ol 4 (.assign (.const (.slice none 0 0))),As 5 30])
 .ret)
 .skip))
 (Rg [0,6,9,13,14,15] [Mv 31 6,Ro 32 (.load 3 [.int .i64,.int .i64,.int .i64] (T 9)),Ro 33 (.buildSlice 3 1 [.int .i64 0,.int .i64 0,.int .i64 0] [(0,3,(T 32))]),⟨some 34,none,.op false (.old (.call ⟨.builtin .append,#[T 31,T 33],#[23,23]⟩))⟩,As 6 34])))))
 (Rg [0,6,13,14,15] [Bc 35 .add 3 15 .i64 1,Mv 15 35])))⟩),(11,⟨some [6,36,37,38],some [6,36,37,38],.seq (Rg [6,36,37,38] [Bt 39 .lss 3 38 37])
 (.seq (.cond (T 39) .skip
 (.exit 2 (some [6])))
 (.seq (.block 3 (.seq (Rg [6,36,37,38] [Ix 40 3 36 38,Ro 41 (.load 3 [.int .i64,.int .i64,.int .i64] (T 40)),Nw 12 3 [.int .i64 0,.int .i64 0,.int .i64 0],Sr 3 12 41])
 (.seq (Rg [6,12,36,37,38] [Fa 42 0 12,L1 43 42,Bc 44 .eql 2 43 .i64 0,Mv 45 44,Ht 46 45 (.fieldAddr 1 (T 12)),Ht 47 45 (.load1 (.int .i64) (T 46)),Gt 48 45 (.binOp .eql 2 (T 47) (Ci 0) 2),Ol 49 (.pick (T 45) (T 48) (.const (.bool false)))])
 (.cond (T 49) (.seq (Rg [] [Ol 4 (.assign (.const (.slice none 0 0))),Ac 5 18])
 .ret)
 .skip))))
 (Rg [6,36,37,38] [Bc 50 .add 3 38 .i64 1,Mv 38 50])))⟩)],
 []⟩
theorem r36_ok:resFun (progU ()) hint live 36 Try.f36=some r36:=by kernel_rfl
def r37 : RFun :=
⟨.seq (Rg [0,1] [Bo 2 3 0,Bo 3 3 1,Nw 4 3 [.int .i64 0,.int .i64 0,.int .i64 0],Ac 5 0])
 (.seq (Rg [2,3,4] [Ro 10 (.load 3 [.int .i64,.int .i64,.int .i64] (T 3)),Ca 11 32 [T 10] (some (.tup [.agg [.int .i64,.int .i64,.int .i64],.one (.int .i64)])),Mv 9 11,Ex 12 9 0,Ex 13 9 1,Nw 6 3 [.int .i64 0,.int .i64 0,.int .i64 0],Sr 3 6 12,As 7 13])
 (.seq (.seq (Rg [2,4,6,7] [Mv 14 7,Bc 15 .neq 33 14 .i64 0])
 (.cond (T 15) (.seq (Rg [4,7] [Ro 16 (.build [.int .i64 0,.int .i64 0,.int .i64 0] []),Mv 17 7,Sr 3 4 16,As 5 17])
 .ret)
 .skip))
 (.seq (Rg [2,4,6] [Ro 19 (.load 3 [.int .i64,.int .i64,.int .i64] (T 2)),Ro 20 (.load 3 [.int .i64,.int .i64,.int .i64] (T 6)),Ca 21 21 [T 19,T 20] (some (.tup [.agg [.int .i64,.int .i64,.int .i64],.one (.int .i64)])),Mv 18 21,Ex 22 18 0,Ex 23 18 1,Nw 8 3 [.int .i64 0,.int .i64 0,.int .i64 0],Sr 3 8 22,As 7 23])
 (.seq (.seq (Rg [4,7,8] [Mv 24 7,Bc 25 .neq 33 24 .i64 0])
 (.cond (T 25) (.seq (Rg [4,7] [Ro 26 (.build [.int .i64 0,.int .i64 0,.int .i64 0] []),Mv 27 7,Sr 3 4 26,As 5 27])
 .ret)
 .skip))
 (.seq (Rg [4,8] [Ro 28 (.load 3 [.int .i64,.int .i64,.int .i64] (T 8)),Ca 29 32 [T 28] (some (.tup [.agg [.int .i64,.int .i64,.int .i64],.one (.int .i64)])),Ex 30 29 0,Ex 31 29 1,Sr 3 4 30,As 5 31])
 .ret))))),
 [.agg 4 3 [.int .i64,.int .i64,.int .i64],.tmp 5],
 [],
 []⟩
theorem r37_ok:resFun (progU ()) hint live 37 Try.f37=some r37:=by kernel_rfl
def r38 : RFun :=
⟨.seq (Rg [0,1] [Bo 2 6 0,Ol 4 (.assign (.const (.bool false)))])
 (.seq (Rg [1,2] [Fa 5 0 2,L1 6 5,Bc 7 .geq 3 6 .i64 0,Mv 8 7,Ht 9 8 (.fieldAddr 0 (T 2)),Ht 10 8 (.load1 (.int .i64) (T 9)),Ht 11 8 (.fieldAddr 1 (T 2)),Ht 12 8 (.load1 (.int .i64) (T 11)),Gt 13 8 (.binOp .lss 3 (T 10) (T 12) 3),Ol 14 (.pick (T 8) (T 13) (.const (.bool false))),Mv 15 14,Ht 16 15 (.fieldAddr 1 (T 2)),Ht 17 15 (.load1 (.int .i64) (T 16)),Gt 18 15 (.move (T 1)),Gt 19 15 (.binOp .lss 3 (T 17) (T 18) 3),Ol 20 (.pick (T 15) (T 19) (.const (.bool false))),Mv 21 20,Ht 22 21 (.fieldAddr 2 (T 2)),Ht 23 21 (.load 3 [.int .i64,.int .i64,.int .i64] (T 22)),⟨some 24,some (21,true),.call (.func 15) [T 23] vI⟩,Gt 25 21 (.binOp .eql 3 (T 24) (Ci 0) 3),Ol 26 (.pick (T 21) (T 25) (.const (.bool false))),Mv 27 26,Ht 28 27 (.fieldAddr 5 (T 2)),Ht 29 27 (.load1 (.int .i64) (T 28)),Gt 30 27 (.binOp .geq 3 (T 29) (Ci 0) 3),Ol 31 (.pick (T 27) (T 30) (.const (.bool false))),As 4 31])
 .ret),
 [.tmp 4],
 [],
 []⟩
theorem r38_ok:resFun (progU ()) hint live 38 Try.f38=some r38:=by kernel_rfl
def r39 : RFun :=
⟨.seq (Rg [0,1] [Ac 4 0])
 (.seq (Rg [0,1] [Mv 5 0,Mv 6 0,Ol 7 (.unOp .neg 2 (T 6)),⟨some 8,none,.op false (.old (.call ⟨.builtin .max,#[T 5,T 7],#[2,2]⟩))⟩,Mv 9 1,Mv 10 1,Ol 11 (.unOp .neg 2 (T 10)),⟨some 12,none,.op false (.old (.call ⟨.builtin .max,#[T 9,T 11],#[2,2]⟩))⟩,As 0 8,As 1 12])
 (.seq (.block 0 (.loop 2 (some [0,1]) (some [0,1])))
 (.seq (Rg [0] [Mv 19 0,As 4 19])
 .ret))),
 [.tmp 4],
 [(2,⟨some [0,1],some [0,1],.seq (.seq (Rg [0,1] [Mv 13 1,Bc 14 .neq 2 13 .i64 0])
 (.cond (T 14) .skip
 (.exit 0 (some [0]))))
 (.block 1 (.draw (some [0,1]) 6 [Dr (Mv 15 1) 0 [4,5],Dr (Mv 16 0) 1 [3,4,5],Dr (Mv 17 1) 2 [3,5],Dr (Bt 18 .rem 2 16 17) 3 [5],Dr (As 0 15) 4 [5],Dr (As 1 18) 5 []]))⟩)],
 []⟩
theorem r39_ok:resFun (progU ()) hint live 39 Try.f39=some r39:=by kernel_rfl
def r40 : RFun :=
⟨.seq (Rg [0,1] [Ac 4 0])
 (.seq (.seq (Rg [0,1] [Mv 8 0,Ro 9 (.lenS (T 8)),Ol 10 (.move (Ci 0))])
 (.block 0 (.loop 2 (some [1,8,9,10]) (some [1,8,9,10]))))
 (.seq (Rg [] [Ac 4 0])
 .ret)),
 [.tmp 4],
 [(2,⟨some [1,8,9,10],some [1,8,9,10],.seq (Rg [1,8,9,10] [Bt 11 .lss 3 10 9])
 (.seq (.cond (T 11) .skip
 (.exit 0 (some [])))
 (.seq (.block 1 (.seq (Rg [1,8,9,10] [Mv 12 10,Ix 13 3 8 10,Ro 14 (.load 3 [.int .i64,.int .i64,.int .i64] (T 13)),Nw 6 3 [.int .i64 0,.int .i64 0,.int .i64 0],As 5 12,Sr 3 6 14])
 (.seq (Rg [1,5,6,8,9,10] [Mv 15 1,Mv 16 5,Ro 17 (.load 3 [.int .i64,.int .i64,.int .i64] (T 6)),⟨some 18,none,.call (T 15) [T 16,T 17] vI⟩,As 7 18])
 (.seq (Rg [1,7,8,9,10] [Mv 19 7,Bc 20 .neq 33 19 .i64 0])
 (.cond (T 20) (.seq (Rg [7] [Mv 21 7,As 4 21])
 .ret)
 .skip)))))
 (Rg [1,8,9,10] [Bc 22 .add 3 10 .i64 1,Mv 10 22])))⟩)],
 []⟩
theorem r40_ok:resFun (progU ()) hint live 40 Try.f40=some r40:=by kernel_rfl
def r41 : RFun :=
⟨.seq (Rg [1] [Bo 3 3 1,Ac 4 0])
 (.seq (.seq (Rg [3] [Ro 5 (.load 3 [.int .i64,.int .i64,.int .i64] (T 3)),Ca 6 42 [T 5] vI,Bc 7 .neq 33 6 .i64 0,Mv 8 7,Hf 9 8 (.fieldAddr 0 (T 3)),Hf 10 8 (.load1 (.int .i64) (T 9)),Gf 11 8 (.binOp .eql 2 (T 10) (Ci 0) 2),Gf 12 8 (.move (T 11)),Ht 13 12 (.fieldAddr 1 (T 3)),Ht 14 12 (.load1 (.int .i64) (T 13)),Gt 15 12 (.binOp .eql 2 (T 14) (Ci 0) 2),Gf 16 8 (.pick (T 12) (T 15) (.const (.bool false))),Ol 17 (.pick (T 8) (.const (.bool true)) (T 16))])
 (.cond (T 17) (.seq (Rg [] [Ac 4 8])
 .ret)
 .skip))
 (.seq (Rg [] [Ac 4 0])
 .ret)),
 [.tmp 4],
 [],
 []⟩
theorem r41_ok:resFun (progU ()) hint live 41 Try.f41=some r41:=by kernel_rfl
def r42 : RFun :=
⟨.seq (Rg [0] [Bo 1 3 0,Ac 2 0])
 (.seq (.seq (.draw (some [1]) 31 [Dr (Fa 3 2 1) 0 [1,2,3,4,5,6,7,8,9,10,11,12,13,14,15,16,17,18,19,20,21,22,23,24,25,26,27,28,29,30],Db (L1 4 3) 1 3 [2,3,4,5,6,7,8,9,10,11,12,13,14,15,16,17,18,19,20,21,22,23,24,25,26,27,28,29,30],Dr (Bc 5 .lss 2 4 .i64 1) 2 [3,4,5,6,7,8,9,10,11,12,13,14,15,16,17,18,19,20,21,22,23,24,25,26,27,28,29,30],Dr (Mv 6 5) 3 [4,5,6,7,8,9,10,11,12,13,14,15,16,17,18,19,20,21,22,23,24,25,26,27,28,29,30],⟨Hf 7 6 (.fieldAddr 2 (T 1)),4,.none,[5,6,7,8,9,10,11,12,13,14,15,16,17,18,19,20,21,22,23,24,25,26,27,28,29,30],false,true⟩,⟨Hf 8 6 (.load1 (.int .i64) (T 7)),5,.blk (T 7),[6,7,8,9,10,11,12,13,14,15,16,17,18,19,20,21,22,23,24,25,26,27,28,29,30],false,true⟩,⟨Gf 9 6 (.binOp .gtr 2 (T 8) (Ci 1000000000) 2),6,.none,[7,8,9,10,11,12,13,14,15,16,17,18,19,20,21,22,23,24,25,26,27,28,29,30],false,true⟩,Dr (Ol 10 (.pick (T 6) (.const (.bool true)) (T 9))) 7 [8,9,10,11,12,13,14,15,16,17,18,19,20,21,22,23,24,25,26,27,28,29,30],Dr (Mv 11 10) 8 [9,10,11,12,13,14,15,16,17,18,19,20,21,22,23,24,25,26,27,28,29,30],⟨Hf 12 11 (.fieldAddr 0 (T 1)),9,.none,[10,11,12,13,14,15,16,17,18,19,20,21,22,23,24,25,26,27,28,29,30],false,true⟩,⟨Hf 13 11 (.load1 (.int .i64) (T 12)),10,.blk (T 12),[11,12,13,14,15,16,17,18,19,20,21,22,23,24,25,26,27,28,29,30],false,true⟩,⟨⟨some 14,some (11,false),.call (.func 56) [T 13] vB⟩,11,.all,[12,13,14,15,16,17,18,19,20,21,22,23,24,25,26,27,28,29,30],false,false⟩,⟨Gf 15 11 (.unOp .not 4 (T 14)),12,.none,[13,14,15,16,17,18,19,20,21,22,23,24,25,26,27,28,29,30],false,true⟩,Dr (Ol 16 (.pick (T 11) (.const (.bool true)) (T 15))) 13 [14,15,16,17,18,19,20,21,22,23,24,25,26,27,28,29,30],Dr (Mv 17 16) 14 [15,16,17,18,19,20,21,22,23,24,25,26,27,28,29,30],⟨Hf 18 17 (.fieldAddr 1 (T 1)),15,.none,[16,17,18,19,20,21,22,23,24,25,26,27,28,29,30],false,true⟩,⟨Hf 19 17 (.load1 (.int .i64) (T 18)),16,.blk (T 18),[17,18,19,20,21,22,23,24,25,26,27,28,29,30],false,true⟩,⟨⟨some 20,some (17,false),.call (.func 56) [T 19] vB⟩,17,.all,[18,19,20,21,22,23,24,25,26,27,28,29,30],false,false⟩,⟨Gf 21 17 (.unOp .not 4 (T 20)),18,.none,[19,20,21,22,23,24,25,26,27,28,29,30],false,true⟩,Dr (Ol 22 (.pick (T 17) (.const (.bool true)) (T 21))) 19 [20,21,22,23,24,25,26,27,28,29,30],Dr (Mv 23 22) 20 [21,22,23,24,25,26,27,28,29,30],⟨Hf 24 23 (.fieldAddr 0 (T 1)),21,.none,[22,25,28,29,30],false,true⟩,⟨Hf 25 23 (.load1 (.int .i64) (T 24)),22,.blk (T 24),[25,28,29,30],false,true⟩,⟨Hf 26 23 (.fieldAddr 1 (T 1)),23,.none,[24,25,28,29,30],false,true⟩,⟨Hf 27 23 (.load1 (.int .i64) (T 26)),24,.blk (T 26),[25,28,29,30],false,true⟩,⟨Hf 29 23 (.fieldAddr 2 (T 1)),26,.none,[27,28,29,30],false,true⟩,⟨Hf 30 23 (.load1 (.int .i64) (T 29)),27,.blk (T 29),[28,29,30],false,true⟩,⟨⟨some 28,some (23,false),.call (.func 52) [T 25,T 27] vI⟩,25,.all,[28,29,30],false,false⟩,⟨⟨some 31,some (23,false),.call (.func 52) [T 28,T 30] vI⟩,28,.all,[29,30],false,false⟩,⟨Gf 32 23 (.binOp .neq 2 (T 31) (Ci 1) 2),29,.none,[30],false,true⟩,Dr (Ol 33 (.pick (T 23) (.const (.bool true)) (T 32))) 30 []])
 (.cond (T 33) (.seq (Rg [] [Ac 2 8])
 .ret)
 .skip))
 (.seq (Rg [] [Ac 2 0])
 .ret)),
 [.tmp 2],
 [],
 []⟩
theorem r42_ok:resFun (progU ()) hint live 42 Try.f42=some r42:=by kernel_rfl
def r43 : RFun :=
⟨.seq (Rg [0,1] [Bo 2 3 0,Bo 3 3 1,Ac 4 0])
 (.seq (.seq (Rg [2,3] [Ro 6 (.load 3 [.int .i64,.int .i64,.int .i64] (T 2)),Ca 7 42 [T 6] vI,As 5 7])
 (.seq (Rg [3,5] [Mv 8 5,Bc 9 .neq 33 8 .i64 0])
 (.cond (T 9) (.seq (Rg [5] [Mv 10 5,As 4 10])
 .ret)
 .skip)))
 (.seq (Rg [3] [Ro 11 (.load 3 [.int .i64,.int .i64,.int .i64] (T 3)),Ca 12 42 [T 11] vI,As 4 12])
 .ret)),
 [.tmp 4],
 [],
 []⟩
theorem r43_ok:resFun (progU ()) hint live 43 Try.f43=some r43:=by kernel_rfl
def r44 : RFun :=
⟨.seq (Rg [0,1,2] [Nw 6 3 [.int .i64 0,.int .i64 0,.int .i64 0],Ac 7 0])
 (.seq (.seq (Rg [0,1,2,6] [Mv 12 0,Mv 13 1,Mv 14 2,Ro 15 (.build [.int .i64 0,.int .i64 0,.int .i64 0] [(0,1,(T 12)),(1,1,(T 13)),(2,1,(T 14))]),Ol 16 (.move (Ci 0))])
 (.block 0 (.loop 2 none (some [0,1,2,6,15,16]))))
 (.seq (.seq (Rg [0,1,2,6] [Mv 27 2,Bc 28 .eql 2 27 .i64 0])
 (.cond (T 28) (.seq (Rg [6] [Ro 29 (.build [.int .i64 0,.int .i64 0,.int .i64 0] []),Sr 3 6 29,Ac 7 18])
 .ret)
 .skip))
 (.seq (Rg [0,1,2,6] [Mv 30 0,Mv 31 1,Ca 32 52 [T 30,T 31] vI,Mv 33 2,Ca 34 52 [T 32,T 33] vI,As 10 34])
 (.seq (.seq (Rg [0,1,2,6,10] [Mv 35 2,Bc 36 .lss 2 35 .i64 0])
 (.cond (T 36) (Rg [0,1,2,6,10] [Mv 37 10,Ol 38 (.unOp .neg 2 (T 37)),As 10 38])
 .skip))
 (.seq (.draw (some [0,1,2,6,10]) 12 [Dr (Mv 39 0) 0 [2,9,11],Dr (Mv 40 10) 1 [2,9,11],Dr (Bt 41 .quo 2 39 40) 2 [9,11],Dr (Mv 42 1) 3 [5,9,11],Dr (Mv 43 10) 4 [5,9,11],Dr (Bt 44 .quo 2 42 43) 5 [9,11],Dr (Mv 45 2) 6 [8,9,11],Dr (Mv 46 10) 7 [8,9,11],Dr (Bt 47 .quo 2 45 46) 8 [9,11],Dr (Ro 48 (.build [.int .i64 0,.int .i64 0,.int .i64 0] [(0,1,(T 41)),(1,1,(T 44)),(2,1,(T 47))])) 9 [11],⟨Nw 11 3 [.int .i64 0,.int .i64 0,.int .i64 0],10,.new true,[11],false,true⟩,⟨Sr 3 11 48,11,.blk (T 11),[],true,true⟩])
 (.seq (.seq (Rg [6,11] [Fa 49 0 11,L1 50 49,Ca 51 56 [T 50] vB,Ol 52 (.unOp .not 4 (T 51)),Mv 53 52,Hf 54 53 (.fieldAddr 1 (T 11)),Hf 55 53 (.load1 (.int .i64) (T 54)),⟨some 56,some (53,false),.call (.func 56) [T 55] vB⟩,Gf 57 53 (.unOp .not 4 (T 56)),Ol 58 (.pick (T 53) (.const (.bool true)) (T 57)),Mv 59 58,Hf 60 59 (.fieldAddr 2 (T 11)),Hf 61 59 (.load1 (.int .i64) (T 60)),⟨some 62,some (59,false),.call (.func 56) [T 61] vB⟩,Gf 63 59 (.unOp .not 4 (T 62)),Ol 64 (.pick (T 59) (.const (.bool true)) (T 63))])
 (.cond (T 64) (.seq (Rg [6] [Ro 65 (.build [.int .i64 0,.int .i64 0,.int .i64 0] []),Sr 3 6 65,Ac 7 16])
 .ret)
 .skip))
 (.seq (Rg [6,11] [Ro 66 (.load 3 [.int .i64,.int .i64,.int .i64] (T 11)),Sr 3 6 66,Ac 7 0])
 .ret))))))),
 [.agg 6 3 [.int .i64,.int .i64,.int .i64],.tmp 7],
 [(2,⟨none,some [0,1,2,6,15,16],.seq (Rg [0,1,2,6,15,16] [Bc 17 .lss 3 16 .i64 3])
 (.seq (.cond (T 17) .skip
 (.exit 0 (some [0,1,2,6])))
 (.seq (.block 1 (.seq (Rg [0,1,2,6,15,16] [Ol 18 (.index 99 (T 15) (T 16)),As 9 18])
 (.seq (Rg [0,1,2,6,9,15,16] [Mv 19 9,Ol 20 (.binOp .lss 2 (T 19) (.const (.int .i64 (-2000000000000000000))) 2),Mv 21 20,Gf 22 21 (.move (T 9)),Gf 23 21 (.binOp .gtr 2 (T 22) (Ci 2000000000000000000) 2),Ol 24 (.pick (T 21) (.const (.bool true)) (T 23))])
 (.cond (T 24) (.seq (Rg [6] [Ro 25 (.build [.int .i64 0,.int .i64 0,.int .i64 0] []),Sr 3 6 25,Ac 7 2])
 .ret)
 .skip))))
 (Rg [0,1,2,6,15,16] [Bc 26 .add 3 16 .i64 1,Mv 16 26])))⟩)],
 []⟩
theorem r44_ok:resFun (progU ()) hint live 44 Try.f44=some r44:=by kernel_rfl
def r45 : RFun :=
⟨.seq (Rg [0] [Bo 1 3 0,Nw 2 3 [.int .i64 0,.int .i64 0,.int .i64 0],Ac 3 0])
 (.seq (.seq (Rg [1,2] [Ro 5 (.load 3 [.int .i64,.int .i64,.int .i64] (T 1)),Ca 6 42 [T 5] vI,As 4 6])
 (.seq (Rg [1,2,4] [Mv 7 4,Bc 8 .neq 33 7 .i64 0])
 (.cond (T 8) (.seq (Rg [2,4] [Ro 9 (.build [.int .i64 0,.int .i64 0,.int .i64 0] []),Mv 10 4,Sr 3 2 9,As 3 10])
 .ret)
 .skip)))
 (.seq (Rg [1,2] [Fa 11 1 1,L1 12 11,Ol 13 (.unOp .neg 2 (T 12)),Fa 14 1 1,Sr 1 14 13])
 (.seq (Rg [1,2] [Ro 15 (.load 3 [.int .i64,.int .i64,.int .i64] (T 1)),Sr 3 2 15,Ac 3 0])
 .ret))),
 [.agg 2 3 [.int .i64,.int .i64,.int .i64],.tmp 3],
 [],
 []⟩
theorem r45_ok:resFun (progU ()) hint live 45 Try.f45=some r45:=by kernel_rfl
def r46 : RFun :=
⟨.seq (Rg [0,1] [Ro 3 (.box 1 (T 1)),Ol 4 (.assign (.const (.slice none 0 0)))])
 (.seq (Rg [0,3,4] [Ro 5 (.new 1 [.slice none 0 0])])
 (.seq (.seq (Rg [0,3,4,5] [Mv 7 0,Ca 8 57 [T 7] (some (.val (.one .any)))])
 (.block 0 (.range 3)))
 (.seq (Rg [5] [Ro 18 (.load1 .slice (T 5)),As 4 18])
 .ret))),
 [.tmp 4],
 [],
 [(3,⟨T 8,[9],Rg [3,5,9] [Ro 6 (.new 2 z2),Sr 2 6 9],.block 1 (.seq (Rg [3,5,6] [Ro 10 (.load1 .any (T 3)),Ld 11 6,Ol 12 (.lookup 87 (T 10) (T 11) false),Ol 13 (.unOp .not 4 (T 12))])
 (.cond (T 13) (Rg [5,6] [Ro 14 (.load1 .slice (T 5)),Ld 15 6,Ro 16 (.buildSlice 2 1 z2 [(0,2,(T 15))]),⟨some 17,none,.op false (.old (.call ⟨.builtin .append,#[T 14,T 16],#[71,71]⟩))⟩,Sr 1 5 17])
 .skip))⟩)]⟩
theorem r46_ok:resFun (progU ()) hint live 46 Try.f46=some r46:=by kernel_rfl
def r47 : RFun :=
⟨.seq (Rg [0] [Ol 2 (.assign (.const (.map none)))])
 (.seq (Rg [0] [Mv 9 0,Ca 10 58 [T 9] (some (.tup [.one .slice,.one (.int .i64)])),Mv 8 10,Ex 11 8 0,Ex 12 8 1,As 3 11,As 4 12])
 (.seq (Rg [3] [Ol 13 (.makeMap 87 none),As 5 13])
 (.seq (.seq (Rg [3,5] [Mv 14 3,Ro 15 (.lenS (T 14)),Ol 16 (.move (Ci 0))])
 (.block 0 (.loop 4 (some [5,14,15,16]) (some [5,14,15,16]))))
 (.seq (Rg [5] [Mv 23 5,As 2 23])
 .ret)))),
 [.tmp 2],
 [(4,⟨some [5,14,15,16],some [5,14,15,16],.seq (Rg [5,14,15,16] [Bt 17 .lss 3 16 15])
 (.seq (.cond (T 17) .skip
 (.exit 0 (some [5])))
 (.seq (.block 1 (.seq (Rg [5,14,15,16] [Ix 18 2 14 16,Ld 19 18,Nw 7 2 z2,Sr 2 7 19])
 (Rg [5,7,14,15,16] [Mv 20 5,Ld 21 7,⟨none,none,.op false (.old (.mapUpdate 87 (T 20) (T 21) (.const (.bool true))))⟩])))
 (Rg [5,14,15,16] [Bc 22 .add 3 16 .i64 1,Mv 16 22])))⟩)],
 []⟩
theorem r47_ok:resFun (progU ()) hint live 47 Try.f47=some r47:=by kernel_rfl
def r48 : RFun :=
⟨.seq (Rg [0] [Ac 2 0])
 (.seq (.seq (Rg [0] [Mv 8 0,Ro 9 (.lenS (T 8)),Bc 10 .gtr 3 9 .i64 32])
 (.cond (T 10) (.seq (Rg [] [Ac 2 4])
 .ret)
 .skip))
 (.seq (.seq (Rg [0] [Mv 11 0,Ro 12 (.lenS (T 11)),Ol 13 (.move (Ci 0))])
 (.block 0 (.loop 4 none (some [0,11,12,13]))))
 (.seq (.seq (Rg [0] [Mv 23 0,Ro 24 (.lenS (T 23)),Ol 25 (.move (Ci 0))])
 (.block 2 (.loop 11 none (some [0,23,24,25]))))
 (.seq (Rg [] [Ac 2 0])
 .ret)))),
 [.tmp 2],
 [(4,⟨none,some [0,11,12,13],.seq (Rg [0,11,12,13] [Bt 14 .lss 3 13 12])
 (.seq (.cond (T 14) .skip
 (.exit 0 (some [0])))
 (.seq (.block 1 (.seq (Rg [0,11,12,13] [Ix 15 1 11 13,Ro 16 (.load1 .slice (T 15)),As 4 16])
 (.seq (Rg [0,4,11,12,13] [Mv 17 4,Ca 18 33 [T 17] vI,As 5 18])
 (.seq (Rg [0,5,11,12,13] [Mv 19 5,Bc 20 .neq 33 19 .i64 0])
 (.cond (T 20) (.seq (Rg [5] [Mv 21 5,As 2 21])
 .ret)
 .skip)))))
 (Rg [0,11,12,13] [Bc 22 .add 3 13 .i64 1,Mv 13 22])))⟩),(11,⟨none,some [0,23,24,25],.seq (Rg [0,23,24,25] [Bt 26 .lss 3 25 24])
 (.seq (.cond (T 26) .skip
 (.exit 2 (some [])))
 (.seq (.block 3 (.seq (Rg [0,23,24,25] [Ix 27 1 23 25,Ro 28 (.load1 .slice (T 27)),As 7 28])
 (.seq (Rg [0,7,23,24,25] [Mv 29 7,Mv 30 0,Ro 31 (.ixS 1 (T 30) (Ci 0)),Ro 32 (.load1 .slice (T 31)),Ca 33 59 [T 29,T 32] vB,Ol 34 (.unOp .not 4 (T 33))])
 (.cond (T 34) (.seq (Rg [] [Ac 2 8])
 .ret)
 .skip))))
 (Rg [0,23,24,25] [Bc 35 .add 3 25 .i64 1,Mv 25 35])))⟩)],
 []⟩
theorem r48_ok:resFun (progU ()) hint live 48 Try.f48=some r48:=by kernel_rfl
def r49 : RFun :=
⟨.seq (Rg [0,1] [Ol 4 (.assign (.const (.slice none 0 0))),Ac 5 0])
 (.seq (.seq (Rg [0,1] [Mv 14 1,Bc 15 .lss 3 14 .i64 0,Mv 16 15,Gf 17 16 (.move (T 1)),Gf 18 16 (.binOp .geq 3 (T 17) (Ci 32) 3),Ol 19 (.pick (T 16) (.const (.bool true)) (T 18))])
 (.cond (T 19) (.seq (Rg [] [Ol 4 (.assign (.const (.slice none 0 0))),Ac 5 2])
 .ret)
 .skip))
 (.seq (.seq (Rg [0,1] [Mv 20 0,Ro 21 (.lenS (T 20)),Bc 22 .gtr 3 21 .i64 8])
 (.cond (T 22) (.seq (Rg [] [Ol 4 (.assign (.const (.slice none 0 0))),Ac 5 4])
 .ret)
 .skip))
 (.seq (.seq (Rg [0,1] [Mv 23 0,Ro 24 (.lenS (T 23)),Ol 25 (.move (Ci 0))])
 (.block 0 (.loop 6 (some [0,1,23,24,25]) (some [0,1,23,24,25]))))
 (.seq (Rg [0,1] [Ro 33 (.mkSlice 3 [.int .i64 0,.int .i64 0,.int .i64 0] (Ci 8) (Ci 8)),As 8 33])
 (.seq (.seq (Rg [0,1,8] [Mv 34 8,Ro 35 (.lenS (T 34)),Ol 36 (.move (Ci 0))])
 (.block 2 (.loop 13 none (some [0,1,8,35,36]))))
 (.seq (.seq (Rg [0,1,8] [Mv 44 0,Ro 45 (.lenS (T 44)),Ol 46 (.move (Ci 0))])
 (.block 4 (.loop 18 (some [1,8,44,45,46]) (some [1,8,44,45,46]))))
 (.seq (Rg [8] [Mv 77 8,As 4 77,Ac 5 0])
 .ret))))))),
 [.tmp 4,.tmp 5],
 [(6,⟨some [0,1,23,24,25],some [0,1,23,24,25],.seq (Rg [0,1,23,24,25] [Bt 26 .lss 3 25 24])
 (.seq (.cond (T 26) .skip
 (.exit 0 (some [0,1])))
 (.seq (.block 1 (.seq (Rg [0,1,23,24,25] [Ix 27 8 23 25,Ro 28 (.load 8 [.int .u8,.int .i64,.int .i64,.int .i64,.int .i64,.int .i64,.int .i64,.int .i64] (T 27)),Nw 7 8 [.int .u8 0,.int .i64 0,.int .i64 0,.int .i64 0,.int .i64 0,.int .i64 0,.int .i64 0,.int .i64 0],Sr 8 7 28])
 (.seq (Rg [0,1,7,23,24,25] [Ro 29 (.load 8 [.int .u8,.int .i64,.int .i64,.int .i64,.int .i64,.int .i64,.int .i64,.int .i64] (T 7)),Ca 30 60 [T 29] vB,Ol 31 (.unOp .not 4 (T 30))])
 (.cond (T 31) (.seq (Rg [] [Ol 4 (.assign (.const (.slice none 0 0))),Ac 5 8])
 .ret)
 .skip))))
 (Rg [0,1,23,24,25] [Bc 32 .add 3 25 .i64 1,Mv 25 32])))⟩),(13,⟨none,some [0,1,8,35,36],.seq (Rg [0,1,8,35,36] [Bt 37 .lss 3 36 35])
 (.seq (.cond (T 37) .skip
 (.exit 2 (some [0,1,8])))
 (.seq (.block 3 (.seq (Rg [0,1,8,35,36] [Mv 38 36,As 9 38])
 (Rg [0,1,8,9,35,36] [Mv 39 8,Mv 40 9,Ro 41 (.build [.int .i64 0,.int .i64 0,.int .i64 0] [(0,1,(Ci 1)),(2,1,(Ci 1))]),Ix 42 3 39 40,Sr 3 42 41])))
 (Rg [0,1,8,35,36] [Bc 43 .add 3 36 .i64 1,Mv 36 43])))⟩),(18,⟨some [1,8,44,45,46],some [1,8,44,45,46],.seq (Rg [1,8,44,45,46] [Bt 47 .lss 3 46 45])
 (.seq (.cond (T 47) .skip
 (.exit 4 (some [8])))
 (.seq (.block 5 (.seq (Rg [1,8,44,45,46] [Ix 48 8 44 46,Ro 49 (.load 8 [.int .u8,.int .i64,.int .i64,.int .i64,.int .i64,.int .i64,.int .i64,.int .i64] (T 48)),Nw 11 8 [.int .u8 0,.int .i64 0,.int .i64 0,.int .i64 0,.int .i64 0,.int .i64 0,.int .i64 0,.int .i64 0],Sr 8 11 49])
 (.seq (Rg [1,8,11,44,45,46] [Ro 51 (.load 8 [.int .u8,.int .i64,.int .i64,.int .i64,.int .i64,.int .i64,.int .i64,.int .i64] (T 11)),Mv 52 1,Ca 53 61 [T 51,T 52] (some (.tup [.agg [.int .i64,.int .i64,.int .i64],.one (.int .i64)])),Mv 50 53,Ex 54 50 0,Ex 55 50 1,Nw 12 3 [.int .i64 0,.int .i64 0,.int .i64 0],Sr 3 12 54,As 13 55])
 (.seq (.seq (Rg [1,8,11,12,13,44,45,46] [Mv 56 13,Bc 57 .neq 33 56 .i64 0])
 (.cond (T 57) (.seq (Rg [13] [Mv 58 13,Ol 4 (.assign (.const (.slice none 0 0))),As 5 58])
 .ret)
 .skip))
 (.seq (.draw (some [1,8,11,12,44,45,46]) 16 [Dr (Mv 60 8) 0 [13,14,15],Dr (Fa 61 1 11) 1 [2,13,14,15],Db (L1 62 61) 2 61 [13,14,15],Dr (Mv 63 8) 3 [6,7,9,10,11,12,13,14,15],Dr (Fa 64 1 11) 4 [5,6,7,9,10,11,12,13,14,15],Db (L1 65 64) 5 64 [6,7,9,10,11,12,13,14,15],Dr (Ix 66 3 63 65) 6 [7,9,10,11,12,13,14,15],Db (Ro 67 (.load 3 [.int .i64,.int .i64,.int .i64] (T 66))) 7 66 [9,10,11,12,13,14,15],Db (Ro 68 (.load 3 [.int .i64,.int .i64,.int .i64] (T 12))) 8 12 [9,10,11,12,13,14,15],⟨Ca 69 21 [T 67,T 68] (some (.tup [.agg [.int .i64,.int .i64,.int .i64],.one (.int .i64)])),9,.all,[10,11,12,13,14,15],false,false⟩,Dr (Mv 59 69) 10 [11,12,13,14,15],Dr (Ex 70 59 0) 11 [13,14,15],Dr (Ex 71 59 1) 12 [15],Dr (Ix 72 3 60 62) 13 [14,15],⟨Sr 3 72 70,14,.blk (T 72),[15],true,true⟩,Dr (As 13 71) 15 []])
 (.seq (Rg [1,8,13,44,45,46] [Mv 73 13,Bc 74 .neq 33 73 .i64 0])
 (.cond (T 74) (.seq (Rg [13] [Mv 75 13,Ol 4 (.assign (.const (.slice none 0 0))),As 5 75])
 .ret)
 .skip)))))))
 (Rg [1,8,44,45,46] [Bc 76 .add 3 46 .i64 1,Mv 46 76])))⟩)],
 []⟩
theorem r49_ok:resFun (progU ()) hint live 49 Try.f49=some r49:=by kernel_rfl
def r50 : RFun :=
⟨.seq (Rg [0] [Ol 2 (.assign (.const (.bool false)))])
 (.seq (.seq (Rg [0] [Ac 3 0])
 (.block 0 (.loop 2 (some [0,3]) (some [0,3]))))
 (.seq (Rg [] [Ol 2 (.assign (.const (.bool true)))])
 .ret)),
 [.tmp 2],
 [(2,⟨some [0,3],some [0,3],.seq (.seq (Rg [0,3] [Mv 5 3,Mv 6 0,Ro 7 (.lenS (T 6)),Bt 8 .lss 3 5 7])
 (.cond (T 8) .skip
 (.exit 0 (some []))))
 (.seq (.block 1 (.seq (.seq (Rg [0,3] [Mv 11 0,Mv 12 3,Ix 13 1 11 12,L1 14 13,Ca 15 62 [T 14] vB,Ol 16 (.unOp .not 4 (T 15))])
 (.cond (T 16) (.seq (Rg [] [Ol 2 (.assign (.const (.bool false)))])
 .ret)
 .skip))
 (.seq (Rg [0,3] [Ac 4 0])
 (.block 2 (.loop 7 (some [0,3,4]) (some [0,3,4]))))))
 (Rg [0,3] [Mv 9 3,Bc 10 .add 3 9 .i64 1,As 3 10]))⟩),(7,⟨some [0,3,4],some [0,3,4],.seq (.seq (Rg [0,3,4] [Mv 17 4,Mv 18 3,Bt 19 .lss 3 17 18])
 (.cond (T 19) .skip
 (.exit 2 (some [0,3]))))
 (.seq (.block 3 (.seq (.draw (some [0,3,4]) 9 [Dr (Mv 22 0) 0 [2,3,8],Dr (Mv 23 4) 1 [2,3,8],Dr (Ix 24 1 22 23) 2 [3,8],Db (L1 25 24) 3 24 [8],Dr (Mv 26 0) 4 [6,7,8],Dr (Mv 27 3) 5 [6,7,8],Dr (Ix 28 1 26 27) 6 [7,8],Db (L1 29 28) 7 28 [8],Dr (Bt 30 .eql 3 25 29) 8 []])
 (.cond (T 30) (.seq (Rg [] [Ol 2 (.assign (.const (.bool false)))])
 .ret)
 .skip)))
 (Rg [0,3,4] [Mv 20 4,Bc 21 .add 3 20 .i64 1,As 4 21]))⟩)],
 []⟩
theorem r50_ok:resFun (progU ()) hint live 50 Try.f50=some r50:=by kernel_rfl
def r51 : RFun :=
⟨.seq (Rg [0] [Bo 1 3 0,Ol 2 (.assign (.const (.bool false)))])
 (.seq (Rg [1] [Fa 3 0 1,L1 4 3,Bc 5 .eql 2 4 .i64 0,Mv 6 5,Ht 7 6 (.fieldAddr 1 (T 1)),Ht 8 6 (.load1 (.int .i64) (T 7)),Gt 9 6 (.binOp .eql 2 (T 8) (Ci 0) 2),Ol 10 (.pick (T 6) (T 9) (.const (.bool false))),As 2 10])
 .ret),
 [.tmp 2],
 [],
 []⟩
theorem r51_ok:resFun (progU ()) hint live 51 Try.f51=some r51:=by kernel_rfl
def r52 : RFun :=
⟨.seq (Rg [0,1] [Ac 4 0])
 (.seq (.block 0 (.loop 1 (some [0,1]) (some [0,1])))
 (.seq (Rg [0] [Mv 11 0,Mv 12 0,Ol 13 (.unOp .neg 2 (T 12)),⟨some 14,none,.op false (.old (.call ⟨.builtin .max,#[T 11,T 13],#[2,2]⟩))⟩,As 4 14])
 .ret)),
 [.tmp 4],
 [(1,⟨some [0,1],some [0,1],.seq (.seq (Rg [0,1] [Mv 5 1,Bc 6 .neq 2 5 .i64 0])
 (.cond (T 6) .skip
 (.exit 0 (some [0]))))
 (.block 1 (.draw (some [0,1]) 6 [Dr (Mv 7 1) 0 [4,5],Dr (Mv 8 0) 1 [3,4,5],Dr (Mv 9 1) 2 [3,5],Dr (Bt 10 .rem 2 8 9) 3 [5],Dr (As 0 7) 4 [5],Dr (As 1 10) 5 []]))⟩)],
 []⟩
theorem r52_ok:resFun (progU ()) hint live 52 Try.f52=some r52:=by kernel_rfl
def r53 : RFun :=
⟨.seq (Rg [0] [Ol 2 (.assign (.const (.bool false)))])
 (.seq (Rg [0] [Mv 3 0,Bc 4 .geq 3 3 .i64 0,Mv 5 4,Gt 6 5 (.move (T 0)),Gt 7 5 (.binOp .lss 3 (T 6) (Ci 8) 3),Ol 8 (.pick (T 5) (T 7) (.const (.bool false))),As 2 8])
 .ret),
 [.tmp 2],
 [],
 []⟩
theorem r53_ok:resFun (progU ()) hint live 53 Try.f53=some r53:=by kernel_rfl
def r55 : RFun :=
⟨.seq (Rg [0,1,2] [Nw 6 3 [.int .i64 0,.int .i64 0,.int .i64 0],Ac 7 0])
 (.seq (.seq (Rg [0,1,2,6] [Mv 10 0,Ro 11 (.lenS (T 10)),Ol 12 (.move (Ci 0))])
 (.block 0 (.loop 2 (some [1,2,6,10,11,12]) (some [1,2,6,10,11,12]))))
 (.seq (Rg [6] [Ro 44 (.build [.int .i64 0,.int .i64 0,.int .i64 0] []),Sr 3 6 44,Ac 7 6])
 .ret)),
 [.agg 6 3 [.int .i64,.int .i64,.int .i64],.tmp 7],
 [(2,⟨some [1,2,6,10,11,12],some [1,2,6,10,11,12],.seq (Rg [1,2,6,10,11,12] [Bt 13 .lss 3 12 11])
 (.seq (.cond (T 13) .skip
 (.exit 0 (some [6])))
 (.seq (.block 1 (.seq (Rg [1,2,6,10,11,12] [Ix 14 6 10 12,Ro 15 (.load 6 [.int .i64,.int .i64,.int .i64,.int .i64,.int .i64,.int .i64] (T 14)),Nw 9 6 [.int .i64 0,.int .i64 0,.int .i64 0,.int .i64 0,.int .i64 0,.int .i64 0],Sr 6 9 15])
 (.seq (.seq (Rg [1,2,6,9,10,11,12] [Fa 16 0 9,L1 17 16,Mv 18 1,Bt 19 .eql 3 17 18,Mv 20 19,Ht 21 20 (.fieldAddr 1 (T 9)),Ht 22 20 (.load1 (.int .i64) (T 21)),Gt 23 20 (.move (T 2)),Gt 24 20 (.binOp .eql 3 (T 22) (T 23) 3),Ol 25 (.pick (T 20) (T 24) (.const (.bool false)))])
 (.cond (T 25) (.seq (Rg [6,9] [Fa 26 2 9,Ro 27 (.load 3 [.int .i64,.int .i64,.int .i64] (T 26)),Sr 3 6 27,Ac 7 0])
 .ret)
 .skip))
 (.seq (Rg [1,2,6,9,10,11,12] [Fa 28 0 9,L1 29 28,Mv 30 2,Bt 31 .eql 3 29 30,Mv 32 31,Ht 33 32 (.fieldAddr 1 (T 9)),Ht 34 32 (.load1 (.int .i64) (T 33)),Gt 35 32 (.move (T 1)),Gt 36 32 (.binOp .eql 3 (T 34) (T 35) 3),Ol 37 (.pick (T 32) (T 36) (.const (.bool false)))])
 (.cond (T 37) (.seq (Rg [6,9] [Fa 38 2 9,Ro 39 (.load 3 [.int .i64,.int .i64,.int .i64] (T 38)),Ca 40 45 [T 39] (some (.tup [.agg [.int .i64,.int .i64,.int .i64],.one (.int .i64)])),Ex 41 40 0,Ex 42 40 1,Sr 3 6 41,As 7 42])
 .ret)
 .skip)))))
 (Rg [1,2,6,10,11,12] [Bc 43 .add 3 12 .i64 1,Mv 12 43])))⟩)],
 []⟩
theorem r55_ok:resFun (progU ()) hint live 55 Try.f55=some r55:=by kernel_rfl
def r56 : RFun :=
⟨.seq (Rg [0] [Ol 2 (.assign (.const (.bool false)))])
 (.seq (Rg [0] [Mv 3 0,Ol 4 (.binOp .geq 2 (T 3) (.const (.int .i64 (-1000000000))) 2),Mv 5 4,Gt 6 5 (.move (T 0)),Gt 7 5 (.binOp .leq 2 (T 6) (Ci 1000000000) 2),Ol 8 (.pick (T 5) (T 7) (.const (.bool false))),As 2 8])
 .ret),
 [.tmp 2],
 [],
 []⟩
theorem r56_ok:resFun (progU ()) hint live 56 Try.f56=some r56:=by kernel_rfl
def r57 : RFun :=
⟨.seq (Rg [0] [Ol 2 (.assign (.const .nilFunc))])
 (.seq (Rg [0] [Ro 3 (.new 1 [.slice none 0 0])])
 (.seq (.seq (Rg [0,3] [Mv 6 0,Ro 7 (.lenS (T 6)),Ol 8 (.move (Ci 0))])
 (.block 0 (.loop 3 (some [3,6,7,8]) (some [3,6,7,8]))))
 (.seq (Rg [3] [Ro 21 (.load1 .slice (T 3)),Ca 22 63 [T 21,.func 64] (some (.tup []))])
 (.seq (Rg [3] [Ol 23 (.makeFunc (.func 67) #[] #[T 3]),As 2 23])
 .ret)))),
 [.tmp 2],
 [(3,⟨some [3,6,7,8],some [3,6,7,8],.seq (Rg [3,6,7,8] [Bt 9 .lss 3 8 7])
 (.seq (.cond (T 9) .skip
 (.exit 0 (some [3])))
 (.seq (.block 1 (.seq (Rg [3,6,7,8] [Ix 10 6 6 8,Ro 11 (.load 6 [.int .i64,.int .i64,.int .i64,.int .i64,.int .i64,.int .i64] (T 10)),Nw 5 6 [.int .i64 0,.int .i64 0,.int .i64 0,.int .i64 0,.int .i64 0,.int .i64 0],Sr 6 5 11])
 (Rg [3,5,6,7,8] [Ro 12 (.load1 .slice (T 3)),Fa 13 0 5,L1 14 13,Fa 15 1 5,L1 16 15,Ro 17 (.build z2 [(0,1,(T 14)),(1,1,(T 16))]),Ro 18 (.buildSlice 2 1 z2 [(0,2,(T 17))]),⟨some 19,none,.op false (.old (.call ⟨.builtin .append,#[T 12,T 18],#[71,71]⟩))⟩,Sr 1 3 19])))
 (Rg [3,6,7,8] [Bc 20 .add 3 8 .i64 1,Mv 8 20])))⟩)],
 []⟩
theorem r57_ok:resFun (progU ()) hint live 57 Try.f57=some r57:=by kernel_rfl
def r58 : RFun :=
⟨.seq (Rg [0] [Ol 2 (.assign (.const (.slice none 0 0))),Ac 3 0])
 (.seq (Rg [0] [Mv 10 0,Ca 11 68 [T 10] (some (.val (.one .any))),As 4 11])
 (.seq (Rg [0,4] [Ol 5 (.assign (.const (.slice none 0 0)))])
 (.seq (Rg [0,4,5] [Ac 6 0])
 (.seq (.seq (Rg [0,4,5,6] [Mv 12 4,Ca 13 69 [T 12] vI,As 7 13])
 (.block 0 (.loop 5 none (some [0,4,5,6,7]))))
 (.seq (Rg [5,6] [Mv 46 5,Mv 47 6,As 2 46,As 3 47])
 .ret))))),
 [.tmp 2,.tmp 3],
 [(5,⟨none,some [0,4,5,6,7],.seq (.seq (Rg [0,4,5,6,7] [Mv 14 7,Bc 15 .geq 3 14 .i64 0])
 (.cond (T 15) .skip
 (.exit 0 (some [5,6]))))
 (.seq (.block 1 (.seq (Rg [0,4,5,6,7] [Mv 18 4,Mv 19 7,⟨none,none,.op false (.old (.mapUpdate 114 (T 18) (T 19) (.const (.bool true))))⟩])
 (.seq (Rg [0,4,5,6] [Mv 20 6,Bc 21 .add 3 20 .i64 1,As 6 21])
 (.seq (Rg [0,4,5,6] [Mv 23 0,Mv 24 4,Ca 25 70 [T 23,T 24] (some (.tup [.agg s2,.one .bool])),Mv 22 25,Ex 26 22 0,Ex 27 22 1,Ro 8 (.new 2 z2),Sr 2 8 26,As 9 27])
 (.block 2 (.loop 10 none (some [0,4,5,6,8,9])))))))
 (Rg [0,4,5,6] [Mv 16 4,Ca 17 69 [T 16] vI,As 7 17]))⟩),(10,⟨none,some [0,4,5,6,8,9],.seq (.seq (Rg [0,4,5,6,8,9] [Mv 28 9])
 (.cond (T 28) .skip
 (.exit 2 (some [0,4,5,6]))))
 (.seq (.block 3 (.seq (Rg [0,4,5,6,8] [Mv 35 4,Fa 36 0 8,L1 37 36,⟨none,none,.op false (.old (.mapUpdate 114 (T 35) (T 37) (.const (.bool true))))⟩])
 (.seq (Rg [0,4,5,6,8] [Mv 38 4,Fa 39 1 8,L1 40 39,⟨none,none,.op false (.old (.mapUpdate 114 (T 38) (T 40) (.const (.bool true))))⟩])
 (Rg [0,4,5,6,8] [Mv 41 5,Ld 42 8,Ro 43 (.buildSlice 2 1 z2 [(0,2,(T 42))]),⟨some 44,none,.op false (.old (.call ⟨.builtin .append,#[T 41,T 43],#[71,71]⟩))⟩,As 5 44]))))
 (.seq (.seq (Rg [0,4,5,6,8] [Ld 45 8])
 (Rg [0,4,5,6,45] [Ro 8 (.new 2 z2),Sr 2 8 45]))
 (Rg [0,4,5,6,8] [Mv 30 0,Mv 31 4,Ca 32 70 [T 30,T 31] (some (.tup [.agg s2,.one .bool])),Mv 29 32,Ex 33 29 0,Ex 34 29 1,Sr 2 8 33,As 9 34])))⟩)],
 []⟩
theorem r58_ok:resFun (progU ()) hint live 58 Try.f58=some r58:=by kernel_rfl
