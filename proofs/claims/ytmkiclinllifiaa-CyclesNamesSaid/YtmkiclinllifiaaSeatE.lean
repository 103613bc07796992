import Derived.Test.YtmkiclinllifiaaSeat0
import Derived.Test.YtmkiclinllifiaaSymS
set_option linter.unusedSimpArgs false
set_option linter.unusedVariables false
namespace Go.Proofs.Ytmkiclinllifiaa
open Go.Sim
set_option maxRecDepth 100000
def r57 : RFun :=
⟨.seq (Rg [0] [Ol 2 (.assign (.const (.bool false)))])
 (.seq (Rg [0] [Ro 3 (.new 8 [.bool false,.bool false,.bool false,.bool false,.bool false,.bool false,.bool false,.bool false])])
 (.seq (.seq (Rg [0,3] [Mv 6 0,Ro 7 (.lenS (T 6)),Ol 8 (.move (Ci 0))])
 (.block 0 (.loop 3 none (some [3,6,7,8]))))
 (.seq (Rg [] [Ol 2 (.assign (.const (.bool true)))])
 .ret))),
 [.tmp 2],
 [(3,⟨none,some [3,6,7,8],.seq (Rg [3,6,7,8] [Bt 9 .lss 3 8 7])
 (.seq (.cond (T 9) .skip
 (.exit 0 (some [])))
 (.seq (.block 1 (.seq (Rg [3,6,7,8] [Ix 10 1 6 8,L1 11 10,As 5 11])
 (.seq (.seq (Rg [3,5,6,7,8] [Mv 12 5,Ca 13 61 [T 12] vB,Ol 14 (.unOp .not 4 (T 13)),Mv 15 14,Gf 16 15 (.move (T 5)),Hf 17 15 (.ixA 8 1 (T 3) (T 16)),Hf 18 15 (.load1 .bool (T 17)),Ol 19 (.pick (T 15) (.const (.bool true)) (T 18))])
 (.cond (T 19) (.seq (Rg [] [Ol 2 (.assign (.const (.bool false)))])
 .ret)
 .skip))
 (Rg [3,5,6,7,8] [Mv 20 5,Ro 21 (.ixA 8 1 (T 3) (T 20)),⟨none,none,.op false (.store 1 (T 21) (.const (.bool true)))⟩]))))
 (Rg [3,6,7,8] [Bc 22 .add 3 8 .i64 1,Mv 8 22])))⟩)],
 []⟩
theorem r57_ok:resFun (progU ()) hint live 57 Try.f57=some r57:=by kernel_rfl
def r58 : RFun :=
⟨.seq (Rg [0,1] [Ol 4 (.assign (.const (.slice none 0 0))),Ac 5 0])
 (.seq (Rg [0,1] [Ol 6 (.assign (.const (.slice none 0 0)))])
 (.seq (.seq (Rg [0,1,6] [Mv 13 1,Ro 14 (.lenS (T 13)),Ol 15 (.move (Ci 0))])
 (.block 0 (.loop 3 (some [0,6,13,14,15]) (some [0,6,13,14,15]))))
 (.seq (.seq (Rg [6] [Mv 36 6,Ro 37 (.lenS (T 36)),Ol 38 (.move (Ci 0))])
 (.block 2 (.loop 11 (some [6,36,37,38]) (some [6,36,37,38]))))
 (.seq (Rg [6] [Mv 51 6,As 4 51,Ac 5 0])
 .ret)))),
 [.tmp 4,.tmp 5],
 [(3,⟨some [0,6,13,14,15],some [0,6,13,14,15],.seq (Rg [0,6,13,14,15] [Bt 16 .lss 3 15 14])
 (.seq (.cond (T 16) .skip
 (.exit 0 (some [6])))
 (.seq (.block 1 (.seq (Rg [0,6,13,14,15] [Ix 17 2 13 15,Ld 18 17,Ro 8 (.new 2 z2),Sr 2 8 18])
 (.seq (Rg [0,6,8,13,14,15] [Mv 20 0,Ro 21 (.ixA 2 1 (T 8) (Ci 0)),L1 22 21,Ro 23 (.ixA 2 1 (T 8) (Ci 1)),L1 24 23,Ca 25 75 [T 20,T 22,T 24] (some (.tup [.agg [.int .i64,.int .i64,.int .i64],.one (.int .i64)])),Mv 19 25,Ex 26 19 0,Ex 27 19 1,Nw 9 3 [.int .i64 0,.int .i64 0,.int .i64 0],Sr 3 9 26,As 10 27])
 (.seq (.seq (Rg [0,6,9,10,13,14,15] [Mv 28 10,Bc 29 .neq 24 28 .i64 0])
 (.cond (T 29) (.seq (Rg [10] [Mv 30 10,Ol 4 (.assign (.const (.slice none 0 0))),As 5 30])
 .ret)
 .skip))
 (Rg [0,6,9,13,14,15] [Mv 31 6,Ro 32 (.load 3 [.int .i64,.int .i64,.int .i64] (T 9)),Ro 33 (.buildSlice 3 1 [.int .i64 0,.int .i64 0,.int .i64 0] [(0,3,(T 32))]),⟨some 34,none,.op false (.old (.call ⟨.builtin .append,#[T 31,T 33],#[83,83]⟩))⟩,As 6 34])))))
 (Rg [0,6,13,14,15] [Bc 35 .add 3 15 .i64 1,Mv 15 35])))⟩),(11,⟨some [6,36,37,38],some [6,36,37,38],.seq (Rg [6,36,37,38] [Bt 39 .lss 3 38 37])
 (.seq (.cond (T 39) .skip
 (.exit 2 (some [6])))
 (.seq (.block 3 (.seq (Rg [6,36,37,38] [Ix 40 3 36 38,Ro 41 (.load 3 [.int .i64,.int .i64,.int .i64] (T 40)),Nw 12 3 [.int .i64 0,.int .i64 0,.int .i64 0],Sr 3 12 41])
 (.seq (Rg [6,12,36,37,38] [Fa 42 0 12,L1 43 42,Bc 44 .eql 2 43 .i64 0,Mv 45 44,Ht 46 45 (.fieldAddr 1 (T 12)),Ht 47 45 (.load1 (.int .i64) (T 46)),Gt 48 45 (.binOp .eql 2 (T 47) (Ci 0) 2),Ol 49 (.pick (T 45) (T 48) (.const (.bool false)))])
 (.cond (T 49) (.seq (Rg [] [Ol 4 (.assign (.const (.slice none 0 0))),Ac 5 18])
 .ret)
 .skip))))
 (Rg [6,36,37,38] [Bc 50 .add 3 38 .i64 1,Mv 38 50])))⟩)],
 []⟩
theorem r58_ok:resFun (progU ()) hint live 58 Try.f58=some r58:=by kernel_rfl
def r59 : RFun :=
⟨.seq (Rg [0,1] [Bo 2 3 0,Bo 3 3 1,Nw 4 3 [.int .i64 0,.int .i64 0,.int .i64 0],Ac 5 0])
 (.seq (Rg [2,3,4] [Ro 10 (.load 3 [.int .i64,.int .i64,.int .i64] (T 3)),Ca 11 50 [T 10] (some (.tup [.agg [.int .i64,.int .i64,.int .i64],.one (.int .i64)])),Mv 9 11,Ex 12 9 0,Ex 13 9 1,Nw 6 3 [.int .i64 0,.int .i64 0,.int .i64 0],Sr 3 6 12,As 7 13])
 (.seq (.seq (Rg [2,4,6,7] [Mv 14 7,Bc 15 .neq 24 14 .i64 0])
 (.cond (T 15) (.seq (Rg [4,7] [Ro 16 (.build [.int .i64 0,.int .i64 0,.int .i64 0] []),Mv 17 7,Sr 3 4 16,As 5 17])
 .ret)
 .skip))
 (.seq (Rg [2,4,6] [Ro 19 (.load 3 [.int .i64,.int .i64,.int .i64] (T 2)),Ro 20 (.load 3 [.int .i64,.int .i64,.int .i64] (T 6)),Ca 21 49 [T 19,T 20] (some (.tup [.agg [.int .i64,.int .i64,.int .i64],.one (.int .i64)])),Mv 18 21,Ex 22 18 0,Ex 23 18 1,Nw 8 3 [.int .i64 0,.int .i64 0,.int .i64 0],Sr 3 8 22,As 7 23])
 (.seq (.seq (Rg [4,7,8] [Mv 24 7,Bc 25 .neq 24 24 .i64 0])
 (.cond (T 25) (.seq (Rg [4,7] [Ro 26 (.build [.int .i64 0,.int .i64 0,.int .i64 0] []),Mv 27 7,Sr 3 4 26,As 5 27])
 .ret)
 .skip))
 (.seq (Rg [4,8] [Ro 28 (.load 3 [.int .i64,.int .i64,.int .i64] (T 8)),Ca 29 50 [T 28] (some (.tup [.agg [.int .i64,.int .i64,.int .i64],.one (.int .i64)])),Ex 30 29 0,Ex 31 29 1,Sr 3 4 30,As 5 31])
 .ret))))),
 [.agg 4 3 [.int .i64,.int .i64,.int .i64],.tmp 5],
 [],
 []⟩
theorem r59_ok:resFun (progU ()) hint live 59 Try.f59=some r59:=by kernel_rfl
def r61 : RFun :=
⟨.seq (Rg [0] [Ol 2 (.assign (.const (.bool false)))])
 (.seq (Rg [0] [Mv 3 0,Bc 4 .geq 3 3 .i64 0,Mv 5 4,Gt 6 5 (.move (T 0)),Gt 7 5 (.binOp .lss 3 (T 6) (Ci 8) 3),Ol 8 (.pick (T 5) (T 7) (.const (.bool false))),As 2 8])
 .ret),
 [.tmp 2],
 [],
 []⟩
theorem r61_ok:resFun (progU ()) hint live 61 Try.f61=some r61:=by kernel_rfl
def r62 : RFun :=
⟨.seq (Rg [0] [Bo 1 3 0,Ac 2 0])
 (.seq (.seq (.draw (some [1]) 31 [Dr (Fa 3 2 1) 0 [1,2,3,4,5,6,7,8,9,10,11,12,13,14,15,16,17,18,19,20,21,22,23,24,25,26,27,28,29,30],Db (L1 4 3) 1 3 [2,3,4,5,6,7,8,9,10,11,12,13,14,15,16,17,18,19,20,21,22,23,24,25,26,27,28,29,30],Dr (Bc 5 .lss 2 4 .i64 1) 2 [3,4,5,6,7,8,9,10,11,12,13,14,15,16,17,18,19,20,21,22,23,24,25,26,27,28,29,30],Dr (Mv 6 5) 3 [4,5,6,7,8,9,10,11,12,13,14,15,16,17,18,19,20,21,22,23,24,25,26,27,28,29,30],⟨Hf 7 6 (.fieldAddr 2 (T 1)),4,.none,[5,6,7,8,9,10,11,12,13,14,15,16,17,18,19,20,21,22,23,24,25,26,27,28,29,30],false,true⟩,⟨Hf 8 6 (.load1 (.int .i64) (T 7)),5,.blk (T 7),[6,7,8,9,10,11,12,13,14,15,16,17,18,19,20,21,22,23,24,25,26,27,28,29,30],false,true⟩,⟨Gf 9 6 (.binOp .gtr 2 (T 8) (Ci 1000000000) 2),6,.none,[7,8,9,10,11,12,13,14,15,16,17,18,19,20,21,22,23,24,25,26,27,28,29,30],false,true⟩,Dr (Ol 10 (.pick (T 6) (.const (.bool true)) (T 9))) 7 [8,9,10,11,12,13,14,15,16,17,18,19,20,21,22,23,24,25,26,27,28,29,30],Dr (Mv 11 10) 8 [9,10,11,12,13,14,15,16,17,18,19,20,21,22,23,24,25,26,27,28,29,30],⟨Hf 12 11 (.fieldAddr 0 (T 1)),9,.none,[10,11,12,13,14,15,16,17,18,19,20,21,22,23,24,25,26,27,28,29,30],false,true⟩,⟨Hf 13 11 (.load1 (.int .i64) (T 12)),10,.blk (T 12),[11,12,13,14,15,16,17,18,19,20,21,22,23,24,25,26,27,28,29,30],false,true⟩,⟨⟨some 14,some (11,false),.call (.func 76) [T 13] vB⟩,11,.all,[12,13,14,15,16,17,18,19,20,21,22,23,24,25,26,27,28,29,30],false,false⟩,⟨Gf 15 11 (.unOp .not 4 (T 14)),12,.none,[13,14,15,16,17,18,19,20,21,22,23,24,25,26,27,28,29,30],false,true⟩,Dr (Ol 16 (.pick (T 11) (.const (.bool true)) (T 15))) 13 [14,15,16,17,18,19,20,21,22,23,24,25,26,27,28,29,30],Dr (Mv 17 16) 14 [15,16,17,18,19,20,21,22,23,24,25,26,27,28,29,30],⟨Hf 18 17 (.fieldAddr 1 (T 1)),15,.none,[16,17,18,19,20,21,22,23,24,25,26,27,28,29,30],false,true⟩,⟨Hf 19 17 (.load1 (.int .i64) (T 18)),16,.blk (T 18),[17,18,19,20,21,22,23,24,25,26,27,28,29,30],false,true⟩,⟨⟨some 20,some (17,false),.call (.func 76) [T 19] vB⟩,17,.all,[18,19,20,21,22,23,24,25,26,27,28,29,30],false,false⟩,⟨Gf 21 17 (.unOp .not 4 (T 20)),18,.none,[19,20,21,22,23,24,25,26,27,28,29,30],false,true⟩,Dr (Ol 22 (.pick (T 17) (.const (.bool true)) (T 21))) 19 [20,21,22,23,24,25,26,27,28,29,30],Dr (Mv 23 22) 20 [21,22,23,24,25,26,27,28,29,30],⟨Hf 24 23 (.fieldAddr 0 (T 1)),21,.none,[22,25,28,29,30],false,true⟩,⟨Hf 25 23 (.load1 (.int .i64) (T 24)),22,.blk (T 24),[25,28,29,30],false,true⟩,⟨Hf 26 23 (.fieldAddr 1 (T 1)),23,.none,[24,25,28,29,30],false,true⟩,⟨Hf 27 23 (.load1 (.int .i64) (T 26)),24,.blk (T 26),[25,28,29,30],false,true⟩,⟨Hf 29 23 (.fieldAddr 2 (T 1)),26,.none,[27,28,29,30],false,true⟩,⟨Hf 30 23 (.load1 (.int .i64) (T 29)),27,.blk (T 29),[28,29,30],false,true⟩,⟨⟨some 28,some (23,false),.call (.func 70) [T 25,T 27] vI⟩,25,.all,[28,29,30],false,false⟩,⟨⟨some 31,some (23,false),.call (.func 70) [T 28,T 30] vI⟩,28,.all,[29,30],false,false⟩,⟨Gf 32 23 (.binOp .neq 2 (T 31) (Ci 1) 2),29,.none,[30],false,true⟩,Dr (Ol 33 (.pick (T 23) (.const (.bool true)) (T 32))) 30 []])
 (.cond (T 33) (.seq (Rg [] [Ac 2 8])
 .ret)
 .skip))
 (.seq (Rg [] [Ac 2 0])
 .ret)),
 [.tmp 2],
 [],
 []⟩
theorem r62_ok:resFun (progU ()) hint live 62 Try.f62=some r62:=by kernel_rfl
def r64 : RFun :=
⟨.seq (Rg [0,1] [Ro 3 (.box 1 (T 1)),Ro 4 (.new 2 z2),Ro 5 (.new 1 [.bool false])])
 (.seq (.seq (Rg [0,3,4,5] [Mv 7 0,Ca 8 65 [T 7] (some (.val (.one .any)))])
 (.block 0 (.range 2)))
 (.seq (Rg [4,5] [Ro 20 (.build z2 []),Sr 2 4 20,⟨none,none,.op false (.store 1 (T 5) (.const (.bool false)))⟩])
 .ret)),
 [.agg 4 2 [.int .i64,.int .i64],.one 5 .bool],
 [],
 [(2,⟨T 8,[9],Rg [3,4,5,9] [Ro 6 (.new 2 z2),Sr 2 6 9],.block 1 (.seq (Rg [3,4,5,6] [Ro 10 (.load1 .any (T 3)),Fa 11 0 6,L1 12 11,Ol 13 (.lookup 76 (T 10) (T 12) false),Ro 14 (.load1 .any (T 3)),Fa 15 1 6,L1 16 15,Ol 17 (.lookup 76 (T 14) (T 16) false),Bt 18 .neq 4 13 17])
 (.cond (T 18) (.seq (Rg [4,5,6] [Ld 19 6,Sr 2 4 19,⟨none,none,.op false (.store 1 (T 5) (.const (.bool true)))⟩])
 .ret)
 .skip))⟩)]⟩
theorem r64_ok:resFun (progU ()) hint live 64 Try.f64=some r64:=by kernel_rfl
def r65 : RFun :=
⟨.seq (Rg [0] [Ol 2 (.assign (.const .nilFunc))])
 (.seq (Rg [0] [Ro 3 (.new 1 [.slice none 0 0])])
 (.seq (.seq (Rg [0,3] [Mv 6 0,Ro 7 (.lenS (T 6)),Ol 8 (.move (Ci 0))])
 (.block 0 (.loop 3 (some [3,6,7,8]) (some [3,6,7,8]))))
 (.seq (Rg [3] [Ro 21 (.load1 .slice (T 3)),Ca 22 77 [T 21,.func 78] (some (.tup []))])
 (.seq (Rg [3] [Ol 23 (.makeFunc (.func 81) #[] #[T 3]),As 2 23])
 .ret)))),
 [.tmp 2],
 [(3,⟨some [3,6,7,8],some [3,6,7,8],.seq (Rg [3,6,7,8] [Bt 9 .lss 3 8 7])
 (.seq (.cond (T 9) .skip
 (.exit 0 (some [3])))
 (.seq (.block 1 (.seq (Rg [3,6,7,8] [Ix 10 6 6 8,Ro 11 (.load 6 [.int .i64,.int .i64,.int .i64,.int .i64,.int .i64,.int .i64] (T 10)),Nw 5 6 [.int .i64 0,.int .i64 0,.int .i64 0,.int .i64 0,.int .i64 0,.int .i64 0],Sr 6 5 11])
 (Rg [3,5,6,7,8] [Ro 12 (.load1 .slice (T 3)),Fa 13 0 5,L1 14 13,Fa 15 1 5,L1 16 15,Ro 17 (.build z2 [(0,1,(T 14)),(1,1,(T 16))]),Ro 18 (.buildSlice 2 1 z2 [(0,2,(T 17))]),⟨some 19,none,.op false (.old (.call ⟨.builtin .append,#[T 12,T 18],#[23,23]⟩))⟩,Sr 1 3 19])))
 (Rg [3,6,7,8] [Bc 20 .add 3 8 .i64 1,Mv 8 20])))⟩)],
 []⟩
theorem r65_ok:resFun (progU ()) hint live 65 Try.f65=some r65:=by kernel_rfl
def r67 : RFun :=
⟨.seq (Rg [0,1] [Bo 2 3 0,Bo 3 3 1,Ac 4 0])
 (.seq (.seq (Rg [2,3] [Ro 6 (.load 3 [.int .i64,.int .i64,.int .i64] (T 2)),Ca 7 62 [T 6] vI,As 5 7])
 (.seq (Rg [3,5] [Mv 8 5,Bc 9 .neq 24 8 .i64 0])
 (.cond (T 9) (.seq (Rg [5] [Mv 10 5,As 4 10])
 .ret)
 .skip)))
 (.seq (Rg [3] [Ro 11 (.load 3 [.int .i64,.int .i64,.int .i64] (T 3)),Ca 12 62 [T 11] vI,As 4 12])
 .ret)),
 [.tmp 4],
 [],
 []⟩
theorem r67_ok:resFun (progU ()) hint live 67 Try.f67=some r67:=by kernel_rfl
def r68 : RFun :=
⟨.seq (Rg [0,1,2] [Nw 6 3 [.int .i64 0,.int .i64 0,.int .i64 0],Ac 7 0])
 (.seq (.seq (Rg [0,1,2,6] [Mv 12 0,Mv 13 1,Mv 14 2,Ro 15 (.build [.int .i64 0,.int .i64 0,.int .i64 0] [(0,1,(T 12)),(1,1,(T 13)),(2,1,(T 14))]),Ol 16 (.move (Ci 0))])
 (.block 0 (.loop 2 none (some [0,1,2,6,15,16]))))
 (.seq (.seq (Rg [0,1,2,6] [Mv 27 2,Bc 28 .eql 2 27 .i64 0])
 (.cond (T 28) (.seq (Rg [6] [Ro 29 (.build [.int .i64 0,.int .i64 0,.int .i64 0] []),Sr 3 6 29,Ac 7 18])
 .ret)
 .skip))
 (.seq (Rg [0,1,2,6] [Mv 30 0,Mv 31 1,Ca 32 70 [T 30,T 31] vI,Mv 33 2,Ca 34 70 [T 32,T 33] vI,As 10 34])
 (.seq (.seq (Rg [0,1,2,6,10] [Mv 35 2,Bc 36 .lss 2 35 .i64 0])
 (.cond (T 36) (Rg [0,1,2,6,10] [Mv 37 10,Ol 38 (.unOp .neg 2 (T 37)),As 10 38])
 .skip))
 (.seq (.draw (some [0,1,2,6,10]) 12 [Dr (Mv 39 0) 0 [2,9,11],Dr (Mv 40 10) 1 [2,9,11],Dr (Bt 41 .quo 2 39 40) 2 [9,11],Dr (Mv 42 1) 3 [5,9,11],Dr (Mv 43 10) 4 [5,9,11],Dr (Bt 44 .quo 2 42 43) 5 [9,11],Dr (Mv 45 2) 6 [8,9,11],Dr (Mv 46 10) 7 [8,9,11],Dr (Bt 47 .quo 2 45 46) 8 [9,11],Dr (Ro 48 (.build [.int .i64 0,.int .i64 0,.int .i64 0] [(0,1,(T 41)),(1,1,(T 44)),(2,1,(T 47))])) 9 [11],⟨Nw 11 3 [.int .i64 0,.int .i64 0,.int .i64 0],10,.new true,[11],false,true⟩,⟨Sr 3 11 48,11,.blk (T 11),[],true,true⟩])
 (.seq (.seq (Rg [6,11] [Fa 49 0 11,L1 50 49,Ca 51 76 [T 50] vB,Ol 52 (.unOp .not 4 (T 51)),Mv 53 52,Hf 54 53 (.fieldAddr 1 (T 11)),Hf 55 53 (.load1 (.int .i64) (T 54)),⟨some 56,some (53,false),.call (.func 76) [T 55] vB⟩,Gf 57 53 (.unOp .not 4 (T 56)),Ol 58 (.pick (T 53) (.const (.bool true)) (T 57)),Mv 59 58,Hf 60 59 (.fieldAddr 2 (T 11)),Hf 61 59 (.load1 (.int .i64) (T 60)),⟨some 62,some (59,false),.call (.func 76) [T 61] vB⟩,Gf 63 59 (.unOp .not 4 (T 62)),Ol 64 (.pick (T 59) (.const (.bool true)) (T 63))])
 (.cond (T 64) (.seq (Rg [6] [Ro 65 (.build [.int .i64 0,.int .i64 0,.int .i64 0] []),Sr 3 6 65,Ac 7 16])
 .ret)
 .skip))
 (.seq (Rg [6,11] [Ro 66 (.load 3 [.int .i64,.int .i64,.int .i64] (T 11)),Sr 3 6 66,Ac 7 0])
 .ret))))))),
 [.agg 6 3 [.int .i64,.int .i64,.int .i64],.tmp 7],
 [(2,⟨none,some [0,1,2,6,15,16],.seq (Rg [0,1,2,6,15,16] [Bc 17 .lss 3 16 .i64 3])
 (.seq (.cond (T 17) .skip
 (.exit 0 (some [0,1,2,6])))
 (.seq (.block 1 (.seq (Rg [0,1,2,6,15,16] [Ol 18 (.index 123 (T 15) (T 16)),As 9 18])
 (.seq (Rg [0,1,2,6,9,15,16] [Mv 19 9,Ol 20 (.binOp .lss 2 (T 19) (.const (.int .i64 (-2000000000000000000))) 2),Mv 21 20,Gf 22 21 (.move (T 9)),Gf 23 21 (.binOp .gtr 2 (T 22) (Ci 2000000000000000000) 2),Ol 24 (.pick (T 21) (.const (.bool true)) (T 23))])
 (.cond (T 24) (.seq (Rg [6] [Ro 25 (.build [.int .i64 0,.int .i64 0,.int .i64 0] []),Sr 3 6 25,Ac 7 2])
 .ret)
 .skip))))
 (Rg [0,1,2,6,15,16] [Bc 26 .add 3 16 .i64 1,Mv 16 26])))⟩)],
 []⟩
theorem r68_ok:resFun (progU ()) hint live 68 Try.f68=some r68:=by kernel_rfl
def r69 : RFun :=
⟨.seq (Rg [0] [Bo 1 3 0,Ol 2 (.assign (.const (.bool false)))])
 (.seq (Rg [1] [Fa 3 0 1,L1 4 3,Bc 5 .eql 2 4 .i64 0,Mv 6 5,Ht 7 6 (.fieldAddr 1 (T 1)),Ht 8 6 (.load1 (.int .i64) (T 7)),Gt 9 6 (.binOp .eql 2 (T 8) (Ci 0) 2),Ol 10 (.pick (T 6) (T 9) (.const (.bool false))),As 2 10])
 .ret),
 [.tmp 2],
 [],
 []⟩
theorem r69_ok:resFun (progU ()) hint live 69 Try.f69=some r69:=by kernel_rfl
def r70 : RFun :=
⟨.seq (Rg [0,1] [Ac 4 0])
 (.seq (.block 0 (.loop 1 (some [0,1]) (some [0,1])))
 (.seq (Rg [0] [Mv 11 0,Mv 12 0,Ol 13 (.unOp .neg 2 (T 12)),⟨some 14,none,.op false (.old (.call ⟨.builtin .max,#[T 11,T 13],#[2,2]⟩))⟩,As 4 14])
 .ret)),
 [.tmp 4],
 [(1,⟨some [0,1],some [0,1],.seq (.seq (Rg [0,1] [Mv 5 1,Bc 6 .neq 2 5 .i64 0])
 (.cond (T 6) .skip
 (.exit 0 (some [0]))))
 (.block 1 (.draw (some [0,1]) 6 [Dr (Mv 7 1) 0 [4,5],Dr (Mv 8 0) 1 [3,4,5],Dr (Mv 9 1) 2 [3,5],Dr (Bt 10 .rem 2 8 9) 3 [5],Dr (As 0 7) 4 [5],Dr (As 1 10) 5 []]))⟩)],
 []⟩
theorem r70_ok:resFun (progU ()) hint live 70 Try.f70=some r70:=by kernel_rfl
def r75 : RFun :=
⟨.seq (Rg [0,1,2] [Nw 6 3 [.int .i64 0,.int .i64 0,.int .i64 0],Ac 7 0])
 (.seq (.seq (Rg [0,1,2,6] [Mv 10 0,Ro 11 (.lenS (T 10)),Ol 12 (.move (Ci 0))])
 (.block 0 (.loop 2 (some [1,2,6,10,11,12]) (some [1,2,6,10,11,12]))))
 (.seq (Rg [6] [Ro 44 (.build [.int .i64 0,.int .i64 0,.int .i64 0] []),Sr 3 6 44,Ac 7 6])
 .ret)),
 [.agg 6 3 [.int .i64,.int .i64,.int .i64],.tmp 7],
 [(2,⟨some [1,2,6,10,11,12],some [1,2,6,10,11,12],.seq (Rg [1,2,6,10,11,12] [Bt 13 .lss 3 12 11])
 (.seq (.cond (T 13) .skip
 (.exit 0 (some [6])))
 (.seq (.block 1 (.seq (Rg [1,2,6,10,11,12] [Ix 14 6 10 12,Ro 15 (.load 6 [.int .i64,.int .i64,.int .i64,.int .i64,.int .i64,.int .i64] (T 14)),Nw 9 6 [.int .i64 0,.int .i64 0,.int .i64 0,.int .i64 0,.int .i64 0,.int .i64 0],Sr 6 9 15])
 (.seq (.seq (Rg [1,2,6,9,10,11,12] [Fa 16 0 9,L1 17 16,Mv 18 1,Bt 19 .eql 3 17 18,Mv 20 19,Ht 21 20 (.fieldAddr 1 (T 9)),Ht 22 20 (.load1 (.int .i64) (T 21)),Gt 23 20 (.move (T 2)),Gt 24 20 (.binOp .eql 3 (T 22) (T 23) 3),Ol 25 (.pick (T 20) (T 24) (.const (.bool false)))])
 (.cond (T 25) (.seq (Rg [6,9] [Fa 26 2 9,Ro 27 (.load 3 [.int .i64,.int .i64,.int .i64] (T 26)),Sr 3 6 27,Ac 7 0])
 .ret)
 .skip))
 (.seq (Rg [1,2,6,9,10,11,12] [Fa 28 0 9,L1 29 28,Mv 30 2,Bt 31 .eql 3 29 30,Mv 32 31,Ht 33 32 (.fieldAddr 1 (T 9)),Ht 34 32 (.load1 (.int .i64) (T 33)),Gt 35 32 (.move (T 1)),Gt 36 32 (.binOp .eql 3 (T 34) (T 35) 3),Ol 37 (.pick (T 32) (T 36) (.const (.bool false)))])
 (.cond (T 37) (.seq (Rg [6,9] [Fa 38 2 9,Ro 39 (.load 3 [.int .i64,.int .i64,.int .i64] (T 38)),Ca 40 48 [T 39] (some (.tup [.agg [.int .i64,.int .i64,.int .i64],.one (.int .i64)])),Ex 41 40 0,Ex 42 40 1,Sr 3 6 41,As 7 42])
 .ret)
 .skip)))))
 (Rg [1,2,6,10,11,12] [Bc 43 .add 3 12 .i64 1,Mv 12 43])))⟩)],
 []⟩
theorem r75_ok:resFun (progU ()) hint live 75 Try.f75=some r75:=by kernel_rfl
def r76 : RFun :=
⟨.seq (Rg [0] [Ol 2 (.assign (.const (.bool false)))])
 (.seq (Rg [0] [Mv 3 0,Ol 4 (.binOp .geq 2 (T 3) (.const (.int .i64 (-1000000000))) 2),Mv 5 4,Gt 6 5 (.move (T 0)),Gt 7 5 (.binOp .leq 2 (T 6) (Ci 1000000000) 2),Ol 8 (.pick (T 5) (T 7) (.const (.bool false))),As 2 8])
 .ret),
 [.tmp 2],
 [],
 []⟩
theorem r76_ok:resFun (progU ()) hint live 76 Try.f76=some r76:=by kernel_rfl
def r77 : RFun :=
⟨.seq (Rg [0,1] [Mv 5 0,Ro 6 (.lenS (T 5)),As 4 6])
 (Rg [0,1,4] [Mv 7 0,Mv 8 4,Mv 9 4,Ro 10 (.convI .u64 (T 9)),Ca 11 83 [T 10] vI,Mv 12 1,Ca 13 82 [T 7,.const (.int .i64 0),T 8,T 11,T 12] (some (.tup []))]),
 [],
 [],
 []⟩
theorem r77_ok:resFun (progU ()) hint live 77 Try.f77=some r77:=by kernel_rfl
def r78 : RFun :=
⟨.seq (Rg [0,1] [Bo 2 2 0,Bo 3 2 1,Ac 4 0])
 (.seq (.draw (some [2,3]) 13 [Dr (Fa 5 0 2) 0 [1,4,9,10,11,12],Db (L1 6 5) 1 5 [4,9,10,11,12],Dr (Fa 7 0 3) 2 [3,4,9,10,11,12],Db (L1 8 7) 3 7 [4,9,10,11,12],Dr (Fa 10 1 2) 5 [6,9,10,11,12],Db (L1 11 10) 6 10 [9,10,11,12],Dr (Fa 12 1 3) 7 [8,9,10,11,12],Db (L1 13 12) 8 12 [9,10,11,12],⟨Ca 9 80 [T 6,T 8] vI,4,.all,[9,10,11,12],false,false⟩,⟨Ca 14 80 [T 11,T 13] vI,9,.all,[10,11,12],false,false⟩,⟨Ro 15 (.buildSlice 1 2 z2 [(0,1,(T 9)),(1,1,(T 14))]),10,.new false,[11,12],false,true⟩,⟨Ca 16 79 [T 15] vI,11,.all,[12],false,false⟩,Dr (As 4 16) 12 []])
 .ret),
 [.tmp 4],
 [],
 []⟩
theorem r78_ok:resFun (progU ()) hint live 78 Try.f78=some r78:=by kernel_rfl
def r79 : RFun :=
⟨.seq (Rg [0] [Ac 2 0])
 (.seq (Rg [0] [Ac 3 0])
 (.seq (.seq (Rg [0,3] [Mv 6 0,Ro 7 (.lenS (T 6)),Ol 8 (.move (Ci 0))])
 (.block 0 (.loop 3 none (some [3,6,7,8]))))
 (.seq (Rg [3] [Mv 17 3,As 2 17])
 .ret))),
 [.tmp 2],
 [(3,⟨none,some [3,6,7,8],.seq (Rg [3,6,7,8] [Bt 9 .lss 3 8 7])
 (.seq (.cond (T 9) .skip
 (.exit 0 (some [3])))
 (.seq (.block 1 (.seq (Rg [3,6,7,8] [Ix 10 1 6 8,L1 11 10,As 5 11])
 (.seq (Rg [3,5,6,7,8] [Mv 12 5,Mv 13 3,Bt 14 .neq 3 12 13])
 (.cond (T 14) (.seq (Rg [5] [Mv 15 5,As 2 15])
 .ret)
 .skip))))
 (Rg [3,6,7,8] [Bc 16 .add 3 8 .i64 1,Mv 8 16])))⟩)],
 []⟩
theorem r79_ok:resFun (progU ()) hint live 79 Try.f79=some r79:=by kernel_rfl
def r80 : RFun :=
⟨.seq (Rg [0,1] [Ac 4 0])
 (.seq (Rg [0,1] [Mv 7 0,Ca 8 84 [T 7] vB,As 5 8])
 (.seq (Rg [0,1,5] [Mv 9 1,Ca 10 84 [T 9] vB,As 6 10])
 (.seq (.seq (Rg [0,1,5,6] [Mv 11 5])
 (.cond (T 11) (.seq (.seq (Rg [6] [Mv 12 6])
 (.cond (T 12) (.seq (Rg [] [Ac 4 0])
 .ret)
 .skip))
 (.seq (Rg [] [Ol 4 (.assign (.const (.int .i64 (-1))))])
 .ret))
 .skip))
 (.seq (.seq (Rg [0,1,6] [Mv 13 6])
 (.cond (T 13) (.seq (Rg [] [Ac 4 1])
 .ret)
 .skip))
 (.seq (.seq (Rg [0,1] [Mv 14 0,Mv 15 1,Bt 16 .lss 3 14 15])
 (.cond (T 16) (.seq (Rg [] [Ol 4 (.assign (.const (.int .i64 (-1))))])
 .ret)
 .skip))
 (.seq (.seq (Rg [0,1] [Mv 17 0,Mv 18 1,Bt 19 .gtr 3 17 18])
 (.cond (T 19) (.seq (Rg [] [Ac 4 1])
 .ret)
 .skip))
 (.seq (Rg [] [Ac 4 0])
 .ret))))))),
 [.tmp 4],
 [],
 []⟩
theorem r80_ok:resFun (progU ()) hint live 80 Try.f80=some r80:=by kernel_rfl
def r81 : RFun :=
⟨.seq (Rg [0,1] [Ro 5 (.load1 .slice (T 1)),Ro 6 (.lenS (T 5)),Ol 7 (.move (Ci 0))])
 (.block 0 (.loop 1 (some [0,5,6,7]) (some [0,5,6,7]))),
 [],
 [(1,⟨some [0,5,6,7],some [0,5,6,7],.seq (Rg [0,5,6,7] [Bt 8 .lss 3 7 6])
 (.seq (.cond (T 8) .skip
 (.exit 0 (some [])))
 (.seq (.block 1 (.seq (Rg [0,5,6,7] [Ix 9 2 5 7,Ld 10 9,Nw 4 2 z2,Sr 2 4 10])
 (.seq (Rg [0,4,5,6,7] [Mv 11 0,Ld 12 4,⟨some 13,none,.call (T 11) [T 12] vB⟩,Ol 14 (.unOp .not 4 (T 13))])
 (.cond (T 14) .ret
 .skip))))
 (Rg [0,5,6,7] [Bc 15 .add 3 7 .i64 1,Mv 7 15])))⟩)],
 []⟩
theorem r81_ok:resFun (progU ()) hint live 81 Try.f81=some r81:=by kernel_rfl
