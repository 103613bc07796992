import Derived.Test.YtlimjlpjldijdaaSeat0
import Derived.Test.YtlimjlpjldijdaaSymS
set_option linter.unusedSimpArgs false
set_option linter.unusedVariables false
namespace Go.Proofs.Ytlimjlpjldijdaa
open Go.Sim
set_option maxRecDepth 100000
def r59 : RFun :=
⟨.seq (Rg [0,1] [Ol 4 (.assign (.const (.bool false)))])
 (.seq (.seq (Rg [0,1] [Mv 7 0,Ro 8 (.lenS (T 7)),Mv 9 1,Ro 10 (.lenS (T 9)),Bt 11 .neq 3 8 10])
 (.cond (T 11) (.seq (Rg [] [Ol 4 (.assign (.const (.bool false)))])
 .ret)
 .skip))
 (.seq (.seq (Rg [0,1] [Mv 12 0,Ro 13 (.lenS (T 12)),Ol 14 (.move (Ci 0))])
 (.block 0 (.loop 4 (some [1,12,13,14]) (some [1,12,13,14]))))
 (.seq (Rg [] [Ol 4 (.assign (.const (.bool true)))])
 .ret))),
 [.tmp 4],
 [(4,⟨some [1,12,13,14],some [1,12,13,14],.seq (Rg [1,12,13,14] [Bt 15 .lss 3 14 13])
 (.seq (.cond (T 15) .skip
 (.exit 0 (some [])))
 (.seq (.block 1 (.seq (Rg [1,12,13,14] [Mv 16 14,Ix 17 6 12 14,Ro 18 (.load 6 [.int .i64,.int .i64,.int .i64,.int .i64,.int .i64,.int .i64] (T 17)),Nw 6 6 [.int .i64 0,.int .i64 0,.int .i64 0,.int .i64 0,.int .i64 0,.int .i64 0],As 5 16,Sr 6 6 18])
 (.seq (.draw (some [1,5,6,12,13,14]) 18 [Dr (Fa 19 0 6) 0 [1,7,8,9,10,11,12,13,14,15,16,17],Db (L1 20 19) 1 19 [7,8,9,10,11,12,13,14,15,16,17],Dr (Mv 21 1) 2 [4,5,6,7,8,9,10,11,12,13,14,15,16,17],Dr (Mv 22 5) 3 [4,5,6,7,8,9,10,11,12,13,14,15,16,17],Dr (Ix 23 6 21 22) 4 [5,6,7,8,9,10,11,12,13,14,15,16,17],Dr (Fa 24 0 23) 5 [6,7,8,9,10,11,12,13,14,15,16,17],Db (L1 25 24) 6 24 [7,8,9,10,11,12,13,14,15,16,17],Dr (Bt 26 .neq 3 20 25) 7 [8,9,10,11,12,13,14,15,16,17],Dr (Mv 27 26) 8 [9,10,11,12,13,14,15,16,17],⟨Hf 28 27 (.fieldAddr 1 (T 6)),9,.none,[10,16,17],false,true⟩,⟨Hf 29 27 (.load1 (.int .i64) (T 28)),10,.blk (T 28),[16,17],false,true⟩,⟨Gf 30 27 (.move (T 1)),11,.none,[13,14,15,16,17],false,true⟩,⟨Gf 31 27 (.move (T 5)),12,.none,[13,14,15,16,17],false,true⟩,⟨Hf 32 27 (.ixS 6 (T 30) (T 31)),13,.none,[14,15,16,17],false,true⟩,⟨Hf 33 27 (.fieldAddr 1 (T 32)),14,.none,[15,16,17],false,true⟩,⟨Hf 34 27 (.load1 (.int .i64) (T 33)),15,.blk (T 33),[16,17],false,true⟩,⟨Gf 35 27 (.binOp .neq 3 (T 29) (T 34) 3),16,.none,[17],false,true⟩,Dr (Ol 36 (.pick (T 27) (.const (.bool true)) (T 35))) 17 []])
 (.cond (T 36) (.seq (Rg [] [Ol 4 (.assign (.const (.bool false)))])
 .ret)
 .skip))))
 (Rg [1,12,13,14] [Bc 37 .add 3 14 .i64 1,Mv 14 37])))⟩)],
 []⟩
theorem r59_ok:resFun (progU ()) hint live 59 Try.f59=some r59:=by kernel_rfl
def r60 : RFun :=
⟨.seq (Rg [0] [Bo 1 8 0,Ol 2 (.assign (.const (.bool false)))])
 (.seq (.seq (Rg [1] [Fa 3 1 1,L1 4 3,Bc 5 .lss 3 4 .i64 0,Mv 6 5,Hf 7 6 (.fieldAddr 1 (T 1)),Hf 8 6 (.load1 (.int .i64) (T 7)),Gf 9 6 (.binOp .geq 3 (T 8) (Ci 8) 3),Ol 10 (.pick (T 6) (.const (.bool true)) (T 9))])
 (.cond (T 10) (.seq (Rg [] [Ol 2 (.assign (.const (.bool false)))])
 .ret)
 .skip))
 (.seq (.seq (Rg [1] [Fa 11 2 1,L1 12 11,Bc 13 .lss 3 12 .i64 0,Mv 14 13,Hf 15 14 (.fieldAddr 3 (T 1)),Hf 16 14 (.load1 (.int .i64) (T 15)),Hf 17 14 (.fieldAddr 2 (T 1)),Hf 18 14 (.load1 (.int .i64) (T 17)),Gf 19 14 (.binOp .lss 3 (T 16) (T 18) 3),Ol 20 (.pick (T 14) (.const (.bool true)) (T 19)),Mv 21 20,Hf 22 21 (.fieldAddr 3 (T 1)),Hf 23 21 (.load1 (.int .i64) (T 22)),Gf 24 21 (.binOp .gtr 3 (T 23) (Ci 32) 3),Ol 25 (.pick (T 21) (.const (.bool true)) (T 24))])
 (.cond (T 25) (.seq (Rg [] [Ol 2 (.assign (.const (.bool false)))])
 .ret)
 .skip))
 (.seq (.seq (Rg [1] [Fa 26 0 1,Ro 27 (.load1 (.int .u8) (T 26))])
 (.block 0 (.seq (Rg [1,27] [Bc 29 .eql 5 27 .u8 1,As 28 29])
 (.cond (T 28) (.seq (Rg [1] [Fa 30 7 1,L1 31 30,Bc 32 .eql 3 31 .i64 0,Mv 33 32,Ht 34 33 (.fieldAddr 4 (T 1)),Ht 35 33 (.load 3 [.int .i64,.int .i64,.int .i64] (T 34)),⟨some 36,some (33,true),.call (.func 42) [T 35] vI⟩,Gt 37 33 (.binOp .eql 33 (T 36) (Ci 0) 33),Ol 38 (.pick (T 33) (T 37) (.const (.bool false))),Mv 39 38,Ht 40 39 (.fieldAddr 4 (T 1)),Ht 41 39 (.fieldAddr 0 (T 40)),Ht 42 39 (.load1 (.int .i64) (T 41)),Gt 43 39 (.binOp .neq 2 (T 42) (Ci 0) 2),Gt 44 39 (.move (T 43)),Hf 45 44 (.fieldAddr 4 (T 1)),Hf 46 44 (.fieldAddr 1 (T 45)),Hf 47 44 (.load1 (.int .i64) (T 46)),Gf 48 44 (.binOp .neq 2 (T 47) (Ci 0) 2),Gt 49 39 (.pick (T 44) (.const (.bool true)) (T 48)),Ol 50 (.pick (T 39) (T 49) (.const (.bool false))),As 2 50])
 .ret)
 (.seq (.seq (Rg [1,27] [Bc 52 .eql 5 27 .u8 2,As 51 52])
 (.cond (T 51) .skip
 (Rg [1,27] [Bc 53 .eql 5 27 .u8 3,As 51 53])))
 (.cond (T 51) (.seq (Rg [1] [Fa 54 4 1,Ro 55 (.load 3 [.int .i64,.int .i64,.int .i64] (T 54)),Ro 56 (.build [.int .i64 0,.int .i64 0,.int .i64 0] []),Bt 57 .eql 30 55 56,Mv 58 57,Ht 59 58 (.fieldAddr 7 (T 1)),Ht 60 58 (.load1 (.int .i64) (T 59)),Gt 61 58 (.binOp .geq 3 (T 60) (Ci 0) 3),Ol 62 (.pick (T 58) (T 61) (.const (.bool false))),Mv 63 62,Ht 64 63 (.fieldAddr 7 (T 1)),Ht 65 63 (.load1 (.int .i64) (T 64)),Gt 66 63 (.binOp .leq 3 (T 65) (Ci 3) 3),Ol 67 (.pick (T 63) (T 66) (.const (.bool false))),As 2 67])
 .ret)
 .skip))))))
 (.seq (Rg [] [Ol 2 (.assign (.const (.bool false)))])
 .ret)))),
 [.tmp 2],
 [],
 []⟩
theorem r60_ok:resFun (progU ()) hint live 60 Try.f60=some r60:=by kernel_rfl
def r61 : RFun :=
⟨.seq (Rg [0,1] [Bo 2 8 0,Nw 4 3 [.int .i64 0,.int .i64 0,.int .i64 0],Ac 5 0])
 (.seq (Rg [1,2,4] [Ro 7 (.build [.int .i64 0,.int .i64 0,.int .i64 0] [(0,1,(Ci 1)),(2,1,(Ci 1))]),Nw 6 3 [.int .i64 0,.int .i64 0,.int .i64 0],Sr 3 6 7])
 (.seq (.seq (Rg [1,2,4,6] [Mv 8 1,Fa 9 2 2,L1 10 9,Bt 11 .lss 3 8 10,Mv 12 11,Gf 13 12 (.move (T 1)),Hf 14 12 (.fieldAddr 3 (T 2)),Hf 15 12 (.load1 (.int .i64) (T 14)),Gf 16 12 (.binOp .geq 3 (T 13) (T 15) 3),Ol 17 (.pick (T 12) (.const (.bool true)) (T 16))])
 (.cond (T 17) (.seq (Rg [4,6] [Ro 18 (.load 3 [.int .i64,.int .i64,.int .i64] (T 6)),Sr 3 4 18,Ac 5 0])
 .ret)
 .skip))
 (.seq (.seq (Rg [1,2,4,6] [Fa 19 0 2,Ro 20 (.load1 (.int .u8) (T 19))])
 (.block 0 (.seq (Rg [1,2,4,6,20] [Bc 22 .eql 5 20 .u8 1,As 21 22])
 (.cond (T 21) (.seq (Rg [2,4] [Fa 23 4 2,Ro 24 (.load 3 [.int .i64,.int .i64,.int .i64] (T 23)),Sr 3 4 24,Ac 5 0])
 .ret)
 (.seq (Rg [1,2,4,6,20] [Bc 26 .eql 5 20 .u8 2,As 25 26])
 (.cond (T 25) (.seq (Rg [2,4,6] [Ro 27 (.load 3 [.int .i64,.int .i64,.int .i64] (T 6)),Fa 28 7 2,L1 29 28,Ca 30 71 [T 27,T 29] (some (.tup [.agg [.int .i64,.int .i64,.int .i64],.one (.int .i64)])),Ex 31 30 0,Ex 32 30 1,Sr 3 4 31,As 5 32])
 .ret)
 .skip))))))
 (.seq (Rg [1,2,4,6] [Ro 33 (.load 3 [.int .i64,.int .i64,.int .i64] (T 6)),Fa 34 7 2,L1 35 34,Mv 36 1,Fa 37 2 2,L1 38 37,Bt 39 .sub 3 36 38,Bt 40 .mul 3 35 39,Ca 41 71 [T 33,T 40] (some (.tup [.agg [.int .i64,.int .i64,.int .i64],.one (.int .i64)])),Ex 42 41 0,Ex 43 41 1,Sr 3 4 42,As 5 43])
 .ret)))),
 [.agg 4 3 [.int .i64,.int .i64,.int .i64],.tmp 5],
 [],
 []⟩
theorem r61_ok:resFun (progU ()) hint live 61 Try.f61=some r61:=by kernel_rfl
def r62 : RFun :=
⟨.seq (Rg [0] [Ol 2 (.assign (.const (.bool false)))])
 (.seq (Rg [0] [Mv 3 0,Bc 4 .geq 3 3 .i64 0,Mv 5 4,Gt 6 5 (.move (T 0)),Gt 7 5 (.binOp .lss 3 (T 6) (Ci 8) 3),Ol 8 (.pick (T 5) (T 7) (.const (.bool false))),As 2 8])
 .ret),
 [.tmp 2],
 [],
 []⟩
theorem r62_ok:resFun (progU ()) hint live 62 Try.f62=some r62:=by kernel_rfl
def r63 : RFun :=
⟨.seq (Rg [0,1] [Mv 5 0,Ro 6 (.lenS (T 5)),As 4 6])
 (Rg [0,1,4] [Mv 7 0,Mv 8 4,Mv 9 4,Ro 10 (.convI .u64 (T 9)),Ca 11 73 [T 10] vI,Mv 12 1,Ca 13 72 [T 7,.const (.int .i64 0),T 8,T 11,T 12] (some (.tup []))]),
 [],
 [],
 []⟩
theorem r63_ok:resFun (progU ()) hint live 63 Try.f63=some r63:=by kernel_rfl
def r64 : RFun :=
⟨.seq (Rg [0,1] [Bo 2 2 0,Bo 3 2 1,Ac 4 0])
 (.seq (.draw (some [2,3]) 13 [Dr (Fa 5 0 2) 0 [1,4,9,10,11,12],Db (L1 6 5) 1 5 [4,9,10,11,12],Dr (Fa 7 0 3) 2 [3,4,9,10,11,12],Db (L1 8 7) 3 7 [4,9,10,11,12],Dr (Fa 10 1 2) 5 [6,9,10,11,12],Db (L1 11 10) 6 10 [9,10,11,12],Dr (Fa 12 1 3) 7 [8,9,10,11,12],Db (L1 13 12) 8 12 [9,10,11,12],⟨Ca 9 66 [T 6,T 8] vI,4,.all,[9,10,11,12],false,false⟩,⟨Ca 14 66 [T 11,T 13] vI,9,.all,[10,11,12],false,false⟩,⟨Ro 15 (.buildSlice 1 2 z2 [(0,1,(T 9)),(1,1,(T 14))]),10,.new false,[11,12],false,true⟩,⟨Ca 16 65 [T 15] vI,11,.all,[12],false,false⟩,Dr (As 4 16) 12 []])
 .ret),
 [.tmp 4],
 [],
 []⟩
theorem r64_ok:resFun (progU ()) hint live 64 Try.f64=some r64:=by kernel_rfl
def r65 : RFun :=
⟨.seq (Rg [0] [Ac 2 0])
 (.seq (Rg [0] [Ac 3 0])
 (.seq (.seq (Rg [0,3] [Mv 6 0,Ro 7 (.lenS (T 6)),Ol 8 (.move (Ci 0))])
 (.block 0 (.loop 3 none (some [3,6,7,8]))))
 (.seq (Rg [3] [Mv 17 3,As 2 17])
 .ret))),
 [.tmp 2],
 [(3,⟨none,some [3,6,7,8],.seq (Rg [3,6,7,8] [Bt 9 .lss 3 8 7])
 (.seq (.cond (T 9) .skip
 (.exit 0 (some [3])))
 (.seq (.block 1 (.seq (Rg [3,6,7,8] [Ix 10 1 6 8,L1 11 10,As 5 11])
 (.seq (Rg [3,5,6,7,8] [Mv 12 5,Mv 13 3,Bt 14 .neq 3 12 13])
 (.cond (T 14) (.seq (Rg [5] [Mv 15 5,As 2 15])
 .ret)
 .skip))))
 (Rg [3,6,7,8] [Bc 16 .add 3 8 .i64 1,Mv 8 16])))⟩)],
 []⟩
theorem r65_ok:resFun (progU ()) hint live 65 Try.f65=some r65:=by kernel_rfl
def r66 : RFun :=
⟨.seq (Rg [0,1] [Ac 4 0])
 (.seq (Rg [0,1] [Mv 7 0,Ca 8 74 [T 7] vB,As 5 8])
 (.seq (Rg [0,1,5] [Mv 9 1,Ca 10 74 [T 9] vB,As 6 10])
 (.seq (.seq (Rg [0,1,5,6] [Mv 11 5])
 (.cond (T 11) (.seq (.seq (Rg [6] [Mv 12 6])
 (.cond (T 12) (.seq (Rg [] [Ac 4 0])
 .ret)
 .skip))
 (.seq (Rg [] [Ol 4 (.assign (.const (.int .i64 (-1))))])
 .ret))
 .skip))
 (.seq (.seq (Rg [0,1,6] [Mv 13 6])
 (.cond (T 13) (.seq (Rg [] [Ac 4 1])
 .ret)
 .skip))
 (.seq (.seq (Rg [0,1] [Mv 14 0,Mv 15 1,Bt 16 .lss 3 14 15])
 (.cond (T 16) (.seq (Rg [] [Ol 4 (.assign (.const (.int .i64 (-1))))])
 .ret)
 .skip))
 (.seq (.seq (Rg [0,1] [Mv 17 0,Mv 18 1,Bt 19 .gtr 3 17 18])
 (.cond (T 19) (.seq (Rg [] [Ac 4 1])
 .ret)
 .skip))
 (.seq (Rg [] [Ac 4 0])
 .ret))))))),
 [.tmp 4],
 [],
 []⟩
theorem r66_ok:resFun (progU ()) hint live 66 Try.f66=some r66:=by kernel_rfl
def r67 : RFun :=
⟨.seq (Rg [0,1] [Ro 5 (.load1 .slice (T 1)),Ro 6 (.lenS (T 5)),Ol 7 (.move (Ci 0))])
 (.block 0 (.loop 1 (some [0,5,6,7]) (some [0,5,6,7]))),
 [],
 [(1,⟨some [0,5,6,7],some [0,5,6,7],.seq (Rg [0,5,6,7] [Bt 8 .lss 3 7 6])
 (.seq (.cond (T 8) .skip
 (.exit 0 (some [])))
 (.seq (.block 1 (.seq (Rg [0,5,6,7] [Ix 9 2 5 7,Ld 10 9,Nw 4 2 z2,Sr 2 4 10])
 (.seq (Rg [0,4,5,6,7] [Mv 11 0,Ld 12 4,⟨some 13,none,.call (T 11) [T 12] vB⟩,Ol 14 (.unOp .not 4 (T 13))])
 (.cond (T 14) .ret
 .skip))))
 (Rg [0,5,6,7] [Bc 15 .add 3 7 .i64 1,Mv 7 15])))⟩)],
 []⟩
theorem r67_ok:resFun (progU ()) hint live 67 Try.f67=some r67:=by kernel_rfl
def r68 : RFun :=
⟨.seq (Rg [0] [Ol 2 (.assign (.const (.map none)))])
 (.seq (Rg [0] [Ol 6 (.makeMap 114 none),As 3 6])
 (.seq (.seq (Rg [0,3] [Mv 7 0,Ro 8 (.lenS (T 7)),Ol 9 (.move (Ci 0))])
 (.block 0 (.loop 3 (some [3,7,8,9]) (some [3,7,8,9]))))
 (.seq (Rg [3] [Mv 20 3,As 2 20])
 .ret))),
 [.tmp 2],
 [(3,⟨some [3,7,8,9],some [3,7,8,9],.seq (Rg [3,7,8,9] [Bt 10 .lss 3 9 8])
 (.seq (.cond (T 10) .skip
 (.exit 0 (some [3])))
 (.seq (.block 1 (.seq (Rg [3,7,8,9] [Ix 11 6 7 9,Ro 12 (.load 6 [.int .i64,.int .i64,.int .i64,.int .i64,.int .i64,.int .i64] (T 11)),Nw 5 6 [.int .i64 0,.int .i64 0,.int .i64 0,.int .i64 0,.int .i64 0,.int .i64 0],Sr 6 5 12])
 (.seq (Rg [3,5,7,8,9] [Mv 13 3,Fa 14 0 5,L1 15 14,⟨none,none,.op false (.old (.mapUpdate 114 (T 13) (T 15) (.const (.bool false))))⟩])
 (Rg [3,5,7,8,9] [Mv 16 3,Fa 17 1 5,L1 18 17,⟨none,none,.op false (.old (.mapUpdate 114 (T 16) (T 18) (.const (.bool false))))⟩]))))
 (Rg [3,7,8,9] [Bc 19 .add 3 9 .i64 1,Mv 9 19])))⟩)],
 []⟩
theorem r68_ok:resFun (progU ()) hint live 68 Try.f68=some r68:=by kernel_rfl
def r70 : RFun :=
⟨.seq (Rg [0,1] [Ro 3 (.box 1 (T 1)),Ro 4 (.new 2 z2),Ro 5 (.new 1 [.bool false])])
 (.seq (.seq (Rg [0,3,4,5] [Mv 7 0,Ca 8 57 [T 7] (some (.val (.one .any)))])
 (.block 0 (.range 2)))
 (.seq (Rg [4,5] [Ro 20 (.build z2 []),Sr 2 4 20,⟨none,none,.op false (.store 1 (T 5) (.const (.bool false)))⟩])
 .ret)),
 [.agg 4 2 [.int .i64,.int .i64],.one 5 .bool],
 [],
 [(2,⟨T 8,[9],Rg [3,4,5,9] [Ro 6 (.new 2 z2),Sr 2 6 9],.block 1 (.seq (Rg [3,4,5,6] [Ro 10 (.load1 .any (T 3)),Fa 11 0 6,L1 12 11,Ol 13 (.lookup 114 (T 10) (T 12) false),Ro 14 (.load1 .any (T 3)),Fa 15 1 6,L1 16 15,Ol 17 (.lookup 114 (T 14) (T 16) false),Bt 18 .neq 4 13 17])
 (.cond (T 18) (.seq (Rg [4,5,6] [Ld 19 6,Sr 2 4 19,⟨none,none,.op false (.store 1 (T 5) (.const (.bool true)))⟩])
 .ret)
 .skip))⟩)]⟩
theorem r70_ok:resFun (progU ()) hint live 70 Try.f70=some r70:=by kernel_rfl
def r71 : RFun :=
⟨.seq (Rg [0,1] [Bo 2 3 0,Nw 4 3 [.int .i64 0,.int .i64 0,.int .i64 0],Ac 5 0])
 (.seq (.seq (Rg [1,2,4] [Ro 7 (.load 3 [.int .i64,.int .i64,.int .i64] (T 2)),Ca 8 42 [T 7] vI,As 6 8])
 (.seq (Rg [1,2,4,6] [Mv 9 6,Bc 10 .neq 33 9 .i64 0])
 (.cond (T 10) (.seq (Rg [4,6] [Ro 11 (.build [.int .i64 0,.int .i64 0,.int .i64 0] []),Mv 12 6,Sr 3 4 11,As 5 12])
 .ret)
 .skip)))
 (.seq (.seq (Rg [1,2,4] [Mv 13 1,Bc 14 .rem 3 13 .i64 4,Bc 15 .add 3 14 .i64 4,Bc 16 .rem 3 15 .i64 4,Ol 17 (.move (Ci 0))])
 (.block 0 (.loop 5 none (some [2,4,16,17]))))
 (.seq (Rg [2,4] [Ro 27 (.load 3 [.int .i64,.int .i64,.int .i64] (T 2)),Sr 3 4 27,Ac 5 0])
 .ret))),
 [.agg 4 3 [.int .i64,.int .i64,.int .i64],.tmp 5],
 [(5,⟨none,some [2,4,16,17],.seq (Rg [2,4,16,17] [Bt 18 .lss 3 17 16])
 (.seq (.cond (T 18) .skip
 (.exit 0 (some [2,4])))
 (.seq (.block 1 (Rg [2,4,16,17] [Fa 19 1 2,L1 20 19,Ol 21 (.unOp .neg 2 (T 20)),Fa 22 0 2,L1 23 22,Fa 24 0 2,Sr 1 24 21,Fa 25 1 2,Sr 1 25 23]))
 (Rg [2,4,16,17] [Bc 26 .add 3 17 .i64 1,Mv 17 26])))⟩)],
 []⟩
theorem r71_ok:resFun (progU ()) hint live 71 Try.f71=some r71:=by kernel_rfl
def r72 : RFun :=
⟨.seq (Rg [0,1,2,3,4] [Ol 10 (.assign (.const (.bool true)))])
 (.seq (Rg [0,1,2,3,4,10] [Ol 11 (.assign (.const (.bool true)))])
 (.block 0 (.loop 2 (some [0,1,2,3,4,10,11]) (some [0,1,2,3,4,10,11])))),
 [],
 [(2,⟨some [0,1,2,3,4,10,11],some [0,1,2,3,4,10,11],.block 1 (.seq (Rg [0,1,2,3,4,10,11] [Mv 21 2,Mv 22 1,Bt 23 .sub 3 21 22,As 12 23])
 (.seq (.seq (Rg [0,1,2,3,4,10,11,12] [Mv 24 12,Bc 25 .leq 3 24 .i64 12])
 (.cond (T 25) (.seq (Rg [0,1,2,4] [Mv 26 0,Mv 27 1,Mv 28 2,Mv 29 4,Ca 30 75 [T 26,T 27,T 28,T 29] (some (.tup []))])
 .ret)
 .skip))
 (.seq (.seq (Rg [0,1,2,3,4,10,11,12] [Mv 31 3,Bc 32 .eql 3 31 .i64 0])
 (.cond (T 32) (.seq (Rg [0,1,2,4] [Mv 33 0,Mv 34 1,Mv 35 2,Mv 36 4,Ca 37 76 [T 33,T 34,T 35,T 36] (some (.tup []))])
 .ret)
 .skip))
 (.seq (.seq (Rg [0,1,2,3,4,10,11,12] [Mv 38 10,Ol 39 (.unOp .not 4 (T 38))])
 (.cond (T 39) (.seq (Rg [0,1,2,3,4,10,11,12] [Mv 40 0,Mv 41 1,Mv 42 2,Mv 43 4,Ca 44 77 [T 40,T 41,T 42,T 43] (some (.tup []))])
 (Rg [0,1,2,3,4,10,11,12] [Mv 45 3,Bc 46 .sub 3 45 .i64 1,As 3 46]))
 .skip))
 (.seq (Rg [0,1,2,3,4,10,11,12] [Mv 48 0,Mv 49 1,Mv 50 2,Mv 51 4,Ca 52 78 [T 48,T 49,T 50,T 51] (some (.tup [.one (.int .i64),.one (.int .i64)])),Mv 47 52,Ex 53 47 0,Ex 54 47 1,As 13 53,As 14 54])
 (.seq (.seq (Rg [0,1,2,3,4,10,11,12,13,14] [Mv 55 14,Bc 56 .eql 124 55 .i64 2])
 (.cond (T 56) (.seq (Rg [0,1,2,3,4,10,11,12,13] [Mv 57 0,Mv 58 1,Mv 59 2,Mv 60 4,Ca 61 79 [T 57,T 58,T 59,T 60] (some (.tup []))])
 (.seq (Rg [0,1,2,3,4,10,11,12,13] [Mv 62 2,Bc 63 .sub 3 62 .i64 1,Mv 64 13,Mv 65 1,Bt 66 .sub 3 64 65,Bt 67 .sub 3 63 66,As 13 67])
 (Rg [0,1,2,3,4,10,11,12,13] [Ac 14 1])))
 .skip))
 (.seq (.seq (Rg [0,1,2,3,4,10,11,12,13,14] [Mv 68 10,Mv 69 68,Gt 70 69 (.move (T 11)),Ol 71 (.pick (T 69) (T 70) (.const (.bool false))),Mv 72 71,Gt 73 72 (.move (T 14)),Gt 74 72 (.binOp .eql 124 (T 73) (Ci 1) 124),Ol 75 (.pick (T 72) (T 74) (.const (.bool false)))])
 (.cond (T 75) (.seq (Rg [0,1,2,3,4,10,11,12,13] [Mv 76 0,Mv 77 1,Mv 78 2,Mv 79 4,Ca 80 80 [T 76,T 77,T 78,T 79] vB])
 (.cond (T 80) .ret
 .skip))
 .skip))
 (.seq (.seq (.draw (some [0,1,2,3,4,10,11,12,13]) 17 [Dr (Mv 81 1) 0 [1,2,3,4,5,6,7,8,9,10,11,12,13,14,15,16],Dr (Bc 82 .gtr 3 81 .i64 0) 1 [2,3,4,5,6,7,8,9,10,11,12,13,14,15,16],Dr (Mv 83 82) 2 [3,4,5,6,7,8,9,10,11,12,13,14,15,16],⟨Gt 84 83 (.move (T 4)),3,.none,[13,14,15,16],false,true⟩,⟨Gt 85 83 (.move (T 0)),4,.none,[7,8,13,14,15,16],false,true⟩,⟨Gt 86 83 (.move (T 1)),5,.none,[6,7,8,13,14,15,16],false,true⟩,⟨Gt 87 83 (.binOp .sub 3 (T 86) (Ci 1) 3),6,.none,[7,8,13,14,15,16],false,true⟩,⟨Ht 88 83 (.ixS 2 (T 85) (T 87)),7,.none,[8,13,14,15,16],false,true⟩,⟨Ht 89 83 (.load 2 s2 (T 88)),8,.blk (T 88),[13,14,15,16],false,true⟩,⟨Gt 90 83 (.move (T 0)),9,.none,[11,12,13,14,15,16],false,true⟩,⟨Gt 91 83 (.move (T 13)),10,.none,[11,12,13,14,15,16],false,true⟩,⟨Ht 92 83 (.ixS 2 (T 90) (T 91)),11,.none,[12,13,14,15,16],false,true⟩,⟨Ht 93 83 (.load 2 s2 (T 92)),12,.blk (T 92),[13,14,15,16],false,true⟩,⟨⟨some 94,some (83,true),.call (T 84) [T 89,T 93] vI⟩,13,.all,[14,15,16],false,false⟩,⟨Gt 95 83 (.binOp .lss 3 (T 94) (Ci 0) 3),14,.none,[15,16],false,true⟩,⟨Gt 96 83 (.unOp .not 4 (T 95)),15,.none,[16],false,true⟩,Dr (Ol 97 (.pick (T 83) (T 96) (.const (.bool false)))) 16 []])
 (.cond (T 97) (.seq (Rg [0,1,2,3,4,10,11,13] [Mv 98 0,Mv 99 1,Mv 100 2,Mv 101 13,Mv 102 4,Ca 103 81 [T 98,T 99,T 100,T 101,T 102] vI,As 15 103])
 (.seq (Rg [0,2,3,4,10,11,15] [Mv 104 15,As 1 104])
 (.exit 1 (some [0,1,2,3,4,10,11]))))
 .skip))
 (.seq (Rg [0,1,2,3,4,12,13] [Mv 106 0,Mv 107 1,Mv 108 2,Mv 109 13,Mv 110 4,Ca 111 82 [T 106,T 107,T 108,T 109,T 110] (some (.tup [.one (.int .i64),.one .bool])),Mv 105 111,Ex 112 105 0,Ex 113 105 1,As 16 112,As 17 113])
 (.seq (Rg [0,1,2,3,4,12,16,17] [Mv 114 17,As 11 114])
 (.seq (Rg [0,1,2,3,4,11,12,16] [Mv 115 16,Mv 116 1,Bt 117 .sub 3 115 116,Mv 118 2,Mv 119 16,Bt 120 .sub 3 118 119,As 18 117,As 19 120])
 (.seq (Rg [0,1,2,3,4,11,12,16,18,19] [Mv 121 12,Bc 122 .quo 3 121 .i64 8,As 20 122])
 (.seq (Rg [0,1,2,3,4,11,16,18,19,20] [Mv 123 18,Mv 124 19,Bt 125 .lss 3 123 124])
 (.cond (T 125) (.seq (Rg [0,1,2,3,4,11,16,18,20] [Mv 126 18,Mv 127 20,Bt 128 .geq 3 126 127,As 10 128])
 (.seq (Rg [0,1,2,3,4,10,11,16] [Mv 129 0,Mv 130 1,Mv 131 16,Mv 132 3,Mv 133 4,Ca 134 72 [T 129,T 130,T 131,T 132,T 133] (some (.tup []))])
 (Rg [0,2,3,4,10,11,16] [Mv 135 16,Bc 136 .add 3 135 .i64 1,As 1 136])))
 (.seq (Rg [0,1,2,3,4,11,16,19,20] [Mv 137 19,Mv 138 20,Bt 139 .geq 3 137 138,As 10 139])
 (.seq (Rg [0,1,2,3,4,10,11,16] [Mv 140 0,Mv 141 16,Bc 142 .add 3 141 .i64 1,Mv 143 2,Mv 144 3,Mv 145 4,Ca 146 72 [T 140,T 142,T 143,T 144,T 145] (some (.tup []))])
 (Rg [0,1,3,4,10,11,16] [Mv 147 16,As 2 147])))))))))))))))))⟩)],
 []⟩
theorem r72_ok:resFun (progU ()) hint live 72 Try.f72=some r72:=by kernel_rfl
def r73 : RFun :=
⟨.seq (Rg [0] [Ac 2 0])
 (.seq (.cond (.const (.bool false)) (.seq (Rg [0] [Mv 3 0,Ro 4 (.convI .u32 (T 3)),Ca 5 83 [T 4] vI,As 2 5])
 .ret)
 .skip)
 (.seq (Rg [0] [Mv 6 0,Ca 7 84 [T 6] vI,As 2 7])
 .ret)),
 [.tmp 2],
 [],
 []⟩
theorem r73_ok:resFun (progU ()) hint live 73 Try.f73=some r73:=by kernel_rfl
def r74 : RFun :=
⟨.seq (Rg [0] [Ol 2 (.assign (.const (.bool false)))])
 (.seq (Rg [0] [Mv 3 0,Mv 4 0,Bt 5 .neq 3 3 4,As 2 5])
 .ret),
 [.tmp 2],
 [],
 []⟩
theorem r74_ok:resFun (progU ()) hint live 74 Try.f74=some r74:=by kernel_rfl
def r75 : RFun :=
⟨.seq (Rg [0,1,2,3] [Mv 10 1,Bc 11 .add 3 10 .i64 1,As 8 11])
 (.block 0 (.loop 1 (some [0,1,2,3,8]) (some [0,1,2,3,8]))),
 [],
 [(1,⟨some [0,1,2,3,8],some [0,1,2,3,8],.seq (.seq (Rg [0,1,2,3,8] [Mv 12 8,Mv 13 2,Bt 14 .lss 3 12 13])
 (.cond (T 14) .skip
 (.exit 0 (some []))))
 (.seq (.block 1 (.seq (Rg [0,1,2,3,8] [Mv 17 8,As 9 17])
 (.block 2 (.loop 4 (some [0,1,2,3,8,9]) (some [0,1,2,3,8,9])))))
 (Rg [0,1,2,3,8] [Mv 15 8,Bc 16 .add 3 15 .i64 1,As 8 16]))⟩),(4,⟨some [0,1,2,3,8,9],some [0,1,2,3,8,9],.seq (.seq (.draw (some [0,1,2,3,8,9]) 17 [Dr (Mv 18 9) 0 [2,3,4,5,6,7,8,9,10,11,12,13,14,15,16],Dr (Mv 19 1) 1 [2,3,4,5,6,7,8,9,10,11,12,13,14,15,16],Dr (Bt 20 .gtr 3 18 19) 2 [3,4,5,6,7,8,9,10,11,12,13,14,15,16],Dr (Mv 21 20) 3 [4,5,6,7,8,9,10,11,12,13,14,15,16],⟨Gt 22 21 (.move (T 3)),4,.none,[14,15,16],false,true⟩,⟨Gt 23 21 (.move (T 0)),5,.none,[7,8,14,15,16],false,true⟩,⟨Gt 24 21 (.move (T 9)),6,.none,[7,8,14,15,16],false,true⟩,⟨Ht 25 21 (.ixS 2 (T 23) (T 24)),7,.none,[8,14,15,16],false,true⟩,⟨Ht 26 21 (.load 2 s2 (T 25)),8,.blk (T 25),[14,15,16],false,true⟩,⟨Gt 27 21 (.move (T 0)),9,.none,[12,13,14,15,16],false,true⟩,⟨Gt 28 21 (.move (T 9)),10,.none,[11,12,13,14,15,16],false,true⟩,⟨Gt 29 21 (.binOp .sub 3 (T 28) (Ci 1) 3),11,.none,[12,13,14,15,16],false,true⟩,⟨Ht 30 21 (.ixS 2 (T 27) (T 29)),12,.none,[13,14,15,16],false,true⟩,⟨Ht 31 21 (.load 2 s2 (T 30)),13,.blk (T 30),[14,15,16],false,true⟩,⟨⟨some 32,some (21,true),.call (T 22) [T 26,T 31] vI⟩,14,.all,[15,16],false,false⟩,⟨Gt 33 21 (.binOp .lss 3 (T 32) (Ci 0) 3),15,.none,[16],false,true⟩,Dr (Ol 34 (.pick (T 21) (T 33) (.const (.bool false)))) 16 []])
 (.cond (T 34) .skip
 (.exit 2 (some [0,1,2,3,8]))))
 (.seq (.block 3 (.draw (some [0,1,2,3,8,9]) 18 [Dr (Mv 37 0) 0 [14,15,16,17],Dr (Mv 38 9) 1 [14,15,16,17],Dr (Mv 39 0) 2 [16,17],Dr (Mv 40 9) 3 [4,16,17],Dr (Bc 41 .sub 3 40 .i64 1) 4 [16,17],Dr (Mv 42 0) 5 [8,9,14,15,16,17],Dr (Mv 43 9) 6 [7,8,9,14,15,16,17],Dr (Bc 44 .sub 3 43 .i64 1) 7 [8,9,14,15,16,17],Dr (Ix 45 2 42 44) 8 [9,14,15,16,17],Db (Ld 46 45) 9 45 [14,15,16,17],Dr (Mv 47 0) 10 [12,13,14,15,16,17],Dr (Mv 48 9) 11 [12,13,14,15,16,17],Dr (Ix 49 2 47 48) 12 [13,14,15,16,17],Db (Ld 50 49) 13 49 [14,15,16,17],Dr (Ix 51 2 37 38) 14 [15,16,17],⟨Sr 2 51 46,15,.blk (T 51),[16,17],true,true⟩,Dr (Ix 52 2 39 41) 16 [17],⟨Sr 2 52 50,17,.blk (T 52),[],true,true⟩]))
 (Rg [0,1,2,3,8,9] [Mv 35 9,Bc 36 .sub 3 35 .i64 1,As 9 36]))⟩)],
 []⟩
theorem r75_ok:resFun (progU ()) hint live 75 Try.f75=some r75:=by kernel_rfl
def r76 : RFun :=
⟨.seq (Rg [0,1,2,3] [Mv 13 1,As 8 13])
 (.seq (Rg [0,1,2,3,8] [Ac 9 0])
 (.seq (Rg [0,1,2,3,8,9] [Mv 14 2,Mv 15 1,Bt 16 .sub 3 14 15,As 10 16])
 (.seq (.seq (Rg [0,3,8,9,10] [Mv 17 10,Bc 18 .sub 3 17 .i64 1,Bc 19 .quo 3 18 .i64 2,As 11 19])
 (.block 0 (.loop 4 none (some [0,3,8,9,10,11]))))
 (.seq (Rg [0,3,8,9,10] [Mv 30 10,Bc 31 .sub 3 30 .i64 1,As 12 31])
 (.block 2 (.loop 8 (some [0,3,8,9,12]) (some [0,3,8,9,12]))))))),
 [],
 [(4,⟨none,some [0,3,8,9,10,11],.seq (.seq (Rg [0,3,8,9,10,11] [Mv 20 11,Bc 21 .geq 3 20 .i64 0])
 (.cond (T 21) .skip
 (.exit 0 (some [0,3,8,9,10]))))
 (.seq (.block 1 (Rg [0,3,8,9,10,11] [Mv 24 0,Mv 25 11,Mv 26 10,Mv 27 8,Mv 28 3,Ca 29 85 [T 24,T 25,T 26,T 27,T 28] (some (.tup []))]))
 (Rg [0,3,8,9,10,11] [Mv 22 11,Bc 23 .sub 3 22 .i64 1,As 11 23]))⟩),(8,⟨some [0,3,8,9,12],some [0,3,8,9,12],.seq (.seq (Rg [0,3,8,9,12] [Mv 32 12,Bc 33 .geq 3 32 .i64 0])
 (.cond (T 33) .skip
 (.exit 2 (some []))))
 (.seq (.block 3 (.seq (.draw (some [0,3,8,9,12]) 20 [Dr (Mv 36 0) 0 [16,17,18,19],Dr (Mv 37 8) 1 [16,17,18,19],Dr (Mv 38 0) 2 [18,19],Dr (Mv 39 8) 3 [5,18,19],Dr (Mv 40 12) 4 [5,18,19],Dr (Bt 41 .add 3 39 40) 5 [18,19],Dr (Mv 42 0) 6 [10,11,16,17,18,19],Dr (Mv 43 8) 7 [9,10,11,16,17,18,19],Dr (Mv 44 12) 8 [9,10,11,16,17,18,19],Dr (Bt 45 .add 3 43 44) 9 [10,11,16,17,18,19],Dr (Ix 46 2 42 45) 10 [11,16,17,18,19],Db (Ld 47 46) 11 46 [16,17,18,19],Dr (Mv 48 0) 12 [14,15,16,17,18,19],Dr (Mv 49 8) 13 [14,15,16,17,18,19],Dr (Ix 50 2 48 49) 14 [15,16,17,18,19],Db (Ld 51 50) 15 50 [16,17,18,19],Dr (Ix 52 2 36 37) 16 [17,18,19],⟨Sr 2 52 47,17,.blk (T 52),[18,19],true,true⟩,Dr (Ix 53 2 38 41) 18 [19],⟨Sr 2 53 51,19,.blk (T 53),[],true,true⟩])
 (Rg [0,3,8,9,12] [Mv 54 0,Mv 55 9,Mv 56 12,Mv 57 8,Mv 58 3,Ca 59 85 [T 54,T 55,T 56,T 57,T 58] (some (.tup []))])))
 (Rg [0,3,8,9,12] [Mv 34 12,Bc 35 .sub 3 34 .i64 1,As 12 35]))⟩)],
 []⟩
theorem r76_ok:resFun (progU ()) hint live 76 Try.f76=some r76:=by kernel_rfl
def r77 : RFun :=
⟨.seq (Rg [0,1,2] [Mv 13 2,Mv 14 1,Bt 15 .sub 3 13 14,As 8 15])
 (.seq (Rg [0,1,8] [Mv 16 8,Bc 17 .geq 3 16 .i64 8])
 (.cond (T 17) (.seq (Rg [0,1,8] [Mv 18 8,Ro 19 (.convI .u64 (T 18)),Ro 9 (.new 1 [.int .u64 0]),Sr 1 9 19])
 (.seq (Rg [0,1,8,9] [Mv 20 8,Ca 21 86 [T 20] (some (.val (.one (.int .u64)))),As 10 21])
 (.seq (Rg [0,1,8,9,10] [Mv 22 1,Mv 23 8,Bc 24 .quo 3 23 .i64 4,Bc 25 .mul 3 24 .i64 2,Bt 26 .add 3 22 25,Bc 27 .sub 3 26 .i64 1,As 11 27])
 (.block 0 (.loop 5 (some [0,1,8,9,10,11]) (some [0,1,8,9,10,11]))))))
 .skip)),
 [],
 [(5,⟨some [0,1,8,9,10,11],some [0,1,8,9,10,11],.seq (.seq (Rg [0,1,8,9,10,11] [Mv 28 11,Mv 29 1,Mv 30 8,Bc 31 .quo 3 30 .i64 4,Bc 32 .mul 3 31 .i64 2,Bt 33 .add 3 29 32,Bc 34 .add 3 33 .i64 1,Bt 35 .leq 3 28 34])
 (.cond (T 35) .skip
 (.exit 0 (some []))))
 (.seq (.block 1 (.seq (Rg [0,1,8,9,10,11] [Ca 38 87 [T 9] (some (.val (.one (.int .u64)))),Mv 39 10,Bc 40 .sub 122 39 .u64 1,Bt 41 .and 122 38 40,Ro 42 (.convI .i64 (T 41)),As 12 42])
 (.seq (.seq (Rg [0,1,8,9,10,11,12] [Mv 43 12,Mv 44 8,Bt 45 .geq 3 43 44])
 (.cond (T 45) (Rg [0,1,8,9,10,11,12] [Mv 46 12,Mv 47 8,Bt 48 .sub 3 46 47,As 12 48])
 .skip))
 (.draw (some [0,1,8,9,10,11,12]) 20 [Dr (Mv 49 0) 0 [16,17,18,19],Dr (Mv 50 11) 1 [16,17,18,19],Dr (Mv 51 0) 2 [18,19],Dr (Mv 52 1) 3 [5,18,19],Dr (Mv 53 12) 4 [5,18,19],Dr (Bt 54 .add 3 52 53) 5 [18,19],Dr (Mv 55 0) 6 [10,11,16,17,18,19],Dr (Mv 56 1) 7 [9,10,11,16,17,18,19],Dr (Mv 57 12) 8 [9,10,11,16,17,18,19],Dr (Bt 58 .add 3 56 57) 9 [10,11,16,17,18,19],Dr (Ix 59 2 55 58) 10 [11,16,17,18,19],Db (Ld 60 59) 11 59 [16,17,18,19],Dr (Mv 61 0) 12 [14,15,16,17,18,19],Dr (Mv 62 11) 13 [14,15,16,17,18,19],Dr (Ix 63 2 61 62) 14 [15,16,17,18,19],Db (Ld 64 63) 15 63 [16,17,18,19],Dr (Ix 65 2 49 50) 16 [17,18,19],⟨Sr 2 65 60,17,.blk (T 65),[18,19],true,true⟩,Dr (Ix 66 2 51 54) 18 [19],⟨Sr 2 66 64,19,.blk (T 66),[],true,true⟩]))))
 (Rg [0,1,8,9,10,11] [Mv 36 11,Bc 37 .add 3 36 .i64 1,As 11 37]))⟩)],
 []⟩
theorem r77_ok:resFun (progU ()) hint live 77 Try.f77=some r77:=by kernel_rfl
def r78 : RFun :=
⟨.seq (Rg [0,1,2,3] [Ac 8 0,Ac 9 0])
 (.seq (Rg [0,1,2,3] [Mv 15 2,Mv 16 1,Bt 17 .sub 3 15 16,As 10 17])
 (.seq (Rg [0,1,3,10] [Ro 11 (.new 1 [.int .i64 0])])
 (.seq (Rg [0,1,3,10,11] [Mv 18 1,Mv 19 10,Bc 20 .quo 3 19 .i64 4,Bc 21 .mul 3 20 .i64 1,Bt 22 .add 3 18 21,As 12 22])
 (.seq (Rg [0,1,3,10,11,12] [Mv 23 1,Mv 24 10,Bc 25 .quo 3 24 .i64 4,Bc 26 .mul 3 25 .i64 2,Bt 27 .add 3 23 26,As 13 27])
 (.seq (Rg [0,1,3,10,11,12,13] [Mv 28 1,Mv 29 10,Bc 30 .quo 3 29 .i64 4,Bc 31 .mul 3 30 .i64 3,Bt 32 .add 3 28 31,As 14 32])
 (.seq (.seq (Rg [0,3,10,11,12,13,14] [Mv 33 10,Bc 34 .geq 3 33 .i64 8])
 (.cond (T 34) (.seq (.seq (Rg [0,3,10,11,12,13,14] [Mv 35 10,Bc 36 .geq 3 35 .i64 50])
 (.cond (T 36) (.seq (Rg [0,3,11,12,13,14] [Mv 37 0,Mv 38 12,Mv 39 3,Ca 40 88 [T 37,T 38,T 11,T 39] vI,As 12 40])
 (.seq (Rg [0,3,11,12,13,14] [Mv 41 0,Mv 42 13,Mv 43 3,Ca 44 88 [T 41,T 42,T 11,T 43] vI,As 13 44])
 (Rg [0,3,11,12,13,14] [Mv 45 0,Mv 46 14,Mv 47 3,Ca 48 88 [T 45,T 46,T 11,T 47] vI,As 14 48])))
 .skip))
 (Rg [0,3,11,12,13,14] [Mv 49 0,Mv 50 12,Mv 51 13,Mv 52 14,Mv 53 3,Ca 54 89 [T 49,T 50,T 51,T 52,T 11,T 53] vI,As 13 54]))
 .skip))
 (.seq (Rg [11,13] [L1 55 11])
 (.block 0 (.seq (Rg [13,55] [Bc 58 .eql 3 55 .i64 0,As 57 58])
 (.cond (T 57) (.seq (Rg [13] [Mv 59 13,As 8 59,Ac 9 1])
 .ret)
 (.seq (Rg [13,55] [Bc 61 .eql 3 55 .i64 12,As 60 61])
 (.cond (T 60) (.seq (Rg [13] [Mv 62 13,As 8 62,Ac 9 2])
 .ret)
 (.seq (Rg [13] [Mv 56 13,As 8 56,Ac 9 0])
 .ret))))))))))))),
 [.tmp 8,.tmp 9],
 [],
 []⟩
theorem r78_ok:resFun (progU ()) hint live 78 Try.f78=some r78:=by kernel_rfl
def r79 : RFun :=
⟨.seq (Rg [0,1,2] [Mv 10 1,As 8 10])
 (.seq (Rg [0,2,8] [Mv 11 2,Bc 12 .sub 3 11 .i64 1,As 9 12])
 (.block 0 (.loop 2 (some [0,8,9]) (some [0,8,9])))),
 [],
 [(2,⟨some [0,8,9],some [0,8,9],.seq (.seq (Rg [0,8,9] [Mv 13 8,Mv 14 9,Bt 15 .lss 3 13 14])
 (.cond (T 15) .skip
 (.exit 0 (some []))))
 (.block 1 (.seq (.draw (some [0,8,9]) 16 [Dr (Mv 16 0) 0 [12,13,14,15],Dr (Mv 17 8) 1 [12,13,14,15],Dr (Mv 18 0) 2 [14,15],Dr (Mv 19 9) 3 [14,15],Dr (Mv 20 0) 4 [6,7,12,13,14,15],Dr (Mv 21 9) 5 [6,7,12,13,14,15],Dr (Ix 22 2 20 21) 6 [7,12,13,14,15],Db (Ld 23 22) 7 22 [12,13,14,15],Dr (Mv 24 0) 8 [10,11,12,13,14,15],Dr (Mv 25 8) 9 [10,11,12,13,14,15],Dr (Ix 26 2 24 25) 10 [11,12,13,14,15],Db (Ld 27 26) 11 26 [12,13,14,15],Dr (Ix 28 2 16 17) 12 [13,14,15],⟨Sr 2 28 23,13,.blk (T 28),[14,15],true,true⟩,Dr (Ix 29 2 18 19) 14 [15],⟨Sr 2 29 27,15,.blk (T 29),[],true,true⟩])
 (.seq (Rg [0,8,9] [Mv 30 8,Bc 31 .add 3 30 .i64 1,As 8 31])
 (Rg [0,8,9] [Mv 32 9,Bc 33 .sub 3 32 .i64 1,As 9 33]))))⟩)],
 []⟩
theorem r79_ok:resFun (progU ()) hint live 79 Try.f79=some r79:=by kernel_rfl
def r80 : RFun :=
⟨.seq (Rg [0,1,2,3] [Ol 8 (.assign (.const (.bool false)))])
 (.seq (Rg [0,1,2,3] [Mv 13 1,Bc 14 .add 3 13 .i64 1,As 9 14])
 (.seq (.seq (Rg [0,1,2,3,9] [Ac 10 0])
 (.block 0 (.loop 3 (some [0,1,2,3,9,10]) (some [0,1,2,3,9,10]))))
 (.seq (Rg [] [Ol 8 (.assign (.const (.bool false)))])
 .ret))),
 [.tmp 8],
 [(3,⟨some [0,1,2,3,9,10],some [0,1,2,3,9,10],.seq (.seq (Rg [0,1,2,3,9,10] [Mv 15 10,Bc 16 .lss 3 15 .i64 5])
 (.cond (T 16) .skip
 (.exit 0 (some []))))
 (.seq (.block 1 (.seq (.block 2 (.loop 5 (some [0,1,2,3,9,10]) (some [0,1,2,3,9,10])))
 (.seq (.seq (Rg [0,1,2,3,9,10] [Mv 39 9,Mv 40 2,Bt 41 .eql 3 39 40])
 (.cond (T 41) (.seq (Rg [] [Ol 8 (.assign (.const (.bool true)))])
 .ret)
 .skip))
 (.seq (.seq (Rg [0,1,2,3,9,10] [Mv 42 2,Mv 43 1,Bt 44 .sub 3 42 43,Bc 45 .lss 3 44 .i64 50])
 (.cond (T 45) (.seq (Rg [] [Ol 8 (.assign (.const (.bool false)))])
 .ret)
 .skip))
 (.seq (.draw (some [0,1,2,3,9,10]) 18 [Dr (Mv 46 0) 0 [14,15,16,17],Dr (Mv 47 9) 1 [14,15,16,17],Dr (Mv 48 0) 2 [16,17],Dr (Mv 49 9) 3 [4,16,17],Dr (Bc 50 .sub 3 49 .i64 1) 4 [16,17],Dr (Mv 51 0) 5 [8,9,14,15,16,17],Dr (Mv 52 9) 6 [7,8,9,14,15,16,17],Dr (Bc 53 .sub 3 52 .i64 1) 7 [8,9,14,15,16,17],Dr (Ix 54 2 51 53) 8 [9,14,15,16,17],Db (Ld 55 54) 9 54 [14,15,16,17],Dr (Mv 56 0) 10 [12,13,14,15,16,17],Dr (Mv 57 9) 11 [12,13,14,15,16,17],Dr (Ix 58 2 56 57) 12 [13,14,15,16,17],Db (Ld 59 58) 13 58 [14,15,16,17],Dr (Ix 60 2 46 47) 14 [15,16,17],⟨Sr 2 60 55,15,.blk (T 60),[16,17],true,true⟩,Dr (Ix 61 2 48 50) 16 [17],⟨Sr 2 61 59,17,.blk (T 61),[],true,true⟩])
 (.seq (.seq (Rg [0,1,2,3,9,10] [Mv 62 9,Mv 63 1,Bt 64 .sub 3 62 63,Bc 65 .geq 3 64 .i64 2])
 (.cond (T 65) (.seq (Rg [0,1,2,3,9,10] [Mv 66 9,Bc 67 .sub 3 66 .i64 1,As 11 67])
 (.block 4 (.loop 14 (some [0,1,2,3,9,10,11]) (some [0,1,2,3,9,10,11]))))
 .skip))
 (.seq (Rg [0,1,2,3,9,10] [Mv 101 2,Mv 102 9,Bt 103 .sub 3 101 102,Bc 104 .geq 3 103 .i64 2])
 (.cond (T 104) (.seq (Rg [0,1,2,3,9,10] [Mv 105 9,Bc 106 .add 3 105 .i64 1,As 12 106])
 (.block 6 (.loop 20 (some [0,1,2,3,9,10,12]) (some [0,1,2,3,9,10,12]))))
 .skip))))))))
 (Rg [0,1,2,3,9,10] [Mv 17 10,Bc 18 .add 3 17 .i64 1,As 10 18]))⟩),(5,⟨some [0,1,2,3,9,10],some [0,1,2,3,9,10],.seq (.seq (.draw (some [0,1,2,3,9,10]) 18 [Dr (Mv 19 9) 0 [2,3,4,5,6,7,8,9,10,11,12,13,14,15,16,17],Dr (Mv 20 2) 1 [2,3,4,5,6,7,8,9,10,11,12,13,14,15,16,17],Dr (Bt 21 .lss 3 19 20) 2 [3,4,5,6,7,8,9,10,11,12,13,14,15,16,17],Dr (Mv 22 21) 3 [4,5,6,7,8,9,10,11,12,13,14,15,16,17],⟨Gt 23 22 (.move (T 3)),4,.none,[14,15,16,17],false,true⟩,⟨Gt 24 22 (.move (T 0)),5,.none,[7,8,14,15,16,17],false,true⟩,⟨Gt 25 22 (.move (T 9)),6,.none,[7,8,14,15,16,17],false,true⟩,⟨Ht 26 22 (.ixS 2 (T 24) (T 25)),7,.none,[8,14,15,16,17],false,true⟩,⟨Ht 27 22 (.load 2 s2 (T 26)),8,.blk (T 26),[14,15,16,17],false,true⟩,⟨Gt 28 22 (.move (T 0)),9,.none,[12,13,14,15,16,17],false,true⟩,⟨Gt 29 22 (.move (T 9)),10,.none,[11,12,13,14,15,16,17],false,true⟩,⟨Gt 30 22 (.binOp .sub 3 (T 29) (Ci 1) 3),11,.none,[12,13,14,15,16,17],false,true⟩,⟨Ht 31 22 (.ixS 2 (T 28) (T 30)),12,.none,[13,14,15,16,17],false,true⟩,⟨Ht 32 22 (.load 2 s2 (T 31)),13,.blk (T 31),[14,15,16,17],false,true⟩,⟨⟨some 33,some (22,true),.call (T 23) [T 27,T 32] vI⟩,14,.all,[15,16,17],false,false⟩,⟨Gt 34 22 (.binOp .lss 3 (T 33) (Ci 0) 3),15,.none,[16,17],false,true⟩,⟨Gt 35 22 (.unOp .not 4 (T 34)),16,.none,[17],false,true⟩,Dr (Ol 36 (.pick (T 22) (T 35) (.const (.bool false)))) 17 []])
 (.cond (T 36) .skip
 (.exit 2 (some [0,1,2,3,9,10]))))
 (.block 3 (Rg [0,1,2,3,9,10] [Mv 37 9,Bc 38 .add 3 37 .i64 1,As 9 38]))⟩),(14,⟨some [0,1,2,3,9,10,11],some [0,1,2,3,9,10,11],.seq (.seq (Rg [0,1,2,3,9,10,11] [Mv 68 11,Bc 69 .geq 3 68 .i64 1])
 (.cond (T 69) .skip
 (.exit 4 (some [0,1,2,3,9,10]))))
 (.seq (.block 5 (.seq (.seq (.draw (some [0,1,2,3,9,10,11]) 13 [Dr (Mv 72 3) 0 [10,11,12],Dr (Mv 73 0) 1 [3,4,10,11,12],Dr (Mv 74 11) 2 [3,4,10,11,12],Dr (Ix 75 2 73 74) 3 [4,10,11,12],Db (Ld 76 75) 4 75 [10,11,12],Dr (Mv 77 0) 5 [8,9,10,11,12],Dr (Mv 78 11) 6 [7,8,9,10,11,12],Dr (Bc 79 .sub 3 78 .i64 1) 7 [8,9,10,11,12],Dr (Ix 80 2 77 79) 8 [9,10,11,12],Db (Ld 81 80) 9 80 [10,11,12],⟨⟨some 82,none,.call (T 72) [T 76,T 81] vI⟩,10,.all,[11,12],false,false⟩,Dr (Bc 83 .lss 3 82 .i64 0) 11 [12],Dr (Ol 84 (.unOp .not 4 (T 83))) 12 []])
 (.cond (T 84) (.exit 4 (some [0,1,2,3,9,10]))
 .skip))
 (.draw (some [0,1,2,3,9,10,11]) 18 [Dr (Mv 85 0) 0 [14,15,16,17],Dr (Mv 86 11) 1 [14,15,16,17],Dr (Mv 87 0) 2 [16,17],Dr (Mv 88 11) 3 [4,16,17],Dr (Bc 89 .sub 3 88 .i64 1) 4 [16,17],Dr (Mv 90 0) 5 [8,9,14,15,16,17],Dr (Mv 91 11) 6 [7,8,9,14,15,16,17],Dr (Bc 92 .sub 3 91 .i64 1) 7 [8,9,14,15,16,17],Dr (Ix 93 2 90 92) 8 [9,14,15,16,17],Db (Ld 94 93) 9 93 [14,15,16,17],Dr (Mv 95 0) 10 [12,13,14,15,16,17],Dr (Mv 96 11) 11 [12,13,14,15,16,17],Dr (Ix 97 2 95 96) 12 [13,14,15,16,17],Db (Ld 98 97) 13 97 [14,15,16,17],Dr (Ix 99 2 85 86) 14 [15,16,17],⟨Sr 2 99 94,15,.blk (T 99),[16,17],true,true⟩,Dr (Ix 100 2 87 89) 16 [17],⟨Sr 2 100 98,17,.blk (T 100),[],true,true⟩])))
 (Rg [0,1,2,3,9,10,11] [Mv 70 11,Bc 71 .sub 3 70 .i64 1,As 11 71]))⟩),(20,⟨some [0,1,2,3,9,10,12],some [0,1,2,3,9,10,12],.seq (.seq (Rg [0,1,2,3,9,10,12] [Mv 107 12,Mv 108 2,Bt 109 .lss 3 107 108])
 (.cond (T 109) .skip
 (.exit 6 (some [0,1,2,3,9,10]))))
 (.seq (.block 7 (.seq (.seq (.draw (some [0,1,2,3,9,10,12]) 13 [Dr (Mv 112 3) 0 [10,11,12],Dr (Mv 113 0) 1 [3,4,10,11,12],Dr (Mv 114 12) 2 [3,4,10,11,12],Dr (Ix 115 2 113 114) 3 [4,10,11,12],Db (Ld 116 115) 4 115 [10,11,12],Dr (Mv 117 0) 5 [8,9,10,11,12],Dr (Mv 118 12) 6 [7,8,9,10,11,12],Dr (Bc 119 .sub 3 118 .i64 1) 7 [8,9,10,11,12],Dr (Ix 120 2 117 119) 8 [9,10,11,12],Db (Ld 121 120) 9 120 [10,11,12],⟨⟨some 122,none,.call (T 112) [T 116,T 121] vI⟩,10,.all,[11,12],false,false⟩,Dr (Bc 123 .lss 3 122 .i64 0) 11 [12],Dr (Ol 124 (.unOp .not 4 (T 123))) 12 []])
 (.cond (T 124) (.exit 6 (some [0,1,2,3,9,10]))
 .skip))
 (.draw (some [0,1,2,3,9,10,12]) 18 [Dr (Mv 125 0) 0 [14,15,16,17],Dr (Mv 126 12) 1 [14,15,16,17],Dr (Mv 127 0) 2 [16,17],Dr (Mv 128 12) 3 [4,16,17],Dr (Bc 129 .sub 3 128 .i64 1) 4 [16,17],Dr (Mv 130 0) 5 [8,9,14,15,16,17],Dr (Mv 131 12) 6 [7,8,9,14,15,16,17],Dr (Bc 132 .sub 3 131 .i64 1) 7 [8,9,14,15,16,17],Dr (Ix 133 2 130 132) 8 [9,14,15,16,17],Db (Ld 134 133) 9 133 [14,15,16,17],Dr (Mv 135 0) 10 [12,13,14,15,16,17],Dr (Mv 136 12) 11 [12,13,14,15,16,17],Dr (Ix 137 2 135 136) 12 [13,14,15,16,17],Db (Ld 138 137) 13 137 [14,15,16,17],Dr (Ix 139 2 125 126) 14 [15,16,17],⟨Sr 2 139 134,15,.blk (T 139),[16,17],true,true⟩,Dr (Ix 140 2 127 129) 16 [17],⟨Sr 2 140 138,17,.blk (T 140),[],true,true⟩])))
 (Rg [0,1,2,3,9,10,12] [Mv 110 12,Bc 111 .add 3 110 .i64 1,As 12 111]))⟩)],
 []⟩
theorem r80_ok:resFun (progU ()) hint live 80 Try.f80=some r80:=by kernel_rfl
