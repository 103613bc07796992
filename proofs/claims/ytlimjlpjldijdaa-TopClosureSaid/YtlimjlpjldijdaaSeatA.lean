import Derived.Test.YtlimjlpjldijdaaSeat0
import Derived.Test.YtlimjlpjldijdaaSymS
set_option linter.unusedSimpArgs false
set_option linter.unusedVariables false
namespace Go.Proofs.Ytlimjlpjldijdaa
open Go.Sim
set_option maxRecDepth 100000
def r2 : RFun :=
⟨Rg [] [Ca 0 1 [] (some (.tup []))],
 [],
 [],
 []⟩
def r3 : RFun :=
⟨.seq (Rg [0,1,2,3] [Ol 8 (.assign (.const (.bool false)))])
 (.seq (Rg [0,1,2,3] [Ca 15 4 [] vB,As 9 15])
 (.seq (.seq (Rg [0,1,2,3,9] [Mv 16 0,Ro 17 (.lenS (T 16)),Bc 18 .gtr 3 17 .i64 40,Mv 19 18,Gf 20 19 (.move (T 3)),Hf 21 19 (.lenS (T 20)),Gf 22 19 (.binOp .gtr 3 (T 21) (Ci 20) 3),Ol 23 (.pick (T 19) (.const (.bool true)) (T 22)),Mv 24 23,Gf 25 24 (.move (T 2)),Hf 26 24 (.lenS (T 25)),Gf 27 24 (.binOp .gtr 3 (T 26) (Ci 8) 3),Ol 28 (.pick (T 24) (.const (.bool true)) (T 27)),Mv 29 28,Gf 30 29 (.move (T 0)),⟨some 31,some (29,false),.call (.func 5) [T 30] vI⟩,Gf 32 29 (.binOp .neq 3 (T 31) (Ci 0) 3),Ol 33 (.pick (T 29) (.const (.bool true)) (T 32)),Mv 34 33,Gf 35 34 (.move (T 9)),Gf 36 34 (.unOp .not 4 (T 35)),Ol 37 (.pick (T 34) (.const (.bool true)) (T 36))])
 (.cond (T 37) (.seq (Rg [9] [Mv 38 9,As 8 38])
 .ret)
 .skip))
 (.seq (.seq (Rg [0,1,2,3,9] [Ac 10 0])
 (.block 0 (.loop 5 none (some [0,1,2,3,9,10]))))
 (.seq (Rg [0,1,2,3,9] [Mv 53 1,Mv 54 0,Ca 55 7 [T 53,T 54] (some (.tup [.one .slice,.one (.int .i64)])),Mv 52 55,Ex 56 52 0,Ex 57 52 1,As 11 56,As 12 57])
 (.seq (.seq (Rg [0,2,3,9,11,12] [Mv 58 12,Bc 59 .eql 33 58 .i64 0,Mv 60 59,Gt 61 60 (.move (T 0)),Gt 62 60 (.move (T 11)),Gt 63 60 (.move (T 3)),⟨some 64,some (60,true),.call (.func 8) [T 61,T 62,T 63] vB⟩,Gt 65 60 (.unOp .not 4 (T 64)),Ol 66 (.pick (T 60) (T 65) (.const (.bool false)))])
 (.cond (T 66) (.seq (Rg [] [Ol 8 (.assign (.const (.bool false)))])
 .ret)
 .skip))
 (.seq (Rg [0,2,3,9] [Mv 68 0,Ro 69 (.buildSlice 1 1 [.slice none 0 0] [(0,1,(T 68))]),Mv 70 2,Ca 71 9 [T 69,T 70] (some (.tup [.one .slice,.one (.int .i64)])),Mv 67 71,Ex 72 67 0,Ex 73 67 1,As 13 72,As 14 73])
 (.seq (.seq (Rg [0,3,9,13,14] [Mv 74 14,Bc 75 .eql 33 74 .i64 0,Mv 76 75,Gt 77 76 (.move (T 13)),Ht 78 76 (.lenS (T 77)),Gt 79 76 (.binOp .neq 3 (T 78) (Ci 1) 3),Gt 80 76 (.move (T 79)),Gf 81 80 (.move (T 0)),Gf 82 80 (.move (T 13)),Hf 83 80 (.ixS 1 (T 82) (Ci 0)),Hf 84 80 (.load1 .slice (T 83)),Gf 85 80 (.move (T 3)),⟨some 86,some (80,false),.call (.func 8) [T 81,T 84,T 85] vB⟩,Gf 87 80 (.unOp .not 4 (T 86)),Gt 88 76 (.pick (T 80) (.const (.bool true)) (T 87)),Ol 89 (.pick (T 76) (T 88) (.const (.bool false)))])
 (.cond (T 89) (.seq (Rg [] [Ol 8 (.assign (.const (.bool false)))])
 .ret)
 .skip))
 (.seq (Rg [0,3,9] [Mv 90 9,Mv 91 90,Gt 92 91 (.move (T 0)),Gt 93 91 (.move (T 3)),⟨some 94,some (91,true),.call (.func 10) [T 92,T 93] vB⟩,Ol 95 (.pick (T 91) (T 94) (.const (.bool false))),As 8 95])
 .ret)))))))),
 [.tmp 8],
 [(5,⟨none,some [0,1,2,3,9,10],.seq (.seq (Rg [0,1,2,3,9,10] [Mv 39 10,Mv 40 2,Ro 41 (.lenS (T 40)),Bt 42 .lss 3 39 41])
 (.cond (T 42) .skip
 (.exit 0 (some [0,1,2,3,9]))))
 (.seq (.block 1 (.seq (Rg [0,1,2,3,9,10] [Mv 45 2,Mv 46 10,Ix 47 8 45 46,Ro 48 (.load 8 [.int .u8,.int .i64,.int .i64,.int .i64,.int .i64,.int .i64,.int .i64,.int .i64] (T 47)),Ca 49 6 [T 48] vB,Ol 50 (.unOp .not 4 (T 49))])
 (.cond (T 50) (.seq (Rg [9] [Mv 51 9,As 8 51])
 .ret)
 .skip)))
 (Rg [0,1,2,3,9,10] [Mv 43 10,Bc 44 .add 3 43 .i64 1,As 10 44]))⟩)],
 []⟩
theorem r3_ok:resFun (progU ()) hint live 3 Try.f3=some r3:=by kernel_rfl
def r4 : RFun :=
⟨.seq (Rg [] [Ol 0 (.assign (.const (.bool false)))])
 (.seq (Rg [] [Ro 11 (.build [.int .i64 0,.int .i64 0,.int .i64 0] [(0,1,(Ci 1)),(2,1,(Ci 1))]),Nw 1 3 [.int .i64 0,.int .i64 0,.int .i64 0],Sr 3 1 11])
 (.seq (Rg [1] [Ro 12 (.build [.int .i64 0,.int .i64 0,.int .i64 0] [(1,1,(Ci 1)),(2,1,(Ci 1))]),Ro 13 (.build [.int .i64 0,.int .i64 0,.int .i64 0,.int .i64 0,.int .i64 0,.int .i64 0] [(0,1,(Ci 0)),(1,1,(Ci 1)),(2,3,(T 12))]),Ro 14 (.load 3 [.int .i64,.int .i64,.int .i64] (T 1)),Ro 15 (.build [.int .i64 0,.int .i64 0,.int .i64 0,.int .i64 0,.int .i64 0,.int .i64 0] [(0,1,(Ci 0)),(1,1,(Ci 2)),(2,3,(T 14))]),Ro 16 (.load 3 [.int .i64,.int .i64,.int .i64] (T 1)),Ro 17 (.build [.int .i64 0,.int .i64 0,.int .i64 0,.int .i64 0,.int .i64 0,.int .i64 0] [(0,1,(Ci 1)),(1,1,(Ci 2)),(2,3,(T 16))]),Ro 18 (.buildSlice 6 3 [.int .i64 0,.int .i64 0,.int .i64 0,.int .i64 0,.int .i64 0,.int .i64 0,.int .i64 0,.int .i64 0,.int .i64 0,.int .i64 0,.int .i64 0,.int .i64 0,.int .i64 0,.int .i64 0,.int .i64 0,.int .i64 0,.int .i64 0,.int .i64 0] [(0,6,(T 13)),(6,6,(T 15)),(12,6,(T 17))]),As 2 18])
 (.seq (Rg [2] [Mv 20 2,Ca 21 11 [T 20] (some (.tup [.one .slice,.one (.int .i64)])),Mv 19 21,Ex 22 19 0,Ex 23 19 1,As 3 22,As 4 23])
 (.seq (Rg [2,3,4] [Mv 25 2,Ro 26 (.buildSlice 1 1 [.slice none 0 0] [(0,1,(T 25))]),Ro 27 (.build [.int .u8 0,.int .i64 0,.int .i64 0,.int .i64 0,.int .i64 0,.int .i64 0,.int .i64 0,.int .i64 0] [(0,1,(.const (.int .u8 2))),(1,1,(Ci 1)),(3,1,(Ci 1)),(7,1,(Ci 1))]),Ro 28 (.buildSlice 8 1 [.int .u8 0,.int .i64 0,.int .i64 0,.int .i64 0,.int .i64 0,.int .i64 0,.int .i64 0,.int .i64 0] [(0,8,(T 27))]),Ca 29 9 [T 26,T 28] (some (.tup [.one .slice,.one (.int .i64)])),Mv 24 29,Ex 30 24 0,Ex 31 24 1,As 5 30,As 6 31])
 (.seq (.seq (Rg [2,3,4,5,6] [Mv 32 4,Bc 33 .neq 33 32 .i64 0,Mv 34 33,Gf 35 34 (.move (T 6)),Gf 36 34 (.binOp .neq 33 (T 35) (Ci 0) 33),Ol 37 (.pick (T 34) (.const (.bool true)) (T 36)),Mv 38 37,Gf 39 38 (.move (T 5)),Hf 40 38 (.lenS (T 39)),Gf 41 38 (.binOp .neq 3 (T 40) (Ci 1) 3),Ol 42 (.pick (T 38) (.const (.bool true)) (T 41)),Mv 43 42,Gf 44 43 (.move (T 3)),Hf 45 43 (.buildSlice 1 3 [.int .i64 0,.int .i64 0,.int .i64 0] [(0,1,(Ci 1)),(1,1,(Ci 2)),(2,1,(Ci 0))]),Hf 46 43 (.buildSlice 1 1 [.slice none 0 0] [(0,1,(T 45))]),⟨some 47,some (43,false),.call (.func 12) [T 44,T 46] vB⟩,Gf 48 43 (.unOp .not 4 (T 47)),Ol 49 (.pick (T 43) (.const (.bool true)) (T 48))])
 (.cond (T 49) (.seq (Rg [] [Ol 0 (.assign (.const (.bool false)))])
 .ret)
 .skip))
 (.seq (Rg [2,3,5] [Mv 51 2,Mv 52 3,Ro 53 (.ixS 1 (T 52) (Ci 0)),Ro 54 (.load1 .slice (T 53)),Ca 55 13 [T 51,T 54] (some (.tup [.agg [.int .i64,.int .i64,.int .i64],.one (.int .i64)])),Mv 50 55,Ex 56 50 0,Ex 57 50 1,Nw 7 3 [.int .i64 0,.int .i64 0,.int .i64 0],Sr 3 7 56,As 8 57])
 (.seq (.draw (some [3,5,7,8]) 13 [Dr (Mv 59 5) 0 [1,2,6,7,8,9,11,12],Dr (Ro 60 (.ixS 1 (T 59) (Ci 0))) 1 [2,6,7,8,9,11,12],Db (Ro 61 (.load1 .slice (T 60))) 2 60 [6,7,8,9,11,12],Dr (Mv 62 3) 3 [4,5,6,7,8,9,11,12],Dr (Ro 63 (.ixS 1 (T 62) (Ci 0))) 4 [5,6,7,8,9,11,12],Db (Ro 64 (.load1 .slice (T 63))) 5 63 [6,7,8,9,11,12],⟨Nw 9 3 [.int .i64 0,.int .i64 0,.int .i64 0],10,.new true,[11,12],false,true⟩,⟨Ca 65 13 [T 61,T 64] (some (.tup [.agg [.int .i64,.int .i64,.int .i64],.one (.int .i64)])),6,.all,[7,8,9,11,12],false,false⟩,Dr (Mv 58 65) 7 [8,9,11,12],Dr (Ex 66 58 0) 8 [11,12],Dr (Ex 67 58 1) 9 [12],⟨Sr 3 9 66,11,.blk (T 9),[12],true,true⟩,Dr (As 10 67) 12 []])
 (.seq (Rg [7,8,9,10] [Mv 68 8,Bc 69 .eql 33 68 .i64 0,Mv 70 69,Gt 71 70 (.move (T 10)),Gt 72 70 (.binOp .eql 33 (T 71) (Ci 0) 33),Ol 73 (.pick (T 70) (T 72) (.const (.bool false))),Mv 74 73,Ht 75 74 (.load 3 [.int .i64,.int .i64,.int .i64] (T 7)),Ht 76 74 (.load 3 [.int .i64,.int .i64,.int .i64] (T 9)),Gt 77 74 (.binOp .eql 30 (T 75) (T 76) 30),Ol 78 (.pick (T 74) (T 77) (.const (.bool false))),Mv 79 78,Ht 80 79 (.load 3 [.int .i64,.int .i64,.int .i64] (T 7)),Ht 81 79 (.build [.int .i64 0,.int .i64 0,.int .i64 0] [(1,1,(Ci 1)),(2,1,(Ci 1))]),Gt 82 79 (.binOp .eql 30 (T 80) (T 81) 30),Ol 83 (.pick (T 79) (T 82) (.const (.bool false))),As 0 83])
 .ret)))))))),
 [.tmp 0],
 [],
 []⟩
theorem r4_ok:resFun (progU ()) hint live 4 Try.f4=some r4:=by kernel_rfl
def r5 : RFun :=
⟨.seq (Rg [0] [Ac 2 0])
 (.seq (.seq (Rg [0] [Mv 6 0,Ca 7 14 [T 6,.const (.int .i64 8)] vI,As 3 7])
 (.seq (Rg [0,3] [Mv 8 3,Bc 9 .neq 3 8 .i64 0])
 (.cond (T 9) (.seq (Rg [3] [Mv 10 3,As 2 10])
 .ret)
 .skip)))
 (.seq (.seq (Rg [0] [Ac 4 0])
 (.block 0 (.loop 5 (some [0,4]) (some [0,4]))))
 (.seq (Rg [] [Ac 2 0])
 .ret))),
 [.tmp 2],
 [(5,⟨some [0,4],some [0,4],.seq (.seq (Rg [0,4] [Mv 11 4,Mv 12 0,Ro 13 (.lenS (T 12)),Bt 14 .lss 3 11 13])
 (.cond (T 14) .skip
 (.exit 0 (some []))))
 (.seq (.block 1 (.seq (Rg [0,4] [Ac 5 0])
 (.block 2 (.loop 8 (some [0,4,5]) (some [0,4,5])))))
 (Rg [0,4] [Mv 15 4,Bc 16 .add 3 15 .i64 1,As 4 16]))⟩),(8,⟨some [0,4,5],some [0,4,5],.seq (.seq (Rg [0,4,5] [Mv 17 5,Mv 18 4,Bt 19 .lss 3 17 18])
 (.cond (T 19) .skip
 (.exit 2 (some [0,4]))))
 (.seq (.block 3 (.seq (.draw (some [0,4,5]) 24 [Dr (Mv 22 0) 0 [2,3,4,10,11,12,13,14,15,16,17,18,19,20,21,22,23],Dr (Mv 23 4) 1 [2,3,4,10,11,12,13,14,15,16,17,18,19,20,21,22,23],Dr (Ix 24 6 22 23) 2 [3,4,10,11,12,13,14,15,16,17,18,19,20,21,22,23],Dr (Fa 25 0 24) 3 [4,10,11,12,13,14,15,16,17,18,19,20,21,22,23],Db (L1 26 25) 4 25 [10,11,12,13,14,15,16,17,18,19,20,21,22,23],Dr (Mv 27 0) 5 [7,8,9,10,11,12,13,14,15,16,17,18,19,20,21,22,23],Dr (Mv 28 5) 6 [7,8,9,10,11,12,13,14,15,16,17,18,19,20,21,22,23],Dr (Ix 29 6 27 28) 7 [8,9,10,11,12,13,14,15,16,17,18,19,20,21,22,23],Dr (Fa 30 0 29) 8 [9,10,11,12,13,14,15,16,17,18,19,20,21,22,23],Db (L1 31 30) 9 30 [10,11,12,13,14,15,16,17,18,19,20,21,22,23],Dr (Bt 32 .eql 3 26 31) 10 [11,12,13,14,15,16,17,18,19,20,21,22,23],Dr (Mv 33 32) 11 [12,13,14,15,16,17,18,19,20,21,22,23],⟨Gt 34 33 (.move (T 0)),12,.none,[14,15,16,22,23],false,true⟩,⟨Gt 35 33 (.move (T 4)),13,.none,[14,15,16,22,23],false,true⟩,⟨Ht 36 33 (.ixS 6 (T 34) (T 35)),14,.none,[15,16,22,23],false,true⟩,⟨Ht 37 33 (.fieldAddr 1 (T 36)),15,.none,[16,22,23],false,true⟩,⟨Ht 38 33 (.load1 (.int .i64) (T 37)),16,.blk (T 37),[22,23],false,true⟩,⟨Gt 39 33 (.move (T 0)),17,.none,[19,20,21,22,23],false,true⟩,⟨Gt 40 33 (.move (T 5)),18,.none,[19,20,21,22,23],false,true⟩,⟨Ht 41 33 (.ixS 6 (T 39) (T 40)),19,.none,[20,21,22,23],false,true⟩,⟨Ht 42 33 (.fieldAddr 1 (T 41)),20,.none,[21,22,23],false,true⟩,⟨Ht 43 33 (.load1 (.int .i64) (T 42)),21,.blk (T 42),[22,23],false,true⟩,⟨Gt 44 33 (.binOp .eql 3 (T 38) (T 43) 3),22,.none,[23],false,true⟩,Dr (Ol 45 (.pick (T 33) (T 44) (.const (.bool false)))) 23 []])
 (.cond (T 45) (.seq (Rg [] [Ac 2 14])
 .ret)
 .skip)))
 (Rg [0,4,5] [Mv 20 5,Bc 21 .add 3 20 .i64 1,As 5 21]))⟩)],
 []⟩
theorem r5_ok:resFun (progU ()) hint live 5 Try.f5=some r5:=by kernel_rfl
def r6 : RFun :=
⟨.seq (Rg [0] [Bo 1 8 0,Ol 2 (.assign (.const (.bool false)))])
 (.seq (.seq (Rg [1] [Fa 3 1 1,L1 4 3,Bc 5 .lss 3 4 .i64 0,Mv 6 5,Hf 7 6 (.fieldAddr 1 (T 1)),Hf 8 6 (.load1 (.int .i64) (T 7)),Gf 9 6 (.binOp .geq 3 (T 8) (Ci 8) 3),Ol 10 (.pick (T 6) (.const (.bool true)) (T 9)),Mv 11 10,Hf 12 11 (.fieldAddr 2 (T 1)),Hf 13 11 (.load1 (.int .i64) (T 12)),Gf 14 11 (.binOp .lss 3 (T 13) (Ci 0) 3),Ol 15 (.pick (T 11) (.const (.bool true)) (T 14)),Mv 16 15,Hf 17 16 (.fieldAddr 3 (T 1)),Hf 18 16 (.load1 (.int .i64) (T 17)),Hf 19 16 (.fieldAddr 2 (T 1)),Hf 20 16 (.load1 (.int .i64) (T 19)),Gf 21 16 (.binOp .lss 3 (T 18) (T 20) 3),Ol 22 (.pick (T 16) (.const (.bool true)) (T 21)),Mv 23 22,Hf 24 23 (.fieldAddr 3 (T 1)),Hf 25 23 (.load1 (.int .i64) (T 24)),Gf 26 23 (.binOp .gtr 3 (T 25) (Ci 32) 3),Ol 27 (.pick (T 23) (.const (.bool true)) (T 26))])
 (.cond (T 27) (.seq (Rg [] [Ol 2 (.assign (.const (.bool false)))])
 .ret)
 .skip))
 (.seq (.seq (Rg [1] [Fa 28 0 1,Ro 29 (.load1 (.int .u8) (T 28))])
 (.block 0 (.seq (Rg [1,29] [Bc 31 .eql 5 29 .u8 1,As 30 31])
 (.cond (T 30) (.seq (Rg [1] [Fa 32 7 1,L1 33 32,Bc 34 .eql 3 33 .i64 0,Mv 35 34,Ht 36 35 (.fieldAddr 4 (T 1)),Ht 37 35 (.load 3 [.int .i64,.int .i64,.int .i64] (T 36)),⟨some 38,some (35,true),.call (.func 15) [T 37] vI⟩,Gt 39 35 (.binOp .eql 3 (T 38) (Ci 0) 3),Ol 40 (.pick (T 35) (T 39) (.const (.bool false))),Mv 41 40,Ht 42 41 (.fieldAddr 4 (T 1)),Ht 43 41 (.load 3 [.int .i64,.int .i64,.int .i64] (T 42)),⟨some 44,some (41,true),.call (.func 16) [T 43] vB⟩,Gt 45 41 (.unOp .not 4 (T 44)),Ol 46 (.pick (T 41) (T 45) (.const (.bool false))),As 2 46])
 .ret)
 (.seq (.seq (Rg [1,29] [Bc 48 .eql 5 29 .u8 2,As 47 48])
 (.cond (T 47) .skip
 (Rg [1,29] [Bc 49 .eql 5 29 .u8 3,As 47 49])))
 (.cond (T 47) (.seq (Rg [1] [Fa 50 4 1,Ro 51 (.load 3 [.int .i64,.int .i64,.int .i64] (T 50)),Ro 52 (.build [.int .i64 0,.int .i64 0,.int .i64 0] []),Bt 53 .eql 30 51 52,Mv 54 53,Ht 55 54 (.fieldAddr 7 (T 1)),Ht 56 54 (.load1 (.int .i64) (T 55)),Gt 57 54 (.binOp .geq 3 (T 56) (Ci 0) 3),Ol 58 (.pick (T 54) (T 57) (.const (.bool false))),Mv 59 58,Ht 60 59 (.fieldAddr 7 (T 1)),Ht 61 59 (.load1 (.int .i64) (T 60)),Gt 62 59 (.binOp .leq 3 (T 61) (Ci 3) 3),Ol 63 (.pick (T 59) (T 62) (.const (.bool false))),As 2 63])
 .ret)
 .skip))))))
 (.seq (Rg [] [Ol 2 (.assign (.const (.bool false)))])
 .ret))),
 [.tmp 2],
 [],
 []⟩
theorem r6_ok:resFun (progU ()) hint live 6 Try.f6=some r6:=by kernel_rfl
def r7 : RFun :=
⟨.seq (Rg [0,1] [Ro 2 (.box 1 (T 0)),Ro 3 (.box 1 (T 1)),Ol 4 (.assign (.const (.slice none 0 0))),Ac 5 0])
 (.seq (.seq (Rg [2,3] [Ro 15 (.load1 .slice (T 2)),Ca 16 17 [T 15] vI,As 6 16])
 (.seq (Rg [2,3,6] [Mv 17 6,Bc 18 .neq 33 17 .i64 0])
 (.cond (T 18) (.seq (Rg [6] [Mv 19 6,Ol 4 (.assign (.const (.slice none 0 0))),As 5 19])
 .ret)
 .skip)))
 (.seq (.seq (Rg [2,3] [Ro 20 (.load1 .slice (T 3)),Ro 21 (.lenS (T 20)),Bc 22 .gtr 3 21 .i64 64])
 (.cond (T 22) (.seq (Rg [] [Ol 4 (.assign (.const (.slice none 0 0))),Ac 5 4])
 .ret)
 .skip))
 (.seq (.seq (Rg [2,3] [Ro 23 (.load1 .slice (T 3)),Ro 24 (.lenS (T 23)),Ol 25 (.move (Ci 0))])
 (.block 0 (.loop 7 (some [2,3,23,24,25]) (some [2,3,23,24,25]))))
 (.seq (Rg [2,3] [Ro 36 (.load1 .slice (T 3)),Ro 37 (.lenS (T 36)),Ol 38 (.makeFunc (.func 20) #[] #[T 2,T 3]),Ca 39 19 [T 37,T 38,.func 21] (some (.tup [.one .slice,.one (.int .i64)])),Mv 35 39,Ex 40 35 0,Ex 41 35 1,Ro 9 (.new 1 [.slice none 0 0]),Sr 1 9 40,As 10 41])
 (.seq (.seq (Rg [2,3,9,10] [Mv 42 10,Bc 43 .neq 33 42 .i64 0])
 (.cond (T 43) (.seq (Rg [10] [Mv 44 10,Ol 4 (.assign (.const (.slice none 0 0))),As 5 44])
 .ret)
 .skip))
 (.seq (Rg [2,3,9] [Ro 46 (.load1 .slice (T 3)),Ro 47 (.lenS (T 46)),Ol 48 (.makeFunc (.func 22) #[] #[T 9,T 2,T 3]),Ca 49 19 [T 47,T 48,.func 23] (some (.tup [.one .slice,.one (.int .i64)])),Mv 45 49,Ex 50 45 0,Ex 51 45 1,As 11 50,As 10 51])
 (.seq (.seq (Rg [3,10,11] [Mv 52 10,Bc 53 .neq 33 52 .i64 0])
 (.cond (T 53) (.seq (Rg [10] [Mv 54 10,Ol 4 (.assign (.const (.slice none 0 0))),As 5 54])
 .ret)
 .skip))
 (.seq (Rg [3,11] [Ro 55 (.load1 .slice (T 3)),Ro 56 (.lenS (T 55)),Ro 57 (.mkSlice 6 [.int .i64 0,.int .i64 0,.int .i64 0,.int .i64 0,.int .i64 0,.int .i64 0] (T 56) (T 56)),As 12 57])
 (.seq (.seq (Rg [3,11,12] [Ro 58 (.load1 .slice (T 3)),Ro 59 (.lenS (T 58)),Ol 60 (.move (Ci 0))])
 (.block 2 (.loop 20 (some [11,12,58,59,60]) (some [11,12,58,59,60]))))
 (.seq (Rg [12] [Mv 80 12,As 4 80,Ac 5 0])
 .ret)))))))))),
 [.tmp 4,.tmp 5],
 [(7,⟨some [2,3,23,24,25],some [2,3,23,24,25],.seq (Rg [2,3,23,24,25] [Bt 26 .lss 3 25 24])
 (.seq (.cond (T 26) .skip
 (.exit 0 (some [2,3])))
 (.seq (.block 1 (.seq (Rg [2,3,23,24,25] [Ix 27 6 23 25,Ro 28 (.load 6 [.int .i64,.int .i64,.int .i64,.int .i64,.int .i64,.int .i64] (T 27)),Nw 8 6 [.int .i64 0,.int .i64 0,.int .i64 0,.int .i64 0,.int .i64 0,.int .i64 0],Sr 6 8 28])
 (.seq (Rg [2,3,8,23,24,25] [Ro 29 (.load 6 [.int .i64,.int .i64,.int .i64,.int .i64,.int .i64,.int .i64] (T 8)),Ro 30 (.load1 .slice (T 2)),Ro 31 (.lenS (T 30)),Ca 32 18 [T 29,T 31] vB,Ol 33 (.unOp .not 4 (T 32))])
 (.cond (T 33) (.seq (Rg [] [Ol 4 (.assign (.const (.slice none 0 0))),Ac 5 8])
 .ret)
 .skip))))
 (Rg [2,3,23,24,25] [Bc 34 .add 3 25 .i64 1,Mv 25 34])))⟩),(20,⟨some [11,12,58,59,60],some [11,12,58,59,60],.seq (Rg [11,12,58,59,60] [Bt 61 .lss 3 60 59])
 (.seq (.cond (T 61) .skip
 (.exit 2 (some [12])))
 (.seq (.block 3 (.seq (Rg [11,12,58,59,60] [Mv 62 60,Ix 63 6 58 60,Ro 64 (.load 6 [.int .i64,.int .i64,.int .i64,.int .i64,.int .i64,.int .i64] (T 63)),Nw 14 6 [.int .i64 0,.int .i64 0,.int .i64 0,.int .i64 0,.int .i64 0,.int .i64 0],As 13 62,Sr 6 14 64])
 (.draw (some [11,12,13,14,58,59,60]) 15 [Dr (Mv 65 12) 0 [13,14],Dr (Mv 66 13) 1 [13,14],Dr (Fa 67 0 14) 2 [3,12,13,14],Db (L1 68 67) 3 67 [12,13,14],Dr (Fa 69 1 14) 4 [5,12,13,14],Db (L1 70 69) 5 69 [12,13,14],Dr (Mv 71 11) 6 [8,9,12,13,14],Dr (Mv 72 13) 7 [8,9,12,13,14],Dr (Ix 73 3 71 72) 8 [9,12,13,14],Db (Ro 74 (.load 3 [.int .i64,.int .i64,.int .i64] (T 73))) 9 73 [12,13,14],Dr (Fa 75 5 14) 10 [11,12,13,14],Db (L1 76 75) 11 75 [12,13,14],Dr (Ro 77 (.build [.int .i64 0,.int .i64 0,.int .i64 0,.int .i64 0,.int .i64 0,.int .i64 0] [(0,1,(T 68)),(1,1,(T 70)),(2,3,(T 74)),(5,1,(T 76))])) 12 [13,14],Dr (Ix 78 6 65 66) 13 [14],⟨Sr 6 78 77,14,.blk (T 78),[],true,true⟩])))
 (Rg [11,12,58,59,60] [Bc 79 .add 3 60 .i64 1,Mv 60 79])))⟩)],
 []⟩
theorem r7_ok:resFun (progU ()) hint live 7 Try.f7=some r7:=by kernel_rfl
def r8 : RFun :=
⟨.seq (Rg [0,1,2] [Ol 6 (.assign (.const (.bool false)))])
 (.seq (.seq (Rg [0,1,2] [Mv 30 1,Ca 31 5 [T 30] vI,Bc 32 .neq 3 31 .i64 0])
 (.cond (T 32) (.seq (Rg [] [Ol 6 (.assign (.const (.bool false)))])
 .ret)
 .skip))
 (.seq (Rg [0,1,2] [Mv 34 0,Ca 35 11 [T 34] (some (.tup [.one .slice,.one (.int .i64)])),Mv 33 35,Ex 36 33 0,Ex 37 33 1,As 7 36,As 8 37])
 (.seq (Rg [0,1,2,7,8] [Mv 39 1,Ca 40 11 [T 39] (some (.tup [.one .slice,.one (.int .i64)])),Mv 38 40,Ex 41 38 0,Ex 42 38 1,As 9 41,As 10 42])
 (.seq (Rg [0,1,2,7,8,9,10] [Mv 44 0,Ca 45 24 [T 44] (some (.tup [.one .slice,.one (.int .i64)])),Mv 43 45,Ex 46 43 0,Ex 47 43 1,As 11 46,As 12 47])
 (.seq (Rg [0,1,2,7,8,9,10,11,12] [Mv 49 1,Ca 50 24 [T 49] (some (.tup [.one .slice,.one (.int .i64)])),Mv 48 50,Ex 51 48 0,Ex 52 48 1,As 13 51,As 14 52])
 (.seq (.seq (Rg [0,1,2,7,8,9,10,11,12,13,14] [Mv 53 8,Bc 54 .neq 33 53 .i64 0,Mv 55 54,Gf 56 55 (.move (T 10)),Gf 57 55 (.binOp .neq 33 (T 56) (Ci 0) 33),Ol 58 (.pick (T 55) (.const (.bool true)) (T 57)),Mv 59 58,Gf 60 59 (.move (T 12)),Gf 61 59 (.binOp .neq 33 (T 60) (Ci 0) 33),Ol 62 (.pick (T 59) (.const (.bool true)) (T 61)),Mv 63 62,Gf 64 63 (.move (T 14)),Gf 65 63 (.binOp .neq 33 (T 64) (Ci 0) 33),Ol 66 (.pick (T 63) (.const (.bool true)) (T 65)),Mv 67 66,Gf 68 67 (.move (T 7)),Gf 69 67 (.move (T 9)),⟨some 70,some (67,false),.call (.func 12) [T 68,T 69] vB⟩,Gf 71 67 (.unOp .not 4 (T 70)),Ol 72 (.pick (T 67) (.const (.bool true)) (T 71)),Mv 73 72,Gf 74 73 (.move (T 11)),Gf 75 73 (.move (T 13)),⟨some 76,some (73,false),.call (.func 25) [T 74,T 75] vB⟩,Gf 77 73 (.unOp .not 4 (T 76)),Ol 78 (.pick (T 73) (.const (.bool true)) (T 77))])
 (.cond (T 78) (.seq (Rg [] [Ol 6 (.assign (.const (.bool false)))])
 .ret)
 .skip))
 (.seq (.seq (Rg [0,1,2,7] [Ac 15 0])
 (.block 0 (.loop 10 (some [0,1,2,7,15]) (some [0,1,2,7,15]))))
 (.seq (Rg [0,1,2] [Mv 115 0,Mv 116 2,Ca 117 26 [T 115,T 116] (some (.tup [.one .slice,.one (.int .i64)])),Mv 114 117,Ex 118 114 0,Ex 119 114 1,As 20 118,As 21 119])
 (.seq (Rg [0,1,2,20,21] [Mv 121 1,Mv 122 2,Ca 123 26 [T 121,T 122] (some (.tup [.one .slice,.one (.int .i64)])),Mv 120 123,Ex 124 120 0,Ex 125 120 1,As 22 124,As 23 125])
 (.seq (.seq (Rg [0,1,2,20,21,22,23] [Mv 126 21,Mv 127 23,Bt 128 .neq 33 126 127,Mv 129 128,Gf 130 129 (.move (T 20)),Gf 131 129 (.move (T 22)),⟨some 132,some (129,false),.call (.func 27) [T 130,T 131] vB⟩,Gf 133 129 (.unOp .not 4 (T 132)),Ol 134 (.pick (T 129) (.const (.bool true)) (T 133))])
 (.cond (T 134) (.seq (Rg [] [Ol 6 (.assign (.const (.bool false)))])
 .ret)
 .skip))
 (.seq (Rg [0,1,2] [Mv 136 0,Mv 137 2,Ca 138 28 [T 136,T 137] (some (.tup [.agg [.int .i64,.int .i64,.int .i64],.one (.int .i64)])),Mv 135 138,Ex 139 135 0,Ex 140 135 1,Nw 24 3 [.int .i64 0,.int .i64 0,.int .i64 0],Sr 3 24 139,As 25 140])
 (.seq (Rg [1,2,24,25] [Mv 142 1,Mv 143 2,Ca 144 28 [T 142,T 143] (some (.tup [.agg [.int .i64,.int .i64,.int .i64],.one (.int .i64)])),Mv 141 144,Ex 145 141 0,Ex 146 141 1,Nw 26 3 [.int .i64 0,.int .i64 0,.int .i64 0],Sr 3 26 145,As 27 146])
 (.seq (Rg [1,2,24,25,26,27] [Mv 148 1,Mv 149 2,Ca 150 13 [T 148,T 149] (some (.tup [.agg [.int .i64,.int .i64,.int .i64],.one (.int .i64)])),Mv 147 150,Ex 151 147 0,Ex 152 147 1,Nw 28 3 [.int .i64 0,.int .i64 0,.int .i64 0],Sr 3 28 151,As 29 152])
 (.seq (Rg [24,25,26,27,28,29] [Mv 153 25,Bc 154 .neq 33 153 .i64 0,Mv 155 154,Gf 156 155 (.move (T 27)),Gf 157 155 (.binOp .neq 33 (T 156) (Ci 0) 33),Ol 158 (.pick (T 155) (.const (.bool true)) (T 157)),Mv 159 158,Hf 160 159 (.load 3 [.int .i64,.int .i64,.int .i64] (T 24)),Hf 161 159 (.load 3 [.int .i64,.int .i64,.int .i64] (T 26)),Gf 162 159 (.binOp .eql 30 (T 160) (T 161) 30),Ol 163 (.pick (T 159) (.const (.bool true)) (T 162)),Mv 164 163,Gt 165 164 (.move (T 27)),Gt 166 164 (.binOp .neq 33 (T 165) (Ci 0) 33),Gt 167 164 (.move (T 166)),Gf 168 167 (.move (T 29)),Gf 169 167 (.binOp .neq 33 (T 168) (Ci 0) 33),Gt 170 164 (.pick (T 167) (.const (.bool true)) (T 169)),Gt 171 164 (.move (T 170)),Hf 172 171 (.load 3 [.int .i64,.int .i64,.int .i64] (T 26)),Hf 173 171 (.load 3 [.int .i64,.int .i64,.int .i64] (T 28)),Gf 174 171 (.binOp .eql 30 (T 172) (T 173) 30),Gt 175 164 (.pick (T 171) (.const (.bool true)) (T 174)),Ol 176 (.pick (T 164) (T 175) (.const (.bool false))),As 6 176])
 .ret)))))))))))))),
 [.tmp 6],
 [(10,⟨some [0,1,2,7,15],some [0,1,2,7,15],.seq (.seq (Rg [0,1,2,7,15] [Mv 79 15,Mv 80 7,Ro 81 (.lenS (T 80)),Bt 82 .lss 3 79 81])
 (.cond (T 82) .skip
 (.exit 0 (some [0,1,2]))))
 (.seq (.block 1 (.seq (Rg [0,1,2,7,15] [Mv 86 0,Mv 87 7,Mv 88 15,Ix 89 1 87 88,Ro 90 (.load1 .slice (T 89)),Ca 91 13 [T 86,T 90] (some (.tup [.agg [.int .i64,.int .i64,.int .i64],.one (.int .i64)])),Mv 85 91,Ex 92 85 0,Ex 93 85 1,Nw 16 3 [.int .i64 0,.int .i64 0,.int .i64 0],Sr 3 16 92,As 17 93])
 (.seq (Rg [0,1,2,7,15,16,17] [Mv 95 1,Mv 96 7,Mv 97 15,Ix 98 1 96 97,Ro 99 (.load1 .slice (T 98)),Ca 100 13 [T 95,T 99] (some (.tup [.agg [.int .i64,.int .i64,.int .i64],.one (.int .i64)])),Mv 94 100,Ex 101 94 0,Ex 102 94 1,Nw 18 3 [.int .i64 0,.int .i64 0,.int .i64 0],Sr 3 18 101,As 19 102])
 (.seq (Rg [0,1,2,7,15,16,17,18,19] [Mv 103 17,Bc 104 .eql 33 103 .i64 0,Mv 105 104,Gt 106 105 (.move (T 19)),Gt 107 105 (.binOp .eql 33 (T 106) (Ci 0) 33),Ol 108 (.pick (T 105) (T 107) (.const (.bool false))),Mv 109 108,Ht 110 109 (.load 3 [.int .i64,.int .i64,.int .i64] (T 16)),Ht 111 109 (.load 3 [.int .i64,.int .i64,.int .i64] (T 18)),Gt 112 109 (.binOp .neq 30 (T 110) (T 111) 30),Ol 113 (.pick (T 109) (T 112) (.const (.bool false)))])
 (.cond (T 113) (.seq (Rg [] [Ol 6 (.assign (.const (.bool false)))])
 .ret)
 .skip)))))
 (Rg [0,1,2,7,15] [Mv 83 15,Bc 84 .add 3 83 .i64 1,As 15 84]))⟩)],
 []⟩
theorem r8_ok:resFun (progU ()) hint live 8 Try.f8=some r8:=by kernel_rfl
def r9 : RFun :=
⟨.seq (Rg [0,1] [Ol 4 (.assign (.const (.slice none 0 0))),Ac 5 0])
 (.seq (Rg [0,1] [Mv 6 0,Mv 7 1,Ca 8 29 [T 6,T 7,.func 30] (some (.tup [.one .slice,.one (.int .i64)])),Ex 9 8 0,Ex 10 8 1,As 4 9,As 5 10])
 .ret),
 [.tmp 4,.tmp 5],
 [],
 []⟩
theorem r9_ok:resFun (progU ()) hint live 9 Try.f9=some r9:=by kernel_rfl
def r10 : RFun :=
⟨.seq (Rg [0,1] [Ol 4 (.assign (.const (.bool false)))])
 (.seq (.seq (Rg [0,1] [Mv 15 1,Ca 16 31 [T 15] vB,Ol 17 (.unOp .not 4 (T 16)),Mv 18 17,Gf 19 18 (.move (T 1)),Hf 20 18 (.lenS (T 19)),Gf 21 18 (.binOp .lss 3 (T 20) (Ci 4) 3),Ol 22 (.pick (T 18) (.const (.bool true)) (T 21))])
 (.cond (T 22) (.seq (Rg [] [Ol 4 (.assign (.const (.bool true)))])
 .ret)
 .skip))
 (.seq (Rg [0,1] [Mv 24 0,Mv 25 1,Ca 26 13 [T 24,T 25] (some (.tup [.agg [.int .i64,.int .i64,.int .i64],.one (.int .i64)])),Mv 23 26,Ex 27 23 0,Ex 28 23 1,Nw 5 3 [.int .i64 0,.int .i64 0,.int .i64 0],Sr 3 5 27,As 6 28])
 (.seq (Rg [0,1,5,6] [Mv 30 0,Mv 31 1,Ro 32 (.cutS 25 (T 31) none (some (Ci 3)) none),Ca 33 13 [T 30,T 32] (some (.tup [.agg [.int .i64,.int .i64,.int .i64],.one (.int .i64)])),Mv 29 33,Ex 34 29 0,Ex 35 29 1,Nw 7 3 [.int .i64 0,.int .i64 0,.int .i64 0],Sr 3 7 34,As 8 35])
 (.seq (.draw (some [0,1,5,6,7,8]) 15 [Dr (Mv 37 0) 0 [8,9,10,11,13,14],Dr (Mv 38 1) 1 [2,3,4,7,8,9,10,11,13,14],Dr (Ro 39 (.ixS 1 (T 38) (Ci 0))) 2 [3,4,7,8,9,10,11,13,14],Db (L1 40 39) 3 39 [4,7,8,9,10,11,13,14],⟨Ro 41 (.buildSlice 1 1 [.int .i64 0] [(0,1,(T 40))]),4,.new false,[7,8,9,10,11,13,14],false,true⟩,Dr (Mv 42 1) 5 [6,7,8,9,10,11,13,14],Dr (Ro 43 (.cutS 25 (T 42) (some (Ci 2)) none none)) 6 [7,8,9,10,11,13,14],⟨Nw 9 3 [.int .i64 0,.int .i64 0,.int .i64 0],12,.new true,[13,14],false,true⟩,⟨⟨some 44,none,.op false (.old (.call ⟨.builtin .append,#[T 41,T 43],#[25,25]⟩))⟩,7,.app [T 41,T 43],[8,9,10,11,13,14],false,false⟩,⟨Ca 45 13 [T 37,T 44] (some (.tup [.agg [.int .i64,.int .i64,.int .i64],.one (.int .i64)])),8,.all,[9,10,11,13,14],false,false⟩,Dr (Mv 36 45) 9 [10,11,13,14],Dr (Ex 46 36 0) 10 [13,14],Dr (Ex 47 36 1) 11 [14],⟨Sr 3 9 46,13,.blk (T 9),[14],true,true⟩,Dr (As 10 47) 14 []])
 (.seq (.seq (Rg [5,6,7,8,9,10] [Mv 48 6,Bc 49 .neq 33 48 .i64 0,Mv 50 49,Gf 51 50 (.move (T 8)),Gf 52 50 (.binOp .neq 33 (T 51) (Ci 0) 33),Ol 53 (.pick (T 50) (.const (.bool true)) (T 52)),Mv 54 53,Gf 55 54 (.move (T 10)),Gf 56 54 (.binOp .neq 33 (T 55) (Ci 0) 33),Ol 57 (.pick (T 54) (.const (.bool true)) (T 56))])
 (.cond (T 57) (.seq (Rg [] [Ol 4 (.assign (.const (.bool true)))])
 .ret)
 .skip))
 (.seq (Rg [5,7,9] [Ro 59 (.load 3 [.int .i64,.int .i64,.int .i64] (T 7)),Ro 60 (.load 3 [.int .i64,.int .i64,.int .i64] (T 9)),Ca 61 21 [T 59,T 60] (some (.tup [.agg [.int .i64,.int .i64,.int .i64],.one (.int .i64)])),Mv 58 61,Ex 62 58 0,Ex 63 58 1,Nw 11 3 [.int .i64 0,.int .i64 0,.int .i64 0],Sr 3 11 62,As 12 63])
 (.seq (.seq (Rg [5,11,12] [Mv 64 12,Bc 65 .neq 33 64 .i64 0])
 (.cond (T 65) (.seq (Rg [] [Ol 4 (.assign (.const (.bool true)))])
 .ret)
 .skip))
 (.seq (Rg [5,11] [Ro 67 (.load 3 [.int .i64,.int .i64,.int .i64] (T 11)),Ca 68 32 [T 67] (some (.tup [.agg [.int .i64,.int .i64,.int .i64],.one (.int .i64)])),Mv 66 68,Ex 69 66 0,Ex 70 66 1,Nw 13 3 [.int .i64 0,.int .i64 0,.int .i64 0],Sr 3 13 69,As 14 70])
 (.seq (Rg [5,13,14] [Mv 71 14,Bc 72 .eql 33 71 .i64 0,Mv 73 72,Ht 74 73 (.load 3 [.int .i64,.int .i64,.int .i64] (T 13)),Ht 75 73 (.load 3 [.int .i64,.int .i64,.int .i64] (T 5)),Gt 76 73 (.binOp .eql 30 (T 74) (T 75) 30),Ol 77 (.pick (T 73) (T 76) (.const (.bool false))),Mv 78 77,Ht 79 78 (.load 3 [.int .i64,.int .i64,.int .i64] (T 13)),⟨some 80,some (78,true),.call (.func 15) [T 79] vI⟩,Gt 81 78 (.binOp .eql 3 (T 80) (Ci 0) 3),Ol 82 (.pick (T 78) (T 81) (.const (.bool false))),As 4 82])
 .ret))))))))),
 [.tmp 4],
 [],
 []⟩
theorem r10_ok:resFun (progU ()) hint live 10 Try.f10=some r10:=by kernel_rfl
def r11 : RFun :=
⟨.seq (Rg [0] [Ol 2 (.assign (.const (.slice none 0 0))),Ac 3 0])
 (.seq (.seq (Rg [0] [Mv 7 0,Ca 8 33 [T 7] vI,As 4 8])
 (.seq (Rg [0,4] [Mv 9 4,Bc 10 .neq 33 9 .i64 0])
 (.cond (T 10) (.seq (Rg [4] [Mv 11 4,Ol 2 (.assign (.const (.slice none 0 0))),As 3 11])
 .ret)
 .skip)))
 (.seq (Rg [0] [Mv 13 0,Ca 14 34 [T 13] (some (.tup [.one .slice,.one .slice])),Mv 12 14,Ex 15 12 0,Ex 16 12 1,As 5 15,As 6 16])
 (.seq (Rg [6] [Mv 17 6,As 2 17,Ac 3 0])
 .ret))),
 [.tmp 2,.tmp 3],
 [],
 []⟩
theorem r11_ok:resFun (progU ()) hint live 11 Try.f11=some r11:=by kernel_rfl
def r12 : RFun :=
⟨.seq (Rg [0,1] [Ol 4 (.assign (.const (.bool false)))])
 (.seq (.seq (Rg [0,1] [Mv 6 0,Ro 7 (.lenS (T 6)),Mv 8 1,Ro 9 (.lenS (T 8)),Bt 10 .neq 3 7 9])
 (.cond (T 10) (.seq (Rg [] [Ol 4 (.assign (.const (.bool false)))])
 .ret)
 .skip))
 (.seq (.seq (Rg [0,1] [Ac 5 0])
 (.block 0 (.loop 4 (some [0,1,5]) (some [0,1,5]))))
 (.seq (Rg [] [Ol 4 (.assign (.const (.bool true)))])
 .ret))),
 [.tmp 4],
 [(4,⟨some [0,1,5],some [0,1,5],.seq (.seq (Rg [0,1,5] [Mv 11 5,Mv 12 0,Ro 13 (.lenS (T 12)),Bt 14 .lss 3 11 13])
 (.cond (T 14) .skip
 (.exit 0 (some []))))
 (.seq (.block 1 (.seq (.draw (some [0,1,5]) 10 [Dr (Mv 17 0) 0 [2,3,8,9],Dr (Mv 18 5) 1 [2,3,8,9],Dr (Ix 19 1 17 18) 2 [3,8,9],Db (Ro 20 (.load1 .slice (T 19))) 3 19 [8,9],Dr (Mv 21 1) 4 [6,7,8,9],Dr (Mv 22 5) 5 [6,7,8,9],Dr (Ix 23 1 21 22) 6 [7,8,9],Db (Ro 24 (.load1 .slice (T 23))) 7 23 [8,9],⟨Ca 25 27 [T 20,T 24] vB,8,.all,[9],false,false⟩,Dr (Ol 26 (.unOp .not 4 (T 25))) 9 []])
 (.cond (T 26) (.seq (Rg [] [Ol 4 (.assign (.const (.bool false)))])
 .ret)
 .skip)))
 (Rg [0,1,5] [Mv 15 5,Bc 16 .add 3 15 .i64 1,As 5 16]))⟩)],
 []⟩
theorem r12_ok:resFun (progU ()) hint live 12 Try.f12=some r12:=by kernel_rfl
def r13 : RFun :=
⟨.seq (Rg [0,1] [Nw 4 3 [.int .i64 0,.int .i64 0,.int .i64 0],Ac 5 0])
 (.seq (.seq (Rg [0,1,4] [Mv 15 0,Ca 16 33 [T 15] vI,As 6 16])
 (.seq (Rg [0,1,4,6] [Mv 17 6,Bc 18 .neq 33 17 .i64 0])
 (.cond (T 18) (.seq (Rg [4,6] [Ro 19 (.build [.int .i64 0,.int .i64 0,.int .i64 0] []),Mv 20 6,Sr 3 4 19,As 5 20])
 .ret)
 .skip)))
 (.seq (.seq (Rg [0,1,4] [Mv 21 1,Ro 22 (.lenS (T 21)),Bc 23 .lss 3 22 .i64 3,Mv 24 23,Gf 25 24 (.move (T 1)),Hf 26 24 (.lenS (T 25)),Gf 27 24 (.binOp .gtr 3 (T 26) (Ci 8) 3),Ol 28 (.pick (T 24) (.const (.bool true)) (T 27)),Mv 29 28,Gf 30 29 (.move (T 1)),⟨some 31,some (29,false),.call (.func 35) [T 30] vB⟩,Gf 32 29 (.unOp .not 4 (T 31)),Ol 33 (.pick (T 29) (.const (.bool true)) (T 32))])
 (.cond (T 33) (.seq (Rg [4] [Ro 34 (.build [.int .i64 0,.int .i64 0,.int .i64 0] []),Sr 3 4 34,Ac 5 2])
 .ret)
 .skip))
 (.seq (Rg [0,1,4] [Ol 7 (.assign (.const (.slice none 0 0)))])
 (.seq (.seq (Rg [0,1,4,7] [Mv 35 1,Ro 36 (.lenS (T 35)),Ol 37 (.move (Ci 0))])
 (.block 0 (.loop 8 none (some [0,1,4,7,35,36,37]))))
 (.seq (Rg [0,4,7] [Mv 57 0,Mv 58 7,Ca 59 36 [T 57,T 58] (some (.tup [.one .slice,.one (.int .i64)])),Mv 56 59,Ex 60 56 0,Ex 61 56 1,As 10 60,As 11 61])
 (.seq (.seq (Rg [4,10,11] [Mv 62 11,Bc 63 .neq 33 62 .i64 0])
 (.cond (T 63) (.seq (Rg [4,11] [Ro 64 (.build [.int .i64 0,.int .i64 0,.int .i64 0] []),Mv 65 11,Sr 3 4 64,As 5 65])
 .ret)
 .skip))
 (.seq (Rg [4,10] [Mv 67 10,Ro 68 (.ixS 3 (T 67) (Ci 0)),Ro 69 (.load 3 [.int .i64,.int .i64,.int .i64] (T 68)),Ca 70 32 [T 69] (some (.tup [.agg [.int .i64,.int .i64,.int .i64],.one (.int .i64)])),Mv 66 70,Ex 71 66 0,Ex 72 66 1,Nw 12 3 [.int .i64 0,.int .i64 0,.int .i64 0],Sr 3 12 71,As 11 72])
 (.seq (.seq (Rg [4,10,11,12] [Mv 73 11,Bc 74 .neq 33 73 .i64 0])
 (.cond (T 74) (.seq (Rg [4,11] [Ro 75 (.build [.int .i64 0,.int .i64 0,.int .i64 0] []),Mv 76 11,Sr 3 4 75,As 5 76])
 .ret)
 .skip))
 (.seq (.seq (Rg [4,10,12] [Mv 77 10,Ro 78 (.cutS 23 (T 77) (some (Ci 1)) none none),Ro 79 (.lenS (T 78)),Ol 80 (.move (Ci 0))])
 (.block 2 (.loop 19 (some [4,12,78,79,80]) (some [4,12,78,79,80]))))
 (.seq (Rg [4,12] [Ro 95 (.load 3 [.int .i64,.int .i64,.int .i64] (T 12)),Sr 3 4 95,Ac 5 0])
 .ret)))))))))),
 [.agg 4 3 [.int .i64,.int .i64,.int .i64],.tmp 5],
 [(8,⟨none,some [0,1,4,7,35,36,37],.seq (Rg [0,1,4,7,35,36,37] [Bt 38 .lss 3 37 36])
 (.seq (.cond (T 38) .skip
 (.exit 0 (some [0,4,7])))
 (.seq (.block 1 (.seq (Rg [0,1,4,7,35,36,37] [Mv 39 37,Ix 40 1 35 37,L1 41 40,As 8 39,As 9 41])
 (Rg [0,1,4,7,8,9,35,36,37] [Mv 42 7,Mv 43 9,Mv 44 1,Mv 45 8,Bc 46 .add 3 45 .i64 1,Mv 47 1,Ro 48 (.lenS (T 47)),Bt 49 .rem 3 46 48,Ix 50 1 44 49,L1 51 50,Ro 52 (.build z2 [(0,1,(T 43)),(1,1,(T 51))]),Ro 53 (.buildSlice 2 1 z2 [(0,2,(T 52))]),⟨some 54,none,.op false (.old (.call ⟨.builtin .append,#[T 42,T 53],#[74,74]⟩))⟩,As 7 54])))
 (Rg [0,1,4,7,35,36,37] [Bc 55 .add 3 37 .i64 1,Mv 37 55])))⟩),(19,⟨some [4,12,78,79,80],some [4,12,78,79,80],.seq (Rg [4,12,78,79,80] [Bt 81 .lss 3 80 79])
 (.seq (.cond (T 81) .skip
 (.exit 2 (some [4,12])))
 (.seq (.block 3 (.seq (Rg [4,12,78,79,80] [Ix 82 3 78 80,Ro 83 (.load 3 [.int .i64,.int .i64,.int .i64] (T 82)),Nw 14 3 [.int .i64 0,.int .i64 0,.int .i64 0],Sr 3 14 83])
 (.seq (Rg [4,12,14,78,79,80] [Ro 85 (.load 3 [.int .i64,.int .i64,.int .i64] (T 12)),Ro 86 (.load 3 [.int .i64,.int .i64,.int .i64] (T 14)),Ca 87 37 [T 85,T 86] (some (.tup [.agg [.int .i64,.int .i64,.int .i64],.one (.int .i64)])),Mv 84 87,Ex 88 84 0,Ex 89 84 1,Sr 3 12 88,As 11 89])
 (.seq (Rg [4,11,12,78,79,80] [Mv 90 11,Bc 91 .neq 33 90 .i64 0])
 (.cond (T 91) (.seq (Rg [4,11] [Ro 92 (.build [.int .i64 0,.int .i64 0,.int .i64 0] []),Mv 93 11,Sr 3 4 92,As 5 93])
 .ret)
 .skip)))))
 (Rg [4,12,78,79,80] [Bc 94 .add 3 80 .i64 1,Mv 80 94])))⟩)],
 []⟩
theorem r13_ok:resFun (progU ()) hint live 13 Try.f13=some r13:=by kernel_rfl
def r14 : RFun :=
⟨.seq (Rg [0,1] [Ac 4 0])
 (.seq (.seq (Rg [0,1] [Mv 6 0,Ro 7 (.lenS (T 6)),Bc 8 .gtr 3 7 .i64 64])
 (.cond (T 8) (.seq (Rg [] [Ac 4 4])
 .ret)
 .skip))
 (.seq (.seq (Rg [0,1] [Ac 5 0])
 (.block 0 (.loop 4 none (some [0,1,5]))))
 (.seq (Rg [] [Ac 4 0])
 .ret))),
 [.tmp 4],
 [(4,⟨none,some [0,1,5],.seq (.seq (Rg [0,1,5] [Mv 9 5,Mv 10 0,Ro 11 (.lenS (T 10)),Bt 12 .lss 3 9 11])
 (.cond (T 12) .skip
 (.exit 0 (some []))))
 (.seq (.block 1 (.seq (Rg [0,1,5] [Mv 15 0,Mv 16 5,Ix 17 6 15 16,Ro 18 (.load 6 [.int .i64,.int .i64,.int .i64,.int .i64,.int .i64,.int .i64] (T 17)),Mv 19 1,Ca 20 38 [T 18,T 19] vB,Ol 21 (.unOp .not 4 (T 20))])
 (.cond (T 21) (.seq (Rg [] [Ac 4 8])
 .ret)
 .skip)))
 (Rg [0,1,5] [Mv 13 5,Bc 14 .add 3 13 .i64 1,As 5 14]))⟩)],
 []⟩
theorem r14_ok:resFun (progU ()) hint live 14 Try.f14=some r14:=by kernel_rfl
