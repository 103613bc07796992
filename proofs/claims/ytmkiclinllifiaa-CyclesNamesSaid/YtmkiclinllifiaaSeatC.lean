import Derived.Test.YtmkiclinllifiaaSeat0
import Derived.Test.YtmkiclinllifiaaSymS
set_option linter.unusedSimpArgs false
set_option linter.unusedVariables false
namespace Go.Proofs.Ytmkiclinllifiaa
open Go.Sim
set_option maxRecDepth 100000
def r20 : RFun :=
⟨.seq (Rg [0,1] [Ol 4 (.assign (.const (.bool false)))])
 (.seq (.seq (Rg [0,1] [Mv 6 0,Ro 7 (.lenS (T 6)),Mv 8 1,Ro 9 (.lenS (T 8)),Bt 10 .neq 3 7 9])
 (.cond (T 10) (.seq (Rg [] [Ol 4 (.assign (.const (.bool false)))])
 .ret)
 .skip))
 (.seq (.seq (Rg [0,1] [Ac 5 0])
 (.block 0 (.loop 4 (some [0,1,5]) (some [0,1,5]))))
 (.seq (Rg [] [Ol 4 (.assign (.const (.bool true)))])
 .ret))),
 [.tmp 4],
 [(4,⟨some [0,1,5],some [0,1,5],.seq (.seq (Rg [0,1,5] [Mv 11 5,Mv 12 0,Ro 13 (.lenS (T 12)),Bt 14 .lss 3 11 13])
 (.cond (T 14) .skip
 (.exit 0 (some []))))
 (.seq (.block 1 (.seq (.draw (some [0,1,5]) 9 [Dr (Mv 17 0) 0 [2,3,8],Dr (Mv 18 5) 1 [2,3,8],Dr (Ix 19 1 17 18) 2 [3,8],Db (L1 20 19) 3 19 [8],Dr (Mv 21 1) 4 [6,7,8],Dr (Mv 22 5) 5 [6,7,8],Dr (Ix 23 1 21 22) 6 [7,8],Db (L1 24 23) 7 23 [8],Dr (Bt 25 .neq 3 20 24) 8 []])
 (.cond (T 25) (.seq (Rg [] [Ol 4 (.assign (.const (.bool false)))])
 .ret)
 .skip)))
 (Rg [0,1,5] [Mv 15 5,Bc 16 .add 3 15 .i64 1,As 5 16]))⟩)],
 []⟩
theorem r20_ok:resFun (progU ()) hint live 20 Try.f20=some r20:=by kernel_rfl
def r21 : RFun :=
⟨.seq (Rg [] [Ol 0 (.assign (.const (.bool false)))])
 (.seq (Rg [] [Ca 13 34 [] (some (.val (.one .slice))),Ca 14 10 [T 13] (some (.tup [.one .slice,.one (.int .i64),.one (.int .i64)])),Mv 12 14,Ex 15 12 0,Ex 16 12 1,Ex 17 12 2,As 1 15,As 2 16,As 3 17])
 (.seq (Rg [1,2,3] [Ca 19 34 [] (some (.val (.one .slice))),Ca 20 12 [T 19] (some (.tup [.one .slice,.one (.int .i64)])),Mv 18 20,Ex 21 18 0,Ex 22 18 1,As 4 21,As 5 22])
 (.seq (Rg [1,2,3,4,5] [Ca 24 34 [] (some (.val (.one .slice))),Ca 25 14 [T 24] (some (.tup [.one .slice,.one (.int .i64)])),Mv 23 25,Ex 26 23 0,Ex 27 23 1,As 6 26,As 7 27])
 (.seq (Rg [1,2,3,4,5,6,7] [Ca 29 34 [] (some (.val (.one .slice))),Ro 30 (.buildSlice 1 4 [.int .i64 0,.int .i64 0,.int .i64 0,.int .i64 0] [(0,1,(Ci 0)),(1,1,(Ci 1)),(2,1,(Ci 2)),(3,1,(Ci 3))]),Ca 31 23 [T 29,T 30] (some (.tup [.one .slice,.one (.int .i64)])),Mv 28 31,Ex 32 28 0,Ex 33 28 1,As 8 32,As 9 33])
 (.seq (Rg [1,2,3,4,5,6,7,8,9] [Ca 35 34 [] (some (.val (.one .slice))),Ro 36 (.buildSlice 1 3 [.int .i64 0,.int .i64 0,.int .i64 0] [(0,1,(Ci 0)),(1,1,(Ci 3)),(2,1,(Ci 2))]),Ca 37 23 [T 35,T 36] (some (.tup [.one .slice,.one (.int .i64)])),Mv 34 37,Ex 38 34 0,Ex 39 34 1,As 10 38,As 11 39])
 (.seq (Rg [1,2,3,4,5,6,7,8,9,10,11] [Mv 40 3,Bc 41 .eql 24 40 .i64 0,Mv 42 41,Gt 43 42 (.move (T 2)),Gt 44 42 (.binOp .eql 3 (T 43) (Ci 1) 3),Ol 45 (.pick (T 42) (T 44) (.const (.bool false))),Mv 46 45,Gt 47 46 (.move (T 1)),Ht 48 46 (.build z2 [(0,1,(Ci 0)),(1,1,(Ci 1))]),Ht 49 46 (.build z2 [(0,1,(Ci 0)),(1,1,(Ci 2))]),Ht 50 46 (.build z2 [(0,1,(Ci 0)),(1,1,(Ci 3))]),Ht 51 46 (.buildSlice 2 3 [.int .i64 0,.int .i64 0,.int .i64 0,.int .i64 0,.int .i64 0,.int .i64 0] [(0,2,(T 48)),(2,2,(T 49)),(4,2,(T 50))]),⟨some 52,some (46,true),.call (.func 18) [T 47,T 51] vB⟩,Ol 53 (.pick (T 46) (T 52) (.const (.bool false))),Mv 54 53,Gt 55 54 (.move (T 5)),Gt 56 54 (.binOp .eql 24 (T 55) (Ci 0) 24),Ol 57 (.pick (T 54) (T 56) (.const (.bool false))),Mv 58 57,Gt 59 58 (.move (T 4)),Ht 60 58 (.build z2 [(0,1,(Ci 1)),(1,1,(Ci 2))]),Ht 61 58 (.build z2 [(0,1,(Ci 2)),(1,1,(Ci 3))]),Ht 62 58 (.buildSlice 2 2 [.int .i64 0,.int .i64 0,.int .i64 0,.int .i64 0] [(0,2,(T 60)),(2,2,(T 61))]),⟨some 63,some (58,true),.call (.func 18) [T 59,T 62] vB⟩,Ol 64 (.pick (T 58) (T 63) (.const (.bool false))),Mv 65 64,Gt 66 65 (.move (T 7)),Gt 67 65 (.binOp .eql 24 (T 66) (Ci 0) 24),Ol 68 (.pick (T 65) (T 67) (.const (.bool false))),Mv 69 68,Gt 70 69 (.move (T 6)),Ht 71 69 (.buildSlice 1 3 [.int .i64 0,.int .i64 0,.int .i64 0] [(0,1,(Ci 1)),(1,1,(Ci 2)),(2,1,(Ci 0))]),Ht 72 69 (.buildSlice 1 3 [.int .i64 0,.int .i64 0,.int .i64 0] [(0,1,(Ci 2)),(1,1,(Ci 3)),(2,1,(Ci 0))]),Ht 73 69 (.buildSlice 1 2 [.slice none 0 0,.slice none 0 0] [(0,1,(T 71)),(1,1,(T 72))]),⟨some 74,some (69,true),.call (.func 19) [T 70,T 73] vB⟩,Ol 75 (.pick (T 69) (T 74) (.const (.bool false))),Mv 76 75,Gt 77 76 (.move (T 9)),Gt 78 76 (.binOp .eql 24 (T 77) (Ci 0) 24),Ol 79 (.pick (T 76) (T 78) (.const (.bool false))),Mv 80 79,Gt 81 80 (.move (T 8)),Ht 82 80 (.buildSlice 1 2 z2 [(0,1,(Ci 1)),(1,1,(Ci 1))]),⟨some 83,some (80,true),.call (.func 20) [T 81,T 82] vB⟩,Ol 84 (.pick (T 80) (T 83) (.const (.bool false))),Mv 85 84,Gt 86 85 (.move (T 11)),Gt 87 85 (.binOp .eql 24 (T 86) (Ci 0) 24),Ol 88 (.pick (T 85) (T 87) (.const (.bool false))),Mv 89 88,Gt 90 89 (.move (T 10)),Ht 91 89 (.buildSlice 1 2 z2 [(0,1,(Ci 0)),(1,1,(.const (.int .i64 (-1))))]),⟨some 92,some (89,true),.call (.func 20) [T 90,T 91] vB⟩,Ol 93 (.pick (T 89) (T 92) (.const (.bool false))),As 0 93])
 .ret)))))),
 [.tmp 0],
 [],
 []⟩
theorem r21_ok:resFun (progU ()) hint live 21 Try.f21=some r21:=by kernel_rfl
def r22 : RFun :=
⟨.seq (Rg [0] [Ac 2 0])
 (.seq (.seq (Rg [0] [Mv 6 0,Ca 7 46 [T 6,.const (.int .i64 8)] vI,As 3 7])
 (.seq (Rg [0,3] [Mv 8 3,Bc 9 .neq 3 8 .i64 0])
 (.cond (T 9) (.seq (Rg [3] [Mv 10 3,As 2 10])
 .ret)
 .skip)))
 (.seq (.seq (Rg [0] [Ac 4 0])
 (.block 0 (.loop 5 (some [0,4]) (some [0,4]))))
 (.seq (Rg [] [Ac 2 0])
 .ret))),
 [.tmp 2],
 [(5,⟨some [0,4],some [0,4],.seq (.seq (Rg [0,4] [Mv 11 4,Mv 12 0,Ro 13 (.lenS (T 12)),Bt 14 .lss 3 11 13])
 (.cond (T 14) .skip
 (.exit 0 (some []))))
 (.seq (.block 1 (.seq (Rg [0,4] [Ac 5 0])
 (.block 2 (.loop 8 (some [0,4,5]) (some [0,4,5])))))
 (Rg [0,4] [Mv 15 4,Bc 16 .add 3 15 .i64 1,As 4 16]))⟩),(8,⟨some [0,4,5],some [0,4,5],.seq (.seq (Rg [0,4,5] [Mv 17 5,Mv 18 4,Bt 19 .lss 3 17 18])
 (.cond (T 19) .skip
 (.exit 2 (some [0,4]))))
 (.seq (.block 3 (.seq (.draw (some [0,4,5]) 24 [Dr (Mv 22 0) 0 [2,3,4,10,11,12,13,14,15,16,17,18,19,20,21,22,23],Dr (Mv 23 4) 1 [2,3,4,10,11,12,13,14,15,16,17,18,19,20,21,22,23],Dr (Ix 24 6 22 23) 2 [3,4,10,11,12,13,14,15,16,17,18,19,20,21,22,23],Dr (Fa 25 0 24) 3 [4,10,11,12,13,14,15,16,17,18,19,20,21,22,23],Db (L1 26 25) 4 25 [10,11,12,13,14,15,16,17,18,19,20,21,22,23],Dr (Mv 27 0) 5 [7,8,9,10,11,12,13,14,15,16,17,18,19,20,21,22,23],Dr (Mv 28 5) 6 [7,8,9,10,11,12,13,14,15,16,17,18,19,20,21,22,23],Dr (Ix 29 6 27 28) 7 [8,9,10,11,12,13,14,15,16,17,18,19,20,21,22,23],Dr (Fa 30 0 29) 8 [9,10,11,12,13,14,15,16,17,18,19,20,21,22,23],Db (L1 31 30) 9 30 [10,11,12,13,14,15,16,17,18,19,20,21,22,23],Dr (Bt 32 .eql 3 26 31) 10 [11,12,13,14,15,16,17,18,19,20,21,22,23],Dr (Mv 33 32) 11 [12,13,14,15,16,17,18,19,20,21,22,23],⟨Gt 34 33 (.move (T 0)),12,.none,[14,15,16,22,23],false,true⟩,⟨Gt 35 33 (.move (T 4)),13,.none,[14,15,16,22,23],false,true⟩,⟨Ht 36 33 (.ixS 6 (T 34) (T 35)),14,.none,[15,16,22,23],false,true⟩,⟨Ht 37 33 (.fieldAddr 1 (T 36)),15,.none,[16,22,23],false,true⟩,⟨Ht 38 33 (.load1 (.int .i64) (T 37)),16,.blk (T 37),[22,23],false,true⟩,⟨Gt 39 33 (.move (T 0)),17,.none,[19,20,21,22,23],false,true⟩,⟨Gt 40 33 (.move (T 5)),18,.none,[19,20,21,22,23],false,true⟩,⟨Ht 41 33 (.ixS 6 (T 39) (T 40)),19,.none,[20,21,22,23],false,true⟩,⟨Ht 42 33 (.fieldAddr 1 (T 41)),20,.none,[21,22,23],false,true⟩,⟨Ht 43 33 (.load1 (.int .i64) (T 42)),21,.blk (T 42),[22,23],false,true⟩,⟨Gt 44 33 (.binOp .eql 3 (T 38) (T 43) 3),22,.none,[23],false,true⟩,Dr (Ol 45 (.pick (T 33) (T 44) (.const (.bool false)))) 23 []])
 (.cond (T 45) (.seq (Rg [] [Ac 2 14])
 .ret)
 .skip)))
 (Rg [0,4,5] [Mv 20 5,Bc 21 .add 3 20 .i64 1,As 5 21]))⟩)],
 []⟩
def r23 : RFun :=
⟨.seq (Rg [0,1] [Ol 4 (.assign (.const (.slice none 0 0))),Ac 5 0])
 (.seq (.seq (Rg [0,1] [Mv 16 0,Ca 17 35 [T 16] vI,As 6 17])
 (.seq (Rg [0,1,6] [Mv 18 6,Bc 19 .neq 24 18 .i64 0])
 (.cond (T 19) (.seq (Rg [6] [Mv 20 6,Ol 4 (.assign (.const (.slice none 0 0))),As 5 20])
 .ret)
 .skip)))
 (.seq (.seq (Rg [0,1] [Mv 22 0,Mv 23 1,Ca 24 32 [T 22,T 23] (some (.tup [.agg [.int .i64,.int .i64,.int .i64],.one (.int .i64)])),Mv 21 24,Ex 25 21 0,Ex 26 21 1,Nw 7 3 [.int .i64 0,.int .i64 0,.int .i64 0],Sr 3 7 25,As 8 26])
 (.seq (Rg [0,1,8] [Mv 27 8,Bc 28 .eql 24 27 .i64 2,Mv 29 28,Gf 30 29 (.move (T 8)),Gf 31 29 (.binOp .eql 24 (T 30) (Ci 6) 24),Ol 32 (.pick (T 29) (.const (.bool true)) (T 31))])
 (.cond (T 32) (.seq (Rg [8] [Mv 33 8,Ol 4 (.assign (.const (.slice none 0 0))),As 5 33])
 .ret)
 .skip)))
 (.seq (Rg [0,1] [Ol 34 (.makeMap 71 none),As 9 34])
 (.seq (.seq (Rg [0,1,9] [Mv 35 1,Ro 36 (.lenS (T 35)),Ol 37 (.move (Ci 0))])
 (.block 0 (.loop 9 none (some [0,1,9,35,36,37]))))
 (.seq (Rg [0,9] [Ol 12 (.assign (.const (.slice none 0 0)))])
 (.seq (.seq (Rg [0,9,12] [Mv 54 0,Mv 55 0,Ca 56 39 [T 55] (some (.val (.one .any))),Ca 57 38 [T 54,T 56] (some (.val (.one .slice))),Ro 58 (.lenS (T 57)),Ol 59 (.move (Ci 0))])
 (.block 2 (.loop 15 (some [9,12,57,58,59]) (some [9,12,57,58,59]))))
 (.seq (Rg [12] [Mv 78 12,As 4 78,Ac 5 0])
 .ret))))))),
 [.tmp 4,.tmp 5],
 [(9,⟨none,some [0,1,9,35,36,37],.seq (Rg [0,1,9,35,36,37] [Bt 38 .lss 3 37 36])
 (.seq (.cond (T 38) .skip
 (.exit 0 (some [0,9])))
 (.seq (.block 1 (.seq (Rg [0,1,9,35,36,37] [Mv 39 37,Ix 40 1 35 37,L1 41 40,As 10 39,As 11 41])
 (Rg [0,1,9,10,11,35,36,37] [Mv 42 9,Mv 43 11,Mv 44 1,Mv 45 10,Bc 46 .add 3 45 .i64 1,Mv 47 1,Ro 48 (.lenS (T 47)),Bt 49 .rem 3 46 48,Ix 50 1 44 49,L1 51 50,Ro 52 (.build z2 [(0,1,(T 43)),(1,1,(T 51))]),⟨none,none,.op false (.old (.mapUpdate 71 (T 42) (T 52) (.const (.bool true))))⟩])))
 (Rg [0,1,9,35,36,37] [Bc 53 .add 3 37 .i64 1,Mv 37 53])))⟩),(15,⟨some [9,12,57,58,59],some [9,12,57,58,59],.seq (Rg [9,12,57,58,59] [Bt 60 .lss 3 59 58])
 (.seq (.cond (T 60) .skip
 (.exit 2 (some [12])))
 (.seq (.block 3 (.seq (Rg [9,12,57,58,59] [Ix 61 2 57 59,Ld 62 61,Nw 14 2 z2,Sr 2 14 62])
 (.seq (Rg [9,12,14,57,58,59] [Ac 15 0])
 (.seq (.seq (Rg [9,12,14,15,57,58,59] [Mv 63 9,Ld 64 14,Ol 65 (.lookup 71 (T 63) (T 64) false)])
 (.cond (T 65) (Rg [9,12,57,58,59] [Ac 15 1])
 (.seq (Rg [9,12,14,15,57,58,59] [Mv 66 9,Fa 67 1 14,L1 68 67,Fa 69 0 14,L1 70 69,Ro 71 (.build z2 [(0,1,(T 68)),(1,1,(T 70))]),Ol 72 (.lookup 71 (T 66) (T 71) false)])
 (.cond (T 72) (Rg [9,12,57,58,59] [Ol 15 (.assign (.const (.int .i64 (-1))))])
 .skip))))
 (Rg [9,12,15,57,58,59] [Mv 73 12,Mv 74 15,Ro 75 (.buildSlice 1 1 [.int .i64 0] [(0,1,(T 74))]),⟨some 76,none,.op false (.old (.call ⟨.builtin .append,#[T 73,T 75],#[38,38]⟩))⟩,As 12 76])))))
 (Rg [9,12,57,58,59] [Bc 77 .add 3 59 .i64 1,Mv 59 77])))⟩)],
 []⟩
theorem r23_ok:resFun (progU ()) hint live 23 Try.f23=some r23:=by kernel_rfl
def r29 : RFun :=
⟨.seq (Rg [0,1] [Nw 4 3 [.int .i64 0,.int .i64 0,.int .i64 0],Ac 5 0])
 (.seq (Rg [0,1,4] [Mv 21 0,Mv 22 1,Ca 23 23 [T 21,T 22] (some (.tup [.one .slice,.one (.int .i64)])),Mv 20 23,Ex 24 20 0,Ex 25 20 1,As 6 24,As 7 25])
 (.seq (.seq (Rg [0,4,6,7] [Mv 26 7,Bc 27 .neq 24 26 .i64 0])
 (.cond (T 27) (.seq (Rg [4,7] [Ro 28 (.build [.int .i64 0,.int .i64 0,.int .i64 0] []),Mv 29 7,Sr 3 4 28,As 5 29])
 .ret)
 .skip))
 (.seq (Rg [0,4,6] [Mv 31 0,Ca 32 41 [T 31] (some (.tup [.one .slice,.one .slice])),Mv 30 32,Ex 33 30 0,Ex 34 30 1,As 8 33,As 9 34])
 (.seq (Rg [0,4,6,9] [Ol 10 (.assign (.const (.slice none 0 0)))])
 (.seq (.seq (Rg [0,4,6,9,10] [Mv 35 6,Ro 36 (.lenS (T 35)),Ol 37 (.move (Ci 0))])
 (.block 0 (.loop 7 (some [0,4,9,10,35,36,37]) (some [0,4,9,10,35,36,37]))))
 (.seq (Rg [4,10] [Ro 73 (.build [.int .i64 0,.int .i64 0,.int .i64 0] [(0,1,(Ci 1)),(2,1,(Ci 1))]),Nw 15 3 [.int .i64 0,.int .i64 0,.int .i64 0],Sr 3 15 73])
 (.seq (.seq (Rg [4,10,15] [Mv 74 10,Ro 75 (.lenS (T 74)),Ol 76 (.move (Ci 0))])
 (.block 2 (.loop 19 (some [4,15,74,75,76]) (some [4,15,74,75,76]))))
 (.seq (Rg [4,15] [Ro 100 (.load 3 [.int .i64,.int .i64,.int .i64] (T 15)),Sr 3 4 100,Ac 5 0])
 .ret)))))))),
 [.agg 4 3 [.int .i64,.int .i64,.int .i64],.tmp 5],
 [(7,⟨some [0,4,9,10,35,36,37],some [0,4,9,10,35,36,37],.seq (Rg [0,4,9,10,35,36,37] [Bt 38 .lss 3 37 36])
 (.seq (.cond (T 38) .skip
 (.exit 0 (some [4,10])))
 (.seq (.block 1 (.seq (Rg [0,4,9,10,35,36,37] [Mv 39 37,Ix 40 1 35 37,L1 41 40,As 11 39,As 12 41])
 (.seq (.seq (Rg [0,4,9,10,11,12,35,36,37] [Mv 42 12,Bc 43 .eql 3 42 .i64 0])
 (.cond (T 43) (.exit 1 (some [0,4,9,10,35,36,37]))
 .skip))
 (.seq (Rg [0,4,9,10,11,12,35,36,37] [Mv 45 0,Mv 46 9,Mv 47 11,Ix 48 1 46 47,Ro 49 (.load1 .slice (T 48)),Ca 50 32 [T 45,T 49] (some (.tup [.agg [.int .i64,.int .i64,.int .i64],.one (.int .i64)])),Mv 44 50,Ex 51 44 0,Ex 52 44 1,Nw 13 3 [.int .i64 0,.int .i64 0,.int .i64 0],Sr 3 13 51,As 14 52])
 (.seq (.seq (Rg [0,4,9,10,12,13,14,35,36,37] [Mv 53 14,Bc 54 .eql 24 53 .i64 0,Mv 55 54,Gt 56 55 (.move (T 12)),Gt 57 55 (.binOp .lss 3 (T 56) (Ci 0) 3),Ol 58 (.pick (T 55) (T 57) (.const (.bool false)))])
 (.cond (T 58) (Rg [0,4,9,10,13,35,36,37] [Ro 60 (.load 3 [.int .i64,.int .i64,.int .i64] (T 13)),Ca 61 48 [T 60] (some (.tup [.agg [.int .i64,.int .i64,.int .i64],.one (.int .i64)])),Mv 59 61,Ex 62 59 0,Ex 63 59 1,Sr 3 13 62,As 14 63])
 .skip))
 (.seq (.seq (Rg [0,4,9,10,13,14,35,36,37] [Mv 64 14,Bc 65 .neq 24 64 .i64 0])
 (.cond (T 65) (.seq (Rg [4,14] [Ro 66 (.build [.int .i64 0,.int .i64 0,.int .i64 0] []),Mv 67 14,Sr 3 4 66,As 5 67])
 .ret)
 .skip))
 (Rg [0,4,9,10,13,35,36,37] [Mv 68 10,Ro 69 (.load 3 [.int .i64,.int .i64,.int .i64] (T 13)),Ro 70 (.buildSlice 3 1 [.int .i64 0,.int .i64 0,.int .i64 0] [(0,3,(T 69))]),⟨some 71,none,.op false (.old (.call ⟨.builtin .append,#[T 68,T 70],#[83,83]⟩))⟩,As 10 71])))))))
 (Rg [0,4,9,10,35,36,37] [Bc 72 .add 3 37 .i64 1,Mv 37 72])))⟩),(19,⟨some [4,15,74,75,76],some [4,15,74,75,76],.seq (Rg [4,15,74,75,76] [Bt 77 .lss 3 76 75])
 (.seq (.cond (T 77) .skip
 (.exit 2 (some [4,15])))
 (.seq (.block 3 (.seq (Rg [4,15,74,75,76] [Ix 78 3 74 76,Ro 79 (.load 3 [.int .i64,.int .i64,.int .i64] (T 78)),Nw 17 3 [.int .i64 0,.int .i64 0,.int .i64 0],Sr 3 17 79])
 (.seq (Rg [4,15,17,74,75,76] [Ro 81 (.load 3 [.int .i64,.int .i64,.int .i64] (T 15)),Ro 82 (.load 3 [.int .i64,.int .i64,.int .i64] (T 17)),Ca 83 49 [T 81,T 82] (some (.tup [.agg [.int .i64,.int .i64,.int .i64],.one (.int .i64)])),Mv 80 83,Ex 84 80 0,Ex 85 80 1,Nw 18 3 [.int .i64 0,.int .i64 0,.int .i64 0],Sr 3 18 84,As 19 85])
 (.seq (.seq (Rg [4,15,18,19,74,75,76] [Mv 86 19,Bc 87 .neq 24 86 .i64 0])
 (.cond (T 87) (.seq (Rg [4,19] [Ro 88 (.build [.int .i64 0,.int .i64 0,.int .i64 0] []),Mv 89 19,Sr 3 4 88,As 5 89])
 .ret)
 .skip))
 (.seq (Rg [4,15,18,74,75,76] [Ro 91 (.load 3 [.int .i64,.int .i64,.int .i64] (T 18)),Ca 92 50 [T 91] (some (.tup [.agg [.int .i64,.int .i64,.int .i64],.one (.int .i64)])),Mv 90 92,Ex 93 90 0,Ex 94 90 1,Sr 3 15 93,As 19 94])
 (.seq (Rg [4,15,19,74,75,76] [Mv 95 19,Bc 96 .neq 24 95 .i64 0])
 (.cond (T 96) (.seq (Rg [4,19] [Ro 97 (.build [.int .i64 0,.int .i64 0,.int .i64 0] []),Mv 98 19,Sr 3 4 97,As 5 98])
 .ret)
 .skip)))))))
 (Rg [4,15,74,75,76] [Bc 99 .add 3 76 .i64 1,Mv 76 99])))⟩)],
 []⟩
theorem r29_ok:resFun (progU ()) hint live 29 Try.f29=some r29:=by kernel_rfl
def r32 : RFun :=
⟨.seq (Rg [0,1] [Nw 4 3 [.int .i64 0,.int .i64 0,.int .i64 0],Ac 5 0])
 (.seq (.seq (Rg [0,1,4] [Mv 15 0,Ca 16 35 [T 15] vI,As 6 16])
 (.seq (Rg [0,1,4,6] [Mv 17 6,Bc 18 .neq 24 17 .i64 0])
 (.cond (T 18) (.seq (Rg [4,6] [Ro 19 (.build [.int .i64 0,.int .i64 0,.int .i64 0] []),Mv 20 6,Sr 3 4 19,As 5 20])
 .ret)
 .skip)))
 (.seq (.seq (Rg [0,1,4] [Mv 21 1,Ro 22 (.lenS (T 21)),Bc 23 .lss 3 22 .i64 3,Mv 24 23,Gf 25 24 (.move (T 1)),Hf 26 24 (.lenS (T 25)),Gf 27 24 (.binOp .gtr 3 (T 26) (Ci 8) 3),Ol 28 (.pick (T 24) (.const (.bool true)) (T 27)),Mv 29 28,Gf 30 29 (.move (T 1)),⟨some 31,some (29,false),.call (.func 57) [T 30] vB⟩,Gf 32 29 (.unOp .not 4 (T 31)),Ol 33 (.pick (T 29) (.const (.bool true)) (T 32))])
 (.cond (T 33) (.seq (Rg [4] [Ro 34 (.build [.int .i64 0,.int .i64 0,.int .i64 0] []),Sr 3 4 34,Ac 5 2])
 .ret)
 .skip))
 (.seq (Rg [0,1,4] [Ol 7 (.assign (.const (.slice none 0 0)))])
 (.seq (.seq (Rg [0,1,4,7] [Mv 35 1,Ro 36 (.lenS (T 35)),Ol 37 (.move (Ci 0))])
 (.block 0 (.loop 8 none (some [0,1,4,7,35,36,37]))))
 (.seq (Rg [0,4,7] [Mv 57 0,Mv 58 7,Ca 59 58 [T 57,T 58] (some (.tup [.one .slice,.one (.int .i64)])),Mv 56 59,Ex 60 56 0,Ex 61 56 1,As 10 60,As 11 61])
 (.seq (.seq (Rg [4,10,11] [Mv 62 11,Bc 63 .neq 24 62 .i64 0])
 (.cond (T 63) (.seq (Rg [4,11] [Ro 64 (.build [.int .i64 0,.int .i64 0,.int .i64 0] []),Mv 65 11,Sr 3 4 64,As 5 65])
 .ret)
 .skip))
 (.seq (Rg [4,10] [Mv 67 10,Ro 68 (.ixS 3 (T 67) (Ci 0)),Ro 69 (.load 3 [.int .i64,.int .i64,.int .i64] (T 68)),Ca 70 50 [T 69] (some (.tup [.agg [.int .i64,.int .i64,.int .i64],.one (.int .i64)])),Mv 66 70,Ex 71 66 0,Ex 72 66 1,Nw 12 3 [.int .i64 0,.int .i64 0,.int .i64 0],Sr 3 12 71,As 11 72])
 (.seq (.seq (Rg [4,10,11,12] [Mv 73 11,Bc 74 .neq 24 73 .i64 0])
 (.cond (T 74) (.seq (Rg [4,11] [Ro 75 (.build [.int .i64 0,.int .i64 0,.int .i64 0] []),Mv 76 11,Sr 3 4 75,As 5 76])
 .ret)
 .skip))
 (.seq (.seq (Rg [4,10,12] [Mv 77 10,Ro 78 (.cutS 83 (T 77) (some (Ci 1)) none none),Ro 79 (.lenS (T 78)),Ol 80 (.move (Ci 0))])
 (.block 2 (.loop 19 (some [4,12,78,79,80]) (some [4,12,78,79,80]))))
 (.seq (Rg [4,12] [Ro 95 (.load 3 [.int .i64,.int .i64,.int .i64] (T 12)),Sr 3 4 95,Ac 5 0])
 .ret)))))))))),
 [.agg 4 3 [.int .i64,.int .i64,.int .i64],.tmp 5],
 [(8,⟨none,some [0,1,4,7,35,36,37],.seq (Rg [0,1,4,7,35,36,37] [Bt 38 .lss 3 37 36])
 (.seq (.cond (T 38) .skip
 (.exit 0 (some [0,4,7])))
 (.seq (.block 1 (.seq (Rg [0,1,4,7,35,36,37] [Mv 39 37,Ix 40 1 35 37,L1 41 40,As 8 39,As 9 41])
 (Rg [0,1,4,7,8,9,35,36,37] [Mv 42 7,Mv 43 9,Mv 44 1,Mv 45 8,Bc 46 .add 3 45 .i64 1,Mv 47 1,Ro 48 (.lenS (T 47)),Bt 49 .rem 3 46 48,Ix 50 1 44 49,L1 51 50,Ro 52 (.build z2 [(0,1,(T 43)),(1,1,(T 51))]),Ro 53 (.buildSlice 2 1 z2 [(0,2,(T 52))]),⟨some 54,none,.op false (.old (.call ⟨.builtin .append,#[T 42,T 53],#[91,91]⟩))⟩,As 7 54])))
 (Rg [0,1,4,7,35,36,37] [Bc 55 .add 3 37 .i64 1,Mv 37 55])))⟩),(19,⟨some [4,12,78,79,80],some [4,12,78,79,80],.seq (Rg [4,12,78,79,80] [Bt 81 .lss 3 80 79])
 (.seq (.cond (T 81) .skip
 (.exit 2 (some [4,12])))
 (.seq (.block 3 (.seq (Rg [4,12,78,79,80] [Ix 82 3 78 80,Ro 83 (.load 3 [.int .i64,.int .i64,.int .i64] (T 82)),Nw 14 3 [.int .i64 0,.int .i64 0,.int .i64 0],Sr 3 14 83])
 (.seq (Rg [4,12,14,78,79,80] [Ro 85 (.load 3 [.int .i64,.int .i64,.int .i64] (T 12)),Ro 86 (.load 3 [.int .i64,.int .i64,.int .i64] (T 14)),Ca 87 59 [T 85,T 86] (some (.tup [.agg [.int .i64,.int .i64,.int .i64],.one (.int .i64)])),Mv 84 87,Ex 88 84 0,Ex 89 84 1,Sr 3 12 88,As 11 89])
 (.seq (Rg [4,11,12,78,79,80] [Mv 90 11,Bc 91 .neq 24 90 .i64 0])
 (.cond (T 91) (.seq (Rg [4,11] [Ro 92 (.build [.int .i64 0,.int .i64 0,.int .i64 0] []),Mv 93 11,Sr 3 4 92,As 5 93])
 .ret)
 .skip)))))
 (Rg [4,12,78,79,80] [Bc 94 .add 3 80 .i64 1,Mv 80 94])))⟩)],
 []⟩
theorem r32_ok:resFun (progU ()) hint live 32 Try.f32=some r32:=by kernel_rfl
