import Derived.Test.YtmkiclinllifiaaSeat0
import Derived.Test.YtmkiclinllifiaaSymS
set_option linter.unusedSimpArgs false
set_option linter.unusedVariables false
namespace Go.Proofs.Ytmkiclinllifiaa
open Go.Sim
set_option maxRecDepth 100000
def r20 : RFun :=
⟨.seq (Rg [0,1] [Ol 4 (.assign (.const (.bool false)))])
 (.seq (.seq (Rg [0,1] [Mv 6 0,Ro 7 (.lenS (T 6)),Mv 8 1,Ro 9 (.lenS (T 8)),Bt 10 .neq 3 7 9])
 (.cond (T 10) (.seq (Rg [] [Ol 4 (.assign (.const (.bool false)))])
 .ret)
 .skip))
 (.seq (.seq (Rg [0,1] [Ac 5 0])
 (.block 0 (.loop 4 (some [0,1,5]) (some [0,1,5]))))
 (.seq (Rg [] [Ol 4 (.assign (.const (.bool true)))])
 .ret))),
 [.tmp 4],
 [(4,⟨some [0,1,5],some [0,1,5],.seq (.seq (Rg [0,1,5] [Mv 11 5,Mv 12 0,Ro 13 (.lenS (T 12)),Bt 14 .lss 3 11 13])
 (.cond (T 14) .skip
 (.exit 0 (some []))))
 (.seq (.block 1 (.seq (.draw (some [0,1,5]) 9 [Dr (Mv 17 0) 0 [2,3,8],Dr (Mv 18 5) 1 [2,3,8],Dr (Ix 19 1 17 18) 2 [3,8],Db (L1 20 19) 3 19 [8],Dr (Mv 21 1) 4 [6,7,8],Dr (Mv 22 5) 5 [6,7,8],Dr (Ix 23 1 21 22) 6 [7,8],Db (L1 24 23) 7 23 [8],Dr (Bt 25 .neq 3 20 24) 8 []])
 (.cond (T 25) (.seq (Rg [] [Ol 4 (.assign (.const (.bool false)))])
 .ret)
 .skip)))
 (Rg [0,1,5] [Mv 15 5,Bc 16 .add 3 15 .i64 1,As 5 16]))⟩)],
 []⟩
theorem r20_ok:resFun (progU ()) hint live 20 Try.f20=some r20:=by kernel_rfl
def r22 : RFun :=
⟨.seq (Rg [0] [Ac 2 0])
 (.seq (.seq (Rg [0] [Mv 6 0,Ca 7 46 [T 6,.const (.int .i64 8)] vI,As 3 7])
 (.seq (Rg [0,3] [Mv 8 3,Bc 9 .neq 3 8 .i64 0])
 (.cond (T 9) (.seq (Rg [3] [Mv 10 3,As 2 10])
 .ret)
 .skip)))
 (.seq (.seq (Rg [0] [Ac 4 0])
 (.block 0 (.loop 5 (some [0,4]) (some [0,4]))))
 (.seq (Rg [] [Ac 2 0])
 .ret))),
 [.tmp 2],
 [(5,⟨some [0,4],some [0,4],.seq (.seq (Rg [0,4] [Mv 11 4,Mv 12 0,Ro 13 (.lenS (T 12)),Bt 14 .lss 3 11 13])
 (.cond (T 14) .skip
 (.exit 0 (some []))))
 (.seq (.block 1 (.seq (Rg [0,4] [Ac 5 0])
 (.block 2 (.loop 8 (some [0,4,5]) (some [0,4,5])))))
 (Rg [0,4] [Mv 15 4,Bc 16 .add 3 15 .i64 1,As 4 16]))⟩),(8,⟨some [0,4,5],some [0,4,5],.seq (.seq (Rg [0,4,5] [Mv 17 5,Mv 18 4,Bt 19 .lss 3 17 18])
 (.cond (T 19) .skip
 (.exit 2 (some [0,4]))))
 (.seq (.block 3 (.seq (.draw (some [0,4,5]) 24 [Dr (Mv 22 0) 0 [2,3,4,10,11,12,13,14,15,16,17,18,19,20,21,22,23],Dr (Mv 23 4) 1 [2,3,4,10,11,12,13,14,15,16,17,18,19,20,21,22,23],Dr (Ix 24 6 22 23) 2 [3,4,10,11,12,13,14,15,16,17,18,19,20,21,22,23],Dr (Fa 25 0 24) 3 [4,10,11,12,13,14,15,16,17,18,19,20,21,22,23],Db (L1 26 25) 4 25 [10,11,12,13,14,15,16,17,18,19,20,21,22,23],Dr (Mv 27 0) 5 [7,8,9,10,11,12,13,14,15,16,17,18,19,20,21,22,23],Dr (Mv 28 5) 6 [7,8,9,10,11,12,13,14,15,16,17,18,19,20,21,22,23],Dr (Ix 29 6 27 28) 7 [8,9,10,11,12,13,14,15,16,17,18,19,20,21,22,23],Dr (Fa 30 0 29) 8 [9,10,11,12,13,14,15,16,17,18,19,20,21,22,23],Db (L1 31 30) 9 30 [10,11,12,13,14,15,16,17,18,19,20,21,22,23],Dr (Bt 32 .eql 3 26 31) 10 [11,12,13,14,15,16,17,18,19,20,21,22,23],Dr (Mv 33 32) 11 [12,13,14,15,16,17,18,19,20,21,22,23],⟨Gt 34 33 (.move (T 0)),12,.none,[14,15,16,22,23],false,true⟩,⟨Gt 35 33 (.move (T 4)),13,.none,[14,15,16,22,23],false,true⟩,⟨Ht 36 33 (.ixS 6 (T 34) (T 35)),14,.none,[15,16,22,23],false,true⟩,⟨Ht 37 33 (.fieldAddr 1 (T 36)),15,.none,[16,22,23],false,true⟩,⟨Ht 38 33 (.load1 (.int .i64) (T 37)),16,.blk (T 37),[22,23],false,true⟩,⟨Gt 39 33 (.move (T 0)),17,.none,[19,20,21,22,23],false,true⟩,⟨Gt 40 33 (.move (T 5)),18,.none,[19,20,21,22,23],false,true⟩,⟨Ht 41 33 (.ixS 6 (T 39) (T 40)),19,.none,[20,21,22,23],false,true⟩,⟨Ht 42 33 (.fieldAddr 1 (T 41)),20,.none,[21,22,23],false,true⟩,⟨Ht 43 33 (.load1 (.int .i64) (T 42)),21,.blk (T 42),[22,23],false,true⟩,⟨Gt 44 33 (.binOp .eql 3 (T 38) (T 43) 3),22,.none,[23],false,true⟩,Dr (Ol 45 (.pick (T 33) (T 44) (.const (.bool false)))) 23 []])
 (.cond (T 45) (.seq (Rg [] [Ac 2 14])
 .ret)
 .skip)))
 (Rg [0,4,5] [Mv 20 5,Bc 21 .add 3 20 .i64 1,As 5 21]))⟩)],
 []⟩
theorem r22_ok:resFun (progU ()) hint live 22 Try.f22=some r22:=by kernel_rfl
def r23 : RFun :=
⟨.seq (Rg [0,1] [Ol 4 (.assign (.const (.slice none 0 0))),Ac 5 0])
 (.seq (.seq (Rg [0,1] [Mv 16 0,Ca 17 35 [T 16] vI,As 6 17])
 (.seq (Rg [0,1,6] [Mv 18 6,Bc 19 .neq 24 18 .i64 0])
 (.cond (T 19) (.seq (Rg [6] [Mv 20 6,Ol 4 (.assign (.const (.slice none 0 0))),As 5 20])
 .ret)
 .skip)))
 (.seq (.seq (Rg [0,1] [Mv 22 0,Mv 23 1,Ca 24 32 [T 22,T 23] (some (.tup [.agg [.int .i64,.int .i64,.int .i64],.one (.int .i64)])),Mv 21 24,Ex 25 21 0,Ex 26 21 1,Nw 7 3 [.int .i64 0,.int .i64 0,.int .i64 0],Sr 3 7 25,As 8 26])
 (.seq (Rg [0,1,8] [Mv 27 8,Bc 28 .eql 24 27 .i64 2,Mv 29 28,Gf 30 29 (.move (T 8)),Gf 31 29 (.binOp .eql 24 (T 30) (Ci 6) 24),Ol 32 (.pick (T 29) (.const (.bool true)) (T 31))])
 (.cond (T 32) (.seq (Rg [8] [Mv 33 8,Ol 4 (.assign (.const (.slice none 0 0))),As 5 33])
 .ret)
 .skip)))
 (.seq (Rg [0,1] [Ol 34 (.makeMap 71 none),As 9 34])
 (.seq (.seq (Rg [0,1,9] [Mv 35 1,Ro 36 (.lenS (T 35)),Ol 37 (.move (Ci 0))])
 (.block 0 (.loop 9 none (some [0,1,9,35,36,37]))))
 (.seq (Rg [0,9] [Ol 12 (.assign (.const (.slice none 0 0)))])
 (.seq (.seq (Rg [0,9,12] [Mv 54 0,Mv 55 0,Ca 56 39 [T 55] (some (.val (.one .any))),Ca 57 38 [T 54,T 56] (some (.val (.one .slice))),Ro 58 (.lenS (T 57)),Ol 59 (.move (Ci 0))])
 (.block 2 (.loop 15 (some [9,12,57,58,59]) (some [9,12,57,58,59]))))
 (.seq (Rg [12] [Mv 78 12,As 4 78,Ac 5 0])
 .ret))))))),
 [.tmp 4,.tmp 5],
 [(9,⟨none,some [0,1,9,35,36,37],.seq (Rg [0,1,9,35,36,37] [Bt 38 .lss 3 37 36])
 (.seq (.cond (T 38) .skip
 (.exit 0 (some [0,9])))
 (.seq (.block 1 (.seq (Rg [0,1,9,35,36,37] [Mv 39 37,Ix 40 1 35 37,L1 41 40,As 10 39,As 11 41])
 (Rg [0,1,9,10,11,35,36,37] [Mv 42 9,Mv 43 11,Mv 44 1,Mv 45 10,Bc 46 .add 3 45 .i64 1,Mv 47 1,Ro 48 (.lenS (T 47)),Bt 49 .rem 3 46 48,Ix 50 1 44 49,L1 51 50,Ro 52 (.build z2 [(0,1,(T 43)),(1,1,(T 51))]),⟨none,none,.op false (.old (.mapUpdate 71 (T 42) (T 52) (.const (.bool true))))⟩])))
 (Rg [0,1,9,35,36,37] [Bc 53 .add 3 37 .i64 1,Mv 37 53])))⟩),(15,⟨some [9,12,57,58,59],some [9,12,57,58,59],.seq (Rg [9,12,57,58,59] [Bt 60 .lss 3 59 58])
 (.seq (.cond (T 60) .skip
 (.exit 2 (some [12])))
 (.seq (.block 3 (.seq (Rg [9,12,57,58,59] [Ix 61 2 57 59,Ld 62 61,Nw 14 2 z2,Sr 2 14 62])
 (.seq (Rg [9,12,14,57,58,59] [Ac 15 0])
 (.seq (.seq (Rg [9,12,14,15,57,58,59] [Mv 63 9,Ld 64 14,Ol 65 (.lookup 71 (T 63) (T 64) false)])
 (.cond (T 65) (Rg [9,12,57,58,59] [Ac 15 1])
 (.seq (Rg [9,12,14,15,57,58,59] [Mv 66 9,Fa 67 1 14,L1 68 67,Fa 69 0 14,L1 70 69,Ro 71 (.build z2 [(0,1,(T 68)),(1,1,(T 70))]),Ol 72 (.lookup 71 (T 66) (T 71) false)])
 (.cond (T 72) (Rg [9,12,57,58,59] [Ol 15 (.assign (.const (.int .i64 (-1))))])
 .skip))))
 (Rg [9,12,15,57,58,59] [Mv 73 12,Mv 74 15,Ro 75 (.buildSlice 1 1 [.int .i64 0] [(0,1,(T 74))]),⟨some 76,none,.op false (.old (.call ⟨.builtin .append,#[T 73,T 75],#[38,38]⟩))⟩,As 12 76])))))
 (Rg [9,12,57,58,59] [Bc 77 .add 3 59 .i64 1,Mv 59 77])))⟩)],
 []⟩
theorem r23_ok:resFun (progU ()) hint live 23 Try.f23=some r23:=by kernel_rfl
def r24 : RFun :=
⟨.seq (Rg [0] [Ol 2 (.assign (.const (.slice none 0 0)))])
 (.seq (Rg [0] [Ol 3 (.assign (.const (.slice none 0 0)))])
 (.seq (.seq (Rg [0,3] [Ac 4 0])
 (.block 0 (.loop 3 none (some [0,3,4]))))
 (.seq (Rg [3] [Mv 45 3,As 2 45])
 .ret))),
 [.tmp 2],
 [(3,⟨none,some [0,3,4],.seq (.seq (Rg [0,3,4] [Mv 7 4,Bc 8 .lss 3 7 .i64 8])
 (.cond (T 8) .skip
 (.exit 0 (some [3]))))
 (.seq (.block 1 (.seq (Rg [0,3,4] [Mv 11 4,Bc 12 .add 3 11 .i64 1,As 5 12])
 (.block 2 (.loop 6 none (some [0,3,4,5])))))
 (Rg [0,3,4] [Mv 9 4,Bc 10 .add 3 9 .i64 1,As 4 10]))⟩),(6,⟨none,some [0,3,4,5],.seq (.seq (Rg [0,3,4,5] [Mv 13 5,Bc 14 .lss 3 13 .i64 8])
 (.cond (T 14) .skip
 (.exit 2 (some [0,3,4]))))
 (.seq (.block 3 (.seq (Rg [0,3,4,5] [Ac 6 0])
 (.block 4 (.loop 9 none (some [0,3,4,5,6])))))
 (Rg [0,3,4,5] [Mv 15 5,Bc 16 .add 3 15 .i64 1,As 5 16]))⟩),(9,⟨none,some [0,3,4,5,6],.seq (.seq (Rg [0,3,4,5,6] [Mv 17 6,Mv 18 0,Ro 19 (.lenS (T 18)),Bt 20 .lss 3 17 19])
 (.cond (T 20) .skip
 (.exit 4 (some [0,3,4,5]))))
 (.seq (.block 5 (.seq (Rg [0,3,4,5,6] [Mv 23 0,Mv 24 6,Ix 25 6 23 24,Fa 26 0 25,L1 27 26,Mv 28 4,Bt 29 .eql 3 27 28,Mv 30 29,Gt 31 30 (.move (T 0)),Gt 32 30 (.move (T 6)),Ht 33 30 (.ixS 6 (T 31) (T 32)),Ht 34 30 (.fieldAddr 1 (T 33)),Ht 35 30 (.load1 (.int .i64) (T 34)),Gt 36 30 (.move (T 5)),Gt 37 30 (.binOp .eql 3 (T 35) (T 36) 3),Ol 38 (.pick (T 30) (T 37) (.const (.bool false)))])
 (.cond (T 38) (Rg [0,3,4,5,6] [Mv 39 3,Mv 40 4,Mv 41 5,Ro 42 (.build z2 [(0,1,(T 40)),(1,1,(T 41))]),Ro 43 (.buildSlice 2 1 z2 [(0,2,(T 42))]),⟨some 44,none,.op false (.old (.call ⟨.builtin .append,#[T 39,T 43],#[23,23]⟩))⟩,As 3 44])
 .skip)))
 (Rg [0,3,4,5,6] [Mv 21 6,Bc 22 .add 3 21 .i64 1,As 6 22]))⟩)],
 []⟩
theorem r24_ok:resFun (progU ()) hint live 24 Try.f24=some r24:=by kernel_rfl
def r25 : RFun :=
⟨.seq (Rg [0] [Ol 2 (.assign (.const (.bool false)))])
 (.seq (Rg [0] [Mv 3 0,Ro 4 (.lenS (T 3)),Bc 5 .geq 3 4 .i64 3,Mv 6 5,Gt 7 6 (.move (T 0)),Ht 8 6 (.lenS (T 7)),Gt 9 6 (.binOp .leq 3 (T 8) (Ci 8) 3),Ol 10 (.pick (T 6) (T 9) (.const (.bool false))),Mv 11 10,Gt 12 11 (.move (T 0)),⟨some 13,some (11,true),.call (.func 31) [T 12] vB⟩,Ol 14 (.pick (T 11) (T 13) (.const (.bool false))),As 2 14])
 .ret),
 [.tmp 2],
 [],
 []⟩
theorem r25_ok:resFun (progU ()) hint live 25 Try.f25=some r25:=by kernel_rfl
def r26 : RFun :=
⟨.seq (Rg [0,1,2] [Ac 6 0])
 (.seq (Rg [0,1,2] [Ac 7 0])
 (.seq (.seq (Rg [0,1,2,7] [Ac 8 0])
 (.block 0 (.loop 3 (some [0,1,2,7,8]) (some [0,1,2,7,8]))))
 (.seq (Rg [7] [Mv 49 7,As 6 49])
 .ret))),
 [.tmp 6],
 [(3,⟨some [0,1,2,7,8],some [0,1,2,7,8],.seq (.seq (Rg [0,1,2,7,8] [Mv 11 8,Mv 12 0,Ro 13 (.lenS (T 12)),Bt 14 .lss 3 11 13])
 (.cond (T 14) .skip
 (.exit 0 (some [7]))))
 (.seq (.block 1 (.seq (.draw (some [0,1,2,7,8]) 14 [Dr (Mv 17 0) 0 [2,3,12,13],Dr (Mv 18 8) 1 [2,3,12,13],Dr (Ix 19 1 17 18) 2 [3,12,13],Db (L1 20 19) 3 19 [12,13],Dr (Mv 21 0) 4 [10,11,13],Dr (Mv 22 8) 5 [6,9,10,11,13],Dr (Bc 23 .add 3 22 .i64 1) 6 [9,10,11,13],Dr (Mv 24 0) 7 [8,9,10,11,13],Dr (Ro 25 (.lenS (T 24))) 8 [9,10,11,13],Dr (Bt 26 .rem 3 23 25) 9 [10,11,13],Dr (Ix 27 1 21 26) 10 [11,13],Db (L1 28 27) 11 27 [13],Dr (As 9 20) 12 [13],Dr (As 10 28) 13 []])
 (.seq (.seq (Rg [0,1,2,7,8,9,10] [Mv 29 9,Mv 30 1,Bt 31 .eql 3 29 30,Mv 32 31,Gt 33 32 (.move (T 10)),Gt 34 32 (.move (T 2)),Gt 35 32 (.binOp .eql 3 (T 33) (T 34) 3),Ol 36 (.pick (T 32) (T 35) (.const (.bool false)))])
 (.cond (T 36) (Rg [0,1,2,7,8,9,10] [Mv 37 7,Bc 38 .add 3 37 .i64 1,As 7 38])
 .skip))
 (.seq (Rg [0,1,2,7,8,9,10] [Mv 39 9,Mv 40 2,Bt 41 .eql 3 39 40,Mv 42 41,Gt 43 42 (.move (T 10)),Gt 44 42 (.move (T 1)),Gt 45 42 (.binOp .eql 3 (T 43) (T 44) 3),Ol 46 (.pick (T 42) (T 45) (.const (.bool false)))])
 (.cond (T 46) (Rg [0,1,2,7,8] [Mv 47 7,Bc 48 .sub 3 47 .i64 1,As 7 48])
 .skip)))))
 (Rg [0,1,2,7,8] [Mv 15 8,Bc 16 .add 3 15 .i64 1,As 8 16]))⟩)],
 []⟩
theorem r26_ok:resFun (progU ()) hint live 26 Try.f26=some r26:=by kernel_rfl
def r27 : RFun :=
⟨.seq (Rg [0,1] [Ol 4 (.assign (.const (.bool false)))])
 (.seq (.seq (Rg [0,1] [Ac 5 0])
 (.block 0 (.loop 2 none (some [0,1,5]))))
 (.seq (Rg [] [Ol 4 (.assign (.const (.bool false)))])
 .ret)),
 [.tmp 4],
 [(2,⟨none,some [0,1,5],.seq (.seq (Rg [0,1,5] [Mv 6 5,Mv 7 0,Ro 8 (.lenS (T 7)),Bt 9 .lss 3 6 8])
 (.cond (T 9) .skip
 (.exit 0 (some []))))
 (.seq (.block 1 (.seq (Rg [0,1,5] [Mv 12 0,Mv 13 5,Ix 14 6 12 13,Fa 15 0 14,L1 16 15,Mv 17 1,Bt 18 .eql 3 16 17,Mv 19 18,Gf 20 19 (.move (T 0)),Gf 21 19 (.move (T 5)),Hf 22 19 (.ixS 6 (T 20) (T 21)),Hf 23 19 (.fieldAddr 1 (T 22)),Hf 24 19 (.load1 (.int .i64) (T 23)),Gf 25 19 (.move (T 1)),Gf 26 19 (.binOp .eql 3 (T 24) (T 25) 3),Ol 27 (.pick (T 19) (.const (.bool true)) (T 26))])
 (.cond (T 27) (.seq (Rg [] [Ol 4 (.assign (.const (.bool true)))])
 .ret)
 .skip)))
 (Rg [0,1,5] [Mv 10 5,Bc 11 .add 3 10 .i64 1,As 5 11]))⟩)],
 []⟩
theorem r27_ok:resFun (progU ()) hint live 27 Try.f27=some r27:=by kernel_rfl
def r28 : RFun :=
⟨.seq (Rg [0,1] [Ol 4 (.assign (.const (.slice none 0 0))),Ac 5 0])
 (.seq (.seq (Rg [0,1] [Mv 13 0,Ca 14 22 [T 13] vI,Bc 15 .neq 3 14 .i64 0])
 (.cond (T 15) (.seq (Rg [0] [Mv 16 0,Ca 17 22 [T 16] vI,Ol 4 (.assign (.const (.slice none 0 0))),As 5 17])
 .ret)
 .skip))
 (.seq (.seq (Rg [0,1] [Mv 18 1,Ca 19 25 [T 18] vB,Ol 20 (.unOp .not 4 (T 19))])
 (.cond (T 20) (.seq (Rg [] [Ol 4 (.assign (.const (.slice none 0 0))),Ac 5 2])
 .ret)
 .skip))
 (.seq (Rg [0,1] [Mv 21 0,Ca 22 24 [T 21] (some (.val (.one .slice))),As 6 22])
 (.seq (.seq (Rg [0,1,6] [Ac 7 0])
 (.block 0 (.loop 7 (some [0,1,6,7]) (some [0,1,6,7]))))
 (.seq (Rg [0,1] [Mv 51 0,Ca 52 40 [T 51] (some (.val (.one .slice))),As 10 52])
 (.seq (Rg [1,10] [Ol 11 (.assign (.const (.slice none 0 0)))])
 (.seq (.seq (Rg [1,10,11] [Ac 12 0])
 (.block 2 (.loop 15 (some [1,10,11,12]) (some [1,10,11,12]))))
 (.seq (Rg [11] [Mv 74 11,As 4 74,Ac 5 0])
 .ret)))))))),
 [.tmp 4,.tmp 5],
 [(7,⟨some [0,1,6,7],some [0,1,6,7],.seq (.seq (Rg [0,1,6,7] [Mv 23 7,Mv 24 1,Ro 25 (.lenS (T 24)),Bt 26 .lss 3 23 25])
 (.cond (T 26) .skip
 (.exit 0 (some [0,1]))))
 (.seq (.block 1 (.seq (.draw (some [0,1,6,7]) 14 [Dr (Mv 29 1) 0 [2,3,12,13],Dr (Mv 30 7) 1 [2,3,12,13],Dr (Ix 31 1 29 30) 2 [3,12,13],Db (L1 32 31) 3 31 [12,13],Dr (Mv 33 1) 4 [10,11,13],Dr (Mv 34 7) 5 [6,9,10,11,13],Dr (Bc 35 .add 3 34 .i64 1) 6 [9,10,11,13],Dr (Mv 36 1) 7 [8,9,10,11,13],Dr (Ro 37 (.lenS (T 36))) 8 [9,10,11,13],Dr (Bt 38 .rem 3 35 37) 9 [10,11,13],Dr (Ix 39 1 33 38) 10 [11,13],Db (L1 40 39) 11 39 [13],Dr (As 8 32) 12 [13],Dr (As 9 40) 13 []])
 (.seq (Rg [0,1,6,7,8,9] [Mv 41 6,Mv 42 8,Mv 43 9,⟨some 44,none,.op false (.old (.call ⟨.builtin .min,#[T 42,T 43],#[3,3]⟩))⟩,Mv 45 8,Mv 46 9,⟨some 47,none,.op false (.old (.call ⟨.builtin .max,#[T 45,T 46],#[3,3]⟩))⟩,Ro 48 (.build z2 [(0,1,(T 44)),(1,1,(T 47))]),Ca 49 47 [T 41,T 48] vB,Ol 50 (.unOp .not 4 (T 49))])
 (.cond (T 50) (.seq (Rg [] [Ol 4 (.assign (.const (.slice none 0 0))),Ac 5 6])
 .ret)
 .skip))))
 (Rg [0,1,6,7] [Mv 27 7,Bc 28 .add 3 27 .i64 1,As 7 28]))⟩),(15,⟨some [1,10,11,12],some [1,10,11,12],.seq (.seq (Rg [1,10,11,12] [Mv 53 12,Mv 54 10,Ro 55 (.lenS (T 54)),Bt 56 .lss 3 53 55])
 (.cond (T 56) .skip
 (.exit 2 (some [11]))))
 (.seq (.block 3 (.draw (some [1,10,11,12]) 16 [Dr (Mv 59 11) 0 [14,15],Dr (Mv 60 1) 1 [12,13,14,15],Dr (Mv 61 10) 2 [4,5,6,12,13,14,15],Dr (Mv 62 12) 3 [4,5,6,12,13,14,15],Dr (Ix 63 2 61 62) 4 [5,6,12,13,14,15],Dr (Fa 64 0 63) 5 [6,12,13,14,15],Db (L1 65 64) 6 64 [12,13,14,15],Dr (Mv 66 10) 7 [9,10,11,12,13,14,15],Dr (Mv 67 12) 8 [9,10,11,12,13,14,15],Dr (Ix 68 2 66 67) 9 [10,11,12,13,14,15],Dr (Fa 69 1 68) 10 [11,12,13,14,15],Db (L1 70 69) 11 69 [12,13,14,15],⟨Ca 71 26 [T 60,T 65,T 70] vI,12,.all,[13,14,15],false,false⟩,⟨Ro 72 (.buildSlice 1 1 [.int .i64 0] [(0,1,(T 71))]),13,.new false,[14,15],false,true⟩,⟨⟨some 73,none,.op false (.old (.call ⟨.builtin .append,#[T 59,T 72],#[38,38]⟩))⟩,14,.app [T 59,T 72],[15],false,false⟩,Dr (As 11 73) 15 []]))
 (Rg [1,10,11,12] [Mv 57 12,Bc 58 .add 3 57 .i64 1,As 12 58]))⟩)],
 []⟩
theorem r28_ok:resFun (progU ()) hint live 28 Try.f28=some r28:=by kernel_rfl
def r29 : RFun :=
⟨.seq (Rg [0,1] [Nw 4 3 [.int .i64 0,.int .i64 0,.int .i64 0],Ac 5 0])
 (.seq (Rg [0,1,4] [Mv 21 0,Mv 22 1,Ca 23 23 [T 21,T 22] (some (.tup [.one .slice,.one (.int .i64)])),Mv 20 23,Ex 24 20 0,Ex 25 20 1,As 6 24,As 7 25])
 (.seq (.seq (Rg [0,4,6,7] [Mv 26 7,Bc 27 .neq 24 26 .i64 0])
 (.cond (T 27) (.seq (Rg [4,7] [Ro 28 (.build [.int .i64 0,.int .i64 0,.int .i64 0] []),Mv 29 7,Sr 3 4 28,As 5 29])
 .ret)
 .skip))
 (.seq (Rg [0,4,6] [Mv 31 0,Ca 32 41 [T 31] (some (.tup [.one .slice,.one .slice])),Mv 30 32,Ex 33 30 0,Ex 34 30 1,As 8 33,As 9 34])
 (.seq (Rg [0,4,6,9] [Ol 10 (.assign (.const (.slice none 0 0)))])
 (.seq (.seq (Rg [0,4,6,9,10] [Mv 35 6,Ro 36 (.lenS (T 35)),Ol 37 (.move (Ci 0))])
 (.block 0 (.loop 7 (some [0,4,9,10,35,36,37]) (some [0,4,9,10,35,36,37]))))
 (.seq (Rg [4,10] [Ro 73 (.build [.int .i64 0,.int .i64 0,.int .i64 0] [(0,1,(Ci 1)),(2,1,(Ci 1))]),Nw 15 3 [.int .i64 0,.int .i64 0,.int .i64 0],Sr 3 15 73])
 (.seq (.seq (Rg [4,10,15] [Mv 74 10,Ro 75 (.lenS (T 74)),Ol 76 (.move (Ci 0))])
 (.block 2 (.loop 19 (some [4,15,74,75,76]) (some [4,15,74,75,76]))))
 (.seq (Rg [4,15] [Ro 100 (.load 3 [.int .i64,.int .i64,.int .i64] (T 15)),Sr 3 4 100,Ac 5 0])
 .ret)))))))),
 [.agg 4 3 [.int .i64,.int .i64,.int .i64],.tmp 5],
 [(7,⟨some [0,4,9,10,35,36,37],some [0,4,9,10,35,36,37],.seq (Rg [0,4,9,10,35,36,37] [Bt 38 .lss 3 37 36])
 (.seq (.cond (T 38) .skip
 (.exit 0 (some [4,10])))
 (.seq (.block 1 (.seq (Rg [0,4,9,10,35,36,37] [Mv 39 37,Ix 40 1 35 37,L1 41 40,As 11 39,As 12 41])
 (.seq (.seq (Rg [0,4,9,10,11,12,35,36,37] [Mv 42 12,Bc 43 .eql 3 42 .i64 0])
 (.cond (T 43) (.exit 1 (some [0,4,9,10,35,36,37]))
 .skip))
 (.seq (Rg [0,4,9,10,11,12,35,36,37] [Mv 45 0,Mv 46 9,Mv 47 11,Ix 48 1 46 47,Ro 49 (.load1 .slice (T 48)),Ca 50 32 [T 45,T 49] (some (.tup [.agg [.int .i64,.int .i64,.int .i64],.one (.int .i64)])),Mv 44 50,Ex 51 44 0,Ex 52 44 1,Nw 13 3 [.int .i64 0,.int .i64 0,.int .i64 0],Sr 3 13 51,As 14 52])
 (.seq (.seq (Rg [0,4,9,10,12,13,14,35,36,37] [Mv 53 14,Bc 54 .eql 24 53 .i64 0,Mv 55 54,Gt 56 55 (.move (T 12)),Gt 57 55 (.binOp .lss 3 (T 56) (Ci 0) 3),Ol 58 (.pick (T 55) (T 57) (.const (.bool false)))])
 (.cond (T 58) (Rg [0,4,9,10,13,35,36,37] [Ro 60 (.load 3 [.int .i64,.int .i64,.int .i64] (T 13)),Ca 61 48 [T 60] (some (.tup [.agg [.int .i64,.int .i64,.int .i64],.one (.int .i64)])),Mv 59 61,Ex 62 59 0,Ex 63 59 1,Sr 3 13 62,As 14 63])
 .skip))
 (.seq (.seq (Rg [0,4,9,10,13,14,35,36,37] [Mv 64 14,Bc 65 .neq 24 64 .i64 0])
 (.cond (T 65) (.seq (Rg [4,14] [Ro 66 (.build [.int .i64 0,.int .i64 0,.int .i64 0] []),Mv 67 14,Sr 3 4 66,As 5 67])
 .ret)
 .skip))
 (Rg [0,4,9,10,13,35,36,37] [Mv 68 10,Ro 69 (.load 3 [.int .i64,.int .i64,.int .i64] (T 13)),Ro 70 (.buildSlice 3 1 [.int .i64 0,.int .i64 0,.int .i64 0] [(0,3,(T 69))]),⟨some 71,none,.op false (.old (.call ⟨.builtin .append,#[T 68,T 70],#[83,83]⟩))⟩,As 10 71])))))))
 (Rg [0,4,9,10,35,36,37] [Bc 72 .add 3 37 .i64 1,Mv 37 72])))⟩),(19,⟨some [4,15,74,75,76],some [4,15,74,75,76],.seq (Rg [4,15,74,75,76] [Bt 77 .lss 3 76 75])
 (.seq (.cond (T 77) .skip
 (.exit 2 (some [4,15])))
 (.seq (.block 3 (.seq (Rg [4,15,74,75,76] [Ix 78 3 74 76,Ro 79 (.load 3 [.int .i64,.int .i64,.int .i64] (T 78)),Nw 17 3 [.int .i64 0,.int .i64 0,.int .i64 0],Sr 3 17 79])
 (.seq (Rg [4,15,17,74,75,76] [Ro 81 (.load 3 [.int .i64,.int .i64,.int .i64] (T 15)),Ro 82 (.load 3 [.int .i64,.int .i64,.int .i64] (T 17)),Ca 83 49 [T 81,T 82] (some (.tup [.agg [.int .i64,.int .i64,.int .i64],.one (.int .i64)])),Mv 80 83,Ex 84 80 0,Ex 85 80 1,Nw 18 3 [.int .i64 0,.int .i64 0,.int .i64 0],Sr 3 18 84,As 19 85])
 (.seq (.seq (Rg [4,15,18,19,74,75,76] [Mv 86 19,Bc 87 .neq 24 86 .i64 0])
 (.cond (T 87) (.seq (Rg [4,19] [Ro 88 (.build [.int .i64 0,.int .i64 0,.int .i64 0] []),Mv 89 19,Sr 3 4 88,As 5 89])
 .ret)
 .skip))
 (.seq (Rg [4,15,18,74,75,76] [Ro 91 (.load 3 [.int .i64,.int .i64,.int .i64] (T 18)),Ca 92 50 [T 91] (some (.tup [.agg [.int .i64,.int .i64,.int .i64],.one (.int .i64)])),Mv 90 92,Ex 93 90 0,Ex 94 90 1,Sr 3 15 93,As 19 94])
 (.seq (Rg [4,15,19,74,75,76] [Mv 95 19,Bc 96 .neq 24 95 .i64 0])
 (.cond (T 96) (.seq (Rg [4,19] [Ro 97 (.build [.int .i64 0,.int .i64 0,.int .i64 0] []),Mv 98 19,Sr 3 4 97,As 5 98])
 .ret)
 .skip)))))))
 (Rg [4,15,74,75,76] [Bc 99 .add 3 76 .i64 1,Mv 76 99])))⟩)],
 []⟩
theorem r29_ok:resFun (progU ()) hint live 29 Try.f29=some r29:=by kernel_rfl
def r30 : RFun :=
⟨.seq (Rg [0,1] [Nw 4 3 [.int .i64 0,.int .i64 0,.int .i64 0],Ac 5 0])
 (.seq (Rg [0,1,4] [Mv 18 0,Mv 19 1,Ca 20 28 [T 18,T 19] (some (.tup [.one .slice,.one (.int .i64)])),Mv 17 20,Ex 21 17 0,Ex 22 17 1,As 6 21,As 7 22])
 (.seq (.seq (Rg [0,4,6,7] [Mv 23 7,Bc 24 .neq 3 23 .i64 0])
 (.cond (T 24) (.seq (Rg [4,7] [Ro 25 (.build [.int .i64 0,.int .i64 0,.int .i64 0] []),Mv 26 7,Sr 3 4 25,As 5 26])
 .ret)
 .skip))
 (.seq (Rg [0,4,6] [Mv 27 0,Ca 28 42 [T 27] (some (.val (.one .slice))),As 8 28])
 (.seq (Rg [0,4,6,8] [Ol 9 (.assign (.const (.slice none 0 0)))])
 (.seq (.seq (Rg [0,4,6,8,9] [Ac 10 0])
 (.block 0 (.loop 7 (some [0,4,6,8,9,10]) (some [0,4,6,8,9,10]))))
 (.seq (Rg [4,9] [Ca 64 53 [] (some (.val (.agg [.int .i64,.int .i64,.int .i64]))),Nw 13 3 [.int .i64 0,.int .i64 0,.int .i64 0],Sr 3 13 64])
 (.seq (.seq (Rg [4,9,13] [Ac 14 0])
 (.block 2 (.loop 18 (some [4,9,13,14]) (some [4,9,13,14]))))
 (.seq (Rg [4,13] [Ro 88 (.load 3 [.int .i64,.int .i64,.int .i64] (T 13)),Sr 3 4 88,Ac 5 0])
 .ret)))))))),
 [.agg 4 3 [.int .i64,.int .i64,.int .i64],.tmp 5],
 [(7,⟨some [0,4,6,8,9,10],some [0,4,6,8,9,10],.seq (.seq (Rg [0,4,6,8,9,10] [Mv 29 10,Mv 30 6,Ro 31 (.lenS (T 30)),Bt 32 .lss 3 29 31])
 (.cond (T 32) .skip
 (.exit 0 (some [4,9]))))
 (.seq (.block 1 (.seq (.seq (Rg [0,4,6,8,9,10] [Mv 35 6,Mv 36 10,Ix 37 1 35 36,L1 38 37,Bc 39 .eql 3 38 .i64 0])
 (.cond (T 39) (.exit 1 (some [0,4,6,8,9,10]))
 .skip))
 (.seq (Rg [0,4,6,8,9,10] [Mv 41 0,Mv 42 8,Mv 43 10,Ix 44 1 42 43,Ro 45 (.load1 .slice (T 44)),Ca 46 51 [T 41,T 45] (some (.tup [.agg [.int .i64,.int .i64,.int .i64],.one (.int .i64)])),Mv 40 46,Ex 47 40 0,Ex 48 40 1,Nw 11 3 [.int .i64 0,.int .i64 0,.int .i64 0],Sr 3 11 47,As 12 48])
 (.seq (.seq (Rg [0,4,6,8,9,10,11,12] [Mv 49 12,Bc 50 .neq 3 49 .i64 0])
 (.cond (T 50) (.seq (Rg [4,12] [Ro 51 (.build [.int .i64 0,.int .i64 0,.int .i64 0] []),Mv 52 12,Sr 3 4 51,As 5 52])
 .ret)
 .skip))
 (.seq (.seq (Rg [0,4,6,8,9,10,11] [Mv 53 6,Mv 54 10,Ix 55 1 53 54,L1 56 55,Bc 57 .lss 3 56 .i64 0])
 (.cond (T 57) (Rg [0,4,6,8,9,10,11] [Ro 58 (.load 3 [.int .i64,.int .i64,.int .i64] (T 11)),Ca 59 52 [T 58] (some (.val (.agg [.int .i64,.int .i64,.int .i64]))),Sr 3 11 59])
 .skip))
 (Rg [0,4,6,8,9,10,11] [Mv 60 9,Ro 61 (.load 3 [.int .i64,.int .i64,.int .i64] (T 11)),Ro 62 (.buildSlice 3 1 [.int .i64 0,.int .i64 0,.int .i64 0] [(0,3,(T 61))]),⟨some 63,none,.op false (.old (.call ⟨.builtin .append,#[T 60,T 62],#[83,83]⟩))⟩,As 9 63]))))))
 (Rg [0,4,6,8,9,10] [Mv 33 10,Bc 34 .add 3 33 .i64 1,As 10 34]))⟩),(18,⟨some [4,9,13,14],some [4,9,13,14],.seq (.seq (Rg [4,9,13,14] [Mv 65 14,Mv 66 9,Ro 67 (.lenS (T 66)),Bt 68 .lss 3 65 67])
 (.cond (T 68) .skip
 (.exit 2 (some [4,13]))))
 (.seq (.block 3 (.seq (.draw (some [4,9,13,14]) 12 [Db (Ro 72 (.load 3 [.int .i64,.int .i64,.int .i64] (T 13))) 0 13 [5,6,7,8,10,11],Dr (Mv 73 9) 1 [3,4,5,6,7,8,10,11],Dr (Mv 74 14) 2 [3,4,5,6,7,8,10,11],Dr (Ix 75 3 73 74) 3 [4,5,6,7,8,10,11],Db (Ro 76 (.load 3 [.int .i64,.int .i64,.int .i64] (T 75))) 4 75 [5,6,7,8,10,11],⟨Nw 15 3 [.int .i64 0,.int .i64 0,.int .i64 0],9,.new true,[10,11],false,true⟩,⟨Ca 77 54 [T 72,T 76] (some (.tup [.agg [.int .i64,.int .i64,.int .i64],.one (.int .i64)])),5,.all,[6,7,8,10,11],false,false⟩,Dr (Mv 71 77) 6 [7,8,10,11],Dr (Ex 78 71 0) 7 [10,11],Dr (Ex 79 71 1) 8 [11],⟨Sr 3 15 78,10,.blk (T 15),[11],true,true⟩,Dr (As 16 79) 11 []])
 (.seq (.seq (Rg [4,9,13,14,15,16] [Mv 80 16,Bc 81 .neq 3 80 .i64 0])
 (.cond (T 81) (.seq (Rg [4] [Ro 82 (.build [.int .i64 0,.int .i64 0,.int .i64 0] []),Sr 3 4 82,Ac 5 16])
 .ret)
 .skip))
 (Rg [4,9,13,14,15] [Ro 84 (.load 3 [.int .i64,.int .i64,.int .i64] (T 15)),Ca 85 55 [T 84] (some (.tup [.agg [.int .i64,.int .i64,.int .i64],.one (.int .i64)])),Mv 83 85,Ex 86 83 0,Ex 87 83 1,Sr 3 13 86]))))
 (Rg [4,9,13,14] [Mv 69 14,Bc 70 .add 3 69 .i64 1,As 14 70]))⟩)],
 []⟩
theorem r30_ok:resFun (progU ()) hint live 30 Try.f30=some r30:=by kernel_rfl
def r31 : RFun :=
⟨.seq (Rg [0] [Ol 2 (.assign (.const (.bool false)))])
 (.seq (.seq (Rg [0] [Ac 3 0])
 (.block 0 (.loop 2 (some [0,3]) (some [0,3]))))
 (.seq (Rg [] [Ol 2 (.assign (.const (.bool true)))])
 .ret)),
 [.tmp 2],
 [(2,⟨some [0,3],some [0,3],.seq (.seq (Rg [0,3] [Mv 5 3,Mv 6 0,Ro 7 (.lenS (T 6)),Bt 8 .lss 3 5 7])
 (.cond (T 8) .skip
 (.exit 0 (some []))))
 (.seq (.block 1 (.seq (.seq (Rg [0,3] [Mv 11 0,Mv 12 3,Ix 13 1 11 12,L1 14 13,Ca 15 56 [T 14] vB,Ol 16 (.unOp .not 4 (T 15))])
 (.cond (T 16) (.seq (Rg [] [Ol 2 (.assign (.const (.bool false)))])
 .ret)
 .skip))
 (.seq (Rg [0,3] [Ac 4 0])
 (.block 2 (.loop 7 (some [0,3,4]) (some [0,3,4]))))))
 (Rg [0,3] [Mv 9 3,Bc 10 .add 3 9 .i64 1,As 3 10]))⟩),(7,⟨some [0,3,4],some [0,3,4],.seq (.seq (Rg [0,3,4] [Mv 17 4,Mv 18 3,Bt 19 .lss 3 17 18])
 (.cond (T 19) .skip
 (.exit 2 (some [0,3]))))
 (.seq (.block 3 (.seq (.draw (some [0,3,4]) 9 [Dr (Mv 22 0) 0 [2,3,8],Dr (Mv 23 4) 1 [2,3,8],Dr (Ix 24 1 22 23) 2 [3,8],Db (L1 25 24) 3 24 [8],Dr (Mv 26 0) 4 [6,7,8],Dr (Mv 27 3) 5 [6,7,8],Dr (Ix 28 1 26 27) 6 [7,8],Db (L1 29 28) 7 28 [8],Dr (Bt 30 .eql 3 25 29) 8 []])
 (.cond (T 30) (.seq (Rg [] [Ol 2 (.assign (.const (.bool false)))])
 .ret)
 .skip)))
 (Rg [0,3,4] [Mv 20 4,Bc 21 .add 3 20 .i64 1,As 4 21]))⟩)],
 []⟩
theorem r31_ok:resFun (progU ()) hint live 31 Try.f31=some r31:=by kernel_rfl
def r32 : RFun :=
⟨.seq (Rg [0,1] [Nw 4 3 [.int .i64 0,.int .i64 0,.int .i64 0],Ac 5 0])
 (.seq (.seq (Rg [0,1,4] [Mv 15 0,Ca 16 35 [T 15] vI,As 6 16])
 (.seq (Rg [0,1,4,6] [Mv 17 6,Bc 18 .neq 24 17 .i64 0])
 (.cond (T 18) (.seq (Rg [4,6] [Ro 19 (.build [.int .i64 0,.int .i64 0,.int .i64 0] []),Mv 20 6,Sr 3 4 19,As 5 20])
 .ret)
 .skip)))
 (.seq (.seq (Rg [0,1,4] [Mv 21 1,Ro 22 (.lenS (T 21)),Bc 23 .lss 3 22 .i64 3,Mv 24 23,Gf 25 24 (.move (T 1)),Hf 26 24 (.lenS (T 25)),Gf 27 24 (.binOp .gtr 3 (T 26) (Ci 8) 3),Ol 28 (.pick (T 24) (.const (.bool true)) (T 27)),Mv 29 28,Gf 30 29 (.move (T 1)),⟨some 31,some (29,false),.call (.func 57) [T 30] vB⟩,Gf 32 29 (.unOp .not 4 (T 31)),Ol 33 (.pick (T 29) (.const (.bool true)) (T 32))])
 (.cond (T 33) (.seq (Rg [4] [Ro 34 (.build [.int .i64 0,.int .i64 0,.int .i64 0] []),Sr 3 4 34,Ac 5 2])
 .ret)
 .skip))
 (.seq (Rg [0,1,4] [Ol 7 (.assign (.const (.slice none 0 0)))])
 (.seq (.seq (Rg [0,1,4,7] [Mv 35 1,Ro 36 (.lenS (T 35)),Ol 37 (.move (Ci 0))])
 (.block 0 (.loop 8 none (some [0,1,4,7,35,36,37]))))
 (.seq (Rg [0,4,7] [Mv 57 0,Mv 58 7,Ca 59 58 [T 57,T 58] (some (.tup [.one .slice,.one (.int .i64)])),Mv 56 59,Ex 60 56 0,Ex 61 56 1,As 10 60,As 11 61])
 (.seq (.seq (Rg [4,10,11] [Mv 62 11,Bc 63 .neq 24 62 .i64 0])
 (.cond (T 63) (.seq (Rg [4,11] [Ro 64 (.build [.int .i64 0,.int .i64 0,.int .i64 0] []),Mv 65 11,Sr 3 4 64,As 5 65])
 .ret)
 .skip))
 (.seq (Rg [4,10] [Mv 67 10,Ro 68 (.ixS 3 (T 67) (Ci 0)),Ro 69 (.load 3 [.int .i64,.int .i64,.int .i64] (T 68)),Ca 70 50 [T 69] (some (.tup [.agg [.int .i64,.int .i64,.int .i64],.one (.int .i64)])),Mv 66 70,Ex 71 66 0,Ex 72 66 1,Nw 12 3 [.int .i64 0,.int .i64 0,.int .i64 0],Sr 3 12 71,As 11 72])
 (.seq (.seq (Rg [4,10,11,12] [Mv 73 11,Bc 74 .neq 24 73 .i64 0])
 (.cond (T 74) (.seq (Rg [4,11] [Ro 75 (.build [.int .i64 0,.int .i64 0,.int .i64 0] []),Mv 76 11,Sr 3 4 75,As 5 76])
 .ret)
 .skip))
 (.seq (.seq (Rg [4,10,12] [Mv 77 10,Ro 78 (.cutS 83 (T 77) (some (Ci 1)) none none),Ro 79 (.lenS (T 78)),Ol 80 (.move (Ci 0))])
 (.block 2 (.loop 19 (some [4,12,78,79,80]) (some [4,12,78,79,80]))))
 (.seq (Rg [4,12] [Ro 95 (.load 3 [.int .i64,.int .i64,.int .i64] (T 12)),Sr 3 4 95,Ac 5 0])
 .ret)))))))))),
 [.agg 4 3 [.int .i64,.int .i64,.int .i64],.tmp 5],
 [(8,⟨none,some [0,1,4,7,35,36,37],.seq (Rg [0,1,4,7,35,36,37] [Bt 38 .lss 3 37 36])
 (.seq (.cond (T 38) .skip
 (.exit 0 (some [0,4,7])))
 (.seq (.block 1 (.seq (Rg [0,1,4,7,35,36,37] [Mv 39 37,Ix 40 1 35 37,L1 41 40,As 8 39,As 9 41])
 (Rg [0,1,4,7,8,9,35,36,37] [Mv 42 7,Mv 43 9,Mv 44 1,Mv 45 8,Bc 46 .add 3 45 .i64 1,Mv 47 1,Ro 48 (.lenS (T 47)),Bt 49 .rem 3 46 48,Ix 50 1 44 49,L1 51 50,Ro 52 (.build z2 [(0,1,(T 43)),(1,1,(T 51))]),Ro 53 (.buildSlice 2 1 z2 [(0,2,(T 52))]),⟨some 54,none,.op false (.old (.call ⟨.builtin .append,#[T 42,T 53],#[91,91]⟩))⟩,As 7 54])))
 (Rg [0,1,4,7,35,36,37] [Bc 55 .add 3 37 .i64 1,Mv 37 55])))⟩),(19,⟨some [4,12,78,79,80],some [4,12,78,79,80],.seq (Rg [4,12,78,79,80] [Bt 81 .lss 3 80 79])
 (.seq (.cond (T 81) .skip
 (.exit 2 (some [4,12])))
 (.seq (.block 3 (.seq (Rg [4,12,78,79,80] [Ix 82 3 78 80,Ro 83 (.load 3 [.int .i64,.int .i64,.int .i64] (T 82)),Nw 14 3 [.int .i64 0,.int .i64 0,.int .i64 0],Sr 3 14 83])
 (.seq (Rg [4,12,14,78,79,80] [Ro 85 (.load 3 [.int .i64,.int .i64,.int .i64] (T 12)),Ro 86 (.load 3 [.int .i64,.int .i64,.int .i64] (T 14)),Ca 87 59 [T 85,T 86] (some (.tup [.agg [.int .i64,.int .i64,.int .i64],.one (.int .i64)])),Mv 84 87,Ex 88 84 0,Ex 89 84 1,Sr 3 12 88,As 11 89])
 (.seq (Rg [4,11,12,78,79,80] [Mv 90 11,Bc 91 .neq 24 90 .i64 0])
 (.cond (T 91) (.seq (Rg [4,11] [Ro 92 (.build [.int .i64 0,.int .i64 0,.int .i64 0] []),Mv 93 11,Sr 3 4 92,As 5 93])
 .ret)
 .skip)))))
 (Rg [4,12,78,79,80] [Bc 94 .add 3 80 .i64 1,Mv 80 94])))⟩)],
 []⟩
theorem r32_ok:resFun (progU ()) hint live 32 Try.f32=some r32:=by kernel_rfl
