import Derived.Test.YtkbgkjlgnmlghaaGreatSeat0
import Derived.Test.YtkbgkjlgnmlghaaGreatSymS
set_option linter.unusedSimpArgs false
set_option linter.unusedVariables false
namespace Go.Proofs.YtkbgkjlgnmlghaaGreat
open Go.Sim
set_option maxRecDepth 100000
def r20 : RFun :=
⟨.seq (.reg (some [0,1]) [⟨some 3,none,.op true (.box 4 (.tmp 1))⟩,Ol 4 (.assign (.const (.slice none 0 0)))])
 (.seq (.reg (some [0,3]) [Ol 5 (.assign (.const (.slice none 0 0)))])
 (.seq (.seq (.reg (some [0,3,5]) [Ac 6 0])
 (.block 0 (.loop 3 (some [0,3,5,6]) (some [0,3,5,6]))))
 (.seq (.reg (some [5]) [Mv 44 5,As 4 44])
 .ret))),
 [.tmp 4],
 [(3,⟨some [0,3,5,6],some [0,3,5,6],.seq (.seq (.reg (some [0,3,5,6]) [Mv 10 6,Mv 11 0,Bt 12 .lss 3 10 11])
 (.cond (.tmp 12) .skip
 (.exit 0 (some [5]))))
 (.seq (.block 1 (.seq (.reg (some [0,3,5,6]) [Ac 7 0])
 (.block 2 (.loop 6 (some [0,3,5,6,7]) (some [0,3,5,6,7])))))
 (.reg (some [0,3,5,6]) [Mv 13 6,Bc 14 .add 3 13 .i64 1,As 6 14]))⟩),(6,⟨some [0,3,5,6,7],some [0,3,5,6,7],.seq (.seq (.reg (some [0,3,5,6,7]) [Mv 15 7,Mv 16 0,Bt 17 .lss 3 15 16])
 (.cond (.tmp 17) .skip
 (.exit 2 (some [0,3,5,6]))))
 (.seq (.block 3 (.seq (.draw (some [0,3,5,6,7]) 17 [Dr (Mv 21 0) 0 [4,9,10,11,12,13,15,16],Dr (Fa 22 0 3) 1 [2,4,9,10,11,12,13,15,16],Db (Ld 23 22) 2 22 [4,9,10,11,12,13,15,16],Dr (Mv 24 7) 3 [4,9,10,11,12,13,15,16],Dr (Mv 26 0) 5 [9,10,11,12,13,15,16],Dr (Fa 27 2 3) 6 [7,9,10,11,12,13,15,16],Db (Ld 28 27) 7 27 [9,10,11,12,13,15,16],Dr (Mv 29 6) 8 [9,10,11,12,13,15,16],⟨⟨some 8,none,.op true (.new 2 [.int .i64 0,.int .i64 0])⟩,14,.new true,[15,16],false,true⟩,⟨Ca 25 40 [.tmp 21,.tmp 23,.tmp 24] (some (.val (.agg [.int .i64,.int .i64]))),4,.all,[9,10,11,12,13,15,16],false,false⟩,⟨Ca 30 40 [.tmp 26,.tmp 28,.tmp 29] (some (.val (.agg [.int .i64,.int .i64]))),9,.all,[10,11,12,13,15,16],false,false⟩,⟨Ca 31 39 [.tmp 25,.tmp 30] (some (.tup [.agg [.int .i64,.int .i64],.one (.int .i64)])),10,.all,[11,12,13,15,16],false,false⟩,Dr (Mv 20 31) 11 [12,13,15,16],Dr (Ex 32 20 0) 12 [15,16],Dr (Ex 33 20 1) 13 [16],⟨⟨none,none,.op false (.store 2 (.tmp 8) (.tmp 32))⟩,15,.blk (.tmp 8),[16],true,true⟩,Dr (As 9 33) 16 []])
 (.seq (.reg (some [0,3,5,6,7,8]) [Fa 34 0 8,L1 35 34,Bc 36 .gtr 2 35 .i64 0])
 (.cond (.tmp 36) (.reg (some [0,3,5,6,7,8]) [Mv 37 5,Mv 38 7,Mv 39 6,Ld 40 8,Ro 41 (.build [.int .i64 0,.int .i64 0,.int .i64 0,.int .i64 0] [(0,1,(.tmp 38)),(1,1,(.tmp 39)),(2,2,(.tmp 40))]),Ro 42 (.buildSlice 4 1 [.int .i64 0,.int .i64 0,.int .i64 0,.int .i64 0] [(0,4,(.tmp 41))]),⟨some 43,none,.op false (.old (.call ⟨.builtin .append,#[.tmp 37,.tmp 42],#[48,48]⟩))⟩,As 5 43])
 .skip))))
 (.reg (some [0,3,5,6,7]) [Mv 18 7,Bc 19 .add 3 18 .i64 1,As 7 19]))⟩)],
 []⟩
theorem r20_ok : resFun (progU ()) hint live 20 Tryz.f20 = some r20:=by kernel_rfl
def r21 : RFun :=
⟨.seq (.reg (some [0,1,2]) [⟨some 3,none,.op true (.box 3 (.tmp 0))⟩,⟨some 4,none,.op true (.box 2 (.tmp 1))⟩,⟨some 5,none,.op true (.box 3 (.tmp 2))⟩,⟨some 6,none,.op true (.new 3 [.int .i64 0,.int .i64 0,.int .i64 0])⟩,Ac 7 0])
 (.seq (.reg (some [3,4,5,6]) [Fa 11 0 4,L1 12 11,Fa 13 1 4,L1 14 13,Ro 15 (.build [.int .i64 0,.int .i64 0,.int .i64 0] [(0,1,(.tmp 12)),(2,1,(.tmp 14))]),Ro 16 (.load 3 [.int .i64,.int .i64,.int .i64] (.tmp 5)),Ca 17 26 [.tmp 15,.tmp 16] (some (.tup [.agg [.int .i64,.int .i64,.int .i64],.one (.int .i64)])),Mv 10 17,Ex 18 10 0,Ex 19 10 1,⟨some 8,none,.op true (.new 3 [.int .i64 0,.int .i64 0,.int .i64 0])⟩,⟨none,none,.op false (.store 3 (.tmp 8) (.tmp 18))⟩,As 9 19])
 (.seq (.seq (.reg (some [3,6,8,9]) [Mv 20 9,Bc 21 .neq 3 20 .i64 0])
 (.cond (.tmp 21) (.seq (.reg (some [6,9]) [Ro 22 (.build [.int .i64 0,.int .i64 0,.int .i64 0] []),Mv 23 9,⟨none,none,.op false (.store 3 (.tmp 6) (.tmp 22))⟩,As 7 23])
 .ret)
 .skip))
 (.seq (.reg (some [3,6,8]) [Ro 24 (.load 3 [.int .i64,.int .i64,.int .i64] (.tmp 3)),Ro 25 (.load 3 [.int .i64,.int .i64,.int .i64] (.tmp 8)),Ca 26 27 [.tmp 24,.tmp 25] (some (.tup [.agg [.int .i64,.int .i64,.int .i64],.one (.int .i64)])),Ex 27 26 0,Ex 28 26 1,⟨none,none,.op false (.store 3 (.tmp 6) (.tmp 27))⟩,As 7 28])
 .ret))),
 [.agg 6 3 [.int .i64,.int .i64,.int .i64],.tmp 7],
 [],
 []⟩
theorem r21_ok : resFun (progU ()) hint live 21 Tryz.f21 = some r21:=by kernel_rfl
def r22 : RFun :=
⟨.seq (.reg (some [0]) [Ol 2 (.assign (.const (.bool false)))])
 (.seq (.seq (.reg (some [0]) [Mv 5 0,Ro 6 (.lenS (.tmp 5)),Ol 7 (.move (.const (.int .i64 0)))])
 (.block 0 (.loop 2 (some [5,6,7]) (some [5,6,7]))))
 (.seq (.reg (some []) [Ol 2 (.assign (.const (.bool true)))])
 .ret)),
 [.tmp 2],
 [(2,⟨some [5,6,7],some [5,6,7],.seq (.reg (some [5,6,7]) [Bt 8 .lss 3 7 6])
 (.seq (.cond (.tmp 8) .skip
 (.exit 0 (some [])))
 (.seq (.block 1 (.seq (.reg (some [5,6,7]) [Ix 9 3 5 7,Ro 10 (.load 3 [.int .i64,.int .i64,.int .i64] (.tmp 9)),⟨some 4,none,.op true (.new 3 [.int .i64 0,.int .i64 0,.int .i64 0])⟩,⟨none,none,.op false (.store 3 (.tmp 4) (.tmp 10))⟩])
 (.seq (.reg (some [4,5,6,7]) [Ro 11 (.load 3 [.int .i64,.int .i64,.int .i64] (.tmp 4)),Ca 12 41 [.tmp 11] (some (.val (.one (.int .i64)))),Bc 13 .neq 27 12 .i64 0])
 (.cond (.tmp 13) (.seq (.reg (some []) [Ol 2 (.assign (.const (.bool false)))])
 .ret)
 .skip))))
 (.reg (some [5,6,7]) [Bc 14 .add 3 7 .i64 1,Mv 7 14])))⟩)],
 []⟩
theorem r22_ok : resFun (progU ()) hint live 22 Tryz.f22 = some r22:=by kernel_rfl
def r23 : RFun :=
⟨.seq (.reg (some [0]) [⟨some 1,none,.op true (.box 3 (.tmp 0))⟩,⟨some 2,none,.op true (.new 3 [.int .i64 0,.int .i64 0,.int .i64 0])⟩,Ac 3 0])
 (.seq (.seq (.reg (some [1,2]) [Ro 5 (.load 3 [.int .i64,.int .i64,.int .i64] (.tmp 1)),Ca 6 41 [.tmp 5] (some (.val (.one (.int .i64)))),As 4 6])
 (.seq (.reg (some [1,2,4]) [Mv 7 4,Bc 8 .neq 27 7 .i64 0])
 (.cond (.tmp 8) (.seq (.reg (some [2,4]) [Ro 9 (.build [.int .i64 0,.int .i64 0,.int .i64 0] []),Mv 10 4,⟨none,none,.op false (.store 3 (.tmp 2) (.tmp 9))⟩,As 3 10])
 .ret)
 .skip)))
 (.seq (.reg (some [1,2]) [Fa 11 1 1,L1 12 11,Ol 13 (.unOp .neg 2 (.tmp 12)),Fa 14 1 1,⟨none,none,.op false (.store 1 (.tmp 14) (.tmp 13))⟩])
 (.seq (.reg (some [1,2]) [Ro 15 (.load 3 [.int .i64,.int .i64,.int .i64] (.tmp 1)),⟨none,none,.op false (.store 3 (.tmp 2) (.tmp 15))⟩,Ac 3 0])
 .ret))),
 [.agg 2 3 [.int .i64,.int .i64,.int .i64],.tmp 3],
 [],
 []⟩
theorem r23_ok : resFun (progU ()) hint live 23 Tryz.f23 = some r23:=by kernel_rfl
def r24 : RFun :=
⟨.seq (.reg (some [0]) [Ol 2 (.assign (.const (.bool false)))])
 (.seq (.seq (.reg (some [0]) [Ac 3 0])
 (.block 0 (.loop 2 none (some [0,3]))))
 (.seq (.reg (some []) [Ol 2 (.assign (.const (.bool true)))])
 .ret)),
 [.tmp 2],
 [(2,⟨none,some [0,3],.seq (.seq (.reg (some [0,3]) [Mv 4 3,Mv 5 0,Ro 6 (.lenS (.tmp 5)),Bt 7 .lss 3 4 6])
 (.cond (.tmp 7) .skip
 (.exit 0 (some []))))
 (.seq (.block 1 (.seq (.reg (some [0,3]) [Mv 10 0,Mv 11 3,Ix 12 3 10 11,Ro 13 (.load 3 [.int .i64,.int .i64,.int .i64] (.tmp 12)),Ca 14 42 [.tmp 13] (some (.val (.one (.int .i64)))),Bc 15 .neq 3 14 .i64 0])
 (.cond (.tmp 15) (.seq (.reg (some []) [Ol 2 (.assign (.const (.bool false)))])
 .ret)
 .skip)))
 (.reg (some [0,3]) [Mv 8 3,Bc 9 .add 3 8 .i64 1,As 3 9]))⟩)],
 []⟩
theorem r24_ok : resFun (progU ()) hint live 24 Tryz.f24 = some r24:=by kernel_rfl
def r25 : RFun :=
⟨.seq (.reg (some [0]) [⟨some 1,none,.op true (.box 3 (.tmp 0))⟩,⟨some 2,none,.op true (.new 3 [.int .i64 0,.int .i64 0,.int .i64 0])⟩,Ac 3 0])
 (.seq (.seq (.reg (some [1,2]) [Ro 4 (.load 3 [.int .i64,.int .i64,.int .i64] (.tmp 1)),Ca 5 42 [.tmp 4] (some (.val (.one (.int .i64)))),Bc 6 .neq 3 5 .i64 0])
 (.cond (.tmp 6) (.seq (.reg (some [2]) [Ro 7 (.build [.int .i64 0,.int .i64 0,.int .i64 0] []),⟨none,none,.op false (.store 3 (.tmp 2) (.tmp 7))⟩,Ac 3 8])
 .ret)
 .skip))
 (.seq (.reg (some [1,2]) [Fa 8 0 1,L1 9 8,Fa 10 1 1,L1 11 10,Ol 12 (.unOp .neg 2 (.tmp 11)),Fa 13 2 1,L1 14 13,Ro 15 (.build [.int .i64 0,.int .i64 0,.int .i64 0] [(0,1,(.tmp 9)),(1,1,(.tmp 12)),(2,1,(.tmp 14))]),⟨none,none,.op false (.store 3 (.tmp 2) (.tmp 15))⟩,Ac 3 0])
 .ret)),
 [.agg 2 3 [.int .i64,.int .i64,.int .i64],.tmp 3],
 [],
 []⟩
theorem r25_ok : resFun (progU ()) hint live 25 Tryz.f25 = some r25:=by kernel_rfl
def r26 : RFun :=
⟨.seq (.reg (some [0,1]) [⟨some 2,none,.op true (.box 3 (.tmp 0))⟩,⟨some 3,none,.op true (.box 3 (.tmp 1))⟩,⟨some 4,none,.op true (.new 3 [.int .i64 0,.int .i64 0,.int .i64 0])⟩,Ac 5 0])
 (.seq (.seq (.reg (some [2,3,4]) [Ro 6 (.load 3 [.int .i64,.int .i64,.int .i64] (.tmp 2)),Ro 7 (.load 3 [.int .i64,.int .i64,.int .i64] (.tmp 3)),Ca 8 43 [.tmp 6,.tmp 7] (some (.val (.one (.int .i64)))),Bc 9 .neq 3 8 .i64 0])
 (.cond (.tmp 9) (.seq (.reg (some [4]) [Ro 10 (.build [.int .i64 0,.int .i64 0,.int .i64 0] []),⟨none,none,.op false (.store 3 (.tmp 4) (.tmp 10))⟩,Ac 5 8])
 .ret)
 .skip))
 (.seq (.reg (some [2,3,4]) [Fa 11 0 2,L1 12 11,Fa 13 0 3,L1 14 13,Bt 15 .mul 2 12 14,Fa 16 1 2,L1 17 16,Fa 18 1 3,L1 19 18,Bt 20 .mul 2 17 19,Bt 21 .sub 2 15 20,Fa 22 0 2,L1 23 22,Fa 24 1 3,L1 25 24,Bt 26 .mul 2 23 25,Fa 27 1 2,L1 28 27,Fa 29 0 3,L1 30 29,Bt 31 .mul 2 28 30,Bt 32 .add 2 26 31,Fa 33 2 2,L1 34 33,Fa 35 2 3,L1 36 35,Bt 37 .mul 2 34 36,Ca 38 44 [.tmp 21,.tmp 32,.tmp 37] (some (.tup [.agg [.int .i64,.int .i64,.int .i64],.one (.int .i64)])),Ex 39 38 0,Ex 40 38 1,⟨none,none,.op false (.store 3 (.tmp 4) (.tmp 39))⟩,As 5 40])
 .ret)),
 [.agg 4 3 [.int .i64,.int .i64,.int .i64],.tmp 5],
 [],
 []⟩
theorem r26_ok : resFun (progU ()) hint live 26 Tryz.f26 = some r26:=by kernel_rfl
def r27 : RFun :=
⟨.seq (.reg (some [0,1]) [⟨some 2,none,.op true (.box 3 (.tmp 0))⟩,⟨some 3,none,.op true (.box 3 (.tmp 1))⟩,⟨some 4,none,.op true (.new 3 [.int .i64 0,.int .i64 0,.int .i64 0])⟩,Ac 5 0])
 (.seq (.seq (.reg (some [2,3,4]) [Ro 6 (.load 3 [.int .i64,.int .i64,.int .i64] (.tmp 2)),Ro 7 (.load 3 [.int .i64,.int .i64,.int .i64] (.tmp 3)),Ca 8 43 [.tmp 6,.tmp 7] (some (.val (.one (.int .i64)))),Bc 9 .neq 3 8 .i64 0])
 (.cond (.tmp 9) (.seq (.reg (some [4]) [Ro 10 (.build [.int .i64 0,.int .i64 0,.int .i64 0] []),⟨none,none,.op false (.store 3 (.tmp 4) (.tmp 10))⟩,Ac 5 8])
 .ret)
 .skip))
 (.seq (.reg (some [2,3,4]) [Fa 11 0 2,L1 12 11,Fa 13 2 3,L1 14 13,Bt 15 .mul 2 12 14,Fa 16 0 3,L1 17 16,Fa 18 2 2,L1 19 18,Bt 20 .mul 2 17 19,Bt 21 .add 2 15 20,Fa 22 1 2,L1 23 22,Fa 24 2 3,L1 25 24,Bt 26 .mul 2 23 25,Fa 27 1 3,L1 28 27,Fa 29 2 2,L1 30 29,Bt 31 .mul 2 28 30,Bt 32 .add 2 26 31,Fa 33 2 2,L1 34 33,Fa 35 2 3,L1 36 35,Bt 37 .mul 2 34 36,Ca 38 44 [.tmp 21,.tmp 32,.tmp 37] (some (.tup [.agg [.int .i64,.int .i64,.int .i64],.one (.int .i64)])),Ex 39 38 0,Ex 40 38 1,⟨none,none,.op false (.store 3 (.tmp 4) (.tmp 39))⟩,As 5 40])
 .ret)),
 [.agg 4 3 [.int .i64,.int .i64,.int .i64],.tmp 5],
 [],
 []⟩
theorem r27_ok : resFun (progU ()) hint live 27 Tryz.f27 = some r27:=by kernel_rfl
def r28 : RFun :=
⟨.seq (.reg (some [0]) [Ol 2 (.assign (.const (.slice none 0 0)))])
 (.seq (.reg (some [0]) [Ac 3 0])
 (.seq (.seq (.reg (some [0,3]) [Mv 9 0,Ro 10 (.lenS (.tmp 9)),Ol 11 (.move (.const (.int .i64 0)))])
 (.block 0 (.loop 3 none (some [0,3,9,10,11]))))
 (.seq (.reg (some [0,3]) [Mv 23 3,Ca 24 45 [.const (.slice none 0 0),.tmp 23] (some (.val (.one .slice))),As 6 24])
 (.seq (.seq (.reg (some [0,6]) [Mv 25 0,Ro 26 (.lenS (.tmp 25)),Ol 27 (.move (.const (.int .i64 0)))])
 (.block 2 (.loop 11 none (some [6,25,26,27]))))
 (.seq (.reg (some [6]) [Mv 35 6,As 2 35])
 .ret))))),
 [.tmp 2],
 [(3,⟨none,some [0,3,9,10,11],.seq (.reg (some [0,3,9,10,11]) [Bt 12 .lss 3 11 10])
 (.seq (.cond (.tmp 12) .skip
 (.exit 0 (some [0,3])))
 (.seq (.block 1 (.seq (.reg (some [0,3,9,10,11]) [Ix 13 1 9 11,Ro 14 (.load1 .slice (.tmp 13)),As 5 14])
 (.seq (.reg (some [0,3,5,9,10,11]) [Mv 15 3,Mv 16 5,Ro 17 (.lenS (.tmp 16)),Bt 18 .add 3 15 17,As 3 18])
 (.seq (.reg (some [0,3,9,10,11]) [Mv 19 3,Bc 20 .lss 3 19 .i64 0])
 (.cond (.tmp 20) (.reg (some [0,3,9,10,11]) [⟨some 21,none,.op false (.old (.makeInterface 9 (.const (.string ⟨#[108,101,110,32,111,117,116,32,111,102,32,114,97,110,103,101]⟩))))⟩,⟨none,none,.op false (.old (.panic (.tmp 21)))⟩])
 .skip)))))
 (.reg (some [0,3,9,10,11]) [Bc 22 .add 3 11 .i64 1,Mv 11 22])))⟩),(11,⟨none,some [6,25,26,27],.seq (.reg (some [6,25,26,27]) [Bt 28 .lss 3 27 26])
 (.seq (.cond (.tmp 28) .skip
 (.exit 2 (some [6])))
 (.seq (.block 3 (.seq (.reg (some [6,25,26,27]) [Ix 29 1 25 27,Ro 30 (.load1 .slice (.tmp 29)),As 8 30])
 (.reg (some [6,8,25,26,27]) [Mv 31 6,Mv 32 8,⟨some 33,none,.op false (.old (.call ⟨.builtin .append,#[.tmp 31,.tmp 32],#[24,24]⟩))⟩,As 6 33])))
 (.reg (some [6,25,26,27]) [Bc 34 .add 3 27 .i64 1,Mv 27 34])))⟩)],
 []⟩
theorem r28_ok : resFun (progU ()) hint live 28 Tryz.f28 = some r28:=by kernel_rfl
def r29 : RFun :=
⟨.seq (.reg (some [0,1]) [⟨some 3,none,.op true (.box 2 (.tmp 1))⟩,Ol 4 (.assign (.const (.bool false)))])
 (.seq (.seq (.reg (some [0,3]) [Ld 7 3,Ca 8 46 [.tmp 7] (some (.val (.one (.int .i64)))),Bc 9 .neq 27 8 .i64 0,Mv 10 9,⟨some 11,some (10,false),.op false (.fieldAddr 1 (.tmp 3))⟩,⟨some 12,some (10,false),.op false (.load1 (.int .i64) (.tmp 11))⟩,⟨some 13,some (10,false),.op false (.old (.binOp .gtr 2 (.tmp 12) (.const (.int .i64 6)) 2))⟩,Ol 14 (.pick (.tmp 10) (.const (.bool true)) (.tmp 13)),Mv 15 14,⟨some 16,some (15,false),.op false (.fieldAddr 0 (.tmp 3))⟩,⟨some 17,some (15,false),.op false (.load1 (.int .i64) (.tmp 16))⟩,⟨some 18,some (15,false),.op false (.old (.binOp .lss 2 (.tmp 17) (.const (.int .i64 0)) 2))⟩,Ol 19 (.pick (.tmp 15) (.const (.bool true)) (.tmp 18))])
 (.cond (.tmp 19) (.seq (.reg (some []) [Ol 4 (.assign (.const (.bool false)))])
 .ret)
 .skip))
 (.seq (.reg (some [0,3]) [Ld 21 3,Mv 22 0,Ro 23 (.build [.int .i64 0,.int .i64 0] [(0,1,(.tmp 22)),(1,1,(.const (.int .i64 1)))]),Ca 24 47 [.tmp 21,.tmp 23] (some (.tup [.one (.int .i64),.one (.int .i64)])),Mv 20 24,Ex 25 20 0,Ex 26 20 1,As 5 25,As 6 26])
 (.seq (.reg (some [5,6]) [Mv 27 6,Bc 28 .eql 27 27 .i64 0,Mv 29 28,⟨some 30,some (29,true),.op false (.old (.move (.tmp 5)))⟩,⟨some 31,some (29,true),.op false (.old (.binOp .lss 3 (.tmp 30) (.const (.int .i64 0)) 3))⟩,Ol 32 (.pick (.tmp 29) (.tmp 31) (.const (.bool false))),As 4 32])
 .ret))),
 [.tmp 4],
 [],
 []⟩
theorem r29_ok : resFun (progU ()) hint live 29 Tryz.f29 = some r29:=by kernel_rfl
def r30 : RFun :=
⟨.seq (.reg (some [0]) [⟨some 1,none,.op true (.box 2 (.tmp 0))⟩,Ac 2 0,⟨some 3,none,.op true (.new 4 [.int .i64 0,.int .i64 0,.int .i64 0,.int .i64 0])⟩,Ac 4 0])
 (.seq (.reg (some [1,3]) [Ld 10 1,Ca 11 48 [.tmp 10] (some (.tup [.one (.int .i64),.one (.int .i64)])),Mv 9 11,Ex 12 9 0,Ex 13 9 1,As 5 12,As 6 13])
 (.seq (.seq (.reg (some [1,3,5,6]) [Mv 14 6,Bc 15 .neq 27 14 .i64 0])
 (.cond (.tmp 15) (.seq (.reg (some [3,6]) [Ro 16 (.build [.int .i64 0,.int .i64 0,.int .i64 0,.int .i64 0] []),Mv 17 6,Ac 2 0,⟨none,none,.op false (.store 4 (.tmp 3) (.tmp 16))⟩,As 4 17])
 .ret)
 .skip))
 (.seq (.reg (some [1,3,5]) [Ld 19 1,Mv 20 5,Ro 21 (.build [.int .i64 0,.int .i64 0] [(0,1,(.tmp 20)),(1,1,(.const (.int .i64 1)))]),Ca 22 49 [.tmp 19,.tmp 21] (some (.tup [.agg [.int .i64,.int .i64],.one (.int .i64)])),Mv 18 22,Ex 23 18 0,Ex 24 18 1,⟨some 7,none,.op true (.new 2 [.int .i64 0,.int .i64 0])⟩,⟨none,none,.op false (.store 2 (.tmp 7) (.tmp 23))⟩,As 6 24])
 (.seq (.seq (.reg (some [3,5,6,7]) [Mv 25 6,Bc 26 .neq 27 25 .i64 0])
 (.cond (.tmp 26) (.seq (.reg (some [3,6]) [Ro 27 (.build [.int .i64 0,.int .i64 0,.int .i64 0,.int .i64 0] []),Mv 28 6,Ac 2 0,⟨none,none,.op false (.store 4 (.tmp 3) (.tmp 27))⟩,As 4 28])
 .ret)
 .skip))
 (.seq (.reg (some [3,5,7]) [Ro 30 (.build [.int .i64 0,.int .i64 0] [(0,1,(.const (.int .i64 1))),(1,1,(.const (.int .i64 1)))]),Ld 31 7,Ca 32 49 [.tmp 30,.tmp 31] (some (.tup [.agg [.int .i64,.int .i64],.one (.int .i64)])),Mv 29 32,Ex 33 29 0,Ex 34 29 1,⟨some 8,none,.op true (.new 2 [.int .i64 0,.int .i64 0])⟩,⟨none,none,.op false (.store 2 (.tmp 8) (.tmp 33))⟩,As 6 34])
 (.seq (.draw (some [3,5,6,7,8]) 8 [Dr (Mv 35 5) 0 [5,6,7],Db (Ld 36 8) 1 8 [3,6,7],Db (Ld 37 7) 2 7 [3,6,7],Dr (Ro 38 (.build [.int .i64 0,.int .i64 0,.int .i64 0,.int .i64 0] [(0,2,(.tmp 36)),(2,2,(.tmp 37))])) 3 [6,7],Dr (Mv 39 6) 4 [7],Dr (As 2 35) 5 [6,7],⟨⟨none,none,.op false (.store 4 (.tmp 3) (.tmp 38))⟩,6,.blk (.tmp 3),[7],true,true⟩,Dr (As 4 39) 7 []])
 .ret)))))),
 [.tmp 2,.agg 3 4 [.int .i64,.int .i64,.int .i64,.int .i64],.tmp 4],
 [],
 []⟩
theorem r30_ok : resFun (progU ()) hint live 30 Tryz.f30 = some r30:=by kernel_rfl
def r31 : RFun :=
⟨.seq (.reg (some [0,1]) [⟨some 2,none,.op true (.box 2 (.tmp 0))⟩,⟨some 3,none,.op true (.box 2 (.tmp 1))⟩,⟨some 4,none,.op true (.new 2 [.int .i64 0,.int .i64 0])⟩,Ac 5 0])
 (.seq (.seq (.reg (some [2,3,4]) [Ld 7 2,Ld 8 3,Ca 9 50 [.tmp 7,.tmp 8] (some (.val (.one (.int .i64)))),As 6 9])
 (.seq (.reg (some [2,3,4,6]) [Mv 10 6,Bc 11 .neq 27 10 .i64 0])
 (.cond (.tmp 11) (.seq (.reg (some [4,6]) [Ro 12 (.build [.int .i64 0,.int .i64 0] []),Mv 13 6,⟨none,none,.op false (.store 2 (.tmp 4) (.tmp 12))⟩,As 5 13])
 .ret)
 .skip)))
 (.seq (.reg (some [2,3,4]) [Ld 14 2,Ld 15 3,Ca 16 51 [.tmp 14,.tmp 15] (some (.tup [.agg [.int .i64,.int .i64],.one (.int .i64)])),Ex 17 16 0,Ex 18 16 1,⟨none,none,.op false (.store 2 (.tmp 4) (.tmp 17))⟩,As 5 18])
 .ret)),
 [.agg 4 2 [.int .i64,.int .i64],.tmp 5],
 [],
 []⟩
theorem r31_ok : resFun (progU ()) hint live 31 Tryz.f31 = some r31:=by kernel_rfl
def r32 : RFun :=
⟨.seq (.reg (some [0,1]) [Mv 5 0,Ro 6 (.lenS (.tmp 5)),As 4 6])
 (.reg (some [0,1,4]) [Mv 7 0,Mv 8 4,Mv 9 4,Ro 10 (.convI .u64 (.tmp 9)),Ca 11 53 [.tmp 10] (some (.val (.one (.int .i64)))),Mv 12 1,Ca 13 52 [.tmp 7,.const (.int .i64 0),.tmp 8,.tmp 11,.tmp 12] (some (.tup []))]),
 [],
 [],
 []⟩
theorem r32_ok : resFun (progU ()) hint live 32 Tryz.f32 = some r32:=by kernel_rfl
def r33 : RFun :=
⟨.seq (.reg (some [0,1]) [⟨some 2,none,.op true (.box 4 (.tmp 0))⟩,⟨some 3,none,.op true (.box 4 (.tmp 1))⟩,Ac 4 0])
 (.seq (.draw (some [2,3]) 13 [Dr (Fa 5 1 2) 0 [1,4,9,10,11,12],Db (L1 6 5) 1 5 [4,9,10,11,12],Dr (Fa 7 1 3) 2 [3,4,9,10,11,12],Db (L1 8 7) 3 7 [4,9,10,11,12],Dr (Fa 10 0 2) 5 [6,9,10,11,12],Db (L1 11 10) 6 10 [9,10,11,12],Dr (Fa 12 0 3) 7 [8,9,10,11,12],Db (L1 13 12) 8 12 [9,10,11,12],⟨Ca 9 35 [.tmp 6,.tmp 8] (some (.val (.one (.int .i64)))),4,.all,[9,10,11,12],false,false⟩,⟨Ca 14 35 [.tmp 11,.tmp 13] (some (.val (.one (.int .i64)))),9,.all,[10,11,12],false,false⟩,⟨Ro 15 (.buildSlice 1 2 [.int .i64 0,.int .i64 0] [(0,1,(.tmp 9)),(1,1,(.tmp 14))]),10,.new false,[11,12],false,true⟩,⟨Ca 16 34 [.tmp 15] (some (.val (.one (.int .i64)))),11,.all,[12],false,false⟩,Dr (As 4 16) 12 []])
 .ret),
 [.tmp 4],
 [],
 []⟩
theorem r33_ok : resFun (progU ()) hint live 33 Tryz.f33 = some r33:=by kernel_rfl
def r34 : RFun :=
⟨.seq (.reg (some [0]) [Ac 2 0])
 (.seq (.reg (some [0]) [Ac 3 0])
 (.seq (.seq (.reg (some [0,3]) [Mv 6 0,Ro 7 (.lenS (.tmp 6)),Ol 8 (.move (.const (.int .i64 0)))])
 (.block 0 (.loop 3 none (some [3,6,7,8]))))
 (.seq (.reg (some [3]) [Mv 17 3,As 2 17])
 .ret))),
 [.tmp 2],
 [(3,⟨none,some [3,6,7,8],.seq (.reg (some [3,6,7,8]) [Bt 9 .lss 3 8 7])
 (.seq (.cond (.tmp 9) .skip
 (.exit 0 (some [3])))
 (.seq (.block 1 (.seq (.reg (some [3,6,7,8]) [Ix 10 1 6 8,L1 11 10,As 5 11])
 (.seq (.reg (some [3,5,6,7,8]) [Mv 12 5,Mv 13 3,Bt 14 .neq 3 12 13])
 (.cond (.tmp 14) (.seq (.reg (some [5]) [Mv 15 5,As 2 15])
 .ret)
 .skip))))
 (.reg (some [3,6,7,8]) [Bc 16 .add 3 8 .i64 1,Mv 8 16])))⟩)],
 []⟩
theorem r34_ok : resFun (progU ()) hint live 34 Tryz.f34 = some r34:=by kernel_rfl
def r35 : RFun :=
⟨.seq (.reg (some [0,1]) [Ac 4 0])
 (.seq (.reg (some [0,1]) [Mv 7 0,Ca 8 54 [.tmp 7] (some (.val (.one .bool))),As 5 8])
 (.seq (.reg (some [0,1,5]) [Mv 9 1,Ca 10 54 [.tmp 9] (some (.val (.one .bool))),As 6 10])
 (.seq (.seq (.reg (some [0,1,5,6]) [Mv 11 5])
 (.cond (.tmp 11) (.seq (.seq (.reg (some [6]) [Mv 12 6])
 (.cond (.tmp 12) (.seq (.reg (some []) [Ac 4 0])
 .ret)
 .skip))
 (.seq (.reg (some []) [Ol 4 (.assign (.const (.int .i64 (-1))))])
 .ret))
 .skip))
 (.seq (.seq (.reg (some [0,1,6]) [Mv 13 6])
 (.cond (.tmp 13) (.seq (.reg (some []) [Ac 4 1])
 .ret)
 .skip))
 (.seq (.seq (.reg (some [0,1]) [Mv 14 0,Mv 15 1,Bt 16 .lss 3 14 15])
 (.cond (.tmp 16) (.seq (.reg (some []) [Ol 4 (.assign (.const (.int .i64 (-1))))])
 .ret)
 .skip))
 (.seq (.seq (.reg (some [0,1]) [Mv 17 0,Mv 18 1,Bt 19 .gtr 3 17 18])
 (.cond (.tmp 19) (.seq (.reg (some []) [Ac 4 1])
 .ret)
 .skip))
 (.seq (.reg (some []) [Ac 4 0])
 .ret))))))),
 [.tmp 4],
 [],
 []⟩
theorem r35_ok : resFun (progU ()) hint live 35 Tryz.f35 = some r35:=by kernel_rfl
def r36 : RFun :=
⟨.seq (.reg (some [0,1]) [⟨some 2,none,.op true (.box 3 (.tmp 0))⟩,⟨some 3,none,.op true (.box 3 (.tmp 1))⟩,⟨some 4,none,.op true (.new 3 [.int .i64 0,.int .i64 0,.int .i64 0])⟩,Ac 5 0])
 (.seq (.seq (.reg (some [2,3,4]) [Ro 7 (.load 3 [.int .i64,.int .i64,.int .i64] (.tmp 2)),Ro 8 (.load 3 [.int .i64,.int .i64,.int .i64] (.tmp 3)),Ca 9 55 [.tmp 7,.tmp 8] (some (.val (.one (.int .i64)))),As 6 9])
 (.seq (.reg (some [2,3,4,6]) [Mv 10 6,Bc 11 .neq 27 10 .i64 0])
 (.cond (.tmp 11) (.seq (.reg (some [4,6]) [Ro 12 (.build [.int .i64 0,.int .i64 0,.int .i64 0] []),Mv 13 6,⟨none,none,.op false (.store 3 (.tmp 4) (.tmp 12))⟩,As 5 13])
 .ret)
 .skip)))
 (.seq (.reg (some [2,3,4]) [Fa 14 0 2,L1 15 14,Fa 16 0 3,L1 17 16,Bt 18 .mul 2 15 17,Fa 19 1 2,L1 20 19,Fa 21 1 3,L1 22 21,Bt 23 .mul 2 20 22,Bt 24 .sub 2 18 23,Fa 25 0 2,L1 26 25,Fa 27 1 3,L1 28 27,Bt 29 .mul 2 26 28,Fa 30 1 2,L1 31 30,Fa 32 0 3,L1 33 32,Bt 34 .mul 2 31 33,Bt 35 .add 2 29 34,Fa 36 2 2,L1 37 36,Fa 38 2 3,L1 39 38,Bt 40 .mul 2 37 39,Ca 41 56 [.tmp 24,.tmp 35,.tmp 40] (some (.tup [.agg [.int .i64,.int .i64,.int .i64],.one (.int .i64)])),Ex 42 41 0,Ex 43 41 1,⟨none,none,.op false (.store 3 (.tmp 4) (.tmp 42))⟩,As 5 43])
 .ret)),
 [.agg 4 3 [.int .i64,.int .i64,.int .i64],.tmp 5],
 [],
 []⟩
theorem r36_ok : resFun (progU ()) hint live 36 Tryz.f36 = some r36:=by kernel_rfl
def r37 : RFun :=
⟨.seq (.reg (some [0,1]) [⟨some 2,none,.op true (.box 3 (.tmp 0))⟩,⟨some 3,none,.op true (.box 3 (.tmp 1))⟩,⟨some 4,none,.op true (.new 3 [.int .i64 0,.int .i64 0,.int .i64 0])⟩,Ac 5 0])
 (.seq (.seq (.reg (some [2,3,4]) [Ro 7 (.load 3 [.int .i64,.int .i64,.int .i64] (.tmp 2)),Ro 8 (.load 3 [.int .i64,.int .i64,.int .i64] (.tmp 3)),Ca 9 55 [.tmp 7,.tmp 8] (some (.val (.one (.int .i64)))),As 6 9])
 (.seq (.reg (some [2,3,4,6]) [Mv 10 6,Bc 11 .neq 27 10 .i64 0])
 (.cond (.tmp 11) (.seq (.reg (some [4,6]) [Ro 12 (.build [.int .i64 0,.int .i64 0,.int .i64 0] []),Mv 13 6,⟨none,none,.op false (.store 3 (.tmp 4) (.tmp 12))⟩,As 5 13])
 .ret)
 .skip)))
 (.seq (.reg (some [2,3,4]) [Fa 14 0 2,L1 15 14,Fa 16 2 3,L1 17 16,Bt 18 .mul 2 15 17,Fa 19 0 3,L1 20 19,Fa 21 2 2,L1 22 21,Bt 23 .mul 2 20 22,Bt 24 .add 2 18 23,Fa 25 1 2,L1 26 25,Fa 27 2 3,L1 28 27,Bt 29 .mul 2 26 28,Fa 30 1 3,L1 31 30,Fa 32 2 2,L1 33 32,Bt 34 .mul 2 31 33,Bt 35 .add 2 29 34,Fa 36 2 2,L1 37 36,Fa 38 2 3,L1 39 38,Bt 40 .mul 2 37 39,Ca 41 56 [.tmp 24,.tmp 35,.tmp 40] (some (.tup [.agg [.int .i64,.int .i64,.int .i64],.one (.int .i64)])),Ex 42 41 0,Ex 43 41 1,⟨none,none,.op false (.store 3 (.tmp 4) (.tmp 42))⟩,As 5 43])
 .ret)),
 [.agg 4 3 [.int .i64,.int .i64,.int .i64],.tmp 5],
 [],
 []⟩
theorem r37_ok : resFun (progU ()) hint live 37 Tryz.f37 = some r37:=by kernel_rfl
def r38 : RFun :=
⟨.seq (.reg (some [0,1]) [⟨some 3,none,.op true (.box 2 (.tmp 1))⟩,Ol 4 (.assign (.const (.bool false)))])
 (.seq (.draw (some [0,3]) 20 [Db (Ld 5 3) 0 3 [1,2,3,4,5,6,7,8,9,10,11,12,13,14,15,16,17,18,19],⟨Ca 6 57 [.tmp 5] (some (.val (.one (.int .i64)))),1,.all,[2,3,4,5,6,7,8,9,10,11,12,13,14,15,16,17,18,19],false,false⟩,Dr (Bc 7 .eql 3 6 .i64 0) 2 [3,4,5,6,7,8,9,10,11,12,13,14,15,16,17,18,19],Dr (Mv 8 7) 3 [4,5,6,7,8,9,10,11,12,13,14,15,16,17,18,19],⟨⟨some 9,some (8,true),.op false (.fieldAddr 0 (.tmp 3))⟩,4,.none,[5,6,7,8,9,10,11,12,13,14,15,16,17,18,19],false,true⟩,⟨⟨some 10,some (8,true),.op false (.load1 (.int .i64) (.tmp 9))⟩,5,.blk (.tmp 9),[6,7,8,9,10,11,12,13,14,15,16,17,18,19],false,true⟩,⟨⟨some 11,some (8,true),.op false (.old (.binOp .geq 2 (.tmp 10) (.const (.int .i64 0)) 2))⟩,6,.none,[7,8,9,10,11,12,13,14,15,16,17,18,19],false,true⟩,Dr (Ol 12 (.pick (.tmp 8) (.tmp 11) (.const (.bool false)))) 7 [8,9,10,11,12,13,14,15,16,17,18,19],Dr (Mv 13 12) 8 [9,10,11,12,13,14,15,16,17,18,19],⟨⟨some 14,some (13,true),.op false (.fieldAddr 1 (.tmp 3))⟩,9,.none,[10,11,12,13,14,15,16,17,18,19],false,true⟩,⟨⟨some 15,some (13,true),.op false (.load1 (.int .i64) (.tmp 14))⟩,10,.blk (.tmp 14),[11,12,13,14,15,16,17,18,19],false,true⟩,⟨⟨some 16,some (13,true),.op false (.old (.binOp .leq 2 (.tmp 15) (.const (.int .i64 6)) 2))⟩,11,.none,[12,13,14,15,16,17,18,19],false,true⟩,Dr (Ol 17 (.pick (.tmp 13) (.tmp 16) (.const (.bool false)))) 12 [13,14,15,16,17,18,19],Dr (Mv 18 17) 13 [14,15,16,17,18,19],⟨⟨some 19,some (18,true),.op false (.load 2 [.int .i64,.int .i64] (.tmp 3))⟩,14,.blk (.tmp 3),[17,18,19],false,true⟩,⟨⟨some 20,some (18,true),.op false (.old (.move (.tmp 0)))⟩,15,.none,[16,17,18,19],false,true⟩,⟨⟨some 21,some (18,true),.call (.func 59) [.tmp 20] (some (.val (.agg [.int .i64,.int .i64])))⟩,16,.all,[17,18,19],false,false⟩,⟨⟨some 22,some (18,true),.call (.func 58) [.tmp 19,.tmp 21] (some (.val (.one .bool)))⟩,17,.all,[18,19],false,false⟩,Dr (Ol 23 (.pick (.tmp 18) (.tmp 22) (.const (.bool false)))) 18 [19],Dr (As 4 23) 19 []])
 .ret),
 [.tmp 4],
 [],
 []⟩
theorem r38_ok : resFun (progU ()) hint live 38 Tryz.f38 = some r38:=by kernel_rfl
def r39 : RFun :=
⟨.seq (.reg (some [0,1]) [⟨some 2,none,.op true (.box 2 (.tmp 0))⟩,⟨some 3,none,.op true (.box 2 (.tmp 1))⟩,⟨some 4,none,.op true (.new 2 [.int .i64 0,.int .i64 0])⟩,Ac 5 0])
 (.seq (.seq (.reg (some [2,3,4]) [Ld 8 2,Ld 9 3,Ca 10 60 [.tmp 8,.tmp 9] (some (.val (.one (.int .i64)))),Bc 11 .neq 3 10 .i64 0])
 (.cond (.tmp 11) (.seq (.reg (some [2,3,4]) [Ro 12 (.build [.int .i64 0,.int .i64 0] []),Ld 13 2,Ld 14 3,Ca 15 60 [.tmp 13,.tmp 14] (some (.val (.one (.int .i64)))),⟨none,none,.op false (.store 2 (.tmp 4) (.tmp 12))⟩,As 5 15])
 .ret)
 .skip))
 (.seq (.draw (some [2,3,4]) 16 [Dr (Fa 16 0 2) 0 [1,2,6,9,13,14,15],Db (L1 17 16) 1 16 [2,6,9,13,14,15],Dr (Fa 19 1 3) 3 [4,5,6,9,13,14,15],Db (L1 20 19) 4 19 [5,6,9,13,14,15],⟨Ro 21 (.convI .u64 (.tmp 20)),5,.cvt (.tmp 20),[6,9,13,14,15],false,true⟩,Dr (Fa 23 0 3) 7 [8,9,13,14,15],Db (L1 24 23) 8 23 [9,13,14,15],Dr (Fa 26 1 2) 10 [11,12,13,14,15],Db (L1 27 26) 11 26 [12,13,14,15],⟨Ro 28 (.convI .u64 (.tmp 27)),12,.cvt (.tmp 27),[13,14,15],false,true⟩,⟨Ca 18 62 [.tmp 17] (some (.val (.one (.int .u64)))),2,.all,[6,9,13,14,15],false,false⟩,⟨Ca 22 61 [.tmp 18,.tmp 21] (some (.val (.one (.int .u64)))),6,.all,[9,13,14,15],false,false⟩,⟨Ca 25 62 [.tmp 24] (some (.val (.one (.int .u64)))),9,.all,[13,14,15],false,false⟩,⟨Ca 29 61 [.tmp 25,.tmp 28] (some (.val (.one (.int .u64)))),13,.all,[14,15],false,false⟩,Dr (As 6 22) 14 [15],Dr (As 7 29) 15 []])
 (.seq (.draw (some [2,3,4,6,7]) 34 [Dr (Fa 30 0 2) 0 [1,2,6,29,30,31,32,33],Db (L1 31 30) 1 30 [2,6,29,30,31,32,33],Dr (Bc 32 .lss 2 31 .i64 0) 2 [6,29,30,31,32,33],Dr (Fa 33 0 3) 3 [4,5,6,29,30,31,32,33],Db (L1 34 33) 4 33 [5,6,29,30,31,32,33],Dr (Bc 35 .lss 2 34 .i64 0) 5 [6,29,30,31,32,33],Dr (Bt 36 .neq 4 32 35) 6 [29,30,31,32,33],Dr (Fa 37 0 2) 7 [8,9,11,14,16,17,28,29,30,31,32,33],Db (L1 38 37) 8 37 [9,11,14,16,17,28,29,30,31,32,33],Dr (Mv 40 6) 10 [11,17,28,29,30,31,32,33],Dr (Fa 42 0 3) 12 [13,14,16,17,28,29,30,31,32,33],Db (L1 43 42) 13 42 [14,16,17,28,29,30,31,32,33],Dr (Mv 45 7) 15 [16,17,28,29,30,31,32,33],Dr (Fa 48 1 2) 18 [19,20,22,28,29,30,31,32,33],Db (L1 49 48) 19 48 [20,22,28,29,30,31,32,33],⟨Ro 50 (.convI .u64 (.tmp 49)),20,.cvt (.tmp 49),[22,28,29,30,31,32,33],false,true⟩,Dr (Mv 51 7) 21 [22,28,29,30,31,32,33],Dr (Bt 52 .quo 100 50 51) 22 [28,29,30,31,32,33],Dr (Fa 53 1 3) 23 [24,25,27,28,29,30,31,32,33],Db (L1 54 53) 24 53 [25,27,28,29,30,31,32,33],⟨Ro 55 (.convI .u64 (.tmp 54)),25,.cvt (.tmp 54),[27,28,29,30,31,32,33],false,true⟩,Dr (Mv 56 6) 26 [27,28,29,30,31,32,33],Dr (Bt 57 .quo 100 55 56) 27 [28,29,30,31,32,33],⟨Ca 39 62 [.tmp 38] (some (.val (.one (.int .u64)))),9,.all,[11,14,16,17,28,29,30,31,32,33],false,false⟩,Dr (Bt 41 .quo 100 39 40) 11 [17,28,29,30,31,32,33],⟨Ca 44 62 [.tmp 43] (some (.val (.one (.int .u64)))),14,.all,[16,17,28,29,30,31,32,33],false,false⟩,Dr (Bt 46 .quo 100 44 45) 16 [17,28,29,30,31,32,33],⟨Ca 47 64 [.tmp 41,.tmp 46] (some (.val (.agg [.int .u64,.int .u64,.int .u64,.int .u64]))),17,.all,[28,29,30,31,32,33],false,false⟩,⟨Ca 58 64 [.tmp 52,.tmp 57] (some (.val (.agg [.int .u64,.int .u64,.int .u64,.int .u64]))),28,.all,[29,30,31,32,33],false,false⟩,⟨Ca 59 63 [.tmp 36,.tmp 47,.tmp 58] (some (.tup [.agg [.int .i64,.int .i64],.one (.int .i64)])),29,.all,[30,31,32,33],false,false⟩,Dr (Ex 60 59 0) 30 [32,33],Dr (Ex 61 59 1) 31 [32,33],⟨⟨none,none,.op false (.store 2 (.tmp 4) (.tmp 60))⟩,32,.blk (.tmp 4),[33],true,true⟩,Dr (As 5 61) 33 []])
 .ret))),
 [.agg 4 2 [.int .i64,.int .i64],.tmp 5],
 [],
 []⟩
theorem r39_ok : resFun (progU ()) hint live 39 Tryz.f39 = some r39:=by kernel_rfl
def r40 : RFun :=
⟨.seq (.reg (some [0,1,2]) [⟨some 4,none,.op true (.box 2 (.tmp 1))⟩,⟨some 6,none,.op true (.new 2 [.int .i64 0,.int .i64 0])⟩])
 (.seq (.reg (some [0,2,4,6]) [Fa 13 0 4,L1 14 13,Fa 15 1 4,L1 16 15,Bt 17 .quo 2 14 16,As 7 17])
 (.seq (.reg (some [0,2,4,6,7]) [Fa 18 0 4,L1 19 18,Mv 20 7,Fa 21 1 4,L1 22 21,Bt 23 .mul 2 20 22,Bt 24 .sub 2 19 23,Fa 25 1 4,L1 26 25,Ro 27 (.build [.int .i64 0,.int .i64 0] [(0,1,(.tmp 24)),(1,1,(.tmp 26))]),⟨some 8,none,.op true (.new 2 [.int .i64 0,.int .i64 0])⟩,⟨none,none,.op false (.store 2 (.tmp 8) (.tmp 27))⟩])
 (.seq (.seq (.reg (some [0,2,6,7,8]) [Mv 28 2,Mv 29 7,Bt 30 .eql 2 28 29])
 (.cond (.tmp 30) (.seq (.draw (some [6,8]) 9 [Db (Ld 33 8) 1 8 [2,3,4,5,7,8],⟨⟨some 9,none,.op true (.new 2 [.int .i64 0,.int .i64 0])⟩,6,.new true,[7,8],false,true⟩,⟨Ca 32 59 [.const (.int .i64 1)] (some (.val (.agg [.int .i64,.int .i64]))),0,.all,[2,3,4,5,7,8],false,false⟩,⟨Ca 34 65 [.tmp 32,.tmp 33] (some (.tup [.agg [.int .i64,.int .i64],.one (.int .i64)])),2,.all,[3,4,5,7,8],false,false⟩,Dr (Mv 31 34) 3 [4,5,7,8],Dr (Ex 35 31 0) 4 [7,8],Dr (Ex 36 31 1) 5 [8],⟨⟨none,none,.op false (.store 2 (.tmp 9) (.tmp 35))⟩,7,.blk (.tmp 9),[8],true,true⟩,Dr (As 10 36) 8 []])
 (.seq (.reg (some [6,9]) [Ld 37 9,⟨none,none,.op false (.store 2 (.tmp 6) (.tmp 37))⟩])
 .ret))
 .skip))
 (.seq (.seq (.reg (some [0,2,6,7,8]) [Mv 38 2,Mv 39 7,Bc 40 .add 2 39 .i64 1,Mv 41 0,Bt 42 .rem 2 40 41,Bt 43 .eql 2 38 42])
 (.cond (.tmp 43) (.seq (.reg (some [6,8]) [Fa 45 0 8,L1 46 45,Fa 47 1 8,L1 48 47,Ca 49 66 [.tmp 46,.tmp 48] (some (.tup [.agg [.int .i64,.int .i64],.one (.int .i64)])),Mv 44 49,Ex 50 44 0,Ex 51 44 1,⟨some 11,none,.op true (.new 2 [.int .i64 0,.int .i64 0])⟩,⟨none,none,.op false (.store 2 (.tmp 11) (.tmp 50))⟩,As 12 51])
 (.seq (.reg (some [6,11]) [Ld 52 11,⟨none,none,.op false (.store 2 (.tmp 6) (.tmp 52))⟩])
 .ret))
 .skip))
 (.seq (.reg (some [6]) [Ca 53 59 [.const (.int .i64 0)] (some (.val (.agg [.int .i64,.int .i64]))),⟨none,none,.op false (.store 2 (.tmp 6) (.tmp 53))⟩])
 .ret))))),
 [.agg 6 2 [.int .i64,.int .i64]],
 [],
 []⟩
theorem r40_ok : resFun (progU ()) hint live 40 Tryz.f40 = some r40:=by kernel_rfl
def r41 : RFun :=
⟨.seq (.reg (some [0]) [⟨some 1,none,.op true (.box 3 (.tmp 0))⟩,Ac 2 0])
 (.seq (.seq (.draw (some [1]) 31 [Dr (Fa 3 2 1) 0 [1,2,3,4,5,6,7,8,9,10,11,12,13,14,15,16,17,18,19,20,21,22,23,24,25,26,27,28,29,30],Db (L1 4 3) 1 3 [2,3,4,5,6,7,8,9,10,11,12,13,14,15,16,17,18,19,20,21,22,23,24,25,26,27,28,29,30],Dr (Bc 5 .lss 2 4 .i64 1) 2 [3,4,5,6,7,8,9,10,11,12,13,14,15,16,17,18,19,20,21,22,23,24,25,26,27,28,29,30],Dr (Mv 6 5) 3 [4,5,6,7,8,9,10,11,12,13,14,15,16,17,18,19,20,21,22,23,24,25,26,27,28,29,30],⟨⟨some 7,some (6,false),.op false (.fieldAddr 2 (.tmp 1))⟩,4,.none,[5,6,7,8,9,10,11,12,13,14,15,16,17,18,19,20,21,22,23,24,25,26,27,28,29,30],false,true⟩,⟨⟨some 8,some (6,false),.op false (.load1 (.int .i64) (.tmp 7))⟩,5,.blk (.tmp 7),[6,7,8,9,10,11,12,13,14,15,16,17,18,19,20,21,22,23,24,25,26,27,28,29,30],false,true⟩,⟨⟨some 9,some (6,false),.op false (.old (.binOp .gtr 2 (.tmp 8) (.const (.int .i64 1000000000)) 2))⟩,6,.none,[7,8,9,10,11,12,13,14,15,16,17,18,19,20,21,22,23,24,25,26,27,28,29,30],false,true⟩,Dr (Ol 10 (.pick (.tmp 6) (.const (.bool true)) (.tmp 9))) 7 [8,9,10,11,12,13,14,15,16,17,18,19,20,21,22,23,24,25,26,27,28,29,30],Dr (Mv 11 10) 8 [9,10,11,12,13,14,15,16,17,18,19,20,21,22,23,24,25,26,27,28,29,30],⟨⟨some 12,some (11,false),.op false (.fieldAddr 0 (.tmp 1))⟩,9,.none,[10,11,12,13,14,15,16,17,18,19,20,21,22,23,24,25,26,27,28,29,30],false,true⟩,⟨⟨some 13,some (11,false),.op false (.load1 (.int .i64) (.tmp 12))⟩,10,.blk (.tmp 12),[11,12,13,14,15,16,17,18,19,20,21,22,23,24,25,26,27,28,29,30],false,true⟩,⟨⟨some 14,some (11,false),.call (.func 67) [.tmp 13] (some (.val (.one .bool)))⟩,11,.all,[12,13,14,15,16,17,18,19,20,21,22,23,24,25,26,27,28,29,30],false,false⟩,⟨⟨some 15,some (11,false),.op false (.old (.unOp .not 4 (.tmp 14)))⟩,12,.none,[13,14,15,16,17,18,19,20,21,22,23,24,25,26,27,28,29,30],false,true⟩,Dr (Ol 16 (.pick (.tmp 11) (.const (.bool true)) (.tmp 15))) 13 [14,15,16,17,18,19,20,21,22,23,24,25,26,27,28,29,30],Dr (Mv 17 16) 14 [15,16,17,18,19,20,21,22,23,24,25,26,27,28,29,30],⟨⟨some 18,some (17,false),.op false (.fieldAddr 1 (.tmp 1))⟩,15,.none,[16,17,18,19,20,21,22,23,24,25,26,27,28,29,30],false,true⟩,⟨⟨some 19,some (17,false),.op false (.load1 (.int .i64) (.tmp 18))⟩,16,.blk (.tmp 18),[17,18,19,20,21,22,23,24,25,26,27,28,29,30],false,true⟩,⟨⟨some 20,some (17,false),.call (.func 67) [.tmp 19] (some (.val (.one .bool)))⟩,17,.all,[18,19,20,21,22,23,24,25,26,27,28,29,30],false,false⟩,⟨⟨some 21,some (17,false),.op false (.old (.unOp .not 4 (.tmp 20)))⟩,18,.none,[19,20,21,22,23,24,25,26,27,28,29,30],false,true⟩,Dr (Ol 22 (.pick (.tmp 17) (.const (.bool true)) (.tmp 21))) 19 [20,21,22,23,24,25,26,27,28,29,30],Dr (Mv 23 22) 20 [21,22,23,24,25,26,27,28,29,30],⟨⟨some 24,some (23,false),.op false (.fieldAddr 0 (.tmp 1))⟩,21,.none,[22,25,28,29,30],false,true⟩,⟨⟨some 25,some (23,false),.op false (.load1 (.int .i64) (.tmp 24))⟩,22,.blk (.tmp 24),[25,28,29,30],false,true⟩,⟨⟨some 26,some (23,false),.op false (.fieldAddr 1 (.tmp 1))⟩,23,.none,[24,25,28,29,30],false,true⟩,⟨⟨some 27,some (23,false),.op false (.load1 (.int .i64) (.tmp 26))⟩,24,.blk (.tmp 26),[25,28,29,30],false,true⟩,⟨⟨some 29,some (23,false),.op false (.fieldAddr 2 (.tmp 1))⟩,26,.none,[27,28,29,30],false,true⟩,⟨⟨some 30,some (23,false),.op false (.load1 (.int .i64) (.tmp 29))⟩,27,.blk (.tmp 29),[28,29,30],false,true⟩,⟨⟨some 28,some (23,false),.call (.func 68) [.tmp 25,.tmp 27] (some (.val (.one (.int .i64))))⟩,25,.all,[28,29,30],false,false⟩,⟨⟨some 31,some (23,false),.call (.func 68) [.tmp 28,.tmp 30] (some (.val (.one (.int .i64))))⟩,28,.all,[29,30],false,false⟩,⟨⟨some 32,some (23,false),.op false (.old (.binOp .neq 2 (.tmp 31) (.const (.int .i64 1)) 2))⟩,29,.none,[30],false,true⟩,Dr (Ol 33 (.pick (.tmp 23) (.const (.bool true)) (.tmp 32))) 30 []])
 (.cond (.tmp 33) (.seq (.reg (some []) [Ac 2 8])
 .ret)
 .skip))
 (.seq (.reg (some []) [Ac 2 0])
 .ret)),
 [.tmp 2],
 [],
 []⟩
theorem r41_ok : resFun (progU ()) hint live 41 Tryz.f41 = some r41:=by kernel_rfl
def r42 : RFun :=
⟨.seq (.reg (some [0]) [⟨some 1,none,.op true (.box 3 (.tmp 0))⟩,Ac 2 0])
 (.seq (.seq (.draw (some [1]) 39 [Dr (Fa 3 2 1) 0 [1,2,3,4,5,6,7,8,9,10,11,12,13,14,15,16,17,18,19,20,21,22,23,24,25,26,27,28,29,30,31,32,33,34,35,36,37,38],Db (L1 4 3) 1 3 [2,3,4,5,6,7,8,9,10,11,12,13,14,15,16,17,18,19,20,21,22,23,24,25,26,27,28,29,30,31,32,33,34,35,36,37,38],Dr (Bc 5 .lss 2 4 .i64 1) 2 [3,4,5,6,7,8,9,10,11,12,13,14,15,16,17,18,19,20,21,22,23,24,25,26,27,28,29,30,31,32,33,34,35,36,37,38],Dr (Mv 6 5) 3 [4,5,6,7,8,9,10,11,12,13,14,15,16,17,18,19,20,21,22,23,24,25,26,27,28,29,30,31,32,33,34,35,36,37,38],⟨⟨some 7,some (6,false),.op false (.fieldAddr 2 (.tmp 1))⟩,4,.none,[5,6,7,8,9,10,11,12,13,14,15,16,17,18,19,20,21,22,23,24,25,26,27,28,29,30,31,32,33,34,35,36,37,38],false,true⟩,⟨⟨some 8,some (6,false),.op false (.load1 (.int .i64) (.tmp 7))⟩,5,.blk (.tmp 7),[6,7,8,9,10,11,12,13,14,15,16,17,18,19,20,21,22,23,24,25,26,27,28,29,30,31,32,33,34,35,36,37,38],false,true⟩,⟨⟨some 9,some (6,false),.op false (.old (.binOp .gtr 2 (.tmp 8) (.const (.int .i64 1000000000)) 2))⟩,6,.none,[7,8,9,10,11,12,13,14,15,16,17,18,19,20,21,22,23,24,25,26,27,28,29,30,31,32,33,34,35,36,37,38],false,true⟩,Dr (Ol 10 (.pick (.tmp 6) (.const (.bool true)) (.tmp 9))) 7 [8,9,10,11,12,13,14,15,16,17,18,19,20,21,22,23,24,25,26,27,28,29,30,31,32,33,34,35,36,37,38],Dr (Mv 11 10) 8 [9,10,11,12,13,14,15,16,17,18,19,20,21,22,23,24,25,26,27,28,29,30,31,32,33,34,35,36,37,38],⟨⟨some 12,some (11,false),.op false (.fieldAddr 0 (.tmp 1))⟩,9,.none,[10,11,12,13,14,15,16,17,18,19,20,21,22,23,24,25,26,27,28,29,30,31,32,33,34,35,36,37,38],false,true⟩,⟨⟨some 13,some (11,false),.op false (.load1 (.int .i64) (.tmp 12))⟩,10,.blk (.tmp 12),[11,12,13,14,15,16,17,18,19,20,21,22,23,24,25,26,27,28,29,30,31,32,33,34,35,36,37,38],false,true⟩,⟨⟨some 14,some (11,false),.op false (.old (.binOp .lss 2 (.tmp 13) (.const (.int .i64 (-1000000000))) 2))⟩,11,.none,[12,13,14,15,16,17,18,19,20,21,22,23,24,25,26,27,28,29,30,31,32,33,34,35,36,37,38],false,true⟩,Dr (Ol 15 (.pick (.tmp 11) (.const (.bool true)) (.tmp 14))) 12 [13,14,15,16,17,18,19,20,21,22,23,24,25,26,27,28,29,30,31,32,33,34,35,36,37,38],Dr (Mv 16 15) 13 [14,15,16,17,18,19,20,21,22,23,24,25,26,27,28,29,30,31,32,33,34,35,36,37,38],⟨⟨some 17,some (16,false),.op false (.fieldAddr 0 (.tmp 1))⟩,14,.none,[15,16,17,18,19,20,21,22,23,24,25,26,27,28,29,30,31,32,33,34,35,36,37,38],false,true⟩,⟨⟨some 18,some (16,false),.op false (.load1 (.int .i64) (.tmp 17))⟩,15,.blk (.tmp 17),[16,17,18,19,20,21,22,23,24,25,26,27,28,29,30,31,32,33,34,35,36,37,38],false,true⟩,⟨⟨some 19,some (16,false),.op false (.old (.binOp .gtr 2 (.tmp 18) (.const (.int .i64 1000000000)) 2))⟩,16,.none,[17,18,19,20,21,22,23,24,25,26,27,28,29,30,31,32,33,34,35,36,37,38],false,true⟩,Dr (Ol 20 (.pick (.tmp 16) (.const (.bool true)) (.tmp 19))) 17 [18,19,20,21,22,23,24,25,26,27,28,29,30,31,32,33,34,35,36,37,38],Dr (Mv 21 20) 18 [19,20,21,22,23,24,25,26,27,28,29,30,31,32,33,34,35,36,37,38],⟨⟨some 22,some (21,false),.op false (.fieldAddr 1 (.tmp 1))⟩,19,.none,[20,21,22,23,24,25,26,27,28,29,30,31,32,33,34,35,36,37,38],false,true⟩,⟨⟨some 23,some (21,false),.op false (.load1 (.int .i64) (.tmp 22))⟩,20,.blk (.tmp 22),[21,22,23,24,25,26,27,28,29,30,31,32,33,34,35,36,37,38],false,true⟩,⟨⟨some 24,some (21,false),.op false (.old (.binOp .lss 2 (.tmp 23) (.const (.int .i64 (-1000000000))) 2))⟩,21,.none,[22,23,24,25,26,27,28,29,30,31,32,33,34,35,36,37,38],false,true⟩,Dr (Ol 25 (.pick (.tmp 21) (.const (.bool true)) (.tmp 24))) 22 [23,24,25,26,27,28,29,30,31,32,33,34,35,36,37,38],Dr (Mv 26 25) 23 [24,25,26,27,28,29,30,31,32,33,34,35,36,37,38],⟨⟨some 27,some (26,false),.op false (.fieldAddr 1 (.tmp 1))⟩,24,.none,[25,26,27,28,29,30,31,32,33,34,35,36,37,38],false,true⟩,⟨⟨some 28,some (26,false),.op false (.load1 (.int .i64) (.tmp 27))⟩,25,.blk (.tmp 27),[26,27,28,29,30,31,32,33,34,35,36,37,38],false,true⟩,⟨⟨some 29,some (26,false),.op false (.old (.binOp .gtr 2 (.tmp 28) (.const (.int .i64 1000000000)) 2))⟩,26,.none,[27,28,29,30,31,32,33,34,35,36,37,38],false,true⟩,Dr (Ol 30 (.pick (.tmp 26) (.const (.bool true)) (.tmp 29))) 27 [28,29,30,31,32,33,34,35,36,37,38],Dr (Mv 31 30) 28 [29,30,31,32,33,34,35,36,37,38],⟨⟨some 32,some (31,false),.op false (.fieldAddr 0 (.tmp 1))⟩,29,.none,[30,33,36,37,38],false,true⟩,⟨⟨some 33,some (31,false),.op false (.load1 (.int .i64) (.tmp 32))⟩,30,.blk (.tmp 32),[33,36,37,38],false,true⟩,⟨⟨some 34,some (31,false),.op false (.fieldAddr 1 (.tmp 1))⟩,31,.none,[32,33,36,37,38],false,true⟩,⟨⟨some 35,some (31,false),.op false (.load1 (.int .i64) (.tmp 34))⟩,32,.blk (.tmp 34),[33,36,37,38],false,true⟩,⟨⟨some 37,some (31,false),.op false (.fieldAddr 2 (.tmp 1))⟩,34,.none,[35,36,37,38],false,true⟩,⟨⟨some 38,some (31,false),.op false (.load1 (.int .i64) (.tmp 37))⟩,35,.blk (.tmp 37),[36,37,38],false,true⟩,⟨⟨some 36,some (31,false),.call (.func 69) [.tmp 33,.tmp 35] (some (.val (.one (.int .i64))))⟩,33,.all,[36,37,38],false,false⟩,⟨⟨some 39,some (31,false),.call (.func 69) [.tmp 36,.tmp 38] (some (.val (.one (.int .i64))))⟩,36,.all,[37,38],false,false⟩,⟨⟨some 40,some (31,false),.op false (.old (.binOp .neq 2 (.tmp 39) (.const (.int .i64 1)) 2))⟩,37,.none,[38],false,true⟩,Dr (Ol 41 (.pick (.tmp 31) (.const (.bool true)) (.tmp 40))) 38 []])
 (.cond (.tmp 41) (.seq (.reg (some []) [Ac 2 8])
 .ret)
 .skip))
 (.seq (.reg (some []) [Ac 2 0])
 .ret)),
 [.tmp 2],
 [],
 []⟩
theorem r42_ok : resFun (progU ()) hint live 42 Tryz.f42 = some r42:=by kernel_rfl
def r43 : RFun :=
⟨.seq (.reg (some [0,1]) [⟨some 2,none,.op true (.box 3 (.tmp 0))⟩,⟨some 3,none,.op true (.box 3 (.tmp 1))⟩,Ac 4 0])
 (.seq (.seq (.reg (some [2,3]) [Ro 5 (.load 3 [.int .i64,.int .i64,.int .i64] (.tmp 2)),Ca 6 42 [.tmp 5] (some (.val (.one (.int .i64)))),Bc 7 .neq 3 6 .i64 0,Mv 8 7,⟨some 9,some (8,false),.op false (.load 3 [.int .i64,.int .i64,.int .i64] (.tmp 3))⟩,⟨some 10,some (8,false),.call (.func 42) [.tmp 9] (some (.val (.one (.int .i64))))⟩,⟨some 11,some (8,false),.op false (.old (.binOp .neq 3 (.tmp 10) (.const (.int .i64 0)) 3))⟩,Ol 12 (.pick (.tmp 8) (.const (.bool true)) (.tmp 11))])
 (.cond (.tmp 12) (.seq (.reg (some []) [Ac 4 8])
 .ret)
 .skip))
 (.seq (.reg (some []) [Ac 4 0])
 .ret)),
 [.tmp 4],
 [],
 []⟩
theorem r43_ok : resFun (progU ()) hint live 43 Tryz.f43 = some r43:=by kernel_rfl
def r44 : RFun :=
⟨.seq (.reg (some [0,1,2]) [⟨some 6,none,.op true (.new 3 [.int .i64 0,.int .i64 0,.int .i64 0])⟩,Ac 7 0])
 (.seq (.seq (.reg (some [0,1,2,6]) [Mv 10 2,Bc 11 .eql 2 10 .i64 0])
 (.cond (.tmp 11) (.seq (.reg (some [6]) [Ro 12 (.build [.int .i64 0,.int .i64 0,.int .i64 0] []),⟨none,none,.op false (.store 3 (.tmp 6) (.tmp 12))⟩,Ac 7 18])
 .ret)
 .skip))
 (.seq (.reg (some [0,1,2,6]) [Mv 13 0,Mv 14 1,Ca 15 69 [.tmp 13,.tmp 14] (some (.val (.one (.int .i64)))),Mv 16 2,Ca 17 69 [.tmp 15,.tmp 16] (some (.val (.one (.int .i64)))),As 8 17])
 (.seq (.seq (.reg (some [0,1,2,6,8]) [Mv 18 2,Bc 19 .lss 2 18 .i64 0])
 (.cond (.tmp 19) (.reg (some [0,1,2,6,8]) [Mv 20 8,Ol 21 (.unOp .neg 2 (.tmp 20)),As 8 21])
 .skip))
 (.seq (.draw (some [0,1,2,6,8]) 12 [Dr (Mv 22 0) 0 [2,9,11],Dr (Mv 23 8) 1 [2,9,11],Dr (Bt 24 .quo 2 22 23) 2 [9,11],Dr (Mv 25 1) 3 [5,9,11],Dr (Mv 26 8) 4 [5,9,11],Dr (Bt 27 .quo 2 25 26) 5 [9,11],Dr (Mv 28 2) 6 [8,9,11],Dr (Mv 29 8) 7 [8,9,11],Dr (Bt 30 .quo 2 28 29) 8 [9,11],Dr (Ro 31 (.build [.int .i64 0,.int .i64 0,.int .i64 0] [(0,1,(.tmp 24)),(1,1,(.tmp 27)),(2,1,(.tmp 30))])) 9 [11],⟨⟨some 9,none,.op true (.new 3 [.int .i64 0,.int .i64 0,.int .i64 0])⟩,10,.new true,[11],false,true⟩,⟨⟨none,none,.op false (.store 3 (.tmp 9) (.tmp 31))⟩,11,.blk (.tmp 9),[],true,true⟩])
 (.seq (.seq (.reg (some [6,9]) [Ro 32 (.load 3 [.int .i64,.int .i64,.int .i64] (.tmp 9)),Ca 33 42 [.tmp 32] (some (.val (.one (.int .i64)))),Bc 34 .neq 3 33 .i64 0])
 (.cond (.tmp 34) (.seq (.reg (some [6]) [Ro 35 (.build [.int .i64 0,.int .i64 0,.int .i64 0] []),⟨none,none,.op false (.store 3 (.tmp 6) (.tmp 35))⟩,Ac 7 16])
 .ret)
 .skip))
 (.seq (.reg (some [6,9]) [Ro 36 (.load 3 [.int .i64,.int .i64,.int .i64] (.tmp 9)),⟨none,none,.op false (.store 3 (.tmp 6) (.tmp 36))⟩,Ac 7 0])
 .ret)))))),
 [.agg 6 3 [.int .i64,.int .i64,.int .i64],.tmp 7],
 [],
 []⟩
theorem r44_ok : resFun (progU ()) hint live 44 Tryz.f44 = some r44:=by kernel_rfl
end Go.Proofs.YtkbgkjlgnmlghaaGreat
