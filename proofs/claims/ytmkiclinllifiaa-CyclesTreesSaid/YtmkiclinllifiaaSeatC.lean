import Derived.Test.YtmkiclinllifiaaSeat0
import Derived.Test.YtmkiclinllifiaaSymS
set_option linter.unusedSimpArgs false
set_option linter.unusedVariables false
namespace Go.Proofs.Ytmkiclinllifiaa
open Go.Sim
set_option maxRecDepth 100000
def r20 : RFun :=
⟨.seq (.reg (some [0,1]) [Ol 4 (.assign (.const (.bool false)))])
 (.seq (.seq (.reg (some [0,1]) [Mv 6 0,Ro 7 (.lenS (.tmp 6)),Mv 8 1,Ro 9 (.lenS (.tmp 8)),Bt 10 .neq 3 7 9])
 (.cond (.tmp 10) (.seq (.reg (some []) [Ol 4 (.assign (.const (.bool false)))])
 .ret)
 .skip))
 (.seq (.seq (.reg (some [0,1]) [Ac 5 0])
 (.block 0 (.loop 4 (some [0,1,5]) (some [0,1,5]))))
 (.seq (.reg (some []) [Ol 4 (.assign (.const (.bool true)))])
 .ret))),
 [.tmp 4],
 [(4,⟨some [0,1,5],some [0,1,5],.seq (.seq (.reg (some [0,1,5]) [Mv 11 5,Mv 12 0,Ro 13 (.lenS (.tmp 12)),Bt 14 .lss 3 11 13])
 (.cond (.tmp 14) .skip
 (.exit 0 (some []))))
 (.seq (.block 1 (.seq (.draw (some [0,1,5]) 9 [Dr (Mv 17 0) 0 [2,3,8],Dr (Mv 18 5) 1 [2,3,8],Dr (Ix 19 1 17 18) 2 [3,8],Db (L1 20 19) 3 19 [8],Dr (Mv 21 1) 4 [6,7,8],Dr (Mv 22 5) 5 [6,7,8],Dr (Ix 23 1 21 22) 6 [7,8],Db (L1 24 23) 7 23 [8],Dr (Bt 25 .neq 3 20 24) 8 []])
 (.cond (.tmp 25) (.seq (.reg (some []) [Ol 4 (.assign (.const (.bool false)))])
 .ret)
 .skip)))
 (.reg (some [0,1,5]) [Mv 15 5,Bc 16 .add 3 15 .i64 1,As 5 16]))⟩)],
 []⟩
theorem r20_ok : resFun (progU ()) hint live 20 Try.f20 = some r20:=by kernel_rfl
def r22 : RFun :=
⟨.seq (.reg (some [0]) [Ac 2 0])
 (.seq (.seq (.reg (some [0]) [Mv 6 0,Ca 7 46 [.tmp 6,.const (.int .i64 8)] (some (.val (.one (.int .i64)))),As 3 7])
 (.seq (.reg (some [0,3]) [Mv 8 3,Bc 9 .neq 3 8 .i64 0])
 (.cond (.tmp 9) (.seq (.reg (some [3]) [Mv 10 3,As 2 10])
 .ret)
 .skip)))
 (.seq (.seq (.reg (some [0]) [Ac 4 0])
 (.block 0 (.loop 5 (some [0,4]) (some [0,4]))))
 (.seq (.reg (some []) [Ac 2 0])
 .ret))),
 [.tmp 2],
 [(5,⟨some [0,4],some [0,4],.seq (.seq (.reg (some [0,4]) [Mv 11 4,Mv 12 0,Ro 13 (.lenS (.tmp 12)),Bt 14 .lss 3 11 13])
 (.cond (.tmp 14) .skip
 (.exit 0 (some []))))
 (.seq (.block 1 (.seq (.reg (some [0,4]) [Ac 5 0])
 (.block 2 (.loop 8 (some [0,4,5]) (some [0,4,5])))))
 (.reg (some [0,4]) [Mv 15 4,Bc 16 .add 3 15 .i64 1,As 4 16]))⟩),(8,⟨some [0,4,5],some [0,4,5],.seq (.seq (.reg (some [0,4,5]) [Mv 17 5,Mv 18 4,Bt 19 .lss 3 17 18])
 (.cond (.tmp 19) .skip
 (.exit 2 (some [0,4]))))
 (.seq (.block 3 (.seq (.draw (some [0,4,5]) 24 [Dr (Mv 22 0) 0 [2,3,4,10,11,12,13,14,15,16,17,18,19,20,21,22,23],Dr (Mv 23 4) 1 [2,3,4,10,11,12,13,14,15,16,17,18,19,20,21,22,23],Dr (Ix 24 6 22 23) 2 [3,4,10,11,12,13,14,15,16,17,18,19,20,21,22,23],Dr (Fa 25 0 24) 3 [4,10,11,12,13,14,15,16,17,18,19,20,21,22,23],Db (L1 26 25) 4 25 [10,11,12,13,14,15,16,17,18,19,20,21,22,23],Dr (Mv 27 0) 5 [7,8,9,10,11,12,13,14,15,16,17,18,19,20,21,22,23],Dr (Mv 28 5) 6 [7,8,9,10,11,12,13,14,15,16,17,18,19,20,21,22,23],Dr (Ix 29 6 27 28) 7 [8,9,10,11,12,13,14,15,16,17,18,19,20,21,22,23],Dr (Fa 30 0 29) 8 [9,10,11,12,13,14,15,16,17,18,19,20,21,22,23],Db (L1 31 30) 9 30 [10,11,12,13,14,15,16,17,18,19,20,21,22,23],Dr (Bt 32 .eql 3 26 31) 10 [11,12,13,14,15,16,17,18,19,20,21,22,23],Dr (Mv 33 32) 11 [12,13,14,15,16,17,18,19,20,21,22,23],⟨⟨some 34,some (33,true),.op false (.old (.move (.tmp 0)))⟩,12,.none,[14,15,16,22,23],false,true⟩,⟨⟨some 35,some (33,true),.op false (.old (.move (.tmp 4)))⟩,13,.none,[14,15,16,22,23],false,true⟩,⟨⟨some 36,some (33,true),.op false (.ixS 6 (.tmp 34) (.tmp 35))⟩,14,.none,[15,16,22,23],false,true⟩,⟨⟨some 37,some (33,true),.op false (.fieldAddr 1 (.tmp 36))⟩,15,.none,[16,22,23],false,true⟩,⟨⟨some 38,some (33,true),.op false (.load1 (.int .i64) (.tmp 37))⟩,16,.blk (.tmp 37),[22,23],false,true⟩,⟨⟨some 39,some (33,true),.op false (.old (.move (.tmp 0)))⟩,17,.none,[19,20,21,22,23],false,true⟩,⟨⟨some 40,some (33,true),.op false (.old (.move (.tmp 5)))⟩,18,.none,[19,20,21,22,23],false,true⟩,⟨⟨some 41,some (33,true),.op false (.ixS 6 (.tmp 39) (.tmp 40))⟩,19,.none,[20,21,22,23],false,true⟩,⟨⟨some 42,some (33,true),.op false (.fieldAddr 1 (.tmp 41))⟩,20,.none,[21,22,23],false,true⟩,⟨⟨some 43,some (33,true),.op false (.load1 (.int .i64) (.tmp 42))⟩,21,.blk (.tmp 42),[22,23],false,true⟩,⟨⟨some 44,some (33,true),.op false (.old (.binOp .eql 3 (.tmp 38) (.tmp 43) 3))⟩,22,.none,[23],false,true⟩,Dr (Ol 45 (.pick (.tmp 33) (.tmp 44) (.const (.bool false)))) 23 []])
 (.cond (.tmp 45) (.seq (.reg (some []) [Ac 2 14])
 .ret)
 .skip)))
 (.reg (some [0,4,5]) [Mv 20 5,Bc 21 .add 3 20 .i64 1,As 5 21]))⟩)],
 []⟩
theorem r22_ok : resFun (progU ()) hint live 22 Try.f22 = some r22:=by kernel_rfl
def r24 : RFun :=
⟨.seq (.reg (some [0]) [Ol 2 (.assign (.const (.slice none 0 0)))])
 (.seq (.reg (some [0]) [Ol 3 (.assign (.const (.slice none 0 0)))])
 (.seq (.seq (.reg (some [0,3]) [Ac 4 0])
 (.block 0 (.loop 3 none (some [0,3,4]))))
 (.seq (.reg (some [3]) [Mv 45 3,As 2 45])
 .ret))),
 [.tmp 2],
 [(3,⟨none,some [0,3,4],.seq (.seq (.reg (some [0,3,4]) [Mv 7 4,Bc 8 .lss 3 7 .i64 8])
 (.cond (.tmp 8) .skip
 (.exit 0 (some [3]))))
 (.seq (.block 1 (.seq (.reg (some [0,3,4]) [Mv 11 4,Bc 12 .add 3 11 .i64 1,As 5 12])
 (.block 2 (.loop 6 none (some [0,3,4,5])))))
 (.reg (some [0,3,4]) [Mv 9 4,Bc 10 .add 3 9 .i64 1,As 4 10]))⟩),(6,⟨none,some [0,3,4,5],.seq (.seq (.reg (some [0,3,4,5]) [Mv 13 5,Bc 14 .lss 3 13 .i64 8])
 (.cond (.tmp 14) .skip
 (.exit 2 (some [0,3,4]))))
 (.seq (.block 3 (.seq (.reg (some [0,3,4,5]) [Ac 6 0])
 (.block 4 (.loop 9 none (some [0,3,4,5,6])))))
 (.reg (some [0,3,4,5]) [Mv 15 5,Bc 16 .add 3 15 .i64 1,As 5 16]))⟩),(9,⟨none,some [0,3,4,5,6],.seq (.seq (.reg (some [0,3,4,5,6]) [Mv 17 6,Mv 18 0,Ro 19 (.lenS (.tmp 18)),Bt 20 .lss 3 17 19])
 (.cond (.tmp 20) .skip
 (.exit 4 (some [0,3,4,5]))))
 (.seq (.block 5 (.seq (.reg (some [0,3,4,5,6]) [Mv 23 0,Mv 24 6,Ix 25 6 23 24,Fa 26 0 25,L1 27 26,Mv 28 4,Bt 29 .eql 3 27 28,Mv 30 29,⟨some 31,some (30,true),.op false (.old (.move (.tmp 0)))⟩,⟨some 32,some (30,true),.op false (.old (.move (.tmp 6)))⟩,⟨some 33,some (30,true),.op false (.ixS 6 (.tmp 31) (.tmp 32))⟩,⟨some 34,some (30,true),.op false (.fieldAddr 1 (.tmp 33))⟩,⟨some 35,some (30,true),.op false (.load1 (.int .i64) (.tmp 34))⟩,⟨some 36,some (30,true),.op false (.old (.move (.tmp 5)))⟩,⟨some 37,some (30,true),.op false (.old (.binOp .eql 3 (.tmp 35) (.tmp 36) 3))⟩,Ol 38 (.pick (.tmp 30) (.tmp 37) (.const (.bool false)))])
 (.cond (.tmp 38) (.reg (some [0,3,4,5,6]) [Mv 39 3,Mv 40 4,Mv 41 5,Ro 42 (.build [.int .i64 0,.int .i64 0] [(0,1,(.tmp 40)),(1,1,(.tmp 41))]),Ro 43 (.buildSlice 2 1 [.int .i64 0,.int .i64 0] [(0,2,(.tmp 42))]),⟨some 44,none,.op false (.old (.call ⟨.builtin .append,#[.tmp 39,.tmp 43],#[23,23]⟩))⟩,As 3 44])
 .skip)))
 (.reg (some [0,3,4,5,6]) [Mv 21 6,Bc 22 .add 3 21 .i64 1,As 6 22]))⟩)],
 []⟩
theorem r24_ok : resFun (progU ()) hint live 24 Try.f24 = some r24:=by kernel_rfl
def r27 : RFun :=
⟨.seq (.reg (some [0,1]) [Ol 4 (.assign (.const (.bool false)))])
 (.seq (.seq (.reg (some [0,1]) [Ac 5 0])
 (.block 0 (.loop 2 none (some [0,1,5]))))
 (.seq (.reg (some []) [Ol 4 (.assign (.const (.bool false)))])
 .ret)),
 [.tmp 4],
 [(2,⟨none,some [0,1,5],.seq (.seq (.reg (some [0,1,5]) [Mv 6 5,Mv 7 0,Ro 8 (.lenS (.tmp 7)),Bt 9 .lss 3 6 8])
 (.cond (.tmp 9) .skip
 (.exit 0 (some []))))
 (.seq (.block 1 (.seq (.reg (some [0,1,5]) [Mv 12 0,Mv 13 5,Ix 14 6 12 13,Fa 15 0 14,L1 16 15,Mv 17 1,Bt 18 .eql 3 16 17,Mv 19 18,⟨some 20,some (19,false),.op false (.old (.move (.tmp 0)))⟩,⟨some 21,some (19,false),.op false (.old (.move (.tmp 5)))⟩,⟨some 22,some (19,false),.op false (.ixS 6 (.tmp 20) (.tmp 21))⟩,⟨some 23,some (19,false),.op false (.fieldAddr 1 (.tmp 22))⟩,⟨some 24,some (19,false),.op false (.load1 (.int .i64) (.tmp 23))⟩,⟨some 25,some (19,false),.op false (.old (.move (.tmp 1)))⟩,⟨some 26,some (19,false),.op false (.old (.binOp .eql 3 (.tmp 24) (.tmp 25) 3))⟩,Ol 27 (.pick (.tmp 19) (.const (.bool true)) (.tmp 26))])
 (.cond (.tmp 27) (.seq (.reg (some []) [Ol 4 (.assign (.const (.bool true)))])
 .ret)
 .skip)))
 (.reg (some [0,1,5]) [Mv 10 5,Bc 11 .add 3 10 .i64 1,As 5 11]))⟩)],
 []⟩
theorem r27_ok : resFun (progU ()) hint live 27 Try.f27 = some r27:=by kernel_rfl
end Go.Proofs.Ytmkiclinllifiaa
