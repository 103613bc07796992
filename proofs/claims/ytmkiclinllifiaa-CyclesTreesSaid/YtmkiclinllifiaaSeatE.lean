import Derived.Test.YtmkiclinllifiaaSeat0
import Derived.Test.YtmkiclinllifiaaSymS
set_option linter.unusedSimpArgs false
set_option linter.unusedVariables false
namespace Go.Proofs.Ytmkiclinllifiaa
open Go.Sim
set_option maxRecDepth 100000
def r60 : RFun :=
⟨.seq (.reg (some [0,1]) [Ac 4 0])
 (.seq (.reg (some [0,1]) [Mv 5 0,Mv 6 0,Ol 7 (.unOp .neg 2 (.tmp 6)),⟨some 8,none,.op false (.old (.call ⟨.builtin .max,#[.tmp 5,.tmp 7],#[2,2]⟩))⟩,Mv 9 1,Mv 10 1,Ol 11 (.unOp .neg 2 (.tmp 10)),⟨some 12,none,.op false (.old (.call ⟨.builtin .max,#[.tmp 9,.tmp 11],#[2,2]⟩))⟩,As 0 8,As 1 12])
 (.seq (.block 0 (.loop 2 (some [0,1]) (some [0,1])))
 (.seq (.reg (some [0]) [Mv 19 0,As 4 19])
 .ret))),
 [.tmp 4],
 [(2,⟨some [0,1],some [0,1],.seq (.seq (.reg (some [0,1]) [Mv 13 1,Bc 14 .neq 2 13 .i64 0])
 (.cond (.tmp 14) .skip
 (.exit 0 (some [0]))))
 (.block 1 (.draw (some [0,1]) 6 [Dr (Mv 15 1) 0 [4,5],Dr (Mv 16 0) 1 [3,4,5],Dr (Mv 17 1) 2 [3,5],Dr (Bt 18 .rem 2 16 17) 3 [5],Dr (As 0 15) 4 [5],Dr (As 1 18) 5 []]))⟩)],
 []⟩
theorem r60_ok : resFun (progU ()) hint live 60 Try.f60 = some r60:=by kernel_rfl
def r61 : RFun :=
⟨.seq (.reg (some [0]) [Ol 2 (.assign (.const (.bool false)))])
 (.seq (.reg (some [0]) [Mv 3 0,Bc 4 .geq 3 3 .i64 0,Mv 5 4,⟨some 6,some (5,true),.op false (.old (.move (.tmp 0)))⟩,⟨some 7,some (5,true),.op false (.old (.binOp .lss 3 (.tmp 6) (.const (.int .i64 8)) 3))⟩,Ol 8 (.pick (.tmp 5) (.tmp 7) (.const (.bool false))),As 2 8])
 .ret),
 [.tmp 2],
 [],
 []⟩
theorem r61_ok : resFun (progU ()) hint live 61 Try.f61 = some r61:=by kernel_rfl
def r62 : RFun :=
⟨.seq (.reg (some [0]) [⟨some 1,none,.op true (.box 3 (.tmp 0))⟩,Ac 2 0])
 (.seq (.seq (.draw (some [1]) 31 [Dr (Fa 3 2 1) 0 [1,2,3,4,5,6,7,8,9,10,11,12,13,14,15,16,17,18,19,20,21,22,23,24,25,26,27,28,29,30],Db (L1 4 3) 1 3 [2,3,4,5,6,7,8,9,10,11,12,13,14,15,16,17,18,19,20,21,22,23,24,25,26,27,28,29,30],Dr (Bc 5 .lss 2 4 .i64 1) 2 [3,4,5,6,7,8,9,10,11,12,13,14,15,16,17,18,19,20,21,22,23,24,25,26,27,28,29,30],Dr (Mv 6 5) 3 [4,5,6,7,8,9,10,11,12,13,14,15,16,17,18,19,20,21,22,23,24,25,26,27,28,29,30],⟨⟨some 7,some (6,false),.op false (.fieldAddr 2 (.tmp 1))⟩,4,.none,[5,6,7,8,9,10,11,12,13,14,15,16,17,18,19,20,21,22,23,24,25,26,27,28,29,30],false,true⟩,⟨⟨some 8,some (6,false),.op false (.load1 (.int .i64) (.tmp 7))⟩,5,.blk (.tmp 7),[6,7,8,9,10,11,12,13,14,15,16,17,18,19,20,21,22,23,24,25,26,27,28,29,30],false,true⟩,⟨⟨some 9,some (6,false),.op false (.old (.binOp .gtr 2 (.tmp 8) (.const (.int .i64 1000000000)) 2))⟩,6,.none,[7,8,9,10,11,12,13,14,15,16,17,18,19,20,21,22,23,24,25,26,27,28,29,30],false,true⟩,Dr (Ol 10 (.pick (.tmp 6) (.const (.bool true)) (.tmp 9))) 7 [8,9,10,11,12,13,14,15,16,17,18,19,20,21,22,23,24,25,26,27,28,29,30],Dr (Mv 11 10) 8 [9,10,11,12,13,14,15,16,17,18,19,20,21,22,23,24,25,26,27,28,29,30],⟨⟨some 12,some (11,false),.op false (.fieldAddr 0 (.tmp 1))⟩,9,.none,[10,11,12,13,14,15,16,17,18,19,20,21,22,23,24,25,26,27,28,29,30],false,true⟩,⟨⟨some 13,some (11,false),.op false (.load1 (.int .i64) (.tmp 12))⟩,10,.blk (.tmp 12),[11,12,13,14,15,16,17,18,19,20,21,22,23,24,25,26,27,28,29,30],false,true⟩,⟨⟨some 14,some (11,false),.call (.func 76) [.tmp 13] (some (.val (.one .bool)))⟩,11,.all,[12,13,14,15,16,17,18,19,20,21,22,23,24,25,26,27,28,29,30],false,false⟩,⟨⟨some 15,some (11,false),.op false (.old (.unOp .not 4 (.tmp 14)))⟩,12,.none,[13,14,15,16,17,18,19,20,21,22,23,24,25,26,27,28,29,30],false,true⟩,Dr (Ol 16 (.pick (.tmp 11) (.const (.bool true)) (.tmp 15))) 13 [14,15,16,17,18,19,20,21,22,23,24,25,26,27,28,29,30],Dr (Mv 17 16) 14 [15,16,17,18,19,20,21,22,23,24,25,26,27,28,29,30],⟨⟨some 18,some (17,false),.op false (.fieldAddr 1 (.tmp 1))⟩,15,.none,[16,17,18,19,20,21,22,23,24,25,26,27,28,29,30],false,true⟩,⟨⟨some 19,some (17,false),.op false (.load1 (.int .i64) (.tmp 18))⟩,16,.blk (.tmp 18),[17,18,19,20,21,22,23,24,25,26,27,28,29,30],false,true⟩,⟨⟨some 20,some (17,false),.call (.func 76) [.tmp 19] (some (.val (.one .bool)))⟩,17,.all,[18,19,20,21,22,23,24,25,26,27,28,29,30],false,false⟩,⟨⟨some 21,some (17,false),.op false (.old (.unOp .not 4 (.tmp 20)))⟩,18,.none,[19,20,21,22,23,24,25,26,27,28,29,30],false,true⟩,Dr (Ol 22 (.pick (.tmp 17) (.const (.bool true)) (.tmp 21))) 19 [20,21,22,23,24,25,26,27,28,29,30],Dr (Mv 23 22) 20 [21,22,23,24,25,26,27,28,29,30],⟨⟨some 24,some (23,false),.op false (.fieldAddr 0 (.tmp 1))⟩,21,.none,[22,25,28,29,30],false,true⟩,⟨⟨some 25,some (23,false),.op false (.load1 (.int .i64) (.tmp 24))⟩,22,.blk (.tmp 24),[25,28,29,30],false,true⟩,⟨⟨some 26,some (23,false),.op false (.fieldAddr 1 (.tmp 1))⟩,23,.none,[24,25,28,29,30],false,true⟩,⟨⟨some 27,some (23,false),.op false (.load1 (.int .i64) (.tmp 26))⟩,24,.blk (.tmp 26),[25,28,29,30],false,true⟩,⟨⟨some 29,some (23,false),.op false (.fieldAddr 2 (.tmp 1))⟩,26,.none,[27,28,29,30],false,true⟩,⟨⟨some 30,some (23,false),.op false (.load1 (.int .i64) (.tmp 29))⟩,27,.blk (.tmp 29),[28,29,30],false,true⟩,⟨⟨some 28,some (23,false),.call (.func 70) [.tmp 25,.tmp 27] (some (.val (.one (.int .i64))))⟩,25,.all,[28,29,30],false,false⟩,⟨⟨some 31,some (23,false),.call (.func 70) [.tmp 28,.tmp 30] (some (.val (.one (.int .i64))))⟩,28,.all,[29,30],false,false⟩,⟨⟨some 32,some (23,false),.op false (.old (.binOp .neq 2 (.tmp 31) (.const (.int .i64 1)) 2))⟩,29,.none,[30],false,true⟩,Dr (Ol 33 (.pick (.tmp 23) (.const (.bool true)) (.tmp 32))) 30 []])
 (.cond (.tmp 33) (.seq (.reg (some []) [Ac 2 8])
 .ret)
 .skip))
 (.seq (.reg (some []) [Ac 2 0])
 .ret)),
 [.tmp 2],
 [],
 []⟩
theorem r62_ok : resFun (progU ()) hint live 62 Try.f62 = some r62:=by kernel_rfl
def r64 : RFun :=
⟨.seq (.reg (some [0,1]) [Ro 3 (.box 1 (.tmp 1)),Ro 4 (.new 2 [.int .i64 0,.int .i64 0]),Ro 5 (.new 1 [.bool false])])
 (.seq (.seq (.reg (some [0,3,4,5]) [Mv 7 0,Ca 8 65 [.tmp 7] (some (.val (.one .any)))])
 (.block 0 (.range 2)))
 (.seq (.reg (some [4,5]) [Ro 20 (.build [.int .i64 0,.int .i64 0] []),⟨none,none,.op false (.store 2 (.tmp 4) (.tmp 20))⟩,⟨none,none,.op false (.store 1 (.tmp 5) (.const (.bool false)))⟩])
 .ret)),
 [.agg 4 2 [.int .i64,.int .i64],.one 5 .bool],
 [],
 [(2,⟨.tmp 8,[9],.reg (some [3,4,5,9]) [Ro 6 (.new 2 [.int .i64 0,.int .i64 0]),⟨none,none,.op false (.store 2 (.tmp 6) (.tmp 9))⟩],.block 1 (.seq (.reg (some [3,4,5,6]) [Ro 10 (.load1 .any (.tmp 3)),Fa 11 0 6,L1 12 11,Ol 13 (.lookup 76 (.tmp 10) (.tmp 12) false),Ro 14 (.load1 .any (.tmp 3)),Fa 15 1 6,L1 16 15,Ol 17 (.lookup 76 (.tmp 14) (.tmp 16) false),Bt 18 .neq 4 13 17])
 (.cond (.tmp 18) (.seq (.reg (some [4,5,6]) [Ld 19 6,⟨none,none,.op false (.store 2 (.tmp 4) (.tmp 19))⟩,⟨none,none,.op false (.store 1 (.tmp 5) (.const (.bool true)))⟩])
 .ret)
 .skip))⟩)]⟩
theorem r64_ok : resFun (progU ()) hint live 64 Try.f64 = some r64:=by kernel_rfl
def r65 : RFun :=
⟨.seq (.reg (some [0]) [Ol 2 (.assign (.const .nilFunc))])
 (.seq (.reg (some [0]) [Ro 3 (.new 1 [.slice none 0 0])])
 (.seq (.seq (.reg (some [0,3]) [Mv 6 0,Ro 7 (.lenS (.tmp 6)),Ol 8 (.move (.const (.int .i64 0)))])
 (.block 0 (.loop 3 (some [3,6,7,8]) (some [3,6,7,8]))))
 (.seq (.reg (some [3]) [Ro 21 (.load1 .slice (.tmp 3)),Ca 22 77 [.tmp 21,.func 78] (some (.tup []))])
 (.seq (.reg (some [3]) [Ol 23 (.makeFunc (.func 81) #[] #[.tmp 3]),As 2 23])
 .ret)))),
 [.tmp 2],
 [(3,⟨some [3,6,7,8],some [3,6,7,8],.seq (.reg (some [3,6,7,8]) [Bt 9 .lss 3 8 7])
 (.seq (.cond (.tmp 9) .skip
 (.exit 0 (some [3])))
 (.seq (.block 1 (.seq (.reg (some [3,6,7,8]) [Ix 10 6 6 8,Ro 11 (.load 6 [.int .i64,.int .i64,.int .i64,.int .i64,.int .i64,.int .i64] (.tmp 10)),⟨some 5,none,.op true (.new 6 [.int .i64 0,.int .i64 0,.int .i64 0,.int .i64 0,.int .i64 0,.int .i64 0])⟩,⟨none,none,.op false (.store 6 (.tmp 5) (.tmp 11))⟩])
 (.reg (some [3,5,6,7,8]) [Ro 12 (.load1 .slice (.tmp 3)),Fa 13 0 5,L1 14 13,Fa 15 1 5,L1 16 15,Ro 17 (.build [.int .i64 0,.int .i64 0] [(0,1,(.tmp 14)),(1,1,(.tmp 16))]),Ro 18 (.buildSlice 2 1 [.int .i64 0,.int .i64 0] [(0,2,(.tmp 17))]),⟨some 19,none,.op false (.old (.call ⟨.builtin .append,#[.tmp 12,.tmp 18],#[23,23]⟩))⟩,⟨none,none,.op false (.store 1 (.tmp 3) (.tmp 19))⟩])))
 (.reg (some [3,6,7,8]) [Bc 20 .add 3 8 .i64 1,Mv 8 20])))⟩)],
 []⟩
theorem r65_ok : resFun (progU ()) hint live 65 Try.f65 = some r65:=by kernel_rfl
def r66 : RFun :=
⟨.seq (.reg (some [0,1]) [⟨some 2,none,.op true (.box 6 (.tmp 0))⟩,Ol 4 (.assign (.const (.bool false)))])
 (.seq (.reg (some [1,2]) [Fa 5 0 2,L1 6 5,Bc 7 .geq 3 6 .i64 0,Mv 8 7,⟨some 9,some (8,true),.op false (.fieldAddr 0 (.tmp 2))⟩,⟨some 10,some (8,true),.op false (.load1 (.int .i64) (.tmp 9))⟩,⟨some 11,some (8,true),.op false (.fieldAddr 1 (.tmp 2))⟩,⟨some 12,some (8,true),.op false (.load1 (.int .i64) (.tmp 11))⟩,⟨some 13,some (8,true),.op false (.old (.binOp .lss 3 (.tmp 10) (.tmp 12) 3))⟩,Ol 14 (.pick (.tmp 8) (.tmp 13) (.const (.bool false))),Mv 15 14,⟨some 16,some (15,true),.op false (.fieldAddr 1 (.tmp 2))⟩,⟨some 17,some (15,true),.op false (.load1 (.int .i64) (.tmp 16))⟩,⟨some 18,some (15,true),.op false (.old (.move (.tmp 1)))⟩,⟨some 19,some (15,true),.op false (.old (.binOp .lss 3 (.tmp 17) (.tmp 18) 3))⟩,Ol 20 (.pick (.tmp 15) (.tmp 19) (.const (.bool false))),Mv 21 20,⟨some 22,some (21,true),.op false (.fieldAddr 2 (.tmp 2))⟩,⟨some 23,some (21,true),.op false (.load 3 [.int .i64,.int .i64,.int .i64] (.tmp 22))⟩,⟨some 24,some (21,true),.call (.func 33) [.tmp 23] (some (.val (.one (.int .i64))))⟩,⟨some 25,some (21,true),.op false (.old (.binOp .eql 3 (.tmp 24) (.const (.int .i64 0)) 3))⟩,Ol 26 (.pick (.tmp 21) (.tmp 25) (.const (.bool false))),Mv 27 26,⟨some 28,some (27,true),.op false (.fieldAddr 5 (.tmp 2))⟩,⟨some 29,some (27,true),.op false (.load1 (.int .i64) (.tmp 28))⟩,⟨some 30,some (27,true),.op false (.old (.binOp .geq 3 (.tmp 29) (.const (.int .i64 0)) 3))⟩,Ol 31 (.pick (.tmp 27) (.tmp 30) (.const (.bool false))),As 4 31])
 .ret),
 [.tmp 4],
 [],
 []⟩
theorem r66_ok : resFun (progU ()) hint live 66 Try.f66 = some r66:=by kernel_rfl
def r70 : RFun :=
⟨.seq (.reg (some [0,1]) [Ac 4 0])
 (.seq (.block 0 (.loop 1 (some [0,1]) (some [0,1])))
 (.seq (.reg (some [0]) [Mv 11 0,Mv 12 0,Ol 13 (.unOp .neg 2 (.tmp 12)),⟨some 14,none,.op false (.old (.call ⟨.builtin .max,#[.tmp 11,.tmp 13],#[2,2]⟩))⟩,As 4 14])
 .ret)),
 [.tmp 4],
 [(1,⟨some [0,1],some [0,1],.seq (.seq (.reg (some [0,1]) [Mv 5 1,Bc 6 .neq 2 5 .i64 0])
 (.cond (.tmp 6) .skip
 (.exit 0 (some [0]))))
 (.block 1 (.draw (some [0,1]) 6 [Dr (Mv 7 1) 0 [4,5],Dr (Mv 8 0) 1 [3,4,5],Dr (Mv 9 1) 2 [3,5],Dr (Bt 10 .rem 2 8 9) 3 [5],Dr (As 0 7) 4 [5],Dr (As 1 10) 5 []]))⟩)],
 []⟩
theorem r70_ok : resFun (progU ()) hint live 70 Try.f70 = some r70:=by kernel_rfl
def r76 : RFun :=
⟨.seq (.reg (some [0]) [Ol 2 (.assign (.const (.bool false)))])
 (.seq (.reg (some [0]) [Mv 3 0,Ol 4 (.binOp .geq 2 (.tmp 3) (.const (.int .i64 (-1000000000))) 2),Mv 5 4,⟨some 6,some (5,true),.op false (.old (.move (.tmp 0)))⟩,⟨some 7,some (5,true),.op false (.old (.binOp .leq 2 (.tmp 6) (.const (.int .i64 1000000000)) 2))⟩,Ol 8 (.pick (.tmp 5) (.tmp 7) (.const (.bool false))),As 2 8])
 .ret),
 [.tmp 2],
 [],
 []⟩
theorem r76_ok : resFun (progU ()) hint live 76 Try.f76 = some r76:=by kernel_rfl
def r77 : RFun :=
⟨.seq (.reg (some [0,1]) [Mv 5 0,Ro 6 (.lenS (.tmp 5)),As 4 6])
 (.reg (some [0,1,4]) [Mv 7 0,Mv 8 4,Mv 9 4,Ro 10 (.convI .u64 (.tmp 9)),Ca 11 83 [.tmp 10] (some (.val (.one (.int .i64)))),Mv 12 1,Ca 13 82 [.tmp 7,.const (.int .i64 0),.tmp 8,.tmp 11,.tmp 12] (some (.tup []))]),
 [],
 [],
 []⟩
theorem r77_ok : resFun (progU ()) hint live 77 Try.f77 = some r77:=by kernel_rfl
def r78 : RFun :=
⟨.seq (.reg (some [0,1]) [⟨some 2,none,.op true (.box 2 (.tmp 0))⟩,⟨some 3,none,.op true (.box 2 (.tmp 1))⟩,Ac 4 0])
 (.seq (.draw (some [2,3]) 13 [Dr (Fa 5 0 2) 0 [1,4,9,10,11,12],Db (L1 6 5) 1 5 [4,9,10,11,12],Dr (Fa 7 0 3) 2 [3,4,9,10,11,12],Db (L1 8 7) 3 7 [4,9,10,11,12],Dr (Fa 10 1 2) 5 [6,9,10,11,12],Db (L1 11 10) 6 10 [9,10,11,12],Dr (Fa 12 1 3) 7 [8,9,10,11,12],Db (L1 13 12) 8 12 [9,10,11,12],⟨Ca 9 80 [.tmp 6,.tmp 8] (some (.val (.one (.int .i64)))),4,.all,[9,10,11,12],false,false⟩,⟨Ca 14 80 [.tmp 11,.tmp 13] (some (.val (.one (.int .i64)))),9,.all,[10,11,12],false,false⟩,⟨Ro 15 (.buildSlice 1 2 [.int .i64 0,.int .i64 0] [(0,1,(.tmp 9)),(1,1,(.tmp 14))]),10,.new false,[11,12],false,true⟩,⟨Ca 16 79 [.tmp 15] (some (.val (.one (.int .i64)))),11,.all,[12],false,false⟩,Dr (As 4 16) 12 []])
 .ret),
 [.tmp 4],
 [],
 []⟩
theorem r78_ok : resFun (progU ()) hint live 78 Try.f78 = some r78:=by kernel_rfl
def r79 : RFun :=
⟨.seq (.reg (some [0]) [Ac 2 0])
 (.seq (.reg (some [0]) [Ac 3 0])
 (.seq (.seq (.reg (some [0,3]) [Mv 6 0,Ro 7 (.lenS (.tmp 6)),Ol 8 (.move (.const (.int .i64 0)))])
 (.block 0 (.loop 3 none (some [3,6,7,8]))))
 (.seq (.reg (some [3]) [Mv 17 3,As 2 17])
 .ret))),
 [.tmp 2],
 [(3,⟨none,some [3,6,7,8],.seq (.reg (some [3,6,7,8]) [Bt 9 .lss 3 8 7])
 (.seq (.cond (.tmp 9) .skip
 (.exit 0 (some [3])))
 (.seq (.block 1 (.seq (.reg (some [3,6,7,8]) [Ix 10 1 6 8,L1 11 10,As 5 11])
 (.seq (.reg (some [3,5,6,7,8]) [Mv 12 5,Mv 13 3,Bt 14 .neq 3 12 13])
 (.cond (.tmp 14) (.seq (.reg (some [5]) [Mv 15 5,As 2 15])
 .ret)
 .skip))))
 (.reg (some [3,6,7,8]) [Bc 16 .add 3 8 .i64 1,Mv 8 16])))⟩)],
 []⟩
theorem r79_ok : resFun (progU ()) hint live 79 Try.f79 = some r79:=by kernel_rfl
def r80 : RFun :=
⟨.seq (.reg (some [0,1]) [Ac 4 0])
 (.seq (.reg (some [0,1]) [Mv 7 0,Ca 8 84 [.tmp 7] (some (.val (.one .bool))),As 5 8])
 (.seq (.reg (some [0,1,5]) [Mv 9 1,Ca 10 84 [.tmp 9] (some (.val (.one .bool))),As 6 10])
 (.seq (.seq (.reg (some [0,1,5,6]) [Mv 11 5])
 (.cond (.tmp 11) (.seq (.seq (.reg (some [6]) [Mv 12 6])
 (.cond (.tmp 12) (.seq (.reg (some []) [Ac 4 0])
 .ret)
 .skip))
 (.seq (.reg (some []) [Ol 4 (.assign (.const (.int .i64 (-1))))])
 .ret))
 .skip))
 (.seq (.seq (.reg (some [0,1,6]) [Mv 13 6])
 (.cond (.tmp 13) (.seq (.reg (some []) [Ac 4 1])
 .ret)
 .skip))
 (.seq (.seq (.reg (some [0,1]) [Mv 14 0,Mv 15 1,Bt 16 .lss 3 14 15])
 (.cond (.tmp 16) (.seq (.reg (some []) [Ol 4 (.assign (.const (.int .i64 (-1))))])
 .ret)
 .skip))
 (.seq (.seq (.reg (some [0,1]) [Mv 17 0,Mv 18 1,Bt 19 .gtr 3 17 18])
 (.cond (.tmp 19) (.seq (.reg (some []) [Ac 4 1])
 .ret)
 .skip))
 (.seq (.reg (some []) [Ac 4 0])
 .ret))))))),
 [.tmp 4],
 [],
 []⟩
theorem r80_ok : resFun (progU ()) hint live 80 Try.f80 = some r80:=by kernel_rfl
def r81 : RFun :=
⟨.seq (.reg (some [0,1]) [Ro 5 (.load1 .slice (.tmp 1)),Ro 6 (.lenS (.tmp 5)),Ol 7 (.move (.const (.int .i64 0)))])
 (.block 0 (.loop 1 (some [0,5,6,7]) (some [0,5,6,7]))),
 [],
 [(1,⟨some [0,5,6,7],some [0,5,6,7],.seq (.reg (some [0,5,6,7]) [Bt 8 .lss 3 7 6])
 (.seq (.cond (.tmp 8) .skip
 (.exit 0 (some [])))
 (.seq (.block 1 (.seq (.reg (some [0,5,6,7]) [Ix 9 2 5 7,Ld 10 9,⟨some 4,none,.op true (.new 2 [.int .i64 0,.int .i64 0])⟩,⟨none,none,.op false (.store 2 (.tmp 4) (.tmp 10))⟩])
 (.seq (.reg (some [0,4,5,6,7]) [Mv 11 0,Ld 12 4,⟨some 13,none,.call (.tmp 11) [.tmp 12] (some (.val (.one .bool)))⟩,Ol 14 (.unOp .not 4 (.tmp 13))])
 (.cond (.tmp 14) .ret
 .skip))))
 (.reg (some [0,5,6,7]) [Bc 15 .add 3 7 .i64 1,Mv 7 15])))⟩)],
 []⟩
theorem r81_ok : resFun (progU ()) hint live 81 Try.f81 = some r81:=by kernel_rfl
end Go.Proofs.Ytmkiclinllifiaa
