/-
  THE RESOLVED FORM OF EACH FUNCTION OF THIS SEAT. (Written by seat2.sh; the kernel looks whether it is right.)
-/
import Derived.Test.YtnokkniofajnhaaSeat0
namespace Go.Proofs.Ytnokkniofajnhaa
open Go.Sim
set_option maxRecDepth 100000
def r2 : RFun :=
⟨.reg (some []) [⟨some 0,none,.call (.func 1) [] (some (.tup []))⟩],
 [],
 [],
 []⟩
theorem r2_ok : resFun (progU ()) hint live 2 Try.f2 = some r2 := by kernel_rfl
def r9 : RFun :=
⟨.seq (.reg (some [0]) [⟨some 2,none,.op false (.old (.assign (.const (.bool false))))⟩])
 (.seq (.reg (some [0]) [⟨some 3,none,.op false (.old (.move (.tmp 0)))⟩,⟨some 4,none,.op false (.lenS (.tmp 3))⟩,⟨some 5,none,.op false (.old (.binOp .gtr 3 (.tmp 4) (.const (.int .i64 60)) 3))⟩,⟨some 2,none,.op false (.old (.assign (.tmp 5)))⟩])
 .ret),
 [.tmp 2],
 [],
 []⟩
theorem r9_ok : resFun (progU ()) hint live 9 Try.f9 = some r9 := by kernel_rfl
def r10 : RFun :=
⟨.seq (.reg (some [0,1]) [⟨some 3,none,.op true (.box 2 (.tmp 1))⟩,⟨some 4,none,.op true (.new 2 [.int .i64 0,.int .i64 0])⟩,⟨some 5,none,.op false (.old (.assign (.const (.int .i64 0))))⟩])
 (.seq (.seq (.reg (some [0,3,4]) [⟨some 7,none,.op false (.old (.move (.tmp 0)))⟩,⟨some 8,none,.call (.func 14) [.tmp 7] (some (.val (.one (.int .i64))))⟩,⟨some 6,none,.op false (.old (.assign (.tmp 8)))⟩])
 (.seq (.reg (some [0,3,4,6]) [⟨some 9,none,.op false (.old (.move (.tmp 6)))⟩,⟨some 10,none,.op false (.old (.binOp .neq 26 (.tmp 9) (.const (.int .i64 0)) 26))⟩])
 (.cond (.tmp 10) (.seq (.reg (some [4,6]) [⟨some 11,none,.op false (.build [.int .i64 0,.int .i64 0] [])⟩,⟨some 12,none,.op false (.old (.move (.tmp 6)))⟩,⟨none,none,.op false (.store 2 (.tmp 4) (.tmp 11))⟩,⟨some 5,none,.op false (.old (.assign (.tmp 12)))⟩])
 .ret)
 .skip)))
 (.seq (.seq (.reg (some [0,3,4]) [⟨some 13,none,.op false (.load 2 [.int .i64,.int .i64] (.tmp 3))⟩,⟨some 14,none,.call (.func 32) [.tmp 13] (some (.val (.one (.int .i64))))⟩,⟨some 15,none,.op false (.old (.binOp .neq 26 (.tmp 14) (.const (.int .i64 0)) 26))⟩])
 (.cond (.tmp 15) (.seq (.reg (some [4]) [⟨some 16,none,.op false (.build [.int .i64 0,.int .i64 0] [])⟩,⟨none,none,.op false (.store 2 (.tmp 4) (.tmp 16))⟩,⟨some 5,none,.op false (.old (.assign (.const (.int .i64 8))))⟩])
 .ret)
 .skip))
 (.seq (.seq (.reg (some [0,3,4]) [⟨some 17,none,.op false (.load 2 [.int .i64,.int .i64] (.tmp 3))⟩,⟨some 18,none,.call (.func 33) [.tmp 17,.const (.int .i64 10000)] (some (.val (.one .bool)))⟩,⟨some 19,none,.op false (.old (.unOp .not 4 (.tmp 18)))⟩])
 (.cond (.tmp 19) (.seq (.reg (some [4]) [⟨some 20,none,.op false (.build [.int .i64 0,.int .i64 0] [])⟩,⟨none,none,.op false (.store 2 (.tmp 4) (.tmp 20))⟩,⟨some 5,none,.op false (.old (.assign (.const (.int .i64 16))))⟩])
 .ret)
 .skip))
 (.seq (.seq (.draw (some [0,3,4]) 19 [⟨⟨some 21,none,.op false (.load 2 [.int .i64,.int .i64] (.tmp 3))⟩,0,.blk (.tmp 3),[5,6,7,8,9,10,11,12,13,14,15,16,17,18],false,true⟩,⟨⟨some 22,none,.op false (.old (.move (.tmp 0)))⟩,1,.none,[2,3,4,5,6,7,8,9,10,11,12,13,14,15,16,17,18],false,true⟩,⟨⟨some 23,none,.op false (.ixS 4 (.tmp 22) (.const (.int .i64 0)))⟩,2,.none,[3,4,5,6,7,8,9,10,11,12,13,14,15,16,17,18],false,true⟩,⟨⟨some 24,none,.op false (.fieldAddr 0 (.tmp 23))⟩,3,.none,[4,5,6,7,8,9,10,11,12,13,14,15,16,17,18],false,true⟩,⟨⟨some 25,none,.op false (.load 2 [.int .i64,.int .i64] (.tmp 24))⟩,4,.blk (.tmp 24),[5,6,7,8,9,10,11,12,13,14,15,16,17,18],false,true⟩,⟨⟨some 26,none,.call (.func 34) [.tmp 21,.tmp 25] (some (.val (.one (.int .i64))))⟩,5,.all,[6,7,8,9,10,11,12,13,14,15,16,17,18],false,false⟩,⟨⟨some 27,none,.op false (.old (.binOp .lss 3 (.tmp 26) (.const (.int .i64 0)) 3))⟩,6,.none,[7,8,9,10,11,12,13,14,15,16,17,18],false,true⟩,⟨⟨some 28,none,.op false (.old (.move (.tmp 27)))⟩,7,.none,[8,9,10,11,12,13,14,15,16,17,18],false,true⟩,⟨⟨some 29,some (28,false),.op false (.load 2 [.int .i64,.int .i64] (.tmp 3))⟩,8,.blk (.tmp 3),[16,17,18],false,true⟩,⟨⟨some 30,some (28,false),.op false (.old (.move (.tmp 0)))⟩,9,.none,[13,14,15,16,17,18],false,true⟩,⟨⟨some 31,some (28,false),.op false (.old (.move (.tmp 0)))⟩,10,.none,[11,12,13,14,15,16,17,18],false,true⟩,⟨⟨some 32,some (28,false),.op false (.lenS (.tmp 31))⟩,11,.none,[12,13,14,15,16,17,18],false,true⟩,⟨⟨some 33,some (28,false),.op false (.old (.binOp .sub 3 (.tmp 32) (.const (.int .i64 1)) 3))⟩,12,.none,[13,14,15,16,17,18],false,true⟩,⟨⟨some 34,some (28,false),.op false (.ixS 4 (.tmp 30) (.tmp 33))⟩,13,.none,[14,15,16,17,18],false,true⟩,⟨⟨some 35,some (28,false),.op false (.fieldAddr 0 (.tmp 34))⟩,14,.none,[15,16,17,18],false,true⟩,⟨⟨some 36,some (28,false),.op false (.load 2 [.int .i64,.int .i64] (.tmp 35))⟩,15,.blk (.tmp 35),[16,17,18],false,true⟩,⟨⟨some 37,some (28,false),.call (.func 34) [.tmp 29,.tmp 36] (some (.val (.one (.int .i64))))⟩,16,.all,[17,18],false,false⟩,⟨⟨some 38,some (28,false),.op false (.old (.binOp .gtr 3 (.tmp 37) (.const (.int .i64 0)) 3))⟩,17,.none,[18],false,true⟩,⟨⟨some 39,none,.op false (.old (.pick (.tmp 28) (.const (.bool true)) (.tmp 38)))⟩,18,.none,[],false,true⟩])
 (.cond (.tmp 39) (.seq (.reg (some [4]) [⟨some 40,none,.op false (.build [.int .i64 0,.int .i64 0] [])⟩,⟨none,none,.op false (.store 2 (.tmp 4) (.tmp 40))⟩,⟨some 5,none,.op false (.old (.assign (.const (.int .i64 6))))⟩])
 .ret)
 .skip))
 (.seq (.reg (some [0,3,4]) [⟨some 41,none,.op false (.old (.move (.tmp 0)))⟩,⟨some 42,none,.op false (.load 2 [.int .i64,.int .i64] (.tmp 3))⟩,⟨some 43,none,.call (.func 35) [.tmp 41,.tmp 42] (some (.tup [.agg [.int .i64,.int .i64],.one (.int .i64)]))⟩,⟨some 44,none,.op false (.old (.extract (.tmp 43) 0))⟩,⟨some 45,none,.op false (.old (.extract (.tmp 43) 1))⟩,⟨none,none,.op false (.store 2 (.tmp 4) (.tmp 44))⟩,⟨some 5,none,.op false (.old (.assign (.tmp 45)))⟩])
 .ret))))),
 [.agg 4 2 [.int .i64,.int .i64],.tmp 5],
 [],
 []⟩
theorem r10_ok : resFun (progU ()) hint live 10 Try.f10 = some r10 := by kernel_rfl
def r11 : RFun :=
⟨.seq (.reg (some [0,1]) [⟨some 3,none,.op true (.box 2 (.tmp 1))⟩,⟨some 4,none,.op true (.new 2 [.int .i64 0,.int .i64 0])⟩,⟨some 5,none,.op false (.old (.assign (.const (.int .i64 0))))⟩])
 (.seq (.seq (.reg (some [0,3,4]) [⟨some 6,none,.op false (.old (.move (.tmp 0)))⟩,⟨some 7,none,.call (.func 15) [.tmp 6] (some (.val (.one (.int .i64))))⟩,⟨some 8,none,.op false (.old (.binOp .neq 3 (.tmp 7) (.const (.int .i64 0)) 3))⟩])
 (.cond (.tmp 8) (.seq (.reg (some [0,4]) [⟨some 9,none,.op false (.build [.int .i64 0,.int .i64 0] [])⟩,⟨some 10,none,.op false (.old (.move (.tmp 0)))⟩,⟨some 11,none,.call (.func 15) [.tmp 10] (some (.val (.one (.int .i64))))⟩,⟨none,none,.op false (.store 2 (.tmp 4) (.tmp 9))⟩,⟨some 5,none,.op false (.old (.assign (.tmp 11)))⟩])
 .ret)
 .skip))
 (.seq (.seq (.reg (some [0,3,4]) [⟨some 12,none,.op false (.load 2 [.int .i64,.int .i64] (.tmp 3))⟩,⟨some 13,none,.call (.func 28) [.tmp 12] (some (.val (.one (.int .i64))))⟩,⟨some 14,none,.op false (.old (.binOp .neq 3 (.tmp 13) (.const (.int .i64 0)) 3))⟩])
 (.cond (.tmp 14) (.seq (.reg (some [4]) [⟨some 15,none,.op false (.build [.int .i64 0,.int .i64 0] [])⟩,⟨none,none,.op false (.store 2 (.tmp 4) (.tmp 15))⟩,⟨some 5,none,.op false (.old (.assign (.const (.int .i64 8))))⟩])
 .ret)
 .skip))
 (.seq (.seq (.reg (some [0,3,4]) [⟨some 16,none,.op false (.load 2 [.int .i64,.int .i64] (.tmp 3))⟩,⟨some 17,none,.call (.func 29) [.tmp 16,.const (.int .i64 10000)] (some (.val (.one .bool)))⟩,⟨some 18,none,.op false (.old (.unOp .not 4 (.tmp 17)))⟩])
 (.cond (.tmp 18) (.seq (.reg (some [4]) [⟨some 19,none,.op false (.build [.int .i64 0,.int .i64 0] [])⟩,⟨none,none,.op false (.store 2 (.tmp 4) (.tmp 19))⟩,⟨some 5,none,.op false (.old (.assign (.const (.int .i64 16))))⟩])
 .ret)
 .skip))
 (.seq (.seq (.draw (some [0,3,4]) 17 [⟨⟨some 20,none,.op false (.load 2 [.int .i64,.int .i64] (.tmp 3))⟩,0,.blk (.tmp 3),[5,6,7,8,9,10,11,12,13,14,15,16],false,true⟩,⟨⟨some 21,none,.op false (.old (.move (.tmp 0)))⟩,1,.none,[2,3,4,5,6,7,8,9,10,11,12,13,14,15,16],false,true⟩,⟨⟨some 22,none,.op false (.ixS 4 (.tmp 21) (.const (.int .i64 0)))⟩,2,.none,[3,4,5,6,7,8,9,10,11,12,13,14,15,16],false,true⟩,⟨⟨some 23,none,.op false (.fieldAddr 0 (.tmp 22))⟩,3,.none,[4,5,6,7,8,9,10,11,12,13,14,15,16],false,true⟩,⟨⟨some 24,none,.op false (.load 2 [.int .i64,.int .i64] (.tmp 23))⟩,4,.blk (.tmp 23),[5,6,7,8,9,10,11,12,13,14,15,16],false,true⟩,⟨⟨some 25,none,.call (.func 27) [.tmp 20,.tmp 24] (some (.val (.one .bool)))⟩,5,.all,[6,7,8,9,10,11,12,13,14,15,16],false,false⟩,⟨⟨some 26,none,.op false (.old (.move (.tmp 25)))⟩,6,.none,[7,8,9,10,11,12,13,14,15,16],false,true⟩,⟨⟨some 27,some (26,false),.op false (.old (.move (.tmp 0)))⟩,7,.none,[11,12,13,15,16],false,true⟩,⟨⟨some 28,some (26,false),.op false (.old (.move (.tmp 0)))⟩,8,.none,[9,10,11,12,13,15,16],false,true⟩,⟨⟨some 29,some (26,false),.op false (.lenS (.tmp 28))⟩,9,.none,[10,11,12,13,15,16],false,true⟩,⟨⟨some 30,some (26,false),.op false (.old (.binOp .sub 3 (.tmp 29) (.const (.int .i64 1)) 3))⟩,10,.none,[11,12,13,15,16],false,true⟩,⟨⟨some 31,some (26,false),.op false (.ixS 4 (.tmp 27) (.tmp 30))⟩,11,.none,[12,13,15,16],false,true⟩,⟨⟨some 32,some (26,false),.op false (.fieldAddr 0 (.tmp 31))⟩,12,.none,[13,15,16],false,true⟩,⟨⟨some 33,some (26,false),.op false (.load 2 [.int .i64,.int .i64] (.tmp 32))⟩,13,.blk (.tmp 32),[15,16],false,true⟩,⟨⟨some 34,some (26,false),.op false (.load 2 [.int .i64,.int .i64] (.tmp 3))⟩,14,.blk (.tmp 3),[15,16],false,true⟩,⟨⟨some 35,some (26,false),.call (.func 27) [.tmp 33,.tmp 34] (some (.val (.one .bool)))⟩,15,.all,[16],false,false⟩,⟨⟨some 36,none,.op false (.old (.pick (.tmp 26) (.const (.bool true)) (.tmp 35)))⟩,16,.none,[],false,true⟩])
 (.cond (.tmp 36) (.seq (.reg (some [4]) [⟨some 37,none,.op false (.build [.int .i64 0,.int .i64 0] [])⟩,⟨none,none,.op false (.store 2 (.tmp 4) (.tmp 37))⟩,⟨some 5,none,.op false (.old (.assign (.const (.int .i64 6))))⟩])
 .ret)
 .skip))
 (.seq (.reg (some [0,3,4]) [⟨some 38,none,.op false (.old (.move (.tmp 0)))⟩,⟨some 39,none,.op false (.load 2 [.int .i64,.int .i64] (.tmp 3))⟩,⟨some 40,none,.call (.func 36) [.tmp 38,.tmp 39] (some (.val (.agg [.int .i64,.int .i64])))⟩,⟨none,none,.op false (.store 2 (.tmp 4) (.tmp 40))⟩,⟨some 5,none,.op false (.old (.assign (.const (.int .i64 0))))⟩])
 .ret))))),
 [.agg 4 2 [.int .i64,.int .i64],.tmp 5],
 [],
 []⟩
theorem r11_ok : resFun (progU ()) hint live 11 Try.f11 = some r11 := by kernel_rfl
def r12 : RFun :=
⟨.seq (.reg (some [0]) [⟨some 2,none,.op false (.old (.assign (.const (.slice none 0 0))))⟩,⟨some 3,none,.op false (.old (.assign (.const (.int .i64 0))))⟩])
 (.seq (.seq (.reg (some [0]) [⟨some 5,none,.op false (.old (.move (.tmp 0)))⟩,⟨some 6,none,.call (.func 14) [.tmp 5] (some (.val (.one (.int .i64))))⟩,⟨some 4,none,.op false (.old (.assign (.tmp 6)))⟩])
 (.seq (.reg (some [0,4]) [⟨some 7,none,.op false (.old (.move (.tmp 4)))⟩,⟨some 8,none,.op false (.old (.binOp .neq 26 (.tmp 7) (.const (.int .i64 0)) 26))⟩])
 (.cond (.tmp 8) (.seq (.reg (some [4]) [⟨some 9,none,.op false (.old (.move (.tmp 4)))⟩,⟨some 2,none,.op false (.old (.assign (.const (.slice none 0 0))))⟩,⟨some 3,none,.op false (.old (.assign (.tmp 9)))⟩])
 .ret)
 .skip)))
 (.seq (.reg (some [0]) [⟨some 10,none,.op false (.old (.move (.tmp 0)))⟩,⟨some 11,none,.call (.func 37) [.tmp 10] (some (.val (.one .slice)))⟩,⟨some 2,none,.op false (.old (.assign (.tmp 11)))⟩,⟨some 3,none,.op false (.old (.assign (.const (.int .i64 0))))⟩])
 .ret)),
 [.tmp 2,.tmp 3],
 [],
 []⟩
theorem r12_ok : resFun (progU ()) hint live 12 Try.f12 = some r12 := by kernel_rfl
def r13 : RFun :=
⟨.seq (.reg (some [0]) [⟨some 2,none,.op false (.old (.assign (.const (.slice none 0 0))))⟩,⟨some 3,none,.op false (.old (.assign (.const (.int .i64 0))))⟩])
 (.seq (.seq (.reg (some [0]) [⟨some 4,none,.op false (.old (.move (.tmp 0)))⟩,⟨some 5,none,.call (.func 15) [.tmp 4] (some (.val (.one (.int .i64))))⟩,⟨some 6,none,.op false (.old (.binOp .neq 3 (.tmp 5) (.const (.int .i64 0)) 3))⟩])
 (.cond (.tmp 6) (.seq (.reg (some [0]) [⟨some 7,none,.op false (.old (.move (.tmp 0)))⟩,⟨some 8,none,.call (.func 15) [.tmp 7] (some (.val (.one (.int .i64))))⟩,⟨some 2,none,.op false (.old (.assign (.const (.slice none 0 0))))⟩,⟨some 3,none,.op false (.old (.assign (.tmp 8)))⟩])
 .ret)
 .skip))
 (.seq (.reg (some [0]) [⟨some 9,none,.op false (.old (.move (.tmp 0)))⟩,⟨some 10,none,.call (.func 38) [.tmp 9] (some (.val (.one .slice)))⟩,⟨some 2,none,.op false (.old (.assign (.tmp 10)))⟩,⟨some 3,none,.op false (.old (.assign (.const (.int .i64 0))))⟩])
 .ret)),
 [.tmp 2,.tmp 3],
 [],
 []⟩
theorem r13_ok : resFun (progU ()) hint live 13 Try.f13 = some r13 := by kernel_rfl
def r14 : RFun :=
⟨.seq (.reg (some [0]) [⟨some 2,none,.op false (.old (.assign (.const (.int .i64 0))))⟩])
 (.seq (.seq (.reg (some [0]) [⟨some 5,none,.op false (.old (.move (.tmp 0)))⟩,⟨some 6,none,.op false (.lenS (.tmp 5))⟩,⟨some 7,none,.op false (.old (.binOp .gtr 3 (.tmp 6) (.const (.int .i64 40)) 3))⟩])
 (.cond (.tmp 7) (.seq (.reg (some []) [⟨some 2,none,.op false (.old (.assign (.const (.int .i64 4))))⟩])
 .ret)
 .skip))
 (.seq (.seq (.reg (some [0]) [⟨some 8,none,.op false (.old (.move (.tmp 0)))⟩,⟨some 9,none,.op false (.lenS (.tmp 8))⟩,⟨some 10,none,.op false (.old (.binOp .lss 3 (.tmp 9) (.const (.int .i64 2)) 3))⟩])
 (.cond (.tmp 10) (.seq (.reg (some []) [⟨some 2,none,.op false (.old (.assign (.const (.int .i64 8))))⟩])
 .ret)
 .skip))
 (.seq (.seq (.reg (some [0]) [⟨some 11,none,.op false (.old (.move (.tmp 0)))⟩,⟨some 12,none,.op false (.lenS (.tmp 11))⟩,⟨some 13,none,.op false (.old (.move (.const (.int .i64 0))))⟩])
 (.block 0 (.loop 6 (some [0,11,12,13]) (some [0,11,12,13]))))
 (.seq (.reg (some []) [⟨some 2,none,.op false (.old (.assign (.const (.int .i64 0))))⟩])
 .ret)))),
 [.tmp 2],
 [(6,⟨some [0,11,12,13],some [0,11,12,13],.seq (.reg (some [0,11,12,13]) [⟨some 14,none,.op false (.old (.binOp .lss 3 (.tmp 13) (.tmp 12) 3))⟩])
 (.seq (.cond (.tmp 14) .skip
 (.exit 0 (some [])))
 (.seq (.block 1 (.seq (.reg (some [0,11,12,13]) [⟨some 15,none,.op false (.old (.move (.tmp 13)))⟩,⟨some 16,none,.op false (.ixS 4 (.tmp 11) (.tmp 13))⟩,⟨some 17,none,.op false (.load 4 [.int .i64,.int .i64,.int .i64,.int .i64] (.tmp 16))⟩,⟨some 4,none,.op true (.new 4 [.int .i64 0,.int .i64 0,.int .i64 0,.int .i64 0])⟩,⟨some 3,none,.op false (.old (.assign (.tmp 15)))⟩,⟨none,none,.op false (.store 4 (.tmp 4) (.tmp 17))⟩])
 (.seq (.seq (.reg (some [0,3,4,11,12,13]) [⟨some 18,none,.op false (.fieldAddr 0 (.tmp 4))⟩,⟨some 19,none,.op false (.load 2 [.int .i64,.int .i64] (.tmp 18))⟩,⟨some 20,none,.call (.func 33) [.tmp 19,.const (.int .i64 100)] (some (.val (.one .bool)))⟩,⟨some 21,none,.op false (.old (.unOp .not 4 (.tmp 20)))⟩,⟨some 22,none,.op false (.old (.move (.tmp 21)))⟩,⟨some 23,some (22,false),.op false (.fieldAddr 2 (.tmp 4))⟩,⟨some 24,some (22,false),.op false (.load 2 [.int .i64,.int .i64] (.tmp 23))⟩,⟨some 25,some (22,false),.call (.func 33) [.tmp 24,.const (.int .i64 100)] (some (.val (.one .bool)))⟩,⟨some 26,some (22,false),.op false (.old (.unOp .not 4 (.tmp 25)))⟩,⟨some 27,none,.op false (.old (.pick (.tmp 22) (.const (.bool true)) (.tmp 26)))⟩])
 (.cond (.tmp 27) (.seq (.reg (some []) [⟨some 2,none,.op false (.old (.assign (.const (.int .i64 8))))⟩])
 .ret)
 .skip))
 (.seq (.draw (some [0,3,4,11,12,13]) 26 [⟨⟨some 28,none,.op false (.old (.move (.tmp 3)))⟩,0,.none,[1,2,3,4,5,6,7,8,9,10,11,12,13,14,15,16,17,18,19,20,21,22,23,24,25],false,true⟩,⟨⟨some 29,none,.op false (.old (.binOp .gtr 3 (.tmp 28) (.const (.int .i64 0)) 3))⟩,1,.none,[2,3,4,5,6,7,8,9,10,11,12,13,14,15,16,17,18,19,20,21,22,23,24,25],false,true⟩,⟨⟨some 30,none,.op false (.old (.move (.tmp 29)))⟩,2,.none,[3,4,5,6,7,8,9,10,11,12,13,14,15,16,17,18,19,20,21,22,23,24,25],false,true⟩,⟨⟨some 31,some (30,true),.op false (.old (.move (.tmp 0)))⟩,3,.none,[6,7,8,11,12,13,14,15,16,17,18,19,20,21,22,23,24,25],false,true⟩,⟨⟨some 32,some (30,true),.op false (.old (.move (.tmp 3)))⟩,4,.none,[5,6,7,8,11,12,13,14,15,16,17,18,19,20,21,22,23,24,25],false,true⟩,⟨⟨some 33,some (30,true),.op false (.old (.binOp .sub 3 (.tmp 32) (.const (.int .i64 1)) 3))⟩,5,.none,[6,7,8,11,12,13,14,15,16,17,18,19,20,21,22,23,24,25],false,true⟩,⟨⟨some 34,some (30,true),.op false (.ixS 4 (.tmp 31) (.tmp 33))⟩,6,.none,[7,8,11,12,13,14,15,16,17,18,19,20,21,22,23,24,25],false,true⟩,⟨⟨some 35,some (30,true),.op false (.fieldAddr 0 (.tmp 34))⟩,7,.none,[8,11,12,13,14,15,16,17,18,19,20,21,22,23,24,25],false,true⟩,⟨⟨some 36,some (30,true),.op false (.load 2 [.int .i64,.int .i64] (.tmp 35))⟩,8,.blk (.tmp 35),[11,12,13,14,15,16,17,18,19,20,21,22,23,24,25],false,true⟩,⟨⟨some 37,some (30,true),.op false (.fieldAddr 0 (.tmp 4))⟩,9,.none,[10,11,12,13,14,15,16,17,18,19,20,21,22,23,24,25],false,true⟩,⟨⟨some 38,some (30,true),.op false (.load 2 [.int .i64,.int .i64] (.tmp 37))⟩,10,.blk (.tmp 37),[11,12,13,14,15,16,17,18,19,20,21,22,23,24,25],false,true⟩,⟨⟨some 39,some (30,true),.call (.func 34) [.tmp 36,.tmp 38] (some (.val (.one (.int .i64))))⟩,11,.all,[12,13,14,15,16,17,18,19,20,21,22,23,24,25],false,false⟩,⟨⟨some 40,some (30,true),.op false (.old (.binOp .geq 3 (.tmp 39) (.const (.int .i64 0)) 3))⟩,12,.none,[13,14,15,16,17,18,19,20,21,22,23,24,25],false,true⟩,⟨⟨some 41,some (30,true),.op false (.old (.move (.tmp 40)))⟩,13,.none,[14,15,16,17,18,19,20,21,22,23,24,25],false,true⟩,⟨⟨some 42,some (41,false),.op false (.old (.move (.tmp 0)))⟩,14,.none,[17,18,19,22,23,24,25],false,true⟩,⟨⟨some 43,some (41,false),.op false (.old (.move (.tmp 3)))⟩,15,.none,[16,17,18,19,22,23,24,25],false,true⟩,⟨⟨some 44,some (41,false),.op false (.old (.binOp .sub 3 (.tmp 43) (.const (.int .i64 1)) 3))⟩,16,.none,[17,18,19,22,23,24,25],false,true⟩,⟨⟨some 45,some (41,false),.op false (.ixS 4 (.tmp 42) (.tmp 44))⟩,17,.none,[18,19,22,23,24,25],false,true⟩,⟨⟨some 46,some (41,false),.op false (.fieldAddr 2 (.tmp 45))⟩,18,.none,[19,22,23,24,25],false,true⟩,⟨⟨some 47,some (41,false),.op false (.load 2 [.int .i64,.int .i64] (.tmp 46))⟩,19,.blk (.tmp 46),[22,23,24,25],false,true⟩,⟨⟨some 48,some (41,false),.op false (.fieldAddr 2 (.tmp 4))⟩,20,.none,[21,22,23,24,25],false,true⟩,⟨⟨some 49,some (41,false),.op false (.load 2 [.int .i64,.int .i64] (.tmp 48))⟩,21,.blk (.tmp 48),[22,23,24,25],false,true⟩,⟨⟨some 50,some (41,false),.call (.func 34) [.tmp 47,.tmp 49] (some (.val (.one (.int .i64))))⟩,22,.all,[23,24,25],false,false⟩,⟨⟨some 51,some (41,false),.op false (.old (.binOp .geq 3 (.tmp 50) (.const (.int .i64 0)) 3))⟩,23,.none,[24,25],false,true⟩,⟨⟨some 52,some (30,true),.op false (.old (.pick (.tmp 41) (.const (.bool true)) (.tmp 51)))⟩,24,.none,[25],false,true⟩,⟨⟨some 53,none,.op false (.old (.pick (.tmp 30) (.tmp 52) (.const (.bool false))))⟩,25,.none,[],false,true⟩])
 (.cond (.tmp 53) (.seq (.reg (some []) [⟨some 2,none,.op false (.old (.assign (.const (.int .i64 8))))⟩])
 .ret)
 .skip)))))
 (.reg (some [0,11,12,13]) [⟨some 54,none,.op false (.old (.binOp .add 3 (.tmp 13) (.const (.int .i64 1)) 3))⟩,⟨some 13,none,.op false (.old (.move (.tmp 54)))⟩])))⟩)],
 []⟩
theorem r14_ok : resFun (progU ()) hint live 14 Try.f14 = some r14 := by kernel_rfl
def r15 : RFun :=
⟨.seq (.reg (some [0]) [⟨some 2,none,.op false (.old (.assign (.const (.int .i64 0))))⟩])
 (.seq (.seq (.reg (some [0]) [⟨some 5,none,.op false (.old (.move (.tmp 0)))⟩,⟨some 6,none,.op false (.lenS (.tmp 5))⟩,⟨some 7,none,.op false (.old (.binOp .gtr 3 (.tmp 6) (.const (.int .i64 40)) 3))⟩])
 (.cond (.tmp 7) (.seq (.reg (some []) [⟨some 2,none,.op false (.old (.assign (.const (.int .i64 4))))⟩])
 .ret)
 .skip))
 (.seq (.seq (.reg (some [0]) [⟨some 3,none,.op false (.old (.assign (.const (.int .i64 0))))⟩])
 (.block 0 (.loop 4 none (some [0,3]))))
 (.seq (.seq (.reg (some [0]) [⟨some 4,none,.op false (.old (.assign (.const (.int .i64 1))))⟩])
 (.block 2 (.loop 9 (some [0,4]) (some [0,4]))))
 (.seq (.seq (.reg (some [0]) [⟨some 64,none,.op false (.old (.move (.tmp 0)))⟩,⟨some 65,none,.op false (.lenS (.tmp 64))⟩,⟨some 66,none,.op false (.old (.binOp .lss 3 (.tmp 65) (.const (.int .i64 2)) 3))⟩])
 (.cond (.tmp 66) (.seq (.reg (some []) [⟨some 2,none,.op false (.old (.assign (.const (.int .i64 8))))⟩])
 .ret)
 .skip))
 (.seq (.reg (some []) [⟨some 2,none,.op false (.old (.assign (.const (.int .i64 0))))⟩])
 .ret))))),
 [.tmp 2],
 [(4,⟨none,some [0,3],.seq (.seq (.reg (some [0,3]) [⟨some 8,none,.op false (.old (.move (.tmp 3)))⟩,⟨some 9,none,.op false (.old (.move (.tmp 0)))⟩,⟨some 10,none,.op false (.lenS (.tmp 9))⟩,⟨some 11,none,.op false (.old (.binOp .lss 3 (.tmp 8) (.tmp 10) 3))⟩])
 (.cond (.tmp 11) .skip
 (.exit 0 (some [0]))))
 (.seq (.block 1 (.seq (.reg (some [0,3]) [⟨some 14,none,.op false (.old (.move (.tmp 0)))⟩,⟨some 15,none,.op false (.old (.move (.tmp 3)))⟩,⟨some 16,none,.op false (.ixS 4 (.tmp 14) (.tmp 15))⟩,⟨some 17,none,.op false (.fieldAddr 0 (.tmp 16))⟩,⟨some 18,none,.op false (.load 2 [.int .i64,.int .i64] (.tmp 17))⟩,⟨some 19,none,.call (.func 29) [.tmp 18,.const (.int .i64 100)] (some (.val (.one .bool)))⟩,⟨some 20,none,.op false (.old (.unOp .not 4 (.tmp 19)))⟩,⟨some 21,none,.op false (.old (.move (.tmp 20)))⟩,⟨some 22,some (21,false),.op false (.old (.move (.tmp 0)))⟩,⟨some 23,some (21,false),.op false (.old (.move (.tmp 3)))⟩,⟨some 24,some (21,false),.op false (.ixS 4 (.tmp 22) (.tmp 23))⟩,⟨some 25,some (21,false),.op false (.fieldAddr 2 (.tmp 24))⟩,⟨some 26,some (21,false),.op false (.load 2 [.int .i64,.int .i64] (.tmp 25))⟩,⟨some 27,some (21,false),.call (.func 29) [.tmp 26,.const (.int .i64 100)] (some (.val (.one .bool)))⟩,⟨some 28,some (21,false),.op false (.old (.unOp .not 4 (.tmp 27)))⟩,⟨some 29,none,.op false (.old (.pick (.tmp 21) (.const (.bool true)) (.tmp 28)))⟩])
 (.cond (.tmp 29) (.seq (.reg (some []) [⟨some 2,none,.op false (.old (.assign (.const (.int .i64 8))))⟩])
 .ret)
 .skip)))
 (.reg (some [0,3]) [⟨some 12,none,.op false (.old (.move (.tmp 3)))⟩,⟨some 13,none,.op false (.old (.binOp .add 3 (.tmp 12) (.const (.int .i64 1)) 3))⟩,⟨some 3,none,.op false (.old (.assign (.tmp 13)))⟩]))⟩),(9,⟨some [0,4],some [0,4],.seq (.seq (.reg (some [0,4]) [⟨some 30,none,.op false (.old (.move (.tmp 4)))⟩,⟨some 31,none,.op false (.old (.move (.tmp 0)))⟩,⟨some 32,none,.op false (.lenS (.tmp 31))⟩,⟨some 33,none,.op false (.old (.binOp .lss 3 (.tmp 30) (.tmp 32) 3))⟩])
 (.cond (.tmp 33) .skip
 (.exit 2 (some [0]))))
 (.seq (.block 3 (.seq (.draw (some [0,4]) 28 [⟨⟨some 36,none,.op false (.old (.move (.tmp 0)))⟩,0,.none,[3,4,5,11,12,13,14,15,16,17,18,19,20,21,22,23,24,25,26,27],false,true⟩,⟨⟨some 37,none,.op false (.old (.move (.tmp 4)))⟩,1,.none,[2,3,4,5,11,12,13,14,15,16,17,18,19,20,21,22,23,24,25,26,27],false,true⟩,⟨⟨some 38,none,.op false (.old (.binOp .sub 3 (.tmp 37) (.const (.int .i64 1)) 3))⟩,2,.none,[3,4,5,11,12,13,14,15,16,17,18,19,20,21,22,23,24,25,26,27],false,true⟩,⟨⟨some 39,none,.op false (.ixS 4 (.tmp 36) (.tmp 38))⟩,3,.none,[4,5,11,12,13,14,15,16,17,18,19,20,21,22,23,24,25,26,27],false,true⟩,⟨⟨some 40,none,.op false (.fieldAddr 0 (.tmp 39))⟩,4,.none,[5,11,12,13,14,15,16,17,18,19,20,21,22,23,24,25,26,27],false,true⟩,⟨⟨some 41,none,.op false (.load 2 [.int .i64,.int .i64] (.tmp 40))⟩,5,.blk (.tmp 40),[11,12,13,14,15,16,17,18,19,20,21,22,23,24,25,26,27],false,true⟩,⟨⟨some 42,none,.op false (.old (.move (.tmp 0)))⟩,6,.none,[8,9,10,11,12,13,14,15,16,17,18,19,20,21,22,23,24,25,26,27],false,true⟩,⟨⟨some 43,none,.op false (.old (.move (.tmp 4)))⟩,7,.none,[8,9,10,11,12,13,14,15,16,17,18,19,20,21,22,23,24,25,26,27],false,true⟩,⟨⟨some 44,none,.op false (.ixS 4 (.tmp 42) (.tmp 43))⟩,8,.none,[9,10,11,12,13,14,15,16,17,18,19,20,21,22,23,24,25,26,27],false,true⟩,⟨⟨some 45,none,.op false (.fieldAddr 0 (.tmp 44))⟩,9,.none,[10,11,12,13,14,15,16,17,18,19,20,21,22,23,24,25,26,27],false,true⟩,⟨⟨some 46,none,.op false (.load 2 [.int .i64,.int .i64] (.tmp 45))⟩,10,.blk (.tmp 45),[11,12,13,14,15,16,17,18,19,20,21,22,23,24,25,26,27],false,true⟩,⟨⟨some 47,none,.call (.func 27) [.tmp 41,.tmp 46] (some (.val (.one .bool)))⟩,11,.all,[12,13,14,15,16,17,18,19,20,21,22,23,24,25,26,27],false,false⟩,⟨⟨some 48,none,.op false (.old (.unOp .not 4 (.tmp 47)))⟩,12,.none,[13,14,15,16,17,18,19,20,21,22,23,24,25,26,27],false,true⟩,⟨⟨some 49,none,.op false (.old (.move (.tmp 48)))⟩,13,.none,[14,15,16,17,18,19,20,21,22,23,24,25,26,27],false,true⟩,⟨⟨some 50,some (49,false),.op false (.old (.move (.tmp 0)))⟩,14,.none,[17,18,19,25,26,27],false,true⟩,⟨⟨some 51,some (49,false),.op false (.old (.move (.tmp 4)))⟩,15,.none,[16,17,18,19,25,26,27],false,true⟩,⟨⟨some 52,some (49,false),.op false (.old (.binOp .sub 3 (.tmp 51) (.const (.int .i64 1)) 3))⟩,16,.none,[17,18,19,25,26,27],false,true⟩,⟨⟨some 53,some (49,false),.op false (.ixS 4 (.tmp 50) (.tmp 52))⟩,17,.none,[18,19,25,26,27],false,true⟩,⟨⟨some 54,some (49,false),.op false (.fieldAddr 2 (.tmp 53))⟩,18,.none,[19,25,26,27],false,true⟩,⟨⟨some 55,some (49,false),.op false (.load 2 [.int .i64,.int .i64] (.tmp 54))⟩,19,.blk (.tmp 54),[25,26,27],false,true⟩,⟨⟨some 56,some (49,false),.op false (.old (.move (.tmp 0)))⟩,20,.none,[22,23,24,25,26,27],false,true⟩,⟨⟨some 57,some (49,false),.op false (.old (.move (.tmp 4)))⟩,21,.none,[22,23,24,25,26,27],false,true⟩,⟨⟨some 58,some (49,false),.op false (.ixS 4 (.tmp 56) (.tmp 57))⟩,22,.none,[23,24,25,26,27],false,true⟩,⟨⟨some 59,some (49,false),.op false (.fieldAddr 2 (.tmp 58))⟩,23,.none,[24,25,26,27],false,true⟩,⟨⟨some 60,some (49,false),.op false (.load 2 [.int .i64,.int .i64] (.tmp 59))⟩,24,.blk (.tmp 59),[25,26,27],false,true⟩,⟨⟨some 61,some (49,false),.call (.func 27) [.tmp 55,.tmp 60] (some (.val (.one .bool)))⟩,25,.all,[26,27],false,false⟩,⟨⟨some 62,some (49,false),.op false (.old (.unOp .not 4 (.tmp 61)))⟩,26,.none,[27],false,true⟩,⟨⟨some 63,none,.op false (.old (.pick (.tmp 49) (.const (.bool true)) (.tmp 62)))⟩,27,.none,[],false,true⟩])
 (.cond (.tmp 63) (.seq (.reg (some []) [⟨some 2,none,.op false (.old (.assign (.const (.int .i64 8))))⟩])
 .ret)
 .skip)))
 (.reg (some [0,4]) [⟨some 34,none,.op false (.old (.move (.tmp 4)))⟩,⟨some 35,none,.op false (.old (.binOp .add 3 (.tmp 34) (.const (.int .i64 1)) 3))⟩,⟨some 4,none,.op false (.old (.assign (.tmp 35)))⟩]))⟩)],
 []⟩
theorem r15_ok : resFun (progU ()) hint live 15 Try.f15 = some r15 := by kernel_rfl
def r16 : RFun :=
⟨.seq (.reg (some [0,1]) [⟨some 4,none,.op false (.old (.assign (.const (.bool false))))⟩])
 (.seq (.seq (.reg (some [0,1]) [⟨some 6,none,.op false (.old (.move (.tmp 0)))⟩,⟨some 7,none,.op false (.lenS (.tmp 6))⟩,⟨some 8,none,.op false (.old (.move (.tmp 1)))⟩,⟨some 9,none,.op false (.lenS (.tmp 8))⟩,⟨some 10,none,.op false (.old (.binOp .neq 3 (.tmp 7) (.tmp 9) 3))⟩])
 (.cond (.tmp 10) (.seq (.reg (some []) [⟨some 4,none,.op false (.old (.assign (.const (.bool false))))⟩])
 .ret)
 .skip))
 (.seq (.seq (.reg (some [0,1]) [⟨some 5,none,.op false (.old (.assign (.const (.int .i64 0))))⟩])
 (.block 0 (.loop 4 (some [0,1,5]) (some [0,1,5]))))
 (.seq (.reg (some []) [⟨some 4,none,.op false (.old (.assign (.const (.bool true))))⟩])
 .ret))),
 [.tmp 4],
 [(4,⟨some [0,1,5],some [0,1,5],.seq (.seq (.reg (some [0,1,5]) [⟨some 11,none,.op false (.old (.move (.tmp 5)))⟩,⟨some 12,none,.op false (.old (.move (.tmp 0)))⟩,⟨some 13,none,.op false (.lenS (.tmp 12))⟩,⟨some 14,none,.op false (.old (.binOp .lss 3 (.tmp 11) (.tmp 13) 3))⟩])
 (.cond (.tmp 14) .skip
 (.exit 0 (some []))))
 (.seq (.block 1 (.seq (.draw (some [0,1,5]) 9 [⟨⟨some 17,none,.op false (.old (.move (.tmp 0)))⟩,0,.none,[2,3,8],false,true⟩,⟨⟨some 18,none,.op false (.old (.move (.tmp 5)))⟩,1,.none,[2,3,8],false,true⟩,⟨⟨some 19,none,.op false (.ixS 4 (.tmp 17) (.tmp 18))⟩,2,.none,[3,8],false,true⟩,⟨⟨some 20,none,.op false (.load 4 [.int .i64,.int .i64,.int .i64,.int .i64] (.tmp 19))⟩,3,.blk (.tmp 19),[8],false,true⟩,⟨⟨some 21,none,.op false (.old (.move (.tmp 1)))⟩,4,.none,[6,7,8],false,true⟩,⟨⟨some 22,none,.op false (.old (.move (.tmp 5)))⟩,5,.none,[6,7,8],false,true⟩,⟨⟨some 23,none,.op false (.ixS 4 (.tmp 21) (.tmp 22))⟩,6,.none,[7,8],false,true⟩,⟨⟨some 24,none,.op false (.load 4 [.int .i64,.int .i64,.int .i64,.int .i64] (.tmp 23))⟩,7,.blk (.tmp 23),[8],false,true⟩,⟨⟨some 25,none,.op false (.old (.binOp .neq 51 (.tmp 20) (.tmp 24) 51))⟩,8,.none,[],false,true⟩])
 (.cond (.tmp 25) (.seq (.reg (some []) [⟨some 4,none,.op false (.old (.assign (.const (.bool false))))⟩])
 .ret)
 .skip)))
 (.reg (some [0,1,5]) [⟨some 15,none,.op false (.old (.move (.tmp 5)))⟩,⟨some 16,none,.op false (.old (.binOp .add 3 (.tmp 15) (.const (.int .i64 1)) 3))⟩,⟨some 5,none,.op false (.old (.assign (.tmp 16)))⟩]))⟩)],
 []⟩
theorem r16_ok : resFun (progU ()) hint live 16 Try.f16 = some r16 := by kernel_rfl
def r26 : RFun :=
⟨.seq (.reg (some [0]) [⟨some 2,none,.op false (.old (.assign (.const (.bool false))))⟩])
 (.seq (.reg (some [0]) [⟨some 3,none,.op false (.old (.move (.tmp 0)))⟩,⟨some 4,none,.call (.func 9) [.tmp 3] (some (.val (.one .bool)))⟩,⟨some 5,none,.op false (.old (.unOp .not 4 (.tmp 4)))⟩,⟨some 6,none,.op false (.old (.move (.tmp 5)))⟩,⟨some 7,some (6,true),.op false (.old (.move (.tmp 0)))⟩,⟨some 8,some (6,true),.call (.func 15) [.tmp 7] (some (.val (.one (.int .i64))))⟩,⟨some 9,some (6,true),.op false (.old (.binOp .eql 3 (.tmp 8) (.const (.int .i64 0)) 3))⟩,⟨some 10,none,.op false (.old (.pick (.tmp 6) (.tmp 9) (.const (.bool false))))⟩,⟨some 2,none,.op false (.old (.assign (.tmp 10)))⟩])
 .ret),
 [.tmp 2],
 [],
 []⟩
theorem r26_ok : resFun (progU ()) hint live 26 Try.f26 = some r26 := by kernel_rfl
def r27 : RFun :=
⟨.seq (.reg (some [0,1]) [⟨some 2,none,.op true (.box 2 (.tmp 0))⟩,⟨some 3,none,.op true (.box 2 (.tmp 1))⟩,⟨some 4,none,.op false (.old (.assign (.const (.bool false))))⟩])
 (.seq (.reg (some [2,3]) [⟨some 8,none,.op false (.load 2 [.int .i64,.int .i64] (.tmp 2))⟩,⟨some 9,none,.op false (.load 2 [.int .i64,.int .i64] (.tmp 3))⟩,⟨some 10,none,.call (.func 46) [.tmp 8,.tmp 9] (some (.tup [.one (.int .i64),.one (.int .i64)]))⟩,⟨some 7,none,.op false (.old (.move (.tmp 10)))⟩,⟨some 11,none,.op false (.old (.extract (.tmp 7) 0))⟩,⟨some 12,none,.op false (.old (.extract (.tmp 7) 1))⟩,⟨some 5,none,.op false (.old (.assign (.tmp 11)))⟩,⟨some 6,none,.op false (.old (.assign (.tmp 12)))⟩])
 (.seq (.reg (some [5]) [⟨some 13,none,.op false (.old (.move (.tmp 5)))⟩,⟨some 14,none,.op false (.old (.binOp .lss 3 (.tmp 13) (.const (.int .i64 0)) 3))⟩,⟨some 4,none,.op false (.old (.assign (.tmp 14)))⟩])
 .ret)),
 [.tmp 4],
 [],
 []⟩
theorem r27_ok : resFun (progU ()) hint live 27 Try.f27 = some r27 := by kernel_rfl
def r28 : RFun :=
⟨.seq (.reg (some [0]) [⟨some 1,none,.op true (.box 2 (.tmp 0))⟩,⟨some 2,none,.op false (.old (.assign (.const (.int .i64 0))))⟩])
 (.seq (.seq (.draw (some [1]) 28 [⟨⟨some 3,none,.op false (.fieldAddr 1 (.tmp 1))⟩,0,.none,[1,2,3,4,5,6,7,8,9,10,11,12,13,14,15,16,17,18,19,20,21,22,23,24,25,26,27],false,true⟩,⟨⟨some 4,none,.op false (.load1 (.int .i64) (.tmp 3))⟩,1,.blk (.tmp 3),[2,3,4,5,6,7,8,9,10,11,12,13,14,15,16,17,18,19,20,21,22,23,24,25,26,27],false,true⟩,⟨⟨some 5,none,.op false (.old (.binOp .lss 2 (.tmp 4) (.const (.int .i64 1)) 2))⟩,2,.none,[3,4,5,6,7,8,9,10,11,12,13,14,15,16,17,18,19,20,21,22,23,24,25,26,27],false,true⟩,⟨⟨some 6,none,.op false (.old (.move (.tmp 5)))⟩,3,.none,[4,5,6,7,8,9,10,11,12,13,14,15,16,17,18,19,20,21,22,23,24,25,26,27],false,true⟩,⟨⟨some 7,some (6,false),.op false (.fieldAddr 1 (.tmp 1))⟩,4,.none,[5,6,7,8,9,10,11,12,13,14,15,16,17,18,19,20,21,22,23,24,25,26,27],false,true⟩,⟨⟨some 8,some (6,false),.op false (.load1 (.int .i64) (.tmp 7))⟩,5,.blk (.tmp 7),[6,7,8,9,10,11,12,13,14,15,16,17,18,19,20,21,22,23,24,25,26,27],false,true⟩,⟨⟨some 9,some (6,false),.op false (.old (.binOp .gtr 2 (.tmp 8) (.const (.int .i64 1000000000000000000)) 2))⟩,6,.none,[7,8,9,10,11,12,13,14,15,16,17,18,19,20,21,22,23,24,25,26,27],false,true⟩,⟨⟨some 10,none,.op false (.old (.pick (.tmp 6) (.const (.bool true)) (.tmp 9)))⟩,7,.none,[8,9,10,11,12,13,14,15,16,17,18,19,20,21,22,23,24,25,26,27],false,true⟩,⟨⟨some 11,none,.op false (.old (.move (.tmp 10)))⟩,8,.none,[9,10,11,12,13,14,15,16,17,18,19,20,21,22,23,24,25,26,27],false,true⟩,⟨⟨some 12,some (11,false),.op false (.fieldAddr 0 (.tmp 1))⟩,9,.none,[10,11,12,13,14,15,16,17,18,19,20,21,22,23,24,25,26,27],false,true⟩,⟨⟨some 13,some (11,false),.op false (.load1 (.int .i64) (.tmp 12))⟩,10,.blk (.tmp 12),[11,12,13,14,15,16,17,18,19,20,21,22,23,24,25,26,27],false,true⟩,⟨⟨some 14,some (11,false),.op false (.old (.binOp .lss 2 (.tmp 13) (.const (.int .i64 (-1000000000000000000))) 2))⟩,11,.none,[12,13,14,15,16,17,18,19,20,21,22,23,24,25,26,27],false,true⟩,⟨⟨some 15,none,.op false (.old (.pick (.tmp 11) (.const (.bool true)) (.tmp 14)))⟩,12,.none,[13,14,15,16,17,18,19,20,21,22,23,24,25,26,27],false,true⟩,⟨⟨some 16,none,.op false (.old (.move (.tmp 15)))⟩,13,.none,[14,15,16,17,18,19,20,21,22,23,24,25,26,27],false,true⟩,⟨⟨some 17,some (16,false),.op false (.fieldAddr 0 (.tmp 1))⟩,14,.none,[15,16,17,18,19,20,21,22,23,24,25,26,27],false,true⟩,⟨⟨some 18,some (16,false),.op false (.load1 (.int .i64) (.tmp 17))⟩,15,.blk (.tmp 17),[16,17,18,19,20,21,22,23,24,25,26,27],false,true⟩,⟨⟨some 19,some (16,false),.op false (.old (.binOp .gtr 2 (.tmp 18) (.const (.int .i64 1000000000000000000)) 2))⟩,16,.none,[17,18,19,20,21,22,23,24,25,26,27],false,true⟩,⟨⟨some 20,none,.op false (.old (.pick (.tmp 16) (.const (.bool true)) (.tmp 19)))⟩,17,.none,[18,19,20,21,22,23,24,25,26,27],false,true⟩,⟨⟨some 21,none,.op false (.old (.move (.tmp 20)))⟩,18,.none,[19,20,21,22,23,24,25,26,27],false,true⟩,⟨⟨some 22,some (21,false),.op false (.fieldAddr 0 (.tmp 1))⟩,19,.none,[20,21,25,26,27],false,true⟩,⟨⟨some 23,some (21,false),.op false (.load1 (.int .i64) (.tmp 22))⟩,20,.blk (.tmp 22),[21,25,26,27],false,true⟩,⟨⟨some 25,some (21,false),.op false (.fieldAddr 1 (.tmp 1))⟩,22,.none,[23,24,25,26,27],false,true⟩,⟨⟨some 26,some (21,false),.op false (.load1 (.int .i64) (.tmp 25))⟩,23,.blk (.tmp 25),[24,25,26,27],false,true⟩,⟨⟨some 27,some (21,false),.op false (.convI .u64 (.tmp 26))⟩,24,.cvt (.tmp 26),[25,26,27],false,true⟩,⟨⟨some 24,some (21,false),.call (.func 48) [.tmp 23] (some (.val (.one (.int .u64))))⟩,21,.all,[25,26,27],false,false⟩,⟨⟨some 28,some (21,false),.call (.func 47) [.tmp 24,.tmp 27] (some (.val (.one (.int .u64))))⟩,25,.all,[26,27],false,false⟩,⟨⟨some 29,some (21,false),.op false (.old (.binOp .neq 80 (.tmp 28) (.const (.int .u64 1)) 80))⟩,26,.none,[27],false,true⟩,⟨⟨some 30,none,.op false (.old (.pick (.tmp 21) (.const (.bool true)) (.tmp 29)))⟩,27,.none,[],false,true⟩])
 (.cond (.tmp 30) (.seq (.reg (some []) [⟨some 2,none,.op false (.old (.assign (.const (.int .i64 8))))⟩])
 .ret)
 .skip))
 (.seq (.reg (some []) [⟨some 2,none,.op false (.old (.assign (.const (.int .i64 0))))⟩])
 .ret)),
 [.tmp 2],
 [],
 []⟩
theorem r28_ok : resFun (progU ()) hint live 28 Try.f28 = some r28 := by kernel_rfl
def r29 : RFun :=
⟨.seq (.reg (some [0,1]) [⟨some 2,none,.op true (.box 2 (.tmp 0))⟩,⟨some 4,none,.op false (.old (.assign (.const (.bool false))))⟩])
 (.seq (.reg (some [1,2]) [⟨some 5,none,.op false (.load 2 [.int .i64,.int .i64] (.tmp 2))⟩,⟨some 6,none,.call (.func 28) [.tmp 5] (some (.val (.one (.int .i64))))⟩,⟨some 7,none,.op false (.old (.binOp .eql 3 (.tmp 6) (.const (.int .i64 0)) 3))⟩,⟨some 8,none,.op false (.old (.move (.tmp 7)))⟩,⟨some 9,some (8,true),.op false (.old (.move (.tmp 1)))⟩,⟨some 10,some (8,true),.op false (.old (.unOp .neg 2 (.tmp 9)))⟩,⟨some 11,some (8,true),.op false (.fieldAddr 0 (.tmp 2))⟩,⟨some 12,some (8,true),.op false (.load1 (.int .i64) (.tmp 11))⟩,⟨some 13,some (8,true),.op false (.old (.binOp .leq 2 (.tmp 10) (.tmp 12) 2))⟩,⟨some 14,none,.op false (.old (.pick (.tmp 8) (.tmp 13) (.const (.bool false))))⟩,⟨some 15,none,.op false (.old (.move (.tmp 14)))⟩,⟨some 16,some (15,true),.op false (.fieldAddr 0 (.tmp 2))⟩,⟨some 17,some (15,true),.op false (.load1 (.int .i64) (.tmp 16))⟩,⟨some 18,some (15,true),.op false (.old (.move (.tmp 1)))⟩,⟨some 19,some (15,true),.op false (.old (.binOp .leq 2 (.tmp 17) (.tmp 18) 2))⟩,⟨some 20,none,.op false (.old (.pick (.tmp 15) (.tmp 19) (.const (.bool false))))⟩,⟨some 21,none,.op false (.old (.move (.tmp 20)))⟩,⟨some 22,some (21,true),.op false (.fieldAddr 1 (.tmp 2))⟩,⟨some 23,some (21,true),.op false (.load1 (.int .i64) (.tmp 22))⟩,⟨some 24,some (21,true),.op false (.old (.move (.tmp 1)))⟩,⟨some 25,some (21,true),.op false (.old (.binOp .leq 2 (.tmp 23) (.tmp 24) 2))⟩,⟨some 26,none,.op false (.old (.pick (.tmp 21) (.tmp 25) (.const (.bool false))))⟩,⟨some 4,none,.op false (.old (.assign (.tmp 26)))⟩])
 .ret),
 [.tmp 4],
 [],
 []⟩
theorem r29_ok : resFun (progU ()) hint live 29 Try.f29 = some r29 := by kernel_rfl
def r31 : RFun :=
⟨.seq (.reg (some [0,1]) [⟨some 4,none,.op true (.new 2 [.int .i64 0,.int .i64 0])⟩,⟨some 5,none,.op false (.old (.assign (.const (.int .i64 0))))⟩])
 (.seq (.seq (.reg (some [0,1,4]) [⟨some 7,none,.op false (.old (.move (.tmp 1)))⟩,⟨some 8,none,.op false (.old (.binOp .eql 2 (.tmp 7) (.const (.int .i64 0)) 2))⟩])
 (.cond (.tmp 8) (.seq (.reg (some [4]) [⟨some 9,none,.op false (.build [.int .i64 0,.int .i64 0] [])⟩,⟨none,none,.op false (.store 2 (.tmp 4) (.tmp 9))⟩,⟨some 5,none,.op false (.old (.assign (.const (.int .i64 18))))⟩])
 .ret)
 .skip))
 (.seq (.reg (some [0,1,4]) [⟨some 10,none,.op false (.old (.move (.tmp 0)))⟩,⟨some 11,none,.call (.func 48) [.tmp 10] (some (.val (.one (.int .u64))))⟩,⟨some 12,none,.op false (.old (.move (.tmp 1)))⟩,⟨some 13,none,.call (.func 48) [.tmp 12] (some (.val (.one (.int .u64))))⟩,⟨some 14,none,.call (.func 47) [.tmp 11,.tmp 13] (some (.val (.one (.int .u64))))⟩,⟨some 6,none,.op false (.old (.assign (.tmp 14)))⟩])
 (.seq (.reg (some [0,1,4,6]) [⟨some 15,none,.op false (.old (.move (.tmp 0)))⟩,⟨some 16,none,.op false (.old (.binOp .lss 2 (.tmp 15) (.const (.int .i64 0)) 2))⟩,⟨some 17,none,.op false (.old (.move (.tmp 1)))⟩,⟨some 18,none,.op false (.old (.binOp .lss 2 (.tmp 17) (.const (.int .i64 0)) 2))⟩,⟨some 19,none,.op false (.old (.binOp .neq 4 (.tmp 16) (.tmp 18) 4))⟩,⟨some 20,none,.op false (.old (.move (.tmp 0)))⟩,⟨some 21,none,.call (.func 48) [.tmp 20] (some (.val (.one (.int .u64))))⟩,⟨some 22,none,.op false (.old (.move (.tmp 6)))⟩,⟨some 23,none,.op false (.old (.binOp .quo 80 (.tmp 21) (.tmp 22) 80))⟩,⟨some 24,none,.call (.func 52) [.tmp 23] (some (.val (.agg [.int .u64,.int .u64,.int .u64,.int .u64])))⟩,⟨some 25,none,.op false (.old (.move (.tmp 1)))⟩,⟨some 26,none,.call (.func 48) [.tmp 25] (some (.val (.one (.int .u64))))⟩,⟨some 27,none,.op false (.old (.move (.tmp 6)))⟩,⟨some 28,none,.op false (.old (.binOp .quo 80 (.tmp 26) (.tmp 27) 80))⟩,⟨some 29,none,.call (.func 52) [.tmp 28] (some (.val (.agg [.int .u64,.int .u64,.int .u64,.int .u64])))⟩,⟨some 30,none,.call (.func 51) [.tmp 19,.tmp 24,.tmp 29] (some (.tup [.agg [.int .i64,.int .i64],.one (.int .i64)]))⟩,⟨some 31,none,.op false (.old (.extract (.tmp 30) 0))⟩,⟨some 32,none,.op false (.old (.extract (.tmp 30) 1))⟩,⟨none,none,.op false (.store 2 (.tmp 4) (.tmp 31))⟩,⟨some 5,none,.op false (.old (.assign (.tmp 32)))⟩])
 .ret))),
 [.agg 4 2 [.int .i64,.int .i64],.tmp 5],
 [],
 []⟩
theorem r31_ok : resFun (progU ()) hint live 31 Try.f31 = some r31 := by kernel_rfl
def r32 : RFun :=
⟨.seq (.reg (some [0]) [⟨some 1,none,.op true (.box 2 (.tmp 0))⟩,⟨some 2,none,.op false (.old (.assign (.const (.int .i64 0))))⟩])
 (.seq (.seq (.reg (some [1]) [⟨some 3,none,.op false (.fieldAddr 1 (.tmp 1))⟩,⟨some 4,none,.op false (.load1 (.int .i64) (.tmp 3))⟩,⟨some 5,none,.op false (.old (.binOp .lss 2 (.tmp 4) (.const (.int .i64 1)) 2))⟩,⟨some 6,none,.op false (.old (.move (.tmp 5)))⟩,⟨some 7,some (6,false),.op false (.fieldAddr 1 (.tmp 1))⟩,⟨some 8,some (6,false),.op false (.load1 (.int .i64) (.tmp 7))⟩,⟨some 9,some (6,false),.op false (.old (.binOp .gtr 2 (.tmp 8) (.const (.int .i64 1000000000000000000)) 2))⟩,⟨some 10,none,.op false (.old (.pick (.tmp 6) (.const (.bool true)) (.tmp 9)))⟩,⟨some 11,none,.op false (.old (.move (.tmp 10)))⟩,⟨some 12,some (11,false),.op false (.fieldAddr 0 (.tmp 1))⟩,⟨some 13,some (11,false),.op false (.load1 (.int .i64) (.tmp 12))⟩,⟨some 14,some (11,false),.op false (.old (.binOp .lss 2 (.tmp 13) (.const (.int .i64 (-1000000000000000000))) 2))⟩,⟨some 15,none,.op false (.old (.pick (.tmp 11) (.const (.bool true)) (.tmp 14)))⟩,⟨some 16,none,.op false (.old (.move (.tmp 15)))⟩,⟨some 17,some (16,false),.op false (.fieldAddr 0 (.tmp 1))⟩,⟨some 18,some (16,false),.op false (.load1 (.int .i64) (.tmp 17))⟩,⟨some 19,some (16,false),.op false (.old (.binOp .gtr 2 (.tmp 18) (.const (.int .i64 1000000000000000000)) 2))⟩,⟨some 20,none,.op false (.old (.pick (.tmp 16) (.const (.bool true)) (.tmp 19)))⟩])
 (.cond (.tmp 20) (.seq (.reg (some []) [⟨some 2,none,.op false (.old (.assign (.const (.int .i64 8))))⟩])
 .ret)
 .skip))
 (.seq (.seq (.draw (some [1]) 8 [⟨⟨some 21,none,.op false (.fieldAddr 0 (.tmp 1))⟩,0,.none,[1,2,5,6,7],false,true⟩,⟨⟨some 22,none,.op false (.load1 (.int .i64) (.tmp 21))⟩,1,.blk (.tmp 21),[2,5,6,7],false,true⟩,⟨⟨some 24,none,.op false (.fieldAddr 1 (.tmp 1))⟩,3,.none,[4,5,6,7],false,true⟩,⟨⟨some 25,none,.op false (.load1 (.int .i64) (.tmp 24))⟩,4,.blk (.tmp 24),[5,6,7],false,true⟩,⟨⟨some 23,none,.call (.func 54) [.tmp 22] (some (.val (.one (.int .u64))))⟩,2,.all,[5,6,7],false,false⟩,⟨⟨some 26,none,.call (.func 54) [.tmp 25] (some (.val (.one (.int .u64))))⟩,5,.all,[6,7],false,false⟩,⟨⟨some 27,none,.call (.func 53) [.tmp 23,.tmp 26] (some (.val (.one (.int .u64))))⟩,6,.all,[7],false,false⟩,⟨⟨some 28,none,.op false (.old (.binOp .neq 80 (.tmp 27) (.const (.int .u64 1)) 80))⟩,7,.none,[],false,true⟩])
 (.cond (.tmp 28) (.seq (.reg (some []) [⟨some 2,none,.op false (.old (.assign (.const (.int .i64 8))))⟩])
 .ret)
 .skip))
 (.seq (.reg (some []) [⟨some 2,none,.op false (.old (.assign (.const (.int .i64 0))))⟩])
 .ret))),
 [.tmp 2],
 [],
 []⟩
theorem r32_ok : resFun (progU ()) hint live 32 Try.f32 = some r32 := by kernel_rfl
def r33 : RFun :=
⟨.seq (.reg (some [0,1]) [⟨some 2,none,.op true (.box 2 (.tmp 0))⟩,⟨some 4,none,.op false (.old (.assign (.const (.bool false))))⟩])
 (.seq (.reg (some [1,2]) [⟨some 5,none,.op false (.load 2 [.int .i64,.int .i64] (.tmp 2))⟩,⟨some 6,none,.call (.func 32) [.tmp 5] (some (.val (.one (.int .i64))))⟩,⟨some 7,none,.op false (.old (.binOp .eql 26 (.tmp 6) (.const (.int .i64 0)) 26))⟩,⟨some 8,none,.op false (.old (.move (.tmp 7)))⟩,⟨some 9,some (8,true),.op false (.fieldAddr 0 (.tmp 2))⟩,⟨some 10,some (8,true),.op false (.load1 (.int .i64) (.tmp 9))⟩,⟨some 11,some (8,true),.op false (.old (.move (.tmp 1)))⟩,⟨some 12,some (8,true),.op false (.old (.unOp .neg 2 (.tmp 11)))⟩,⟨some 13,some (8,true),.op false (.old (.binOp .geq 2 (.tmp 10) (.tmp 12) 2))⟩,⟨some 14,none,.op false (.old (.pick (.tmp 8) (.tmp 13) (.const (.bool false))))⟩,⟨some 15,none,.op false (.old (.move (.tmp 14)))⟩,⟨some 16,some (15,true),.op false (.fieldAddr 0 (.tmp 2))⟩,⟨some 17,some (15,true),.op false (.load1 (.int .i64) (.tmp 16))⟩,⟨some 18,some (15,true),.op false (.old (.move (.tmp 1)))⟩,⟨some 19,some (15,true),.op false (.old (.binOp .leq 2 (.tmp 17) (.tmp 18) 2))⟩,⟨some 20,none,.op false (.old (.pick (.tmp 15) (.tmp 19) (.const (.bool false))))⟩,⟨some 21,none,.op false (.old (.move (.tmp 20)))⟩,⟨some 22,some (21,true),.op false (.fieldAddr 1 (.tmp 2))⟩,⟨some 23,some (21,true),.op false (.load1 (.int .i64) (.tmp 22))⟩,⟨some 24,some (21,true),.op false (.old (.move (.tmp 1)))⟩,⟨some 25,some (21,true),.op false (.old (.binOp .leq 2 (.tmp 23) (.tmp 24) 2))⟩,⟨some 26,none,.op false (.old (.pick (.tmp 21) (.tmp 25) (.const (.bool false))))⟩,⟨some 4,none,.op false (.old (.assign (.tmp 26)))⟩])
 .ret),
 [.tmp 4],
 [],
 []⟩
theorem r33_ok : resFun (progU ()) hint live 33 Try.f33 = some r33 := by kernel_rfl
def r34 : RFun :=
⟨.seq (.reg (some [0,1]) [⟨some 2,none,.op true (.box 2 (.tmp 0))⟩,⟨some 3,none,.op true (.box 2 (.tmp 1))⟩,⟨some 4,none,.op false (.old (.assign (.const (.int .i64 0))))⟩])
 (.seq (.reg (some [2,3]) [⟨some 8,none,.op false (.load 2 [.int .i64,.int .i64] (.tmp 2))⟩,⟨some 9,none,.op false (.load 2 [.int .i64,.int .i64] (.tmp 3))⟩,⟨some 10,none,.call (.func 55) [.tmp 8,.tmp 9] (some (.tup [.one (.int .i64),.one (.int .i64)]))⟩,⟨some 7,none,.op false (.old (.move (.tmp 10)))⟩,⟨some 11,none,.op false (.old (.extract (.tmp 7) 0))⟩,⟨some 12,none,.op false (.old (.extract (.tmp 7) 1))⟩,⟨some 5,none,.op false (.old (.assign (.tmp 11)))⟩,⟨some 6,none,.op false (.old (.assign (.tmp 12)))⟩])
 (.seq (.reg (some [5]) [⟨some 13,none,.op false (.old (.move (.tmp 5)))⟩,⟨some 4,none,.op false (.old (.assign (.tmp 13)))⟩])
 .ret)),
 [.tmp 4],
 [],
 []⟩
theorem r34_ok : resFun (progU ()) hint live 34 Try.f34 = some r34 := by kernel_rfl
def r35 : RFun :=
⟨.seq (.reg (some [0,1]) [⟨some 3,none,.op true (.box 2 (.tmp 1))⟩,⟨some 4,none,.op true (.new 2 [.int .i64 0,.int .i64 0])⟩,⟨some 5,none,.op false (.old (.assign (.const (.int .i64 0))))⟩])
 (.seq (.reg (some [0,3,4]) [⟨some 6,none,.op false (.old (.assign (.const (.int .i64 1))))⟩])
 (.seq (.block 0 (.loop 2 (some [0,3,4,6]) (some [0,3,4,6])))
 (.seq (.draw (some [0,3,4,6]) 13 [⟨⟨some 32,none,.op false (.old (.move (.tmp 0)))⟩,0,.none,[3,4,11,12],false,true⟩,⟨⟨some 33,none,.op false (.old (.move (.tmp 6)))⟩,1,.none,[2,3,4,11,12],false,true⟩,⟨⟨some 34,none,.op false (.old (.binOp .sub 3 (.tmp 33) (.const (.int .i64 1)) 3))⟩,2,.none,[3,4,11,12],false,true⟩,⟨⟨some 35,none,.op false (.ixS 4 (.tmp 32) (.tmp 34))⟩,3,.none,[4,11,12],false,true⟩,⟨⟨some 36,none,.op false (.load 4 [.int .i64,.int .i64,.int .i64,.int .i64] (.tmp 35))⟩,4,.blk (.tmp 35),[11,12],false,true⟩,⟨⟨some 37,none,.op false (.old (.move (.tmp 0)))⟩,5,.none,[7,8,12],false,true⟩,⟨⟨some 38,none,.op false (.old (.move (.tmp 6)))⟩,6,.none,[7,8,12],false,true⟩,⟨⟨some 39,none,.op false (.ixS 4 (.tmp 37) (.tmp 38))⟩,7,.none,[8,12],false,true⟩,⟨⟨some 40,none,.op false (.load 4 [.int .i64,.int .i64,.int .i64,.int .i64] (.tmp 39))⟩,8,.blk (.tmp 39),[12],false,true⟩,⟨⟨some 7,none,.op true (.new 4 [.int .i64 0,.int .i64 0,.int .i64 0,.int .i64 0])⟩,9,.new true,[11,12],false,true⟩,⟨⟨some 8,none,.op true (.new 4 [.int .i64 0,.int .i64 0,.int .i64 0,.int .i64 0])⟩,10,.new true,[11,12],false,true⟩,⟨⟨none,none,.op false (.store 4 (.tmp 7) (.tmp 36))⟩,11,.blk (.tmp 7),[12],true,true⟩,⟨⟨none,none,.op false (.store 4 (.tmp 8) (.tmp 40))⟩,12,.blk (.tmp 8),[],true,true⟩])
 (.seq (.reg (some [3,4,7,8]) [⟨some 42,none,.op false (.fieldAddr 2 (.tmp 8))⟩,⟨some 43,none,.op false (.load 2 [.int .i64,.int .i64] (.tmp 42))⟩,⟨some 44,none,.op false (.fieldAddr 2 (.tmp 7))⟩,⟨some 45,none,.op false (.load 2 [.int .i64,.int .i64] (.tmp 44))⟩,⟨some 46,none,.call (.func 56) [.tmp 43,.tmp 45] (some (.tup [.agg [.int .i64,.int .i64],.one (.int .i64)]))⟩,⟨some 41,none,.op false (.old (.move (.tmp 46)))⟩,⟨some 47,none,.op false (.old (.extract (.tmp 41) 0))⟩,⟨some 48,none,.op false (.old (.extract (.tmp 41) 1))⟩,⟨some 9,none,.op true (.new 2 [.int .i64 0,.int .i64 0])⟩,⟨none,none,.op false (.store 2 (.tmp 9) (.tmp 47))⟩,⟨some 10,none,.op false (.old (.assign (.tmp 48)))⟩])
 (.seq (.seq (.reg (some [3,4,7,8,9,10]) [⟨some 49,none,.op false (.old (.move (.tmp 10)))⟩,⟨some 50,none,.op false (.old (.binOp .neq 26 (.tmp 49) (.const (.int .i64 0)) 26))⟩])
 (.cond (.tmp 50) (.seq (.reg (some [4,10]) [⟨some 51,none,.op false (.build [.int .i64 0,.int .i64 0] [])⟩,⟨some 52,none,.op false (.old (.move (.tmp 10)))⟩,⟨none,none,.op false (.store 2 (.tmp 4) (.tmp 51))⟩,⟨some 5,none,.op false (.old (.assign (.tmp 52)))⟩])
 .ret)
 .skip))
 (.seq (.reg (some [3,4,7,8,9]) [⟨some 54,none,.op false (.load 2 [.int .i64,.int .i64] (.tmp 3))⟩,⟨some 55,none,.op false (.fieldAddr 0 (.tmp 7))⟩,⟨some 56,none,.op false (.load 2 [.int .i64,.int .i64] (.tmp 55))⟩,⟨some 57,none,.call (.func 56) [.tmp 54,.tmp 56] (some (.tup [.agg [.int .i64,.int .i64],.one (.int .i64)]))⟩,⟨some 53,none,.op false (.old (.move (.tmp 57)))⟩,⟨some 58,none,.op false (.old (.extract (.tmp 53) 0))⟩,⟨some 59,none,.op false (.old (.extract (.tmp 53) 1))⟩,⟨some 11,none,.op true (.new 2 [.int .i64 0,.int .i64 0])⟩,⟨none,none,.op false (.store 2 (.tmp 11) (.tmp 58))⟩,⟨some 10,none,.op false (.old (.assign (.tmp 59)))⟩])
 (.seq (.seq (.reg (some [4,7,8,9,10,11]) [⟨some 60,none,.op false (.old (.move (.tmp 10)))⟩,⟨some 61,none,.op false (.old (.binOp .neq 26 (.tmp 60) (.const (.int .i64 0)) 26))⟩])
 (.cond (.tmp 61) (.seq (.reg (some [4,10]) [⟨some 62,none,.op false (.build [.int .i64 0,.int .i64 0] [])⟩,⟨some 63,none,.op false (.old (.move (.tmp 10)))⟩,⟨none,none,.op false (.store 2 (.tmp 4) (.tmp 62))⟩,⟨some 5,none,.op false (.old (.assign (.tmp 63)))⟩])
 .ret)
 .skip))
 (.seq (.reg (some [4,7,8,9,11]) [⟨some 65,none,.op false (.fieldAddr 0 (.tmp 8))⟩,⟨some 66,none,.op false (.load 2 [.int .i64,.int .i64] (.tmp 65))⟩,⟨some 67,none,.op false (.fieldAddr 0 (.tmp 7))⟩,⟨some 68,none,.op false (.load 2 [.int .i64,.int .i64] (.tmp 67))⟩,⟨some 69,none,.call (.func 56) [.tmp 66,.tmp 68] (some (.tup [.agg [.int .i64,.int .i64],.one (.int .i64)]))⟩,⟨some 64,none,.op false (.old (.move (.tmp 69)))⟩,⟨some 70,none,.op false (.old (.extract (.tmp 64) 0))⟩,⟨some 71,none,.op false (.old (.extract (.tmp 64) 1))⟩,⟨some 12,none,.op true (.new 2 [.int .i64 0,.int .i64 0])⟩,⟨none,none,.op false (.store 2 (.tmp 12) (.tmp 70))⟩,⟨some 10,none,.op false (.old (.assign (.tmp 71)))⟩])
 (.seq (.seq (.reg (some [4,7,9,10,11,12]) [⟨some 72,none,.op false (.old (.move (.tmp 10)))⟩,⟨some 73,none,.op false (.old (.binOp .neq 26 (.tmp 72) (.const (.int .i64 0)) 26))⟩])
 (.cond (.tmp 73) (.seq (.reg (some [4,10]) [⟨some 74,none,.op false (.build [.int .i64 0,.int .i64 0] [])⟩,⟨some 75,none,.op false (.old (.move (.tmp 10)))⟩,⟨none,none,.op false (.store 2 (.tmp 4) (.tmp 74))⟩,⟨some 5,none,.op false (.old (.assign (.tmp 75)))⟩])
 .ret)
 .skip))
 (.seq (.reg (some [4,7,9,11,12]) [⟨some 77,none,.op false (.load 2 [.int .i64,.int .i64] (.tmp 9))⟩,⟨some 78,none,.op false (.load 2 [.int .i64,.int .i64] (.tmp 11))⟩,⟨some 79,none,.call (.func 57) [.tmp 77,.tmp 78] (some (.tup [.agg [.int .i64,.int .i64],.one (.int .i64)]))⟩,⟨some 76,none,.op false (.old (.move (.tmp 79)))⟩,⟨some 80,none,.op false (.old (.extract (.tmp 76) 0))⟩,⟨some 81,none,.op false (.old (.extract (.tmp 76) 1))⟩,⟨some 13,none,.op true (.new 2 [.int .i64 0,.int .i64 0])⟩,⟨none,none,.op false (.store 2 (.tmp 13) (.tmp 80))⟩,⟨some 10,none,.op false (.old (.assign (.tmp 81)))⟩])
 (.seq (.seq (.reg (some [4,7,10,12,13]) [⟨some 82,none,.op false (.old (.move (.tmp 10)))⟩,⟨some 83,none,.op false (.old (.binOp .neq 26 (.tmp 82) (.const (.int .i64 0)) 26))⟩])
 (.cond (.tmp 83) (.seq (.reg (some [4,10]) [⟨some 84,none,.op false (.build [.int .i64 0,.int .i64 0] [])⟩,⟨some 85,none,.op false (.old (.move (.tmp 10)))⟩,⟨none,none,.op false (.store 2 (.tmp 4) (.tmp 84))⟩,⟨some 5,none,.op false (.old (.assign (.tmp 85)))⟩])
 .ret)
 .skip))
 (.seq (.reg (some [4,7,12,13]) [⟨some 87,none,.op false (.load 2 [.int .i64,.int .i64] (.tmp 13))⟩,⟨some 88,none,.op false (.load 2 [.int .i64,.int .i64] (.tmp 12))⟩,⟨some 89,none,.call (.func 43) [.tmp 87,.tmp 88] (some (.tup [.agg [.int .i64,.int .i64],.one (.int .i64)]))⟩,⟨some 86,none,.op false (.old (.move (.tmp 89)))⟩,⟨some 90,none,.op false (.old (.extract (.tmp 86) 0))⟩,⟨some 91,none,.op false (.old (.extract (.tmp 86) 1))⟩,⟨some 14,none,.op true (.new 2 [.int .i64 0,.int .i64 0])⟩,⟨none,none,.op false (.store 2 (.tmp 14) (.tmp 90))⟩,⟨some 10,none,.op false (.old (.assign (.tmp 91)))⟩])
 (.seq (.seq (.reg (some [4,7,10,14]) [⟨some 92,none,.op false (.old (.move (.tmp 10)))⟩,⟨some 93,none,.op false (.old (.binOp .neq 26 (.tmp 92) (.const (.int .i64 0)) 26))⟩])
 (.cond (.tmp 93) (.seq (.reg (some [4,10]) [⟨some 94,none,.op false (.build [.int .i64 0,.int .i64 0] [])⟩,⟨some 95,none,.op false (.old (.move (.tmp 10)))⟩,⟨none,none,.op false (.store 2 (.tmp 4) (.tmp 94))⟩,⟨some 5,none,.op false (.old (.assign (.tmp 95)))⟩])
 .ret)
 .skip))
 (.seq (.reg (some [4,7,14]) [⟨some 96,none,.op false (.fieldAddr 2 (.tmp 7))⟩,⟨some 97,none,.op false (.load 2 [.int .i64,.int .i64] (.tmp 96))⟩,⟨some 98,none,.op false (.load 2 [.int .i64,.int .i64] (.tmp 14))⟩,⟨some 99,none,.call (.func 58) [.tmp 97,.tmp 98] (some (.tup [.agg [.int .i64,.int .i64],.one (.int .i64)]))⟩,⟨some 100,none,.op false (.old (.extract (.tmp 99) 0))⟩,⟨some 101,none,.op false (.old (.extract (.tmp 99) 1))⟩,⟨none,none,.op false (.store 2 (.tmp 4) (.tmp 100))⟩,⟨some 5,none,.op false (.old (.assign (.tmp 101)))⟩])
 .ret)))))))))))))),
 [.agg 4 2 [.int .i64,.int .i64],.tmp 5],
 [(2,⟨some [0,3,4,6],some [0,3,4,6],.seq (.seq (.draw (some [0,3,4,6]) 15 [⟨⟨some 15,none,.op false (.old (.move (.tmp 6)))⟩,0,.none,[4,5,6,7,8,9,10,11,12,13,14],false,true⟩,⟨⟨some 16,none,.op false (.old (.move (.tmp 0)))⟩,1,.none,[2,3,4,5,6,7,8,9,10,11,12,13,14],false,true⟩,⟨⟨some 17,none,.op false (.lenS (.tmp 16))⟩,2,.none,[3,4,5,6,7,8,9,10,11,12,13,14],false,true⟩,⟨⟨some 18,none,.op false (.old (.binOp .sub 3 (.tmp 17) (.const (.int .i64 1)) 3))⟩,3,.none,[4,5,6,7,8,9,10,11,12,13,14],false,true⟩,⟨⟨some 19,none,.op false (.old (.binOp .lss 3 (.tmp 15) (.tmp 18) 3))⟩,4,.none,[5,6,7,8,9,10,11,12,13,14],false,true⟩,⟨⟨some 20,none,.op false (.old (.move (.tmp 19)))⟩,5,.none,[6,7,8,9,10,11,12,13,14],false,true⟩,⟨⟨some 21,some (20,true),.op false (.load 2 [.int .i64,.int .i64] (.tmp 3))⟩,6,.blk (.tmp 3),[12,13,14],false,true⟩,⟨⟨some 22,some (20,true),.op false (.old (.move (.tmp 0)))⟩,7,.none,[9,10,11,12,13,14],false,true⟩,⟨⟨some 23,some (20,true),.op false (.old (.move (.tmp 6)))⟩,8,.none,[9,10,11,12,13,14],false,true⟩,⟨⟨some 24,some (20,true),.op false (.ixS 4 (.tmp 22) (.tmp 23))⟩,9,.none,[10,11,12,13,14],false,true⟩,⟨⟨some 25,some (20,true),.op false (.fieldAddr 0 (.tmp 24))⟩,10,.none,[11,12,13,14],false,true⟩,⟨⟨some 26,some (20,true),.op false (.load 2 [.int .i64,.int .i64] (.tmp 25))⟩,11,.blk (.tmp 25),[12,13,14],false,true⟩,⟨⟨some 27,some (20,true),.call (.func 34) [.tmp 21,.tmp 26] (some (.val (.one (.int .i64))))⟩,12,.all,[13,14],false,false⟩,⟨⟨some 28,some (20,true),.op false (.old (.binOp .gtr 3 (.tmp 27) (.const (.int .i64 0)) 3))⟩,13,.none,[14],false,true⟩,⟨⟨some 29,none,.op false (.old (.pick (.tmp 20) (.tmp 28) (.const (.bool false))))⟩,14,.none,[],false,true⟩])
 (.cond (.tmp 29) .skip
 (.exit 0 (some [0,3,4,6]))))
 (.block 1 (.reg (some [0,3,4,6]) [⟨some 30,none,.op false (.old (.move (.tmp 6)))⟩,⟨some 31,none,.op false (.old (.binOp .add 3 (.tmp 30) (.const (.int .i64 1)) 3))⟩,⟨some 6,none,.op false (.old (.assign (.tmp 31)))⟩]))⟩)],
 []⟩
theorem r35_ok : resFun (progU ()) hint live 35 Try.f35 = some r35 := by kernel_rfl
def r36 : RFun :=
⟨.seq (.reg (some [0,1]) [⟨some 3,none,.op true (.box 2 (.tmp 1))⟩,⟨some 4,none,.op true (.new 2 [.int .i64 0,.int .i64 0])⟩])
 (.seq (.seq (.reg (some [0,3,4]) [⟨some 6,none,.op false (.old (.move (.tmp 0)))⟩,⟨some 7,none,.op false (.lenS (.tmp 6))⟩,⟨some 8,none,.op false (.old (.binOp .sub 3 (.tmp 7) (.const (.int .i64 1)) 3))⟩,⟨some 5,none,.op false (.old (.assign (.tmp 8)))⟩])
 (.block 0 (.loop 2 (some [0,3,4,5]) (some [0,3,4,5]))))
 (.seq (.reg (some [4]) [⟨some 33,none,.op false (.build [.int .i64 0,.int .i64 0] [])⟩,⟨none,none,.op false (.store 2 (.tmp 4) (.tmp 33))⟩])
 .ret)),
 [.agg 4 2 [.int .i64,.int .i64]],
 [(2,⟨some [0,3,4,5],some [0,3,4,5],.seq (.seq (.reg (some [0,3,4,5]) [⟨some 9,none,.op false (.old (.move (.tmp 5)))⟩,⟨some 10,none,.op false (.old (.binOp .gtr 3 (.tmp 9) (.const (.int .i64 0)) 3))⟩])
 (.cond (.tmp 10) .skip
 (.exit 0 (some [4]))))
 (.seq (.block 1 (.seq (.draw (some [0,3,4,5]) 9 [⟨⟨some 13,none,.op false (.load 2 [.int .i64,.int .i64] (.tmp 3))⟩,0,.blk (.tmp 3),[7,8],false,true⟩,⟨⟨some 14,none,.op false (.old (.move (.tmp 0)))⟩,1,.none,[4,5,6,7,8],false,true⟩,⟨⟨some 15,none,.op false (.old (.move (.tmp 5)))⟩,2,.none,[3,4,5,6,7,8],false,true⟩,⟨⟨some 16,none,.op false (.old (.binOp .sub 3 (.tmp 15) (.const (.int .i64 1)) 3))⟩,3,.none,[4,5,6,7,8],false,true⟩,⟨⟨some 17,none,.op false (.ixS 4 (.tmp 14) (.tmp 16))⟩,4,.none,[5,6,7,8],false,true⟩,⟨⟨some 18,none,.op false (.fieldAddr 0 (.tmp 17))⟩,5,.none,[6,7,8],false,true⟩,⟨⟨some 19,none,.op false (.load 2 [.int .i64,.int .i64] (.tmp 18))⟩,6,.blk (.tmp 18),[7,8],false,true⟩,⟨⟨some 20,none,.call (.func 27) [.tmp 13,.tmp 19] (some (.val (.one .bool)))⟩,7,.all,[8],false,false⟩,⟨⟨some 21,none,.op false (.old (.unOp .not 4 (.tmp 20)))⟩,8,.none,[],false,true⟩])
 (.cond (.tmp 21) (.seq (.draw (some [0,3,4,5]) 12 [⟨⟨some 22,none,.op false (.old (.move (.tmp 0)))⟩,0,.none,[3,4,10,11],false,true⟩,⟨⟨some 23,none,.op false (.old (.move (.tmp 5)))⟩,1,.none,[2,3,4,10,11],false,true⟩,⟨⟨some 24,none,.op false (.old (.binOp .sub 3 (.tmp 23) (.const (.int .i64 1)) 3))⟩,2,.none,[3,4,10,11],false,true⟩,⟨⟨some 25,none,.op false (.ixS 4 (.tmp 22) (.tmp 24))⟩,3,.none,[4,10,11],false,true⟩,⟨⟨some 26,none,.op false (.load 4 [.int .i64,.int .i64,.int .i64,.int .i64] (.tmp 25))⟩,4,.blk (.tmp 25),[10,11],false,true⟩,⟨⟨some 27,none,.op false (.old (.move (.tmp 0)))⟩,5,.none,[7,8,10,11],false,true⟩,⟨⟨some 28,none,.op false (.old (.move (.tmp 5)))⟩,6,.none,[7,8,10,11],false,true⟩,⟨⟨some 29,none,.op false (.ixS 4 (.tmp 27) (.tmp 28))⟩,7,.none,[8,10,11],false,true⟩,⟨⟨some 30,none,.op false (.load 4 [.int .i64,.int .i64,.int .i64,.int .i64] (.tmp 29))⟩,8,.blk (.tmp 29),[10,11],false,true⟩,⟨⟨some 31,none,.op false (.load 2 [.int .i64,.int .i64] (.tmp 3))⟩,9,.blk (.tmp 3),[10,11],false,true⟩,⟨⟨some 32,none,.call (.func 59) [.tmp 26,.tmp 30,.tmp 31] (some (.val (.agg [.int .i64,.int .i64])))⟩,10,.all,[11],false,false⟩,⟨⟨none,none,.op false (.store 2 (.tmp 4) (.tmp 32))⟩,11,.blk (.tmp 4),[],true,true⟩])
 .ret)
 .skip)))
 (.reg (some [0,3,4,5]) [⟨some 11,none,.op false (.old (.move (.tmp 5)))⟩,⟨some 12,none,.op false (.old (.binOp .sub 3 (.tmp 11) (.const (.int .i64 1)) 3))⟩,⟨some 5,none,.op false (.old (.assign (.tmp 12)))⟩]))⟩)],
 []⟩
theorem r36_ok : resFun (progU ()) hint live 36 Try.f36 = some r36 := by kernel_rfl
def r37 : RFun :=
⟨.seq (.reg (some [0]) [⟨some 2,none,.op false (.old (.assign (.const (.slice none 0 0))))⟩])
 (.seq (.reg (some [0]) [⟨some 6,none,.op false (.old (.move (.tmp 0)))⟩,⟨some 7,none,.op false (.lenS (.tmp 6))⟩,⟨some 8,none,.op false (.mkSlice 4 [.int .i64 0,.int .i64 0,.int .i64 0,.int .i64 0] (.tmp 7) (.tmp 7))⟩,⟨some 3,none,.op false (.old (.assign (.tmp 8)))⟩])
 (.seq (.seq (.reg (some [0,3]) [⟨some 9,none,.op false (.old (.move (.tmp 0)))⟩,⟨some 10,none,.op false (.lenS (.tmp 9))⟩,⟨some 11,none,.op false (.old (.move (.const (.int .i64 0))))⟩])
 (.block 0 (.loop 3 (some [3,9,10,11]) (some [3,9,10,11]))))
 (.seq (.reg (some [3]) [⟨some 25,none,.op false (.old (.move (.tmp 3)))⟩,⟨some 2,none,.op false (.old (.assign (.tmp 25)))⟩])
 .ret))),
 [.tmp 2],
 [(3,⟨some [3,9,10,11],some [3,9,10,11],.seq (.reg (some [3,9,10,11]) [⟨some 12,none,.op false (.old (.binOp .lss 3 (.tmp 11) (.tmp 10) 3))⟩])
 (.seq (.cond (.tmp 12) .skip
 (.exit 0 (some [3])))
 (.seq (.block 1 (.seq (.reg (some [3,9,10,11]) [⟨some 13,none,.op false (.old (.move (.tmp 11)))⟩,⟨some 14,none,.op false (.ixS 4 (.tmp 9) (.tmp 11))⟩,⟨some 15,none,.op false (.load 4 [.int .i64,.int .i64,.int .i64,.int .i64] (.tmp 14))⟩,⟨some 5,none,.op true (.new 4 [.int .i64 0,.int .i64 0,.int .i64 0,.int .i64 0])⟩,⟨some 4,none,.op false (.old (.assign (.tmp 13)))⟩,⟨none,none,.op false (.store 4 (.tmp 5) (.tmp 15))⟩])
 (.reg (some [3,4,5,9,10,11]) [⟨some 16,none,.op false (.old (.move (.tmp 3)))⟩,⟨some 17,none,.op false (.old (.move (.tmp 4)))⟩,⟨some 18,none,.op false (.fieldAddr 2 (.tmp 5))⟩,⟨some 19,none,.op false (.load 2 [.int .i64,.int .i64] (.tmp 18))⟩,⟨some 20,none,.op false (.fieldAddr 0 (.tmp 5))⟩,⟨some 21,none,.op false (.load 2 [.int .i64,.int .i64] (.tmp 20))⟩,⟨some 22,none,.op false (.build [.int .i64 0,.int .i64 0,.int .i64 0,.int .i64 0] [(0,2,(.tmp 19)),(2,2,(.tmp 21))])⟩,⟨some 23,none,.op false (.ixS 4 (.tmp 16) (.tmp 17))⟩,⟨none,none,.op false (.store 4 (.tmp 23) (.tmp 22))⟩])))
 (.reg (some [3,9,10,11]) [⟨some 24,none,.op false (.old (.binOp .add 3 (.tmp 11) (.const (.int .i64 1)) 3))⟩,⟨some 11,none,.op false (.old (.move (.tmp 24)))⟩])))⟩)],
 []⟩
theorem r37_ok : resFun (progU ()) hint live 37 Try.f37 = some r37 := by kernel_rfl
def r38 : RFun :=
⟨.seq (.reg (some [0]) [⟨some 2,none,.op false (.old (.assign (.const (.slice none 0 0))))⟩])
 (.seq (.reg (some [0]) [⟨some 3,none,.op false (.old (.assign (.const (.slice none 0 0))))⟩])
 (.seq (.seq (.reg (some [0,3]) [⟨some 4,none,.op false (.old (.assign (.const (.int .i64 0))))⟩])
 (.block 0 (.loop 3 (some [0,3,4]) (some [0,3,4]))))
 (.seq (.reg (some [3]) [⟨some 25,none,.op false (.old (.move (.tmp 3)))⟩,⟨some 2,none,.op false (.old (.assign (.tmp 25)))⟩])
 .ret))),
 [.tmp 2],
 [(3,⟨some [0,3,4],some [0,3,4],.seq (.seq (.reg (some [0,3,4]) [⟨some 5,none,.op false (.old (.move (.tmp 4)))⟩,⟨some 6,none,.op false (.old (.move (.tmp 0)))⟩,⟨some 7,none,.op false (.lenS (.tmp 6))⟩,⟨some 8,none,.op false (.old (.binOp .lss 3 (.tmp 5) (.tmp 7) 3))⟩])
 (.cond (.tmp 8) .skip
 (.exit 0 (some [3]))))
 (.seq (.block 1 (.draw (some [0,3,4]) 15 [⟨⟨some 11,none,.op false (.old (.move (.tmp 3)))⟩,0,.none,[13,14],false,true⟩,⟨⟨some 12,none,.op false (.old (.move (.tmp 0)))⟩,1,.none,[3,4,5,11,12,13,14],false,true⟩,⟨⟨some 13,none,.op false (.old (.move (.tmp 4)))⟩,2,.none,[3,4,5,11,12,13,14],false,true⟩,⟨⟨some 14,none,.op false (.ixS 4 (.tmp 12) (.tmp 13))⟩,3,.none,[4,5,11,12,13,14],false,true⟩,⟨⟨some 15,none,.op false (.fieldAddr 2 (.tmp 14))⟩,4,.none,[5,11,12,13,14],false,true⟩,⟨⟨some 16,none,.op false (.load 2 [.int .i64,.int .i64] (.tmp 15))⟩,5,.blk (.tmp 15),[11,12,13,14],false,true⟩,⟨⟨some 17,none,.op false (.old (.move (.tmp 0)))⟩,6,.none,[8,9,10,11,12,13,14],false,true⟩,⟨⟨some 18,none,.op false (.old (.move (.tmp 4)))⟩,7,.none,[8,9,10,11,12,13,14],false,true⟩,⟨⟨some 19,none,.op false (.ixS 4 (.tmp 17) (.tmp 18))⟩,8,.none,[9,10,11,12,13,14],false,true⟩,⟨⟨some 20,none,.op false (.fieldAddr 0 (.tmp 19))⟩,9,.none,[10,11,12,13,14],false,true⟩,⟨⟨some 21,none,.op false (.load 2 [.int .i64,.int .i64] (.tmp 20))⟩,10,.blk (.tmp 20),[11,12,13,14],false,true⟩,⟨⟨some 22,none,.op false (.build [.int .i64 0,.int .i64 0,.int .i64 0,.int .i64 0] [(0,2,(.tmp 16)),(2,2,(.tmp 21))])⟩,11,.none,[12,13,14],false,true⟩,⟨⟨some 23,none,.op false (.buildSlice 4 1 [.int .i64 0,.int .i64 0,.int .i64 0,.int .i64 0] [(0,4,(.tmp 22))])⟩,12,.new false,[13,14],false,true⟩,⟨⟨some 24,none,.op false (.old (.call ⟨.builtin .append,#[.tmp 11,.tmp 23],#[22,22]⟩))⟩,13,.all,[14],false,false⟩,⟨⟨some 3,none,.op false (.old (.assign (.tmp 24)))⟩,14,.none,[],false,true⟩]))
 (.reg (some [0,3,4]) [⟨some 9,none,.op false (.old (.move (.tmp 4)))⟩,⟨some 10,none,.op false (.old (.binOp .add 3 (.tmp 9) (.const (.int .i64 1)) 3))⟩,⟨some 4,none,.op false (.old (.assign (.tmp 10)))⟩]))⟩)],
 []⟩
theorem r38_ok : resFun (progU ()) hint live 38 Try.f38 = some r38 := by kernel_rfl
def r41 : RFun :=
⟨.seq (.reg (some [0,1]) [⟨some 4,none,.op true (.new 2 [.int .i64 0,.int .i64 0])⟩,⟨some 5,none,.op false (.old (.assign (.const (.int .i64 0))))⟩])
 (.seq (.seq (.reg (some [0,1,4]) [⟨some 9,none,.op false (.old (.move (.tmp 1)))⟩,⟨some 10,none,.op false (.old (.binOp .eql 2 (.tmp 9) (.const (.int .i64 0)) 2))⟩])
 (.cond (.tmp 10) (.seq (.reg (some [4]) [⟨some 11,none,.op false (.build [.int .i64 0,.int .i64 0] [])⟩,⟨none,none,.op false (.store 2 (.tmp 4) (.tmp 11))⟩,⟨some 5,none,.op false (.old (.assign (.const (.int .i64 18))))⟩])
 .ret)
 .skip))
 (.seq (.reg (some [0,1,4]) [⟨some 12,none,.op false (.old (.move (.tmp 0)))⟩,⟨some 13,none,.call (.func 54) [.tmp 12] (some (.val (.one (.int .u64))))⟩,⟨some 14,none,.op false (.old (.move (.tmp 1)))⟩,⟨some 15,none,.call (.func 54) [.tmp 14] (some (.val (.one (.int .u64))))⟩,⟨some 6,none,.op false (.old (.assign (.tmp 13)))⟩,⟨some 7,none,.op false (.old (.assign (.tmp 15)))⟩])
 (.seq (.reg (some [0,1,4,6,7]) [⟨some 16,none,.op false (.old (.move (.tmp 6)))⟩,⟨some 17,none,.op false (.old (.move (.tmp 7)))⟩,⟨some 18,none,.call (.func 53) [.tmp 16,.tmp 17] (some (.val (.one (.int .u64))))⟩,⟨some 8,none,.op false (.old (.assign (.tmp 18)))⟩])
 (.seq (.draw (some [0,1,4,6,7,8]) 16 [⟨⟨some 19,none,.op false (.old (.move (.tmp 0)))⟩,0,.none,[1,4,11,12,13,14,15],false,true⟩,⟨⟨some 20,none,.op false (.old (.binOp .lss 2 (.tmp 19) (.const (.int .i64 0)) 2))⟩,1,.none,[4,11,12,13,14,15],false,true⟩,⟨⟨some 21,none,.op false (.old (.move (.tmp 1)))⟩,2,.none,[3,4,11,12,13,14,15],false,true⟩,⟨⟨some 22,none,.op false (.old (.binOp .lss 2 (.tmp 21) (.const (.int .i64 0)) 2))⟩,3,.none,[4,11,12,13,14,15],false,true⟩,⟨⟨some 23,none,.op false (.old (.binOp .neq 4 (.tmp 20) (.tmp 22) 4))⟩,4,.none,[11,12,13,14,15],false,true⟩,⟨⟨some 24,none,.op false (.old (.move (.tmp 6)))⟩,5,.none,[7,11,12,13,14,15],false,true⟩,⟨⟨some 25,none,.op false (.old (.move (.tmp 8)))⟩,6,.none,[7,11,12,13,14,15],false,true⟩,⟨⟨some 26,none,.op false (.old (.binOp .quo 80 (.tmp 24) (.tmp 25) 80))⟩,7,.none,[11,12,13,14,15],false,true⟩,⟨⟨some 27,none,.op false (.old (.move (.tmp 7)))⟩,8,.none,[10,11,12,13,14,15],false,true⟩,⟨⟨some 28,none,.op false (.old (.move (.tmp 8)))⟩,9,.none,[10,11,12,13,14,15],false,true⟩,⟨⟨some 29,none,.op false (.old (.binOp .quo 80 (.tmp 27) (.tmp 28) 80))⟩,10,.none,[11,12,13,14,15],false,true⟩,⟨⟨some 30,none,.call (.func 62) [.tmp 23,.tmp 26,.tmp 29] (some (.tup [.agg [.int .i64,.int .i64],.one (.int .i64)]))⟩,11,.all,[12,13,14,15],false,false⟩,⟨⟨some 31,none,.op false (.old (.extract (.tmp 30) 0))⟩,12,.none,[14,15],false,true⟩,⟨⟨some 32,none,.op false (.old (.extract (.tmp 30) 1))⟩,13,.none,[14,15],false,true⟩,⟨⟨none,none,.op false (.store 2 (.tmp 4) (.tmp 31))⟩,14,.blk (.tmp 4),[15],true,true⟩,⟨⟨some 5,none,.op false (.old (.assign (.tmp 32)))⟩,15,.none,[],false,true⟩])
 .ret)))),
 [.agg 4 2 [.int .i64,.int .i64],.tmp 5],
 [],
 []⟩
theorem r41_ok : resFun (progU ()) hint live 41 Try.f41 = some r41 := by kernel_rfl
def r43 : RFun :=
⟨.seq (.reg (some [0,1]) [⟨some 2,none,.op true (.box 2 (.tmp 0))⟩,⟨some 3,none,.op true (.box 2 (.tmp 1))⟩,⟨some 4,none,.op true (.new 2 [.int .i64 0,.int .i64 0])⟩,⟨some 5,none,.op false (.old (.assign (.const (.int .i64 0))))⟩])
 (.seq (.seq (.reg (some [2,3,4]) [⟨some 8,none,.op false (.load 2 [.int .i64,.int .i64] (.tmp 2))⟩,⟨some 9,none,.op false (.load 2 [.int .i64,.int .i64] (.tmp 3))⟩,⟨some 10,none,.call (.func 63) [.tmp 8,.tmp 9] (some (.val (.one (.int .i64))))⟩,⟨some 6,none,.op false (.old (.assign (.tmp 10)))⟩])
 (.seq (.reg (some [2,3,4,6]) [⟨some 11,none,.op false (.old (.move (.tmp 6)))⟩,⟨some 12,none,.op false (.old (.binOp .neq 26 (.tmp 11) (.const (.int .i64 0)) 26))⟩])
 (.cond (.tmp 12) (.seq (.reg (some [4,6]) [⟨some 13,none,.op false (.build [.int .i64 0,.int .i64 0] [])⟩,⟨some 14,none,.op false (.old (.move (.tmp 6)))⟩,⟨none,none,.op false (.store 2 (.tmp 4) (.tmp 13))⟩,⟨some 5,none,.op false (.old (.assign (.tmp 14)))⟩])
 .ret)
 .skip)))
 (.seq (.seq (.reg (some [2,3,4]) [⟨some 15,none,.op false (.fieldAddr 0 (.tmp 3))⟩,⟨some 16,none,.op false (.load1 (.int .i64) (.tmp 15))⟩,⟨some 17,none,.op false (.old (.binOp .eql 2 (.tmp 16) (.const (.int .i64 0)) 2))⟩])
 (.cond (.tmp 17) (.seq (.reg (some [4]) [⟨some 18,none,.op false (.build [.int .i64 0,.int .i64 0] [])⟩,⟨none,none,.op false (.store 2 (.tmp 4) (.tmp 18))⟩,⟨some 5,none,.op false (.old (.assign (.const (.int .i64 18))))⟩])
 .ret)
 .skip))
 (.seq (.reg (some [2,3,4]) [⟨some 19,none,.op false (.fieldAddr 1 (.tmp 3))⟩,⟨some 20,none,.op false (.load1 (.int .i64) (.tmp 19))⟩,⟨some 21,none,.op false (.fieldAddr 0 (.tmp 3))⟩,⟨some 22,none,.op false (.load1 (.int .i64) (.tmp 21))⟩,⟨some 23,none,.op false (.build [.int .i64 0,.int .i64 0] [(0,1,(.tmp 20)),(1,1,(.tmp 22))])⟩,⟨some 7,none,.op true (.new 2 [.int .i64 0,.int .i64 0])⟩,⟨none,none,.op false (.store 2 (.tmp 7) (.tmp 23))⟩])
 (.seq (.seq (.reg (some [2,3,4,7]) [⟨some 24,none,.op false (.fieldAddr 0 (.tmp 3))⟩,⟨some 25,none,.op false (.load1 (.int .i64) (.tmp 24))⟩,⟨some 26,none,.op false (.old (.binOp .lss 2 (.tmp 25) (.const (.int .i64 0)) 2))⟩])
 (.cond (.tmp 26) (.reg (some [2,3,4,7]) [⟨some 27,none,.op false (.fieldAddr 1 (.tmp 3))⟩,⟨some 28,none,.op false (.load1 (.int .i64) (.tmp 27))⟩,⟨some 29,none,.op false (.old (.unOp .neg 2 (.tmp 28)))⟩,⟨some 30,none,.op false (.fieldAddr 0 (.tmp 3))⟩,⟨some 31,none,.op false (.load1 (.int .i64) (.tmp 30))⟩,⟨some 32,none,.op false (.old (.unOp .neg 2 (.tmp 31)))⟩,⟨some 33,none,.op false (.build [.int .i64 0,.int .i64 0] [(0,1,(.tmp 29)),(1,1,(.tmp 32))])⟩,⟨none,none,.op false (.store 2 (.tmp 7) (.tmp 33))⟩])
 .skip))
 (.seq (.reg (some [2,4,7]) [⟨some 34,none,.op false (.load 2 [.int .i64,.int .i64] (.tmp 2))⟩,⟨some 35,none,.op false (.load 2 [.int .i64,.int .i64] (.tmp 7))⟩,⟨some 36,none,.call (.func 64) [.tmp 34,.tmp 35] (some (.tup [.agg [.int .i64,.int .i64],.one (.int .i64)]))⟩,⟨some 37,none,.op false (.old (.extract (.tmp 36) 0))⟩,⟨some 38,none,.op false (.old (.extract (.tmp 36) 1))⟩,⟨none,none,.op false (.store 2 (.tmp 4) (.tmp 37))⟩,⟨some 5,none,.op false (.old (.assign (.tmp 38)))⟩])
 .ret))))),
 [.agg 4 2 [.int .i64,.int .i64],.tmp 5],
 [],
 []⟩
theorem r43_ok : resFun (progU ()) hint live 43 Try.f43 = some r43 := by kernel_rfl
def r45 : RFun :=
⟨.seq (.reg (some [0,1]) [⟨some 2,none,.op true (.box 2 (.tmp 0))⟩,⟨some 3,none,.op true (.box 2 (.tmp 1))⟩,⟨some 4,none,.op true (.new 2 [.int .i64 0,.int .i64 0])⟩,⟨some 5,none,.op false (.old (.assign (.const (.int .i64 0))))⟩])
 (.seq (.seq (.reg (some [2,3,4]) [⟨some 6,none,.op false (.load 2 [.int .i64,.int .i64] (.tmp 2))⟩,⟨some 7,none,.op false (.load 2 [.int .i64,.int .i64] (.tmp 3))⟩,⟨some 8,none,.call (.func 66) [.tmp 6,.tmp 7] (some (.val (.one (.int .i64))))⟩,⟨some 9,none,.op false (.old (.binOp .neq 3 (.tmp 8) (.const (.int .i64 0)) 3))⟩])
 (.cond (.tmp 9) (.seq (.reg (some [2,3,4]) [⟨some 10,none,.op false (.build [.int .i64 0,.int .i64 0] [])⟩,⟨some 11,none,.op false (.load 2 [.int .i64,.int .i64] (.tmp 2))⟩,⟨some 12,none,.op false (.load 2 [.int .i64,.int .i64] (.tmp 3))⟩,⟨some 13,none,.call (.func 66) [.tmp 11,.tmp 12] (some (.val (.one (.int .i64))))⟩,⟨none,none,.op false (.store 2 (.tmp 4) (.tmp 10))⟩,⟨some 5,none,.op false (.old (.assign (.tmp 13)))⟩])
 .ret)
 .skip))
 (.seq (.seq (.reg (some [2,3,4]) [⟨some 14,none,.op false (.fieldAddr 0 (.tmp 3))⟩,⟨some 15,none,.op false (.load1 (.int .i64) (.tmp 14))⟩,⟨some 16,none,.op false (.old (.binOp .eql 2 (.tmp 15) (.const (.int .i64 0)) 2))⟩])
 (.cond (.tmp 16) (.seq (.reg (some [4]) [⟨some 17,none,.op false (.build [.int .i64 0,.int .i64 0] [])⟩,⟨none,none,.op false (.store 2 (.tmp 4) (.tmp 17))⟩,⟨some 5,none,.op false (.old (.assign (.const (.int .i64 18))))⟩])
 .ret)
 .skip))
 (.seq (.seq (.reg (some [2,3,4]) [⟨some 18,none,.op false (.fieldAddr 0 (.tmp 3))⟩,⟨some 19,none,.op false (.load1 (.int .i64) (.tmp 18))⟩,⟨some 20,none,.op false (.old (.binOp .lss 2 (.tmp 19) (.const (.int .i64 0)) 2))⟩])
 (.cond (.tmp 20) (.seq (.reg (some [2,3,4]) [⟨some 21,none,.op false (.load 2 [.int .i64,.int .i64] (.tmp 2))⟩,⟨some 22,none,.op false (.fieldAddr 1 (.tmp 3))⟩,⟨some 23,none,.op false (.load1 (.int .i64) (.tmp 22))⟩,⟨some 24,none,.op false (.old (.unOp .neg 2 (.tmp 23)))⟩,⟨some 25,none,.op false (.fieldAddr 0 (.tmp 3))⟩,⟨some 26,none,.op false (.load1 (.int .i64) (.tmp 25))⟩,⟨some 27,none,.op false (.old (.unOp .neg 2 (.tmp 26)))⟩,⟨some 28,none,.op false (.build [.int .i64 0,.int .i64 0] [(0,1,(.tmp 24)),(1,1,(.tmp 27))])⟩,⟨some 29,none,.call (.func 67) [.tmp 21,.tmp 28] (some (.tup [.agg [.int .i64,.int .i64],.one (.int .i64)]))⟩,⟨some 30,none,.op false (.old (.extract (.tmp 29) 0))⟩,⟨some 31,none,.op false (.old (.extract (.tmp 29) 1))⟩,⟨none,none,.op false (.store 2 (.tmp 4) (.tmp 30))⟩,⟨some 5,none,.op false (.old (.assign (.tmp 31)))⟩])
 .ret)
 .skip))
 (.seq (.reg (some [2,3,4]) [⟨some 32,none,.op false (.load 2 [.int .i64,.int .i64] (.tmp 2))⟩,⟨some 33,none,.op false (.fieldAddr 1 (.tmp 3))⟩,⟨some 34,none,.op false (.load1 (.int .i64) (.tmp 33))⟩,⟨some 35,none,.op false (.fieldAddr 0 (.tmp 3))⟩,⟨some 36,none,.op false (.load1 (.int .i64) (.tmp 35))⟩,⟨some 37,none,.op false (.build [.int .i64 0,.int .i64 0] [(0,1,(.tmp 34)),(1,1,(.tmp 36))])⟩,⟨some 38,none,.call (.func 67) [.tmp 32,.tmp 37] (some (.tup [.agg [.int .i64,.int .i64],.one (.int .i64)]))⟩,⟨some 39,none,.op false (.old (.extract (.tmp 38) 0))⟩,⟨some 40,none,.op false (.old (.extract (.tmp 38) 1))⟩,⟨none,none,.op false (.store 2 (.tmp 4) (.tmp 39))⟩,⟨some 5,none,.op false (.old (.assign (.tmp 40)))⟩])
 .ret)))),
 [.agg 4 2 [.int .i64,.int .i64],.tmp 5],
 [],
 []⟩
theorem r45_ok : resFun (progU ()) hint live 45 Try.f45 = some r45 := by kernel_rfl
def r46 : RFun :=
⟨.seq (.reg (some [0,1]) [⟨some 2,none,.op true (.box 2 (.tmp 0))⟩,⟨some 3,none,.op true (.box 2 (.tmp 1))⟩,⟨some 4,none,.op false (.old (.assign (.const (.int .i64 0))))⟩,⟨some 5,none,.op false (.old (.assign (.const (.int .i64 0))))⟩])
 (.seq (.seq (.reg (some [2,3]) [⟨some 6,none,.op false (.load 2 [.int .i64,.int .i64] (.tmp 2))⟩,⟨some 7,none,.op false (.load 2 [.int .i64,.int .i64] (.tmp 3))⟩,⟨some 8,none,.call (.func 66) [.tmp 6,.tmp 7] (some (.val (.one (.int .i64))))⟩,⟨some 9,none,.op false (.old (.binOp .neq 3 (.tmp 8) (.const (.int .i64 0)) 3))⟩])
 (.cond (.tmp 9) (.seq (.reg (some [2,3]) [⟨some 10,none,.op false (.load 2 [.int .i64,.int .i64] (.tmp 2))⟩,⟨some 11,none,.op false (.load 2 [.int .i64,.int .i64] (.tmp 3))⟩,⟨some 12,none,.call (.func 66) [.tmp 10,.tmp 11] (some (.val (.one (.int .i64))))⟩,⟨some 4,none,.op false (.old (.assign (.const (.int .i64 0))))⟩,⟨some 5,none,.op false (.old (.assign (.tmp 12)))⟩])
 .ret)
 .skip))
 (.seq (.seq (.reg (some [2,3]) [⟨some 13,none,.op false (.load 2 [.int .i64,.int .i64] (.tmp 2))⟩,⟨some 14,none,.op false (.load 2 [.int .i64,.int .i64] (.tmp 3))⟩,⟨some 15,none,.op false (.old (.binOp .eql 24 (.tmp 13) (.tmp 14) 24))⟩])
 (.cond (.tmp 15) (.seq (.reg (some []) [⟨some 4,none,.op false (.old (.assign (.const (.int .i64 0))))⟩,⟨some 5,none,.op false (.old (.assign (.const (.int .i64 0))))⟩])
 .ret)
 .skip))
 (.seq (.seq (.reg (some [2,3]) [⟨some 16,none,.op false (.load 2 [.int .i64,.int .i64] (.tmp 2))⟩,⟨some 17,none,.op false (.load 2 [.int .i64,.int .i64] (.tmp 3))⟩,⟨some 18,none,.call (.func 68) [.tmp 16,.tmp 17] (some (.val (.one .bool)))⟩])
 (.cond (.tmp 18) (.seq (.reg (some []) [⟨some 4,none,.op false (.old (.assign (.const (.int .i64 (-1)))))⟩,⟨some 5,none,.op false (.old (.assign (.const (.int .i64 0))))⟩])
 .ret)
 .skip))
 (.seq (.reg (some []) [⟨some 4,none,.op false (.old (.assign (.const (.int .i64 1))))⟩,⟨some 5,none,.op false (.old (.assign (.const (.int .i64 0))))⟩])
 .ret)))),
 [.tmp 4,.tmp 5],
 [],
 []⟩
theorem r46_ok : resFun (progU ()) hint live 46 Try.f46 = some r46 := by kernel_rfl
def r47 : RFun :=
⟨.seq (.reg (some [0,1]) [⟨some 4,none,.op false (.old (.assign (.const (.int .u64 0))))⟩])
 (.seq (.block 0 (.loop 1 (some [0,1]) (some [0,1])))
 (.seq (.reg (some [0]) [⟨some 11,none,.op false (.old (.move (.tmp 0)))⟩,⟨some 4,none,.op false (.old (.assign (.tmp 11)))⟩])
 .ret)),
 [.tmp 4],
 [(1,⟨some [0,1],some [0,1],.seq (.seq (.reg (some [0,1]) [⟨some 5,none,.op false (.old (.move (.tmp 1)))⟩,⟨some 6,none,.op false (.old (.binOp .neq 80 (.tmp 5) (.const (.int .u64 0)) 80))⟩])
 (.cond (.tmp 6) .skip
 (.exit 0 (some [0]))))
 (.block 1 (.draw (some [0,1]) 6 [⟨⟨some 7,none,.op false (.old (.move (.tmp 1)))⟩,0,.none,[4,5],false,true⟩,⟨⟨some 8,none,.op false (.old (.move (.tmp 0)))⟩,1,.none,[3,4,5],false,true⟩,⟨⟨some 9,none,.op false (.old (.move (.tmp 1)))⟩,2,.none,[3,5],false,true⟩,⟨⟨some 10,none,.op false (.old (.binOp .rem 80 (.tmp 8) (.tmp 9) 80))⟩,3,.none,[5],false,true⟩,⟨⟨some 0,none,.op false (.old (.assign (.tmp 7)))⟩,4,.none,[5],false,true⟩,⟨⟨some 1,none,.op false (.old (.assign (.tmp 10)))⟩,5,.none,[],false,true⟩]))⟩)],
 []⟩
theorem r47_ok : resFun (progU ()) hint live 47 Try.f47 = some r47 := by kernel_rfl
def r48 : RFun :=
⟨.seq (.reg (some [0]) [⟨some 2,none,.op false (.old (.assign (.const (.int .u64 0))))⟩])
 (.seq (.seq (.reg (some [0]) [⟨some 3,none,.op false (.old (.move (.tmp 0)))⟩,⟨some 4,none,.op false (.old (.binOp .geq 2 (.tmp 3) (.const (.int .i64 0)) 2))⟩])
 (.cond (.tmp 4) (.seq (.reg (some [0]) [⟨some 5,none,.op false (.old (.move (.tmp 0)))⟩,⟨some 6,none,.op false (.convI .u64 (.tmp 5))⟩,⟨some 2,none,.op false (.old (.assign (.tmp 6)))⟩])
 .ret)
 .skip))
 (.seq (.reg (some [0]) [⟨some 7,none,.op false (.old (.move (.tmp 0)))⟩,⟨some 8,none,.op false (.old (.binOp .add 2 (.tmp 7) (.const (.int .i64 1)) 2))⟩,⟨some 9,none,.op false (.old (.unOp .neg 2 (.tmp 8)))⟩,⟨some 10,none,.op false (.convI .u64 (.tmp 9))⟩,⟨some 11,none,.op false (.old (.binOp .add 80 (.tmp 10) (.const (.int .u64 1)) 80))⟩,⟨some 2,none,.op false (.old (.assign (.tmp 11)))⟩])
 .ret)),
 [.tmp 2],
 [],
 []⟩
theorem r48_ok : resFun (progU ()) hint live 48 Try.f48 = some r48 := by kernel_rfl
def r51 : RFun :=
⟨.seq (.reg (some [0,1,2]) [⟨some 4,none,.op true (.box 4 (.tmp 1))⟩,⟨some 5,none,.op true (.box 4 (.tmp 2))⟩,⟨some 6,none,.op true (.new 2 [.int .i64 0,.int .i64 0])⟩,⟨some 7,none,.op false (.old (.assign (.const (.int .i64 0))))⟩])
 (.seq (.reg (some [0,4,5,6]) [⟨some 13,none,.op false (.load 4 [.int .u64,.int .u64,.int .u64,.int .u64] (.tmp 4))⟩,⟨some 14,none,.call (.func 69) [.tmp 13] (some (.tup [.one (.int .i64),.one .bool]))⟩,⟨some 12,none,.op false (.old (.move (.tmp 14)))⟩,⟨some 15,none,.op false (.old (.extract (.tmp 12) 0))⟩,⟨some 16,none,.op false (.old (.extract (.tmp 12) 1))⟩,⟨some 8,none,.op false (.old (.assign (.tmp 15)))⟩,⟨some 9,none,.op false (.old (.assign (.tmp 16)))⟩])
 (.seq (.reg (some [0,5,6,8,9]) [⟨some 18,none,.op false (.load 4 [.int .u64,.int .u64,.int .u64,.int .u64] (.tmp 5))⟩,⟨some 19,none,.call (.func 69) [.tmp 18] (some (.tup [.one (.int .i64),.one .bool]))⟩,⟨some 17,none,.op false (.old (.move (.tmp 19)))⟩,⟨some 20,none,.op false (.old (.extract (.tmp 17) 0))⟩,⟨some 21,none,.op false (.old (.extract (.tmp 17) 1))⟩,⟨some 10,none,.op false (.old (.assign (.tmp 20)))⟩,⟨some 11,none,.op false (.old (.assign (.tmp 21)))⟩])
 (.seq (.seq (.reg (some [0,6,8,9,10,11]) [⟨some 22,none,.op false (.old (.move (.tmp 9)))⟩,⟨some 23,none,.op false (.old (.unOp .not 4 (.tmp 22)))⟩,⟨some 24,none,.op false (.old (.move (.tmp 23)))⟩,⟨some 25,some (24,false),.op false (.old (.move (.tmp 11)))⟩,⟨some 26,some (24,false),.op false (.old (.unOp .not 4 (.tmp 25)))⟩,⟨some 27,none,.op false (.old (.pick (.tmp 24) (.const (.bool true)) (.tmp 26)))⟩])
 (.cond (.tmp 27) (.seq (.reg (some [6]) [⟨some 28,none,.op false (.build [.int .i64 0,.int .i64 0] [])⟩,⟨none,none,.op false (.store 2 (.tmp 6) (.tmp 28))⟩,⟨some 7,none,.op false (.old (.assign (.const (.int .i64 16))))⟩])
 .ret)
 .skip))
 (.seq (.seq (.reg (some [0,6,8,10]) [⟨some 29,none,.op false (.old (.move (.tmp 0)))⟩])
 (.cond (.tmp 29) (.reg (some [6,8,10]) [⟨some 30,none,.op false (.old (.move (.tmp 8)))⟩,⟨some 31,none,.op false (.old (.unOp .neg 2 (.tmp 30)))⟩,⟨some 8,none,.op false (.old (.assign (.tmp 31)))⟩])
 .skip))
 (.seq (.reg (some [6,8,10]) [⟨some 32,none,.op false (.old (.move (.tmp 8)))⟩,⟨some 33,none,.op false (.old (.move (.tmp 10)))⟩,⟨some 34,none,.op false (.build [.int .i64 0,.int .i64 0] [(0,1,(.tmp 32)),(1,1,(.tmp 33))])⟩,⟨none,none,.op false (.store 2 (.tmp 6) (.tmp 34))⟩,⟨some 7,none,.op false (.old (.assign (.const (.int .i64 0))))⟩])
 .ret))))),
 [.agg 6 2 [.int .i64,.int .i64],.tmp 7],
 [],
 []⟩
theorem r51_ok : resFun (progU ()) hint live 51 Try.f51 = some r51 := by kernel_rfl
def r52 : RFun :=
⟨.seq (.reg (some [0]) [⟨some 2,none,.op true (.new 4 [.int .u64 0,.int .u64 0,.int .u64 0,.int .u64 0])⟩])
 (.seq (.reg (some [0,2]) [⟨some 3,none,.op false (.old (.move (.tmp 0)))⟩,⟨some 4,none,.op false (.old (.binOp .and 80 (.tmp 3) (.const (.int .u64 4294967295)) 80))⟩,⟨some 5,none,.op false (.old (.move (.tmp 0)))⟩,⟨some 6,none,.op false (.old (.binOp .shr 80 (.tmp 5) (.const (.int .u64 32)) 100))⟩,⟨some 7,none,.op false (.build [.int .u64 0,.int .u64 0,.int .u64 0,.int .u64 0] [(0,1,(.tmp 4)),(1,1,(.tmp 6)),(2,1,(.const (.int .u64 0))),(3,1,(.const (.int .u64 0)))])⟩,⟨some 8,none,.op false (.build [.int .u64 0,.int .u64 0,.int .u64 0,.int .u64 0] [(0,4,(.tmp 7))])⟩,⟨none,none,.op false (.store 4 (.tmp 2) (.tmp 8))⟩])
 .ret),
 [.agg 2 4 [.int .u64,.int .u64,.int .u64,.int .u64]],
 [],
 []⟩
theorem r52_ok : resFun (progU ()) hint live 52 Try.f52 = some r52 := by kernel_rfl
def r53 : RFun :=
⟨.seq (.reg (some [0,1]) [⟨some 4,none,.op false (.old (.assign (.const (.int .u64 0))))⟩])
 (.seq (.block 0 (.loop 1 (some [0,1]) (some [0,1])))
 (.seq (.reg (some [0]) [⟨some 11,none,.op false (.old (.move (.tmp 0)))⟩,⟨some 4,none,.op false (.old (.assign (.tmp 11)))⟩])
 .ret)),
 [.tmp 4],
 [(1,⟨some [0,1],some [0,1],.seq (.seq (.reg (some [0,1]) [⟨some 5,none,.op false (.old (.move (.tmp 1)))⟩,⟨some 6,none,.op false (.old (.binOp .neq 80 (.tmp 5) (.const (.int .u64 0)) 80))⟩])
 (.cond (.tmp 6) .skip
 (.exit 0 (some [0]))))
 (.block 1 (.draw (some [0,1]) 6 [⟨⟨some 7,none,.op false (.old (.move (.tmp 1)))⟩,0,.none,[4,5],false,true⟩,⟨⟨some 8,none,.op false (.old (.move (.tmp 0)))⟩,1,.none,[3,4,5],false,true⟩,⟨⟨some 9,none,.op false (.old (.move (.tmp 1)))⟩,2,.none,[3,5],false,true⟩,⟨⟨some 10,none,.op false (.old (.binOp .rem 80 (.tmp 8) (.tmp 9) 80))⟩,3,.none,[5],false,true⟩,⟨⟨some 0,none,.op false (.old (.assign (.tmp 7)))⟩,4,.none,[5],false,true⟩,⟨⟨some 1,none,.op false (.old (.assign (.tmp 10)))⟩,5,.none,[],false,true⟩]))⟩)],
 []⟩
theorem r53_ok : resFun (progU ()) hint live 53 Try.f53 = some r53 := by kernel_rfl
def r54 : RFun :=
⟨.seq (.reg (some [0]) [⟨some 2,none,.op false (.old (.assign (.const (.int .u64 0))))⟩])
 (.seq (.seq (.reg (some [0]) [⟨some 3,none,.op false (.old (.move (.tmp 0)))⟩,⟨some 4,none,.op false (.old (.binOp .lss 2 (.tmp 3) (.const (.int .i64 0)) 2))⟩])
 (.cond (.tmp 4) (.seq (.reg (some [0]) [⟨some 5,none,.op false (.old (.move (.tmp 0)))⟩,⟨some 6,none,.op false (.convI .u64 (.tmp 5))⟩,⟨some 7,none,.op false (.old (.unOp .neg 80 (.tmp 6)))⟩,⟨some 2,none,.op false (.old (.assign (.tmp 7)))⟩])
 .ret)
 .skip))
 (.seq (.reg (some [0]) [⟨some 8,none,.op false (.old (.move (.tmp 0)))⟩,⟨some 9,none,.op false (.convI .u64 (.tmp 8))⟩,⟨some 2,none,.op false (.old (.assign (.tmp 9)))⟩])
 .ret)),
 [.tmp 2],
 [],
 []⟩
theorem r54_ok : resFun (progU ()) hint live 54 Try.f54 = some r54 := by kernel_rfl
def r55 : RFun :=
⟨.seq (.reg (some [0,1]) [⟨some 2,none,.op true (.box 2 (.tmp 0))⟩,⟨some 3,none,.op true (.box 2 (.tmp 1))⟩,⟨some 4,none,.op false (.old (.assign (.const (.int .i64 0))))⟩,⟨some 5,none,.op false (.old (.assign (.const (.int .i64 0))))⟩])
 (.seq (.seq (.reg (some [2,3]) [⟨some 7,none,.op false (.load 2 [.int .i64,.int .i64] (.tmp 2))⟩,⟨some 8,none,.op false (.load 2 [.int .i64,.int .i64] (.tmp 3))⟩,⟨some 9,none,.call (.func 63) [.tmp 7,.tmp 8] (some (.val (.one (.int .i64))))⟩,⟨some 6,none,.op false (.old (.assign (.tmp 9)))⟩])
 (.seq (.reg (some [2,3,6]) [⟨some 10,none,.op false (.old (.move (.tmp 6)))⟩,⟨some 11,none,.op false (.old (.binOp .neq 26 (.tmp 10) (.const (.int .i64 0)) 26))⟩])
 (.cond (.tmp 11) (.seq (.reg (some [6]) [⟨some 12,none,.op false (.old (.move (.tmp 6)))⟩,⟨some 4,none,.op false (.old (.assign (.const (.int .i64 0))))⟩,⟨some 5,none,.op false (.old (.assign (.tmp 12)))⟩])
 .ret)
 .skip)))
 (.seq (.reg (some [2,3]) [⟨some 13,none,.op false (.load 2 [.int .i64,.int .i64] (.tmp 2))⟩,⟨some 14,none,.op false (.load 2 [.int .i64,.int .i64] (.tmp 3))⟩,⟨some 15,none,.call (.func 70) [.tmp 13,.tmp 14] (some (.val (.one (.int .i64))))⟩,⟨some 4,none,.op false (.old (.assign (.tmp 15)))⟩,⟨some 5,none,.op false (.old (.assign (.const (.int .i64 0))))⟩])
 .ret)),
 [.tmp 4,.tmp 5],
 [],
 []⟩
theorem r55_ok : resFun (progU ()) hint live 55 Try.f55 = some r55 := by kernel_rfl
def r56 : RFun :=
⟨.seq (.reg (some [0,1]) [⟨some 2,none,.op true (.box 2 (.tmp 0))⟩,⟨some 3,none,.op true (.box 2 (.tmp 1))⟩,⟨some 4,none,.op true (.new 2 [.int .i64 0,.int .i64 0])⟩,⟨some 5,none,.op false (.old (.assign (.const (.int .i64 0))))⟩])
 (.seq (.seq (.reg (some [2,3,4]) [⟨some 7,none,.op false (.load 2 [.int .i64,.int .i64] (.tmp 2))⟩,⟨some 8,none,.op false (.load 2 [.int .i64,.int .i64] (.tmp 3))⟩,⟨some 9,none,.call (.func 63) [.tmp 7,.tmp 8] (some (.val (.one (.int .i64))))⟩,⟨some 6,none,.op false (.old (.assign (.tmp 9)))⟩])
 (.seq (.reg (some [2,3,4,6]) [⟨some 10,none,.op false (.old (.move (.tmp 6)))⟩,⟨some 11,none,.op false (.old (.binOp .neq 26 (.tmp 10) (.const (.int .i64 0)) 26))⟩])
 (.cond (.tmp 11) (.seq (.reg (some [4,6]) [⟨some 12,none,.op false (.build [.int .i64 0,.int .i64 0] [])⟩,⟨some 13,none,.op false (.old (.move (.tmp 6)))⟩,⟨none,none,.op false (.store 2 (.tmp 4) (.tmp 12))⟩,⟨some 5,none,.op false (.old (.assign (.tmp 13)))⟩])
 .ret)
 .skip)))
 (.seq (.reg (some [2,3,4]) [⟨some 14,none,.op false (.load 2 [.int .i64,.int .i64] (.tmp 2))⟩,⟨some 15,none,.op false (.fieldAddr 0 (.tmp 3))⟩,⟨some 16,none,.op false (.load1 (.int .i64) (.tmp 15))⟩,⟨some 17,none,.op false (.old (.unOp .neg 2 (.tmp 16)))⟩,⟨some 18,none,.op false (.fieldAddr 1 (.tmp 3))⟩,⟨some 19,none,.op false (.load1 (.int .i64) (.tmp 18))⟩,⟨some 20,none,.op false (.build [.int .i64 0,.int .i64 0] [(0,1,(.tmp 17)),(1,1,(.tmp 19))])⟩,⟨some 21,none,.call (.func 71) [.tmp 14,.tmp 20] (some (.tup [.agg [.int .i64,.int .i64],.one (.int .i64)]))⟩,⟨some 22,none,.op false (.old (.extract (.tmp 21) 0))⟩,⟨some 23,none,.op false (.old (.extract (.tmp 21) 1))⟩,⟨none,none,.op false (.store 2 (.tmp 4) (.tmp 22))⟩,⟨some 5,none,.op false (.old (.assign (.tmp 23)))⟩])
 .ret)),
 [.agg 4 2 [.int .i64,.int .i64],.tmp 5],
 [],
 []⟩
theorem r56_ok : resFun (progU ()) hint live 56 Try.f56 = some r56 := by kernel_rfl
def r57 : RFun :=
⟨.seq (.reg (some [0,1]) [⟨some 2,none,.op true (.box 2 (.tmp 0))⟩,⟨some 3,none,.op true (.box 2 (.tmp 1))⟩,⟨some 4,none,.op true (.new 2 [.int .i64 0,.int .i64 0])⟩,⟨some 5,none,.op false (.old (.assign (.const (.int .i64 0))))⟩])
 (.seq (.seq (.reg (some [2,3,4]) [⟨some 7,none,.op false (.load 2 [.int .i64,.int .i64] (.tmp 2))⟩,⟨some 8,none,.op false (.load 2 [.int .i64,.int .i64] (.tmp 3))⟩,⟨some 9,none,.call (.func 63) [.tmp 7,.tmp 8] (some (.val (.one (.int .i64))))⟩,⟨some 6,none,.op false (.old (.assign (.tmp 9)))⟩])
 (.seq (.reg (some [2,3,4,6]) [⟨some 10,none,.op false (.old (.move (.tmp 6)))⟩,⟨some 11,none,.op false (.old (.binOp .neq 26 (.tmp 10) (.const (.int .i64 0)) 26))⟩])
 (.cond (.tmp 11) (.seq (.reg (some [4,6]) [⟨some 12,none,.op false (.build [.int .i64 0,.int .i64 0] [])⟩,⟨some 13,none,.op false (.old (.move (.tmp 6)))⟩,⟨none,none,.op false (.store 2 (.tmp 4) (.tmp 12))⟩,⟨some 5,none,.op false (.old (.assign (.tmp 13)))⟩])
 .ret)
 .skip)))
 (.seq (.reg (some [2,3,4]) [⟨some 14,none,.op false (.load 2 [.int .i64,.int .i64] (.tmp 2))⟩,⟨some 15,none,.op false (.load 2 [.int .i64,.int .i64] (.tmp 3))⟩,⟨some 16,none,.call (.func 64) [.tmp 14,.tmp 15] (some (.tup [.agg [.int .i64,.int .i64],.one (.int .i64)]))⟩,⟨some 17,none,.op false (.old (.extract (.tmp 16) 0))⟩,⟨some 18,none,.op false (.old (.extract (.tmp 16) 1))⟩,⟨none,none,.op false (.store 2 (.tmp 4) (.tmp 17))⟩,⟨some 5,none,.op false (.old (.assign (.tmp 18)))⟩])
 .ret)),
 [.agg 4 2 [.int .i64,.int .i64],.tmp 5],
 [],
 []⟩
theorem r57_ok : resFun (progU ()) hint live 57 Try.f57 = some r57 := by kernel_rfl
def r58 : RFun :=
⟨.seq (.reg (some [0,1]) [⟨some 2,none,.op true (.box 2 (.tmp 0))⟩,⟨some 3,none,.op true (.box 2 (.tmp 1))⟩,⟨some 4,none,.op true (.new 2 [.int .i64 0,.int .i64 0])⟩,⟨some 5,none,.op false (.old (.assign (.const (.int .i64 0))))⟩])
 (.seq (.seq (.reg (some [2,3,4]) [⟨some 7,none,.op false (.load 2 [.int .i64,.int .i64] (.tmp 2))⟩,⟨some 8,none,.op false (.load 2 [.int .i64,.int .i64] (.tmp 3))⟩,⟨some 9,none,.call (.func 63) [.tmp 7,.tmp 8] (some (.val (.one (.int .i64))))⟩,⟨some 6,none,.op false (.old (.assign (.tmp 9)))⟩])
 (.seq (.reg (some [2,3,4,6]) [⟨some 10,none,.op false (.old (.move (.tmp 6)))⟩,⟨some 11,none,.op false (.old (.binOp .neq 26 (.tmp 10) (.const (.int .i64 0)) 26))⟩])
 (.cond (.tmp 11) (.seq (.reg (some [4,6]) [⟨some 12,none,.op false (.build [.int .i64 0,.int .i64 0] [])⟩,⟨some 13,none,.op false (.old (.move (.tmp 6)))⟩,⟨none,none,.op false (.store 2 (.tmp 4) (.tmp 12))⟩,⟨some 5,none,.op false (.old (.assign (.tmp 13)))⟩])
 .ret)
 .skip)))
 (.seq (.reg (some [2,3,4]) [⟨some 14,none,.op false (.load 2 [.int .i64,.int .i64] (.tmp 2))⟩,⟨some 15,none,.op false (.load 2 [.int .i64,.int .i64] (.tmp 3))⟩,⟨some 16,none,.call (.func 71) [.tmp 14,.tmp 15] (some (.tup [.agg [.int .i64,.int .i64],.one (.int .i64)]))⟩,⟨some 17,none,.op false (.old (.extract (.tmp 16) 0))⟩,⟨some 18,none,.op false (.old (.extract (.tmp 16) 1))⟩,⟨none,none,.op false (.store 2 (.tmp 4) (.tmp 17))⟩,⟨some 5,none,.op false (.old (.assign (.tmp 18)))⟩])
 .ret)),
 [.agg 4 2 [.int .i64,.int .i64],.tmp 5],
 [],
 []⟩
theorem r58_ok : resFun (progU ()) hint live 58 Try.f58 = some r58 := by kernel_rfl
def r59 : RFun :=
⟨.seq (.reg (some [0,1,2]) [⟨some 3,none,.op true (.box 4 (.tmp 0))⟩,⟨some 4,none,.op true (.box 4 (.tmp 1))⟩,⟨some 5,none,.op true (.box 2 (.tmp 2))⟩,⟨some 6,none,.op true (.new 2 [.int .i64 0,.int .i64 0])⟩])
 (.seq (.reg (some [3,4,5,6]) [⟨some 20,none,.op false (.fieldAddr 0 (.tmp 4))⟩,⟨some 21,none,.op false (.load 2 [.int .i64,.int .i64] (.tmp 20))⟩,⟨some 22,none,.op false (.load 2 [.int .i64,.int .i64] (.tmp 5))⟩,⟨some 23,none,.call (.func 72) [.tmp 21,.tmp 22] (some (.tup [.agg [.int .i64,.int .i64],.one (.int .i64)]))⟩,⟨some 19,none,.op false (.old (.move (.tmp 23)))⟩,⟨some 24,none,.op false (.old (.extract (.tmp 19) 0))⟩,⟨some 25,none,.op false (.old (.extract (.tmp 19) 1))⟩,⟨some 7,none,.op true (.new 2 [.int .i64 0,.int .i64 0])⟩,⟨none,none,.op false (.store 2 (.tmp 7) (.tmp 24))⟩,⟨some 8,none,.op false (.old (.assign (.tmp 25)))⟩])
 (.seq (.reg (some [3,4,5,6,7]) [⟨some 27,none,.op false (.load 2 [.int .i64,.int .i64] (.tmp 5))⟩,⟨some 28,none,.op false (.fieldAddr 0 (.tmp 3))⟩,⟨some 29,none,.op false (.load 2 [.int .i64,.int .i64] (.tmp 28))⟩,⟨some 30,none,.call (.func 72) [.tmp 27,.tmp 29] (some (.tup [.agg [.int .i64,.int .i64],.one (.int .i64)]))⟩,⟨some 26,none,.op false (.old (.move (.tmp 30)))⟩,⟨some 31,none,.op false (.old (.extract (.tmp 26) 0))⟩,⟨some 32,none,.op false (.old (.extract (.tmp 26) 1))⟩,⟨some 9,none,.op true (.new 2 [.int .i64 0,.int .i64 0])⟩,⟨none,none,.op false (.store 2 (.tmp 9) (.tmp 31))⟩,⟨some 10,none,.op false (.old (.assign (.tmp 32)))⟩])
 (.seq (.reg (some [3,4,6,7,9]) [⟨some 34,none,.op false (.fieldAddr 0 (.tmp 4))⟩,⟨some 35,none,.op false (.load 2 [.int .i64,.int .i64] (.tmp 34))⟩,⟨some 36,none,.op false (.fieldAddr 0 (.tmp 3))⟩,⟨some 37,none,.op false (.load 2 [.int .i64,.int .i64] (.tmp 36))⟩,⟨some 38,none,.call (.func 72) [.tmp 35,.tmp 37] (some (.tup [.agg [.int .i64,.int .i64],.one (.int .i64)]))⟩,⟨some 33,none,.op false (.old (.move (.tmp 38)))⟩,⟨some 39,none,.op false (.old (.extract (.tmp 33) 0))⟩,⟨some 40,none,.op false (.old (.extract (.tmp 33) 1))⟩,⟨some 11,none,.op true (.new 2 [.int .i64 0,.int .i64 0])⟩,⟨none,none,.op false (.store 2 (.tmp 11) (.tmp 39))⟩,⟨some 12,none,.op false (.old (.assign (.tmp 40)))⟩])
 (.seq (.reg (some [3,4,6,7,9,11]) [⟨some 42,none,.op false (.load 2 [.int .i64,.int .i64] (.tmp 7))⟩,⟨some 43,none,.op false (.load 2 [.int .i64,.int .i64] (.tmp 11))⟩,⟨some 44,none,.call (.func 45) [.tmp 42,.tmp 43] (some (.tup [.agg [.int .i64,.int .i64],.one (.int .i64)]))⟩,⟨some 41,none,.op false (.old (.move (.tmp 44)))⟩,⟨some 45,none,.op false (.old (.extract (.tmp 41) 0))⟩,⟨some 46,none,.op false (.old (.extract (.tmp 41) 1))⟩,⟨none,none,.op false (.store 2 (.tmp 7) (.tmp 45))⟩])
 (.seq (.reg (some [3,4,6,7,9,11]) [⟨some 48,none,.op false (.load 2 [.int .i64,.int .i64] (.tmp 9))⟩,⟨some 49,none,.op false (.load 2 [.int .i64,.int .i64] (.tmp 11))⟩,⟨some 50,none,.call (.func 45) [.tmp 48,.tmp 49] (some (.tup [.agg [.int .i64,.int .i64],.one (.int .i64)]))⟩,⟨some 47,none,.op false (.old (.move (.tmp 50)))⟩,⟨some 51,none,.op false (.old (.extract (.tmp 47) 0))⟩,⟨some 52,none,.op false (.old (.extract (.tmp 47) 1))⟩,⟨none,none,.op false (.store 2 (.tmp 9) (.tmp 51))⟩])
 (.seq (.reg (some [3,4,6,7,9]) [⟨some 54,none,.op false (.load 2 [.int .i64,.int .i64] (.tmp 7))⟩,⟨some 55,none,.op false (.fieldAddr 2 (.tmp 3))⟩,⟨some 56,none,.op false (.load 2 [.int .i64,.int .i64] (.tmp 55))⟩,⟨some 57,none,.call (.func 67) [.tmp 54,.tmp 56] (some (.tup [.agg [.int .i64,.int .i64],.one (.int .i64)]))⟩,⟨some 53,none,.op false (.old (.move (.tmp 57)))⟩,⟨some 58,none,.op false (.old (.extract (.tmp 53) 0))⟩,⟨some 59,none,.op false (.old (.extract (.tmp 53) 1))⟩,⟨some 13,none,.op true (.new 2 [.int .i64 0,.int .i64 0])⟩,⟨none,none,.op false (.store 2 (.tmp 13) (.tmp 58))⟩,⟨some 14,none,.op false (.old (.assign (.tmp 59)))⟩])
 (.seq (.reg (some [4,6,9,13]) [⟨some 61,none,.op false (.load 2 [.int .i64,.int .i64] (.tmp 9))⟩,⟨some 62,none,.op false (.fieldAddr 2 (.tmp 4))⟩,⟨some 63,none,.op false (.load 2 [.int .i64,.int .i64] (.tmp 62))⟩,⟨some 64,none,.call (.func 67) [.tmp 61,.tmp 63] (some (.tup [.agg [.int .i64,.int .i64],.one (.int .i64)]))⟩,⟨some 60,none,.op false (.old (.move (.tmp 64)))⟩,⟨some 65,none,.op false (.old (.extract (.tmp 60) 0))⟩,⟨some 66,none,.op false (.old (.extract (.tmp 60) 1))⟩,⟨some 15,none,.op true (.new 2 [.int .i64 0,.int .i64 0])⟩,⟨none,none,.op false (.store 2 (.tmp 15) (.tmp 65))⟩,⟨some 16,none,.op false (.old (.assign (.tmp 66)))⟩])
 (.seq (.reg (some [6,13,15]) [⟨some 68,none,.op false (.load 2 [.int .i64,.int .i64] (.tmp 13))⟩,⟨some 69,none,.op false (.load 2 [.int .i64,.int .i64] (.tmp 15))⟩,⟨some 70,none,.call (.func 73) [.tmp 68,.tmp 69] (some (.tup [.agg [.int .i64,.int .i64],.one (.int .i64)]))⟩,⟨some 67,none,.op false (.old (.move (.tmp 70)))⟩,⟨some 71,none,.op false (.old (.extract (.tmp 67) 0))⟩,⟨some 72,none,.op false (.old (.extract (.tmp 67) 1))⟩,⟨some 17,none,.op true (.new 2 [.int .i64 0,.int .i64 0])⟩,⟨none,none,.op false (.store 2 (.tmp 17) (.tmp 71))⟩,⟨some 18,none,.op false (.old (.assign (.tmp 72)))⟩])
 (.seq (.reg (some [6,17]) [⟨some 73,none,.op false (.load 2 [.int .i64,.int .i64] (.tmp 17))⟩,⟨none,none,.op false (.store 2 (.tmp 6) (.tmp 73))⟩])
 .ret))))))))),
 [.agg 6 2 [.int .i64,.int .i64]],
 [],
 []⟩
theorem r59_ok : resFun (progU ()) hint live 59 Try.f59 = some r59 := by kernel_rfl
def r62 : RFun :=
⟨.seq (.reg (some [0,1,2]) [⟨some 6,none,.op true (.new 2 [.int .i64 0,.int .i64 0])⟩,⟨some 7,none,.op false (.old (.assign (.const (.int .i64 0))))⟩])
 (.seq (.seq (.reg (some [0,1,2,6]) [⟨some 9,none,.op false (.old (.move (.tmp 1)))⟩,⟨some 10,none,.op false (.old (.binOp .gtr 80 (.tmp 9) (.const (.int .u64 1000000000000000000)) 80))⟩,⟨some 11,none,.op false (.old (.move (.tmp 10)))⟩,⟨some 12,some (11,false),.op false (.old (.move (.tmp 2)))⟩,⟨some 13,some (11,false),.op false (.old (.binOp .gtr 80 (.tmp 12) (.const (.int .u64 1000000000000000000)) 80))⟩,⟨some 14,none,.op false (.old (.pick (.tmp 11) (.const (.bool true)) (.tmp 13)))⟩])
 (.cond (.tmp 14) (.seq (.reg (some [6]) [⟨some 15,none,.op false (.build [.int .i64 0,.int .i64 0] [])⟩,⟨none,none,.op false (.store 2 (.tmp 6) (.tmp 15))⟩,⟨some 7,none,.op false (.old (.assign (.const (.int .i64 16))))⟩])
 .ret)
 .skip))
 (.seq (.reg (some [0,1,2,6]) [⟨some 16,none,.op false (.old (.move (.tmp 1)))⟩,⟨some 17,none,.op false (.convI .i64 (.tmp 16))⟩,⟨some 18,none,.op false (.old (.move (.tmp 2)))⟩,⟨some 19,none,.op false (.convI .i64 (.tmp 18))⟩,⟨some 20,none,.op false (.build [.int .i64 0,.int .i64 0] [(0,1,(.tmp 17)),(1,1,(.tmp 19))])⟩,⟨some 8,none,.op true (.new 2 [.int .i64 0,.int .i64 0])⟩,⟨none,none,.op false (.store 2 (.tmp 8) (.tmp 20))⟩])
 (.seq (.seq (.reg (some [0,6,8]) [⟨some 21,none,.op false (.old (.move (.tmp 0)))⟩])
 (.cond (.tmp 21) (.reg (some [6,8]) [⟨some 22,none,.op false (.fieldAddr 0 (.tmp 8))⟩,⟨some 23,none,.op false (.load1 (.int .i64) (.tmp 22))⟩,⟨some 24,none,.op false (.old (.unOp .neg 2 (.tmp 23)))⟩,⟨some 25,none,.op false (.fieldAddr 0 (.tmp 8))⟩,⟨none,none,.op false (.store 1 (.tmp 25) (.tmp 24))⟩])
 .skip))
 (.seq (.reg (some [6,8]) [⟨some 26,none,.op false (.load 2 [.int .i64,.int .i64] (.tmp 8))⟩,⟨none,none,.op false (.store 2 (.tmp 6) (.tmp 26))⟩,⟨some 7,none,.op false (.old (.assign (.const (.int .i64 0))))⟩])
 .ret)))),
 [.agg 6 2 [.int .i64,.int .i64],.tmp 7],
 [],
 []⟩
theorem r62_ok : resFun (progU ()) hint live 62 Try.f62 = some r62 := by kernel_rfl
def r63 : RFun :=
⟨.seq (.reg (some [0,1]) [⟨some 2,none,.op true (.box 2 (.tmp 0))⟩,⟨some 3,none,.op true (.box 2 (.tmp 1))⟩,⟨some 4,none,.op false (.old (.assign (.const (.int .i64 0))))⟩])
 (.seq (.seq (.reg (some [2,3]) [⟨some 6,none,.op false (.load 2 [.int .i64,.int .i64] (.tmp 2))⟩,⟨some 7,none,.call (.func 32) [.tmp 6] (some (.val (.one (.int .i64))))⟩,⟨some 5,none,.op false (.old (.assign (.tmp 7)))⟩])
 (.seq (.reg (some [3,5]) [⟨some 8,none,.op false (.old (.move (.tmp 5)))⟩,⟨some 9,none,.op false (.old (.binOp .neq 26 (.tmp 8) (.const (.int .i64 0)) 26))⟩])
 (.cond (.tmp 9) (.seq (.reg (some [5]) [⟨some 10,none,.op false (.old (.move (.tmp 5)))⟩,⟨some 4,none,.op false (.old (.assign (.tmp 10)))⟩])
 .ret)
 .skip)))
 (.seq (.reg (some [3]) [⟨some 11,none,.op false (.load 2 [.int .i64,.int .i64] (.tmp 3))⟩,⟨some 12,none,.call (.func 32) [.tmp 11] (some (.val (.one (.int .i64))))⟩,⟨some 4,none,.op false (.old (.assign (.tmp 12)))⟩])
 .ret)),
 [.tmp 4],
 [],
 []⟩
theorem r63_ok : resFun (progU ()) hint live 63 Try.f63 = some r63 := by kernel_rfl
def r64 : RFun :=
⟨.seq (.reg (some [0,1]) [⟨some 2,none,.op true (.box 2 (.tmp 0))⟩,⟨some 3,none,.op true (.box 2 (.tmp 1))⟩,⟨some 4,none,.op true (.new 2 [.int .i64 0,.int .i64 0])⟩,⟨some 5,none,.op false (.old (.assign (.const (.int .i64 0))))⟩])
 (.seq (.draw (some [2,3,4]) 16 [⟨⟨some 16,none,.op false (.fieldAddr 0 (.tmp 2))⟩,0,.none,[1,2,5,8,11,12,13,14,15],false,true⟩,⟨⟨some 17,none,.op false (.load1 (.int .i64) (.tmp 16))⟩,1,.blk (.tmp 16),[2,5,8,11,12,13,14,15],false,true⟩,⟨⟨some 19,none,.op false (.fieldAddr 1 (.tmp 2))⟩,3,.none,[4,5,8,11,12,13,14,15],false,true⟩,⟨⟨some 20,none,.op false (.load1 (.int .i64) (.tmp 19))⟩,4,.blk (.tmp 19),[5,8,11,12,13,14,15],false,true⟩,⟨⟨some 22,none,.op false (.fieldAddr 0 (.tmp 3))⟩,6,.none,[7,8,11,12,13,14,15],false,true⟩,⟨⟨some 23,none,.op false (.load1 (.int .i64) (.tmp 22))⟩,7,.blk (.tmp 22),[8,11,12,13,14,15],false,true⟩,⟨⟨some 25,none,.op false (.fieldAddr 1 (.tmp 3))⟩,9,.none,[10,11,12,13,14,15],false,true⟩,⟨⟨some 26,none,.op false (.load1 (.int .i64) (.tmp 25))⟩,10,.blk (.tmp 25),[11,12,13,14,15],false,true⟩,⟨⟨some 18,none,.call (.func 54) [.tmp 17] (some (.val (.one (.int .u64))))⟩,2,.all,[5,8,11,12,13,14,15],false,false⟩,⟨⟨some 21,none,.call (.func 54) [.tmp 20] (some (.val (.one (.int .u64))))⟩,5,.all,[8,11,12,13,14,15],false,false⟩,⟨⟨some 24,none,.call (.func 54) [.tmp 23] (some (.val (.one (.int .u64))))⟩,8,.all,[11,12,13,14,15],false,false⟩,⟨⟨some 27,none,.call (.func 54) [.tmp 26] (some (.val (.one (.int .u64))))⟩,11,.all,[12,13,14,15],false,false⟩,⟨⟨some 6,none,.op false (.old (.assign (.tmp 18)))⟩,12,.none,[13,14,15],false,true⟩,⟨⟨some 7,none,.op false (.old (.assign (.tmp 21)))⟩,13,.none,[14,15],false,true⟩,⟨⟨some 8,none,.op false (.old (.assign (.tmp 24)))⟩,14,.none,[15],false,true⟩,⟨⟨some 9,none,.op false (.old (.assign (.tmp 27)))⟩,15,.none,[],false,true⟩])
 (.seq (.reg (some [2,3,4,6,7,8,9]) [⟨some 28,none,.op false (.old (.move (.tmp 6)))⟩,⟨some 29,none,.op false (.old (.move (.tmp 9)))⟩,⟨some 30,none,.call (.func 53) [.tmp 28,.tmp 29] (some (.val (.one (.int .u64))))⟩,⟨some 31,none,.op false (.old (.move (.tmp 8)))⟩,⟨some 32,none,.op false (.old (.move (.tmp 7)))⟩,⟨some 33,none,.call (.func 53) [.tmp 31,.tmp 32] (some (.val (.one (.int .u64))))⟩,⟨some 10,none,.op false (.old (.assign (.tmp 30)))⟩,⟨some 11,none,.op false (.old (.assign (.tmp 33)))⟩])
 (.seq (.draw (some [2,3,4,6,7,8,9,10,11]) 12 [⟨⟨some 35,none,.op false (.old (.move (.tmp 6)))⟩,0,.none,[2,6,7,8,9,10,11],false,true⟩,⟨⟨some 36,none,.op false (.old (.move (.tmp 10)))⟩,1,.none,[2,6,7,8,9,10,11],false,true⟩,⟨⟨some 37,none,.op false (.old (.binOp .quo 80 (.tmp 35) (.tmp 36) 80))⟩,2,.none,[6,7,8,9,10,11],false,true⟩,⟨⟨some 38,none,.op false (.old (.move (.tmp 8)))⟩,3,.none,[5,6,7,8,9,10,11],false,true⟩,⟨⟨some 39,none,.op false (.old (.move (.tmp 11)))⟩,4,.none,[5,6,7,8,9,10,11],false,true⟩,⟨⟨some 40,none,.op false (.old (.binOp .quo 80 (.tmp 38) (.tmp 39) 80))⟩,5,.none,[6,7,8,9,10,11],false,true⟩,⟨⟨some 41,none,.call (.func 76) [.tmp 37,.tmp 40] (some (.tup [.one (.int .u64),.one (.int .u64)]))⟩,6,.all,[7,8,9,10,11],false,false⟩,⟨⟨some 34,none,.op false (.old (.move (.tmp 41)))⟩,7,.none,[8,9,10,11],false,true⟩,⟨⟨some 42,none,.op false (.old (.extract (.tmp 34) 0))⟩,8,.none,[10,11],false,true⟩,⟨⟨some 43,none,.op false (.old (.extract (.tmp 34) 1))⟩,9,.none,[11],false,true⟩,⟨⟨some 12,none,.op false (.old (.assign (.tmp 42)))⟩,10,.none,[11],false,true⟩,⟨⟨some 13,none,.op false (.old (.assign (.tmp 43)))⟩,11,.none,[],false,true⟩])
 (.seq (.draw (some [2,3,4,7,9,10,11,12,13]) 12 [⟨⟨some 45,none,.op false (.old (.move (.tmp 7)))⟩,0,.none,[2,6,7,8,9,10,11],false,true⟩,⟨⟨some 46,none,.op false (.old (.move (.tmp 11)))⟩,1,.none,[2,6,7,8,9,10,11],false,true⟩,⟨⟨some 47,none,.op false (.old (.binOp .quo 80 (.tmp 45) (.tmp 46) 80))⟩,2,.none,[6,7,8,9,10,11],false,true⟩,⟨⟨some 48,none,.op false (.old (.move (.tmp 9)))⟩,3,.none,[5,6,7,8,9,10,11],false,true⟩,⟨⟨some 49,none,.op false (.old (.move (.tmp 10)))⟩,4,.none,[5,6,7,8,9,10,11],false,true⟩,⟨⟨some 50,none,.op false (.old (.binOp .quo 80 (.tmp 48) (.tmp 49) 80))⟩,5,.none,[6,7,8,9,10,11],false,true⟩,⟨⟨some 51,none,.call (.func 76) [.tmp 47,.tmp 50] (some (.tup [.one (.int .u64),.one (.int .u64)]))⟩,6,.all,[7,8,9,10,11],false,false⟩,⟨⟨some 44,none,.op false (.old (.move (.tmp 51)))⟩,7,.none,[8,9,10,11],false,true⟩,⟨⟨some 52,none,.op false (.old (.extract (.tmp 44) 0))⟩,8,.none,[10,11],false,true⟩,⟨⟨some 53,none,.op false (.old (.extract (.tmp 44) 1))⟩,9,.none,[11],false,true⟩,⟨⟨some 14,none,.op false (.old (.assign (.tmp 52)))⟩,10,.none,[11],false,true⟩,⟨⟨some 15,none,.op false (.old (.assign (.tmp 53)))⟩,11,.none,[],false,true⟩])
 (.seq (.seq (.reg (some [2,3,4,12,13,14,15]) [⟨some 54,none,.op false (.old (.move (.tmp 12)))⟩,⟨some 55,none,.op false (.old (.binOp .neq 80 (.tmp 54) (.const (.int .u64 0)) 80))⟩,⟨some 56,none,.op false (.old (.move (.tmp 55)))⟩,⟨some 57,some (56,false),.op false (.old (.move (.tmp 14)))⟩,⟨some 58,some (56,false),.op false (.old (.binOp .neq 80 (.tmp 57) (.const (.int .u64 0)) 80))⟩,⟨some 59,none,.op false (.old (.pick (.tmp 56) (.const (.bool true)) (.tmp 58)))⟩])
 (.cond (.tmp 59) (.seq (.reg (some [4]) [⟨some 60,none,.op false (.build [.int .i64 0,.int .i64 0] [])⟩,⟨none,none,.op false (.store 2 (.tmp 4) (.tmp 60))⟩,⟨some 5,none,.op false (.old (.assign (.const (.int .i64 16))))⟩])
 .ret)
 .skip))
 (.seq (.reg (some [2,3,4,13,15]) [⟨some 61,none,.op false (.fieldAddr 0 (.tmp 2))⟩,⟨some 62,none,.op false (.load1 (.int .i64) (.tmp 61))⟩,⟨some 63,none,.op false (.old (.binOp .lss 2 (.tmp 62) (.const (.int .i64 0)) 2))⟩,⟨some 64,none,.op false (.fieldAddr 0 (.tmp 3))⟩,⟨some 65,none,.op false (.load1 (.int .i64) (.tmp 64))⟩,⟨some 66,none,.op false (.old (.binOp .lss 2 (.tmp 65) (.const (.int .i64 0)) 2))⟩,⟨some 67,none,.op false (.old (.binOp .neq 4 (.tmp 63) (.tmp 66) 4))⟩,⟨some 68,none,.op false (.old (.move (.tmp 13)))⟩,⟨some 69,none,.op false (.old (.move (.tmp 15)))⟩,⟨some 70,none,.call (.func 62) [.tmp 67,.tmp 68,.tmp 69] (some (.tup [.agg [.int .i64,.int .i64],.one (.int .i64)]))⟩,⟨some 71,none,.op false (.old (.extract (.tmp 70) 0))⟩,⟨some 72,none,.op false (.old (.extract (.tmp 70) 1))⟩,⟨none,none,.op false (.store 2 (.tmp 4) (.tmp 71))⟩,⟨some 5,none,.op false (.old (.assign (.tmp 72)))⟩])
 .ret)))))),
 [.agg 4 2 [.int .i64,.int .i64],.tmp 5],
 [],
 []⟩
theorem r64_ok : resFun (progU ()) hint live 64 Try.f64 = some r64 := by kernel_rfl
def r66 : RFun :=
⟨.seq (.reg (some [0,1]) [⟨some 2,none,.op true (.box 2 (.tmp 0))⟩,⟨some 3,none,.op true (.box 2 (.tmp 1))⟩,⟨some 4,none,.op false (.old (.assign (.const (.int .i64 0))))⟩])
 (.seq (.seq (.reg (some [2,3]) [⟨some 5,none,.op false (.load 2 [.int .i64,.int .i64] (.tmp 2))⟩,⟨some 6,none,.call (.func 28) [.tmp 5] (some (.val (.one (.int .i64))))⟩,⟨some 7,none,.op false (.old (.binOp .neq 3 (.tmp 6) (.const (.int .i64 0)) 3))⟩])
 (.cond (.tmp 7) (.seq (.reg (some [2]) [⟨some 8,none,.op false (.load 2 [.int .i64,.int .i64] (.tmp 2))⟩,⟨some 9,none,.call (.func 28) [.tmp 8] (some (.val (.one (.int .i64))))⟩,⟨some 4,none,.op false (.old (.assign (.tmp 9)))⟩])
 .ret)
 .skip))
 (.seq (.reg (some [3]) [⟨some 10,none,.op false (.load 2 [.int .i64,.int .i64] (.tmp 3))⟩,⟨some 11,none,.call (.func 28) [.tmp 10] (some (.val (.one (.int .i64))))⟩,⟨some 4,none,.op false (.old (.assign (.tmp 11)))⟩])
 .ret)),
 [.tmp 4],
 [],
 []⟩
theorem r66_ok : resFun (progU ()) hint live 66 Try.f66 = some r66 := by kernel_rfl
def r67 : RFun :=
⟨.seq (.reg (some [0,1]) [⟨some 2,none,.op true (.box 2 (.tmp 0))⟩,⟨some 3,none,.op true (.box 2 (.tmp 1))⟩,⟨some 4,none,.op true (.new 2 [.int .i64 0,.int .i64 0])⟩,⟨some 5,none,.op false (.old (.assign (.const (.int .i64 0))))⟩])
 (.seq (.seq (.reg (some [2,3,4]) [⟨some 8,none,.op false (.load 2 [.int .i64,.int .i64] (.tmp 2))⟩,⟨some 9,none,.op false (.load 2 [.int .i64,.int .i64] (.tmp 3))⟩,⟨some 10,none,.call (.func 66) [.tmp 8,.tmp 9] (some (.val (.one (.int .i64))))⟩,⟨some 11,none,.op false (.old (.binOp .neq 3 (.tmp 10) (.const (.int .i64 0)) 3))⟩])
 (.cond (.tmp 11) (.seq (.reg (some [2,3,4]) [⟨some 12,none,.op false (.build [.int .i64 0,.int .i64 0] [])⟩,⟨some 13,none,.op false (.load 2 [.int .i64,.int .i64] (.tmp 2))⟩,⟨some 14,none,.op false (.load 2 [.int .i64,.int .i64] (.tmp 3))⟩,⟨some 15,none,.call (.func 66) [.tmp 13,.tmp 14] (some (.val (.one (.int .i64))))⟩,⟨none,none,.op false (.store 2 (.tmp 4) (.tmp 12))⟩,⟨some 5,none,.op false (.old (.assign (.tmp 15)))⟩])
 .ret)
 .skip))
 (.seq (.draw (some [2,3,4]) 16 [⟨⟨some 16,none,.op false (.fieldAddr 0 (.tmp 2))⟩,0,.none,[1,2,6,9,13,14,15],false,true⟩,⟨⟨some 17,none,.op false (.load1 (.int .i64) (.tmp 16))⟩,1,.blk (.tmp 16),[2,6,9,13,14,15],false,true⟩,⟨⟨some 19,none,.op false (.fieldAddr 1 (.tmp 3))⟩,3,.none,[4,5,6,9,13,14,15],false,true⟩,⟨⟨some 20,none,.op false (.load1 (.int .i64) (.tmp 19))⟩,4,.blk (.tmp 19),[5,6,9,13,14,15],false,true⟩,⟨⟨some 21,none,.op false (.convI .u64 (.tmp 20))⟩,5,.cvt (.tmp 20),[6,9,13,14,15],false,true⟩,⟨⟨some 23,none,.op false (.fieldAddr 0 (.tmp 3))⟩,7,.none,[8,9,13,14,15],false,true⟩,⟨⟨some 24,none,.op false (.load1 (.int .i64) (.tmp 23))⟩,8,.blk (.tmp 23),[9,13,14,15],false,true⟩,⟨⟨some 26,none,.op false (.fieldAddr 1 (.tmp 2))⟩,10,.none,[11,12,13,14,15],false,true⟩,⟨⟨some 27,none,.op false (.load1 (.int .i64) (.tmp 26))⟩,11,.blk (.tmp 26),[12,13,14,15],false,true⟩,⟨⟨some 28,none,.op false (.convI .u64 (.tmp 27))⟩,12,.cvt (.tmp 27),[13,14,15],false,true⟩,⟨⟨some 18,none,.call (.func 48) [.tmp 17] (some (.val (.one (.int .u64))))⟩,2,.all,[6,9,13,14,15],false,false⟩,⟨⟨some 22,none,.call (.func 47) [.tmp 18,.tmp 21] (some (.val (.one (.int .u64))))⟩,6,.all,[9,13,14,15],false,false⟩,⟨⟨some 25,none,.call (.func 48) [.tmp 24] (some (.val (.one (.int .u64))))⟩,9,.all,[13,14,15],false,false⟩,⟨⟨some 29,none,.call (.func 47) [.tmp 25,.tmp 28] (some (.val (.one (.int .u64))))⟩,13,.all,[14,15],false,false⟩,⟨⟨some 6,none,.op false (.old (.assign (.tmp 22)))⟩,14,.none,[15],false,true⟩,⟨⟨some 7,none,.op false (.old (.assign (.tmp 29)))⟩,15,.none,[],false,true⟩])
 (.seq (.draw (some [2,3,4,6,7]) 34 [⟨⟨some 30,none,.op false (.fieldAddr 0 (.tmp 2))⟩,0,.none,[1,2,6,29,30,31,32,33],false,true⟩,⟨⟨some 31,none,.op false (.load1 (.int .i64) (.tmp 30))⟩,1,.blk (.tmp 30),[2,6,29,30,31,32,33],false,true⟩,⟨⟨some 32,none,.op false (.old (.binOp .lss 2 (.tmp 31) (.const (.int .i64 0)) 2))⟩,2,.none,[6,29,30,31,32,33],false,true⟩,⟨⟨some 33,none,.op false (.fieldAddr 0 (.tmp 3))⟩,3,.none,[4,5,6,29,30,31,32,33],false,true⟩,⟨⟨some 34,none,.op false (.load1 (.int .i64) (.tmp 33))⟩,4,.blk (.tmp 33),[5,6,29,30,31,32,33],false,true⟩,⟨⟨some 35,none,.op false (.old (.binOp .lss 2 (.tmp 34) (.const (.int .i64 0)) 2))⟩,5,.none,[6,29,30,31,32,33],false,true⟩,⟨⟨some 36,none,.op false (.old (.binOp .neq 4 (.tmp 32) (.tmp 35) 4))⟩,6,.none,[29,30,31,32,33],false,true⟩,⟨⟨some 37,none,.op false (.fieldAddr 0 (.tmp 2))⟩,7,.none,[8,9,11,14,16,17,28,29,30,31,32,33],false,true⟩,⟨⟨some 38,none,.op false (.load1 (.int .i64) (.tmp 37))⟩,8,.blk (.tmp 37),[9,11,14,16,17,28,29,30,31,32,33],false,true⟩,⟨⟨some 40,none,.op false (.old (.move (.tmp 6)))⟩,10,.none,[11,17,28,29,30,31,32,33],false,true⟩,⟨⟨some 42,none,.op false (.fieldAddr 0 (.tmp 3))⟩,12,.none,[13,14,16,17,28,29,30,31,32,33],false,true⟩,⟨⟨some 43,none,.op false (.load1 (.int .i64) (.tmp 42))⟩,13,.blk (.tmp 42),[14,16,17,28,29,30,31,32,33],false,true⟩,⟨⟨some 45,none,.op false (.old (.move (.tmp 7)))⟩,15,.none,[16,17,28,29,30,31,32,33],false,true⟩,⟨⟨some 48,none,.op false (.fieldAddr 1 (.tmp 2))⟩,18,.none,[19,20,22,28,29,30,31,32,33],false,true⟩,⟨⟨some 49,none,.op false (.load1 (.int .i64) (.tmp 48))⟩,19,.blk (.tmp 48),[20,22,28,29,30,31,32,33],false,true⟩,⟨⟨some 50,none,.op false (.convI .u64 (.tmp 49))⟩,20,.cvt (.tmp 49),[22,28,29,30,31,32,33],false,true⟩,⟨⟨some 51,none,.op false (.old (.move (.tmp 7)))⟩,21,.none,[22,28,29,30,31,32,33],false,true⟩,⟨⟨some 52,none,.op false (.old (.binOp .quo 80 (.tmp 50) (.tmp 51) 80))⟩,22,.none,[28,29,30,31,32,33],false,true⟩,⟨⟨some 53,none,.op false (.fieldAddr 1 (.tmp 3))⟩,23,.none,[24,25,27,28,29,30,31,32,33],false,true⟩,⟨⟨some 54,none,.op false (.load1 (.int .i64) (.tmp 53))⟩,24,.blk (.tmp 53),[25,27,28,29,30,31,32,33],false,true⟩,⟨⟨some 55,none,.op false (.convI .u64 (.tmp 54))⟩,25,.cvt (.tmp 54),[27,28,29,30,31,32,33],false,true⟩,⟨⟨some 56,none,.op false (.old (.move (.tmp 6)))⟩,26,.none,[27,28,29,30,31,32,33],false,true⟩,⟨⟨some 57,none,.op false (.old (.binOp .quo 80 (.tmp 55) (.tmp 56) 80))⟩,27,.none,[28,29,30,31,32,33],false,true⟩,⟨⟨some 39,none,.call (.func 48) [.tmp 38] (some (.val (.one (.int .u64))))⟩,9,.all,[11,14,16,17,28,29,30,31,32,33],false,false⟩,⟨⟨some 41,none,.op false (.old (.binOp .quo 80 (.tmp 39) (.tmp 40) 80))⟩,11,.none,[17,28,29,30,31,32,33],false,true⟩,⟨⟨some 44,none,.call (.func 48) [.tmp 43] (some (.val (.one (.int .u64))))⟩,14,.all,[16,17,28,29,30,31,32,33],false,false⟩,⟨⟨some 46,none,.op false (.old (.binOp .quo 80 (.tmp 44) (.tmp 45) 80))⟩,16,.none,[17,28,29,30,31,32,33],false,true⟩,⟨⟨some 47,none,.call (.func 77) [.tmp 41,.tmp 46] (some (.val (.agg [.int .u64,.int .u64,.int .u64,.int .u64])))⟩,17,.all,[28,29,30,31,32,33],false,false⟩,⟨⟨some 58,none,.call (.func 77) [.tmp 52,.tmp 57] (some (.val (.agg [.int .u64,.int .u64,.int .u64,.int .u64])))⟩,28,.all,[29,30,31,32,33],false,false⟩,⟨⟨some 59,none,.call (.func 51) [.tmp 36,.tmp 47,.tmp 58] (some (.tup [.agg [.int .i64,.int .i64],.one (.int .i64)]))⟩,29,.all,[30,31,32,33],false,false⟩,⟨⟨some 60,none,.op false (.old (.extract (.tmp 59) 0))⟩,30,.none,[32,33],false,true⟩,⟨⟨some 61,none,.op false (.old (.extract (.tmp 59) 1))⟩,31,.none,[32,33],false,true⟩,⟨⟨none,none,.op false (.store 2 (.tmp 4) (.tmp 60))⟩,32,.blk (.tmp 4),[33],true,true⟩,⟨⟨some 5,none,.op false (.old (.assign (.tmp 61)))⟩,33,.none,[],false,true⟩])
 .ret))),
 [.agg 4 2 [.int .i64,.int .i64],.tmp 5],
 [],
 []⟩
theorem r67_ok : resFun (progU ()) hint live 67 Try.f67 = some r67 := by kernel_rfl
def r68 : RFun :=
⟨.seq (.reg (some [0,1]) [⟨some 2,none,.op true (.box 2 (.tmp 0))⟩,⟨some 3,none,.op true (.box 2 (.tmp 1))⟩,⟨some 4,none,.op false (.old (.assign (.const (.bool false))))⟩])
 (.seq (.seq (.reg (some [2,3]) [⟨some 7,none,.op false (.fieldAddr 0 (.tmp 2))⟩,⟨some 8,none,.op false (.load1 (.int .i64) (.tmp 7))⟩,⟨some 9,none,.op false (.old (.binOp .lss 2 (.tmp 8) (.const (.int .i64 0)) 2))⟩,⟨some 10,none,.op false (.fieldAddr 0 (.tmp 3))⟩,⟨some 11,none,.op false (.load1 (.int .i64) (.tmp 10))⟩,⟨some 12,none,.op false (.old (.binOp .lss 2 (.tmp 11) (.const (.int .i64 0)) 2))⟩,⟨some 13,none,.op false (.old (.binOp .neq 4 (.tmp 9) (.tmp 12) 4))⟩])
 (.cond (.tmp 13) (.seq (.reg (some [2]) [⟨some 14,none,.op false (.fieldAddr 0 (.tmp 2))⟩,⟨some 15,none,.op false (.load1 (.int .i64) (.tmp 14))⟩,⟨some 16,none,.op false (.old (.binOp .lss 2 (.tmp 15) (.const (.int .i64 0)) 2))⟩,⟨some 4,none,.op false (.old (.assign (.tmp 16)))⟩])
 .ret)
 .skip))
 (.seq (.draw (some [2,3]) 18 [⟨⟨some 17,none,.op false (.fieldAddr 0 (.tmp 2))⟩,0,.none,[1,2,6,9,13,16,17],false,true⟩,⟨⟨some 18,none,.op false (.load1 (.int .i64) (.tmp 17))⟩,1,.blk (.tmp 17),[2,6,9,13,16,17],false,true⟩,⟨⟨some 20,none,.op false (.fieldAddr 1 (.tmp 3))⟩,3,.none,[4,5,6,9,13,16,17],false,true⟩,⟨⟨some 21,none,.op false (.load1 (.int .i64) (.tmp 20))⟩,4,.blk (.tmp 20),[5,6,9,13,16,17],false,true⟩,⟨⟨some 22,none,.op false (.convI .u64 (.tmp 21))⟩,5,.cvt (.tmp 21),[6,9,13,16,17],false,true⟩,⟨⟨some 24,none,.op false (.fieldAddr 0 (.tmp 3))⟩,7,.none,[8,9,13,16,17],false,true⟩,⟨⟨some 25,none,.op false (.load1 (.int .i64) (.tmp 24))⟩,8,.blk (.tmp 24),[9,13,16,17],false,true⟩,⟨⟨some 27,none,.op false (.fieldAddr 1 (.tmp 2))⟩,10,.none,[11,12,13,16,17],false,true⟩,⟨⟨some 28,none,.op false (.load1 (.int .i64) (.tmp 27))⟩,11,.blk (.tmp 27),[12,13,16,17],false,true⟩,⟨⟨some 29,none,.op false (.convI .u64 (.tmp 28))⟩,12,.cvt (.tmp 28),[13,16,17],false,true⟩,⟨⟨some 5,none,.op true (.new 4 [.int .u64 0,.int .u64 0,.int .u64 0,.int .u64 0])⟩,14,.new true,[16,17],false,true⟩,⟨⟨some 6,none,.op true (.new 4 [.int .u64 0,.int .u64 0,.int .u64 0,.int .u64 0])⟩,15,.new true,[16,17],false,true⟩,⟨⟨some 19,none,.call (.func 48) [.tmp 18] (some (.val (.one (.int .u64))))⟩,2,.all,[6,9,13,16,17],false,false⟩,⟨⟨some 23,none,.call (.func 77) [.tmp 19,.tmp 22] (some (.val (.agg [.int .u64,.int .u64,.int .u64,.int .u64])))⟩,6,.all,[9,13,16,17],false,false⟩,⟨⟨some 26,none,.call (.func 48) [.tmp 25] (some (.val (.one (.int .u64))))⟩,9,.all,[13,16,17],false,false⟩,⟨⟨some 30,none,.call (.func 77) [.tmp 26,.tmp 29] (some (.val (.agg [.int .u64,.int .u64,.int .u64,.int .u64])))⟩,13,.all,[16,17],false,false⟩,⟨⟨none,none,.op false (.store 4 (.tmp 5) (.tmp 23))⟩,16,.blk (.tmp 5),[17],true,true⟩,⟨⟨none,none,.op false (.store 4 (.tmp 6) (.tmp 30))⟩,17,.blk (.tmp 6),[],true,true⟩])
 (.seq (.seq (.reg (some [2,5,6]) [⟨some 31,none,.op false (.fieldAddr 0 (.tmp 2))⟩,⟨some 32,none,.op false (.load1 (.int .i64) (.tmp 31))⟩,⟨some 33,none,.op false (.old (.binOp .lss 2 (.tmp 32) (.const (.int .i64 0)) 2))⟩])
 (.cond (.tmp 33) (.seq (.reg (some [5,6]) [⟨some 34,none,.op false (.load 4 [.int .u64,.int .u64,.int .u64,.int .u64] (.tmp 6))⟩,⟨some 35,none,.op false (.load 4 [.int .u64,.int .u64,.int .u64,.int .u64] (.tmp 5))⟩,⟨some 36,none,.call (.func 78) [.tmp 34,.tmp 35] (some (.val (.one .bool)))⟩,⟨some 4,none,.op false (.old (.assign (.tmp 36)))⟩])
 .ret)
 .skip))
 (.seq (.reg (some [5,6]) [⟨some 37,none,.op false (.load 4 [.int .u64,.int .u64,.int .u64,.int .u64] (.tmp 5))⟩,⟨some 38,none,.op false (.load 4 [.int .u64,.int .u64,.int .u64,.int .u64] (.tmp 6))⟩,⟨some 39,none,.call (.func 78) [.tmp 37,.tmp 38] (some (.val (.one .bool)))⟩,⟨some 4,none,.op false (.old (.assign (.tmp 39)))⟩])
 .ret)))),
 [.tmp 4],
 [],
 []⟩
theorem r68_ok : resFun (progU ()) hint live 68 Try.f68 = some r68 := by kernel_rfl
def r69 : RFun :=
⟨.seq (.reg (some [0]) [⟨some 1,none,.op false (.box 4 (.tmp 0))⟩,⟨some 2,none,.op false (.old (.assign (.const (.int .i64 0))))⟩,⟨some 3,none,.op false (.old (.assign (.const (.bool false))))⟩])
 (.seq (.reg (some [1]) [⟨some 5,none,.op false (.fieldAddr 0 (.tmp 1))⟩,⟨some 6,none,.op false (.ixA 4 1 (.tmp 5) (.const (.int .i64 1)))⟩,⟨some 7,none,.op false (.load1 (.int .u64) (.tmp 6))⟩,⟨some 8,none,.op false (.old (.binOp .shl 80 (.tmp 7) (.const (.int .u64 32)) 100))⟩,⟨some 9,none,.op false (.fieldAddr 0 (.tmp 1))⟩,⟨some 10,none,.op false (.ixA 4 1 (.tmp 9) (.const (.int .i64 0)))⟩,⟨some 11,none,.op false (.load1 (.int .u64) (.tmp 10))⟩,⟨some 12,none,.op false (.old (.binOp .or 80 (.tmp 8) (.tmp 11) 80))⟩,⟨some 4,none,.op false (.old (.assign (.tmp 12)))⟩])
 (.seq (.reg (some [1,4]) [⟨some 13,none,.op false (.old (.move (.tmp 4)))⟩,⟨some 14,none,.op false (.old (.binOp .and 80 (.tmp 13) (.const (.int .u64 9223372036854775807)) 80))⟩,⟨some 15,none,.op false (.convI .i64 (.tmp 14))⟩,⟨some 16,none,.op false (.fieldAddr 0 (.tmp 1))⟩,⟨some 17,none,.op false (.ixA 4 1 (.tmp 16) (.const (.int .i64 2)))⟩,⟨some 18,none,.op false (.load1 (.int .u64) (.tmp 17))⟩,⟨some 19,none,.op false (.old (.binOp .eql 80 (.tmp 18) (.const (.int .u64 0)) 80))⟩,⟨some 20,none,.op false (.old (.move (.tmp 19)))⟩,⟨some 21,some (20,true),.op false (.fieldAddr 0 (.tmp 1))⟩,⟨some 22,some (20,true),.op false (.ixA 4 1 (.tmp 21) (.const (.int .i64 3)))⟩,⟨some 23,some (20,true),.op false (.load1 (.int .u64) (.tmp 22))⟩,⟨some 24,some (20,true),.op false (.old (.binOp .eql 80 (.tmp 23) (.const (.int .u64 0)) 80))⟩,⟨some 25,none,.op false (.old (.pick (.tmp 20) (.tmp 24) (.const (.bool false))))⟩,⟨some 26,none,.op false (.old (.move (.tmp 25)))⟩,⟨some 27,some (26,true),.op false (.old (.move (.tmp 4)))⟩,⟨some 28,some (26,true),.op false (.old (.binOp .leq 80 (.tmp 27) (.const (.int .u64 1000000000000000000)) 80))⟩,⟨some 29,none,.op false (.old (.pick (.tmp 26) (.tmp 28) (.const (.bool false))))⟩,⟨some 2,none,.op false (.old (.assign (.tmp 15)))⟩,⟨some 3,none,.op false (.old (.assign (.tmp 29)))⟩])
 .ret)),
 [.tmp 2,.tmp 3],
 [],
 []⟩
theorem r69_ok : resFun (progU ()) hint live 69 Try.f69 = some r69 := by kernel_rfl
def r70 : RFun :=
⟨.seq (.reg (some [0,1]) [⟨some 2,none,.op true (.box 2 (.tmp 0))⟩,⟨some 3,none,.op true (.box 2 (.tmp 1))⟩,⟨some 4,none,.op false (.old (.assign (.const (.int .i64 0))))⟩])
 (.seq (.block 0 (.seq (.reg (some [2,3]) [⟨some 7,none,.op false (.fieldAddr 0 (.tmp 2))⟩,⟨some 8,none,.op false (.load1 (.int .i64) (.tmp 7))⟩,⟨some 9,none,.op false (.old (.binOp .lss 2 (.tmp 8) (.const (.int .i64 0)) 2))⟩,⟨some 10,none,.op false (.old (.move (.tmp 9)))⟩,⟨some 11,some (10,true),.op false (.fieldAddr 0 (.tmp 3))⟩,⟨some 12,some (10,true),.op false (.load1 (.int .i64) (.tmp 11))⟩,⟨some 13,some (10,true),.op false (.old (.binOp .geq 2 (.tmp 12) (.const (.int .i64 0)) 2))⟩,⟨some 14,none,.op false (.old (.pick (.tmp 10) (.tmp 13) (.const (.bool false))))⟩,⟨some 6,none,.op false (.old (.assign (.tmp 14)))⟩])
 (.cond (.tmp 6) (.seq (.reg (some []) [⟨some 4,none,.op false (.old (.assign (.const (.int .i64 (-1)))))⟩])
 .ret)
 (.seq (.reg (some [2,3]) [⟨some 16,none,.op false (.fieldAddr 0 (.tmp 2))⟩,⟨some 17,none,.op false (.load1 (.int .i64) (.tmp 16))⟩,⟨some 18,none,.op false (.old (.binOp .geq 2 (.tmp 17) (.const (.int .i64 0)) 2))⟩,⟨some 19,none,.op false (.old (.move (.tmp 18)))⟩,⟨some 20,some (19,true),.op false (.fieldAddr 0 (.tmp 3))⟩,⟨some 21,some (19,true),.op false (.load1 (.int .i64) (.tmp 20))⟩,⟨some 22,some (19,true),.op false (.old (.binOp .lss 2 (.tmp 21) (.const (.int .i64 0)) 2))⟩,⟨some 23,none,.op false (.old (.pick (.tmp 19) (.tmp 22) (.const (.bool false))))⟩,⟨some 15,none,.op false (.old (.assign (.tmp 23)))⟩])
 (.cond (.tmp 15) (.seq (.reg (some []) [⟨some 4,none,.op false (.old (.assign (.const (.int .i64 1))))⟩])
 .ret)
 .skip)))))
 (.seq (.draw (some [2,3]) 14 [⟨⟨some 24,none,.op false (.fieldAddr 0 (.tmp 2))⟩,0,.none,[1,2,5,8,11,12,13],false,true⟩,⟨⟨some 25,none,.op false (.load1 (.int .i64) (.tmp 24))⟩,1,.blk (.tmp 24),[2,5,8,11,12,13],false,true⟩,⟨⟨some 27,none,.op false (.fieldAddr 1 (.tmp 3))⟩,3,.none,[4,5,8,11,12,13],false,true⟩,⟨⟨some 28,none,.op false (.load1 (.int .i64) (.tmp 27))⟩,4,.blk (.tmp 27),[5,8,11,12,13],false,true⟩,⟨⟨some 30,none,.op false (.fieldAddr 0 (.tmp 3))⟩,6,.none,[7,8,11,12,13],false,true⟩,⟨⟨some 31,none,.op false (.load1 (.int .i64) (.tmp 30))⟩,7,.blk (.tmp 30),[8,11,12,13],false,true⟩,⟨⟨some 33,none,.op false (.fieldAddr 1 (.tmp 2))⟩,9,.none,[10,11,12,13],false,true⟩,⟨⟨some 34,none,.op false (.load1 (.int .i64) (.tmp 33))⟩,10,.blk (.tmp 33),[11,12,13],false,true⟩,⟨⟨some 26,none,.call (.func 54) [.tmp 25] (some (.val (.one (.int .u64))))⟩,2,.all,[5,8,11,12,13],false,false⟩,⟨⟨some 29,none,.call (.func 54) [.tmp 28] (some (.val (.one (.int .u64))))⟩,5,.all,[8,11,12,13],false,false⟩,⟨⟨some 32,none,.call (.func 54) [.tmp 31] (some (.val (.one (.int .u64))))⟩,8,.all,[11,12,13],false,false⟩,⟨⟨some 35,none,.call (.func 54) [.tmp 34] (some (.val (.one (.int .u64))))⟩,11,.all,[12,13],false,false⟩,⟨⟨some 36,none,.call (.func 79) [.tmp 26,.tmp 29,.tmp 32,.tmp 35] (some (.val (.one (.int .i64))))⟩,12,.all,[13],false,false⟩,⟨⟨some 5,none,.op false (.old (.assign (.tmp 36)))⟩,13,.none,[],false,true⟩])
 (.seq (.seq (.reg (some [2,5]) [⟨some 37,none,.op false (.fieldAddr 0 (.tmp 2))⟩,⟨some 38,none,.op false (.load1 (.int .i64) (.tmp 37))⟩,⟨some 39,none,.op false (.old (.binOp .lss 2 (.tmp 38) (.const (.int .i64 0)) 2))⟩])
 (.cond (.tmp 39) (.seq (.reg (some [5]) [⟨some 40,none,.op false (.old (.move (.tmp 5)))⟩,⟨some 41,none,.op false (.old (.unOp .neg 3 (.tmp 40)))⟩,⟨some 4,none,.op false (.old (.assign (.tmp 41)))⟩])
 .ret)
 .skip))
 (.seq (.reg (some [5]) [⟨some 42,none,.op false (.old (.move (.tmp 5)))⟩,⟨some 4,none,.op false (.old (.assign (.tmp 42)))⟩])
 .ret)))),
 [.tmp 4],
 [],
 []⟩
theorem r70_ok : resFun (progU ()) hint live 70 Try.f70 = some r70 := by kernel_rfl
def r71 : RFun :=
⟨.seq (.reg (some [0,1]) [⟨some 2,none,.op true (.box 2 (.tmp 0))⟩,⟨some 3,none,.op true (.box 2 (.tmp 1))⟩,⟨some 4,none,.op true (.new 2 [.int .i64 0,.int .i64 0])⟩,⟨some 5,none,.op false (.old (.assign (.const (.int .i64 0))))⟩])
 (.seq (.draw (some [2,3,4]) 8 [⟨⟨some 22,none,.op false (.fieldAddr 1 (.tmp 2))⟩,0,.none,[1,2,5,6,7],false,true⟩,⟨⟨some 23,none,.op false (.load1 (.int .i64) (.tmp 22))⟩,1,.blk (.tmp 22),[2,5,6,7],false,true⟩,⟨⟨some 25,none,.op false (.fieldAddr 1 (.tmp 3))⟩,3,.none,[4,5,6,7],false,true⟩,⟨⟨some 26,none,.op false (.load1 (.int .i64) (.tmp 25))⟩,4,.blk (.tmp 25),[5,6,7],false,true⟩,⟨⟨some 24,none,.call (.func 54) [.tmp 23] (some (.val (.one (.int .u64))))⟩,2,.all,[5,6,7],false,false⟩,⟨⟨some 27,none,.call (.func 54) [.tmp 26] (some (.val (.one (.int .u64))))⟩,5,.all,[6,7],false,false⟩,⟨⟨some 6,none,.op false (.old (.assign (.tmp 24)))⟩,6,.none,[7],false,true⟩,⟨⟨some 7,none,.op false (.old (.assign (.tmp 27)))⟩,7,.none,[],false,true⟩])
 (.seq (.reg (some [2,3,4,6,7]) [⟨some 28,none,.op false (.old (.move (.tmp 6)))⟩,⟨some 29,none,.op false (.old (.move (.tmp 7)))⟩,⟨some 30,none,.call (.func 53) [.tmp 28,.tmp 29] (some (.val (.one (.int .u64))))⟩,⟨some 8,none,.op false (.old (.assign (.tmp 30)))⟩])
 (.seq (.draw (some [2,3,4,6,7,8]) 12 [⟨⟨some 32,none,.op false (.fieldAddr 0 (.tmp 2))⟩,0,.none,[1,2,6,7,8,9,10,11],false,true⟩,⟨⟨some 33,none,.op false (.load1 (.int .i64) (.tmp 32))⟩,1,.blk (.tmp 32),[2,6,7,8,9,10,11],false,true⟩,⟨⟨some 35,none,.op false (.old (.move (.tmp 7)))⟩,3,.none,[5,6,7,8,9,10,11],false,true⟩,⟨⟨some 36,none,.op false (.old (.move (.tmp 8)))⟩,4,.none,[5,6,7,8,9,10,11],false,true⟩,⟨⟨some 37,none,.op false (.old (.binOp .quo 80 (.tmp 35) (.tmp 36) 80))⟩,5,.none,[6,7,8,9,10,11],false,true⟩,⟨⟨some 34,none,.call (.func 54) [.tmp 33] (some (.val (.one (.int .u64))))⟩,2,.all,[6,7,8,9,10,11],false,false⟩,⟨⟨some 38,none,.call (.func 76) [.tmp 34,.tmp 37] (some (.tup [.one (.int .u64),.one (.int .u64)]))⟩,6,.all,[7,8,9,10,11],false,false⟩,⟨⟨some 31,none,.op false (.old (.move (.tmp 38)))⟩,7,.none,[8,9,10,11],false,true⟩,⟨⟨some 39,none,.op false (.old (.extract (.tmp 31) 0))⟩,8,.none,[10,11],false,true⟩,⟨⟨some 40,none,.op false (.old (.extract (.tmp 31) 1))⟩,9,.none,[11],false,true⟩,⟨⟨some 9,none,.op false (.old (.assign (.tmp 39)))⟩,10,.none,[11],false,true⟩,⟨⟨some 10,none,.op false (.old (.assign (.tmp 40)))⟩,11,.none,[],false,true⟩])
 (.seq (.draw (some [2,3,4,6,7,8,9,10]) 12 [⟨⟨some 42,none,.op false (.fieldAddr 0 (.tmp 3))⟩,0,.none,[1,2,6,7,8,9,10,11],false,true⟩,⟨⟨some 43,none,.op false (.load1 (.int .i64) (.tmp 42))⟩,1,.blk (.tmp 42),[2,6,7,8,9,10,11],false,true⟩,⟨⟨some 45,none,.op false (.old (.move (.tmp 6)))⟩,3,.none,[5,6,7,8,9,10,11],false,true⟩,⟨⟨some 46,none,.op false (.old (.move (.tmp 8)))⟩,4,.none,[5,6,7,8,9,10,11],false,true⟩,⟨⟨some 47,none,.op false (.old (.binOp .quo 80 (.tmp 45) (.tmp 46) 80))⟩,5,.none,[6,7,8,9,10,11],false,true⟩,⟨⟨some 44,none,.call (.func 54) [.tmp 43] (some (.val (.one (.int .u64))))⟩,2,.all,[6,7,8,9,10,11],false,false⟩,⟨⟨some 48,none,.call (.func 76) [.tmp 44,.tmp 47] (some (.tup [.one (.int .u64),.one (.int .u64)]))⟩,6,.all,[7,8,9,10,11],false,false⟩,⟨⟨some 41,none,.op false (.old (.move (.tmp 48)))⟩,7,.none,[8,9,10,11],false,true⟩,⟨⟨some 49,none,.op false (.old (.extract (.tmp 41) 0))⟩,8,.none,[10,11],false,true⟩,⟨⟨some 50,none,.op false (.old (.extract (.tmp 41) 1))⟩,9,.none,[11],false,true⟩,⟨⟨some 11,none,.op false (.old (.assign (.tmp 49)))⟩,10,.none,[11],false,true⟩,⟨⟨some 12,none,.op false (.old (.assign (.tmp 50)))⟩,11,.none,[],false,true⟩])
 (.seq (.reg (some [2,3,4,6,7,8,9,10,11,12]) [⟨some 51,none,.op false (.fieldAddr 0 (.tmp 2))⟩,⟨some 52,none,.op false (.load1 (.int .i64) (.tmp 51))⟩,⟨some 53,none,.op false (.old (.binOp .lss 2 (.tmp 52) (.const (.int .i64 0)) 2))⟩,⟨some 13,none,.op false (.old (.assign (.tmp 53)))⟩])
 (.seq (.reg (some [2,3,4,6,7,8,9,10,11,12,13]) [⟨some 14,none,.op false (.old (.assign (.const (.int .u64 0))))⟩,⟨some 15,none,.op false (.old (.assign (.const (.int .u64 0))))⟩,⟨some 16,none,.op false (.old (.assign (.const (.int .u64 0))))⟩])
 (.seq (.block 0 (.seq (.reg (some [2,3,4,6,7,8,9,10,11,12,13]) [⟨some 71,none,.op false (.fieldAddr 0 (.tmp 2))⟩,⟨some 72,none,.op false (.load1 (.int .i64) (.tmp 71))⟩,⟨some 73,none,.op false (.old (.binOp .lss 2 (.tmp 72) (.const (.int .i64 0)) 2))⟩,⟨some 74,none,.op false (.fieldAddr 0 (.tmp 3))⟩,⟨some 75,none,.op false (.load1 (.int .i64) (.tmp 74))⟩,⟨some 76,none,.op false (.old (.binOp .lss 2 (.tmp 75) (.const (.int .i64 0)) 2))⟩,⟨some 77,none,.op false (.old (.binOp .eql 4 (.tmp 73) (.tmp 76) 4))⟩,⟨some 70,none,.op false (.old (.assign (.tmp 77)))⟩])
 (.cond (.tmp 70) (.seq (.reg (some [4,6,7,8,9,10,11,12,13]) [⟨some 79,none,.op false (.old (.move (.tmp 10)))⟩,⟨some 80,none,.op false (.old (.move (.tmp 12)))⟩,⟨some 81,none,.call (.func 80) [.tmp 79,.tmp 80,.const (.int .u64 0)] (some (.tup [.one (.int .u64),.one (.int .u64)]))⟩,⟨some 78,none,.op false (.old (.move (.tmp 81)))⟩,⟨some 82,none,.op false (.old (.extract (.tmp 78) 0))⟩,⟨some 83,none,.op false (.old (.extract (.tmp 78) 1))⟩,⟨some 15,none,.op false (.old (.assign (.tmp 82)))⟩,⟨some 16,none,.op false (.old (.assign (.tmp 83)))⟩])
 (.reg (some [4,6,7,8,9,11,13,15,16]) [⟨some 85,none,.op false (.old (.move (.tmp 9)))⟩,⟨some 86,none,.op false (.old (.move (.tmp 11)))⟩,⟨some 87,none,.op false (.old (.move (.tmp 16)))⟩,⟨some 88,none,.call (.func 80) [.tmp 85,.tmp 86,.tmp 87] (some (.tup [.one (.int .u64),.one (.int .u64)]))⟩,⟨some 84,none,.op false (.old (.move (.tmp 88)))⟩,⟨some 89,none,.op false (.old (.extract (.tmp 84) 0))⟩,⟨some 90,none,.op false (.old (.extract (.tmp 84) 1))⟩,⟨some 14,none,.op false (.old (.assign (.tmp 89)))⟩]))
 (.seq (.reg (some [3,4,6,7,8,9,10,11,12,13]) [⟨some 92,none,.op false (.old (.move (.tmp 9)))⟩,⟨some 93,none,.op false (.old (.move (.tmp 10)))⟩,⟨some 94,none,.op false (.old (.move (.tmp 11)))⟩,⟨some 95,none,.op false (.old (.move (.tmp 12)))⟩,⟨some 96,none,.call (.func 81) [.tmp 92,.tmp 93,.tmp 94,.tmp 95] (some (.val (.one (.int .i64))))⟩,⟨some 97,none,.op false (.old (.binOp .geq 3 (.tmp 96) (.const (.int .i64 0)) 3))⟩,⟨some 91,none,.op false (.old (.assign (.tmp 97)))⟩])
 (.cond (.tmp 91) (.seq (.reg (some [4,6,7,8,9,10,11,12,13]) [⟨some 99,none,.op false (.old (.move (.tmp 10)))⟩,⟨some 100,none,.op false (.old (.move (.tmp 12)))⟩,⟨some 101,none,.call (.func 82) [.tmp 99,.tmp 100,.const (.int .u64 0)] (some (.tup [.one (.int .u64),.one (.int .u64)]))⟩,⟨some 98,none,.op false (.old (.move (.tmp 101)))⟩,⟨some 102,none,.op false (.old (.extract (.tmp 98) 0))⟩,⟨some 103,none,.op false (.old (.extract (.tmp 98) 1))⟩,⟨some 15,none,.op false (.old (.assign (.tmp 102)))⟩,⟨some 16,none,.op false (.old (.assign (.tmp 103)))⟩])
 (.reg (some [4,6,7,8,9,11,13,15,16]) [⟨some 105,none,.op false (.old (.move (.tmp 9)))⟩,⟨some 106,none,.op false (.old (.move (.tmp 11)))⟩,⟨some 107,none,.op false (.old (.move (.tmp 16)))⟩,⟨some 108,none,.call (.func 82) [.tmp 105,.tmp 106,.tmp 107] (some (.tup [.one (.int .u64),.one (.int .u64)]))⟩,⟨some 104,none,.op false (.old (.move (.tmp 108)))⟩,⟨some 109,none,.op false (.old (.extract (.tmp 104) 0))⟩,⟨some 110,none,.op false (.old (.extract (.tmp 104) 1))⟩,⟨some 14,none,.op false (.old (.assign (.tmp 109)))⟩]))
 (.seq (.reg (some [3,4,6,7,8,9,10,11,12]) [⟨some 54,none,.op false (.fieldAddr 0 (.tmp 3))⟩,⟨some 55,none,.op false (.load1 (.int .i64) (.tmp 54))⟩,⟨some 56,none,.op false (.old (.binOp .lss 2 (.tmp 55) (.const (.int .i64 0)) 2))⟩,⟨some 13,none,.op false (.old (.assign (.tmp 56)))⟩])
 (.seq (.reg (some [4,6,7,8,9,10,11,12,13]) [⟨some 58,none,.op false (.old (.move (.tmp 12)))⟩,⟨some 59,none,.op false (.old (.move (.tmp 10)))⟩,⟨some 60,none,.call (.func 82) [.tmp 58,.tmp 59,.const (.int .u64 0)] (some (.tup [.one (.int .u64),.one (.int .u64)]))⟩,⟨some 57,none,.op false (.old (.move (.tmp 60)))⟩,⟨some 61,none,.op false (.old (.extract (.tmp 57) 0))⟩,⟨some 62,none,.op false (.old (.extract (.tmp 57) 1))⟩,⟨some 15,none,.op false (.old (.assign (.tmp 61)))⟩,⟨some 16,none,.op false (.old (.assign (.tmp 62)))⟩])
 (.reg (some [4,6,7,8,9,11,13,15,16]) [⟨some 64,none,.op false (.old (.move (.tmp 11)))⟩,⟨some 65,none,.op false (.old (.move (.tmp 9)))⟩,⟨some 66,none,.op false (.old (.move (.tmp 16)))⟩,⟨some 67,none,.call (.func 82) [.tmp 64,.tmp 65,.tmp 66] (some (.tup [.one (.int .u64),.one (.int .u64)]))⟩,⟨some 63,none,.op false (.old (.move (.tmp 67)))⟩,⟨some 68,none,.op false (.old (.extract (.tmp 63) 0))⟩,⟨some 69,none,.op false (.old (.extract (.tmp 63) 1))⟩,⟨some 14,none,.op false (.old (.assign (.tmp 68)))⟩]))))))))
 (.seq (.reg (some [4,6,7,8,13,14,15]) [⟨some 111,none,.op false (.old (.move (.tmp 8)))⟩,⟨some 112,none,.op false (.old (.move (.tmp 14)))⟩,⟨some 113,none,.op false (.old (.move (.tmp 15)))⟩,⟨some 114,none,.op false (.old (.move (.tmp 8)))⟩,⟨some 115,none,.call (.func 83) [.tmp 112,.tmp 113,.tmp 114] (some (.val (.one (.int .u64))))⟩,⟨some 116,none,.call (.func 53) [.tmp 111,.tmp 115] (some (.val (.one (.int .u64))))⟩,⟨some 17,none,.op false (.old (.assign (.tmp 116)))⟩])
 (.seq (.seq (.reg (some [4,6,7,8,13,14,15,17]) [⟨some 117,none,.op false (.old (.move (.tmp 14)))⟩,⟨some 118,none,.op false (.old (.move (.tmp 17)))⟩,⟨some 119,none,.op false (.old (.binOp .geq 80 (.tmp 117) (.tmp 118) 80))⟩])
 (.cond (.tmp 119) (.seq (.reg (some [4]) [⟨some 120,none,.op false (.build [.int .i64 0,.int .i64 0] [])⟩,⟨none,none,.op false (.store 2 (.tmp 4) (.tmp 120))⟩,⟨some 5,none,.op false (.old (.assign (.const (.int .i64 16))))⟩])
 .ret)
 .skip))
 (.seq (.reg (some [4,6,7,8,13,14,15,17]) [⟨some 122,none,.op false (.old (.move (.tmp 14)))⟩,⟨some 123,none,.op false (.old (.move (.tmp 15)))⟩,⟨some 124,none,.op false (.old (.move (.tmp 17)))⟩,⟨some 125,none,.call (.func 84) [.tmp 122,.tmp 123,.tmp 124] (some (.tup [.one (.int .u64),.one (.int .u64)]))⟩,⟨some 121,none,.op false (.old (.move (.tmp 125)))⟩,⟨some 126,none,.op false (.old (.extract (.tmp 121) 0))⟩,⟨some 127,none,.op false (.old (.extract (.tmp 121) 1))⟩,⟨some 18,none,.op false (.old (.assign (.tmp 126)))⟩,⟨some 19,none,.op false (.old (.assign (.tmp 127)))⟩])
 (.seq (.draw (some [4,6,7,8,13,17,18]) 12 [⟨⟨some 129,none,.op false (.old (.move (.tmp 6)))⟩,0,.none,[2,6,7,8,9,10,11],false,true⟩,⟨⟨some 130,none,.op false (.old (.move (.tmp 8)))⟩,1,.none,[2,6,7,8,9,10,11],false,true⟩,⟨⟨some 131,none,.op false (.old (.binOp .quo 80 (.tmp 129) (.tmp 130) 80))⟩,2,.none,[6,7,8,9,10,11],false,true⟩,⟨⟨some 132,none,.op false (.old (.move (.tmp 7)))⟩,3,.none,[5,6,7,8,9,10,11],false,true⟩,⟨⟨some 133,none,.op false (.old (.move (.tmp 17)))⟩,4,.none,[5,6,7,8,9,10,11],false,true⟩,⟨⟨some 134,none,.op false (.old (.binOp .quo 80 (.tmp 132) (.tmp 133) 80))⟩,5,.none,[6,7,8,9,10,11],false,true⟩,⟨⟨some 135,none,.call (.func 76) [.tmp 131,.tmp 134] (some (.tup [.one (.int .u64),.one (.int .u64)]))⟩,6,.all,[7,8,9,10,11],false,false⟩,⟨⟨some 128,none,.op false (.old (.move (.tmp 135)))⟩,7,.none,[8,9,10,11],false,true⟩,⟨⟨some 136,none,.op false (.old (.extract (.tmp 128) 0))⟩,8,.none,[10,11],false,true⟩,⟨⟨some 137,none,.op false (.old (.extract (.tmp 128) 1))⟩,9,.none,[11],false,true⟩,⟨⟨some 20,none,.op false (.old (.assign (.tmp 136)))⟩,10,.none,[11],false,true⟩,⟨⟨some 21,none,.op false (.old (.assign (.tmp 137)))⟩,11,.none,[],false,true⟩])
 (.seq (.seq (.reg (some [4,13,18,20,21]) [⟨some 138,none,.op false (.old (.move (.tmp 20)))⟩,⟨some 139,none,.op false (.old (.binOp .neq 80 (.tmp 138) (.const (.int .u64 0)) 80))⟩])
 (.cond (.tmp 139) (.seq (.reg (some [4]) [⟨some 140,none,.op false (.build [.int .i64 0,.int .i64 0] [])⟩,⟨none,none,.op false (.store 2 (.tmp 4) (.tmp 140))⟩,⟨some 5,none,.op false (.old (.assign (.const (.int .i64 16))))⟩])
 .ret)
 .skip))
 (.seq (.reg (some [4,13,18,21]) [⟨some 141,none,.op false (.old (.move (.tmp 13)))⟩,⟨some 142,none,.op false (.old (.move (.tmp 18)))⟩,⟨some 143,none,.op false (.old (.move (.tmp 21)))⟩,⟨some 144,none,.call (.func 62) [.tmp 141,.tmp 142,.tmp 143] (some (.tup [.agg [.int .i64,.int .i64],.one (.int .i64)]))⟩,⟨some 145,none,.op false (.old (.extract (.tmp 144) 0))⟩,⟨some 146,none,.op false (.old (.extract (.tmp 144) 1))⟩,⟨none,none,.op false (.store 2 (.tmp 4) (.tmp 145))⟩,⟨some 5,none,.op false (.old (.assign (.tmp 146)))⟩])
 .ret))))))))))))),
 [.agg 4 2 [.int .i64,.int .i64],.tmp 5],
 [],
 []⟩
theorem r71_ok : resFun (progU ()) hint live 71 Try.f71 = some r71 := by kernel_rfl
def r72 : RFun :=
⟨.seq (.reg (some [0,1]) [⟨some 2,none,.op true (.box 2 (.tmp 0))⟩,⟨some 3,none,.op true (.box 2 (.tmp 1))⟩,⟨some 4,none,.op true (.new 2 [.int .i64 0,.int .i64 0])⟩,⟨some 5,none,.op false (.old (.assign (.const (.int .i64 0))))⟩])
 (.seq (.seq (.reg (some [2,3,4]) [⟨some 6,none,.op false (.load 2 [.int .i64,.int .i64] (.tmp 2))⟩,⟨some 7,none,.op false (.load 2 [.int .i64,.int .i64] (.tmp 3))⟩,⟨some 8,none,.call (.func 66) [.tmp 6,.tmp 7] (some (.val (.one (.int .i64))))⟩,⟨some 9,none,.op false (.old (.binOp .neq 3 (.tmp 8) (.const (.int .i64 0)) 3))⟩])
 (.cond (.tmp 9) (.seq (.reg (some [2,3,4]) [⟨some 10,none,.op false (.build [.int .i64 0,.int .i64 0] [])⟩,⟨some 11,none,.op false (.load 2 [.int .i64,.int .i64] (.tmp 2))⟩,⟨some 12,none,.op false (.load 2 [.int .i64,.int .i64] (.tmp 3))⟩,⟨some 13,none,.call (.func 66) [.tmp 11,.tmp 12] (some (.val (.one (.int .i64))))⟩,⟨none,none,.op false (.store 2 (.tmp 4) (.tmp 10))⟩,⟨some 5,none,.op false (.old (.assign (.tmp 13)))⟩])
 .ret)
 .skip))
 (.seq (.draw (some [2,3,4]) 8 [⟨⟨some 14,none,.op false (.load 2 [.int .i64,.int .i64] (.tmp 2))⟩,0,.blk (.tmp 2),[3,4,5,6,7],false,true⟩,⟨⟨some 15,none,.op false (.load 2 [.int .i64,.int .i64] (.tmp 3))⟩,1,.blk (.tmp 3),[2,3,4,5,6,7],false,true⟩,⟨⟨some 16,none,.call (.func 85) [.tmp 15] (some (.val (.agg [.int .i64,.int .i64])))⟩,2,.all,[3,4,5,6,7],false,false⟩,⟨⟨some 17,none,.call (.func 73) [.tmp 14,.tmp 16] (some (.tup [.agg [.int .i64,.int .i64],.one (.int .i64)]))⟩,3,.all,[4,5,6,7],false,false⟩,⟨⟨some 18,none,.op false (.old (.extract (.tmp 17) 0))⟩,4,.none,[6,7],false,true⟩,⟨⟨some 19,none,.op false (.old (.extract (.tmp 17) 1))⟩,5,.none,[6,7],false,true⟩,⟨⟨none,none,.op false (.store 2 (.tmp 4) (.tmp 18))⟩,6,.blk (.tmp 4),[7],true,true⟩,⟨⟨some 5,none,.op false (.old (.assign (.tmp 19)))⟩,7,.none,[],false,true⟩])
 .ret)),
 [.agg 4 2 [.int .i64,.int .i64],.tmp 5],
 [],
 []⟩
theorem r72_ok : resFun (progU ()) hint live 72 Try.f72 = some r72 := by kernel_rfl
def r73 : RFun :=
⟨.seq (.reg (some [0,1]) [⟨some 2,none,.op true (.box 2 (.tmp 0))⟩,⟨some 3,none,.op true (.box 2 (.tmp 1))⟩,⟨some 4,none,.op true (.new 2 [.int .i64 0,.int .i64 0])⟩,⟨some 5,none,.op false (.old (.assign (.const (.int .i64 0))))⟩])
 (.seq (.seq (.reg (some [2,3,4]) [⟨some 12,none,.op false (.load 2 [.int .i64,.int .i64] (.tmp 2))⟩,⟨some 13,none,.op false (.load 2 [.int .i64,.int .i64] (.tmp 3))⟩,⟨some 14,none,.call (.func 66) [.tmp 12,.tmp 13] (some (.val (.one (.int .i64))))⟩,⟨some 15,none,.op false (.old (.binOp .neq 3 (.tmp 14) (.const (.int .i64 0)) 3))⟩])
 (.cond (.tmp 15) (.seq (.reg (some [2,3,4]) [⟨some 16,none,.op false (.build [.int .i64 0,.int .i64 0] [])⟩,⟨some 17,none,.op false (.load 2 [.int .i64,.int .i64] (.tmp 2))⟩,⟨some 18,none,.op false (.load 2 [.int .i64,.int .i64] (.tmp 3))⟩,⟨some 19,none,.call (.func 66) [.tmp 17,.tmp 18] (some (.val (.one (.int .i64))))⟩,⟨none,none,.op false (.store 2 (.tmp 4) (.tmp 16))⟩,⟨some 5,none,.op false (.old (.assign (.tmp 19)))⟩])
 .ret)
 .skip))
 (.seq (.reg (some [2,3,4]) [⟨some 20,none,.op false (.fieldAddr 1 (.tmp 2))⟩,⟨some 21,none,.op false (.load1 (.int .i64) (.tmp 20))⟩,⟨some 22,none,.op false (.convI .u64 (.tmp 21))⟩,⟨some 23,none,.op false (.fieldAddr 1 (.tmp 3))⟩,⟨some 24,none,.op false (.load1 (.int .i64) (.tmp 23))⟩,⟨some 25,none,.op false (.convI .u64 (.tmp 24))⟩,⟨some 26,none,.call (.func 47) [.tmp 22,.tmp 25] (some (.val (.one (.int .u64))))⟩,⟨some 6,none,.op false (.old (.assign (.tmp 26)))⟩])
 (.seq (.draw (some [2,3,4,6]) 22 [⟨⟨some 27,none,.op false (.fieldAddr 0 (.tmp 2))⟩,0,.none,[1,2,8,11,17,20,21],false,true⟩,⟨⟨some 28,none,.op false (.load1 (.int .i64) (.tmp 27))⟩,1,.blk (.tmp 27),[2,8,11,17,20,21],false,true⟩,⟨⟨some 30,none,.op false (.fieldAddr 1 (.tmp 3))⟩,3,.none,[4,5,7,8,11,17,20,21],false,true⟩,⟨⟨some 31,none,.op false (.load1 (.int .i64) (.tmp 30))⟩,4,.blk (.tmp 30),[5,7,8,11,17,20,21],false,true⟩,⟨⟨some 32,none,.op false (.convI .u64 (.tmp 31))⟩,5,.cvt (.tmp 31),[7,8,11,17,20,21],false,true⟩,⟨⟨some 33,none,.op false (.old (.move (.tmp 6)))⟩,6,.none,[7,8,11,17,20,21],false,true⟩,⟨⟨some 34,none,.op false (.old (.binOp .quo 80 (.tmp 32) (.tmp 33) 80))⟩,7,.none,[8,11,17,20,21],false,true⟩,⟨⟨some 36,none,.op false (.fieldAddr 0 (.tmp 3))⟩,9,.none,[10,11,17,20,21],false,true⟩,⟨⟨some 37,none,.op false (.load1 (.int .i64) (.tmp 36))⟩,10,.blk (.tmp 36),[11,17,20,21],false,true⟩,⟨⟨some 39,none,.op false (.fieldAddr 1 (.tmp 2))⟩,12,.none,[13,14,16,17,20,21],false,true⟩,⟨⟨some 40,none,.op false (.load1 (.int .i64) (.tmp 39))⟩,13,.blk (.tmp 39),[14,16,17,20,21],false,true⟩,⟨⟨some 41,none,.op false (.convI .u64 (.tmp 40))⟩,14,.cvt (.tmp 40),[16,17,20,21],false,true⟩,⟨⟨some 42,none,.op false (.old (.move (.tmp 6)))⟩,15,.none,[16,17,20,21],false,true⟩,⟨⟨some 43,none,.op false (.old (.binOp .quo 80 (.tmp 41) (.tmp 42) 80))⟩,16,.none,[17,20,21],false,true⟩,⟨⟨some 7,none,.op true (.new 4 [.int .u64 0,.int .u64 0,.int .u64 0,.int .u64 0])⟩,18,.new true,[20,21],false,true⟩,⟨⟨some 8,none,.op true (.new 4 [.int .u64 0,.int .u64 0,.int .u64 0,.int .u64 0])⟩,19,.new true,[20,21],false,true⟩,⟨⟨some 29,none,.call (.func 48) [.tmp 28] (some (.val (.one (.int .u64))))⟩,2,.all,[8,11,17,20,21],false,false⟩,⟨⟨some 35,none,.call (.func 77) [.tmp 29,.tmp 34] (some (.val (.agg [.int .u64,.int .u64,.int .u64,.int .u64])))⟩,8,.all,[11,17,20,21],false,false⟩,⟨⟨some 38,none,.call (.func 48) [.tmp 37] (some (.val (.one (.int .u64))))⟩,11,.all,[17,20,21],false,false⟩,⟨⟨some 44,none,.call (.func 77) [.tmp 38,.tmp 43] (some (.val (.agg [.int .u64,.int .u64,.int .u64,.int .u64])))⟩,17,.all,[20,21],false,false⟩,⟨⟨none,none,.op false (.store 4 (.tmp 7) (.tmp 35))⟩,20,.blk (.tmp 7),[21],true,true⟩,⟨⟨none,none,.op false (.store 4 (.tmp 8) (.tmp 44))⟩,21,.blk (.tmp 8),[],true,true⟩])
 (.seq (.seq (.reg (some [2,3,4,6,7,8]) [⟨some 45,none,.op false (.fieldAddr 0 (.tmp 2))⟩,⟨some 46,none,.op false (.load1 (.int .i64) (.tmp 45))⟩,⟨some 47,none,.op false (.old (.binOp .lss 2 (.tmp 46) (.const (.int .i64 0)) 2))⟩,⟨some 48,none,.op false (.fieldAddr 0 (.tmp 3))⟩,⟨some 49,none,.op false (.load1 (.int .i64) (.tmp 48))⟩,⟨some 50,none,.op false (.old (.binOp .lss 2 (.tmp 49) (.const (.int .i64 0)) 2))⟩,⟨some 51,none,.op false (.old (.binOp .eql 4 (.tmp 47) (.tmp 50) 4))⟩])
 (.cond (.tmp 51) (.reg (some [2,3,4,6,7,8]) [⟨some 52,none,.op false (.load 4 [.int .u64,.int .u64,.int .u64,.int .u64] (.tmp 7))⟩,⟨some 53,none,.op false (.load 4 [.int .u64,.int .u64,.int .u64,.int .u64] (.tmp 8))⟩,⟨some 54,none,.call (.func 86) [.tmp 52,.tmp 53] (some (.val (.agg [.int .u64,.int .u64,.int .u64,.int .u64])))⟩,⟨none,none,.op false (.store 4 (.tmp 7) (.tmp 54))⟩])
 (.seq (.reg (some [2,3,4,6,7,8]) [⟨some 55,none,.op false (.load 4 [.int .u64,.int .u64,.int .u64,.int .u64] (.tmp 7))⟩,⟨some 56,none,.op false (.load 4 [.int .u64,.int .u64,.int .u64,.int .u64] (.tmp 8))⟩,⟨some 57,none,.call (.func 78) [.tmp 55,.tmp 56] (some (.val (.one .bool)))⟩])
 (.cond (.tmp 57) (.draw (some [2,3,4,6,7,8]) 8 [⟨⟨some 58,none,.op false (.load 4 [.int .u64,.int .u64,.int .u64,.int .u64] (.tmp 8))⟩,0,.blk (.tmp 8),[2,5,6,7],false,true⟩,⟨⟨some 59,none,.op false (.load 4 [.int .u64,.int .u64,.int .u64,.int .u64] (.tmp 7))⟩,1,.blk (.tmp 7),[2,5,6,7],false,true⟩,⟨⟨some 61,none,.op false (.load 2 [.int .i64,.int .i64] (.tmp 3))⟩,3,.blk (.tmp 3),[6,7],false,true⟩,⟨⟨some 62,none,.op false (.load 2 [.int .i64,.int .i64] (.tmp 2))⟩,4,.blk (.tmp 2),[5,6,7],false,true⟩,⟨⟨some 60,none,.call (.func 87) [.tmp 58,.tmp 59] (some (.val (.agg [.int .u64,.int .u64,.int .u64,.int .u64])))⟩,2,.all,[5,6,7],false,false⟩,⟨⟨none,none,.op false (.store 4 (.tmp 7) (.tmp 60))⟩,5,.blk (.tmp 7),[6,7],true,true⟩,⟨⟨none,none,.op false (.store 2 (.tmp 2) (.tmp 61))⟩,6,.blk (.tmp 2),[7],true,true⟩,⟨⟨none,none,.op false (.store 2 (.tmp 3) (.tmp 62))⟩,7,.blk (.tmp 3),[],true,true⟩])
 (.reg (some [2,3,4,6,7,8]) [⟨some 63,none,.op false (.load 4 [.int .u64,.int .u64,.int .u64,.int .u64] (.tmp 7))⟩,⟨some 64,none,.op false (.load 4 [.int .u64,.int .u64,.int .u64,.int .u64] (.tmp 8))⟩,⟨some 65,none,.call (.func 87) [.tmp 63,.tmp 64] (some (.val (.agg [.int .u64,.int .u64,.int .u64,.int .u64])))⟩,⟨none,none,.op false (.store 4 (.tmp 7) (.tmp 65))⟩])))))
 (.seq (.reg (some [2,3,4,6,7]) [⟨some 67,none,.op false (.load 4 [.int .u64,.int .u64,.int .u64,.int .u64] (.tmp 7))⟩,⟨some 68,none,.op false (.old (.move (.tmp 6)))⟩,⟨some 69,none,.call (.func 88) [.tmp 67,.tmp 68] (some (.tup [.agg [.int .u64,.int .u64,.int .u64,.int .u64],.one (.int .u64)]))⟩,⟨some 66,none,.op false (.old (.move (.tmp 69)))⟩,⟨some 70,none,.op false (.old (.extract (.tmp 66) 0))⟩,⟨some 71,none,.op false (.old (.extract (.tmp 66) 1))⟩,⟨some 9,none,.op true (.new 4 [.int .u64 0,.int .u64 0,.int .u64 0,.int .u64 0])⟩,⟨none,none,.op false (.store 4 (.tmp 9) (.tmp 70))⟩,⟨some 10,none,.op false (.old (.assign (.tmp 71)))⟩])
 (.seq (.reg (some [2,3,4,6,7,10]) [⟨some 72,none,.op false (.old (.move (.tmp 10)))⟩,⟨some 73,none,.op false (.old (.move (.tmp 6)))⟩,⟨some 74,none,.call (.func 47) [.tmp 72,.tmp 73] (some (.val (.one (.int .u64))))⟩,⟨some 11,none,.op false (.old (.assign (.tmp 74)))⟩])
 (.seq (.reg (some [2,3,4,6,7,11]) [⟨some 76,none,.op false (.load 4 [.int .u64,.int .u64,.int .u64,.int .u64] (.tmp 7))⟩,⟨some 77,none,.op false (.old (.move (.tmp 11)))⟩,⟨some 78,none,.call (.func 88) [.tmp 76,.tmp 77] (some (.tup [.agg [.int .u64,.int .u64,.int .u64,.int .u64],.one (.int .u64)]))⟩,⟨some 75,none,.op false (.old (.move (.tmp 78)))⟩,⟨some 79,none,.op false (.old (.extract (.tmp 75) 0))⟩,⟨some 80,none,.op false (.old (.extract (.tmp 75) 1))⟩,⟨none,none,.op false (.store 4 (.tmp 7) (.tmp 79))⟩])
 (.seq (.seq (.reg (some [2,3,4,6,7,11]) [⟨some 81,none,.op false (.load 4 [.int .u64,.int .u64,.int .u64,.int .u64] (.tmp 7))⟩,⟨some 82,none,.op false (.build [.int .u64 0,.int .u64 0,.int .u64 0,.int .u64 0] [])⟩,⟨some 83,none,.op false (.old (.binOp .eql 88 (.tmp 81) (.tmp 82) 88))⟩])
 (.cond (.tmp 83) (.seq (.reg (some [4]) [⟨some 84,none,.op false (.build [.int .i64 0,.int .i64 0] [(1,1,(.const (.int .i64 1)))])⟩,⟨none,none,.op false (.store 2 (.tmp 4) (.tmp 84))⟩,⟨some 5,none,.op false (.old (.assign (.const (.int .i64 0))))⟩])
 .ret)
 .skip))
 (.seq (.draw (some [2,3,4,6,7,11]) 20 [⟨⟨some 85,none,.op false (.fieldAddr 0 (.tmp 2))⟩,0,.none,[1,2,15,16,17,18,19],false,true⟩,⟨⟨some 86,none,.op false (.load1 (.int .i64) (.tmp 85))⟩,1,.blk (.tmp 85),[2,15,16,17,18,19],false,true⟩,⟨⟨some 87,none,.op false (.old (.binOp .lss 2 (.tmp 86) (.const (.int .i64 0)) 2))⟩,2,.none,[15,16,17,18,19],false,true⟩,⟨⟨some 88,none,.op false (.load 4 [.int .u64,.int .u64,.int .u64,.int .u64] (.tmp 7))⟩,3,.blk (.tmp 7),[15,16,17,18,19],false,true⟩,⟨⟨some 89,none,.op false (.fieldAddr 1 (.tmp 2))⟩,4,.none,[5,6,8,14,15,16,17,18,19],false,true⟩,⟨⟨some 90,none,.op false (.load1 (.int .i64) (.tmp 89))⟩,5,.blk (.tmp 89),[6,8,14,15,16,17,18,19],false,true⟩,⟨⟨some 91,none,.op false (.convI .u64 (.tmp 90))⟩,6,.cvt (.tmp 90),[8,14,15,16,17,18,19],false,true⟩,⟨⟨some 92,none,.op false (.old (.move (.tmp 6)))⟩,7,.none,[8,14,15,16,17,18,19],false,true⟩,⟨⟨some 93,none,.op false (.old (.binOp .quo 80 (.tmp 91) (.tmp 92) 80))⟩,8,.none,[14,15,16,17,18,19],false,true⟩,⟨⟨some 94,none,.op false (.fieldAddr 1 (.tmp 3))⟩,9,.none,[10,11,13,14,15,16,17,18,19],false,true⟩,⟨⟨some 95,none,.op false (.load1 (.int .i64) (.tmp 94))⟩,10,.blk (.tmp 94),[11,13,14,15,16,17,18,19],false,true⟩,⟨⟨some 96,none,.op false (.convI .u64 (.tmp 95))⟩,11,.cvt (.tmp 95),[13,14,15,16,17,18,19],false,true⟩,⟨⟨some 97,none,.op false (.old (.move (.tmp 11)))⟩,12,.none,[13,14,15,16,17,18,19],false,true⟩,⟨⟨some 98,none,.op false (.old (.binOp .quo 80 (.tmp 96) (.tmp 97) 80))⟩,13,.none,[14,15,16,17,18,19],false,true⟩,⟨⟨some 99,none,.call (.func 77) [.tmp 93,.tmp 98] (some (.val (.agg [.int .u64,.int .u64,.int .u64,.int .u64])))⟩,14,.all,[15,16,17,18,19],false,false⟩,⟨⟨some 100,none,.call (.func 51) [.tmp 87,.tmp 88,.tmp 99] (some (.tup [.agg [.int .i64,.int .i64],.one (.int .i64)]))⟩,15,.all,[16,17,18,19],false,false⟩,⟨⟨some 101,none,.op false (.old (.extract (.tmp 100) 0))⟩,16,.none,[18,19],false,true⟩,⟨⟨some 102,none,.op false (.old (.extract (.tmp 100) 1))⟩,17,.none,[18,19],false,true⟩,⟨⟨none,none,.op false (.store 2 (.tmp 4) (.tmp 101))⟩,18,.blk (.tmp 4),[19],true,true⟩,⟨⟨some 5,none,.op false (.old (.assign (.tmp 102)))⟩,19,.none,[],false,true⟩])
 .ret))))))))),
 [.agg 4 2 [.int .i64,.int .i64],.tmp 5],
 [],
 []⟩
theorem r73_ok : resFun (progU ()) hint live 73 Try.f73 = some r73 := by kernel_rfl
def r76 : RFun :=
⟨.seq (.reg (some [0,1]) [⟨some 4,none,.op false (.old (.assign (.const (.int .u64 0))))⟩,⟨some 5,none,.op false (.old (.assign (.const (.int .u64 0))))⟩])
 (.seq (.reg (some [0,1]) [⟨some 14,none,.op false (.old (.move (.tmp 0)))⟩,⟨some 15,none,.op false (.old (.binOp .and 80 (.tmp 14) (.const (.int .u64 4294967295)) 80))⟩,⟨some 6,none,.op false (.old (.assign (.tmp 15)))⟩])
 (.seq (.reg (some [0,1,6]) [⟨some 16,none,.op false (.old (.move (.tmp 0)))⟩,⟨some 17,none,.op false (.old (.binOp .shr 80 (.tmp 16) (.const (.int .u64 32)) 100))⟩,⟨some 7,none,.op false (.old (.assign (.tmp 17)))⟩])
 (.seq (.reg (some [0,1,6,7]) [⟨some 18,none,.op false (.old (.move (.tmp 1)))⟩,⟨some 19,none,.op false (.old (.binOp .and 80 (.tmp 18) (.const (.int .u64 4294967295)) 80))⟩,⟨some 8,none,.op false (.old (.assign (.tmp 19)))⟩])
 (.seq (.reg (some [0,1,6,7,8]) [⟨some 20,none,.op false (.old (.move (.tmp 1)))⟩,⟨some 21,none,.op false (.old (.binOp .shr 80 (.tmp 20) (.const (.int .u64 32)) 100))⟩,⟨some 9,none,.op false (.old (.assign (.tmp 21)))⟩])
 (.seq (.reg (some [0,1,6,7,8,9]) [⟨some 22,none,.op false (.old (.move (.tmp 6)))⟩,⟨some 23,none,.op false (.old (.move (.tmp 8)))⟩,⟨some 24,none,.op false (.old (.binOp .mul 80 (.tmp 22) (.tmp 23) 80))⟩,⟨some 10,none,.op false (.old (.assign (.tmp 24)))⟩])
 (.seq (.reg (some [0,1,6,7,8,9,10]) [⟨some 25,none,.op false (.old (.move (.tmp 7)))⟩,⟨some 26,none,.op false (.old (.move (.tmp 8)))⟩,⟨some 27,none,.op false (.old (.binOp .mul 80 (.tmp 25) (.tmp 26) 80))⟩,⟨some 28,none,.op false (.old (.move (.tmp 10)))⟩,⟨some 29,none,.op false (.old (.binOp .shr 80 (.tmp 28) (.const (.int .u64 32)) 100))⟩,⟨some 30,none,.op false (.old (.binOp .add 80 (.tmp 27) (.tmp 29) 80))⟩,⟨some 11,none,.op false (.old (.assign (.tmp 30)))⟩])
 (.seq (.reg (some [0,1,6,7,9,11]) [⟨some 31,none,.op false (.old (.move (.tmp 11)))⟩,⟨some 32,none,.op false (.old (.binOp .and 80 (.tmp 31) (.const (.int .u64 4294967295)) 80))⟩,⟨some 12,none,.op false (.old (.assign (.tmp 32)))⟩])
 (.seq (.reg (some [0,1,6,7,9,11,12]) [⟨some 33,none,.op false (.old (.move (.tmp 11)))⟩,⟨some 34,none,.op false (.old (.binOp .shr 80 (.tmp 33) (.const (.int .u64 32)) 100))⟩,⟨some 13,none,.op false (.old (.assign (.tmp 34)))⟩])
 (.seq (.reg (some [0,1,6,7,9,12,13]) [⟨some 35,none,.op false (.old (.move (.tmp 12)))⟩,⟨some 36,none,.op false (.old (.move (.tmp 6)))⟩,⟨some 37,none,.op false (.old (.move (.tmp 9)))⟩,⟨some 38,none,.op false (.old (.binOp .mul 80 (.tmp 36) (.tmp 37) 80))⟩,⟨some 39,none,.op false (.old (.binOp .add 80 (.tmp 35) (.tmp 38) 80))⟩,⟨some 12,none,.op false (.old (.assign (.tmp 39)))⟩])
 (.seq (.reg (some [0,1,7,9,12,13]) [⟨some 40,none,.op false (.old (.move (.tmp 7)))⟩,⟨some 41,none,.op false (.old (.move (.tmp 9)))⟩,⟨some 42,none,.op false (.old (.binOp .mul 80 (.tmp 40) (.tmp 41) 80))⟩,⟨some 43,none,.op false (.old (.move (.tmp 13)))⟩,⟨some 44,none,.op false (.old (.binOp .add 80 (.tmp 42) (.tmp 43) 80))⟩,⟨some 45,none,.op false (.old (.move (.tmp 12)))⟩,⟨some 46,none,.op false (.old (.binOp .shr 80 (.tmp 45) (.const (.int .u64 32)) 100))⟩,⟨some 47,none,.op false (.old (.binOp .add 80 (.tmp 44) (.tmp 46) 80))⟩,⟨some 4,none,.op false (.old (.assign (.tmp 47)))⟩])
 (.seq (.reg (some [0,1,4]) [⟨some 48,none,.op false (.old (.move (.tmp 0)))⟩,⟨some 49,none,.op false (.old (.move (.tmp 1)))⟩,⟨some 50,none,.op false (.old (.binOp .mul 80 (.tmp 48) (.tmp 49) 80))⟩,⟨some 5,none,.op false (.old (.assign (.tmp 50)))⟩])
 .ret))))))))))),
 [.tmp 4,.tmp 5],
 [],
 []⟩
theorem r76_ok : resFun (progU ()) hint live 76 Try.f76 = some r76 := by kernel_rfl
def r77 : RFun :=
⟨.seq (.reg (some [0,1]) [⟨some 4,none,.op true (.new 4 [.int .u64 0,.int .u64 0,.int .u64 0,.int .u64 0])⟩])
 (.seq (.reg (some [0,1,4]) [⟨some 11,none,.op false (.old (.move (.tmp 0)))⟩,⟨some 12,none,.call (.func 52) [.tmp 11] (some (.val (.agg [.int .u64,.int .u64,.int .u64,.int .u64])))⟩,⟨some 13,none,.op false (.old (.move (.tmp 1)))⟩,⟨some 14,none,.call (.func 52) [.tmp 13] (some (.val (.agg [.int .u64,.int .u64,.int .u64,.int .u64])))⟩,⟨some 5,none,.op false (.new 4 [.int .u64 0,.int .u64 0,.int .u64 0,.int .u64 0])⟩,⟨some 6,none,.op false (.new 4 [.int .u64 0,.int .u64 0,.int .u64 0,.int .u64 0])⟩,⟨none,none,.op false (.store 4 (.tmp 5) (.tmp 12))⟩,⟨none,none,.op false (.store 4 (.tmp 6) (.tmp 14))⟩])
 (.seq (.reg (some [4,5,6]) [⟨some 15,none,.op false (.build [.int .u64 0,.int .u64 0,.int .u64 0,.int .u64 0] [])⟩,⟨some 7,none,.op false (.new 4 [.int .u64 0,.int .u64 0,.int .u64 0,.int .u64 0])⟩,⟨none,none,.op false (.store 4 (.tmp 7) (.tmp 15))⟩])
 (.seq (.seq (.reg (some [4,5,6,7]) [⟨some 8,none,.op false (.old (.assign (.const (.int .i64 0))))⟩])
 (.block 0 (.loop 4 (some [4,5,6,7,8]) (some [4,5,6,7,8]))))
 (.seq (.reg (some [4,7]) [⟨some 60,none,.op false (.load 4 [.int .u64,.int .u64,.int .u64,.int .u64] (.tmp 7))⟩,⟨none,none,.op false (.store 4 (.tmp 4) (.tmp 60))⟩])
 .ret)))),
 [.agg 4 4 [.int .u64,.int .u64,.int .u64,.int .u64]],
 [(4,⟨some [4,5,6,7,8],some [4,5,6,7,8],.seq (.seq (.reg (some [4,5,6,7,8]) [⟨some 16,none,.op false (.old (.move (.tmp 8)))⟩,⟨some 17,none,.op false (.old (.binOp .lss 3 (.tmp 16) (.const (.int .i64 2)) 3))⟩])
 (.cond (.tmp 17) .skip
 (.exit 0 (some [4,7]))))
 (.seq (.block 1 (.seq (.reg (some [4,5,6,7,8]) [⟨some 9,none,.op false (.old (.assign (.const (.int .u64 0))))⟩])
 (.seq (.seq (.reg (some [4,5,6,7,8,9]) [⟨some 10,none,.op false (.old (.assign (.const (.int .i64 0))))⟩])
 (.block 2 (.loop 8 (some [4,5,6,7,8,9,10]) (some [4,5,6,7,8,9,10]))))
 (.reg (some [4,5,6,7,8,9]) [⟨some 51,none,.op false (.old (.move (.tmp 8)))⟩,⟨some 52,none,.op false (.old (.binOp .add 3 (.tmp 51) (.const (.int .i64 2)) 3))⟩,⟨some 53,none,.op false (.fieldAddr 0 (.tmp 7))⟩,⟨some 54,none,.op false (.ixA 4 1 (.tmp 53) (.tmp 52))⟩,⟨some 55,none,.op false (.load1 (.int .u64) (.tmp 54))⟩,⟨some 56,none,.op false (.old (.move (.tmp 9)))⟩,⟨some 57,none,.op false (.old (.binOp .add 80 (.tmp 55) (.tmp 56) 80))⟩,⟨some 58,none,.op false (.fieldAddr 0 (.tmp 7))⟩,⟨some 59,none,.op false (.ixA 4 1 (.tmp 58) (.tmp 52))⟩,⟨none,none,.op false (.store 1 (.tmp 59) (.tmp 57))⟩]))))
 (.reg (some [4,5,6,7,8]) [⟨some 18,none,.op false (.old (.move (.tmp 8)))⟩,⟨some 19,none,.op false (.old (.binOp .add 3 (.tmp 18) (.const (.int .i64 1)) 3))⟩,⟨some 8,none,.op false (.old (.assign (.tmp 19)))⟩]))⟩),(8,⟨some [4,5,6,7,8,9,10],some [4,5,6,7,8,9,10],.seq (.seq (.reg (some [4,5,6,7,8,9,10]) [⟨some 20,none,.op false (.old (.move (.tmp 10)))⟩,⟨some 21,none,.op false (.old (.binOp .lss 3 (.tmp 20) (.const (.int .i64 2)) 3))⟩])
 (.cond (.tmp 21) .skip
 (.exit 2 (some [4,5,6,7,8,9]))))
 (.seq (.block 3 (.seq (.draw (some [4,5,6,7,8,9,10]) 19 [⟨⟨some 24,none,.op false (.old (.move (.tmp 9)))⟩,0,.none,[17,18],false,true⟩,⟨⟨some 25,none,.op false (.old (.move (.tmp 8)))⟩,1,.none,[3,5,6,16,17,18],false,true⟩,⟨⟨some 26,none,.op false (.old (.move (.tmp 10)))⟩,2,.none,[3,5,6,16,17,18],false,true⟩,⟨⟨some 27,none,.op false (.old (.binOp .add 3 (.tmp 25) (.tmp 26) 3))⟩,3,.none,[5,6,16,17,18],false,true⟩,⟨⟨some 28,none,.op false (.fieldAddr 0 (.tmp 7))⟩,4,.none,[5,6,16,17,18],false,true⟩,⟨⟨some 29,none,.op false (.ixA 4 1 (.tmp 28) (.tmp 27))⟩,5,.none,[6,16,17,18],false,true⟩,⟨⟨some 30,none,.op false (.load1 (.int .u64) (.tmp 29))⟩,6,.blk (.tmp 29),[16,17,18],false,true⟩,⟨⟨some 31,none,.op false (.old (.move (.tmp 8)))⟩,7,.none,[9,10,15,16,17,18],false,true⟩,⟨⟨some 32,none,.op false (.fieldAddr 0 (.tmp 5))⟩,8,.none,[9,10,15,16,17,18],false,true⟩,⟨⟨some 33,none,.op false (.ixA 4 1 (.tmp 32) (.tmp 31))⟩,9,.none,[10,15,16,17,18],false,true⟩,⟨⟨some 34,none,.op false (.load1 (.int .u64) (.tmp 33))⟩,10,.blk (.tmp 33),[15,16,17,18],false,true⟩,⟨⟨some 35,none,.op false (.old (.move (.tmp 10)))⟩,11,.none,[13,14,15,16,17,18],false,true⟩,⟨⟨some 36,none,.op false (.fieldAddr 0 (.tmp 6))⟩,12,.none,[13,14,15,16,17,18],false,true⟩,⟨⟨some 37,none,.op false (.ixA 4 1 (.tmp 36) (.tmp 35))⟩,13,.none,[14,15,16,17,18],false,true⟩,⟨⟨some 38,none,.op false (.load1 (.int .u64) (.tmp 37))⟩,14,.blk (.tmp 37),[15,16,17,18],false,true⟩,⟨⟨some 39,none,.op false (.old (.binOp .mul 80 (.tmp 34) (.tmp 38) 80))⟩,15,.none,[16,17,18],false,true⟩,⟨⟨some 40,none,.op false (.old (.binOp .add 80 (.tmp 30) (.tmp 39) 80))⟩,16,.none,[17,18],false,true⟩,⟨⟨some 41,none,.op false (.old (.binOp .add 80 (.tmp 24) (.tmp 40) 80))⟩,17,.none,[18],false,true⟩,⟨⟨some 9,none,.op false (.old (.assign (.tmp 41)))⟩,18,.none,[],false,true⟩])
 (.seq (.reg (some [4,5,6,7,8,9,10]) [⟨some 42,none,.op false (.old (.move (.tmp 8)))⟩,⟨some 43,none,.op false (.old (.move (.tmp 10)))⟩,⟨some 44,none,.op false (.old (.binOp .add 3 (.tmp 42) (.tmp 43) 3))⟩,⟨some 45,none,.op false (.old (.move (.tmp 9)))⟩,⟨some 46,none,.op false (.old (.binOp .and 80 (.tmp 45) (.const (.int .u64 4294967295)) 80))⟩,⟨some 47,none,.op false (.fieldAddr 0 (.tmp 7))⟩,⟨some 48,none,.op false (.ixA 4 1 (.tmp 47) (.tmp 44))⟩,⟨none,none,.op false (.store 1 (.tmp 48) (.tmp 46))⟩])
 (.reg (some [4,5,6,7,8,9,10]) [⟨some 49,none,.op false (.old (.move (.tmp 9)))⟩,⟨some 50,none,.op false (.old (.binOp .shr 80 (.tmp 49) (.const (.int .u64 32)) 100))⟩,⟨some 9,none,.op false (.old (.assign (.tmp 50)))⟩]))))
 (.reg (some [4,5,6,7,8,9,10]) [⟨some 22,none,.op false (.old (.move (.tmp 10)))⟩,⟨some 23,none,.op false (.old (.binOp .add 3 (.tmp 22) (.const (.int .i64 1)) 3))⟩,⟨some 10,none,.op false (.old (.assign (.tmp 23)))⟩]))⟩)],
 []⟩
theorem r77_ok : resFun (progU ()) hint live 77 Try.f77 = some r77 := by kernel_rfl
def r78 : RFun :=
⟨.seq (.reg (some [0,1]) [⟨some 2,none,.op false (.box 4 (.tmp 0))⟩,⟨some 3,none,.op false (.box 4 (.tmp 1))⟩,⟨some 4,none,.op false (.old (.assign (.const (.bool false))))⟩])
 (.seq (.seq (.reg (some [2,3]) [⟨some 5,none,.op false (.old (.assign (.const (.int .i64 3))))⟩])
 (.block 0 (.loop 2 (some [2,3,5]) (some [2,3,5]))))
 (.seq (.reg (some []) [⟨some 4,none,.op false (.old (.assign (.const (.bool false))))⟩])
 .ret)),
 [.tmp 4],
 [(2,⟨some [2,3,5],some [2,3,5],.seq (.seq (.reg (some [2,3,5]) [⟨some 6,none,.op false (.old (.move (.tmp 5)))⟩,⟨some 7,none,.op false (.old (.binOp .geq 3 (.tmp 6) (.const (.int .i64 0)) 3))⟩])
 (.cond (.tmp 7) .skip
 (.exit 0 (some []))))
 (.seq (.block 1 (.seq (.draw (some [2,3,5]) 9 [⟨⟨some 10,none,.op false (.old (.move (.tmp 5)))⟩,0,.none,[2,3,8],false,true⟩,⟨⟨some 11,none,.op false (.fieldAddr 0 (.tmp 2))⟩,1,.none,[2,3,8],false,true⟩,⟨⟨some 12,none,.op false (.ixA 4 1 (.tmp 11) (.tmp 10))⟩,2,.none,[3,8],false,true⟩,⟨⟨some 13,none,.op false (.load1 (.int .u64) (.tmp 12))⟩,3,.blk (.tmp 12),[8],false,true⟩,⟨⟨some 14,none,.op false (.old (.move (.tmp 5)))⟩,4,.none,[6,7,8],false,true⟩,⟨⟨some 15,none,.op false (.fieldAddr 0 (.tmp 3))⟩,5,.none,[6,7,8],false,true⟩,⟨⟨some 16,none,.op false (.ixA 4 1 (.tmp 15) (.tmp 14))⟩,6,.none,[7,8],false,true⟩,⟨⟨some 17,none,.op false (.load1 (.int .u64) (.tmp 16))⟩,7,.blk (.tmp 16),[8],false,true⟩,⟨⟨some 18,none,.op false (.old (.binOp .neq 80 (.tmp 13) (.tmp 17) 80))⟩,8,.none,[],false,true⟩])
 (.cond (.tmp 18) (.seq (.draw (some [2,3,5]) 10 [⟨⟨some 19,none,.op false (.old (.move (.tmp 5)))⟩,0,.none,[2,3,8,9],false,true⟩,⟨⟨some 20,none,.op false (.fieldAddr 0 (.tmp 2))⟩,1,.none,[2,3,8,9],false,true⟩,⟨⟨some 21,none,.op false (.ixA 4 1 (.tmp 20) (.tmp 19))⟩,2,.none,[3,8,9],false,true⟩,⟨⟨some 22,none,.op false (.load1 (.int .u64) (.tmp 21))⟩,3,.blk (.tmp 21),[8,9],false,true⟩,⟨⟨some 23,none,.op false (.old (.move (.tmp 5)))⟩,4,.none,[6,7,8,9],false,true⟩,⟨⟨some 24,none,.op false (.fieldAddr 0 (.tmp 3))⟩,5,.none,[6,7,8,9],false,true⟩,⟨⟨some 25,none,.op false (.ixA 4 1 (.tmp 24) (.tmp 23))⟩,6,.none,[7,8,9],false,true⟩,⟨⟨some 26,none,.op false (.load1 (.int .u64) (.tmp 25))⟩,7,.blk (.tmp 25),[8,9],false,true⟩,⟨⟨some 27,none,.op false (.old (.binOp .lss 80 (.tmp 22) (.tmp 26) 80))⟩,8,.none,[9],false,true⟩,⟨⟨some 4,none,.op false (.old (.assign (.tmp 27)))⟩,9,.none,[],false,true⟩])
 .ret)
 .skip)))
 (.reg (some [2,3,5]) [⟨some 8,none,.op false (.old (.move (.tmp 5)))⟩,⟨some 9,none,.op false (.old (.binOp .sub 3 (.tmp 8) (.const (.int .i64 1)) 3))⟩,⟨some 5,none,.op false (.old (.assign (.tmp 9)))⟩]))⟩)],
 []⟩
theorem r78_ok : resFun (progU ()) hint live 78 Try.f78 = some r78 := by kernel_rfl
def r79 : RFun :=
⟨.seq (.reg (some [0,1,2,3]) [⟨some 8,none,.op false (.old (.assign (.const (.int .i64 0))))⟩])
 (.seq (.reg (some [0,1,2,3]) [⟨some 14,none,.op false (.old (.move (.tmp 0)))⟩,⟨some 15,none,.op false (.old (.move (.tmp 1)))⟩,⟨some 16,none,.call (.func 76) [.tmp 14,.tmp 15] (some (.tup [.one (.int .u64),.one (.int .u64)]))⟩,⟨some 13,none,.op false (.old (.move (.tmp 16)))⟩,⟨some 17,none,.op false (.old (.extract (.tmp 13) 0))⟩,⟨some 18,none,.op false (.old (.extract (.tmp 13) 1))⟩,⟨some 9,none,.op false (.old (.assign (.tmp 17)))⟩,⟨some 10,none,.op false (.old (.assign (.tmp 18)))⟩])
 (.seq (.reg (some [2,3,9,10]) [⟨some 20,none,.op false (.old (.move (.tmp 2)))⟩,⟨some 21,none,.op false (.old (.move (.tmp 3)))⟩,⟨some 22,none,.call (.func 76) [.tmp 20,.tmp 21] (some (.tup [.one (.int .u64),.one (.int .u64)]))⟩,⟨some 19,none,.op false (.old (.move (.tmp 22)))⟩,⟨some 23,none,.op false (.old (.extract (.tmp 19) 0))⟩,⟨some 24,none,.op false (.old (.extract (.tmp 19) 1))⟩,⟨some 11,none,.op false (.old (.assign (.tmp 23)))⟩,⟨some 12,none,.op false (.old (.assign (.tmp 24)))⟩])
 (.seq (.reg (some [9,10,11,12]) [⟨some 25,none,.op false (.old (.move (.tmp 9)))⟩,⟨some 26,none,.op false (.old (.move (.tmp 10)))⟩,⟨some 27,none,.op false (.old (.move (.tmp 11)))⟩,⟨some 28,none,.op false (.old (.move (.tmp 12)))⟩,⟨some 29,none,.call (.func 81) [.tmp 25,.tmp 26,.tmp 27,.tmp 28] (some (.val (.one (.int .i64))))⟩,⟨some 8,none,.op false (.old (.assign (.tmp 29)))⟩])
 .ret))),
 [.tmp 8],
 [],
 []⟩
theorem r79_ok : resFun (progU ()) hint live 79 Try.f79 = some r79 := by kernel_rfl
def r81 : RFun :=
⟨.seq (.reg (some [0,1,2,3]) [⟨some 8,none,.op false (.old (.assign (.const (.int .i64 0))))⟩])
 (.seq (.block 0 (.seq (.reg (some [0,1,2,3]) [⟨some 10,none,.op false (.old (.move (.tmp 0)))⟩,⟨some 11,none,.op false (.old (.move (.tmp 2)))⟩,⟨some 12,none,.op false (.old (.binOp .gtr 80 (.tmp 10) (.tmp 11) 80))⟩,⟨some 13,none,.op false (.old (.move (.tmp 12)))⟩,⟨some 14,some (13,false),.op false (.old (.move (.tmp 0)))⟩,⟨some 15,some (13,false),.op false (.old (.move (.tmp 2)))⟩,⟨some 16,some (13,false),.op false (.old (.binOp .eql 80 (.tmp 14) (.tmp 15) 80))⟩,⟨some 17,some (13,false),.op false (.old (.move (.tmp 16)))⟩,⟨some 18,some (17,true),.op false (.old (.move (.tmp 1)))⟩,⟨some 19,some (17,true),.op false (.old (.move (.tmp 3)))⟩,⟨some 20,some (17,true),.op false (.old (.binOp .gtr 80 (.tmp 18) (.tmp 19) 80))⟩,⟨some 21,some (13,false),.op false (.old (.pick (.tmp 17) (.tmp 20) (.const (.bool false))))⟩,⟨some 22,none,.op false (.old (.pick (.tmp 13) (.const (.bool true)) (.tmp 21)))⟩,⟨some 9,none,.op false (.old (.assign (.tmp 22)))⟩])
 (.cond (.tmp 9) (.seq (.reg (some []) [⟨some 8,none,.op false (.old (.assign (.const (.int .i64 1))))⟩])
 .ret)
 (.seq (.reg (some [0,1,2,3]) [⟨some 24,none,.op false (.old (.move (.tmp 0)))⟩,⟨some 25,none,.op false (.old (.move (.tmp 2)))⟩,⟨some 26,none,.op false (.old (.binOp .eql 80 (.tmp 24) (.tmp 25) 80))⟩,⟨some 27,none,.op false (.old (.move (.tmp 26)))⟩,⟨some 28,some (27,true),.op false (.old (.move (.tmp 1)))⟩,⟨some 29,some (27,true),.op false (.old (.move (.tmp 3)))⟩,⟨some 30,some (27,true),.op false (.old (.binOp .eql 80 (.tmp 28) (.tmp 29) 80))⟩,⟨some 31,none,.op false (.old (.pick (.tmp 27) (.tmp 30) (.const (.bool false))))⟩,⟨some 23,none,.op false (.old (.assign (.tmp 31)))⟩])
 (.cond (.tmp 23) (.seq (.reg (some []) [⟨some 8,none,.op false (.old (.assign (.const (.int .i64 0))))⟩])
 .ret)
 .skip)))))
 (.seq (.reg (some []) [⟨some 8,none,.op false (.old (.assign (.const (.int .i64 (-1)))))⟩])
 .ret)),
 [.tmp 8],
 [],
 []⟩
theorem r81_ok : resFun (progU ()) hint live 81 Try.f81 = some r81 := by kernel_rfl
def r83 : RFun :=
⟨.seq (.reg (some [0,1,2]) [⟨some 6,none,.op false (.old (.assign (.const (.int .u64 0))))⟩])
 (.seq (.reg (some [0,1,2]) [⟨some 10,none,.op false (.old (.move (.tmp 0)))⟩,⟨some 11,none,.op false (.old (.move (.tmp 2)))⟩,⟨some 12,none,.op false (.old (.binOp .rem 80 (.tmp 10) (.tmp 11) 80))⟩,⟨some 13,none,.op false (.old (.move (.tmp 1)))⟩,⟨some 14,none,.op false (.old (.move (.tmp 2)))⟩,⟨some 15,none,.call (.func 84) [.tmp 12,.tmp 13,.tmp 14] (some (.tup [.one (.int .u64),.one (.int .u64)]))⟩,⟨some 9,none,.op false (.old (.move (.tmp 15)))⟩,⟨some 16,none,.op false (.old (.extract (.tmp 9) 0))⟩,⟨some 17,none,.op false (.old (.extract (.tmp 9) 1))⟩,⟨some 7,none,.op false (.old (.assign (.tmp 16)))⟩,⟨some 8,none,.op false (.old (.assign (.tmp 17)))⟩])
 (.seq (.reg (some [8]) [⟨some 18,none,.op false (.old (.move (.tmp 8)))⟩,⟨some 6,none,.op false (.old (.assign (.tmp 18)))⟩])
 .ret)),
 [.tmp 6],
 [],
 []⟩
theorem r83_ok : resFun (progU ()) hint live 83 Try.f83 = some r83 := by kernel_rfl
end Go.Proofs.Ytnokkniofajnhaa
