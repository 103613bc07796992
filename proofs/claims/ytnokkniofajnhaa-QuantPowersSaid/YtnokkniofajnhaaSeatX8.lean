/-
  THE RESOLVED FORM OF SOME FUNCTIONS MORE OF THIS SEAT. (Written by seat3.py; the kernel looks whether it is right.)
-/
import Derived.Test.YtnokkniofajnhaaSeat0
namespace Go.Proofs.Ytnokkniofajnhaa
open Go.Sim
set_option maxRecDepth 100000
def r19 : RFun :=
⟨.seq (.reg (some [0]) [⟨some 1,none,.op false (.box 5 (.tmp 0))⟩,⟨some 2,none,.op true (.new 2 [.int .i64 0,.int .i64 0])⟩,⟨some 3,none,.op false (.old (.assign (.const (.int .i64 0))))⟩])
 (.seq (.reg (some [1,2]) [⟨some 4,none,.op false (.old (.assign (.const (.int .i64 0))))⟩])
 (.seq (.seq (.reg (some [1,2,4]) [⟨some 9,none,.op false (.load 5 [.int .i64,.int .i64,.int .i64,.int .i64,.int .i64] (.tmp 1))⟩,⟨some 10,none,.op false (.old (.move (.const (.int .i64 0))))⟩])
 (.block 0 (.loop 3 none (some [1,2,4,9,10]))))
 (.seq (.seq (.reg (some [1,2,4]) [⟨some 24,none,.op false (.old (.move (.tmp 4)))⟩,⟨some 25,none,.op false (.old (.binOp .gtr 3 (.tmp 24) (.const (.int .i64 256)) 3))⟩])
 (.cond (.tmp 25) (.seq (.reg (some [2]) [⟨some 26,none,.op false (.build [.int .i64 0,.int .i64 0] [])⟩,⟨none,none,.op false (.store 2 (.tmp 2) (.tmp 26))⟩,⟨some 3,none,.op false (.old (.assign (.const (.int .i64 2))))⟩])
 .ret)
 .skip))
 (.seq (.reg (some [1,2,4]) [⟨some 27,none,.op false (.old (.move (.tmp 4)))⟩,⟨some 28,none,.op false (.ixA 5 1 (.tmp 1) (.const (.int .i64 0)))⟩,⟨some 29,none,.op false (.load1 (.int .i64) (.tmp 28))⟩,⟨some 30,none,.op false (.old (.binOp .sub 3 (.tmp 27) (.tmp 29) 3))⟩,⟨some 7,none,.op false (.old (.assign (.tmp 30)))⟩])
 (.seq (.seq (.reg (some [1,2,7]) [⟨some 31,none,.op false (.old (.move (.tmp 7)))⟩,⟨some 32,none,.op false (.old (.binOp .eql 3 (.tmp 31) (.const (.int .i64 0)) 3))⟩])
 (.cond (.tmp 32) (.seq (.reg (some [2]) [⟨some 33,none,.op false (.build [.int .i64 0,.int .i64 0] [])⟩,⟨none,none,.op false (.store 2 (.tmp 2) (.tmp 33))⟩,⟨some 3,none,.op false (.old (.assign (.const (.int .i64 18))))⟩])
 .ret)
 .skip))
 (.seq (.reg (some [1,2,7]) [⟨some 34,none,.op false (.ixA 5 1 (.tmp 1) (.const (.int .i64 1)))⟩,⟨some 35,none,.op false (.load1 (.int .i64) (.tmp 34))⟩,⟨some 36,none,.op false (.ixA 5 1 (.tmp 1) (.const (.int .i64 4)))⟩,⟨some 37,none,.op false (.load1 (.int .i64) (.tmp 36))⟩,⟨some 38,none,.op false (.old (.binOp .add 3 (.tmp 35) (.tmp 37) 3))⟩,⟨some 39,none,.op false (.old (.binOp .mul 3 (.const (.int .i64 9)) (.tmp 38) 3))⟩,⟨some 40,none,.op false (.ixA 5 1 (.tmp 1) (.const (.int .i64 2)))⟩,⟨some 41,none,.op false (.load1 (.int .i64) (.tmp 40))⟩,⟨some 42,none,.op false (.old (.binOp .add 3 (.tmp 39) (.tmp 41) 3))⟩,⟨some 43,none,.op false (.ixA 5 1 (.tmp 1) (.const (.int .i64 3)))⟩,⟨some 44,none,.op false (.load1 (.int .i64) (.tmp 43))⟩,⟨some 45,none,.op false (.old (.binOp .add 3 (.tmp 42) (.tmp 44) 3))⟩,⟨some 8,none,.op false (.old (.assign (.tmp 45)))⟩])
 (.seq (.reg (some [2,7,8]) [⟨some 46,none,.op false (.old (.move (.tmp 8)))⟩,⟨some 47,none,.op false (.old (.move (.tmp 7)))⟩,⟨some 48,none,.call (.func 41) [.tmp 46,.tmp 47] (some (.tup [.agg [.int .i64,.int .i64],.one (.int .i64)]))⟩,⟨some 49,none,.op false (.old (.extract (.tmp 48) 0))⟩,⟨some 50,none,.op false (.old (.extract (.tmp 48) 1))⟩,⟨none,none,.op false (.store 2 (.tmp 2) (.tmp 49))⟩,⟨some 3,none,.op false (.old (.assign (.tmp 50)))⟩])
 .ret))))))),
 [.agg 2 2 [.int .i64,.int .i64],.tmp 3],
 [(3,⟨none,some [1,2,4,9,10],.seq (.reg (some [1,2,4,9,10]) [⟨some 11,none,.op false (.old (.binOp .lss 3 (.tmp 10) (.const (.int .i64 5)) 3))⟩])
 (.seq (.cond (.tmp 11) .skip
 (.exit 0 (some [1,2,4])))
 (.seq (.block 1 (.seq (.reg (some [1,2,4,9,10]) [⟨some 12,none,.op false (.old (.index 39 (.tmp 9) (.tmp 10)))⟩,⟨some 6,none,.op false (.old (.assign (.tmp 12)))⟩])
 (.seq (.seq (.reg (some [1,2,4,6,9,10]) [⟨some 13,none,.op false (.old (.move (.tmp 6)))⟩,⟨some 14,none,.op false (.old (.binOp .lss 3 (.tmp 13) (.const (.int .i64 0)) 3))⟩,⟨some 15,none,.op false (.old (.move (.tmp 14)))⟩,⟨some 16,some (15,false),.op false (.old (.move (.tmp 6)))⟩,⟨some 17,some (15,false),.op false (.old (.binOp .gtr 3 (.tmp 16) (.const (.int .i64 256)) 3))⟩,⟨some 18,none,.op false (.old (.pick (.tmp 15) (.const (.bool true)) (.tmp 17)))⟩])
 (.cond (.tmp 18) (.seq (.reg (some [2]) [⟨some 19,none,.op false (.build [.int .i64 0,.int .i64 0] [])⟩,⟨none,none,.op false (.store 2 (.tmp 2) (.tmp 19))⟩,⟨some 3,none,.op false (.old (.assign (.const (.int .i64 2))))⟩])
 .ret)
 .skip))
 (.reg (some [1,2,4,6,9,10]) [⟨some 20,none,.op false (.old (.move (.tmp 4)))⟩,⟨some 21,none,.op false (.old (.move (.tmp 6)))⟩,⟨some 22,none,.op false (.old (.binOp .add 3 (.tmp 20) (.tmp 21) 3))⟩,⟨some 4,none,.op false (.old (.assign (.tmp 22)))⟩]))))
 (.reg (some [1,2,4,9,10]) [⟨some 23,none,.op false (.old (.binOp .add 3 (.tmp 10) (.const (.int .i64 1)) 3))⟩,⟨some 10,none,.op false (.old (.move (.tmp 23)))⟩])))⟩)],
 []⟩
theorem r19_ok : resFun (progU ()) hint live 19 Try.f19 = some r19 := by kernel_rfl
def r21 : RFun :=
⟨.seq (.reg (some [0,1,2]) [⟨some 4,none,.op true (.box 2 (.tmp 1))⟩,⟨some 5,none,.op true (.box 2 (.tmp 2))⟩,⟨some 6,none,.op true (.new 2 [.int .i64 0,.int .i64 0])⟩,⟨some 7,none,.op false (.old (.assign (.const (.int .i64 0))))⟩])
 (.seq (.seq (.reg (some [0,4,5,6]) [⟨some 12,none,.op false (.old (.move (.tmp 0)))⟩,⟨some 13,none,.call (.func 14) [.tmp 12] (some (.val (.one (.int .i64))))⟩,⟨some 8,none,.op false (.old (.assign (.tmp 13)))⟩])
 (.seq (.reg (some [0,4,5,6,8]) [⟨some 14,none,.op false (.old (.move (.tmp 8)))⟩,⟨some 15,none,.op false (.old (.binOp .neq 26 (.tmp 14) (.const (.int .i64 0)) 26))⟩])
 (.cond (.tmp 15) (.seq (.reg (some [6,8]) [⟨some 16,none,.op false (.build [.int .i64 0,.int .i64 0] [])⟩,⟨some 17,none,.op false (.old (.move (.tmp 8)))⟩,⟨none,none,.op false (.store 2 (.tmp 6) (.tmp 16))⟩,⟨some 7,none,.op false (.old (.assign (.tmp 17)))⟩])
 .ret)
 .skip)))
 (.seq (.seq (.reg (some [0,4,5,6]) [⟨some 18,none,.op false (.load 2 [.int .i64,.int .i64] (.tmp 4))⟩,⟨some 19,none,.op false (.buildSlice 2 1 [.int .i64 0,.int .i64 0] [(0,2,(.tmp 18))])⟩,⟨some 20,none,.call (.func 42) [.tmp 19] (some (.val (.one (.int .i64))))⟩,⟨some 21,none,.op false (.old (.binOp .neq 26 (.tmp 20) (.const (.int .i64 0)) 26))⟩])
 (.cond (.tmp 21) (.seq (.reg (some [6]) [⟨some 22,none,.op false (.build [.int .i64 0,.int .i64 0] [])⟩,⟨none,none,.op false (.store 2 (.tmp 6) (.tmp 22))⟩,⟨some 7,none,.op false (.old (.assign (.const (.int .i64 2))))⟩])
 .ret)
 .skip))
 (.seq (.seq (.reg (some [0,4,5,6]) [⟨some 23,none,.op false (.load 2 [.int .i64,.int .i64] (.tmp 5))⟩,⟨some 24,none,.call (.func 32) [.tmp 23] (some (.val (.one (.int .i64))))⟩,⟨some 25,none,.op false (.old (.binOp .neq 26 (.tmp 24) (.const (.int .i64 0)) 26))⟩,⟨some 26,none,.op false (.old (.move (.tmp 25)))⟩,⟨some 27,some (26,false),.op false (.fieldAddr 0 (.tmp 5))⟩,⟨some 28,some (26,false),.op false (.load1 (.int .i64) (.tmp 27))⟩,⟨some 29,some (26,false),.op false (.old (.binOp .leq 2 (.tmp 28) (.const (.int .i64 0)) 2))⟩,⟨some 30,none,.op false (.old (.pick (.tmp 26) (.const (.bool true)) (.tmp 29)))⟩])
 (.cond (.tmp 30) (.seq (.reg (some [6]) [⟨some 31,none,.op false (.build [.int .i64 0,.int .i64 0] [])⟩,⟨none,none,.op false (.store 2 (.tmp 6) (.tmp 31))⟩,⟨some 7,none,.op false (.old (.assign (.const (.int .i64 8))))⟩])
 .ret)
 .skip))
 (.seq (.seq (.reg (some [0,4,5,6]) [⟨some 32,none,.op false (.fieldAddr 1 (.tmp 4))⟩,⟨some 33,none,.op false (.load1 (.int .i64) (.tmp 32))⟩,⟨some 34,none,.op false (.old (.binOp .eql 3 (.tmp 33) (.const (.int .i64 0)) 3))⟩])
 (.cond (.tmp 34) (.seq (.reg (some [6]) [⟨some 35,none,.op false (.build [.int .i64 0,.int .i64 0] [])⟩,⟨none,none,.op false (.store 2 (.tmp 6) (.tmp 35))⟩,⟨some 7,none,.op false (.old (.assign (.const (.int .i64 18))))⟩])
 .ret)
 .skip))
 (.seq (.reg (some [0,4,5,6]) [⟨some 37,none,.op false (.fieldAddr 0 (.tmp 4))⟩,⟨some 38,none,.op false (.load1 (.int .i64) (.tmp 37))⟩,⟨some 39,none,.op false (.fieldAddr 1 (.tmp 4))⟩,⟨some 40,none,.op false (.load1 (.int .i64) (.tmp 39))⟩,⟨some 41,none,.call (.func 41) [.tmp 38,.tmp 40] (some (.tup [.agg [.int .i64,.int .i64],.one (.int .i64)]))⟩,⟨some 36,none,.op false (.old (.move (.tmp 41)))⟩,⟨some 42,none,.op false (.old (.extract (.tmp 36) 0))⟩,⟨some 43,none,.op false (.old (.extract (.tmp 36) 1))⟩,⟨some 9,none,.op true (.new 2 [.int .i64 0,.int .i64 0])⟩,⟨none,none,.op false (.store 2 (.tmp 9) (.tmp 42))⟩,⟨some 10,none,.op false (.old (.assign (.tmp 43)))⟩])
 (.seq (.seq (.reg (some [0,5,6,9,10]) [⟨some 44,none,.op false (.old (.move (.tmp 10)))⟩,⟨some 45,none,.op false (.old (.binOp .neq 26 (.tmp 44) (.const (.int .i64 0)) 26))⟩])
 (.cond (.tmp 45) (.seq (.reg (some [6,10]) [⟨some 46,none,.op false (.build [.int .i64 0,.int .i64 0] [])⟩,⟨some 47,none,.op false (.old (.move (.tmp 10)))⟩,⟨none,none,.op false (.store 2 (.tmp 6) (.tmp 46))⟩,⟨some 7,none,.op false (.old (.assign (.tmp 47)))⟩])
 .ret)
 .skip))
 (.seq (.reg (some [0,5,6,9]) [⟨some 49,none,.op false (.load 2 [.int .i64,.int .i64] (.tmp 9))⟩,⟨some 50,none,.op false (.load 2 [.int .i64,.int .i64] (.tmp 5))⟩,⟨some 51,none,.call (.func 43) [.tmp 49,.tmp 50] (some (.tup [.agg [.int .i64,.int .i64],.one (.int .i64)]))⟩,⟨some 48,none,.op false (.old (.move (.tmp 51)))⟩,⟨some 52,none,.op false (.old (.extract (.tmp 48) 0))⟩,⟨some 53,none,.op false (.old (.extract (.tmp 48) 1))⟩,⟨some 11,none,.op true (.new 2 [.int .i64 0,.int .i64 0])⟩,⟨none,none,.op false (.store 2 (.tmp 11) (.tmp 52))⟩,⟨some 10,none,.op false (.old (.assign (.tmp 53)))⟩])
 (.seq (.seq (.reg (some [0,6,10,11]) [⟨some 54,none,.op false (.old (.move (.tmp 10)))⟩,⟨some 55,none,.op false (.old (.binOp .neq 26 (.tmp 54) (.const (.int .i64 0)) 26))⟩])
 (.cond (.tmp 55) (.seq (.reg (some [6,10]) [⟨some 56,none,.op false (.build [.int .i64 0,.int .i64 0] [])⟩,⟨some 57,none,.op false (.old (.move (.tmp 10)))⟩,⟨none,none,.op false (.store 2 (.tmp 6) (.tmp 56))⟩,⟨some 7,none,.op false (.old (.assign (.tmp 57)))⟩])
 .ret)
 .skip))
 (.seq (.reg (some [0,6,11]) [⟨some 58,none,.op false (.old (.move (.tmp 0)))⟩,⟨some 59,none,.op false (.load 2 [.int .i64,.int .i64] (.tmp 11))⟩,⟨some 60,none,.call (.func 10) [.tmp 58,.tmp 59] (some (.tup [.agg [.int .i64,.int .i64],.one (.int .i64)]))⟩,⟨some 61,none,.op false (.old (.extract (.tmp 60) 0))⟩,⟨some 62,none,.op false (.old (.extract (.tmp 60) 1))⟩,⟨none,none,.op false (.store 2 (.tmp 6) (.tmp 61))⟩,⟨some 7,none,.op false (.old (.assign (.tmp 62)))⟩])
 .ret))))))))),
 [.agg 6 2 [.int .i64,.int .i64],.tmp 7],
 [],
 []⟩
theorem r21_ok : resFun (progU ()) hint live 21 Try.f21 = some r21 := by kernel_rfl
def r23 : RFun :=
⟨.seq (.reg (some [0,1]) [⟨some 4,none,.op true (.new 2 [.int .i64 0,.int .i64 0])⟩])
 (.seq (.reg (some [0,1,4]) [⟨some 5,none,.op false (.old (.move (.tmp 0)))⟩,⟨some 6,none,.op false (.old (.move (.tmp 1)))⟩,⟨some 7,none,.op false (.build [.int .i64 0,.int .i64 0] [(0,1,(.tmp 5)),(1,1,(.tmp 6))])⟩,⟨none,none,.op false (.store 2 (.tmp 4) (.tmp 7))⟩])
 .ret),
 [.agg 4 2 [.int .i64,.int .i64]],
 [],
 []⟩
theorem r23_ok : resFun (progU ()) hint live 23 Try.f23 = some r23 := by kernel_rfl
def r24 : RFun :=
⟨.seq (.reg (some []) [⟨some 0,none,.op false (.old (.assign (.const (.slice none 0 0))))⟩])
 (.seq (.reg (some []) [⟨some 1,none,.call (.func 23) [.const (.int .i64 0),.const (.int .i64 1)] (some (.val (.agg [.int .i64,.int .i64])))⟩,⟨some 2,none,.call (.func 23) [.const (.int .i64 0),.const (.int .i64 1)] (some (.val (.agg [.int .i64,.int .i64])))⟩,⟨some 3,none,.op false (.build [.int .i64 0,.int .i64 0,.int .i64 0,.int .i64 0] [(0,2,(.tmp 1)),(2,2,(.tmp 2))])⟩,⟨some 4,none,.call (.func 23) [.const (.int .i64 1),.const (.int .i64 2)] (some (.val (.agg [.int .i64,.int .i64])))⟩,⟨some 5,none,.call (.func 23) [.const (.int .i64 1),.const (.int .i64 3)] (some (.val (.agg [.int .i64,.int .i64])))⟩,⟨some 6,none,.op false (.build [.int .i64 0,.int .i64 0,.int .i64 0,.int .i64 0] [(0,2,(.tmp 4)),(2,2,(.tmp 5))])⟩,⟨some 7,none,.call (.func 23) [.const (.int .i64 1),.const (.int .i64 1)] (some (.val (.agg [.int .i64,.int .i64])))⟩,⟨some 8,none,.call (.func 23) [.const (.int .i64 1),.const (.int .i64 1)] (some (.val (.agg [.int .i64,.int .i64])))⟩,⟨some 9,none,.op false (.build [.int .i64 0,.int .i64 0,.int .i64 0,.int .i64 0] [(0,2,(.tmp 7)),(2,2,(.tmp 8))])⟩,⟨some 10,none,.op false (.buildSlice 4 3 [.int .i64 0,.int .i64 0,.int .i64 0,.int .i64 0,.int .i64 0,.int .i64 0,.int .i64 0,.int .i64 0,.int .i64 0,.int .i64 0,.int .i64 0,.int .i64 0] [(0,4,(.tmp 3)),(4,4,(.tmp 6)),(8,4,(.tmp 9))])⟩,⟨some 0,none,.op false (.old (.assign (.tmp 10)))⟩])
 .ret),
 [.tmp 0],
 [],
 []⟩
theorem r24_ok : resFun (progU ()) hint live 24 Try.f24 = some r24 := by kernel_rfl
def r30 : RFun :=
⟨.seq (.reg (some [0]) [⟨some 2,none,.op true (.new 5 [.int .i64 0,.int .i64 0,.int .i64 0,.int .i64 0,.int .i64 0])⟩,⟨some 3,none,.op false (.old (.assign (.const (.int .i64 0))))⟩])
 (.seq (.seq (.reg (some [0,2]) [⟨some 8,none,.op false (.old (.move (.tmp 0)))⟩,⟨some 9,none,.call (.func 49) [.tmp 8] (some (.val (.one (.int .i64))))⟩,⟨some 4,none,.op false (.old (.assign (.tmp 9)))⟩])
 (.seq (.reg (some [0,2,4]) [⟨some 10,none,.op false (.old (.move (.tmp 4)))⟩,⟨some 11,none,.op false (.old (.binOp .neq 26 (.tmp 10) (.const (.int .i64 0)) 26))⟩])
 (.cond (.tmp 11) (.seq (.reg (some [2,4]) [⟨some 12,none,.op false (.build [.int .i64 0,.int .i64 0,.int .i64 0,.int .i64 0,.int .i64 0] [])⟩,⟨some 13,none,.op false (.old (.move (.tmp 4)))⟩,⟨none,none,.op false (.store 5 (.tmp 2) (.tmp 12))⟩,⟨some 3,none,.op false (.old (.assign (.tmp 13)))⟩])
 .ret)
 .skip)))
 (.seq (.reg (some [0,2]) [⟨some 5,none,.op false (.new 5 [.int .i64 0,.int .i64 0,.int .i64 0,.int .i64 0,.int .i64 0])⟩])
 (.seq (.seq (.reg (some [0,2,5]) [⟨some 14,none,.op false (.old (.move (.tmp 0)))⟩,⟨some 15,none,.op false (.lenS (.tmp 14))⟩,⟨some 16,none,.op false (.old (.move (.const (.int .i64 0))))⟩])
 (.block 0 (.loop 6 none (some [2,5,14,15,16]))))
 (.seq (.reg (some [2,5]) [⟨some 27,none,.op false (.load 5 [.int .i64,.int .i64,.int .i64,.int .i64,.int .i64] (.tmp 5))⟩,⟨none,none,.op false (.store 5 (.tmp 2) (.tmp 27))⟩,⟨some 3,none,.op false (.old (.assign (.const (.int .i64 0))))⟩])
 .ret)))),
 [.agg 2 5 [.int .i64,.int .i64,.int .i64,.int .i64,.int .i64],.tmp 3],
 [(6,⟨none,some [2,5,14,15,16],.seq (.reg (some [2,5,14,15,16]) [⟨some 17,none,.op false (.old (.binOp .lss 3 (.tmp 16) (.tmp 15) 3))⟩])
 (.seq (.cond (.tmp 17) .skip
 (.exit 0 (some [2,5])))
 (.seq (.block 1 (.seq (.reg (some [2,5,14,15,16]) [⟨some 18,none,.op false (.ixS 1 (.tmp 14) (.tmp 16))⟩,⟨some 19,none,.op false (.load1 (.int .i64) (.tmp 18))⟩,⟨some 7,none,.op false (.old (.assign (.tmp 19)))⟩])
 (.reg (some [2,5,7,14,15,16]) [⟨some 20,none,.op false (.old (.move (.tmp 7)))⟩,⟨some 21,none,.call (.func 50) [.tmp 20] (some (.val (.one (.int .i64))))⟩,⟨some 22,none,.op false (.ixA 5 1 (.tmp 5) (.tmp 21))⟩,⟨some 23,none,.op false (.load1 (.int .i64) (.tmp 22))⟩,⟨some 24,none,.op false (.old (.binOp .add 3 (.tmp 23) (.const (.int .i64 1)) 3))⟩,⟨some 25,none,.op false (.ixA 5 1 (.tmp 5) (.tmp 21))⟩,⟨none,none,.op false (.store 1 (.tmp 25) (.tmp 24))⟩])))
 (.reg (some [2,5,14,15,16]) [⟨some 26,none,.op false (.old (.binOp .add 3 (.tmp 16) (.const (.int .i64 1)) 3))⟩,⟨some 16,none,.op false (.old (.move (.tmp 26)))⟩])))⟩)],
 []⟩
theorem r30_ok : resFun (progU ()) hint live 30 Try.f30 = some r30 := by kernel_rfl
def r42 : RFun :=
⟨.seq (.reg (some [0]) [⟨some 2,none,.op false (.old (.assign (.const (.int .i64 0))))⟩])
 (.seq (.seq (.reg (some [0]) [⟨some 5,none,.op false (.old (.move (.tmp 0)))⟩,⟨some 6,none,.op false (.lenS (.tmp 5))⟩,⟨some 7,none,.op false (.old (.binOp .gtr 3 (.tmp 6) (.const (.int .i64 511)) 3))⟩])
 (.cond (.tmp 7) (.seq (.reg (some []) [⟨some 2,none,.op false (.old (.assign (.const (.int .i64 4))))⟩])
 .ret)
 .skip))
 (.seq (.seq (.reg (some [0]) [⟨some 8,none,.op false (.old (.move (.tmp 0)))⟩,⟨some 9,none,.op false (.lenS (.tmp 8))⟩,⟨some 10,none,.op false (.old (.binOp .rem 3 (.tmp 9) (.const (.int .i64 2)) 3))⟩,⟨some 11,none,.op false (.old (.binOp .eql 3 (.tmp 10) (.const (.int .i64 0)) 3))⟩])
 (.cond (.tmp 11) (.seq (.reg (some []) [⟨some 2,none,.op false (.old (.assign (.const (.int .i64 8))))⟩])
 .ret)
 .skip))
 (.seq (.seq (.reg (some [0]) [⟨some 12,none,.op false (.old (.move (.tmp 0)))⟩,⟨some 13,none,.op false (.lenS (.tmp 12))⟩,⟨some 14,none,.op false (.old (.move (.const (.int .i64 0))))⟩])
 (.block 0 (.loop 6 (some [12,13,14]) (some [12,13,14]))))
 (.seq (.reg (some []) [⟨some 2,none,.op false (.old (.assign (.const (.int .i64 0))))⟩])
 .ret)))),
 [.tmp 2],
 [(6,⟨some [12,13,14],some [12,13,14],.seq (.reg (some [12,13,14]) [⟨some 15,none,.op false (.old (.binOp .lss 3 (.tmp 14) (.tmp 13) 3))⟩])
 (.seq (.cond (.tmp 15) .skip
 (.exit 0 (some [])))
 (.seq (.block 1 (.seq (.reg (some [12,13,14]) [⟨some 16,none,.op false (.ixS 2 (.tmp 12) (.tmp 14))⟩,⟨some 17,none,.op false (.load 2 [.int .i64,.int .i64] (.tmp 16))⟩,⟨some 4,none,.op true (.new 2 [.int .i64 0,.int .i64 0])⟩,⟨none,none,.op false (.store 2 (.tmp 4) (.tmp 17))⟩])
 (.seq (.seq (.reg (some [4,12,13,14]) [⟨some 18,none,.op false (.fieldAddr 1 (.tmp 4))⟩,⟨some 19,none,.op false (.load1 (.int .i64) (.tmp 18))⟩,⟨some 20,none,.op false (.old (.binOp .lss 3 (.tmp 19) (.const (.int .i64 0)) 3))⟩,⟨some 21,none,.op false (.old (.move (.tmp 20)))⟩,⟨some 22,some (21,false),.op false (.fieldAddr 1 (.tmp 4))⟩,⟨some 23,some (21,false),.op false (.load1 (.int .i64) (.tmp 22))⟩,⟨some 24,some (21,false),.op false (.old (.binOp .gtr 3 (.tmp 23) (.const (.int .i64 256)) 3))⟩,⟨some 25,none,.op false (.old (.pick (.tmp 21) (.const (.bool true)) (.tmp 24)))⟩,⟨some 26,none,.op false (.old (.move (.tmp 25)))⟩,⟨some 27,some (26,false),.op false (.fieldAddr 0 (.tmp 4))⟩,⟨some 28,some (26,false),.op false (.load1 (.int .i64) (.tmp 27))⟩,⟨some 29,some (26,false),.op false (.fieldAddr 1 (.tmp 4))⟩,⟨some 30,some (26,false),.op false (.load1 (.int .i64) (.tmp 29))⟩,⟨some 31,some (26,false),.op false (.old (.binOp .mul 3 (.const (.int .i64 (-9))) (.tmp 30) 3))⟩,⟨some 32,some (26,false),.op false (.old (.binOp .lss 3 (.tmp 28) (.tmp 31) 3))⟩,⟨some 33,none,.op false (.old (.pick (.tmp 26) (.const (.bool true)) (.tmp 32)))⟩,⟨some 34,none,.op false (.old (.move (.tmp 33)))⟩,⟨some 35,some (34,false),.op false (.fieldAddr 0 (.tmp 4))⟩,⟨some 36,some (34,false),.op false (.load1 (.int .i64) (.tmp 35))⟩,⟨some 37,some (34,false),.op false (.fieldAddr 1 (.tmp 4))⟩,⟨some 38,some (34,false),.op false (.load1 (.int .i64) (.tmp 37))⟩,⟨some 39,some (34,false),.op false (.old (.binOp .mul 3 (.const (.int .i64 9)) (.tmp 38) 3))⟩,⟨some 40,some (34,false),.op false (.old (.binOp .gtr 3 (.tmp 36) (.tmp 39) 3))⟩,⟨some 41,none,.op false (.old (.pick (.tmp 34) (.const (.bool true)) (.tmp 40)))⟩])
 (.cond (.tmp 41) (.seq (.reg (some []) [⟨some 2,none,.op false (.old (.assign (.const (.int .i64 8))))⟩])
 .ret)
 .skip))
 (.seq (.reg (some [4,12,13,14]) [⟨some 42,none,.op false (.fieldAddr 0 (.tmp 4))⟩,⟨some 43,none,.op false (.load1 (.int .i64) (.tmp 42))⟩,⟨some 44,none,.op false (.fieldAddr 1 (.tmp 4))⟩,⟨some 45,none,.op false (.load1 (.int .i64) (.tmp 44))⟩,⟨some 46,none,.op false (.old (.binOp .sub 3 (.tmp 43) (.tmp 45) 3))⟩,⟨some 47,none,.op false (.old (.binOp .rem 3 (.tmp 46) (.const (.int .i64 2)) 3))⟩,⟨some 48,none,.op false (.old (.binOp .neq 3 (.tmp 47) (.const (.int .i64 0)) 3))⟩])
 (.cond (.tmp 48) (.seq (.reg (some []) [⟨some 2,none,.op false (.old (.assign (.const (.int .i64 8))))⟩])
 .ret)
 .skip)))))
 (.reg (some [12,13,14]) [⟨some 49,none,.op false (.old (.binOp .add 3 (.tmp 14) (.const (.int .i64 1)) 3))⟩,⟨some 14,none,.op false (.old (.move (.tmp 49)))⟩])))⟩)],
 []⟩
theorem r42_ok : resFun (progU ()) hint live 42 Try.f42 = some r42 := by kernel_rfl
def r49 : RFun :=
⟨.seq (.reg (some [0]) [⟨some 2,none,.op false (.old (.assign (.const (.int .i64 0))))⟩])
 (.seq (.seq (.reg (some [0]) [⟨some 5,none,.op false (.old (.move (.tmp 0)))⟩,⟨some 6,none,.op false (.lenS (.tmp 5))⟩,⟨some 7,none,.op false (.old (.binOp .gtr 3 (.tmp 6) (.const (.int .i64 256)) 3))⟩])
 (.cond (.tmp 7) (.seq (.reg (some []) [⟨some 2,none,.op false (.old (.assign (.const (.int .i64 4))))⟩])
 .ret)
 .skip))
 (.seq (.seq (.reg (some [0]) [⟨some 8,none,.op false (.old (.move (.tmp 0)))⟩,⟨some 9,none,.op false (.lenS (.tmp 8))⟩,⟨some 10,none,.op false (.old (.move (.const (.int .i64 0))))⟩])
 (.block 0 (.loop 4 none (some [8,9,10]))))
 (.seq (.reg (some []) [⟨some 2,none,.op false (.old (.assign (.const (.int .i64 0))))⟩])
 .ret))),
 [.tmp 2],
 [(4,⟨none,some [8,9,10],.seq (.reg (some [8,9,10]) [⟨some 11,none,.op false (.old (.binOp .lss 3 (.tmp 10) (.tmp 9) 3))⟩])
 (.seq (.cond (.tmp 11) .skip
 (.exit 0 (some [])))
 (.seq (.block 1 (.seq (.reg (some [8,9,10]) [⟨some 12,none,.op false (.ixS 1 (.tmp 8) (.tmp 10))⟩,⟨some 13,none,.op false (.load1 (.int .i64) (.tmp 12))⟩,⟨some 4,none,.op false (.old (.assign (.tmp 13)))⟩])
 (.seq (.reg (some [4,8,9,10]) [⟨some 14,none,.op false (.old (.move (.tmp 4)))⟩,⟨some 15,none,.call (.func 50) [.tmp 14] (some (.val (.one (.int .i64))))⟩,⟨some 16,none,.op false (.old (.binOp .lss 3 (.tmp 15) (.const (.int .i64 0)) 3))⟩])
 (.cond (.tmp 16) (.seq (.reg (some []) [⟨some 2,none,.op false (.old (.assign (.const (.int .i64 8))))⟩])
 .ret)
 .skip))))
 (.reg (some [8,9,10]) [⟨some 17,none,.op false (.old (.binOp .add 3 (.tmp 10) (.const (.int .i64 1)) 3))⟩,⟨some 10,none,.op false (.old (.move (.tmp 17)))⟩])))⟩)],
 []⟩
theorem r49_ok : resFun (progU ()) hint live 49 Try.f49 = some r49 := by kernel_rfl
def r50 : RFun :=
⟨.seq (.reg (some [0]) [⟨some 2,none,.op false (.old (.assign (.const (.int .i64 0))))⟩])
 (.seq (.seq (.reg (some [0]) [⟨some 3,none,.op false (.old (.move (.tmp 0)))⟩])
 (.block 0 (.seq (.reg (some [3]) [⟨some 5,none,.op false (.old (.binOp .eql 3 (.tmp 3) (.const (.int .i64 0)) 3))⟩,⟨some 4,none,.op false (.old (.assign (.tmp 5)))⟩])
 (.cond (.tmp 4) (.seq (.reg (some []) [⟨some 2,none,.op false (.old (.assign (.const (.int .i64 0))))⟩])
 .ret)
 (.seq (.reg (some [3]) [⟨some 7,none,.op false (.old (.binOp .eql 3 (.tmp 3) (.const (.int .i64 (-3))) 3))⟩,⟨some 6,none,.op false (.old (.assign (.tmp 7)))⟩])
 (.cond (.tmp 6) (.seq (.reg (some []) [⟨some 2,none,.op false (.old (.assign (.const (.int .i64 1))))⟩])
 .ret)
 (.seq (.reg (some [3]) [⟨some 9,none,.op false (.old (.binOp .eql 3 (.tmp 3) (.const (.int .i64 (-1))) 3))⟩,⟨some 8,none,.op false (.old (.assign (.tmp 9)))⟩])
 (.cond (.tmp 8) (.seq (.reg (some []) [⟨some 2,none,.op false (.old (.assign (.const (.int .i64 2))))⟩])
 .ret)
 (.seq (.reg (some [3]) [⟨some 11,none,.op false (.old (.binOp .eql 3 (.tmp 3) (.const (.int .i64 1)) 3))⟩,⟨some 10,none,.op false (.old (.assign (.tmp 11)))⟩])
 (.cond (.tmp 10) (.seq (.reg (some []) [⟨some 2,none,.op false (.old (.assign (.const (.int .i64 3))))⟩])
 .ret)
 (.seq (.reg (some [3]) [⟨some 13,none,.op false (.old (.binOp .eql 3 (.tmp 3) (.const (.int .i64 3)) 3))⟩,⟨some 12,none,.op false (.old (.assign (.tmp 13)))⟩])
 (.cond (.tmp 12) (.seq (.reg (some []) [⟨some 2,none,.op false (.old (.assign (.const (.int .i64 4))))⟩])
 .ret)
 .skip))))))))))))
 (.seq (.reg (some []) [⟨some 2,none,.op false (.old (.assign (.const (.int .i64 (-1)))))⟩])
 .ret)),
 [.tmp 2],
 [],
 []⟩
theorem r50_ok : resFun (progU ()) hint live 50 Try.f50 = some r50 := by kernel_rfl
end Go.Proofs.Ytnokkniofajnhaa
