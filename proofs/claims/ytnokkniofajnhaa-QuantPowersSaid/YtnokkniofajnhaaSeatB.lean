/-
  THE RESOLVED FORM OF EACH FUNCTION OF THIS SEAT. (Written by seat2.sh; the kernel looks whether it is right.)
-/
import Derived.Test.YtnokkniofajnhaaSeat0
namespace Go.Proofs.Ytnokkniofajnhaa
open Go.Sim
set_option maxRecDepth 100000
def r84 : RFun :=
⟨.seq (.reg (some [0,1,2]) [⟨some 6,none,.op false (.old (.assign (.const (.int .u64 0))))⟩,⟨some 7,none,.op false (.old (.assign (.const (.int .u64 0))))⟩])
 (.seq (.seq (.reg (some [0,1,2]) [⟨some 19,none,.op false (.old (.move (.tmp 2)))⟩,⟨some 20,none,.op false (.old (.binOp .eql 80 (.tmp 19) (.const (.int .u64 0)) 80))⟩])
 (.cond (.tmp 20) (.reg (some [0,1,2]) [⟨some 21,none,.op false (.load1 .any (.global 0))⟩,⟨none,none,.op false (.old (.panic (.tmp 21)))⟩])
 .skip))
 (.seq (.seq (.reg (some [0,1,2]) [⟨some 22,none,.op false (.old (.move (.tmp 2)))⟩,⟨some 23,none,.op false (.old (.move (.tmp 0)))⟩,⟨some 24,none,.op false (.old (.binOp .leq 80 (.tmp 22) (.tmp 23) 80))⟩])
 (.cond (.tmp 24) (.reg (some [0,1,2]) [⟨some 25,none,.op false (.load1 .any (.global 1))⟩,⟨none,none,.op false (.old (.panic (.tmp 25)))⟩])
 .skip))
 (.seq (.seq (.reg (some [0,1,2]) [⟨some 26,none,.op false (.old (.move (.tmp 0)))⟩,⟨some 27,none,.op false (.old (.binOp .eql 80 (.tmp 26) (.const (.int .u64 0)) 80))⟩])
 (.cond (.tmp 27) (.seq (.draw (some [1,2]) 8 [⟨⟨some 28,none,.op false (.old (.move (.tmp 1)))⟩,0,.none,[2,6,7],false,true⟩,⟨⟨some 29,none,.op false (.old (.move (.tmp 2)))⟩,1,.none,[2,6,7],false,true⟩,⟨⟨some 30,none,.op false (.old (.binOp .quo 80 (.tmp 28) (.tmp 29) 80))⟩,2,.none,[6,7],false,true⟩,⟨⟨some 31,none,.op false (.old (.move (.tmp 1)))⟩,3,.none,[5,7],false,true⟩,⟨⟨some 32,none,.op false (.old (.move (.tmp 2)))⟩,4,.none,[5,7],false,true⟩,⟨⟨some 33,none,.op false (.old (.binOp .rem 80 (.tmp 31) (.tmp 32) 80))⟩,5,.none,[7],false,true⟩,⟨⟨some 6,none,.op false (.old (.assign (.tmp 30)))⟩,6,.none,[7],false,true⟩,⟨⟨some 7,none,.op false (.old (.assign (.tmp 33)))⟩,7,.none,[],false,true⟩])
 .ret)
 .skip))
 (.seq (.reg (some [0,1,2]) [⟨some 34,none,.op false (.old (.move (.tmp 2)))⟩,⟨some 35,none,.call (.func 99) [.tmp 34] (some (.val (.one (.int .i64))))⟩,⟨some 36,none,.op false (.convI .u64 (.tmp 35))⟩,⟨some 8,none,.op false (.old (.assign (.tmp 36)))⟩])
 (.seq (.reg (some [0,1,2,8]) [⟨some 37,none,.op false (.old (.move (.tmp 2)))⟩,⟨some 38,none,.op false (.old (.move (.tmp 8)))⟩,⟨some 39,none,.op false (.old (.binOp .shl 80 (.tmp 37) (.tmp 38) 100))⟩,⟨some 2,none,.op false (.old (.assign (.tmp 39)))⟩])
 (.seq (.reg (some [0,1,2,8]) [⟨some 40,none,.op false (.old (.move (.tmp 2)))⟩,⟨some 41,none,.op false (.old (.binOp .shr 80 (.tmp 40) (.const (.int .u64 32)) 100))⟩,⟨some 9,none,.op false (.old (.assign (.tmp 41)))⟩])
 (.seq (.reg (some [0,1,2,8,9]) [⟨some 42,none,.op false (.old (.move (.tmp 2)))⟩,⟨some 43,none,.op false (.old (.binOp .and 80 (.tmp 42) (.const (.int .u64 4294967295)) 80))⟩,⟨some 10,none,.op false (.old (.assign (.tmp 43)))⟩])
 (.seq (.reg (some [0,1,2,8,9,10]) [⟨some 44,none,.op false (.old (.move (.tmp 0)))⟩,⟨some 45,none,.op false (.old (.move (.tmp 8)))⟩,⟨some 46,none,.op false (.old (.binOp .shl 80 (.tmp 44) (.tmp 45) 100))⟩,⟨some 47,none,.op false (.old (.move (.tmp 1)))⟩,⟨some 48,none,.op false (.old (.move (.tmp 8)))⟩,⟨some 49,none,.op false (.old (.binOp .sub 100 (.const (.int .u64 64)) (.tmp 48) 100))⟩,⟨some 50,none,.op false (.old (.binOp .shr 80 (.tmp 47) (.tmp 49) 100))⟩,⟨some 51,none,.op false (.old (.binOp .or 80 (.tmp 46) (.tmp 50) 80))⟩,⟨some 11,none,.op false (.old (.assign (.tmp 51)))⟩])
 (.seq (.reg (some [1,2,8,9,10,11]) [⟨some 52,none,.op false (.old (.move (.tmp 1)))⟩,⟨some 53,none,.op false (.old (.move (.tmp 8)))⟩,⟨some 54,none,.op false (.old (.binOp .shl 80 (.tmp 52) (.tmp 53) 100))⟩,⟨some 12,none,.op false (.old (.assign (.tmp 54)))⟩])
 (.seq (.reg (some [2,8,9,10,11,12]) [⟨some 55,none,.op false (.old (.move (.tmp 12)))⟩,⟨some 56,none,.op false (.old (.binOp .shr 80 (.tmp 55) (.const (.int .u64 32)) 100))⟩,⟨some 13,none,.op false (.old (.assign (.tmp 56)))⟩])
 (.seq (.reg (some [2,8,9,10,11,12,13]) [⟨some 57,none,.op false (.old (.move (.tmp 12)))⟩,⟨some 58,none,.op false (.old (.binOp .and 80 (.tmp 57) (.const (.int .u64 4294967295)) 80))⟩,⟨some 14,none,.op false (.old (.assign (.tmp 58)))⟩])
 (.seq (.reg (some [2,8,9,10,11,13,14]) [⟨some 59,none,.op false (.old (.move (.tmp 11)))⟩,⟨some 60,none,.op false (.old (.move (.tmp 9)))⟩,⟨some 61,none,.op false (.old (.binOp .quo 80 (.tmp 59) (.tmp 60) 80))⟩,⟨some 15,none,.op false (.old (.assign (.tmp 61)))⟩])
 (.seq (.reg (some [2,8,9,10,11,13,14,15]) [⟨some 62,none,.op false (.old (.move (.tmp 11)))⟩,⟨some 63,none,.op false (.old (.move (.tmp 15)))⟩,⟨some 64,none,.op false (.old (.move (.tmp 9)))⟩,⟨some 65,none,.op false (.old (.binOp .mul 80 (.tmp 63) (.tmp 64) 80))⟩,⟨some 66,none,.op false (.old (.binOp .sub 80 (.tmp 62) (.tmp 65) 80))⟩,⟨some 16,none,.op false (.old (.assign (.tmp 66)))⟩])
 (.seq (.block 0 (.loop 17 none (some [2,8,9,10,11,13,14,15,16])))
 (.seq (.reg (some [2,8,9,10,11,13,14,15]) [⟨some 86,none,.op false (.old (.move (.tmp 11)))⟩,⟨some 87,none,.op false (.old (.binOp .mul 80 (.tmp 86) (.const (.int .u64 4294967296)) 80))⟩,⟨some 88,none,.op false (.old (.move (.tmp 13)))⟩,⟨some 89,none,.op false (.old (.binOp .add 80 (.tmp 87) (.tmp 88) 80))⟩,⟨some 90,none,.op false (.old (.move (.tmp 15)))⟩,⟨some 91,none,.op false (.old (.move (.tmp 2)))⟩,⟨some 92,none,.op false (.old (.binOp .mul 80 (.tmp 90) (.tmp 91) 80))⟩,⟨some 93,none,.op false (.old (.binOp .sub 80 (.tmp 89) (.tmp 92) 80))⟩,⟨some 17,none,.op false (.old (.assign (.tmp 93)))⟩])
 (.seq (.reg (some [2,8,9,10,14,15,17]) [⟨some 94,none,.op false (.old (.move (.tmp 17)))⟩,⟨some 95,none,.op false (.old (.move (.tmp 9)))⟩,⟨some 96,none,.op false (.old (.binOp .quo 80 (.tmp 94) (.tmp 95) 80))⟩,⟨some 18,none,.op false (.old (.assign (.tmp 96)))⟩])
 (.seq (.reg (some [2,8,9,10,14,15,17,18]) [⟨some 97,none,.op false (.old (.move (.tmp 17)))⟩,⟨some 98,none,.op false (.old (.move (.tmp 18)))⟩,⟨some 99,none,.op false (.old (.move (.tmp 9)))⟩,⟨some 100,none,.op false (.old (.binOp .mul 80 (.tmp 98) (.tmp 99) 80))⟩,⟨some 101,none,.op false (.old (.binOp .sub 80 (.tmp 97) (.tmp 100) 80))⟩,⟨some 16,none,.op false (.old (.assign (.tmp 101)))⟩])
 (.seq (.block 2 (.loop 24 none (some [2,8,9,10,14,15,16,17,18])))
 (.seq (.reg (some [2,8,14,15,17,18]) [⟨some 121,none,.op false (.old (.move (.tmp 15)))⟩,⟨some 122,none,.op false (.old (.binOp .mul 80 (.tmp 121) (.const (.int .u64 4294967296)) 80))⟩,⟨some 123,none,.op false (.old (.move (.tmp 18)))⟩,⟨some 124,none,.op false (.old (.binOp .add 80 (.tmp 122) (.tmp 123) 80))⟩,⟨some 125,none,.op false (.old (.move (.tmp 17)))⟩,⟨some 126,none,.op false (.old (.binOp .mul 80 (.tmp 125) (.const (.int .u64 4294967296)) 80))⟩,⟨some 127,none,.op false (.old (.move (.tmp 14)))⟩,⟨some 128,none,.op false (.old (.binOp .add 80 (.tmp 126) (.tmp 127) 80))⟩,⟨some 129,none,.op false (.old (.move (.tmp 18)))⟩,⟨some 130,none,.op false (.old (.move (.tmp 2)))⟩,⟨some 131,none,.op false (.old (.binOp .mul 80 (.tmp 129) (.tmp 130) 80))⟩,⟨some 132,none,.op false (.old (.binOp .sub 80 (.tmp 128) (.tmp 131) 80))⟩,⟨some 133,none,.op false (.old (.move (.tmp 8)))⟩,⟨some 134,none,.op false (.old (.binOp .shr 80 (.tmp 132) (.tmp 133) 100))⟩,⟨some 6,none,.op false (.old (.assign (.tmp 124)))⟩,⟨some 7,none,.op false (.old (.assign (.tmp 134)))⟩])
 .ret))))))))))))))))))),
 [.tmp 6,.tmp 7],
 [(17,⟨none,some [2,8,9,10,11,13,14,15,16],.seq (.seq (.reg (some [2,8,9,10,11,13,14,15,16]) [⟨some 67,none,.op false (.old (.move (.tmp 15)))⟩,⟨some 68,none,.op false (.old (.binOp .geq 80 (.tmp 67) (.const (.int .u64 4294967296)) 80))⟩,⟨some 69,none,.op false (.old (.move (.tmp 68)))⟩,⟨some 70,some (69,false),.op false (.old (.move (.tmp 15)))⟩,⟨some 71,some (69,false),.op false (.old (.move (.tmp 10)))⟩,⟨some 72,some (69,false),.op false (.old (.binOp .mul 80 (.tmp 70) (.tmp 71) 80))⟩,⟨some 73,some (69,false),.op false (.old (.move (.tmp 16)))⟩,⟨some 74,some (69,false),.op false (.old (.binOp .mul 80 (.const (.int .u64 4294967296)) (.tmp 73) 80))⟩,⟨some 75,some (69,false),.op false (.old (.move (.tmp 13)))⟩,⟨some 76,some (69,false),.op false (.old (.binOp .add 80 (.tmp 74) (.tmp 75) 80))⟩,⟨some 77,some (69,false),.op false (.old (.binOp .gtr 80 (.tmp 72) (.tmp 76) 80))⟩,⟨some 78,none,.op false (.old (.pick (.tmp 69) (.const (.bool true)) (.tmp 77)))⟩])
 (.cond (.tmp 78) .skip
 (.exit 0 (some [2,8,9,10,11,13,14,15]))))
 (.block 1 (.seq (.reg (some [2,8,9,10,11,13,14,15,16]) [⟨some 79,none,.op false (.old (.move (.tmp 15)))⟩,⟨some 80,none,.op false (.old (.binOp .sub 80 (.tmp 79) (.const (.int .u64 1)) 80))⟩,⟨some 15,none,.op false (.old (.assign (.tmp 80)))⟩])
 (.seq (.reg (some [2,8,9,10,11,13,14,15,16]) [⟨some 81,none,.op false (.old (.move (.tmp 16)))⟩,⟨some 82,none,.op false (.old (.move (.tmp 9)))⟩,⟨some 83,none,.op false (.old (.binOp .add 80 (.tmp 81) (.tmp 82) 80))⟩,⟨some 16,none,.op false (.old (.assign (.tmp 83)))⟩])
 (.seq (.reg (some [2,8,9,10,11,13,14,15,16]) [⟨some 84,none,.op false (.old (.move (.tmp 16)))⟩,⟨some 85,none,.op false (.old (.binOp .geq 80 (.tmp 84) (.const (.int .u64 4294967296)) 80))⟩])
 (.cond (.tmp 85) (.exit 0 (some [2,8,9,10,11,13,14,15]))
 .skip)))))⟩),(24,⟨none,some [2,8,9,10,14,15,16,17,18],.seq (.seq (.reg (some [2,8,9,10,14,15,16,17,18]) [⟨some 102,none,.op false (.old (.move (.tmp 18)))⟩,⟨some 103,none,.op false (.old (.binOp .geq 80 (.tmp 102) (.const (.int .u64 4294967296)) 80))⟩,⟨some 104,none,.op false (.old (.move (.tmp 103)))⟩,⟨some 105,some (104,false),.op false (.old (.move (.tmp 18)))⟩,⟨some 106,some (104,false),.op false (.old (.move (.tmp 10)))⟩,⟨some 107,some (104,false),.op false (.old (.binOp .mul 80 (.tmp 105) (.tmp 106) 80))⟩,⟨some 108,some (104,false),.op false (.old (.move (.tmp 16)))⟩,⟨some 109,some (104,false),.op false (.old (.binOp .mul 80 (.const (.int .u64 4294967296)) (.tmp 108) 80))⟩,⟨some 110,some (104,false),.op false (.old (.move (.tmp 14)))⟩,⟨some 111,some (104,false),.op false (.old (.binOp .add 80 (.tmp 109) (.tmp 110) 80))⟩,⟨some 112,some (104,false),.op false (.old (.binOp .gtr 80 (.tmp 107) (.tmp 111) 80))⟩,⟨some 113,none,.op false (.old (.pick (.tmp 104) (.const (.bool true)) (.tmp 112)))⟩])
 (.cond (.tmp 113) .skip
 (.exit 2 (some [2,8,14,15,17,18]))))
 (.block 3 (.seq (.reg (some [2,8,9,10,14,15,16,17,18]) [⟨some 114,none,.op false (.old (.move (.tmp 18)))⟩,⟨some 115,none,.op false (.old (.binOp .sub 80 (.tmp 114) (.const (.int .u64 1)) 80))⟩,⟨some 18,none,.op false (.old (.assign (.tmp 115)))⟩])
 (.seq (.reg (some [2,8,9,10,14,15,16,17,18]) [⟨some 116,none,.op false (.old (.move (.tmp 16)))⟩,⟨some 117,none,.op false (.old (.move (.tmp 9)))⟩,⟨some 118,none,.op false (.old (.binOp .add 80 (.tmp 116) (.tmp 117) 80))⟩,⟨some 16,none,.op false (.old (.assign (.tmp 118)))⟩])
 (.seq (.reg (some [2,8,9,10,14,15,16,17,18]) [⟨some 119,none,.op false (.old (.move (.tmp 16)))⟩,⟨some 120,none,.op false (.old (.binOp .geq 80 (.tmp 119) (.const (.int .u64 4294967296)) 80))⟩])
 (.cond (.tmp 120) (.exit 2 (some [2,8,14,15,17,18]))
 .skip)))))⟩)],
 []⟩
theorem r84_ok : resFun (progU ()) hint live 84 Try.f84 = some r84 := by kernel_rfl
def r85 : RFun :=
⟨.seq (.reg (some [0]) [⟨some 1,none,.op true (.box 2 (.tmp 0))⟩,⟨some 2,none,.op true (.new 2 [.int .i64 0,.int .i64 0])⟩])
 (.seq (.reg (some [1,2]) [⟨some 3,none,.op false (.fieldAddr 0 (.tmp 1))⟩,⟨some 4,none,.op false (.load1 (.int .i64) (.tmp 3))⟩,⟨some 5,none,.op false (.old (.unOp .neg 2 (.tmp 4)))⟩,⟨some 6,none,.op false (.fieldAddr 1 (.tmp 1))⟩,⟨some 7,none,.op false (.load1 (.int .i64) (.tmp 6))⟩,⟨some 8,none,.op false (.build [.int .i64 0,.int .i64 0] [(0,1,(.tmp 5)),(1,1,(.tmp 7))])⟩,⟨none,none,.op false (.store 2 (.tmp 2) (.tmp 8))⟩])
 .ret),
 [.agg 2 2 [.int .i64,.int .i64]],
 [],
 []⟩
theorem r85_ok : resFun (progU ()) hint live 85 Try.f85 = some r85 := by kernel_rfl
def r86 : RFun :=
⟨.seq (.reg (some [0,1]) [⟨some 2,none,.op false (.box 4 (.tmp 0))⟩,⟨some 3,none,.op false (.box 4 (.tmp 1))⟩,⟨some 4,none,.op true (.new 4 [.int .u64 0,.int .u64 0,.int .u64 0,.int .u64 0])⟩])
 (.seq (.reg (some [2,3,4]) [⟨some 5,none,.op false (.old (.assign (.const (.int .u64 0))))⟩])
 (.seq (.seq (.reg (some [2,3,4,5]) [⟨some 6,none,.op false (.old (.assign (.const (.int .i64 0))))⟩])
 (.block 0 (.loop 3 (some [2,3,4,5,6]) (some [2,3,4,5,6]))))
 (.seq (.reg (some [2,4]) [⟨some 29,none,.op false (.load 4 [.int .u64,.int .u64,.int .u64,.int .u64] (.tmp 2))⟩,⟨none,none,.op false (.store 4 (.tmp 4) (.tmp 29))⟩])
 .ret))),
 [.agg 4 4 [.int .u64,.int .u64,.int .u64,.int .u64]],
 [(3,⟨some [2,3,4,5,6],some [2,3,4,5,6],.seq (.seq (.reg (some [2,3,4,5,6]) [⟨some 7,none,.op false (.old (.move (.tmp 6)))⟩,⟨some 8,none,.op false (.old (.binOp .lss 3 (.tmp 7) (.const (.int .i64 4)) 3))⟩])
 (.cond (.tmp 8) .skip
 (.exit 0 (some [2,4]))))
 (.seq (.block 1 (.seq (.draw (some [2,3,4,5,6]) 12 [⟨⟨some 11,none,.op false (.old (.move (.tmp 5)))⟩,0,.none,[10,11],false,true⟩,⟨⟨some 12,none,.op false (.old (.move (.tmp 6)))⟩,1,.none,[3,4,9,10,11],false,true⟩,⟨⟨some 13,none,.op false (.fieldAddr 0 (.tmp 2))⟩,2,.none,[3,4,9,10,11],false,true⟩,⟨⟨some 14,none,.op false (.ixA 4 1 (.tmp 13) (.tmp 12))⟩,3,.none,[4,9,10,11],false,true⟩,⟨⟨some 15,none,.op false (.load1 (.int .u64) (.tmp 14))⟩,4,.blk (.tmp 14),[9,10,11],false,true⟩,⟨⟨some 16,none,.op false (.old (.move (.tmp 6)))⟩,5,.none,[7,8,9,10,11],false,true⟩,⟨⟨some 17,none,.op false (.fieldAddr 0 (.tmp 3))⟩,6,.none,[7,8,9,10,11],false,true⟩,⟨⟨some 18,none,.op false (.ixA 4 1 (.tmp 17) (.tmp 16))⟩,7,.none,[8,9,10,11],false,true⟩,⟨⟨some 19,none,.op false (.load1 (.int .u64) (.tmp 18))⟩,8,.blk (.tmp 18),[9,10,11],false,true⟩,⟨⟨some 20,none,.op false (.old (.binOp .add 80 (.tmp 15) (.tmp 19) 80))⟩,9,.none,[10,11],false,true⟩,⟨⟨some 21,none,.op false (.old (.binOp .add 80 (.tmp 11) (.tmp 20) 80))⟩,10,.none,[11],false,true⟩,⟨⟨some 5,none,.op false (.old (.assign (.tmp 21)))⟩,11,.none,[],false,true⟩])
 (.seq (.reg (some [2,3,4,5,6]) [⟨some 22,none,.op false (.old (.move (.tmp 6)))⟩,⟨some 23,none,.op false (.old (.move (.tmp 5)))⟩,⟨some 24,none,.op false (.old (.binOp .and 80 (.tmp 23) (.const (.int .u64 4294967295)) 80))⟩,⟨some 25,none,.op false (.fieldAddr 0 (.tmp 2))⟩,⟨some 26,none,.op false (.ixA 4 1 (.tmp 25) (.tmp 22))⟩,⟨none,none,.op false (.store 1 (.tmp 26) (.tmp 24))⟩])
 (.reg (some [2,3,4,5,6]) [⟨some 27,none,.op false (.old (.move (.tmp 5)))⟩,⟨some 28,none,.op false (.old (.binOp .shr 80 (.tmp 27) (.const (.int .u64 32)) 100))⟩,⟨some 5,none,.op false (.old (.assign (.tmp 28)))⟩]))))
 (.reg (some [2,3,4,5,6]) [⟨some 9,none,.op false (.old (.move (.tmp 6)))⟩,⟨some 10,none,.op false (.old (.binOp .add 3 (.tmp 9) (.const (.int .i64 1)) 3))⟩,⟨some 6,none,.op false (.old (.assign (.tmp 10)))⟩]))⟩)],
 []⟩
theorem r86_ok : resFun (progU ()) hint live 86 Try.f86 = some r86 := by kernel_rfl
def r87 : RFun :=
⟨.seq (.reg (some [0,1]) [⟨some 2,none,.op false (.box 4 (.tmp 0))⟩,⟨some 3,none,.op false (.box 4 (.tmp 1))⟩,⟨some 4,none,.op true (.new 4 [.int .u64 0,.int .u64 0,.int .u64 0,.int .u64 0])⟩])
 (.seq (.reg (some [2,3,4]) [⟨some 5,none,.op false (.old (.assign (.const (.int .u64 0))))⟩])
 (.seq (.seq (.reg (some [2,3,4,5]) [⟨some 6,none,.op false (.old (.assign (.const (.int .i64 0))))⟩])
 (.block 0 (.loop 3 (some [2,3,4,5,6]) (some [2,3,4,5,6]))))
 (.seq (.reg (some [2,4]) [⟨some 33,none,.op false (.load 4 [.int .u64,.int .u64,.int .u64,.int .u64] (.tmp 2))⟩,⟨none,none,.op false (.store 4 (.tmp 4) (.tmp 33))⟩])
 .ret))),
 [.agg 4 4 [.int .u64,.int .u64,.int .u64,.int .u64]],
 [(3,⟨some [2,3,4,5,6],some [2,3,4,5,6],.seq (.seq (.reg (some [2,3,4,5,6]) [⟨some 8,none,.op false (.old (.move (.tmp 6)))⟩,⟨some 9,none,.op false (.old (.binOp .lss 3 (.tmp 8) (.const (.int .i64 4)) 3))⟩])
 (.cond (.tmp 9) .skip
 (.exit 0 (some [2,4]))))
 (.seq (.block 1 (.seq (.draw (some [2,3,4,5,6]) 14 [⟨⟨some 12,none,.op false (.old (.move (.tmp 6)))⟩,0,.none,[2,3,4,5,10,12,13],false,true⟩,⟨⟨some 13,none,.op false (.fieldAddr 0 (.tmp 2))⟩,1,.none,[2,3,4,5,10,12,13],false,true⟩,⟨⟨some 14,none,.op false (.ixA 4 1 (.tmp 13) (.tmp 12))⟩,2,.none,[3,4,5,10,12,13],false,true⟩,⟨⟨some 15,none,.op false (.load1 (.int .u64) (.tmp 14))⟩,3,.blk (.tmp 14),[4,5,10,12,13],false,true⟩,⟨⟨some 16,none,.op false (.old (.binOp .add 80 (.tmp 15) (.const (.int .u64 4294967295)) 80))⟩,4,.none,[5,10,12,13],false,true⟩,⟨⟨some 17,none,.op false (.old (.binOp .add 80 (.tmp 16) (.const (.int .u64 1)) 80))⟩,5,.none,[10,12,13],false,true⟩,⟨⟨some 18,none,.op false (.old (.move (.tmp 6)))⟩,6,.none,[8,9,10,12,13],false,true⟩,⟨⟨some 19,none,.op false (.fieldAddr 0 (.tmp 3))⟩,7,.none,[8,9,10,12,13],false,true⟩,⟨⟨some 20,none,.op false (.ixA 4 1 (.tmp 19) (.tmp 18))⟩,8,.none,[9,10,12,13],false,true⟩,⟨⟨some 21,none,.op false (.load1 (.int .u64) (.tmp 20))⟩,9,.blk (.tmp 20),[10,12,13],false,true⟩,⟨⟨some 22,none,.op false (.old (.binOp .sub 80 (.tmp 17) (.tmp 21) 80))⟩,10,.none,[12,13],false,true⟩,⟨⟨some 23,none,.op false (.old (.move (.tmp 5)))⟩,11,.none,[12,13],false,true⟩,⟨⟨some 24,none,.op false (.old (.binOp .sub 80 (.tmp 22) (.tmp 23) 80))⟩,12,.none,[13],false,true⟩,⟨⟨some 7,none,.op false (.old (.assign (.tmp 24)))⟩,13,.none,[],false,true⟩])
 (.seq (.reg (some [2,3,4,6,7]) [⟨some 25,none,.op false (.old (.move (.tmp 6)))⟩,⟨some 26,none,.op false (.old (.move (.tmp 7)))⟩,⟨some 27,none,.op false (.old (.binOp .and 80 (.tmp 26) (.const (.int .u64 4294967295)) 80))⟩,⟨some 28,none,.op false (.fieldAddr 0 (.tmp 2))⟩,⟨some 29,none,.op false (.ixA 4 1 (.tmp 28) (.tmp 25))⟩,⟨none,none,.op false (.store 1 (.tmp 29) (.tmp 27))⟩])
 (.reg (some [2,3,4,6,7]) [⟨some 30,none,.op false (.old (.move (.tmp 7)))⟩,⟨some 31,none,.op false (.old (.binOp .shr 80 (.tmp 30) (.const (.int .u64 32)) 100))⟩,⟨some 32,none,.op false (.old (.binOp .sub 80 (.const (.int .u64 1)) (.tmp 31) 80))⟩,⟨some 5,none,.op false (.old (.assign (.tmp 32)))⟩]))))
 (.reg (some [2,3,4,5,6]) [⟨some 10,none,.op false (.old (.move (.tmp 6)))⟩,⟨some 11,none,.op false (.old (.binOp .add 3 (.tmp 10) (.const (.int .i64 1)) 3))⟩,⟨some 6,none,.op false (.old (.assign (.tmp 11)))⟩]))⟩)],
 []⟩
theorem r87_ok : resFun (progU ()) hint live 87 Try.f87 = some r87 := by kernel_rfl
def r88 : RFun :=
⟨.seq (.reg (some [0,1]) [⟨some 2,none,.op false (.box 4 (.tmp 0))⟩,⟨some 4,none,.op true (.new 4 [.int .u64 0,.int .u64 0,.int .u64 0,.int .u64 0])⟩,⟨some 5,none,.op false (.old (.assign (.const (.int .u64 0))))⟩])
 (.seq (.reg (some [1,2,4]) [⟨some 10,none,.op false (.build [.int .u64 0,.int .u64 0,.int .u64 0,.int .u64 0] [])⟩,⟨some 6,none,.op false (.new 4 [.int .u64 0,.int .u64 0,.int .u64 0,.int .u64 0])⟩,⟨none,none,.op false (.store 4 (.tmp 6) (.tmp 10))⟩,⟨some 7,none,.op false (.old (.assign (.const (.int .u64 0))))⟩])
 (.seq (.seq (.reg (some [1,2,4,6,7]) [⟨some 8,none,.op false (.old (.assign (.const (.int .i64 3))))⟩])
 (.block 0 (.loop 3 (some [1,2,4,6,7,8]) (some [1,2,4,6,7,8]))))
 (.seq (.reg (some [4,6,7]) [⟨some 44,none,.op false (.load 4 [.int .u64,.int .u64,.int .u64,.int .u64] (.tmp 6))⟩,⟨some 45,none,.op false (.old (.move (.tmp 7)))⟩,⟨none,none,.op false (.store 4 (.tmp 4) (.tmp 44))⟩,⟨some 5,none,.op false (.old (.assign (.tmp 45)))⟩])
 .ret))),
 [.agg 4 4 [.int .u64,.int .u64,.int .u64,.int .u64],.tmp 5],
 [(3,⟨some [1,2,4,6,7,8],some [1,2,4,6,7,8],.seq (.seq (.reg (some [1,2,4,6,7,8]) [⟨some 11,none,.op false (.old (.move (.tmp 8)))⟩,⟨some 12,none,.op false (.old (.binOp .geq 3 (.tmp 11) (.const (.int .i64 0)) 3))⟩])
 (.cond (.tmp 12) .skip
 (.exit 0 (some [4,6,7]))))
 (.seq (.block 1 (.seq (.reg (some [1,2,4,6,7,8]) [⟨some 9,none,.op false (.old (.assign (.const (.int .i64 31))))⟩])
 (.block 2 (.loop 6 (some [1,2,4,6,7,8,9]) (some [1,2,4,6,7,8,9])))))
 (.reg (some [1,2,4,6,7,8]) [⟨some 13,none,.op false (.old (.move (.tmp 8)))⟩,⟨some 14,none,.op false (.old (.binOp .sub 3 (.tmp 13) (.const (.int .i64 1)) 3))⟩,⟨some 8,none,.op false (.old (.assign (.tmp 14)))⟩]))⟩),(6,⟨some [1,2,4,6,7,8,9],some [1,2,4,6,7,8,9],.seq (.seq (.reg (some [1,2,4,6,7,8,9]) [⟨some 15,none,.op false (.old (.move (.tmp 9)))⟩,⟨some 16,none,.op false (.old (.binOp .geq 3 (.tmp 15) (.const (.int .i64 0)) 3))⟩])
 (.cond (.tmp 16) .skip
 (.exit 2 (some [1,2,4,6,7,8]))))
 (.seq (.block 3 (.seq (.reg (some [1,2,4,6,7,8,9]) [⟨some 19,none,.op false (.old (.move (.tmp 7)))⟩,⟨some 20,none,.op false (.old (.binOp .shl 80 (.tmp 19) (.const (.int .u64 1)) 100))⟩,⟨some 21,none,.op false (.old (.move (.tmp 8)))⟩,⟨some 22,none,.op false (.fieldAddr 0 (.tmp 2))⟩,⟨some 23,none,.op false (.ixA 4 1 (.tmp 22) (.tmp 21))⟩,⟨some 24,none,.op false (.load1 (.int .u64) (.tmp 23))⟩,⟨some 25,none,.op false (.old (.move (.tmp 9)))⟩,⟨some 26,none,.op false (.old (.binOp .shr 80 (.tmp 24) (.tmp 25) 3))⟩,⟨some 27,none,.op false (.old (.binOp .and 80 (.tmp 26) (.const (.int .u64 1)) 80))⟩,⟨some 28,none,.op false (.old (.binOp .or 80 (.tmp 20) (.tmp 27) 80))⟩,⟨some 7,none,.op false (.old (.assign (.tmp 28)))⟩])
 (.seq (.reg (some [1,2,4,6,7,8,9]) [⟨some 29,none,.op false (.old (.move (.tmp 7)))⟩,⟨some 30,none,.op false (.old (.move (.tmp 1)))⟩,⟨some 31,none,.op false (.old (.binOp .geq 80 (.tmp 29) (.tmp 30) 80))⟩])
 (.cond (.tmp 31) (.seq (.reg (some [1,2,4,6,7,8,9]) [⟨some 32,none,.op false (.old (.move (.tmp 7)))⟩,⟨some 33,none,.op false (.old (.move (.tmp 1)))⟩,⟨some 34,none,.op false (.old (.binOp .sub 80 (.tmp 32) (.tmp 33) 80))⟩,⟨some 7,none,.op false (.old (.assign (.tmp 34)))⟩])
 (.draw (some [1,2,4,6,7,8,9]) 10 [⟨⟨some 35,none,.op false (.old (.move (.tmp 8)))⟩,0,.none,[2,3,6,8,9],false,true⟩,⟨⟨some 36,none,.op false (.fieldAddr 0 (.tmp 6))⟩,1,.none,[2,3,6,8,9],false,true⟩,⟨⟨some 37,none,.op false (.ixA 4 1 (.tmp 36) (.tmp 35))⟩,2,.none,[3,6,8,9],false,true⟩,⟨⟨some 38,none,.op false (.load1 (.int .u64) (.tmp 37))⟩,3,.blk (.tmp 37),[6,8,9],false,true⟩,⟨⟨some 39,none,.op false (.old (.move (.tmp 9)))⟩,4,.none,[5,6,8,9],false,true⟩,⟨⟨some 40,none,.op false (.old (.binOp .shl 80 (.const (.int .u64 1)) (.tmp 39) 3))⟩,5,.none,[6,8,9],false,true⟩,⟨⟨some 41,none,.op false (.old (.binOp .or 80 (.tmp 38) (.tmp 40) 80))⟩,6,.none,[8,9],false,true⟩,⟨⟨some 42,none,.op false (.fieldAddr 0 (.tmp 6))⟩,7,.none,[8,9],false,true⟩,⟨⟨some 43,none,.op false (.ixA 4 1 (.tmp 42) (.tmp 35))⟩,8,.none,[9],false,true⟩,⟨⟨none,none,.op false (.store 1 (.tmp 43) (.tmp 41))⟩,9,.blk (.tmp 43),[],true,true⟩]))
 .skip))))
 (.reg (some [1,2,4,6,7,8,9]) [⟨some 17,none,.op false (.old (.move (.tmp 9)))⟩,⟨some 18,none,.op false (.old (.binOp .sub 3 (.tmp 17) (.const (.int .i64 1)) 3))⟩,⟨some 9,none,.op false (.old (.assign (.tmp 18)))⟩]))⟩)],
 []⟩
theorem r88_ok : resFun (progU ()) hint live 88 Try.f88 = some r88 := by kernel_rfl
def r98 : RFun :=
⟨.seq (.reg (some [0]) [⟨some 2,none,.op false (.old (.assign (.const (.int .i64 0))))⟩])
 (.seq (.seq (.reg (some [0,2]) [⟨some 3,none,.op false (.old (.move (.tmp 0)))⟩,⟨some 4,none,.op false (.old (.binOp .geq 80 (.tmp 3) (.const (.int .u64 4294967296)) 80))⟩])
 (.cond (.tmp 4) (.seq (.reg (some [0]) [⟨some 5,none,.op false (.old (.move (.tmp 0)))⟩,⟨some 6,none,.op false (.old (.binOp .shr 80 (.tmp 5) (.const (.int .u64 32)) 100))⟩,⟨some 0,none,.op false (.old (.assign (.tmp 6)))⟩])
 (.reg (some [0]) [⟨some 2,none,.op false (.old (.assign (.const (.int .i64 32))))⟩]))
 .skip))
 (.seq (.seq (.reg (some [0,2]) [⟨some 7,none,.op false (.old (.move (.tmp 0)))⟩,⟨some 8,none,.op false (.old (.binOp .geq 80 (.tmp 7) (.const (.int .u64 65536)) 80))⟩])
 (.cond (.tmp 8) (.seq (.reg (some [0,2]) [⟨some 9,none,.op false (.old (.move (.tmp 0)))⟩,⟨some 10,none,.op false (.old (.binOp .shr 80 (.tmp 9) (.const (.int .u64 16)) 100))⟩,⟨some 0,none,.op false (.old (.assign (.tmp 10)))⟩])
 (.reg (some [0,2]) [⟨some 11,none,.op false (.old (.move (.tmp 2)))⟩,⟨some 12,none,.op false (.old (.binOp .add 3 (.tmp 11) (.const (.int .i64 16)) 3))⟩,⟨some 2,none,.op false (.old (.assign (.tmp 12)))⟩]))
 .skip))
 (.seq (.seq (.reg (some [0,2]) [⟨some 13,none,.op false (.old (.move (.tmp 0)))⟩,⟨some 14,none,.op false (.old (.binOp .geq 80 (.tmp 13) (.const (.int .u64 256)) 80))⟩])
 (.cond (.tmp 14) (.seq (.reg (some [0,2]) [⟨some 15,none,.op false (.old (.move (.tmp 0)))⟩,⟨some 16,none,.op false (.old (.binOp .shr 80 (.tmp 15) (.const (.int .u64 8)) 100))⟩,⟨some 0,none,.op false (.old (.assign (.tmp 16)))⟩])
 (.reg (some [0,2]) [⟨some 17,none,.op false (.old (.move (.tmp 2)))⟩,⟨some 18,none,.op false (.old (.binOp .add 3 (.tmp 17) (.const (.int .i64 8)) 3))⟩,⟨some 2,none,.op false (.old (.assign (.tmp 18)))⟩]))
 .skip))
 (.seq (.reg (some [0,2]) [⟨some 19,none,.op false (.old (.move (.tmp 2)))⟩,⟨some 20,none,.op false (.old (.move (.tmp 0)))⟩,⟨some 21,none,.op false (.convI .u8 (.tmp 20))⟩,⟨some 22,none,.op false (.old (.index 9 (.const (.string ⟨#[0,1,2,2,3,3,3,3,4,4,4,4,4,4,4,4,5,5,5,5,5,5,5,5,5,5,5,5,5,5,5,5,6,6,6,6,6,6,6,6,6,6,6,6,6,6,6,6,6,6,6,6,6,6,6,6,6,6,6,6,6,6,6,6,7,7,7,7,7,7,7,7,7,7,7,7,7,7,7,7,7,7,7,7,7,7,7,7,7,7,7,7,7,7,7,7,7,7,7,7,7,7,7,7,7,7,7,7,7,7,7,7,7,7,7,7,7,7,7,7,7,7,7,7,7,7,7,7,8,8,8,8,8,8,8,8,8,8,8,8,8,8,8,8,8,8,8,8,8,8,8,8,8,8,8,8,8,8,8,8,8,8,8,8,8,8,8,8,8,8,8,8,8,8,8,8,8,8,8,8,8,8,8,8,8,8,8,8,8,8,8,8,8,8,8,8,8,8,8,8,8,8,8,8,8,8,8,8,8,8,8,8,8,8,8,8,8,8,8,8,8,8,8,8,8,8,8,8,8,8,8,8,8,8,8,8,8,8,8,8,8,8,8,8,8,8,8,8,8,8,8,8,8,8,8,8]⟩)) (.tmp 21)))⟩,⟨some 23,none,.op false (.convI .i64 (.tmp 22))⟩,⟨some 24,none,.op false (.old (.binOp .add 3 (.tmp 19) (.tmp 23) 3))⟩,⟨some 2,none,.op false (.old (.assign (.tmp 24)))⟩])
 .ret)))),
 [.tmp 2],
 [],
 []⟩
theorem r98_ok : resFun (progU ()) hint live 98 Try.f98 = some r98 := by kernel_rfl
def r99 : RFun :=
⟨.seq (.reg (some [0]) [⟨some 2,none,.op false (.old (.assign (.const (.int .i64 0))))⟩])
 (.seq (.reg (some [0]) [⟨some 3,none,.op false (.old (.move (.tmp 0)))⟩,⟨some 4,none,.call (.func 98) [.tmp 3] (some (.val (.one (.int .i64))))⟩,⟨some 5,none,.op false (.old (.binOp .sub 3 (.const (.int .i64 64)) (.tmp 4) 3))⟩,⟨some 2,none,.op false (.old (.assign (.tmp 5)))⟩])
 .ret),
 [.tmp 2],
 [],
 []⟩
theorem r99_ok : resFun (progU ()) hint live 99 Try.f99 = some r99 := by kernel_rfl
end Go.Proofs.Ytnokkniofajnhaa
