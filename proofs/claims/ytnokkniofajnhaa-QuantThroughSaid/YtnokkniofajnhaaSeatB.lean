import Derived.Test.YtnokkniofajnhaaSeat0
import Derived.Test.YtnokkniofajnhaaSymS
set_option linter.unusedSimpArgs false
set_option linter.unusedVariables false
namespace Go.Proofs.Ytnokkniofajnhaa
open Go.Sim
set_option maxRecDepth 100000
def r84 : RFun :=
⟨.seq (.reg (some [0,1,2]) [Ol 6 (.assign (.const (.int .u64 0))),Ol 7 (.assign (.const (.int .u64 0)))])
 (.seq (.seq (.reg (some [0,1,2]) [Mv 19 2,Bc 20 .eql 80 19 .u64 0])
 (.cond (.tmp 20) (.reg (some [0,1,2]) [Ro 21 (.load1 .any (.global 0)),⟨none,none,.op false (.old (.panic (.tmp 21)))⟩])
 .skip))
 (.seq (.seq (.reg (some [0,1,2]) [Mv 22 2,Mv 23 0,Bt 24 .leq 80 22 23])
 (.cond (.tmp 24) (.reg (some [0,1,2]) [Ro 25 (.load1 .any (.global 1)),⟨none,none,.op false (.old (.panic (.tmp 25)))⟩])
 .skip))
 (.seq (.seq (.reg (some [0,1,2]) [Mv 26 0,Bc 27 .eql 80 26 .u64 0])
 (.cond (.tmp 27) (.seq (.draw (some [1,2]) 8 [Dr (Mv 28 1) 0 [2,6,7],Dr (Mv 29 2) 1 [2,6,7],Dr (Bt 30 .quo 80 28 29) 2 [6,7],Dr (Mv 31 1) 3 [5,7],Dr (Mv 32 2) 4 [5,7],Dr (Bt 33 .rem 80 31 32) 5 [7],Dr (As 6 30) 6 [7],Dr (As 7 33) 7 []])
 .ret)
 .skip))
 (.seq (.reg (some [0,1,2]) [Mv 34 2,Ca 35 99 [.tmp 34] (some (.val (.one (.int .i64)))),Ro 36 (.convI .u64 (.tmp 35)),As 8 36])
 (.seq (.reg (some [0,1,2,8]) [Mv 37 2,Mv 38 8,Ol 39 (.binOp .shl 80 (.tmp 37) (.tmp 38) 100),As 2 39])
 (.seq (.reg (some [0,1,2,8]) [Mv 40 2,Ol 41 (.binOp .shr 80 (.tmp 40) (.const (.int .u64 32)) 100),As 9 41])
 (.seq (.reg (some [0,1,2,8,9]) [Mv 42 2,Bc 43 .and 80 42 .u64 4294967295,As 10 43])
 (.seq (.reg (some [0,1,2,8,9,10]) [Mv 44 0,Mv 45 8,Ol 46 (.binOp .shl 80 (.tmp 44) (.tmp 45) 100),Mv 47 1,Mv 48 8,Ol 49 (.binOp .sub 100 (.const (.int .u64 64)) (.tmp 48) 100),Ol 50 (.binOp .shr 80 (.tmp 47) (.tmp 49) 100),Bt 51 .or 80 46 50,As 11 51])
 (.seq (.reg (some [1,2,8,9,10,11]) [Mv 52 1,Mv 53 8,Ol 54 (.binOp .shl 80 (.tmp 52) (.tmp 53) 100),As 12 54])
 (.seq (.reg (some [2,8,9,10,11,12]) [Mv 55 12,Ol 56 (.binOp .shr 80 (.tmp 55) (.const (.int .u64 32)) 100),As 13 56])
 (.seq (.reg (some [2,8,9,10,11,12,13]) [Mv 57 12,Bc 58 .and 80 57 .u64 4294967295,As 14 58])
 (.seq (.reg (some [2,8,9,10,11,13,14]) [Mv 59 11,Mv 60 9,Bt 61 .quo 80 59 60,As 15 61])
 (.seq (.reg (some [2,8,9,10,11,13,14,15]) [Mv 62 11,Mv 63 15,Mv 64 9,Bt 65 .mul 80 63 64,Bt 66 .sub 80 62 65,As 16 66])
 (.seq (.block 0 (.loop 17 none (some [2,8,9,10,11,13,14,15,16])))
 (.seq (.reg (some [2,8,9,10,11,13,14,15]) [Mv 86 11,Bc 87 .mul 80 86 .u64 4294967296,Mv 88 13,Bt 89 .add 80 87 88,Mv 90 15,Mv 91 2,Bt 92 .mul 80 90 91,Bt 93 .sub 80 89 92,As 17 93])
 (.seq (.reg (some [2,8,9,10,14,15,17]) [Mv 94 17,Mv 95 9,Bt 96 .quo 80 94 95,As 18 96])
 (.seq (.reg (some [2,8,9,10,14,15,17,18]) [Mv 97 17,Mv 98 18,Mv 99 9,Bt 100 .mul 80 98 99,Bt 101 .sub 80 97 100,As 16 101])
 (.seq (.block 2 (.loop 24 none (some [2,8,9,10,14,15,16,17,18])))
 (.seq (.reg (some [2,8,14,15,17,18]) [Mv 121 15,Bc 122 .mul 80 121 .u64 4294967296,Mv 123 18,Bt 124 .add 80 122 123,Mv 125 17,Bc 126 .mul 80 125 .u64 4294967296,Mv 127 14,Bt 128 .add 80 126 127,Mv 129 18,Mv 130 2,Bt 131 .mul 80 129 130,Bt 132 .sub 80 128 131,Mv 133 8,Ol 134 (.binOp .shr 80 (.tmp 132) (.tmp 133) 100),As 6 124,As 7 134])
 .ret))))))))))))))))))),
 [.tmp 6,.tmp 7],
 [(17,⟨none,some [2,8,9,10,11,13,14,15,16],.seq (.seq (.reg (some [2,8,9,10,11,13,14,15,16]) [Mv 67 15,Bc 68 .geq 80 67 .u64 4294967296,Mv 69 68,⟨some 70,some (69,false),.op false (.old (.move (.tmp 15)))⟩,⟨some 71,some (69,false),.op false (.old (.move (.tmp 10)))⟩,⟨some 72,some (69,false),.op false (.old (.binOp .mul 80 (.tmp 70) (.tmp 71) 80))⟩,⟨some 73,some (69,false),.op false (.old (.move (.tmp 16)))⟩,⟨some 74,some (69,false),.op false (.old (.binOp .mul 80 (.const (.int .u64 4294967296)) (.tmp 73) 80))⟩,⟨some 75,some (69,false),.op false (.old (.move (.tmp 13)))⟩,⟨some 76,some (69,false),.op false (.old (.binOp .add 80 (.tmp 74) (.tmp 75) 80))⟩,⟨some 77,some (69,false),.op false (.old (.binOp .gtr 80 (.tmp 72) (.tmp 76) 80))⟩,Ol 78 (.pick (.tmp 69) (.const (.bool true)) (.tmp 77))])
 (.cond (.tmp 78) .skip
 (.exit 0 (some [2,8,9,10,11,13,14,15]))))
 (.block 1 (.seq (.reg (some [2,8,9,10,11,13,14,15,16]) [Mv 79 15,Bc 80 .sub 80 79 .u64 1,As 15 80])
 (.seq (.reg (some [2,8,9,10,11,13,14,15,16]) [Mv 81 16,Mv 82 9,Bt 83 .add 80 81 82,As 16 83])
 (.seq (.reg (some [2,8,9,10,11,13,14,15,16]) [Mv 84 16,Bc 85 .geq 80 84 .u64 4294967296])
 (.cond (.tmp 85) (.exit 0 (some [2,8,9,10,11,13,14,15]))
 .skip)))))⟩),(24,⟨none,some [2,8,9,10,14,15,16,17,18],.seq (.seq (.reg (some [2,8,9,10,14,15,16,17,18]) [Mv 102 18,Bc 103 .geq 80 102 .u64 4294967296,Mv 104 103,⟨some 105,some (104,false),.op false (.old (.move (.tmp 18)))⟩,⟨some 106,some (104,false),.op false (.old (.move (.tmp 10)))⟩,⟨some 107,some (104,false),.op false (.old (.binOp .mul 80 (.tmp 105) (.tmp 106) 80))⟩,⟨some 108,some (104,false),.op false (.old (.move (.tmp 16)))⟩,⟨some 109,some (104,false),.op false (.old (.binOp .mul 80 (.const (.int .u64 4294967296)) (.tmp 108) 80))⟩,⟨some 110,some (104,false),.op false (.old (.move (.tmp 14)))⟩,⟨some 111,some (104,false),.op false (.old (.binOp .add 80 (.tmp 109) (.tmp 110) 80))⟩,⟨some 112,some (104,false),.op false (.old (.binOp .gtr 80 (.tmp 107) (.tmp 111) 80))⟩,Ol 113 (.pick (.tmp 104) (.const (.bool true)) (.tmp 112))])
 (.cond (.tmp 113) .skip
 (.exit 2 (some [2,8,14,15,17,18]))))
 (.block 3 (.seq (.reg (some [2,8,9,10,14,15,16,17,18]) [Mv 114 18,Bc 115 .sub 80 114 .u64 1,As 18 115])
 (.seq (.reg (some [2,8,9,10,14,15,16,17,18]) [Mv 116 16,Mv 117 9,Bt 118 .add 80 116 117,As 16 118])
 (.seq (.reg (some [2,8,9,10,14,15,16,17,18]) [Mv 119 16,Bc 120 .geq 80 119 .u64 4294967296])
 (.cond (.tmp 120) (.exit 2 (some [2,8,14,15,17,18]))
 .skip)))))⟩)],
 []⟩
theorem r84_ok : resFun (progU ()) hint live 84 Try.f84 = some r84:=by kernel_rfl
def r85 : RFun :=
⟨.seq (.reg (some [0]) [⟨some 1,none,.op true (.box 2 (.tmp 0))⟩,⟨some 2,none,.op true (.new 2 [.int .i64 0,.int .i64 0])⟩])
 (.seq (.reg (some [1,2]) [Fa 3 0 1,L1 4 3,Ol 5 (.unOp .neg 2 (.tmp 4)),Fa 6 1 1,L1 7 6,Ro 8 (.build [.int .i64 0,.int .i64 0] [(0,1,(.tmp 5)),(1,1,(.tmp 7))]),⟨none,none,.op false (.store 2 (.tmp 2) (.tmp 8))⟩])
 .ret),
 [.agg 2 2 [.int .i64,.int .i64]],
 [],
 []⟩
theorem r85_ok : resFun (progU ()) hint live 85 Try.f85 = some r85:=by kernel_rfl
def r86 : RFun :=
⟨.seq (.reg (some [0,1]) [Ro 2 (.box 4 (.tmp 0)),Ro 3 (.box 4 (.tmp 1)),⟨some 4,none,.op true (.new 4 [.int .u64 0,.int .u64 0,.int .u64 0,.int .u64 0])⟩])
 (.seq (.reg (some [2,3,4]) [Ol 5 (.assign (.const (.int .u64 0)))])
 (.seq (.seq (.reg (some [2,3,4,5]) [Ac 6 0])
 (.block 0 (.loop 3 (some [2,3,4,5,6]) (some [2,3,4,5,6]))))
 (.seq (.reg (some [2,4]) [Ro 29 (.load 4 [.int .u64,.int .u64,.int .u64,.int .u64] (.tmp 2)),⟨none,none,.op false (.store 4 (.tmp 4) (.tmp 29))⟩])
 .ret))),
 [.agg 4 4 [.int .u64,.int .u64,.int .u64,.int .u64]],
 [(3,⟨some [2,3,4,5,6],some [2,3,4,5,6],.seq (.seq (.reg (some [2,3,4,5,6]) [Mv 7 6,Bc 8 .lss 3 7 .i64 4])
 (.cond (.tmp 8) .skip
 (.exit 0 (some [2,4]))))
 (.seq (.block 1 (.seq (.draw (some [2,3,4,5,6]) 12 [Dr (Mv 11 5) 0 [10,11],Dr (Mv 12 6) 1 [3,4,9,10,11],Dr (Fa 13 0 2) 2 [3,4,9,10,11],Dr (Ro 14 (.ixA 4 1 (.tmp 13) (.tmp 12))) 3 [4,9,10,11],Db (Ro 15 (.load1 (.int .u64) (.tmp 14))) 4 14 [9,10,11],Dr (Mv 16 6) 5 [7,8,9,10,11],Dr (Fa 17 0 3) 6 [7,8,9,10,11],Dr (Ro 18 (.ixA 4 1 (.tmp 17) (.tmp 16))) 7 [8,9,10,11],Db (Ro 19 (.load1 (.int .u64) (.tmp 18))) 8 18 [9,10,11],Dr (Bt 20 .add 80 15 19) 9 [10,11],Dr (Bt 21 .add 80 11 20) 10 [11],Dr (As 5 21) 11 []])
 (.seq (.reg (some [2,3,4,5,6]) [Mv 22 6,Mv 23 5,Bc 24 .and 80 23 .u64 4294967295,Fa 25 0 2,Ro 26 (.ixA 4 1 (.tmp 25) (.tmp 22)),⟨none,none,.op false (.store 1 (.tmp 26) (.tmp 24))⟩])
 (.reg (some [2,3,4,5,6]) [Mv 27 5,Ol 28 (.binOp .shr 80 (.tmp 27) (.const (.int .u64 32)) 100),As 5 28]))))
 (.reg (some [2,3,4,5,6]) [Mv 9 6,Bc 10 .add 3 9 .i64 1,As 6 10]))⟩)],
 []⟩
theorem r86_ok : resFun (progU ()) hint live 86 Try.f86 = some r86:=by kernel_rfl
def r87 : RFun :=
⟨.seq (.reg (some [0,1]) [Ro 2 (.box 4 (.tmp 0)),Ro 3 (.box 4 (.tmp 1)),⟨some 4,none,.op true (.new 4 [.int .u64 0,.int .u64 0,.int .u64 0,.int .u64 0])⟩])
 (.seq (.reg (some [2,3,4]) [Ol 5 (.assign (.const (.int .u64 0)))])
 (.seq (.seq (.reg (some [2,3,4,5]) [Ac 6 0])
 (.block 0 (.loop 3 (some [2,3,4,5,6]) (some [2,3,4,5,6]))))
 (.seq (.reg (some [2,4]) [Ro 33 (.load 4 [.int .u64,.int .u64,.int .u64,.int .u64] (.tmp 2)),⟨none,none,.op false (.store 4 (.tmp 4) (.tmp 33))⟩])
 .ret))),
 [.agg 4 4 [.int .u64,.int .u64,.int .u64,.int .u64]],
 [(3,⟨some [2,3,4,5,6],some [2,3,4,5,6],.seq (.seq (.reg (some [2,3,4,5,6]) [Mv 8 6,Bc 9 .lss 3 8 .i64 4])
 (.cond (.tmp 9) .skip
 (.exit 0 (some [2,4]))))
 (.seq (.block 1 (.seq (.draw (some [2,3,4,5,6]) 14 [Dr (Mv 12 6) 0 [2,3,4,5,10,12,13],Dr (Fa 13 0 2) 1 [2,3,4,5,10,12,13],Dr (Ro 14 (.ixA 4 1 (.tmp 13) (.tmp 12))) 2 [3,4,5,10,12,13],Db (Ro 15 (.load1 (.int .u64) (.tmp 14))) 3 14 [4,5,10,12,13],Dr (Bc 16 .add 80 15 .u64 4294967295) 4 [5,10,12,13],Dr (Bc 17 .add 80 16 .u64 1) 5 [10,12,13],Dr (Mv 18 6) 6 [8,9,10,12,13],Dr (Fa 19 0 3) 7 [8,9,10,12,13],Dr (Ro 20 (.ixA 4 1 (.tmp 19) (.tmp 18))) 8 [9,10,12,13],Db (Ro 21 (.load1 (.int .u64) (.tmp 20))) 9 20 [10,12,13],Dr (Bt 22 .sub 80 17 21) 10 [12,13],Dr (Mv 23 5) 11 [12,13],Dr (Bt 24 .sub 80 22 23) 12 [13],Dr (As 7 24) 13 []])
 (.seq (.reg (some [2,3,4,6,7]) [Mv 25 6,Mv 26 7,Bc 27 .and 80 26 .u64 4294967295,Fa 28 0 2,Ro 29 (.ixA 4 1 (.tmp 28) (.tmp 25)),⟨none,none,.op false (.store 1 (.tmp 29) (.tmp 27))⟩])
 (.reg (some [2,3,4,6,7]) [Mv 30 7,Ol 31 (.binOp .shr 80 (.tmp 30) (.const (.int .u64 32)) 100),Ol 32 (.binOp .sub 80 (.const (.int .u64 1)) (.tmp 31) 80),As 5 32]))))
 (.reg (some [2,3,4,5,6]) [Mv 10 6,Bc 11 .add 3 10 .i64 1,As 6 11]))⟩)],
 []⟩
theorem r87_ok : resFun (progU ()) hint live 87 Try.f87 = some r87:=by kernel_rfl
def r88 : RFun :=
⟨.seq (.reg (some [0,1]) [Ro 2 (.box 4 (.tmp 0)),⟨some 4,none,.op true (.new 4 [.int .u64 0,.int .u64 0,.int .u64 0,.int .u64 0])⟩,Ol 5 (.assign (.const (.int .u64 0)))])
 (.seq (.reg (some [1,2,4]) [Ro 10 (.build [.int .u64 0,.int .u64 0,.int .u64 0,.int .u64 0] []),Ro 6 (.new 4 [.int .u64 0,.int .u64 0,.int .u64 0,.int .u64 0]),⟨none,none,.op false (.store 4 (.tmp 6) (.tmp 10))⟩,Ol 7 (.assign (.const (.int .u64 0)))])
 (.seq (.seq (.reg (some [1,2,4,6,7]) [Ac 8 3])
 (.block 0 (.loop 3 (some [1,2,4,6,7,8]) (some [1,2,4,6,7,8]))))
 (.seq (.reg (some [4,6,7]) [Ro 44 (.load 4 [.int .u64,.int .u64,.int .u64,.int .u64] (.tmp 6)),Mv 45 7,⟨none,none,.op false (.store 4 (.tmp 4) (.tmp 44))⟩,As 5 45])
 .ret))),
 [.agg 4 4 [.int .u64,.int .u64,.int .u64,.int .u64],.tmp 5],
 [(3,⟨some [1,2,4,6,7,8],some [1,2,4,6,7,8],.seq (.seq (.reg (some [1,2,4,6,7,8]) [Mv 11 8,Bc 12 .geq 3 11 .i64 0])
 (.cond (.tmp 12) .skip
 (.exit 0 (some [4,6,7]))))
 (.seq (.block 1 (.seq (.reg (some [1,2,4,6,7,8]) [Ac 9 31])
 (.block 2 (.loop 6 (some [1,2,4,6,7,8,9]) (some [1,2,4,6,7,8,9])))))
 (.reg (some [1,2,4,6,7,8]) [Mv 13 8,Bc 14 .sub 3 13 .i64 1,As 8 14]))⟩),(6,⟨some [1,2,4,6,7,8,9],some [1,2,4,6,7,8,9],.seq (.seq (.reg (some [1,2,4,6,7,8,9]) [Mv 15 9,Bc 16 .geq 3 15 .i64 0])
 (.cond (.tmp 16) .skip
 (.exit 2 (some [1,2,4,6,7,8]))))
 (.seq (.block 3 (.seq (.reg (some [1,2,4,6,7,8,9]) [Mv 19 7,Ol 20 (.binOp .shl 80 (.tmp 19) (.const (.int .u64 1)) 100),Mv 21 8,Fa 22 0 2,Ro 23 (.ixA 4 1 (.tmp 22) (.tmp 21)),Ro 24 (.load1 (.int .u64) (.tmp 23)),Mv 25 9,Ol 26 (.binOp .shr 80 (.tmp 24) (.tmp 25) 3),Bc 27 .and 80 26 .u64 1,Bt 28 .or 80 20 27,As 7 28])
 (.seq (.reg (some [1,2,4,6,7,8,9]) [Mv 29 7,Mv 30 1,Bt 31 .geq 80 29 30])
 (.cond (.tmp 31) (.seq (.reg (some [1,2,4,6,7,8,9]) [Mv 32 7,Mv 33 1,Bt 34 .sub 80 32 33,As 7 34])
 (.draw (some [1,2,4,6,7,8,9]) 10 [Dr (Mv 35 8) 0 [2,3,6,8,9],Dr (Fa 36 0 6) 1 [2,3,6,8,9],Dr (Ro 37 (.ixA 4 1 (.tmp 36) (.tmp 35))) 2 [3,6,8,9],Db (Ro 38 (.load1 (.int .u64) (.tmp 37))) 3 37 [6,8,9],Dr (Mv 39 9) 4 [5,6,8,9],Dr (Ol 40 (.binOp .shl 80 (.const (.int .u64 1)) (.tmp 39) 3)) 5 [6,8,9],Dr (Bt 41 .or 80 38 40) 6 [8,9],Dr (Fa 42 0 6) 7 [8,9],Dr (Ro 43 (.ixA 4 1 (.tmp 42) (.tmp 35))) 8 [9],⟨⟨none,none,.op false (.store 1 (.tmp 43) (.tmp 41))⟩,9,.blk (.tmp 43),[],true,true⟩]))
 .skip))))
 (.reg (some [1,2,4,6,7,8,9]) [Mv 17 9,Bc 18 .sub 3 17 .i64 1,As 9 18]))⟩)],
 []⟩
theorem r88_ok : resFun (progU ()) hint live 88 Try.f88 = some r88:=by kernel_rfl
def r98 : RFun :=
⟨.seq (.reg (some [0]) [Ac 2 0])
 (.seq (.seq (.reg (some [0,2]) [Mv 3 0,Bc 4 .geq 80 3 .u64 4294967296])
 (.cond (.tmp 4) (.seq (.reg (some [0]) [Mv 5 0,Ol 6 (.binOp .shr 80 (.tmp 5) (.const (.int .u64 32)) 100),As 0 6])
 (.reg (some [0]) [Ac 2 32]))
 .skip))
 (.seq (.seq (.reg (some [0,2]) [Mv 7 0,Bc 8 .geq 80 7 .u64 65536])
 (.cond (.tmp 8) (.seq (.reg (some [0,2]) [Mv 9 0,Ol 10 (.binOp .shr 80 (.tmp 9) (.const (.int .u64 16)) 100),As 0 10])
 (.reg (some [0,2]) [Mv 11 2,Bc 12 .add 3 11 .i64 16,As 2 12]))
 .skip))
 (.seq (.seq (.reg (some [0,2]) [Mv 13 0,Bc 14 .geq 80 13 .u64 256])
 (.cond (.tmp 14) (.seq (.reg (some [0,2]) [Mv 15 0,Ol 16 (.binOp .shr 80 (.tmp 15) (.const (.int .u64 8)) 100),As 0 16])
 (.reg (some [0,2]) [Mv 17 2,Bc 18 .add 3 17 .i64 8,As 2 18]))
 .skip))
 (.seq (.reg (some [0,2]) [Mv 19 2,Mv 20 0,Ro 21 (.convI .u8 (.tmp 20)),⟨some 22,none,.op false (.old (.index 9 (.const (.string ⟨#[0,1,2,2,3,3,3,3,4,4,4,4,4,4,4,4,5,5,5,5,5,5,5,5,5,5,5,5,5,5,5,5,6,6,6,6,6,6,6,6,6,6,6,6,6,6,6,6,6,6,6,6,6,6,6,6,6,6,6,6,6,6,6,6,7,7,7,7,7,7,7,7,7,7,7,7,7,7,7,7,7,7,7,7,7,7,7,7,7,7,7,7,7,7,7,7,7,7,7,7,7,7,7,7,7,7,7,7,7,7,7,7,7,7,7,7,7,7,7,7,7,7,7,7,7,7,7,7,8,8,8,8,8,8,8,8,8,8,8,8,8,8,8,8,8,8,8,8,8,8,8,8,8,8,8,8,8,8,8,8,8,8,8,8,8,8,8,8,8,8,8,8,8,8,8,8,8,8,8,8,8,8,8,8,8,8,8,8,8,8,8,8,8,8,8,8,8,8,8,8,8,8,8,8,8,8,8,8,8,8,8,8,8,8,8,8,8,8,8,8,8,8,8,8,8,8,8,8,8,8,8,8,8,8,8,8,8,8,8,8,8,8,8,8,8,8,8,8,8,8,8,8,8,8,8,8]⟩)) (.tmp 21)))⟩,Ro 23 (.convI .i64 (.tmp 22)),Bt 24 .add 3 19 23,As 2 24])
 .ret)))),
 [.tmp 2],
 [],
 []⟩
theorem r98_ok : resFun (progU ()) hint live 98 Try.f98 = some r98:=by kernel_rfl
def r99 : RFun :=
⟨.seq (.reg (some [0]) [Ac 2 0])
 (.seq (.reg (some [0]) [Mv 3 0,Ca 4 98 [.tmp 3] (some (.val (.one (.int .i64)))),Ol 5 (.binOp .sub 3 (.const (.int .i64 64)) (.tmp 4) 3),As 2 5])
 .ret),
 [.tmp 2],
 [],
 []⟩
theorem r99_ok : resFun (progU ()) hint live 99 Try.f99 = some r99:=by kernel_rfl
end Go.Proofs.Ytnokkniofajnhaa
