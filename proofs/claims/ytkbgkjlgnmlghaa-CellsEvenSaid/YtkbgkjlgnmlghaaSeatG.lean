import Derived.Test.YtkbgkjlgnmlghaaSeat0
import Derived.Test.YtkbgkjlgnmlghaaSymS
set_option linter.unusedSimpArgs false
set_option linter.unusedVariables false
namespace Go.Proofs.Ytkbgkjlgnmlghaa
open Go.Sim
set_option maxRecDepth 100000
def r75 : RFun :=
⟨.seq (.reg (some [0,1,2]) [⟨some 6,none,.op true (.new 2 [.int .i64 0,.int .i64 0])⟩,Ac 7 0])
 (.seq (.seq (.reg (some [0,1,2,6]) [Mv 9 1,Bc 10 .gtr 110 9 .u64 1000000000000000000,Mv 11 10,⟨some 12,some (11,false),.op false (.old (.move (.tmp 2)))⟩,⟨some 13,some (11,false),.op false (.old (.binOp .gtr 110 (.tmp 12) (.const (.int .u64 1000000000000000000)) 110))⟩,Ol 14 (.pick (.tmp 11) (.const (.bool true)) (.tmp 13))])
 (.cond (.tmp 14) (.seq (.reg (some [6]) [Ro 15 (.build [.int .i64 0,.int .i64 0] []),⟨none,none,.op false (.store 2 (.tmp 6) (.tmp 15))⟩,Ac 7 16])
 .ret)
 .skip))
 (.seq (.reg (some [0,1,2,6]) [Mv 16 1,Ro 17 (.convI .i64 (.tmp 16)),Mv 18 2,Ro 19 (.convI .i64 (.tmp 18)),Ro 20 (.build [.int .i64 0,.int .i64 0] [(0,1,(.tmp 17)),(1,1,(.tmp 19))]),⟨some 8,none,.op true (.new 2 [.int .i64 0,.int .i64 0])⟩,⟨none,none,.op false (.store 2 (.tmp 8) (.tmp 20))⟩])
 (.seq (.seq (.reg (some [0,6,8]) [Mv 21 0])
 (.cond (.tmp 21) (.reg (some [6,8]) [Fa 22 0 8,L1 23 22,Ol 24 (.unOp .neg 2 (.tmp 23)),Fa 25 0 8,⟨none,none,.op false (.store 1 (.tmp 25) (.tmp 24))⟩])
 .skip))
 (.seq (.reg (some [6,8]) [Ld 26 8,⟨none,none,.op false (.store 2 (.tmp 6) (.tmp 26))⟩,Ac 7 0])
 .ret)))),
 [.agg 6 2 [.int .i64,.int .i64],.tmp 7],
 [],
 []⟩
theorem r75_ok : resFun (progU ()) hint live 75 Try.f75 = some r75:=by kernel_rfl
def r77 : RFun :=
⟨.seq (.reg (some [0,1,2,3]) [Ac 8 0])
 (.seq (.block 0 (.seq (.reg (some [0,1,2,3]) [Mv 10 0,Mv 11 2,Bt 12 .gtr 110 10 11,Mv 13 12,⟨some 14,some (13,false),.op false (.old (.move (.tmp 0)))⟩,⟨some 15,some (13,false),.op false (.old (.move (.tmp 2)))⟩,⟨some 16,some (13,false),.op false (.old (.binOp .eql 110 (.tmp 14) (.tmp 15) 110))⟩,⟨some 17,some (13,false),.op false (.old (.move (.tmp 16)))⟩,⟨some 18,some (17,true),.op false (.old (.move (.tmp 1)))⟩,⟨some 19,some (17,true),.op false (.old (.move (.tmp 3)))⟩,⟨some 20,some (17,true),.op false (.old (.binOp .gtr 110 (.tmp 18) (.tmp 19) 110))⟩,⟨some 21,some (13,false),.op false (.old (.pick (.tmp 17) (.tmp 20) (.const (.bool false))))⟩,Ol 22 (.pick (.tmp 13) (.const (.bool true)) (.tmp 21)),As 9 22])
 (.cond (.tmp 9) (.seq (.reg (some []) [Ac 8 1])
 .ret)
 (.seq (.reg (some [0,1,2,3]) [Mv 24 0,Mv 25 2,Bt 26 .eql 110 24 25,Mv 27 26,⟨some 28,some (27,true),.op false (.old (.move (.tmp 1)))⟩,⟨some 29,some (27,true),.op false (.old (.move (.tmp 3)))⟩,⟨some 30,some (27,true),.op false (.old (.binOp .eql 110 (.tmp 28) (.tmp 29) 110))⟩,Ol 31 (.pick (.tmp 27) (.tmp 30) (.const (.bool false))),As 23 31])
 (.cond (.tmp 23) (.seq (.reg (some []) [Ac 8 0])
 .ret)
 .skip)))))
 (.seq (.reg (some []) [Ol 8 (.assign (.const (.int .i64 (-1))))])
 .ret)),
 [.tmp 8],
 [],
 []⟩
theorem r77_ok : resFun (progU ()) hint live 77 Try.f77 = some r77:=by kernel_rfl
def r79 : RFun :=
⟨.seq (.reg (some [0,1,2]) [Ol 6 (.assign (.const (.int .u64 0)))])
 (.seq (.reg (some [0,1,2]) [Mv 10 0,Mv 11 2,Bt 12 .rem 110 10 11,Mv 13 1,Mv 14 2,Ca 15 80 [.tmp 12,.tmp 13,.tmp 14] (some (.tup [.one (.int .u64),.one (.int .u64)])),Mv 9 15,Ex 16 9 0,Ex 17 9 1,As 7 16,As 8 17])
 (.seq (.reg (some [8]) [Mv 18 8,As 6 18])
 .ret)),
 [.tmp 6],
 [],
 []⟩
theorem r79_ok : resFun (progU ()) hint live 79 Try.f79 = some r79:=by kernel_rfl
def r80 : RFun :=
⟨.seq (.reg (some [0,1,2]) [Ol 6 (.assign (.const (.int .u64 0))),Ol 7 (.assign (.const (.int .u64 0)))])
 (.seq (.seq (.reg (some [0,1,2]) [Mv 19 2,Bc 20 .eql 110 19 .u64 0])
 (.cond (.tmp 20) (.reg (some [0,1,2]) [Ro 21 (.load1 .any (.global 0)),⟨none,none,.op false (.old (.panic (.tmp 21)))⟩])
 .skip))
 (.seq (.seq (.reg (some [0,1,2]) [Mv 22 2,Mv 23 0,Bt 24 .leq 110 22 23])
 (.cond (.tmp 24) (.reg (some [0,1,2]) [Ro 25 (.load1 .any (.global 1)),⟨none,none,.op false (.old (.panic (.tmp 25)))⟩])
 .skip))
 (.seq (.seq (.reg (some [0,1,2]) [Mv 26 0,Bc 27 .eql 110 26 .u64 0])
 (.cond (.tmp 27) (.seq (.draw (some [1,2]) 8 [Dr (Mv 28 1) 0 [2,6,7],Dr (Mv 29 2) 1 [2,6,7],Dr (Bt 30 .quo 110 28 29) 2 [6,7],Dr (Mv 31 1) 3 [5,7],Dr (Mv 32 2) 4 [5,7],Dr (Bt 33 .rem 110 31 32) 5 [7],Dr (As 6 30) 6 [7],Dr (As 7 33) 7 []])
 .ret)
 .skip))
 (.seq (.reg (some [0,1,2]) [Mv 34 2,Ca 35 104 [.tmp 34] (some (.val (.one (.int .i64)))),Ro 36 (.convI .u64 (.tmp 35)),As 8 36])
 (.seq (.reg (some [0,1,2,8]) [Mv 37 2,Mv 38 8,Ol 39 (.binOp .shl 110 (.tmp 37) (.tmp 38) 95),As 2 39])
 (.seq (.reg (some [0,1,2,8]) [Mv 40 2,Ol 41 (.binOp .shr 110 (.tmp 40) (.const (.int .u64 32)) 95),As 9 41])
 (.seq (.reg (some [0,1,2,8,9]) [Mv 42 2,Bc 43 .and 110 42 .u64 4294967295,As 10 43])
 (.seq (.reg (some [0,1,2,8,9,10]) [Mv 44 0,Mv 45 8,Ol 46 (.binOp .shl 110 (.tmp 44) (.tmp 45) 95),Mv 47 1,Mv 48 8,Ol 49 (.binOp .sub 95 (.const (.int .u64 64)) (.tmp 48) 95),Ol 50 (.binOp .shr 110 (.tmp 47) (.tmp 49) 95),Bt 51 .or 110 46 50,As 11 51])
 (.seq (.reg (some [1,2,8,9,10,11]) [Mv 52 1,Mv 53 8,Ol 54 (.binOp .shl 110 (.tmp 52) (.tmp 53) 95),As 12 54])
 (.seq (.reg (some [2,8,9,10,11,12]) [Mv 55 12,Ol 56 (.binOp .shr 110 (.tmp 55) (.const (.int .u64 32)) 95),As 13 56])
 (.seq (.reg (some [2,8,9,10,11,12,13]) [Mv 57 12,Bc 58 .and 110 57 .u64 4294967295,As 14 58])
 (.seq (.reg (some [2,8,9,10,11,13,14]) [Mv 59 11,Mv 60 9,Bt 61 .quo 110 59 60,As 15 61])
 (.seq (.reg (some [2,8,9,10,11,13,14,15]) [Mv 62 11,Mv 63 15,Mv 64 9,Bt 65 .mul 110 63 64,Bt 66 .sub 110 62 65,As 16 66])
 (.seq (.block 0 (.loop 17 none (some [2,8,9,10,11,13,14,15,16])))
 (.seq (.reg (some [2,8,9,10,11,13,14,15]) [Mv 86 11,Bc 87 .mul 110 86 .u64 4294967296,Mv 88 13,Bt 89 .add 110 87 88,Mv 90 15,Mv 91 2,Bt 92 .mul 110 90 91,Bt 93 .sub 110 89 92,As 17 93])
 (.seq (.reg (some [2,8,9,10,14,15,17]) [Mv 94 17,Mv 95 9,Bt 96 .quo 110 94 95,As 18 96])
 (.seq (.reg (some [2,8,9,10,14,15,17,18]) [Mv 97 17,Mv 98 18,Mv 99 9,Bt 100 .mul 110 98 99,Bt 101 .sub 110 97 100,As 16 101])
 (.seq (.block 2 (.loop 24 none (some [2,8,9,10,14,15,16,17,18])))
 (.seq (.reg (some [2,8,14,15,17,18]) [Mv 121 15,Bc 122 .mul 110 121 .u64 4294967296,Mv 123 18,Bt 124 .add 110 122 123,Mv 125 17,Bc 126 .mul 110 125 .u64 4294967296,Mv 127 14,Bt 128 .add 110 126 127,Mv 129 18,Mv 130 2,Bt 131 .mul 110 129 130,Bt 132 .sub 110 128 131,Mv 133 8,Ol 134 (.binOp .shr 110 (.tmp 132) (.tmp 133) 95),As 6 124,As 7 134])
 .ret))))))))))))))))))),
 [.tmp 6,.tmp 7],
 [(17,⟨none,some [2,8,9,10,11,13,14,15,16],.seq (.seq (.reg (some [2,8,9,10,11,13,14,15,16]) [Mv 67 15,Bc 68 .geq 110 67 .u64 4294967296,Mv 69 68,⟨some 70,some (69,false),.op false (.old (.move (.tmp 15)))⟩,⟨some 71,some (69,false),.op false (.old (.move (.tmp 10)))⟩,⟨some 72,some (69,false),.op false (.old (.binOp .mul 110 (.tmp 70) (.tmp 71) 110))⟩,⟨some 73,some (69,false),.op false (.old (.move (.tmp 16)))⟩,⟨some 74,some (69,false),.op false (.old (.binOp .mul 110 (.const (.int .u64 4294967296)) (.tmp 73) 110))⟩,⟨some 75,some (69,false),.op false (.old (.move (.tmp 13)))⟩,⟨some 76,some (69,false),.op false (.old (.binOp .add 110 (.tmp 74) (.tmp 75) 110))⟩,⟨some 77,some (69,false),.op false (.old (.binOp .gtr 110 (.tmp 72) (.tmp 76) 110))⟩,Ol 78 (.pick (.tmp 69) (.const (.bool true)) (.tmp 77))])
 (.cond (.tmp 78) .skip
 (.exit 0 (some [2,8,9,10,11,13,14,15]))))
 (.block 1 (.seq (.reg (some [2,8,9,10,11,13,14,15,16]) [Mv 79 15,Bc 80 .sub 110 79 .u64 1,As 15 80])
 (.seq (.reg (some [2,8,9,10,11,13,14,15,16]) [Mv 81 16,Mv 82 9,Bt 83 .add 110 81 82,As 16 83])
 (.seq (.reg (some [2,8,9,10,11,13,14,15,16]) [Mv 84 16,Bc 85 .geq 110 84 .u64 4294967296])
 (.cond (.tmp 85) (.exit 0 (some [2,8,9,10,11,13,14,15]))
 .skip)))))⟩),(24,⟨none,some [2,8,9,10,14,15,16,17,18],.seq (.seq (.reg (some [2,8,9,10,14,15,16,17,18]) [Mv 102 18,Bc 103 .geq 110 102 .u64 4294967296,Mv 104 103,⟨some 105,some (104,false),.op false (.old (.move (.tmp 18)))⟩,⟨some 106,some (104,false),.op false (.old (.move (.tmp 10)))⟩,⟨some 107,some (104,false),.op false (.old (.binOp .mul 110 (.tmp 105) (.tmp 106) 110))⟩,⟨some 108,some (104,false),.op false (.old (.move (.tmp 16)))⟩,⟨some 109,some (104,false),.op false (.old (.binOp .mul 110 (.const (.int .u64 4294967296)) (.tmp 108) 110))⟩,⟨some 110,some (104,false),.op false (.old (.move (.tmp 14)))⟩,⟨some 111,some (104,false),.op false (.old (.binOp .add 110 (.tmp 109) (.tmp 110) 110))⟩,⟨some 112,some (104,false),.op false (.old (.binOp .gtr 110 (.tmp 107) (.tmp 111) 110))⟩,Ol 113 (.pick (.tmp 104) (.const (.bool true)) (.tmp 112))])
 (.cond (.tmp 113) .skip
 (.exit 2 (some [2,8,14,15,17,18]))))
 (.block 3 (.seq (.reg (some [2,8,9,10,14,15,16,17,18]) [Mv 114 18,Bc 115 .sub 110 114 .u64 1,As 18 115])
 (.seq (.reg (some [2,8,9,10,14,15,16,17,18]) [Mv 116 16,Mv 117 9,Bt 118 .add 110 116 117,As 16 118])
 (.seq (.reg (some [2,8,9,10,14,15,16,17,18]) [Mv 119 16,Bc 120 .geq 110 119 .u64 4294967296])
 (.cond (.tmp 120) (.exit 2 (some [2,8,14,15,17,18]))
 .skip)))))⟩)],
 []⟩
theorem r80_ok : resFun (progU ()) hint live 80 Try.f80 = some r80:=by kernel_rfl
def r81 : RFun :=
⟨.seq (.reg (some [0,1]) [Ol 4 (.assign (.const (.slice none 0 0)))])
 (.seq (.seq (.reg (some [0,1]) [Mv 5 1,Bc 6 .lss 3 5 .i64 0])
 (.cond (.tmp 6) (.reg (some [0,1]) [⟨some 7,none,.op false (.old (.makeInterface 9 (.const (.string ⟨#[99,97,110,110,111,116,32,98,101,32,110,101,103,97,116,105,118,101]⟩))))⟩,⟨none,none,.op false (.old (.panic (.tmp 7)))⟩])
 .skip))
 (.seq (.seq (.reg (some [0,1]) [Mv 8 1,Mv 9 0,⟨some 10,none,.op false (.old (.call ⟨.builtin .cap,#[.tmp 9],#[27]⟩))⟩,Mv 11 0,Ro 12 (.lenS (.tmp 11)),Bt 13 .sub 3 10 12,Bt 14 .sub 3 8 13,As 1 14])
 (.seq (.reg (some [0,1]) [Mv 15 1,Bc 16 .gtr 3 15 .i64 0])
 (.cond (.tmp 16) (.reg (some [0,1]) [Mv 17 0,Mv 18 0,⟨some 19,none,.op false (.old (.call ⟨.builtin .cap,#[.tmp 18],#[27]⟩))⟩,Ro 20 (.cutS 27 (.tmp 17) none (some (.tmp 19)) none),Mv 21 1,⟨some 22,none,.op false (.old (.call ⟨.builtin .append,#[.tmp 20,.tmp 21],#[27,3]⟩))⟩,Mv 23 0,Ro 24 (.lenS (.tmp 23)),Ro 25 (.cutS 27 (.tmp 22) none (some (.tmp 24)) none),As 0 25])
 .skip)))
 (.seq (.reg (some [0]) [Mv 26 0,As 4 26])
 .ret))),
 [.tmp 4],
 [],
 []⟩
theorem r81_ok : resFun (progU ()) hint live 81 Try.f81 = some r81:=by kernel_rfl
def r82 : RFun :=
⟨.seq (.reg (some [0,1]) [Ac 4 0])
 (.seq (.reg (some [0,1]) [Mv 6 0,Mv 7 1,Bt 8 .quo 2 6 7,As 5 8])
 (.seq (.seq (.reg (some [0,1,5]) [Mv 9 0,Mv 10 1,Bt 11 .rem 2 9 10,Bc 12 .lss 2 11 .i64 0])
 (.cond (.tmp 12) (.reg (some [5]) [Mv 13 5,Bc 14 .sub 2 13 .i64 1,As 5 14])
 .skip))
 (.seq (.reg (some [5]) [Mv 15 5,As 4 15])
 .ret))),
 [.tmp 4],
 [],
 []⟩
theorem r82_ok : resFun (progU ()) hint live 82 Try.f82 = some r82:=by kernel_rfl
def r83 : RFun :=
⟨.seq (.reg (some [0,1,2,3]) [Mv 10 1,Bc 11 .add 3 10 .i64 1,As 8 11])
 (.block 0 (.loop 1 (some [0,1,2,3,8]) (some [0,1,2,3,8]))),
 [],
 [(1,⟨some [0,1,2,3,8],some [0,1,2,3,8],.seq (.seq (.reg (some [0,1,2,3,8]) [Mv 12 8,Mv 13 2,Bt 14 .lss 3 12 13])
 (.cond (.tmp 14) .skip
 (.exit 0 (some []))))
 (.seq (.block 1 (.seq (.reg (some [0,1,2,3,8]) [Mv 17 8,As 9 17])
 (.block 2 (.loop 4 (some [0,1,2,3,8,9]) (some [0,1,2,3,8,9])))))
 (.reg (some [0,1,2,3,8]) [Mv 15 8,Bc 16 .add 3 15 .i64 1,As 8 16]))⟩),(4,⟨some [0,1,2,3,8,9],some [0,1,2,3,8,9],.seq (.seq (.draw (some [0,1,2,3,8,9]) 17 [Dr (Mv 18 9) 0 [2,3,4,5,6,7,8,9,10,11,12,13,14,15,16],Dr (Mv 19 1) 1 [2,3,4,5,6,7,8,9,10,11,12,13,14,15,16],Dr (Bt 20 .gtr 3 18 19) 2 [3,4,5,6,7,8,9,10,11,12,13,14,15,16],Dr (Mv 21 20) 3 [4,5,6,7,8,9,10,11,12,13,14,15,16],⟨⟨some 22,some (21,true),.op false (.old (.move (.tmp 3)))⟩,4,.none,[14,15,16],false,true⟩,⟨⟨some 23,some (21,true),.op false (.old (.move (.tmp 0)))⟩,5,.none,[7,8,14,15,16],false,true⟩,⟨⟨some 24,some (21,true),.op false (.old (.move (.tmp 9)))⟩,6,.none,[7,8,14,15,16],false,true⟩,⟨⟨some 25,some (21,true),.op false (.ixS 4 (.tmp 23) (.tmp 24))⟩,7,.none,[8,14,15,16],false,true⟩,⟨⟨some 26,some (21,true),.op false (.load 4 [.int .i64,.int .i64,.int .i64,.int .i64] (.tmp 25))⟩,8,.blk (.tmp 25),[14,15,16],false,true⟩,⟨⟨some 27,some (21,true),.op false (.old (.move (.tmp 0)))⟩,9,.none,[12,13,14,15,16],false,true⟩,⟨⟨some 28,some (21,true),.op false (.old (.move (.tmp 9)))⟩,10,.none,[11,12,13,14,15,16],false,true⟩,⟨⟨some 29,some (21,true),.op false (.old (.binOp .sub 3 (.tmp 28) (.const (.int .i64 1)) 3))⟩,11,.none,[12,13,14,15,16],false,true⟩,⟨⟨some 30,some (21,true),.op false (.ixS 4 (.tmp 27) (.tmp 29))⟩,12,.none,[13,14,15,16],false,true⟩,⟨⟨some 31,some (21,true),.op false (.load 4 [.int .i64,.int .i64,.int .i64,.int .i64] (.tmp 30))⟩,13,.blk (.tmp 30),[14,15,16],false,true⟩,⟨⟨some 32,some (21,true),.call (.tmp 22) [.tmp 26,.tmp 31] (some (.val (.one (.int .i64))))⟩,14,.all,[15,16],false,false⟩,⟨⟨some 33,some (21,true),.op false (.old (.binOp .lss 3 (.tmp 32) (.const (.int .i64 0)) 3))⟩,15,.none,[16],false,true⟩,Dr (Ol 34 (.pick (.tmp 21) (.tmp 33) (.const (.bool false)))) 16 []])
 (.cond (.tmp 34) .skip
 (.exit 2 (some [0,1,2,3,8]))))
 (.seq (.block 3 (.draw (some [0,1,2,3,8,9]) 18 [Dr (Mv 37 0) 0 [14,15,16,17],Dr (Mv 38 9) 1 [14,15,16,17],Dr (Mv 39 0) 2 [16,17],Dr (Mv 40 9) 3 [4,16,17],Dr (Bc 41 .sub 3 40 .i64 1) 4 [16,17],Dr (Mv 42 0) 5 [8,9,14,15,16,17],Dr (Mv 43 9) 6 [7,8,9,14,15,16,17],Dr (Bc 44 .sub 3 43 .i64 1) 7 [8,9,14,15,16,17],Dr (Ix 45 4 42 44) 8 [9,14,15,16,17],Db (Ro 46 (.load 4 [.int .i64,.int .i64,.int .i64,.int .i64] (.tmp 45))) 9 45 [14,15,16,17],Dr (Mv 47 0) 10 [12,13,14,15,16,17],Dr (Mv 48 9) 11 [12,13,14,15,16,17],Dr (Ix 49 4 47 48) 12 [13,14,15,16,17],Db (Ro 50 (.load 4 [.int .i64,.int .i64,.int .i64,.int .i64] (.tmp 49))) 13 49 [14,15,16,17],Dr (Ix 51 4 37 38) 14 [15,16,17],⟨⟨none,none,.op false (.store 4 (.tmp 51) (.tmp 46))⟩,15,.blk (.tmp 51),[16,17],true,true⟩,Dr (Ix 52 4 39 41) 16 [17],⟨⟨none,none,.op false (.store 4 (.tmp 52) (.tmp 50))⟩,17,.blk (.tmp 52),[],true,true⟩]))
 (.reg (some [0,1,2,3,8,9]) [Mv 35 9,Bc 36 .sub 3 35 .i64 1,As 9 36]))⟩)],
 []⟩
theorem r83_ok : resFun (progU ()) hint live 83 Try.f83 = some r83:=by kernel_rfl
end Go.Proofs.Ytkbgkjlgnmlghaa
