import Derived.Test.YtcdoknkgbnaefaaSeat0
import Derived.Test.YtcdoknkgbnaefaaSymS
set_option linter.unusedSimpArgs false
set_option linter.unusedVariables false
namespace Go.Proofs.Ytcdoknkgbnaefaa
open Go.Sim
set_option maxRecDepth 100000
def r71 : RFun :=
⟨.seq (.reg (some [0]) [Ac 2 0])
 (.seq (.seq (.reg (some [0,2]) [Mv 3 0,Bc 4 .geq 70 3 .u64 4294967296])
 (.cond (.tmp 4) (.seq (.reg (some [0]) [Mv 5 0,Ol 6 (.binOp .shr 70 (.tmp 5) (.const (.int .u64 32)) 78),As 0 6])
 (.reg (some [0]) [Ac 2 32]))
 .skip))
 (.seq (.seq (.reg (some [0,2]) [Mv 7 0,Bc 8 .geq 70 7 .u64 65536])
 (.cond (.tmp 8) (.seq (.reg (some [0,2]) [Mv 9 0,Ol 10 (.binOp .shr 70 (.tmp 9) (.const (.int .u64 16)) 78),As 0 10])
 (.reg (some [0,2]) [Mv 11 2,Bc 12 .add 3 11 .i64 16,As 2 12]))
 .skip))
 (.seq (.seq (.reg (some [0,2]) [Mv 13 0,Bc 14 .geq 70 13 .u64 256])
 (.cond (.tmp 14) (.seq (.reg (some [0,2]) [Mv 15 0,Ol 16 (.binOp .shr 70 (.tmp 15) (.const (.int .u64 8)) 78),As 0 16])
 (.reg (some [0,2]) [Mv 17 2,Bc 18 .add 3 17 .i64 8,As 2 18]))
 .skip))
 (.seq (.reg (some [0,2]) [Mv 19 2,Mv 20 0,Ro 21 (.convI .u8 (.tmp 20)),⟨some 22,none,.op false (.old (.index 9 (.const (.string ⟨#[0,1,2,2,3,3,3,3,4,4,4,4,4,4,4,4,5,5,5,5,5,5,5,5,5,5,5,5,5,5,5,5,6,6,6,6,6,6,6,6,6,6,6,6,6,6,6,6,6,6,6,6,6,6,6,6,6,6,6,6,6,6,6,6,7,7,7,7,7,7,7,7,7,7,7,7,7,7,7,7,7,7,7,7,7,7,7,7,7,7,7,7,7,7,7,7,7,7,7,7,7,7,7,7,7,7,7,7,7,7,7,7,7,7,7,7,7,7,7,7,7,7,7,7,7,7,7,7,8,8,8,8,8,8,8,8,8,8,8,8,8,8,8,8,8,8,8,8,8,8,8,8,8,8,8,8,8,8,8,8,8,8,8,8,8,8,8,8,8,8,8,8,8,8,8,8,8,8,8,8,8,8,8,8,8,8,8,8,8,8,8,8,8,8,8,8,8,8,8,8,8,8,8,8,8,8,8,8,8,8,8,8,8,8,8,8,8,8,8,8,8,8,8,8,8,8,8,8,8,8,8,8,8,8,8,8,8,8,8,8,8,8,8,8,8,8,8,8,8,8,8,8,8,8,8,8]⟩)) (.tmp 21)))⟩,Ro 23 (.convI .i64 (.tmp 22)),Bt 24 .add 3 19 23,As 2 24])
 .ret)))),
 [.tmp 2],
 [],
 []⟩
theorem r71_ok : resFun (progU ()) hint live 71 Try.f71 = some r71:=by kernel_rfl
def r72 : RFun :=
⟨.seq (.reg (some [0,1,2,3]) [Ac 8 0])
 (.seq (.reg (some [0,1,2,3]) [Mv 14 0,Mv 15 1,Ca 16 82 [.tmp 14,.tmp 15] (some (.tup [.one (.int .u64),.one (.int .u64)])),Mv 13 16,Ex 17 13 0,Ex 18 13 1,As 9 17,As 10 18])
 (.seq (.reg (some [2,3,9,10]) [Mv 20 2,Mv 21 3,Ca 22 82 [.tmp 20,.tmp 21] (some (.tup [.one (.int .u64),.one (.int .u64)])),Mv 19 22,Ex 23 19 0,Ex 24 19 1,As 11 23,As 12 24])
 (.seq (.reg (some [9,10,11,12]) [Mv 25 9,Mv 26 10,Mv 27 11,Mv 28 12,Ca 29 83 [.tmp 25,.tmp 26,.tmp 27,.tmp 28] (some (.val (.one (.int .i64)))),As 8 29])
 .ret))),
 [.tmp 8],
 [],
 []⟩
theorem r72_ok : resFun (progU ()) hint live 72 Try.f72 = some r72:=by kernel_rfl
def r73 : RFun :=
⟨.seq (.reg (some [0]) [Ro 1 (.box 4 (.tmp 0)),Ac 2 0,Ol 3 (.assign (.const (.bool false)))])
 (.seq (.reg (some [1]) [Fa 5 0 1,Ro 6 (.ixA 4 1 (.tmp 5) (.const (.int .i64 1))),Ro 7 (.load1 (.int .u64) (.tmp 6)),Ol 8 (.binOp .shl 70 (.tmp 7) (.const (.int .u64 32)) 78),Fa 9 0 1,Ro 10 (.ixA 4 1 (.tmp 9) (.const (.int .i64 0))),Ro 11 (.load1 (.int .u64) (.tmp 10)),Bt 12 .or 70 8 11,As 4 12])
 (.seq (.reg (some [1,4]) [Mv 13 4,Bc 14 .and 70 13 .u64 9223372036854775807,Ro 15 (.convI .i64 (.tmp 14)),Fa 16 0 1,Ro 17 (.ixA 4 1 (.tmp 16) (.const (.int .i64 2))),Ro 18 (.load1 (.int .u64) (.tmp 17)),Bc 19 .eql 70 18 .u64 0,Mv 20 19,⟨some 21,some (20,true),.op false (.fieldAddr 0 (.tmp 1))⟩,⟨some 22,some (20,true),.op false (.ixA 4 1 (.tmp 21) (.const (.int .i64 3)))⟩,⟨some 23,some (20,true),.op false (.load1 (.int .u64) (.tmp 22))⟩,⟨some 24,some (20,true),.op false (.old (.binOp .eql 70 (.tmp 23) (.const (.int .u64 0)) 70))⟩,Ol 25 (.pick (.tmp 20) (.tmp 24) (.const (.bool false))),Mv 26 25,⟨some 27,some (26,true),.op false (.old (.move (.tmp 4)))⟩,⟨some 28,some (26,true),.op false (.old (.binOp .leq 70 (.tmp 27) (.const (.int .u64 1000000000000000000)) 70))⟩,Ol 29 (.pick (.tmp 26) (.tmp 28) (.const (.bool false))),As 2 15,As 3 29])
 .ret)),
 [.tmp 2,.tmp 3],
 [],
 []⟩
theorem r73_ok : resFun (progU ()) hint live 73 Try.f73 = some r73:=by kernel_rfl
def r74 : RFun :=
⟨.seq (.reg (some [0,1]) [⟨some 4,none,.op true (.new 4 [.int .u64 0,.int .u64 0,.int .u64 0,.int .u64 0])⟩])
 (.seq (.reg (some [0,1,4]) [Mv 11 0,Ca 12 58 [.tmp 11] (some (.val (.agg [.int .u64,.int .u64,.int .u64,.int .u64]))),Mv 13 1,Ca 14 58 [.tmp 13] (some (.val (.agg [.int .u64,.int .u64,.int .u64,.int .u64]))),Ro 5 (.new 4 [.int .u64 0,.int .u64 0,.int .u64 0,.int .u64 0]),Ro 6 (.new 4 [.int .u64 0,.int .u64 0,.int .u64 0,.int .u64 0]),⟨none,none,.op false (.store 4 (.tmp 5) (.tmp 12))⟩,⟨none,none,.op false (.store 4 (.tmp 6) (.tmp 14))⟩])
 (.seq (.reg (some [4,5,6]) [Ro 15 (.build [.int .u64 0,.int .u64 0,.int .u64 0,.int .u64 0] []),Ro 7 (.new 4 [.int .u64 0,.int .u64 0,.int .u64 0,.int .u64 0]),⟨none,none,.op false (.store 4 (.tmp 7) (.tmp 15))⟩])
 (.seq (.seq (.reg (some [4,5,6,7]) [Ac 8 0])
 (.block 0 (.loop 4 (some [4,5,6,7,8]) (some [4,5,6,7,8]))))
 (.seq (.reg (some [4,7]) [Ro 60 (.load 4 [.int .u64,.int .u64,.int .u64,.int .u64] (.tmp 7)),⟨none,none,.op false (.store 4 (.tmp 4) (.tmp 60))⟩])
 .ret)))),
 [.agg 4 4 [.int .u64,.int .u64,.int .u64,.int .u64]],
 [(4,⟨some [4,5,6,7,8],some [4,5,6,7,8],.seq (.seq (.reg (some [4,5,6,7,8]) [Mv 16 8,Bc 17 .lss 3 16 .i64 2])
 (.cond (.tmp 17) .skip
 (.exit 0 (some [4,7]))))
 (.seq (.block 1 (.seq (.reg (some [4,5,6,7,8]) [Ol 9 (.assign (.const (.int .u64 0)))])
 (.seq (.seq (.reg (some [4,5,6,7,8,9]) [Ac 10 0])
 (.block 2 (.loop 8 (some [4,5,6,7,8,9,10]) (some [4,5,6,7,8,9,10]))))
 (.reg (some [4,5,6,7,8,9]) [Mv 51 8,Bc 52 .add 3 51 .i64 2,Fa 53 0 7,Ro 54 (.ixA 4 1 (.tmp 53) (.tmp 52)),Ro 55 (.load1 (.int .u64) (.tmp 54)),Mv 56 9,Bt 57 .add 70 55 56,Fa 58 0 7,Ro 59 (.ixA 4 1 (.tmp 58) (.tmp 52)),⟨none,none,.op false (.store 1 (.tmp 59) (.tmp 57))⟩]))))
 (.reg (some [4,5,6,7,8]) [Mv 18 8,Bc 19 .add 3 18 .i64 1,As 8 19]))⟩),(8,⟨some [4,5,6,7,8,9,10],some [4,5,6,7,8,9,10],.seq (.seq (.reg (some [4,5,6,7,8,9,10]) [Mv 20 10,Bc 21 .lss 3 20 .i64 2])
 (.cond (.tmp 21) .skip
 (.exit 2 (some [4,5,6,7,8,9]))))
 (.seq (.block 3 (.seq (.draw (some [4,5,6,7,8,9,10]) 19 [Dr (Mv 24 9) 0 [17,18],Dr (Mv 25 8) 1 [3,5,6,16,17,18],Dr (Mv 26 10) 2 [3,5,6,16,17,18],Dr (Bt 27 .add 3 25 26) 3 [5,6,16,17,18],Dr (Fa 28 0 7) 4 [5,6,16,17,18],Dr (Ro 29 (.ixA 4 1 (.tmp 28) (.tmp 27))) 5 [6,16,17,18],Db (Ro 30 (.load1 (.int .u64) (.tmp 29))) 6 29 [16,17,18],Dr (Mv 31 8) 7 [9,10,15,16,17,18],Dr (Fa 32 0 5) 8 [9,10,15,16,17,18],Dr (Ro 33 (.ixA 4 1 (.tmp 32) (.tmp 31))) 9 [10,15,16,17,18],Db (Ro 34 (.load1 (.int .u64) (.tmp 33))) 10 33 [15,16,17,18],Dr (Mv 35 10) 11 [13,14,15,16,17,18],Dr (Fa 36 0 6) 12 [13,14,15,16,17,18],Dr (Ro 37 (.ixA 4 1 (.tmp 36) (.tmp 35))) 13 [14,15,16,17,18],Db (Ro 38 (.load1 (.int .u64) (.tmp 37))) 14 37 [15,16,17,18],Dr (Bt 39 .mul 70 34 38) 15 [16,17,18],Dr (Bt 40 .add 70 30 39) 16 [17,18],Dr (Bt 41 .add 70 24 40) 17 [18],Dr (As 9 41) 18 []])
 (.seq (.reg (some [4,5,6,7,8,9,10]) [Mv 42 8,Mv 43 10,Bt 44 .add 3 42 43,Mv 45 9,Bc 46 .and 70 45 .u64 4294967295,Fa 47 0 7,Ro 48 (.ixA 4 1 (.tmp 47) (.tmp 44)),⟨none,none,.op false (.store 1 (.tmp 48) (.tmp 46))⟩])
 (.reg (some [4,5,6,7,8,9,10]) [Mv 49 9,Ol 50 (.binOp .shr 70 (.tmp 49) (.const (.int .u64 32)) 78),As 9 50]))))
 (.reg (some [4,5,6,7,8,9,10]) [Mv 22 10,Bc 23 .add 3 22 .i64 1,As 10 23]))⟩)],
 []⟩
theorem r74_ok : resFun (progU ()) hint live 74 Try.f74 = some r74:=by kernel_rfl
def r75 : RFun :=
⟨.seq (.reg (some [0,1]) [Ro 2 (.box 4 (.tmp 0)),Ro 3 (.box 4 (.tmp 1)),Ol 4 (.assign (.const (.bool false)))])
 (.seq (.seq (.reg (some [2,3]) [Ac 5 3])
 (.block 0 (.loop 2 (some [2,3,5]) (some [2,3,5]))))
 (.seq (.reg (some []) [Ol 4 (.assign (.const (.bool false)))])
 .ret)),
 [.tmp 4],
 [(2,⟨some [2,3,5],some [2,3,5],.seq (.seq (.reg (some [2,3,5]) [Mv 6 5,Bc 7 .geq 3 6 .i64 0])
 (.cond (.tmp 7) .skip
 (.exit 0 (some []))))
 (.seq (.block 1 (.seq (.draw (some [2,3,5]) 9 [Dr (Mv 10 5) 0 [2,3,8],Dr (Fa 11 0 2) 1 [2,3,8],Dr (Ro 12 (.ixA 4 1 (.tmp 11) (.tmp 10))) 2 [3,8],Db (Ro 13 (.load1 (.int .u64) (.tmp 12))) 3 12 [8],Dr (Mv 14 5) 4 [6,7,8],Dr (Fa 15 0 3) 5 [6,7,8],Dr (Ro 16 (.ixA 4 1 (.tmp 15) (.tmp 14))) 6 [7,8],Db (Ro 17 (.load1 (.int .u64) (.tmp 16))) 7 16 [8],Dr (Bt 18 .neq 70 13 17) 8 []])
 (.cond (.tmp 18) (.seq (.draw (some [2,3,5]) 10 [Dr (Mv 19 5) 0 [2,3,8,9],Dr (Fa 20 0 2) 1 [2,3,8,9],Dr (Ro 21 (.ixA 4 1 (.tmp 20) (.tmp 19))) 2 [3,8,9],Db (Ro 22 (.load1 (.int .u64) (.tmp 21))) 3 21 [8,9],Dr (Mv 23 5) 4 [6,7,8,9],Dr (Fa 24 0 3) 5 [6,7,8,9],Dr (Ro 25 (.ixA 4 1 (.tmp 24) (.tmp 23))) 6 [7,8,9],Db (Ro 26 (.load1 (.int .u64) (.tmp 25))) 7 25 [8,9],Dr (Bt 27 .lss 70 22 26) 8 [9],Dr (As 4 27) 9 []])
 .ret)
 .skip)))
 (.reg (some [2,3,5]) [Mv 8 5,Bc 9 .sub 3 8 .i64 1,As 5 9]))⟩)],
 []⟩
theorem r75_ok : resFun (progU ()) hint live 75 Try.f75 = some r75:=by kernel_rfl
def r76 : RFun :=
⟨.seq (.reg (some [0,1,2,3]) [Mv 10 1,As 8 10])
 (.block 0 (.loop 1 (some [0,2,3,8]) (some [0,2,3,8]))),
 [],
 [(1,⟨some [0,2,3,8],some [0,2,3,8],.block 1 (.seq (.reg (some [0,2,3,8]) [Mv 11 8,Ol 12 (.binOp .mul 3 (.const (.int .i64 2)) (.tmp 11) 3),Bc 13 .add 3 12 .i64 1,As 9 13])
 (.seq (.seq (.reg (some [0,2,3,8,9]) [Mv 14 9,Mv 15 2,Bt 16 .geq 3 14 15])
 (.cond (.tmp 16) (.exit 0 (some []))
 .skip))
 (.seq (.seq (.draw (some [0,2,3,8,9]) 20 [Dr (Mv 17 9) 0 [1,3,4,5,6,7,8,9,10,11,12,13,14,15,16,17,18,19],Dr (Bc 18 .add 3 17 .i64 1) 1 [3,4,5,6,7,8,9,10,11,12,13,14,15,16,17,18,19],Dr (Mv 19 2) 2 [3,4,5,6,7,8,9,10,11,12,13,14,15,16,17,18,19],Dr (Bt 20 .lss 3 18 19) 3 [4,5,6,7,8,9,10,11,12,13,14,15,16,17,18,19],Dr (Mv 21 20) 4 [5,6,7,8,9,10,11,12,13,14,15,16,17,18,19],⟨⟨some 22,some (21,true),.op false (.old (.move (.tmp 0)))⟩,5,.none,[9,10,18,19],false,true⟩,⟨⟨some 23,some (21,true),.op false (.old (.move (.tmp 3)))⟩,6,.none,[8,9,10,18,19],false,true⟩,⟨⟨some 24,some (21,true),.op false (.old (.move (.tmp 9)))⟩,7,.none,[8,9,10,18,19],false,true⟩,⟨⟨some 25,some (21,true),.op false (.old (.binOp .add 3 (.tmp 23) (.tmp 24) 3))⟩,8,.none,[9,10,18,19],false,true⟩,⟨⟨some 26,some (21,true),.op false (.ixS 1 (.tmp 22) (.tmp 25))⟩,9,.none,[10,18,19],false,true⟩,⟨⟨some 27,some (21,true),.op false (.load1 (.int .i64) (.tmp 26))⟩,10,.blk (.tmp 26),[18,19],false,true⟩,⟨⟨some 28,some (21,true),.op false (.old (.move (.tmp 0)))⟩,11,.none,[16,17,18,19],false,true⟩,⟨⟨some 29,some (21,true),.op false (.old (.move (.tmp 3)))⟩,12,.none,[14,15,16,17,18,19],false,true⟩,⟨⟨some 30,some (21,true),.op false (.old (.move (.tmp 9)))⟩,13,.none,[14,15,16,17,18,19],false,true⟩,⟨⟨some 31,some (21,true),.op false (.old (.binOp .add 3 (.tmp 29) (.tmp 30) 3))⟩,14,.none,[15,16,17,18,19],false,true⟩,⟨⟨some 32,some (21,true),.op false (.old (.binOp .add 3 (.tmp 31) (.const (.int .i64 1)) 3))⟩,15,.none,[16,17,18,19],false,true⟩,⟨⟨some 33,some (21,true),.op false (.ixS 1 (.tmp 28) (.tmp 32))⟩,16,.none,[17,18,19],false,true⟩,⟨⟨some 34,some (21,true),.op false (.load1 (.int .i64) (.tmp 33))⟩,17,.blk (.tmp 33),[18,19],false,true⟩,⟨⟨some 35,some (21,true),.call (.func 67) [.tmp 27,.tmp 34] (some (.val (.one .bool)))⟩,18,.all,[19],false,false⟩,Dr (Ol 36 (.pick (.tmp 21) (.tmp 35) (.const (.bool false)))) 19 []])
 (.cond (.tmp 36) (.reg (some [0,2,3,8,9]) [Mv 37 9,Bc 38 .add 3 37 .i64 1,As 9 38])
 .skip))
 (.seq (.seq (.draw (some [0,2,3,8,9]) 14 [Dr (Mv 39 0) 0 [4,5,12,13],Dr (Mv 40 3) 1 [3,4,5,12,13],Dr (Mv 41 8) 2 [3,4,5,12,13],Dr (Bt 42 .add 3 40 41) 3 [4,5,12,13],Dr (Ix 43 1 39 42) 4 [5,12,13],Db (L1 44 43) 5 43 [12,13],Dr (Mv 45 0) 6 [10,11,12,13],Dr (Mv 46 3) 7 [9,10,11,12,13],Dr (Mv 47 9) 8 [9,10,11,12,13],Dr (Bt 48 .add 3 46 47) 9 [10,11,12,13],Dr (Ix 49 1 45 48) 10 [11,12,13],Db (L1 50 49) 11 49 [12,13],⟨Ca 51 67 [.tmp 44,.tmp 50] (some (.val (.one .bool))),12,.all,[13],false,false⟩,Dr (Ol 52 (.unOp .not 4 (.tmp 51))) 13 []])
 (.cond (.tmp 52) .ret
 .skip))
 (.seq (.draw (some [0,2,3,8,9]) 24 [Dr (Mv 53 0) 0 [20,21,22,23],Dr (Mv 54 3) 1 [3,20,21,22,23],Dr (Mv 55 8) 2 [3,20,21,22,23],Dr (Bt 56 .add 3 54 55) 3 [20,21,22,23],Dr (Mv 57 0) 4 [22,23],Dr (Mv 58 3) 5 [7,22,23],Dr (Mv 59 9) 6 [7,22,23],Dr (Bt 60 .add 3 58 59) 7 [22,23],Dr (Mv 61 0) 8 [12,13,20,21,22,23],Dr (Mv 62 3) 9 [11,12,13,20,21,22,23],Dr (Mv 63 9) 10 [11,12,13,20,21,22,23],Dr (Bt 64 .add 3 62 63) 11 [12,13,20,21,22,23],Dr (Ix 65 1 61 64) 12 [13,20,21,22,23],Db (L1 66 65) 13 65 [20,21,22,23],Dr (Mv 67 0) 14 [18,19,20,21,22,23],Dr (Mv 68 3) 15 [17,18,19,20,21,22,23],Dr (Mv 69 8) 16 [17,18,19,20,21,22,23],Dr (Bt 70 .add 3 68 69) 17 [18,19,20,21,22,23],Dr (Ix 71 1 67 70) 18 [19,20,21,22,23],Db (L1 72 71) 19 71 [20,21,22,23],Dr (Ix 73 1 53 56) 20 [21,22,23],⟨⟨none,none,.op false (.store 1 (.tmp 73) (.tmp 66))⟩,21,.blk (.tmp 73),[22,23],true,true⟩,Dr (Ix 74 1 57 60) 22 [23],⟨⟨none,none,.op false (.store 1 (.tmp 74) (.tmp 72))⟩,23,.blk (.tmp 74),[],true,true⟩])
 (.reg (some [0,2,3,9]) [Mv 75 9,As 8 75]))))))⟩)],
 []⟩
theorem r76_ok : resFun (progU ()) hint live 76 Try.f76 = some r76:=by kernel_rfl
def r77 : RFun :=
⟨.seq (.reg (some [0]) [Ol 2 (.assign (.const (.int .u64 0)))])
 (.seq (.reg (some [0]) [Mv 3 0,Ro 4 (.convI .u64 (.tmp 3)),Ca 5 53 [.tmp 4] (some (.val (.one (.int .i64)))),Ol 6 (.binOp .shl 78 (.const (.int .u64 1)) (.tmp 5) 3),As 2 6])
 .ret),
 [.tmp 2],
 [],
 []⟩
theorem r77_ok : resFun (progU ()) hint live 77 Try.f77 = some r77:=by kernel_rfl
def r78 : RFun :=
⟨.seq (.reg (some [0]) [Ol 2 (.assign (.const (.int .u64 0)))])
 (.seq (.draw (some [0]) 10 [Dr (Mv 3 0) 0 [1,2,7,8,9],Dr (Ol 4 (.nilCheck (.tmp 3))) 1 [2,7,8,9],Db (Ro 5 (.load1 (.int .u64) (.tmp 4))) 2 4 [7,8,9],Dr (Mv 6 0) 3 [4,5,6,7,8,9],Dr (Ol 7 (.nilCheck (.tmp 6))) 4 [5,6,7,8,9],Db (Ro 8 (.load1 (.int .u64) (.tmp 7))) 5 7 [6,7,8,9],Dr (Ol 9 (.binOp .shl 104 (.tmp 8) (.const (.int .u64 13)) 78)) 6 [7,8,9],Dr (Bt 10 .xor 104 5 9) 7 [8,9],Dr (Ol 11 (.nilCheck (.tmp 3))) 8 [9],⟨⟨none,none,.op false (.store 1 (.tmp 11) (.tmp 10))⟩,9,.blk (.tmp 11),[],true,true⟩])
 (.seq (.draw (some [0]) 10 [Dr (Mv 12 0) 0 [1,2,7,8,9],Dr (Ol 13 (.nilCheck (.tmp 12))) 1 [2,7,8,9],Db (Ro 14 (.load1 (.int .u64) (.tmp 13))) 2 13 [7,8,9],Dr (Mv 15 0) 3 [4,5,6,7,8,9],Dr (Ol 16 (.nilCheck (.tmp 15))) 4 [5,6,7,8,9],Db (Ro 17 (.load1 (.int .u64) (.tmp 16))) 5 16 [6,7,8,9],Dr (Ol 18 (.binOp .shr 104 (.tmp 17) (.const (.int .u64 7)) 78)) 6 [7,8,9],Dr (Bt 19 .xor 104 14 18) 7 [8,9],Dr (Ol 20 (.nilCheck (.tmp 12))) 8 [9],⟨⟨none,none,.op false (.store 1 (.tmp 20) (.tmp 19))⟩,9,.blk (.tmp 20),[],true,true⟩])
 (.seq (.draw (some [0]) 10 [Dr (Mv 21 0) 0 [1,2,7,8,9],Dr (Ol 22 (.nilCheck (.tmp 21))) 1 [2,7,8,9],Db (Ro 23 (.load1 (.int .u64) (.tmp 22))) 2 22 [7,8,9],Dr (Mv 24 0) 3 [4,5,6,7,8,9],Dr (Ol 25 (.nilCheck (.tmp 24))) 4 [5,6,7,8,9],Db (Ro 26 (.load1 (.int .u64) (.tmp 25))) 5 25 [6,7,8,9],Dr (Ol 27 (.binOp .shl 104 (.tmp 26) (.const (.int .u64 17)) 78)) 6 [7,8,9],Dr (Bt 28 .xor 104 23 27) 7 [8,9],Dr (Ol 29 (.nilCheck (.tmp 21))) 8 [9],⟨⟨none,none,.op false (.store 1 (.tmp 29) (.tmp 28))⟩,9,.blk (.tmp 29),[],true,true⟩])
 (.seq (.reg (some [0]) [Mv 30 0,Ol 31 (.nilCheck (.tmp 30)),Ro 32 (.load1 (.int .u64) (.tmp 31)),As 2 32])
 .ret)))),
 [.tmp 2],
 [],
 []⟩
theorem r78_ok : resFun (progU ()) hint live 78 Try.f78 = some r78:=by kernel_rfl
def r79 : RFun :=
⟨.seq (.reg (some [0,1,2]) [Ac 6 0])
 (.seq (.reg (some [0,1,2]) [Mv 7 0,Mv 8 1,Bc 9 .sub 3 8 .i64 1,Mv 10 1,Mv 11 1,Bc 12 .add 3 11 .i64 1,Mv 13 2,Ca 14 80 [.tmp 7,.tmp 9,.tmp 10,.tmp 12,.tmp 13] (some (.val (.one (.int .i64)))),As 6 14])
 .ret),
 [.tmp 6],
 [],
 []⟩
theorem r79_ok : resFun (progU ()) hint live 79 Try.f79 = some r79:=by kernel_rfl
def r80 : RFun :=
⟨.seq (.reg (some [0,1,2,3,4]) [Ac 10 0])
 (.seq (.reg (some [0,1,2,3,4]) [Mv 12 0,Mv 13 1,Mv 14 2,Mv 15 4,Ca 16 84 [.tmp 12,.tmp 13,.tmp 14,.tmp 15] (some (.tup [.one (.int .i64),.one (.int .i64)])),Mv 11 16,Ex 17 11 0,Ex 18 11 1,As 1 17,As 2 18])
 (.seq (.reg (some [0,1,2,3,4]) [Mv 20 0,Mv 21 2,Mv 22 3,Mv 23 4,Ca 24 84 [.tmp 20,.tmp 21,.tmp 22,.tmp 23] (some (.tup [.one (.int .i64),.one (.int .i64)])),Mv 19 24,Ex 25 19 0,Ex 26 19 1,As 2 25,As 3 26])
 (.seq (.reg (some [0,1,2,4]) [Mv 28 0,Mv 29 1,Mv 30 2,Mv 31 4,Ca 32 84 [.tmp 28,.tmp 29,.tmp 30,.tmp 31] (some (.tup [.one (.int .i64),.one (.int .i64)])),Mv 27 32,Ex 33 27 0,Ex 34 27 1,As 1 33,As 2 34])
 (.seq (.reg (some [2]) [Mv 35 2,As 10 35])
 .ret)))),
 [.tmp 10],
 [],
 []⟩
theorem r80_ok : resFun (progU ()) hint live 80 Try.f80 = some r80:=by kernel_rfl
def r81 : RFun :=
⟨.seq (.reg (some [0]) [Ol 2 (.assign (.const (.bool false)))])
 (.seq (.reg (some [0]) [Mv 3 0,Mv 4 0,Bt 5 .neq 3 3 4,As 2 5])
 .ret),
 [.tmp 2],
 [],
 []⟩
theorem r81_ok : resFun (progU ()) hint live 81 Try.f81 = some r81:=by kernel_rfl
def r82 : RFun :=
⟨.seq (.reg (some [0,1]) [Ol 4 (.assign (.const (.int .u64 0))),Ol 5 (.assign (.const (.int .u64 0)))])
 (.seq (.reg (some [0,1]) [Mv 14 0,Bc 15 .and 70 14 .u64 4294967295,As 6 15])
 (.seq (.reg (some [0,1,6]) [Mv 16 0,Ol 17 (.binOp .shr 70 (.tmp 16) (.const (.int .u64 32)) 78),As 7 17])
 (.seq (.reg (some [0,1,6,7]) [Mv 18 1,Bc 19 .and 70 18 .u64 4294967295,As 8 19])
 (.seq (.reg (some [0,1,6,7,8]) [Mv 20 1,Ol 21 (.binOp .shr 70 (.tmp 20) (.const (.int .u64 32)) 78),As 9 21])
 (.seq (.reg (some [0,1,6,7,8,9]) [Mv 22 6,Mv 23 8,Bt 24 .mul 70 22 23,As 10 24])
 (.seq (.reg (some [0,1,6,7,8,9,10]) [Mv 25 7,Mv 26 8,Bt 27 .mul 70 25 26,Mv 28 10,Ol 29 (.binOp .shr 70 (.tmp 28) (.const (.int .u64 32)) 78),Bt 30 .add 70 27 29,As 11 30])
 (.seq (.reg (some [0,1,6,7,9,11]) [Mv 31 11,Bc 32 .and 70 31 .u64 4294967295,As 12 32])
 (.seq (.reg (some [0,1,6,7,9,11,12]) [Mv 33 11,Ol 34 (.binOp .shr 70 (.tmp 33) (.const (.int .u64 32)) 78),As 13 34])
 (.seq (.reg (some [0,1,6,7,9,12,13]) [Mv 35 12,Mv 36 6,Mv 37 9,Bt 38 .mul 70 36 37,Bt 39 .add 70 35 38,As 12 39])
 (.seq (.reg (some [0,1,7,9,12,13]) [Mv 40 7,Mv 41 9,Bt 42 .mul 70 40 41,Mv 43 13,Bt 44 .add 70 42 43,Mv 45 12,Ol 46 (.binOp .shr 70 (.tmp 45) (.const (.int .u64 32)) 78),Bt 47 .add 70 44 46,As 4 47])
 (.seq (.reg (some [0,1,4]) [Mv 48 0,Mv 49 1,Bt 50 .mul 70 48 49,As 5 50])
 .ret))))))))))),
 [.tmp 4,.tmp 5],
 [],
 []⟩
theorem r82_ok : resFun (progU ()) hint live 82 Try.f82 = some r82:=by kernel_rfl
def r83 : RFun :=
⟨.seq (.reg (some [0,1,2,3]) [Ac 8 0])
 (.seq (.block 0 (.seq (.reg (some [0,1,2,3]) [Mv 10 0,Mv 11 2,Bt 12 .gtr 70 10 11,Mv 13 12,⟨some 14,some (13,false),.op false (.old (.move (.tmp 0)))⟩,⟨some 15,some (13,false),.op false (.old (.move (.tmp 2)))⟩,⟨some 16,some (13,false),.op false (.old (.binOp .eql 70 (.tmp 14) (.tmp 15) 70))⟩,⟨some 17,some (13,false),.op false (.old (.move (.tmp 16)))⟩,⟨some 18,some (17,true),.op false (.old (.move (.tmp 1)))⟩,⟨some 19,some (17,true),.op false (.old (.move (.tmp 3)))⟩,⟨some 20,some (17,true),.op false (.old (.binOp .gtr 70 (.tmp 18) (.tmp 19) 70))⟩,⟨some 21,some (13,false),.op false (.old (.pick (.tmp 17) (.tmp 20) (.const (.bool false))))⟩,Ol 22 (.pick (.tmp 13) (.const (.bool true)) (.tmp 21)),As 9 22])
 (.cond (.tmp 9) (.seq (.reg (some []) [Ac 8 1])
 .ret)
 (.seq (.reg (some [0,1,2,3]) [Mv 24 0,Mv 25 2,Bt 26 .eql 70 24 25,Mv 27 26,⟨some 28,some (27,true),.op false (.old (.move (.tmp 1)))⟩,⟨some 29,some (27,true),.op false (.old (.move (.tmp 3)))⟩,⟨some 30,some (27,true),.op false (.old (.binOp .eql 70 (.tmp 28) (.tmp 29) 70))⟩,Ol 31 (.pick (.tmp 27) (.tmp 30) (.const (.bool false))),As 23 31])
 (.cond (.tmp 23) (.seq (.reg (some []) [Ac 8 0])
 .ret)
 .skip)))))
 (.seq (.reg (some []) [Ol 8 (.assign (.const (.int .i64 (-1))))])
 .ret)),
 [.tmp 8],
 [],
 []⟩
theorem r83_ok : resFun (progU ()) hint live 83 Try.f83 = some r83:=by kernel_rfl
def r84 : RFun :=
⟨.seq (.reg (some [0,1,2,3]) [Ac 8 0,Ac 9 0])
 (.seq (.seq (.draw (some [0,1,2,3]) 9 [Dr (Mv 10 0) 0 [2,3,8],Dr (Mv 11 2) 1 [2,3,8],Dr (Ix 12 1 10 11) 2 [3,8],Db (L1 13 12) 3 12 [8],Dr (Mv 14 0) 4 [6,7,8],Dr (Mv 15 1) 5 [6,7,8],Dr (Ix 16 1 14 15) 6 [7,8],Db (L1 17 16) 7 16 [8],⟨Ca 18 67 [.tmp 13,.tmp 17] (some (.val (.one .bool))),8,.all,[],false,false⟩])
 (.cond (.tmp 18) (.seq (.reg (some [1,2,3]) [Mv 19 3,Ol 20 (.nilCheck (.tmp 19)),L1 21 20,Bc 22 .add 3 21 .i64 1,Ol 23 (.nilCheck (.tmp 19)),⟨none,none,.op false (.store 1 (.tmp 23) (.tmp 22))⟩])
 (.seq (.reg (some [1,2]) [Mv 24 2,Mv 25 1,As 8 24,As 9 25])
 .ret))
 .skip))
 (.seq (.reg (some [1,2]) [Mv 26 1,Mv 27 2,As 8 26,As 9 27])
 .ret)),
 [.tmp 8,.tmp 9],
 [],
 []⟩
theorem r84_ok : resFun (progU ()) hint live 84 Try.f84 = some r84:=by kernel_rfl
end Go.Proofs.Ytcdoknkgbnaefaa
