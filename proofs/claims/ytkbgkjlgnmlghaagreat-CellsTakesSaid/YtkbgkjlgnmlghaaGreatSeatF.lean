import Derived.Test.YtkbgkjlgnmlghaaGreatSeat0
import Derived.Test.YtkbgkjlgnmlghaaGreatSymS
set_option linter.unusedSimpArgs false
set_option linter.unusedVariables false
namespace Go.Proofs.YtkbgkjlgnmlghaaGreat
open Go.Sim
set_option maxRecDepth 100000
def r103 : RFun :=
⟨.seq (.reg (some [0,1]) [Ro 2 (.box 4 (.tmp 0)),Ro 3 (.box 4 (.tmp 1)),⟨some 4,none,.op true (.new 4 [.int .u64 0,.int .u64 0,.int .u64 0,.int .u64 0])⟩])
 (.seq (.reg (some [2,3,4]) [Ol 5 (.assign (.const (.int .u64 0)))])
 (.seq (.seq (.reg (some [2,3,4,5]) [Ac 6 0])
 (.block 0 (.loop 3 (some [2,3,4,5,6]) (some [2,3,4,5,6]))))
 (.seq (.reg (some [2,4]) [Ro 29 (.load 4 [.int .u64,.int .u64,.int .u64,.int .u64] (.tmp 2)),⟨none,none,.op false (.store 4 (.tmp 4) (.tmp 29))⟩])
 .ret))),
 [.agg 4 4 [.int .u64,.int .u64,.int .u64,.int .u64]],
 [(3,⟨some [2,3,4,5,6],some [2,3,4,5,6],.seq (.seq (.reg (some [2,3,4,5,6]) [Mv 7 6,Bc 8 .lss 3 7 .i64 4])
 (.cond (.tmp 8) .skip
 (.exit 0 (some [2,4]))))
 (.seq (.block 1 (.seq (.draw (some [2,3,4,5,6]) 12 [Dr (Mv 11 5) 0 [10,11],Dr (Mv 12 6) 1 [3,4,9,10,11],Dr (Fa 13 0 2) 2 [3,4,9,10,11],Dr (Ro 14 (.ixA 4 1 (.tmp 13) (.tmp 12))) 3 [4,9,10,11],Db (Ro 15 (.load1 (.int .u64) (.tmp 14))) 4 14 [9,10,11],Dr (Mv 16 6) 5 [7,8,9,10,11],Dr (Fa 17 0 3) 6 [7,8,9,10,11],Dr (Ro 18 (.ixA 4 1 (.tmp 17) (.tmp 16))) 7 [8,9,10,11],Db (Ro 19 (.load1 (.int .u64) (.tmp 18))) 8 18 [9,10,11],Dr (Bt 20 .add 100 15 19) 9 [10,11],Dr (Bt 21 .add 100 11 20) 10 [11],Dr (As 5 21) 11 []])
 (.seq (.reg (some [2,3,4,5,6]) [Mv 22 6,Mv 23 5,Bc 24 .and 100 23 .u64 4294967295,Fa 25 0 2,Ro 26 (.ixA 4 1 (.tmp 25) (.tmp 22)),⟨none,none,.op false (.store 1 (.tmp 26) (.tmp 24))⟩])
 (.reg (some [2,3,4,5,6]) [Mv 27 5,Ol 28 (.binOp .shr 100 (.tmp 27) (.const (.int .u64 32)) 91),As 5 28]))))
 (.reg (some [2,3,4,5,6]) [Mv 9 6,Bc 10 .add 3 9 .i64 1,As 6 10]))⟩)],
 []⟩
theorem r103_ok : resFun (progU ()) hint live 103 Tryz.f103 = some r103:=by kernel_rfl
def r104 : RFun :=
⟨.seq (.reg (some [0,1]) [Ro 2 (.box 4 (.tmp 0)),Ro 3 (.box 4 (.tmp 1)),⟨some 4,none,.op true (.new 4 [.int .u64 0,.int .u64 0,.int .u64 0,.int .u64 0])⟩])
 (.seq (.reg (some [2,3,4]) [Ol 5 (.assign (.const (.int .u64 0)))])
 (.seq (.seq (.reg (some [2,3,4,5]) [Ac 6 0])
 (.block 0 (.loop 3 (some [2,3,4,5,6]) (some [2,3,4,5,6]))))
 (.seq (.reg (some [2,4]) [Ro 33 (.load 4 [.int .u64,.int .u64,.int .u64,.int .u64] (.tmp 2)),⟨none,none,.op false (.store 4 (.tmp 4) (.tmp 33))⟩])
 .ret))),
 [.agg 4 4 [.int .u64,.int .u64,.int .u64,.int .u64]],
 [(3,⟨some [2,3,4,5,6],some [2,3,4,5,6],.seq (.seq (.reg (some [2,3,4,5,6]) [Mv 8 6,Bc 9 .lss 3 8 .i64 4])
 (.cond (.tmp 9) .skip
 (.exit 0 (some [2,4]))))
 (.seq (.block 1 (.seq (.draw (some [2,3,4,5,6]) 14 [Dr (Mv 12 6) 0 [2,3,4,5,10,12,13],Dr (Fa 13 0 2) 1 [2,3,4,5,10,12,13],Dr (Ro 14 (.ixA 4 1 (.tmp 13) (.tmp 12))) 2 [3,4,5,10,12,13],Db (Ro 15 (.load1 (.int .u64) (.tmp 14))) 3 14 [4,5,10,12,13],Dr (Bc 16 .add 100 15 .u64 4294967295) 4 [5,10,12,13],Dr (Bc 17 .add 100 16 .u64 1) 5 [10,12,13],Dr (Mv 18 6) 6 [8,9,10,12,13],Dr (Fa 19 0 3) 7 [8,9,10,12,13],Dr (Ro 20 (.ixA 4 1 (.tmp 19) (.tmp 18))) 8 [9,10,12,13],Db (Ro 21 (.load1 (.int .u64) (.tmp 20))) 9 20 [10,12,13],Dr (Bt 22 .sub 100 17 21) 10 [12,13],Dr (Mv 23 5) 11 [12,13],Dr (Bt 24 .sub 100 22 23) 12 [13],Dr (As 7 24) 13 []])
 (.seq (.reg (some [2,3,4,6,7]) [Mv 25 6,Mv 26 7,Bc 27 .and 100 26 .u64 4294967295,Fa 28 0 2,Ro 29 (.ixA 4 1 (.tmp 28) (.tmp 25)),⟨none,none,.op false (.store 1 (.tmp 29) (.tmp 27))⟩])
 (.reg (some [2,3,4,6,7]) [Mv 30 7,Ol 31 (.binOp .shr 100 (.tmp 30) (.const (.int .u64 32)) 91),Ol 32 (.binOp .sub 100 (.const (.int .u64 1)) (.tmp 31) 100),As 5 32]))))
 (.reg (some [2,3,4,5,6]) [Mv 10 6,Bc 11 .add 3 10 .i64 1,As 6 11]))⟩)],
 []⟩
theorem r104_ok : resFun (progU ()) hint live 104 Tryz.f104 = some r104:=by kernel_rfl
def r105 : RFun :=
⟨.seq (.reg (some [0,1]) [Ro 2 (.box 4 (.tmp 0)),⟨some 4,none,.op true (.new 4 [.int .u64 0,.int .u64 0,.int .u64 0,.int .u64 0])⟩,Ol 5 (.assign (.const (.int .u64 0)))])
 (.seq (.reg (some [1,2,4]) [Ro 10 (.build [.int .u64 0,.int .u64 0,.int .u64 0,.int .u64 0] []),Ro 6 (.new 4 [.int .u64 0,.int .u64 0,.int .u64 0,.int .u64 0]),⟨none,none,.op false (.store 4 (.tmp 6) (.tmp 10))⟩,Ol 7 (.assign (.const (.int .u64 0)))])
 (.seq (.seq (.reg (some [1,2,4,6,7]) [Ac 8 3])
 (.block 0 (.loop 3 (some [1,2,4,6,7,8]) (some [1,2,4,6,7,8]))))
 (.seq (.reg (some [4,6,7]) [Ro 44 (.load 4 [.int .u64,.int .u64,.int .u64,.int .u64] (.tmp 6)),Mv 45 7,⟨none,none,.op false (.store 4 (.tmp 4) (.tmp 44))⟩,As 5 45])
 .ret))),
 [.agg 4 4 [.int .u64,.int .u64,.int .u64,.int .u64],.tmp 5],
 [(3,⟨some [1,2,4,6,7,8],some [1,2,4,6,7,8],.seq (.seq (.reg (some [1,2,4,6,7,8]) [Mv 11 8,Bc 12 .geq 3 11 .i64 0])
 (.cond (.tmp 12) .skip
 (.exit 0 (some [4,6,7]))))
 (.seq (.block 1 (.seq (.reg (some [1,2,4,6,7,8]) [Ac 9 31])
 (.block 2 (.loop 6 (some [1,2,4,6,7,8,9]) (some [1,2,4,6,7,8,9])))))
 (.reg (some [1,2,4,6,7,8]) [Mv 13 8,Bc 14 .sub 3 13 .i64 1,As 8 14]))⟩),(6,⟨some [1,2,4,6,7,8,9],some [1,2,4,6,7,8,9],.seq (.seq (.reg (some [1,2,4,6,7,8,9]) [Mv 15 9,Bc 16 .geq 3 15 .i64 0])
 (.cond (.tmp 16) .skip
 (.exit 2 (some [1,2,4,6,7,8]))))
 (.seq (.block 3 (.seq (.reg (some [1,2,4,6,7,8,9]) [Mv 19 7,Ol 20 (.binOp .shl 100 (.tmp 19) (.const (.int .u64 1)) 91),Mv 21 8,Fa 22 0 2,Ro 23 (.ixA 4 1 (.tmp 22) (.tmp 21)),Ro 24 (.load1 (.int .u64) (.tmp 23)),Mv 25 9,Ol 26 (.binOp .shr 100 (.tmp 24) (.tmp 25) 3),Bc 27 .and 100 26 .u64 1,Bt 28 .or 100 20 27,As 7 28])
 (.seq (.reg (some [1,2,4,6,7,8,9]) [Mv 29 7,Mv 30 1,Bt 31 .geq 100 29 30])
 (.cond (.tmp 31) (.seq (.reg (some [1,2,4,6,7,8,9]) [Mv 32 7,Mv 33 1,Bt 34 .sub 100 32 33,As 7 34])
 (.draw (some [1,2,4,6,7,8,9]) 10 [Dr (Mv 35 8) 0 [2,3,6,8,9],Dr (Fa 36 0 6) 1 [2,3,6,8,9],Dr (Ro 37 (.ixA 4 1 (.tmp 36) (.tmp 35))) 2 [3,6,8,9],Db (Ro 38 (.load1 (.int .u64) (.tmp 37))) 3 37 [6,8,9],Dr (Mv 39 9) 4 [5,6,8,9],Dr (Ol 40 (.binOp .shl 100 (.const (.int .u64 1)) (.tmp 39) 3)) 5 [6,8,9],Dr (Bt 41 .or 100 38 40) 6 [8,9],Dr (Fa 42 0 6) 7 [8,9],Dr (Ro 43 (.ixA 4 1 (.tmp 42) (.tmp 35))) 8 [9],⟨⟨none,none,.op false (.store 1 (.tmp 43) (.tmp 41))⟩,9,.blk (.tmp 43),[],true,true⟩]))
 .skip))))
 (.reg (some [1,2,4,6,7,8,9]) [Mv 17 9,Bc 18 .sub 3 17 .i64 1,As 9 18]))⟩)],
 []⟩
theorem r105_ok : resFun (progU ()) hint live 105 Tryz.f105 = some r105:=by kernel_rfl
def r106 : RFun :=
⟨.seq (.reg (some [0]) [Ac 2 0])
 (.seq (.reg (some [0]) [Mv 3 0,Ca 4 86 [.tmp 3] (some (.val (.one (.int .i64)))),Ol 5 (.binOp .sub 3 (.const (.int .i64 64)) (.tmp 4) 3),As 2 5])
 .ret),
 [.tmp 2],
 [],
 []⟩
theorem r106_ok : resFun (progU ()) hint live 106 Tryz.f106 = some r106:=by kernel_rfl
end Go.Proofs.YtkbgkjlgnmlghaaGreat
