import Derived.Test.YtkbgkjlgnmlghaaSeat0
import Derived.Test.YtkbgkjlgnmlghaaSymS
set_option linter.unusedSimpArgs false
set_option linter.unusedVariables false
namespace Go.Proofs.Ytkbgkjlgnmlghaa
open Go.Sim
set_option maxRecDepth 100000
def r112 : RFun :=
⟨.seq (.reg (some [0,1]) [⟨some 2,none,.op true (.box 2 (.tmp 0))⟩,⟨some 3,none,.op true (.box 2 (.tmp 1))⟩,⟨some 4,none,.op true (.new 2 [.int .i64 0,.int .i64 0])⟩,Ac 5 0])
 (.seq (.seq (.reg (some [2,3,4]) [Ld 12 2,Ld 13 3,Ca 14 93 [.tmp 12,.tmp 13] (some (.val (.one (.int .i64)))),Bc 15 .neq 3 14 .i64 0])
 (.cond (.tmp 15) (.seq (.reg (some [2,3,4]) [Ro 16 (.build [.int .i64 0,.int .i64 0] []),Ld 17 2,Ld 18 3,Ca 19 93 [.tmp 17,.tmp 18] (some (.val (.one (.int .i64)))),⟨none,none,.op false (.store 2 (.tmp 4) (.tmp 16))⟩,As 5 19])
 .ret)
 .skip))
 (.seq (.reg (some [2,3,4]) [Fa 20 1 2,L1 21 20,Ro 22 (.convI .u64 (.tmp 21)),Fa 23 1 3,L1 24 23,Ro 25 (.convI .u64 (.tmp 24)),Ca 26 94 [.tmp 22,.tmp 25] (some (.val (.one (.int .u64)))),As 6 26])
 (.seq (.draw (some [2,3,4,6]) 22 [Dr (Fa 27 0 2) 0 [1,2,8,11,17,20,21],Db (L1 28 27) 1 27 [2,8,11,17,20,21],Dr (Fa 30 1 3) 3 [4,5,7,8,11,17,20,21],Db (L1 31 30) 4 30 [5,7,8,11,17,20,21],⟨Ro 32 (.convI .u64 (.tmp 31)),5,.cvt (.tmp 31),[7,8,11,17,20,21],false,true⟩,Dr (Mv 33 6) 6 [7,8,11,17,20,21],Dr (Bt 34 .quo 110 32 33) 7 [8,11,17,20,21],Dr (Fa 36 0 3) 9 [10,11,17,20,21],Db (L1 37 36) 10 36 [11,17,20,21],Dr (Fa 39 1 2) 12 [13,14,16,17,20,21],Db (L1 40 39) 13 39 [14,16,17,20,21],⟨Ro 41 (.convI .u64 (.tmp 40)),14,.cvt (.tmp 40),[16,17,20,21],false,true⟩,Dr (Mv 42 6) 15 [16,17,20,21],Dr (Bt 43 .quo 110 41 42) 16 [17,20,21],⟨⟨some 7,none,.op true (.new 4 [.int .u64 0,.int .u64 0,.int .u64 0,.int .u64 0])⟩,18,.new true,[20,21],false,true⟩,⟨⟨some 8,none,.op true (.new 4 [.int .u64 0,.int .u64 0,.int .u64 0,.int .u64 0])⟩,19,.new true,[20,21],false,true⟩,⟨Ca 29 95 [.tmp 28] (some (.val (.one (.int .u64)))),2,.all,[8,11,17,20,21],false,false⟩,⟨Ca 35 97 [.tmp 29,.tmp 34] (some (.val (.agg [.int .u64,.int .u64,.int .u64,.int .u64]))),8,.all,[11,17,20,21],false,false⟩,⟨Ca 38 95 [.tmp 37] (some (.val (.one (.int .u64)))),11,.all,[17,20,21],false,false⟩,⟨Ca 44 97 [.tmp 38,.tmp 43] (some (.val (.agg [.int .u64,.int .u64,.int .u64,.int .u64]))),17,.all,[20,21],false,false⟩,⟨⟨none,none,.op false (.store 4 (.tmp 7) (.tmp 35))⟩,20,.blk (.tmp 7),[21],true,true⟩,⟨⟨none,none,.op false (.store 4 (.tmp 8) (.tmp 44))⟩,21,.blk (.tmp 8),[],true,true⟩])
 (.seq (.seq (.reg (some [2,3,4,6,7,8]) [Fa 45 0 2,L1 46 45,Bc 47 .lss 2 46 .i64 0,Fa 48 0 3,L1 49 48,Bc 50 .lss 2 49 .i64 0,Bt 51 .eql 4 47 50])
 (.cond (.tmp 51) (.reg (some [2,3,4,6,7,8]) [Ro 52 (.load 4 [.int .u64,.int .u64,.int .u64,.int .u64] (.tmp 7)),Ro 53 (.load 4 [.int .u64,.int .u64,.int .u64,.int .u64] (.tmp 8)),Ca 54 116 [.tmp 52,.tmp 53] (some (.val (.agg [.int .u64,.int .u64,.int .u64,.int .u64]))),⟨none,none,.op false (.store 4 (.tmp 7) (.tmp 54))⟩])
 (.seq (.reg (some [2,3,4,6,7,8]) [Ro 55 (.load 4 [.int .u64,.int .u64,.int .u64,.int .u64] (.tmp 7)),Ro 56 (.load 4 [.int .u64,.int .u64,.int .u64,.int .u64] (.tmp 8)),Ca 57 103 [.tmp 55,.tmp 56] (some (.val (.one .bool)))])
 (.cond (.tmp 57) (.draw (some [2,3,4,6,7,8]) 8 [Db (Ro 58 (.load 4 [.int .u64,.int .u64,.int .u64,.int .u64] (.tmp 8))) 0 8 [2,5,6,7],Db (Ro 59 (.load 4 [.int .u64,.int .u64,.int .u64,.int .u64] (.tmp 7))) 1 7 [2,5,6,7],Db (Ld 61 3) 3 3 [6,7],Db (Ld 62 2) 4 2 [5,6,7],⟨Ca 60 117 [.tmp 58,.tmp 59] (some (.val (.agg [.int .u64,.int .u64,.int .u64,.int .u64]))),2,.all,[5,6,7],false,false⟩,⟨⟨none,none,.op false (.store 4 (.tmp 7) (.tmp 60))⟩,5,.blk (.tmp 7),[6,7],true,true⟩,⟨⟨none,none,.op false (.store 2 (.tmp 2) (.tmp 61))⟩,6,.blk (.tmp 2),[7],true,true⟩,⟨⟨none,none,.op false (.store 2 (.tmp 3) (.tmp 62))⟩,7,.blk (.tmp 3),[],true,true⟩])
 (.reg (some [2,3,4,6,7,8]) [Ro 63 (.load 4 [.int .u64,.int .u64,.int .u64,.int .u64] (.tmp 7)),Ro 64 (.load 4 [.int .u64,.int .u64,.int .u64,.int .u64] (.tmp 8)),Ca 65 117 [.tmp 63,.tmp 64] (some (.val (.agg [.int .u64,.int .u64,.int .u64,.int .u64]))),⟨none,none,.op false (.store 4 (.tmp 7) (.tmp 65))⟩])))))
 (.seq (.reg (some [2,3,4,6,7]) [Ro 67 (.load 4 [.int .u64,.int .u64,.int .u64,.int .u64] (.tmp 7)),Mv 68 6,Ca 69 118 [.tmp 67,.tmp 68] (some (.tup [.agg [.int .u64,.int .u64,.int .u64,.int .u64],.one (.int .u64)])),Mv 66 69,Ex 70 66 0,Ex 71 66 1,⟨some 9,none,.op true (.new 4 [.int .u64 0,.int .u64 0,.int .u64 0,.int .u64 0])⟩,⟨none,none,.op false (.store 4 (.tmp 9) (.tmp 70))⟩,As 10 71])
 (.seq (.reg (some [2,3,4,6,7,10]) [Mv 72 10,Mv 73 6,Ca 74 94 [.tmp 72,.tmp 73] (some (.val (.one (.int .u64)))),As 11 74])
 (.seq (.reg (some [2,3,4,6,7,11]) [Ro 76 (.load 4 [.int .u64,.int .u64,.int .u64,.int .u64] (.tmp 7)),Mv 77 11,Ca 78 118 [.tmp 76,.tmp 77] (some (.tup [.agg [.int .u64,.int .u64,.int .u64,.int .u64],.one (.int .u64)])),Mv 75 78,Ex 79 75 0,Ex 80 75 1,⟨none,none,.op false (.store 4 (.tmp 7) (.tmp 79))⟩])
 (.seq (.seq (.reg (some [2,3,4,6,7,11]) [Ro 81 (.load 4 [.int .u64,.int .u64,.int .u64,.int .u64] (.tmp 7)),Ro 82 (.build [.int .u64 0,.int .u64 0,.int .u64 0,.int .u64 0] []),Bt 83 .eql 135 81 82])
 (.cond (.tmp 83) (.seq (.reg (some [4]) [Ro 84 (.build [.int .i64 0,.int .i64 0] [(1,1,(.const (.int .i64 1)))]),⟨none,none,.op false (.store 2 (.tmp 4) (.tmp 84))⟩,Ac 5 0])
 .ret)
 .skip))
 (.seq (.draw (some [2,3,4,6,7,11]) 20 [Dr (Fa 85 0 2) 0 [1,2,15,16,17,18,19],Db (L1 86 85) 1 85 [2,15,16,17,18,19],Dr (Bc 87 .lss 2 86 .i64 0) 2 [15,16,17,18,19],Db (Ro 88 (.load 4 [.int .u64,.int .u64,.int .u64,.int .u64] (.tmp 7))) 3 7 [15,16,17,18,19],Dr (Fa 89 1 2) 4 [5,6,8,14,15,16,17,18,19],Db (L1 90 89) 5 89 [6,8,14,15,16,17,18,19],⟨Ro 91 (.convI .u64 (.tmp 90)),6,.cvt (.tmp 90),[8,14,15,16,17,18,19],false,true⟩,Dr (Mv 92 6) 7 [8,14,15,16,17,18,19],Dr (Bt 93 .quo 110 91 92) 8 [14,15,16,17,18,19],Dr (Fa 94 1 3) 9 [10,11,13,14,15,16,17,18,19],Db (L1 95 94) 10 94 [11,13,14,15,16,17,18,19],⟨Ro 96 (.convI .u64 (.tmp 95)),11,.cvt (.tmp 95),[13,14,15,16,17,18,19],false,true⟩,Dr (Mv 97 11) 12 [13,14,15,16,17,18,19],Dr (Bt 98 .quo 110 96 97) 13 [14,15,16,17,18,19],⟨Ca 99 97 [.tmp 93,.tmp 98] (some (.val (.agg [.int .u64,.int .u64,.int .u64,.int .u64]))),14,.all,[15,16,17,18,19],false,false⟩,⟨Ca 100 96 [.tmp 87,.tmp 88,.tmp 99] (some (.tup [.agg [.int .i64,.int .i64],.one (.int .i64)])),15,.all,[16,17,18,19],false,false⟩,Dr (Ex 101 100 0) 16 [18,19],Dr (Ex 102 100 1) 17 [18,19],⟨⟨none,none,.op false (.store 2 (.tmp 4) (.tmp 101))⟩,18,.blk (.tmp 4),[19],true,true⟩,Dr (As 5 102) 19 []])
 .ret))))))))),
 [.agg 4 2 [.int .i64,.int .i64],.tmp 5],
 [],
 []⟩
theorem r112_ok : resFun (progU ()) hint live 112 Try.f112 = some r112:=by kernel_rfl
def r113 : RFun :=
⟨.seq (.reg (some [0]) [⟨some 1,none,.op true (.box 2 (.tmp 0))⟩,⟨some 2,none,.op true (.new 2 [.int .i64 0,.int .i64 0])⟩])
 (.seq (.reg (some [1,2]) [Fa 3 0 1,L1 4 3,Ol 5 (.unOp .neg 2 (.tmp 4)),Fa 6 1 1,L1 7 6,Ro 8 (.build [.int .i64 0,.int .i64 0] [(0,1,(.tmp 5)),(1,1,(.tmp 7))]),⟨none,none,.op false (.store 2 (.tmp 2) (.tmp 8))⟩])
 .ret),
 [.agg 2 2 [.int .i64,.int .i64]],
 [],
 []⟩
theorem r113_ok : resFun (progU ()) hint live 113 Try.f113 = some r113:=by kernel_rfl
def r114 : RFun :=
⟨.seq (.reg (some [0,1,2,3]) [Ac 8 0])
 (.seq (.reg (some [0,1,2,3]) [Mv 14 0,Mv 15 1,Ca 16 74 [.tmp 14,.tmp 15] (some (.tup [.one (.int .u64),.one (.int .u64)])),Mv 13 16,Ex 17 13 0,Ex 18 13 1,As 9 17,As 10 18])
 (.seq (.reg (some [2,3,9,10]) [Mv 20 2,Mv 21 3,Ca 22 74 [.tmp 20,.tmp 21] (some (.tup [.one (.int .u64),.one (.int .u64)])),Mv 19 22,Ex 23 19 0,Ex 24 19 1,As 11 23,As 12 24])
 (.seq (.reg (some [9,10,11,12]) [Mv 25 9,Mv 26 10,Mv 27 11,Mv 28 12,Ca 29 77 [.tmp 25,.tmp 26,.tmp 27,.tmp 28] (some (.val (.one (.int .i64)))),As 8 29])
 .ret))),
 [.tmp 8],
 [],
 []⟩
theorem r114_ok : resFun (progU ()) hint live 114 Try.f114 = some r114:=by kernel_rfl
def r116 : RFun :=
⟨.seq (.reg (some [0,1]) [Ro 2 (.box 4 (.tmp 0)),Ro 3 (.box 4 (.tmp 1)),⟨some 4,none,.op true (.new 4 [.int .u64 0,.int .u64 0,.int .u64 0,.int .u64 0])⟩])
 (.seq (.reg (some [2,3,4]) [Ol 5 (.assign (.const (.int .u64 0)))])
 (.seq (.seq (.reg (some [2,3,4,5]) [Ac 6 0])
 (.block 0 (.loop 3 (some [2,3,4,5,6]) (some [2,3,4,5,6]))))
 (.seq (.reg (some [2,4]) [Ro 29 (.load 4 [.int .u64,.int .u64,.int .u64,.int .u64] (.tmp 2)),⟨none,none,.op false (.store 4 (.tmp 4) (.tmp 29))⟩])
 .ret))),
 [.agg 4 4 [.int .u64,.int .u64,.int .u64,.int .u64]],
 [(3,⟨some [2,3,4,5,6],some [2,3,4,5,6],.seq (.seq (.reg (some [2,3,4,5,6]) [Mv 7 6,Bc 8 .lss 3 7 .i64 4])
 (.cond (.tmp 8) .skip
 (.exit 0 (some [2,4]))))
 (.seq (.block 1 (.seq (.draw (some [2,3,4,5,6]) 12 [Dr (Mv 11 5) 0 [10,11],Dr (Mv 12 6) 1 [3,4,9,10,11],Dr (Fa 13 0 2) 2 [3,4,9,10,11],Dr (Ro 14 (.ixA 4 1 (.tmp 13) (.tmp 12))) 3 [4,9,10,11],Db (Ro 15 (.load1 (.int .u64) (.tmp 14))) 4 14 [9,10,11],Dr (Mv 16 6) 5 [7,8,9,10,11],Dr (Fa 17 0 3) 6 [7,8,9,10,11],Dr (Ro 18 (.ixA 4 1 (.tmp 17) (.tmp 16))) 7 [8,9,10,11],Db (Ro 19 (.load1 (.int .u64) (.tmp 18))) 8 18 [9,10,11],Dr (Bt 20 .add 110 15 19) 9 [10,11],Dr (Bt 21 .add 110 11 20) 10 [11],Dr (As 5 21) 11 []])
 (.seq (.reg (some [2,3,4,5,6]) [Mv 22 6,Mv 23 5,Bc 24 .and 110 23 .u64 4294967295,Fa 25 0 2,Ro 26 (.ixA 4 1 (.tmp 25) (.tmp 22)),⟨none,none,.op false (.store 1 (.tmp 26) (.tmp 24))⟩])
 (.reg (some [2,3,4,5,6]) [Mv 27 5,Ol 28 (.binOp .shr 110 (.tmp 27) (.const (.int .u64 32)) 95),As 5 28]))))
 (.reg (some [2,3,4,5,6]) [Mv 9 6,Bc 10 .add 3 9 .i64 1,As 6 10]))⟩)],
 []⟩
theorem r116_ok : resFun (progU ()) hint live 116 Try.f116 = some r116:=by kernel_rfl
def r117 : RFun :=
⟨.seq (.reg (some [0,1]) [Ro 2 (.box 4 (.tmp 0)),Ro 3 (.box 4 (.tmp 1)),⟨some 4,none,.op true (.new 4 [.int .u64 0,.int .u64 0,.int .u64 0,.int .u64 0])⟩])
 (.seq (.reg (some [2,3,4]) [Ol 5 (.assign (.const (.int .u64 0)))])
 (.seq (.seq (.reg (some [2,3,4,5]) [Ac 6 0])
 (.block 0 (.loop 3 (some [2,3,4,5,6]) (some [2,3,4,5,6]))))
 (.seq (.reg (some [2,4]) [Ro 33 (.load 4 [.int .u64,.int .u64,.int .u64,.int .u64] (.tmp 2)),⟨none,none,.op false (.store 4 (.tmp 4) (.tmp 33))⟩])
 .ret))),
 [.agg 4 4 [.int .u64,.int .u64,.int .u64,.int .u64]],
 [(3,⟨some [2,3,4,5,6],some [2,3,4,5,6],.seq (.seq (.reg (some [2,3,4,5,6]) [Mv 8 6,Bc 9 .lss 3 8 .i64 4])
 (.cond (.tmp 9) .skip
 (.exit 0 (some [2,4]))))
 (.seq (.block 1 (.seq (.draw (some [2,3,4,5,6]) 14 [Dr (Mv 12 6) 0 [2,3,4,5,10,12,13],Dr (Fa 13 0 2) 1 [2,3,4,5,10,12,13],Dr (Ro 14 (.ixA 4 1 (.tmp 13) (.tmp 12))) 2 [3,4,5,10,12,13],Db (Ro 15 (.load1 (.int .u64) (.tmp 14))) 3 14 [4,5,10,12,13],Dr (Bc 16 .add 110 15 .u64 4294967295) 4 [5,10,12,13],Dr (Bc 17 .add 110 16 .u64 1) 5 [10,12,13],Dr (Mv 18 6) 6 [8,9,10,12,13],Dr (Fa 19 0 3) 7 [8,9,10,12,13],Dr (Ro 20 (.ixA 4 1 (.tmp 19) (.tmp 18))) 8 [9,10,12,13],Db (Ro 21 (.load1 (.int .u64) (.tmp 20))) 9 20 [10,12,13],Dr (Bt 22 .sub 110 17 21) 10 [12,13],Dr (Mv 23 5) 11 [12,13],Dr (Bt 24 .sub 110 22 23) 12 [13],Dr (As 7 24) 13 []])
 (.seq (.reg (some [2,3,4,6,7]) [Mv 25 6,Mv 26 7,Bc 27 .and 110 26 .u64 4294967295,Fa 28 0 2,Ro 29 (.ixA 4 1 (.tmp 28) (.tmp 25)),⟨none,none,.op false (.store 1 (.tmp 29) (.tmp 27))⟩])
 (.reg (some [2,3,4,6,7]) [Mv 30 7,Ol 31 (.binOp .shr 110 (.tmp 30) (.const (.int .u64 32)) 95),Ol 32 (.binOp .sub 110 (.const (.int .u64 1)) (.tmp 31) 110),As 5 32]))))
 (.reg (some [2,3,4,5,6]) [Mv 10 6,Bc 11 .add 3 10 .i64 1,As 6 11]))⟩)],
 []⟩
theorem r117_ok : resFun (progU ()) hint live 117 Try.f117 = some r117:=by kernel_rfl
def r118 : RFun :=
⟨.seq (.reg (some [0,1]) [Ro 2 (.box 4 (.tmp 0)),⟨some 4,none,.op true (.new 4 [.int .u64 0,.int .u64 0,.int .u64 0,.int .u64 0])⟩,Ol 5 (.assign (.const (.int .u64 0)))])
 (.seq (.reg (some [1,2,4]) [Ro 10 (.build [.int .u64 0,.int .u64 0,.int .u64 0,.int .u64 0] []),Ro 6 (.new 4 [.int .u64 0,.int .u64 0,.int .u64 0,.int .u64 0]),⟨none,none,.op false (.store 4 (.tmp 6) (.tmp 10))⟩,Ol 7 (.assign (.const (.int .u64 0)))])
 (.seq (.seq (.reg (some [1,2,4,6,7]) [Ac 8 3])
 (.block 0 (.loop 3 (some [1,2,4,6,7,8]) (some [1,2,4,6,7,8]))))
 (.seq (.reg (some [4,6,7]) [Ro 44 (.load 4 [.int .u64,.int .u64,.int .u64,.int .u64] (.tmp 6)),Mv 45 7,⟨none,none,.op false (.store 4 (.tmp 4) (.tmp 44))⟩,As 5 45])
 .ret))),
 [.agg 4 4 [.int .u64,.int .u64,.int .u64,.int .u64],.tmp 5],
 [(3,⟨some [1,2,4,6,7,8],some [1,2,4,6,7,8],.seq (.seq (.reg (some [1,2,4,6,7,8]) [Mv 11 8,Bc 12 .geq 3 11 .i64 0])
 (.cond (.tmp 12) .skip
 (.exit 0 (some [4,6,7]))))
 (.seq (.block 1 (.seq (.reg (some [1,2,4,6,7,8]) [Ac 9 31])
 (.block 2 (.loop 6 (some [1,2,4,6,7,8,9]) (some [1,2,4,6,7,8,9])))))
 (.reg (some [1,2,4,6,7,8]) [Mv 13 8,Bc 14 .sub 3 13 .i64 1,As 8 14]))⟩),(6,⟨some [1,2,4,6,7,8,9],some [1,2,4,6,7,8,9],.seq (.seq (.reg (some [1,2,4,6,7,8,9]) [Mv 15 9,Bc 16 .geq 3 15 .i64 0])
 (.cond (.tmp 16) .skip
 (.exit 2 (some [1,2,4,6,7,8]))))
 (.seq (.block 3 (.seq (.reg (some [1,2,4,6,7,8,9]) [Mv 19 7,Ol 20 (.binOp .shl 110 (.tmp 19) (.const (.int .u64 1)) 95),Mv 21 8,Fa 22 0 2,Ro 23 (.ixA 4 1 (.tmp 22) (.tmp 21)),Ro 24 (.load1 (.int .u64) (.tmp 23)),Mv 25 9,Ol 26 (.binOp .shr 110 (.tmp 24) (.tmp 25) 3),Bc 27 .and 110 26 .u64 1,Bt 28 .or 110 20 27,As 7 28])
 (.seq (.reg (some [1,2,4,6,7,8,9]) [Mv 29 7,Mv 30 1,Bt 31 .geq 110 29 30])
 (.cond (.tmp 31) (.seq (.reg (some [1,2,4,6,7,8,9]) [Mv 32 7,Mv 33 1,Bt 34 .sub 110 32 33,As 7 34])
 (.draw (some [1,2,4,6,7,8,9]) 10 [Dr (Mv 35 8) 0 [2,3,6,8,9],Dr (Fa 36 0 6) 1 [2,3,6,8,9],Dr (Ro 37 (.ixA 4 1 (.tmp 36) (.tmp 35))) 2 [3,6,8,9],Db (Ro 38 (.load1 (.int .u64) (.tmp 37))) 3 37 [6,8,9],Dr (Mv 39 9) 4 [5,6,8,9],Dr (Ol 40 (.binOp .shl 110 (.const (.int .u64 1)) (.tmp 39) 3)) 5 [6,8,9],Dr (Bt 41 .or 110 38 40) 6 [8,9],Dr (Fa 42 0 6) 7 [8,9],Dr (Ro 43 (.ixA 4 1 (.tmp 42) (.tmp 35))) 8 [9],⟨⟨none,none,.op false (.store 1 (.tmp 43) (.tmp 41))⟩,9,.blk (.tmp 43),[],true,true⟩]))
 .skip))))
 (.reg (some [1,2,4,6,7,8,9]) [Mv 17 9,Bc 18 .sub 3 17 .i64 1,As 9 18]))⟩)],
 []⟩
theorem r118_ok : resFun (progU ()) hint live 118 Try.f118 = some r118:=by kernel_rfl
end Go.Proofs.Ytkbgkjlgnmlghaa
