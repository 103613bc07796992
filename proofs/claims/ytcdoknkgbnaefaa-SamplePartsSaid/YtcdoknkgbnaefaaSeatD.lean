import Derived.Test.YtcdoknkgbnaefaaSeat0
import Derived.Test.YtcdoknkgbnaefaaSymS
set_option linter.unusedSimpArgs false
set_option linter.unusedVariables false
namespace Go.Proofs.Ytcdoknkgbnaefaa
open Go.Sim
set_option maxRecDepth 100000
def r56 : RFun :=
⟨.seq (.reg (some [0,1]) [⟨some 2,none,.op true (.box 2 (.tmp 0))⟩,⟨some 3,none,.op true (.box 2 (.tmp 1))⟩,Ac 4 0])
 (.seq (.block 0 (.seq (.reg (some [2,3]) [Fa 7 0 2,L1 8 7,Bc 9 .lss 2 8 .i64 0,Mv 10 9,⟨some 11,some (10,true),.op false (.fieldAddr 0 (.tmp 3))⟩,⟨some 12,some (10,true),.op false (.load1 (.int .i64) (.tmp 11))⟩,⟨some 13,some (10,true),.op false (.old (.binOp .geq 2 (.tmp 12) (.const (.int .i64 0)) 2))⟩,Ol 14 (.pick (.tmp 10) (.tmp 13) (.const (.bool false))),As 6 14])
 (.cond (.tmp 6) (.seq (.reg (some []) [Ol 4 (.assign (.const (.int .i64 (-1))))])
 .ret)
 (.seq (.reg (some [2,3]) [Fa 16 0 2,L1 17 16,Bc 18 .geq 2 17 .i64 0,Mv 19 18,⟨some 20,some (19,true),.op false (.fieldAddr 0 (.tmp 3))⟩,⟨some 21,some (19,true),.op false (.load1 (.int .i64) (.tmp 20))⟩,⟨some 22,some (19,true),.op false (.old (.binOp .lss 2 (.tmp 21) (.const (.int .i64 0)) 2))⟩,Ol 23 (.pick (.tmp 19) (.tmp 22) (.const (.bool false))),As 15 23])
 (.cond (.tmp 15) (.seq (.reg (some []) [Ac 4 1])
 .ret)
 .skip)))))
 (.seq (.draw (some [2,3]) 14 [Dr (Fa 24 0 2) 0 [1,2,5,8,11,12,13],Db (L1 25 24) 1 24 [2,5,8,11,12,13],Dr (Fa 27 1 3) 3 [4,5,8,11,12,13],Db (L1 28 27) 4 27 [5,8,11,12,13],Dr (Fa 30 0 3) 6 [7,8,11,12,13],Db (L1 31 30) 7 30 [8,11,12,13],Dr (Fa 33 1 2) 9 [10,11,12,13],Db (L1 34 33) 10 33 [11,12,13],⟨Ca 26 51 [.tmp 25] (some (.val (.one (.int .u64)))),2,.all,[5,8,11,12,13],false,false⟩,⟨Ca 29 51 [.tmp 28] (some (.val (.one (.int .u64)))),5,.all,[8,11,12,13],false,false⟩,⟨Ca 32 51 [.tmp 31] (some (.val (.one (.int .u64)))),8,.all,[11,12,13],false,false⟩,⟨Ca 35 51 [.tmp 34] (some (.val (.one (.int .u64)))),11,.all,[12,13],false,false⟩,⟨Ca 36 72 [.tmp 26,.tmp 29,.tmp 32,.tmp 35] (some (.val (.one (.int .i64)))),12,.all,[13],false,false⟩,Dr (As 5 36) 13 []])
 (.seq (.seq (.reg (some [2,5]) [Fa 37 0 2,L1 38 37,Bc 39 .lss 2 38 .i64 0])
 (.cond (.tmp 39) (.seq (.reg (some [5]) [Mv 40 5,Ol 41 (.unOp .neg 3 (.tmp 40)),As 4 41])
 .ret)
 .skip))
 (.seq (.reg (some [5]) [Mv 42 5,As 4 42])
 .ret)))),
 [.tmp 4],
 [],
 []⟩
theorem r56_ok : resFun (progU ()) hint live 56 Try.f56 = some r56:=by kernel_rfl
def r57 : RFun :=
⟨.seq (.reg (some [0,1,2]) [⟨some 4,none,.op true (.box 4 (.tmp 1))⟩,⟨some 5,none,.op true (.box 4 (.tmp 2))⟩,⟨some 6,none,.op true (.new 2 [.int .i64 0,.int .i64 0])⟩,Ac 7 0])
 (.seq (.reg (some [0,4,5,6]) [Ro 13 (.load 4 [.int .u64,.int .u64,.int .u64,.int .u64] (.tmp 4)),Ca 14 73 [.tmp 13] (some (.tup [.one (.int .i64),.one .bool])),Mv 12 14,Ex 15 12 0,Ex 16 12 1,As 8 15,As 9 16])
 (.seq (.reg (some [0,5,6,8,9]) [Ro 18 (.load 4 [.int .u64,.int .u64,.int .u64,.int .u64] (.tmp 5)),Ca 19 73 [.tmp 18] (some (.tup [.one (.int .i64),.one .bool])),Mv 17 19,Ex 20 17 0,Ex 21 17 1,As 10 20,As 11 21])
 (.seq (.seq (.reg (some [0,6,8,9,10,11]) [Mv 22 9,Ol 23 (.unOp .not 4 (.tmp 22)),Mv 24 23,⟨some 25,some (24,false),.op false (.old (.move (.tmp 11)))⟩,⟨some 26,some (24,false),.op false (.old (.unOp .not 4 (.tmp 25)))⟩,Ol 27 (.pick (.tmp 24) (.const (.bool true)) (.tmp 26))])
 (.cond (.tmp 27) (.seq (.reg (some [6]) [Ro 28 (.build [.int .i64 0,.int .i64 0] []),⟨none,none,.op false (.store 2 (.tmp 6) (.tmp 28))⟩,Ac 7 16])
 .ret)
 .skip))
 (.seq (.seq (.reg (some [0,6,8,10]) [Mv 29 0])
 (.cond (.tmp 29) (.reg (some [6,8,10]) [Mv 30 8,Ol 31 (.unOp .neg 2 (.tmp 30)),As 8 31])
 .skip))
 (.seq (.reg (some [6,8,10]) [Mv 32 8,Mv 33 10,Ro 34 (.build [.int .i64 0,.int .i64 0] [(0,1,(.tmp 32)),(1,1,(.tmp 33))]),⟨none,none,.op false (.store 2 (.tmp 6) (.tmp 34))⟩,Ac 7 0])
 .ret))))),
 [.agg 6 2 [.int .i64,.int .i64],.tmp 7],
 [],
 []⟩
theorem r57_ok : resFun (progU ()) hint live 57 Try.f57 = some r57:=by kernel_rfl
def r58 : RFun :=
⟨.seq (.reg (some [0]) [⟨some 2,none,.op true (.new 4 [.int .u64 0,.int .u64 0,.int .u64 0,.int .u64 0])⟩])
 (.seq (.reg (some [0,2]) [Mv 3 0,Bc 4 .and 70 3 .u64 4294967295,Mv 5 0,Ol 6 (.binOp .shr 70 (.tmp 5) (.const (.int .u64 32)) 78),Ro 7 (.build [.int .u64 0,.int .u64 0,.int .u64 0,.int .u64 0] [(0,1,(.tmp 4)),(1,1,(.tmp 6)),(2,1,(.const (.int .u64 0))),(3,1,(.const (.int .u64 0)))]),Ro 8 (.build [.int .u64 0,.int .u64 0,.int .u64 0,.int .u64 0] [(0,4,(.tmp 7))]),⟨none,none,.op false (.store 4 (.tmp 2) (.tmp 8))⟩])
 .ret),
 [.agg 2 4 [.int .u64,.int .u64,.int .u64,.int .u64]],
 [],
 []⟩
theorem r58_ok : resFun (progU ()) hint live 58 Try.f58 = some r58:=by kernel_rfl
def r59 : RFun :=
⟨.seq (.reg (some [0,1]) [⟨some 2,none,.op true (.box 2 (.tmp 0))⟩,⟨some 3,none,.op true (.box 2 (.tmp 1))⟩,Ac 4 0])
 (.seq (.seq (.reg (some [2,3]) [Ld 5 2,Ca 6 31 [.tmp 5] (some (.val (.one (.int .i64)))),Bc 7 .neq 3 6 .i64 0])
 (.cond (.tmp 7) (.seq (.reg (some [2]) [Ld 8 2,Ca 9 31 [.tmp 8] (some (.val (.one (.int .i64)))),As 4 9])
 .ret)
 .skip))
 (.seq (.reg (some [3]) [Ld 10 3,Ca 11 31 [.tmp 10] (some (.val (.one (.int .i64)))),As 4 11])
 .ret)),
 [.tmp 4],
 [],
 []⟩
theorem r59_ok : resFun (progU ()) hint live 59 Try.f59 = some r59:=by kernel_rfl
def r60 : RFun :=
⟨.seq (.reg (some [0,1]) [⟨some 2,none,.op true (.box 2 (.tmp 0))⟩,⟨some 3,none,.op true (.box 2 (.tmp 1))⟩,Ol 4 (.assign (.const (.bool false)))])
 (.seq (.seq (.reg (some [2,3]) [Fa 7 0 2,L1 8 7,Bc 9 .lss 2 8 .i64 0,Fa 10 0 3,L1 11 10,Bc 12 .lss 2 11 .i64 0,Bt 13 .neq 4 9 12])
 (.cond (.tmp 13) (.seq (.reg (some [2]) [Fa 14 0 2,L1 15 14,Bc 16 .lss 2 15 .i64 0,As 4 16])
 .ret)
 .skip))
 (.seq (.draw (some [2,3]) 18 [Dr (Fa 17 0 2) 0 [1,2,6,9,13,16,17],Db (L1 18 17) 1 17 [2,6,9,13,16,17],Dr (Fa 20 1 3) 3 [4,5,6,9,13,16,17],Db (L1 21 20) 4 20 [5,6,9,13,16,17],⟨Ro 22 (.convI .u64 (.tmp 21)),5,.cvt (.tmp 21),[6,9,13,16,17],false,true⟩,Dr (Fa 24 0 3) 7 [8,9,13,16,17],Db (L1 25 24) 8 24 [9,13,16,17],Dr (Fa 27 1 2) 10 [11,12,13,16,17],Db (L1 28 27) 11 27 [12,13,16,17],⟨Ro 29 (.convI .u64 (.tmp 28)),12,.cvt (.tmp 28),[13,16,17],false,true⟩,⟨⟨some 5,none,.op true (.new 4 [.int .u64 0,.int .u64 0,.int .u64 0,.int .u64 0])⟩,14,.new true,[16,17],false,true⟩,⟨⟨some 6,none,.op true (.new 4 [.int .u64 0,.int .u64 0,.int .u64 0,.int .u64 0])⟩,15,.new true,[16,17],false,true⟩,⟨Ca 19 46 [.tmp 18] (some (.val (.one (.int .u64)))),2,.all,[6,9,13,16,17],false,false⟩,⟨Ca 23 74 [.tmp 19,.tmp 22] (some (.val (.agg [.int .u64,.int .u64,.int .u64,.int .u64]))),6,.all,[9,13,16,17],false,false⟩,⟨Ca 26 46 [.tmp 25] (some (.val (.one (.int .u64)))),9,.all,[13,16,17],false,false⟩,⟨Ca 30 74 [.tmp 26,.tmp 29] (some (.val (.agg [.int .u64,.int .u64,.int .u64,.int .u64]))),13,.all,[16,17],false,false⟩,⟨⟨none,none,.op false (.store 4 (.tmp 5) (.tmp 23))⟩,16,.blk (.tmp 5),[17],true,true⟩,⟨⟨none,none,.op false (.store 4 (.tmp 6) (.tmp 30))⟩,17,.blk (.tmp 6),[],true,true⟩])
 (.seq (.seq (.reg (some [2,5,6]) [Fa 31 0 2,L1 32 31,Bc 33 .lss 2 32 .i64 0])
 (.cond (.tmp 33) (.seq (.reg (some [5,6]) [Ro 34 (.load 4 [.int .u64,.int .u64,.int .u64,.int .u64] (.tmp 6)),Ro 35 (.load 4 [.int .u64,.int .u64,.int .u64,.int .u64] (.tmp 5)),Ca 36 75 [.tmp 34,.tmp 35] (some (.val (.one .bool))),As 4 36])
 .ret)
 .skip))
 (.seq (.reg (some [5,6]) [Ro 37 (.load 4 [.int .u64,.int .u64,.int .u64,.int .u64] (.tmp 5)),Ro 38 (.load 4 [.int .u64,.int .u64,.int .u64,.int .u64] (.tmp 6)),Ca 39 75 [.tmp 37,.tmp 38] (some (.val (.one .bool))),As 4 39])
 .ret)))),
 [.tmp 4],
 [],
 []⟩
theorem r60_ok : resFun (progU ()) hint live 60 Try.f60 = some r60:=by kernel_rfl
def r61 : RFun :=
⟨.seq (.reg (some [0,1,2]) [Mv 8 1,Bc 9 .add 3 8 .i64 1,As 6 9])
 (.block 0 (.loop 1 (some [0,1,2,6]) (some [0,1,2,6]))),
 [],
 [(1,⟨some [0,1,2,6],some [0,1,2,6],.seq (.seq (.reg (some [0,1,2,6]) [Mv 10 6,Mv 11 2,Bt 12 .lss 3 10 11])
 (.cond (.tmp 12) .skip
 (.exit 0 (some []))))
 (.seq (.block 1 (.seq (.reg (some [0,1,2,6]) [Mv 15 6,As 7 15])
 (.block 2 (.loop 4 (some [0,1,2,6,7]) (some [0,1,2,6,7])))))
 (.reg (some [0,1,2,6]) [Mv 13 6,Bc 14 .add 3 13 .i64 1,As 6 14]))⟩),(4,⟨some [0,1,2,6,7],some [0,1,2,6,7],.seq (.seq (.draw (some [0,1,2,6,7]) 15 [Dr (Mv 16 7) 0 [2,3,4,5,6,7,8,9,10,11,12,13,14],Dr (Mv 17 1) 1 [2,3,4,5,6,7,8,9,10,11,12,13,14],Dr (Bt 18 .gtr 3 16 17) 2 [3,4,5,6,7,8,9,10,11,12,13,14],Dr (Mv 19 18) 3 [4,5,6,7,8,9,10,11,12,13,14],⟨⟨some 20,some (19,true),.op false (.old (.move (.tmp 0)))⟩,4,.none,[6,7,13,14],false,true⟩,⟨⟨some 21,some (19,true),.op false (.old (.move (.tmp 7)))⟩,5,.none,[6,7,13,14],false,true⟩,⟨⟨some 22,some (19,true),.op false (.ixS 1 (.tmp 20) (.tmp 21))⟩,6,.none,[7,13,14],false,true⟩,⟨⟨some 23,some (19,true),.op false (.load1 (.int .i64) (.tmp 22))⟩,7,.blk (.tmp 22),[13,14],false,true⟩,⟨⟨some 24,some (19,true),.op false (.old (.move (.tmp 0)))⟩,8,.none,[11,12,13,14],false,true⟩,⟨⟨some 25,some (19,true),.op false (.old (.move (.tmp 7)))⟩,9,.none,[10,11,12,13,14],false,true⟩,⟨⟨some 26,some (19,true),.op false (.old (.binOp .sub 3 (.tmp 25) (.const (.int .i64 1)) 3))⟩,10,.none,[11,12,13,14],false,true⟩,⟨⟨some 27,some (19,true),.op false (.ixS 1 (.tmp 24) (.tmp 26))⟩,11,.none,[12,13,14],false,true⟩,⟨⟨some 28,some (19,true),.op false (.load1 (.int .i64) (.tmp 27))⟩,12,.blk (.tmp 27),[13,14],false,true⟩,⟨⟨some 29,some (19,true),.call (.func 67) [.tmp 23,.tmp 28] (some (.val (.one .bool)))⟩,13,.all,[14],false,false⟩,Dr (Ol 30 (.pick (.tmp 19) (.tmp 29) (.const (.bool false)))) 14 []])
 (.cond (.tmp 30) .skip
 (.exit 2 (some [0,1,2,6]))))
 (.seq (.block 3 (.draw (some [0,1,2,6,7]) 18 [Dr (Mv 33 0) 0 [14,15,16,17],Dr (Mv 34 7) 1 [14,15,16,17],Dr (Mv 35 0) 2 [16,17],Dr (Mv 36 7) 3 [4,16,17],Dr (Bc 37 .sub 3 36 .i64 1) 4 [16,17],Dr (Mv 38 0) 5 [8,9,14,15,16,17],Dr (Mv 39 7) 6 [7,8,9,14,15,16,17],Dr (Bc 40 .sub 3 39 .i64 1) 7 [8,9,14,15,16,17],Dr (Ix 41 1 38 40) 8 [9,14,15,16,17],Db (L1 42 41) 9 41 [14,15,16,17],Dr (Mv 43 0) 10 [12,13,14,15,16,17],Dr (Mv 44 7) 11 [12,13,14,15,16,17],Dr (Ix 45 1 43 44) 12 [13,14,15,16,17],Db (L1 46 45) 13 45 [14,15,16,17],Dr (Ix 47 1 33 34) 14 [15,16,17],⟨⟨none,none,.op false (.store 1 (.tmp 47) (.tmp 42))⟩,15,.blk (.tmp 47),[16,17],true,true⟩,Dr (Ix 48 1 35 37) 16 [17],⟨⟨none,none,.op false (.store 1 (.tmp 48) (.tmp 46))⟩,17,.blk (.tmp 48),[],true,true⟩]))
 (.reg (some [0,1,2,6,7]) [Mv 31 7,Bc 32 .sub 3 31 .i64 1,As 7 32]))⟩)],
 []⟩
theorem r61_ok : resFun (progU ()) hint live 61 Try.f61 = some r61:=by kernel_rfl
def r62 : RFun :=
⟨.seq (.reg (some [0,1,2]) [Mv 11 1,As 6 11])
 (.seq (.reg (some [0,1,2,6]) [Ac 7 0])
 (.seq (.reg (some [0,1,2,6,7]) [Mv 12 2,Mv 13 1,Bt 14 .sub 3 12 13,As 8 14])
 (.seq (.seq (.reg (some [0,6,7,8]) [Mv 15 8,Bc 16 .sub 3 15 .i64 1,Bc 17 .quo 3 16 .i64 2,As 9 17])
 (.block 0 (.loop 4 none (some [0,6,7,8,9]))))
 (.seq (.reg (some [0,6,7,8]) [Mv 27 8,Bc 28 .sub 3 27 .i64 1,As 10 28])
 (.block 2 (.loop 8 (some [0,6,7,10]) (some [0,6,7,10]))))))),
 [],
 [(4,⟨none,some [0,6,7,8,9],.seq (.seq (.reg (some [0,6,7,8,9]) [Mv 18 9,Bc 19 .geq 3 18 .i64 0])
 (.cond (.tmp 19) .skip
 (.exit 0 (some [0,6,7,8]))))
 (.seq (.block 1 (.reg (some [0,6,7,8,9]) [Mv 22 0,Mv 23 9,Mv 24 8,Mv 25 6,Ca 26 76 [.tmp 22,.tmp 23,.tmp 24,.tmp 25] (some (.tup []))]))
 (.reg (some [0,6,7,8,9]) [Mv 20 9,Bc 21 .sub 3 20 .i64 1,As 9 21]))⟩),(8,⟨some [0,6,7,10],some [0,6,7,10],.seq (.seq (.reg (some [0,6,7,10]) [Mv 29 10,Bc 30 .geq 3 29 .i64 0])
 (.cond (.tmp 30) .skip
 (.exit 2 (some []))))
 (.seq (.block 3 (.seq (.draw (some [0,6,7,10]) 20 [Dr (Mv 33 0) 0 [16,17,18,19],Dr (Mv 34 6) 1 [16,17,18,19],Dr (Mv 35 0) 2 [18,19],Dr (Mv 36 6) 3 [5,18,19],Dr (Mv 37 10) 4 [5,18,19],Dr (Bt 38 .add 3 36 37) 5 [18,19],Dr (Mv 39 0) 6 [10,11,16,17,18,19],Dr (Mv 40 6) 7 [9,10,11,16,17,18,19],Dr (Mv 41 10) 8 [9,10,11,16,17,18,19],Dr (Bt 42 .add 3 40 41) 9 [10,11,16,17,18,19],Dr (Ix 43 1 39 42) 10 [11,16,17,18,19],Db (L1 44 43) 11 43 [16,17,18,19],Dr (Mv 45 0) 12 [14,15,16,17,18,19],Dr (Mv 46 6) 13 [14,15,16,17,18,19],Dr (Ix 47 1 45 46) 14 [15,16,17,18,19],Db (L1 48 47) 15 47 [16,17,18,19],Dr (Ix 49 1 33 34) 16 [17,18,19],⟨⟨none,none,.op false (.store 1 (.tmp 49) (.tmp 44))⟩,17,.blk (.tmp 49),[18,19],true,true⟩,Dr (Ix 50 1 35 38) 18 [19],⟨⟨none,none,.op false (.store 1 (.tmp 50) (.tmp 48))⟩,19,.blk (.tmp 50),[],true,true⟩])
 (.reg (some [0,6,7,10]) [Mv 51 0,Mv 52 7,Mv 53 10,Mv 54 6,Ca 55 76 [.tmp 51,.tmp 52,.tmp 53,.tmp 54] (some (.tup []))])))
 (.reg (some [0,6,7,10]) [Mv 31 10,Bc 32 .sub 3 31 .i64 1,As 10 32]))⟩)],
 []⟩
theorem r62_ok : resFun (progU ()) hint live 62 Try.f62 = some r62:=by kernel_rfl
def r63 : RFun :=
⟨.seq (.reg (some [0,1,2]) [Mv 11 2,Mv 12 1,Bt 13 .sub 3 11 12,As 6 13])
 (.seq (.reg (some [0,1,6]) [Mv 14 6,Bc 15 .geq 3 14 .i64 8])
 (.cond (.tmp 15) (.seq (.reg (some [0,1,6]) [Mv 16 6,Ro 17 (.convI .u64 (.tmp 16)),Ro 7 (.new 1 [.int .u64 0]),⟨none,none,.op false (.store 1 (.tmp 7) (.tmp 17))⟩])
 (.seq (.reg (some [0,1,6,7]) [Mv 18 6,Ca 19 77 [.tmp 18] (some (.val (.one (.int .u64)))),As 8 19])
 (.seq (.reg (some [0,1,6,7,8]) [Mv 20 1,Mv 21 6,Bc 22 .quo 3 21 .i64 4,Bc 23 .mul 3 22 .i64 2,Bt 24 .add 3 20 23,Bc 25 .sub 3 24 .i64 1,As 9 25])
 (.block 0 (.loop 5 (some [0,1,6,7,8,9]) (some [0,1,6,7,8,9]))))))
 .skip)),
 [],
 [(5,⟨some [0,1,6,7,8,9],some [0,1,6,7,8,9],.seq (.seq (.reg (some [0,1,6,7,8,9]) [Mv 26 9,Mv 27 1,Mv 28 6,Bc 29 .quo 3 28 .i64 4,Bc 30 .mul 3 29 .i64 2,Bt 31 .add 3 27 30,Bc 32 .add 3 31 .i64 1,Bt 33 .leq 3 26 32])
 (.cond (.tmp 33) .skip
 (.exit 0 (some []))))
 (.seq (.block 1 (.seq (.reg (some [0,1,6,7,8,9]) [Ca 36 78 [.tmp 7] (some (.val (.one (.int .u64)))),Mv 37 8,Bc 38 .sub 78 37 .u64 1,Bt 39 .and 78 36 38,Ro 40 (.convI .i64 (.tmp 39)),As 10 40])
 (.seq (.seq (.reg (some [0,1,6,7,8,9,10]) [Mv 41 10,Mv 42 6,Bt 43 .geq 3 41 42])
 (.cond (.tmp 43) (.reg (some [0,1,6,7,8,9,10]) [Mv 44 10,Mv 45 6,Bt 46 .sub 3 44 45,As 10 46])
 .skip))
 (.draw (some [0,1,6,7,8,9,10]) 20 [Dr (Mv 47 0) 0 [16,17,18,19],Dr (Mv 48 9) 1 [16,17,18,19],Dr (Mv 49 0) 2 [18,19],Dr (Mv 50 1) 3 [5,18,19],Dr (Mv 51 10) 4 [5,18,19],Dr (Bt 52 .add 3 50 51) 5 [18,19],Dr (Mv 53 0) 6 [10,11,16,17,18,19],Dr (Mv 54 1) 7 [9,10,11,16,17,18,19],Dr (Mv 55 10) 8 [9,10,11,16,17,18,19],Dr (Bt 56 .add 3 54 55) 9 [10,11,16,17,18,19],Dr (Ix 57 1 53 56) 10 [11,16,17,18,19],Db (L1 58 57) 11 57 [16,17,18,19],Dr (Mv 59 0) 12 [14,15,16,17,18,19],Dr (Mv 60 9) 13 [14,15,16,17,18,19],Dr (Ix 61 1 59 60) 14 [15,16,17,18,19],Db (L1 62 61) 15 61 [16,17,18,19],Dr (Ix 63 1 47 48) 16 [17,18,19],⟨⟨none,none,.op false (.store 1 (.tmp 63) (.tmp 58))⟩,17,.blk (.tmp 63),[18,19],true,true⟩,Dr (Ix 64 1 49 52) 18 [19],⟨⟨none,none,.op false (.store 1 (.tmp 64) (.tmp 62))⟩,19,.blk (.tmp 64),[],true,true⟩]))))
 (.reg (some [0,1,6,7,8,9]) [Mv 34 9,Bc 35 .add 3 34 .i64 1,As 9 35]))⟩)],
 []⟩
theorem r63_ok : resFun (progU ()) hint live 63 Try.f63 = some r63:=by kernel_rfl
def r64 : RFun :=
⟨.seq (.reg (some [0,1,2]) [Ac 6 0,Ac 7 0])
 (.seq (.reg (some [0,1,2]) [Mv 13 2,Mv 14 1,Bt 15 .sub 3 13 14,As 8 15])
 (.seq (.reg (some [0,1,8]) [Ro 9 (.new 1 [.int .i64 0])])
 (.seq (.reg (some [0,1,8,9]) [Mv 16 1,Mv 17 8,Bc 18 .quo 3 17 .i64 4,Bc 19 .mul 3 18 .i64 1,Bt 20 .add 3 16 19,As 10 20])
 (.seq (.reg (some [0,1,8,9,10]) [Mv 21 1,Mv 22 8,Bc 23 .quo 3 22 .i64 4,Bc 24 .mul 3 23 .i64 2,Bt 25 .add 3 21 24,As 11 25])
 (.seq (.reg (some [0,1,8,9,10,11]) [Mv 26 1,Mv 27 8,Bc 28 .quo 3 27 .i64 4,Bc 29 .mul 3 28 .i64 3,Bt 30 .add 3 26 29,As 12 30])
 (.seq (.seq (.reg (some [0,8,9,10,11,12]) [Mv 31 8,Bc 32 .geq 3 31 .i64 8])
 (.cond (.tmp 32) (.seq (.seq (.reg (some [0,8,9,10,11,12]) [Mv 33 8,Bc 34 .geq 3 33 .i64 50])
 (.cond (.tmp 34) (.seq (.reg (some [0,9,10,11,12]) [Mv 35 0,Mv 36 10,Ca 37 79 [.tmp 35,.tmp 36,.tmp 9] (some (.val (.one (.int .i64)))),As 10 37])
 (.seq (.reg (some [0,9,10,11,12]) [Mv 38 0,Mv 39 11,Ca 40 79 [.tmp 38,.tmp 39,.tmp 9] (some (.val (.one (.int .i64)))),As 11 40])
 (.reg (some [0,9,10,11,12]) [Mv 41 0,Mv 42 12,Ca 43 79 [.tmp 41,.tmp 42,.tmp 9] (some (.val (.one (.int .i64)))),As 12 43])))
 .skip))
 (.reg (some [0,9,10,11,12]) [Mv 44 0,Mv 45 10,Mv 46 11,Mv 47 12,Ca 48 80 [.tmp 44,.tmp 45,.tmp 46,.tmp 47,.tmp 9] (some (.val (.one (.int .i64)))),As 11 48]))
 .skip))
 (.seq (.reg (some [9,11]) [L1 49 9])
 (.block 0 (.seq (.reg (some [11,49]) [Bc 52 .eql 3 49 .i64 0,As 51 52])
 (.cond (.tmp 51) (.seq (.reg (some [11]) [Mv 53 11,As 6 53,Ac 7 1])
 .ret)
 (.seq (.reg (some [11,49]) [Bc 55 .eql 3 49 .i64 12,As 54 55])
 (.cond (.tmp 54) (.seq (.reg (some [11]) [Mv 56 11,As 6 56,Ac 7 2])
 .ret)
 (.seq (.reg (some [11]) [Mv 50 11,As 6 50,Ac 7 0])
 .ret))))))))))))),
 [.tmp 6,.tmp 7],
 [],
 []⟩
theorem r64_ok : resFun (progU ()) hint live 64 Try.f64 = some r64:=by kernel_rfl
def r65 : RFun :=
⟨.seq (.reg (some [0,1,2]) [Mv 8 1,As 6 8])
 (.seq (.reg (some [0,2,6]) [Mv 9 2,Bc 10 .sub 3 9 .i64 1,As 7 10])
 (.block 0 (.loop 2 (some [0,6,7]) (some [0,6,7])))),
 [],
 [(2,⟨some [0,6,7],some [0,6,7],.seq (.seq (.reg (some [0,6,7]) [Mv 11 6,Mv 12 7,Bt 13 .lss 3 11 12])
 (.cond (.tmp 13) .skip
 (.exit 0 (some []))))
 (.block 1 (.seq (.draw (some [0,6,7]) 16 [Dr (Mv 14 0) 0 [12,13,14,15],Dr (Mv 15 6) 1 [12,13,14,15],Dr (Mv 16 0) 2 [14,15],Dr (Mv 17 7) 3 [14,15],Dr (Mv 18 0) 4 [6,7,12,13,14,15],Dr (Mv 19 7) 5 [6,7,12,13,14,15],Dr (Ix 20 1 18 19) 6 [7,12,13,14,15],Db (L1 21 20) 7 20 [12,13,14,15],Dr (Mv 22 0) 8 [10,11,12,13,14,15],Dr (Mv 23 6) 9 [10,11,12,13,14,15],Dr (Ix 24 1 22 23) 10 [11,12,13,14,15],Db (L1 25 24) 11 24 [12,13,14,15],Dr (Ix 26 1 14 15) 12 [13,14,15],⟨⟨none,none,.op false (.store 1 (.tmp 26) (.tmp 21))⟩,13,.blk (.tmp 26),[14,15],true,true⟩,Dr (Ix 27 1 16 17) 14 [15],⟨⟨none,none,.op false (.store 1 (.tmp 27) (.tmp 25))⟩,15,.blk (.tmp 27),[],true,true⟩])
 (.seq (.reg (some [0,6,7]) [Mv 28 6,Bc 29 .add 3 28 .i64 1,As 6 29])
 (.reg (some [0,6,7]) [Mv 30 7,Bc 31 .sub 3 30 .i64 1,As 7 31]))))⟩)],
 []⟩
theorem r65_ok : resFun (progU ()) hint live 65 Try.f65 = some r65:=by kernel_rfl
def r66 : RFun :=
⟨.seq (.reg (some [0,1,2]) [Ol 6 (.assign (.const (.bool false)))])
 (.seq (.reg (some [0,1,2]) [Mv 11 1,Bc 12 .add 3 11 .i64 1,As 7 12])
 (.seq (.seq (.reg (some [0,1,2,7]) [Ac 8 0])
 (.block 0 (.loop 3 (some [0,1,2,7,8]) (some [0,1,2,7,8]))))
 (.seq (.reg (some []) [Ol 6 (.assign (.const (.bool false)))])
 .ret))),
 [.tmp 6],
 [(3,⟨some [0,1,2,7,8],some [0,1,2,7,8],.seq (.seq (.reg (some [0,1,2,7,8]) [Mv 13 8,Bc 14 .lss 3 13 .i64 5])
 (.cond (.tmp 14) .skip
 (.exit 0 (some []))))
 (.seq (.block 1 (.seq (.block 2 (.loop 5 (some [0,1,2,7,8]) (some [0,1,2,7,8])))
 (.seq (.seq (.reg (some [0,1,2,7,8]) [Mv 35 7,Mv 36 2,Bt 37 .eql 3 35 36])
 (.cond (.tmp 37) (.seq (.reg (some []) [Ol 6 (.assign (.const (.bool true)))])
 .ret)
 .skip))
 (.seq (.seq (.reg (some [0,1,2,7,8]) [Mv 38 2,Mv 39 1,Bt 40 .sub 3 38 39,Bc 41 .lss 3 40 .i64 50])
 (.cond (.tmp 41) (.seq (.reg (some []) [Ol 6 (.assign (.const (.bool false)))])
 .ret)
 .skip))
 (.seq (.draw (some [0,1,2,7,8]) 18 [Dr (Mv 42 0) 0 [14,15,16,17],Dr (Mv 43 7) 1 [14,15,16,17],Dr (Mv 44 0) 2 [16,17],Dr (Mv 45 7) 3 [4,16,17],Dr (Bc 46 .sub 3 45 .i64 1) 4 [16,17],Dr (Mv 47 0) 5 [8,9,14,15,16,17],Dr (Mv 48 7) 6 [7,8,9,14,15,16,17],Dr (Bc 49 .sub 3 48 .i64 1) 7 [8,9,14,15,16,17],Dr (Ix 50 1 47 49) 8 [9,14,15,16,17],Db (L1 51 50) 9 50 [14,15,16,17],Dr (Mv 52 0) 10 [12,13,14,15,16,17],Dr (Mv 53 7) 11 [12,13,14,15,16,17],Dr (Ix 54 1 52 53) 12 [13,14,15,16,17],Db (L1 55 54) 13 54 [14,15,16,17],Dr (Ix 56 1 42 43) 14 [15,16,17],⟨⟨none,none,.op false (.store 1 (.tmp 56) (.tmp 51))⟩,15,.blk (.tmp 56),[16,17],true,true⟩,Dr (Ix 57 1 44 46) 16 [17],⟨⟨none,none,.op false (.store 1 (.tmp 57) (.tmp 55))⟩,17,.blk (.tmp 57),[],true,true⟩])
 (.seq (.seq (.reg (some [0,1,2,7,8]) [Mv 58 7,Mv 59 1,Bt 60 .sub 3 58 59,Bc 61 .geq 3 60 .i64 2])
 (.cond (.tmp 61) (.seq (.reg (some [0,1,2,7,8]) [Mv 62 7,Bc 63 .sub 3 62 .i64 1,As 9 63])
 (.block 4 (.loop 14 (some [0,1,2,7,8,9]) (some [0,1,2,7,8,9]))))
 .skip))
 (.seq (.reg (some [0,1,2,7,8]) [Mv 95 2,Mv 96 7,Bt 97 .sub 3 95 96,Bc 98 .geq 3 97 .i64 2])
 (.cond (.tmp 98) (.seq (.reg (some [0,1,2,7,8]) [Mv 99 7,Bc 100 .add 3 99 .i64 1,As 10 100])
 (.block 6 (.loop 20 (some [0,1,2,7,8,10]) (some [0,1,2,7,8,10]))))
 .skip))))))))
 (.reg (some [0,1,2,7,8]) [Mv 15 8,Bc 16 .add 3 15 .i64 1,As 8 16]))⟩),(5,⟨some [0,1,2,7,8],some [0,1,2,7,8],.seq (.seq (.draw (some [0,1,2,7,8]) 16 [Dr (Mv 17 7) 0 [2,3,4,5,6,7,8,9,10,11,12,13,14,15],Dr (Mv 18 2) 1 [2,3,4,5,6,7,8,9,10,11,12,13,14,15],Dr (Bt 19 .lss 3 17 18) 2 [3,4,5,6,7,8,9,10,11,12,13,14,15],Dr (Mv 20 19) 3 [4,5,6,7,8,9,10,11,12,13,14,15],⟨⟨some 21,some (20,true),.op false (.old (.move (.tmp 0)))⟩,4,.none,[6,7,13,14,15],false,true⟩,⟨⟨some 22,some (20,true),.op false (.old (.move (.tmp 7)))⟩,5,.none,[6,7,13,14,15],false,true⟩,⟨⟨some 23,some (20,true),.op false (.ixS 1 (.tmp 21) (.tmp 22))⟩,6,.none,[7,13,14,15],false,true⟩,⟨⟨some 24,some (20,true),.op false (.load1 (.int .i64) (.tmp 23))⟩,7,.blk (.tmp 23),[13,14,15],false,true⟩,⟨⟨some 25,some (20,true),.op false (.old (.move (.tmp 0)))⟩,8,.none,[11,12,13,14,15],false,true⟩,⟨⟨some 26,some (20,true),.op false (.old (.move (.tmp 7)))⟩,9,.none,[10,11,12,13,14,15],false,true⟩,⟨⟨some 27,some (20,true),.op false (.old (.binOp .sub 3 (.tmp 26) (.const (.int .i64 1)) 3))⟩,10,.none,[11,12,13,14,15],false,true⟩,⟨⟨some 28,some (20,true),.op false (.ixS 1 (.tmp 25) (.tmp 27))⟩,11,.none,[12,13,14,15],false,true⟩,⟨⟨some 29,some (20,true),.op false (.load1 (.int .i64) (.tmp 28))⟩,12,.blk (.tmp 28),[13,14,15],false,true⟩,⟨⟨some 30,some (20,true),.call (.func 67) [.tmp 24,.tmp 29] (some (.val (.one .bool)))⟩,13,.all,[14,15],false,false⟩,⟨⟨some 31,some (20,true),.op false (.old (.unOp .not 4 (.tmp 30)))⟩,14,.none,[15],false,true⟩,Dr (Ol 32 (.pick (.tmp 20) (.tmp 31) (.const (.bool false)))) 15 []])
 (.cond (.tmp 32) .skip
 (.exit 2 (some [0,1,2,7,8]))))
 (.block 3 (.reg (some [0,1,2,7,8]) [Mv 33 7,Bc 34 .add 3 33 .i64 1,As 7 34]))⟩),(14,⟨some [0,1,2,7,8,9],some [0,1,2,7,8,9],.seq (.seq (.reg (some [0,1,2,7,8,9]) [Mv 64 9,Bc 65 .geq 3 64 .i64 1])
 (.cond (.tmp 65) .skip
 (.exit 4 (some [0,1,2,7,8]))))
 (.seq (.block 5 (.seq (.seq (.draw (some [0,1,2,7,8,9]) 11 [Dr (Mv 68 0) 0 [2,3,9,10],Dr (Mv 69 9) 1 [2,3,9,10],Dr (Ix 70 1 68 69) 2 [3,9,10],Db (L1 71 70) 3 70 [9,10],Dr (Mv 72 0) 4 [7,8,9,10],Dr (Mv 73 9) 5 [6,7,8,9,10],Dr (Bc 74 .sub 3 73 .i64 1) 6 [7,8,9,10],Dr (Ix 75 1 72 74) 7 [8,9,10],Db (L1 76 75) 8 75 [9,10],⟨Ca 77 67 [.tmp 71,.tmp 76] (some (.val (.one .bool))),9,.all,[10],false,false⟩,Dr (Ol 78 (.unOp .not 4 (.tmp 77))) 10 []])
 (.cond (.tmp 78) (.exit 4 (some [0,1,2,7,8]))
 .skip))
 (.draw (some [0,1,2,7,8,9]) 18 [Dr (Mv 79 0) 0 [14,15,16,17],Dr (Mv 80 9) 1 [14,15,16,17],Dr (Mv 81 0) 2 [16,17],Dr (Mv 82 9) 3 [4,16,17],Dr (Bc 83 .sub 3 82 .i64 1) 4 [16,17],Dr (Mv 84 0) 5 [8,9,14,15,16,17],Dr (Mv 85 9) 6 [7,8,9,14,15,16,17],Dr (Bc 86 .sub 3 85 .i64 1) 7 [8,9,14,15,16,17],Dr (Ix 87 1 84 86) 8 [9,14,15,16,17],Db (L1 88 87) 9 87 [14,15,16,17],Dr (Mv 89 0) 10 [12,13,14,15,16,17],Dr (Mv 90 9) 11 [12,13,14,15,16,17],Dr (Ix 91 1 89 90) 12 [13,14,15,16,17],Db (L1 92 91) 13 91 [14,15,16,17],Dr (Ix 93 1 79 80) 14 [15,16,17],⟨⟨none,none,.op false (.store 1 (.tmp 93) (.tmp 88))⟩,15,.blk (.tmp 93),[16,17],true,true⟩,Dr (Ix 94 1 81 83) 16 [17],⟨⟨none,none,.op false (.store 1 (.tmp 94) (.tmp 92))⟩,17,.blk (.tmp 94),[],true,true⟩])))
 (.reg (some [0,1,2,7,8,9]) [Mv 66 9,Bc 67 .sub 3 66 .i64 1,As 9 67]))⟩),(20,⟨some [0,1,2,7,8,10],some [0,1,2,7,8,10],.seq (.seq (.reg (some [0,1,2,7,8,10]) [Mv 101 10,Mv 102 2,Bt 103 .lss 3 101 102])
 (.cond (.tmp 103) .skip
 (.exit 6 (some [0,1,2,7,8]))))
 (.seq (.block 7 (.seq (.seq (.draw (some [0,1,2,7,8,10]) 11 [Dr (Mv 106 0) 0 [2,3,9,10],Dr (Mv 107 10) 1 [2,3,9,10],Dr (Ix 108 1 106 107) 2 [3,9,10],Db (L1 109 108) 3 108 [9,10],Dr (Mv 110 0) 4 [7,8,9,10],Dr (Mv 111 10) 5 [6,7,8,9,10],Dr (Bc 112 .sub 3 111 .i64 1) 6 [7,8,9,10],Dr (Ix 113 1 110 112) 7 [8,9,10],Db (L1 114 113) 8 113 [9,10],⟨Ca 115 67 [.tmp 109,.tmp 114] (some (.val (.one .bool))),9,.all,[10],false,false⟩,Dr (Ol 116 (.unOp .not 4 (.tmp 115))) 10 []])
 (.cond (.tmp 116) (.exit 6 (some [0,1,2,7,8]))
 .skip))
 (.draw (some [0,1,2,7,8,10]) 18 [Dr (Mv 117 0) 0 [14,15,16,17],Dr (Mv 118 10) 1 [14,15,16,17],Dr (Mv 119 0) 2 [16,17],Dr (Mv 120 10) 3 [4,16,17],Dr (Bc 121 .sub 3 120 .i64 1) 4 [16,17],Dr (Mv 122 0) 5 [8,9,14,15,16,17],Dr (Mv 123 10) 6 [7,8,9,14,15,16,17],Dr (Bc 124 .sub 3 123 .i64 1) 7 [8,9,14,15,16,17],Dr (Ix 125 1 122 124) 8 [9,14,15,16,17],Db (L1 126 125) 9 125 [14,15,16,17],Dr (Mv 127 0) 10 [12,13,14,15,16,17],Dr (Mv 128 10) 11 [12,13,14,15,16,17],Dr (Ix 129 1 127 128) 12 [13,14,15,16,17],Db (L1 130 129) 13 129 [14,15,16,17],Dr (Ix 131 1 117 118) 14 [15,16,17],⟨⟨none,none,.op false (.store 1 (.tmp 131) (.tmp 126))⟩,15,.blk (.tmp 131),[16,17],true,true⟩,Dr (Ix 132 1 119 121) 16 [17],⟨⟨none,none,.op false (.store 1 (.tmp 132) (.tmp 130))⟩,17,.blk (.tmp 132),[],true,true⟩])))
 (.reg (some [0,1,2,7,8,10]) [Mv 104 10,Bc 105 .add 3 104 .i64 1,As 10 105]))⟩)],
 []⟩
theorem r66_ok : resFun (progU ()) hint live 66 Try.f66 = some r66:=by kernel_rfl
def r67 : RFun :=
⟨.seq (.reg (some [0,1]) [Ol 4 (.assign (.const (.bool false)))])
 (.seq (.reg (some [0,1]) [Mv 5 0,Ca 6 81 [.tmp 5] (some (.val (.one .bool))),Mv 7 6,⟨some 8,some (7,true),.op false (.old (.move (.tmp 1)))⟩,⟨some 9,some (7,true),.call (.func 81) [.tmp 8] (some (.val (.one .bool)))⟩,⟨some 10,some (7,true),.op false (.old (.unOp .not 4 (.tmp 9)))⟩,Ol 11 (.pick (.tmp 7) (.tmp 10) (.const (.bool false))),Mv 12 11,⟨some 13,some (12,false),.op false (.old (.move (.tmp 0)))⟩,⟨some 14,some (12,false),.op false (.old (.move (.tmp 1)))⟩,⟨some 15,some (12,false),.op false (.old (.binOp .lss 3 (.tmp 13) (.tmp 14) 3))⟩,Ol 16 (.pick (.tmp 12) (.const (.bool true)) (.tmp 15)),As 4 16])
 .ret),
 [.tmp 4],
 [],
 []⟩
theorem r67_ok : resFun (progU ()) hint live 67 Try.f67 = some r67:=by kernel_rfl
def r68 : RFun :=
⟨.seq (.reg (some [0,1,2,3]) [Ac 8 0])
 (.seq (.draw (some [0,1,2,3]) 16 [Dr (Mv 11 0) 0 [12,13,14,15],Dr (Mv 12 1) 1 [12,13,14,15],Dr (Mv 13 0) 2 [14,15],Dr (Mv 14 3) 3 [14,15],Dr (Mv 15 0) 4 [6,7,12,13,14,15],Dr (Mv 16 3) 5 [6,7,12,13,14,15],Dr (Ix 17 1 15 16) 6 [7,12,13,14,15],Db (L1 18 17) 7 17 [12,13,14,15],Dr (Mv 19 0) 8 [10,11,12,13,14,15],Dr (Mv 20 1) 9 [10,11,12,13,14,15],Dr (Ix 21 1 19 20) 10 [11,12,13,14,15],Db (L1 22 21) 11 21 [12,13,14,15],Dr (Ix 23 1 11 12) 12 [13,14,15],⟨⟨none,none,.op false (.store 1 (.tmp 23) (.tmp 18))⟩,13,.blk (.tmp 23),[14,15],true,true⟩,Dr (Ix 24 1 13 14) 14 [15],⟨⟨none,none,.op false (.store 1 (.tmp 24) (.tmp 22))⟩,15,.blk (.tmp 24),[],true,true⟩])
 (.seq (.reg (some [0,1,2]) [Mv 25 1,Bc 26 .add 3 25 .i64 1,Mv 27 2,Bc 28 .sub 3 27 .i64 1,As 9 26,As 10 28])
 (.seq (.block 0 (.loop 1003 (some [0,1,9,10]) (some [0,1,9,10])))
 (.seq (.reg (some [9]) [Mv 83 9,As 8 83])
 .ret)))),
 [.tmp 8],
 [(1003,⟨some [0,1,9,10],some [0,1,9,10],.block 1 (.seq (.block 2 (.loop 3 (some [0,1,9,10]) (some [0,1,9,10])))
 (.seq (.block 4 (.loop 5 (some [0,1,9,10]) (some [0,1,9,10])))
 (.seq (.seq (.reg (some [0,1,9,10]) [Mv 62 9,Mv 63 10,Bt 64 .gtr 3 62 63])
 (.cond (.tmp 64) (.exit 0 (some [9]))
 .skip))
 (.seq (.draw (some [0,1,9,10]) 16 [Dr (Mv 65 0) 0 [12,13,14,15],Dr (Mv 66 9) 1 [12,13,14,15],Dr (Mv 67 0) 2 [14,15],Dr (Mv 68 10) 3 [14,15],Dr (Mv 69 0) 4 [6,7,12,13,14,15],Dr (Mv 70 10) 5 [6,7,12,13,14,15],Dr (Ix 71 1 69 70) 6 [7,12,13,14,15],Db (L1 72 71) 7 71 [12,13,14,15],Dr (Mv 73 0) 8 [10,11,12,13,14,15],Dr (Mv 74 9) 9 [10,11,12,13,14,15],Dr (Ix 75 1 73 74) 10 [11,12,13,14,15],Db (L1 76 75) 11 75 [12,13,14,15],Dr (Ix 77 1 65 66) 12 [13,14,15],⟨⟨none,none,.op false (.store 1 (.tmp 77) (.tmp 72))⟩,13,.blk (.tmp 77),[14,15],true,true⟩,Dr (Ix 78 1 67 68) 14 [15],⟨⟨none,none,.op false (.store 1 (.tmp 78) (.tmp 76))⟩,15,.blk (.tmp 78),[],true,true⟩])
 (.seq (.reg (some [0,1,9,10]) [Mv 79 9,Bc 80 .add 3 79 .i64 1,As 9 80])
 (.reg (some [0,1,9,10]) [Mv 81 10,Bc 82 .sub 3 81 .i64 1,As 10 82]))))))⟩),(3,⟨some [0,1,9,10],some [0,1,9,10],.seq (.seq (.draw (some [0,1,9,10]) 15 [Dr (Mv 29 9) 0 [2,3,4,5,6,7,8,9,10,11,12,13,14],Dr (Mv 30 10) 1 [2,3,4,5,6,7,8,9,10,11,12,13,14],Dr (Bt 31 .leq 3 29 30) 2 [3,4,5,6,7,8,9,10,11,12,13,14],Dr (Mv 32 31) 3 [4,5,6,7,8,9,10,11,12,13,14],⟨⟨some 33,some (32,true),.op false (.old (.move (.tmp 0)))⟩,4,.none,[6,7,12,13,14],false,true⟩,⟨⟨some 34,some (32,true),.op false (.old (.move (.tmp 1)))⟩,5,.none,[6,7,12,13,14],false,true⟩,⟨⟨some 35,some (32,true),.op false (.ixS 1 (.tmp 33) (.tmp 34))⟩,6,.none,[7,12,13,14],false,true⟩,⟨⟨some 36,some (32,true),.op false (.load1 (.int .i64) (.tmp 35))⟩,7,.blk (.tmp 35),[12,13,14],false,true⟩,⟨⟨some 37,some (32,true),.op false (.old (.move (.tmp 0)))⟩,8,.none,[10,11,12,13,14],false,true⟩,⟨⟨some 38,some (32,true),.op false (.old (.move (.tmp 9)))⟩,9,.none,[10,11,12,13,14],false,true⟩,⟨⟨some 39,some (32,true),.op false (.ixS 1 (.tmp 37) (.tmp 38))⟩,10,.none,[11,12,13,14],false,true⟩,⟨⟨some 40,some (32,true),.op false (.load1 (.int .i64) (.tmp 39))⟩,11,.blk (.tmp 39),[12,13,14],false,true⟩,⟨⟨some 41,some (32,true),.call (.func 67) [.tmp 36,.tmp 40] (some (.val (.one .bool)))⟩,12,.all,[13,14],false,false⟩,⟨⟨some 42,some (32,true),.op false (.old (.unOp .not 4 (.tmp 41)))⟩,13,.none,[14],false,true⟩,Dr (Ol 43 (.pick (.tmp 32) (.tmp 42) (.const (.bool false)))) 14 []])
 (.cond (.tmp 43) .skip
 (.exit 2 (some [0,1,9,10]))))
 (.block 3 (.reg (some [0,1,9,10]) [Mv 44 9,Bc 45 .add 3 44 .i64 1,As 9 45]))⟩),(5,⟨some [0,1,9,10],some [0,1,9,10],.seq (.seq (.draw (some [0,1,9,10]) 14 [Dr (Mv 46 9) 0 [2,3,4,5,6,7,8,9,10,11,12,13],Dr (Mv 47 10) 1 [2,3,4,5,6,7,8,9,10,11,12,13],Dr (Bt 48 .leq 3 46 47) 2 [3,4,5,6,7,8,9,10,11,12,13],Dr (Mv 49 48) 3 [4,5,6,7,8,9,10,11,12,13],⟨⟨some 50,some (49,true),.op false (.old (.move (.tmp 0)))⟩,4,.none,[6,7,12,13],false,true⟩,⟨⟨some 51,some (49,true),.op false (.old (.move (.tmp 1)))⟩,5,.none,[6,7,12,13],false,true⟩,⟨⟨some 52,some (49,true),.op false (.ixS 1 (.tmp 50) (.tmp 51))⟩,6,.none,[7,12,13],false,true⟩,⟨⟨some 53,some (49,true),.op false (.load1 (.int .i64) (.tmp 52))⟩,7,.blk (.tmp 52),[12,13],false,true⟩,⟨⟨some 54,some (49,true),.op false (.old (.move (.tmp 0)))⟩,8,.none,[10,11,12,13],false,true⟩,⟨⟨some 55,some (49,true),.op false (.old (.move (.tmp 10)))⟩,9,.none,[10,11,12,13],false,true⟩,⟨⟨some 56,some (49,true),.op false (.ixS 1 (.tmp 54) (.tmp 55))⟩,10,.none,[11,12,13],false,true⟩,⟨⟨some 57,some (49,true),.op false (.load1 (.int .i64) (.tmp 56))⟩,11,.blk (.tmp 56),[12,13],false,true⟩,⟨⟨some 58,some (49,true),.call (.func 67) [.tmp 53,.tmp 57] (some (.val (.one .bool)))⟩,12,.all,[13],false,false⟩,Dr (Ol 59 (.pick (.tmp 49) (.tmp 58) (.const (.bool false)))) 13 []])
 (.cond (.tmp 59) .skip
 (.exit 4 (some [0,1,9,10]))))
 (.block 5 (.reg (some [0,1,9,10]) [Mv 60 10,Bc 61 .sub 3 60 .i64 1,As 10 61]))⟩)],
 []⟩
theorem r68_ok : resFun (progU ()) hint live 68 Try.f68 = some r68:=by kernel_rfl
def r69 : RFun :=
⟨.seq (.reg (some [0,1,2,3]) [Ac 8 0,Ol 9 (.assign (.const (.bool false)))])
 (.seq (.draw (some [0,1,2,3]) 16 [Dr (Mv 12 0) 0 [12,13,14,15],Dr (Mv 13 1) 1 [12,13,14,15],Dr (Mv 14 0) 2 [14,15],Dr (Mv 15 3) 3 [14,15],Dr (Mv 16 0) 4 [6,7,12,13,14,15],Dr (Mv 17 3) 5 [6,7,12,13,14,15],Dr (Ix 18 1 16 17) 6 [7,12,13,14,15],Db (L1 19 18) 7 18 [12,13,14,15],Dr (Mv 20 0) 8 [10,11,12,13,14,15],Dr (Mv 21 1) 9 [10,11,12,13,14,15],Dr (Ix 22 1 20 21) 10 [11,12,13,14,15],Db (L1 23 22) 11 22 [12,13,14,15],Dr (Ix 24 1 12 13) 12 [13,14,15],⟨⟨none,none,.op false (.store 1 (.tmp 24) (.tmp 19))⟩,13,.blk (.tmp 24),[14,15],true,true⟩,Dr (Ix 25 1 14 15) 14 [15],⟨⟨none,none,.op false (.store 1 (.tmp 25) (.tmp 23))⟩,15,.blk (.tmp 25),[],true,true⟩])
 (.seq (.reg (some [0,1,2]) [Mv 26 1,Bc 27 .add 3 26 .i64 1,Mv 28 2,Bc 29 .sub 3 28 .i64 1,As 10 27,As 11 29])
 (.seq (.block 0 (.loop 3 (some [0,1,10,11]) (some [0,1,10,11])))
 (.seq (.block 2 (.loop 5 (some [0,1,10,11]) (some [0,1,10,11])))
 (.seq (.seq (.reg (some [0,1,10,11]) [Mv 63 10,Mv 64 11,Bt 65 .gtr 3 63 64])
 (.cond (.tmp 65) (.seq (.draw (some [0,1,11]) 16 [Dr (Mv 66 0) 0 [12,13,14,15],Dr (Mv 67 11) 1 [12,13,14,15],Dr (Mv 68 0) 2 [14,15],Dr (Mv 69 1) 3 [14,15],Dr (Mv 70 0) 4 [6,7,12,13,14,15],Dr (Mv 71 1) 5 [6,7,12,13,14,15],Dr (Ix 72 1 70 71) 6 [7,12,13,14,15],Db (L1 73 72) 7 72 [12,13,14,15],Dr (Mv 74 0) 8 [10,11,12,13,14,15],Dr (Mv 75 11) 9 [10,11,12,13,14,15],Dr (Ix 76 1 74 75) 10 [11,12,13,14,15],Db (L1 77 76) 11 76 [12,13,14,15],Dr (Ix 78 1 66 67) 12 [13,14,15],⟨⟨none,none,.op false (.store 1 (.tmp 78) (.tmp 73))⟩,13,.blk (.tmp 78),[14,15],true,true⟩,Dr (Ix 79 1 68 69) 14 [15],⟨⟨none,none,.op false (.store 1 (.tmp 79) (.tmp 77))⟩,15,.blk (.tmp 79),[],true,true⟩])
 (.seq (.reg (some [11]) [Mv 80 11,As 8 80,Ol 9 (.assign (.const (.bool true)))])
 .ret))
 .skip))
 (.seq (.draw (some [0,1,10,11]) 16 [Dr (Mv 81 0) 0 [12,13,14,15],Dr (Mv 82 10) 1 [12,13,14,15],Dr (Mv 83 0) 2 [14,15],Dr (Mv 84 11) 3 [14,15],Dr (Mv 85 0) 4 [6,7,12,13,14,15],Dr (Mv 86 11) 5 [6,7,12,13,14,15],Dr (Ix 87 1 85 86) 6 [7,12,13,14,15],Db (L1 88 87) 7 87 [12,13,14,15],Dr (Mv 89 0) 8 [10,11,12,13,14,15],Dr (Mv 90 10) 9 [10,11,12,13,14,15],Dr (Ix 91 1 89 90) 10 [11,12,13,14,15],Db (L1 92 91) 11 91 [12,13,14,15],Dr (Ix 93 1 81 82) 12 [13,14,15],⟨⟨none,none,.op false (.store 1 (.tmp 93) (.tmp 88))⟩,13,.blk (.tmp 93),[14,15],true,true⟩,Dr (Ix 94 1 83 84) 14 [15],⟨⟨none,none,.op false (.store 1 (.tmp 94) (.tmp 92))⟩,15,.blk (.tmp 94),[],true,true⟩])
 (.seq (.reg (some [0,1,10,11]) [Mv 95 10,Bc 96 .add 3 95 .i64 1,As 10 96])
 (.seq (.reg (some [0,1,10,11]) [Mv 97 11,Bc 98 .sub 3 97 .i64 1,As 11 98])
 (.seq (.block 4 (.loop 1013 (some [0,1,10,11]) (some [0,1,10,11])))
 (.seq (.draw (some [0,1,11]) 16 [Dr (Mv 153 0) 0 [12,13,14,15],Dr (Mv 154 11) 1 [12,13,14,15],Dr (Mv 155 0) 2 [14,15],Dr (Mv 156 1) 3 [14,15],Dr (Mv 157 0) 4 [6,7,12,13,14,15],Dr (Mv 158 1) 5 [6,7,12,13,14,15],Dr (Ix 159 1 157 158) 6 [7,12,13,14,15],Db (L1 160 159) 7 159 [12,13,14,15],Dr (Mv 161 0) 8 [10,11,12,13,14,15],Dr (Mv 162 11) 9 [10,11,12,13,14,15],Dr (Ix 163 1 161 162) 10 [11,12,13,14,15],Db (L1 164 163) 11 163 [12,13,14,15],Dr (Ix 165 1 153 154) 12 [13,14,15],⟨⟨none,none,.op false (.store 1 (.tmp 165) (.tmp 160))⟩,13,.blk (.tmp 165),[14,15],true,true⟩,Dr (Ix 166 1 155 156) 14 [15],⟨⟨none,none,.op false (.store 1 (.tmp 166) (.tmp 164))⟩,15,.blk (.tmp 166),[],true,true⟩])
 (.seq (.reg (some [11]) [Mv 167 11,As 8 167,Ol 9 (.assign (.const (.bool false)))])
 .ret))))))))))),
 [.tmp 8,.tmp 9],
 [(3,⟨some [0,1,10,11],some [0,1,10,11],.seq (.seq (.draw (some [0,1,10,11]) 14 [Dr (Mv 30 10) 0 [2,3,4,5,6,7,8,9,10,11,12,13],Dr (Mv 31 11) 1 [2,3,4,5,6,7,8,9,10,11,12,13],Dr (Bt 32 .leq 3 30 31) 2 [3,4,5,6,7,8,9,10,11,12,13],Dr (Mv 33 32) 3 [4,5,6,7,8,9,10,11,12,13],⟨⟨some 34,some (33,true),.op false (.old (.move (.tmp 0)))⟩,4,.none,[6,7,12,13],false,true⟩,⟨⟨some 35,some (33,true),.op false (.old (.move (.tmp 10)))⟩,5,.none,[6,7,12,13],false,true⟩,⟨⟨some 36,some (33,true),.op false (.ixS 1 (.tmp 34) (.tmp 35))⟩,6,.none,[7,12,13],false,true⟩,⟨⟨some 37,some (33,true),.op false (.load1 (.int .i64) (.tmp 36))⟩,7,.blk (.tmp 36),[12,13],false,true⟩,⟨⟨some 38,some (33,true),.op false (.old (.move (.tmp 0)))⟩,8,.none,[10,11,12,13],false,true⟩,⟨⟨some 39,some (33,true),.op false (.old (.move (.tmp 1)))⟩,9,.none,[10,11,12,13],false,true⟩,⟨⟨some 40,some (33,true),.op false (.ixS 1 (.tmp 38) (.tmp 39))⟩,10,.none,[11,12,13],false,true⟩,⟨⟨some 41,some (33,true),.op false (.load1 (.int .i64) (.tmp 40))⟩,11,.blk (.tmp 40),[12,13],false,true⟩,⟨⟨some 42,some (33,true),.call (.func 67) [.tmp 37,.tmp 41] (some (.val (.one .bool)))⟩,12,.all,[13],false,false⟩,Dr (Ol 43 (.pick (.tmp 33) (.tmp 42) (.const (.bool false)))) 13 []])
 (.cond (.tmp 43) .skip
 (.exit 0 (some [0,1,10,11]))))
 (.block 1 (.reg (some [0,1,10,11]) [Mv 44 10,Bc 45 .add 3 44 .i64 1,As 10 45]))⟩),(5,⟨some [0,1,10,11],some [0,1,10,11],.seq (.seq (.draw (some [0,1,10,11]) 15 [Dr (Mv 46 10) 0 [2,3,4,5,6,7,8,9,10,11,12,13,14],Dr (Mv 47 11) 1 [2,3,4,5,6,7,8,9,10,11,12,13,14],Dr (Bt 48 .leq 3 46 47) 2 [3,4,5,6,7,8,9,10,11,12,13,14],Dr (Mv 49 48) 3 [4,5,6,7,8,9,10,11,12,13,14],⟨⟨some 50,some (49,true),.op false (.old (.move (.tmp 0)))⟩,4,.none,[6,7,12,13,14],false,true⟩,⟨⟨some 51,some (49,true),.op false (.old (.move (.tmp 11)))⟩,5,.none,[6,7,12,13,14],false,true⟩,⟨⟨some 52,some (49,true),.op false (.ixS 1 (.tmp 50) (.tmp 51))⟩,6,.none,[7,12,13,14],false,true⟩,⟨⟨some 53,some (49,true),.op false (.load1 (.int .i64) (.tmp 52))⟩,7,.blk (.tmp 52),[12,13,14],false,true⟩,⟨⟨some 54,some (49,true),.op false (.old (.move (.tmp 0)))⟩,8,.none,[10,11,12,13,14],false,true⟩,⟨⟨some 55,some (49,true),.op false (.old (.move (.tmp 1)))⟩,9,.none,[10,11,12,13,14],false,true⟩,⟨⟨some 56,some (49,true),.op false (.ixS 1 (.tmp 54) (.tmp 55))⟩,10,.none,[11,12,13,14],false,true⟩,⟨⟨some 57,some (49,true),.op false (.load1 (.int .i64) (.tmp 56))⟩,11,.blk (.tmp 56),[12,13,14],false,true⟩,⟨⟨some 58,some (49,true),.call (.func 67) [.tmp 53,.tmp 57] (some (.val (.one .bool)))⟩,12,.all,[13,14],false,false⟩,⟨⟨some 59,some (49,true),.op false (.old (.unOp .not 4 (.tmp 58)))⟩,13,.none,[14],false,true⟩,Dr (Ol 60 (.pick (.tmp 49) (.tmp 59) (.const (.bool false)))) 14 []])
 (.cond (.tmp 60) .skip
 (.exit 2 (some [0,1,10,11]))))
 (.block 3 (.reg (some [0,1,10,11]) [Mv 61 11,Bc 62 .sub 3 61 .i64 1,As 11 62]))⟩),(1013,⟨some [0,1,10,11],some [0,1,10,11],.block 5 (.seq (.block 6 (.loop 13 (some [0,1,10,11]) (some [0,1,10,11])))
 (.seq (.block 8 (.loop 15 (some [0,1,10,11]) (some [0,1,10,11])))
 (.seq (.seq (.reg (some [0,1,10,11]) [Mv 132 10,Mv 133 11,Bt 134 .gtr 3 132 133])
 (.cond (.tmp 134) (.exit 4 (some [0,1,11]))
 .skip))
 (.seq (.draw (some [0,1,10,11]) 16 [Dr (Mv 135 0) 0 [12,13,14,15],Dr (Mv 136 10) 1 [12,13,14,15],Dr (Mv 137 0) 2 [14,15],Dr (Mv 138 11) 3 [14,15],Dr (Mv 139 0) 4 [6,7,12,13,14,15],Dr (Mv 140 11) 5 [6,7,12,13,14,15],Dr (Ix 141 1 139 140) 6 [7,12,13,14,15],Db (L1 142 141) 7 141 [12,13,14,15],Dr (Mv 143 0) 8 [10,11,12,13,14,15],Dr (Mv 144 10) 9 [10,11,12,13,14,15],Dr (Ix 145 1 143 144) 10 [11,12,13,14,15],Db (L1 146 145) 11 145 [12,13,14,15],Dr (Ix 147 1 135 136) 12 [13,14,15],⟨⟨none,none,.op false (.store 1 (.tmp 147) (.tmp 142))⟩,13,.blk (.tmp 147),[14,15],true,true⟩,Dr (Ix 148 1 137 138) 14 [15],⟨⟨none,none,.op false (.store 1 (.tmp 148) (.tmp 146))⟩,15,.blk (.tmp 148),[],true,true⟩])
 (.seq (.reg (some [0,1,10,11]) [Mv 149 10,Bc 150 .add 3 149 .i64 1,As 10 150])
 (.reg (some [0,1,10,11]) [Mv 151 11,Bc 152 .sub 3 151 .i64 1,As 11 152]))))))⟩),(13,⟨some [0,1,10,11],some [0,1,10,11],.seq (.seq (.draw (some [0,1,10,11]) 14 [Dr (Mv 99 10) 0 [2,3,4,5,6,7,8,9,10,11,12,13],Dr (Mv 100 11) 1 [2,3,4,5,6,7,8,9,10,11,12,13],Dr (Bt 101 .leq 3 99 100) 2 [3,4,5,6,7,8,9,10,11,12,13],Dr (Mv 102 101) 3 [4,5,6,7,8,9,10,11,12,13],⟨⟨some 103,some (102,true),.op false (.old (.move (.tmp 0)))⟩,4,.none,[6,7,12,13],false,true⟩,⟨⟨some 104,some (102,true),.op false (.old (.move (.tmp 10)))⟩,5,.none,[6,7,12,13],false,true⟩,⟨⟨some 105,some (102,true),.op false (.ixS 1 (.tmp 103) (.tmp 104))⟩,6,.none,[7,12,13],false,true⟩,⟨⟨some 106,some (102,true),.op false (.load1 (.int .i64) (.tmp 105))⟩,7,.blk (.tmp 105),[12,13],false,true⟩,⟨⟨some 107,some (102,true),.op false (.old (.move (.tmp 0)))⟩,8,.none,[10,11,12,13],false,true⟩,⟨⟨some 108,some (102,true),.op false (.old (.move (.tmp 1)))⟩,9,.none,[10,11,12,13],false,true⟩,⟨⟨some 109,some (102,true),.op false (.ixS 1 (.tmp 107) (.tmp 108))⟩,10,.none,[11,12,13],false,true⟩,⟨⟨some 110,some (102,true),.op false (.load1 (.int .i64) (.tmp 109))⟩,11,.blk (.tmp 109),[12,13],false,true⟩,⟨⟨some 111,some (102,true),.call (.func 67) [.tmp 106,.tmp 110] (some (.val (.one .bool)))⟩,12,.all,[13],false,false⟩,Dr (Ol 112 (.pick (.tmp 102) (.tmp 111) (.const (.bool false)))) 13 []])
 (.cond (.tmp 112) .skip
 (.exit 6 (some [0,1,10,11]))))
 (.block 7 (.reg (some [0,1,10,11]) [Mv 113 10,Bc 114 .add 3 113 .i64 1,As 10 114]))⟩),(15,⟨some [0,1,10,11],some [0,1,10,11],.seq (.seq (.draw (some [0,1,10,11]) 15 [Dr (Mv 115 10) 0 [2,3,4,5,6,7,8,9,10,11,12,13,14],Dr (Mv 116 11) 1 [2,3,4,5,6,7,8,9,10,11,12,13,14],Dr (Bt 117 .leq 3 115 116) 2 [3,4,5,6,7,8,9,10,11,12,13,14],Dr (Mv 118 117) 3 [4,5,6,7,8,9,10,11,12,13,14],⟨⟨some 119,some (118,true),.op false (.old (.move (.tmp 0)))⟩,4,.none,[6,7,12,13,14],false,true⟩,⟨⟨some 120,some (118,true),.op false (.old (.move (.tmp 11)))⟩,5,.none,[6,7,12,13,14],false,true⟩,⟨⟨some 121,some (118,true),.op false (.ixS 1 (.tmp 119) (.tmp 120))⟩,6,.none,[7,12,13,14],false,true⟩,⟨⟨some 122,some (118,true),.op false (.load1 (.int .i64) (.tmp 121))⟩,7,.blk (.tmp 121),[12,13,14],false,true⟩,⟨⟨some 123,some (118,true),.op false (.old (.move (.tmp 0)))⟩,8,.none,[10,11,12,13,14],false,true⟩,⟨⟨some 124,some (118,true),.op false (.old (.move (.tmp 1)))⟩,9,.none,[10,11,12,13,14],false,true⟩,⟨⟨some 125,some (118,true),.op false (.ixS 1 (.tmp 123) (.tmp 124))⟩,10,.none,[11,12,13,14],false,true⟩,⟨⟨some 126,some (118,true),.op false (.load1 (.int .i64) (.tmp 125))⟩,11,.blk (.tmp 125),[12,13,14],false,true⟩,⟨⟨some 127,some (118,true),.call (.func 67) [.tmp 122,.tmp 126] (some (.val (.one .bool)))⟩,12,.all,[13,14],false,false⟩,⟨⟨some 128,some (118,true),.op false (.old (.unOp .not 4 (.tmp 127)))⟩,13,.none,[14],false,true⟩,Dr (Ol 129 (.pick (.tmp 118) (.tmp 128) (.const (.bool false)))) 14 []])
 (.cond (.tmp 129) .skip
 (.exit 8 (some [0,1,10,11]))))
 (.block 9 (.reg (some [0,1,10,11]) [Mv 130 11,Bc 131 .sub 3 130 .i64 1,As 11 131]))⟩)],
 []⟩
theorem r69_ok : resFun (progU ()) hint live 69 Try.f69 = some r69:=by kernel_rfl
end Go.Proofs.Ytcdoknkgbnaefaa
