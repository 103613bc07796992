import Derived.Test.YtogliemiljhliaaSeat0
import Derived.Test.YtogliemiljhliaaSymS
set_option linter.unusedSimpArgs false
set_option linter.unusedVariables false
namespace Go.Proofs.Ytogliemiljhliaa
open Go.Sim
set_option maxRecDepth 100000
def r37 : RFun :=
⟨.seq (.reg (some [0]) [Ol 2 (.assign (.const (.slice none 0 0)))])
 (.seq (.reg (some [0]) [Mv 8 0,Ca 9 35 [.tmp 8] (some (.val (.one .slice))),As 3 9])
 (.seq (.reg (some [0,3]) [Ol 4 (.assign (.const (.slice none 0 0)))])
 (.seq (.seq (.reg (some [0,3,4]) [Mv 10 0,Ca 11 44 [.tmp 10] (some (.val (.one .slice))),Ro 12 (.lenS (.tmp 11)),Ol 13 (.move (.const (.int .i64 0)))])
 (.block 0 (.loop 4 (some [0,3,4,11,12,13]) (some [0,3,4,11,12,13]))))
 (.seq (.reg (some [4]) [Mv 54 4,As 2 54])
 .ret)))),
 [.tmp 2],
 [(4,⟨some [0,3,4,11,12,13],some [0,3,4,11,12,13],.seq (.reg (some [0,3,4,11,12,13]) [Bt 14 .lss 3 13 12])
 (.seq (.cond (.tmp 14) .skip
 (.exit 0 (some [4])))
 (.seq (.block 1 (.seq (.reg (some [0,3,4,11,12,13]) [Ix 15 2 11 13,Ld 16 15,⟨some 6,none,.op true (.new 2 [.int .i64 0,.int .i64 0])⟩,⟨none,none,.op false (.store 2 (.tmp 6) (.tmp 16))⟩])
 (.seq (.reg (some [0,3,4,6,11,12,13]) [Mv 17 0,Ro 18 (.lenS (.tmp 17)),Mv 19 3,Ro 20 (.lenS (.tmp 19)),Bt 21 .add 3 18 20,Ro 22 (.mkSlice 1 [.int .i64 0] (.tmp 21) (.tmp 21)),As 7 22])
 (.seq (.reg (some [0,3,4,6,7,11,12,13]) [Mv 23 7,Fa 24 0 6,L1 25 24,Ix 26 1 23 25,⟨none,none,.op false (.store 1 (.tmp 26) (.const (.int .i64 1)))⟩])
 (.seq (.reg (some [0,3,4,6,7,11,12,13]) [Mv 27 7,Fa 28 1 6,L1 29 28,Ix 30 1 27 29,⟨none,none,.op false (.store 1 (.tmp 30) (.const (.int .i64 (-1))))⟩])
 (.seq (.draw (some [0,3,4,6,7,11,12,13]) 19 [Dr (Mv 31 7) 0 [17,18],Dr (Mv 32 0) 1 [2,16,17,18],Dr (Ro 33 (.lenS (.tmp 32))) 2 [16,17,18],Dr (Mv 34 3) 3 [15,16,17,18],Dr (Mv 35 0) 4 [7,8,14,15,16,17,18],Dr (Fa 36 1 6) 5 [6,7,8,14,15,16,17,18],Db (L1 37 36) 6 36 [7,8,14,15,16,17,18],Dr (Ix 38 1 35 37) 7 [8,14,15,16,17,18],Db (L1 39 38) 8 38 [14,15,16,17,18],Dr (Mv 40 0) 9 [12,13,14,15,16,17,18],Dr (Fa 41 0 6) 10 [11,12,13,14,15,16,17,18],Db (L1 42 41) 11 41 [12,13,14,15,16,17,18],Dr (Ix 43 1 40 42) 12 [13,14,15,16,17,18],Db (L1 44 43) 13 43 [14,15,16,17,18],Dr (Bt 45 .sub 3 39 44) 14 [15,16,17,18],⟨Ca 46 53 [.tmp 34,.tmp 45] (some (.val (.one (.int .i64)))),15,.all,[16,17,18],false,false⟩,Dr (Bt 47 .add 3 33 46) 16 [17,18],Dr (Ix 48 1 31 47) 17 [18],⟨⟨none,none,.op false (.store 1 (.tmp 48) (.const (.int .i64 1)))⟩,18,.blk (.tmp 48),[],true,true⟩])
 (.reg (some [0,3,4,7,11,12,13]) [Mv 49 4,Mv 50 7,Ro 51 (.buildSlice 1 1 [.slice none 0 0] [(0,1,(.tmp 50))]),⟨some 52,none,.op false (.old (.call ⟨.builtin .append,#[.tmp 49,.tmp 51],#[28,28]⟩))⟩,As 4 52])))))))
 (.reg (some [0,3,4,11,12,13]) [Bc 53 .add 3 13 .i64 1,Mv 13 53])))⟩)],
 []⟩
theorem r37_ok : resFun (progU ()) hint live 37 Try.f37 = some r37:=by kernel_rfl
def r39 : RFun :=
⟨.seq (.reg (some [0]) [Ol 2 (.assign (.const (.slice none 0 0)))])
 (.seq (.reg (some [0]) [Mv 7 0,Mv 8 0,Ca 9 44 [.tmp 8] (some (.val (.one .slice))),Ro 10 (.lenS (.tmp 9)),Ro 11 (.mkSlice 1 [.int .i64 0] (.tmp 10) (.tmp 10)),Ca 12 45 [.tmp 7,.tmp 11] (some (.val (.agg [.slice,.int .i64,.slice,.int .i64]))),Ro 3 (.new 4 [.slice none 0 0,.int .i64 0,.slice none 0 0,.int .i64 0]),⟨none,none,.op false (.store 4 (.tmp 3) (.tmp 12))⟩])
 (.seq (.reg (some [3]) [Ol 4 (.assign (.const (.slice none 0 0)))])
 (.seq (.seq (.reg (some [3,4]) [Fa 13 1 3,L1 14 13,Ol 15 (.move (.const (.int .i64 0)))])
 (.block 0 (.loop 4 none (some [3,4,14,15]))))
 (.seq (.reg (some [4]) [Mv 34 4,As 2 34])
 .ret)))),
 [.tmp 2],
 [(4,⟨none,some [3,4,14,15],.seq (.reg (some [3,4,14,15]) [Bt 16 .lss 3 15 14])
 (.seq (.cond (.tmp 16) .skip
 (.exit 0 (some [4])))
 (.seq (.block 1 (.seq (.reg (some [3,4,14,15]) [Mv 17 15,As 5 17])
 (.seq (.reg (some [3,4,5,14,15]) [Fa 18 2 3,Ro 19 (.load1 .slice (.tmp 18)),Mv 20 5,Ca 21 60 [.tmp 19,.tmp 20] (some (.val (.one .bool))),Ol 22 (.unOp .not 4 (.tmp 21))])
 (.cond (.tmp 22) (.seq (.reg (some [3,4,5,14,15]) [Mv 23 5,Ca 24 46 [.tmp 3,.tmp 23,.const (.int .i64 (-1))] (some (.val (.one .slice))),As 6 24])
 (.seq (.reg (some [3,4,5,6,14,15]) [Mv 25 6,Mv 26 5,Ro 27 (.build [.int .i64 0,.int .i64 0] [(0,1,(.const (.int .i64 1))),(1,1,(.const (.int .i64 1)))]),Ix 28 2 25 26,⟨none,none,.op false (.store 2 (.tmp 28) (.tmp 27))⟩])
 (.reg (some [3,4,6,14,15]) [Mv 29 4,Mv 30 6,Ro 31 (.buildSlice 1 1 [.slice none 0 0] [(0,1,(.tmp 30))]),⟨some 32,none,.op false (.old (.call ⟨.builtin .append,#[.tmp 29,.tmp 31],#[33,33]⟩))⟩,As 4 32])))
 .skip))))
 (.reg (some [3,4,14,15]) [Bc 33 .add 3 15 .i64 1,Mv 15 33])))⟩)],
 []⟩
theorem r39_ok : resFun (progU ()) hint live 39 Try.f39 = some r39:=by kernel_rfl
def r41 : RFun :=
⟨.seq (.reg (some [0]) [⟨some 2,none,.op true (.new 2 [.int .i64 0,.int .i64 0])⟩])
 (.seq (.reg (some [0,2]) [Mv 3 0,Ro 4 (.build [.int .i64 0,.int .i64 0] [(0,1,(.tmp 3)),(1,1,(.const (.int .i64 1)))]),⟨none,none,.op false (.store 2 (.tmp 2) (.tmp 4))⟩])
 .ret),
 [.agg 2 2 [.int .i64,.int .i64]],
 [],
 []⟩
theorem r41_ok : resFun (progU ()) hint live 41 Try.f41 = some r41:=by kernel_rfl
def r42 : RFun :=
⟨.seq (.reg (some [0,1]) [⟨some 2,none,.op true (.box 2 (.tmp 0))⟩,⟨some 3,none,.op true (.box 2 (.tmp 1))⟩,⟨some 4,none,.op true (.new 2 [.int .i64 0,.int .i64 0])⟩,Ac 5 0])
 (.seq (.seq (.reg (some [2,3,4]) [Ld 8 2,Ld 9 3,Ca 10 55 [.tmp 8,.tmp 9] (some (.val (.one (.int .i64)))),Bc 11 .neq 3 10 .i64 0])
 (.cond (.tmp 11) (.seq (.reg (some [2,3,4]) [Ro 12 (.build [.int .i64 0,.int .i64 0] []),Ld 13 2,Ld 14 3,Ca 15 55 [.tmp 13,.tmp 14] (some (.val (.one (.int .i64)))),⟨none,none,.op false (.store 2 (.tmp 4) (.tmp 12))⟩,As 5 15])
 .ret)
 .skip))
 (.seq (.draw (some [2,3,4]) 16 [Dr (Fa 16 0 2) 0 [1,2,6,9,13,14,15],Db (L1 17 16) 1 16 [2,6,9,13,14,15],Dr (Fa 19 1 3) 3 [4,5,6,9,13,14,15],Db (L1 20 19) 4 19 [5,6,9,13,14,15],⟨Ro 21 (.convI .u64 (.tmp 20)),5,.cvt (.tmp 20),[6,9,13,14,15],false,true⟩,Dr (Fa 23 0 3) 7 [8,9,13,14,15],Db (L1 24 23) 8 23 [9,13,14,15],Dr (Fa 26 1 2) 10 [11,12,13,14,15],Db (L1 27 26) 11 26 [12,13,14,15],⟨Ro 28 (.convI .u64 (.tmp 27)),12,.cvt (.tmp 27),[13,14,15],false,true⟩,⟨Ca 18 63 [.tmp 17] (some (.val (.one (.int .u64)))),2,.all,[6,9,13,14,15],false,false⟩,⟨Ca 22 62 [.tmp 18,.tmp 21] (some (.val (.one (.int .u64)))),6,.all,[9,13,14,15],false,false⟩,⟨Ca 25 63 [.tmp 24] (some (.val (.one (.int .u64)))),9,.all,[13,14,15],false,false⟩,⟨Ca 29 62 [.tmp 25,.tmp 28] (some (.val (.one (.int .u64)))),13,.all,[14,15],false,false⟩,Dr (As 6 22) 14 [15],Dr (As 7 29) 15 []])
 (.seq (.draw (some [2,3,4,6,7]) 34 [Dr (Fa 30 0 2) 0 [1,2,6,29,30,31,32,33],Db (L1 31 30) 1 30 [2,6,29,30,31,32,33],Dr (Bc 32 .lss 2 31 .i64 0) 2 [6,29,30,31,32,33],Dr (Fa 33 0 3) 3 [4,5,6,29,30,31,32,33],Db (L1 34 33) 4 33 [5,6,29,30,31,32,33],Dr (Bc 35 .lss 2 34 .i64 0) 5 [6,29,30,31,32,33],Dr (Bt 36 .neq 4 32 35) 6 [29,30,31,32,33],Dr (Fa 37 0 2) 7 [8,9,11,14,16,17,28,29,30,31,32,33],Db (L1 38 37) 8 37 [9,11,14,16,17,28,29,30,31,32,33],Dr (Mv 40 6) 10 [11,17,28,29,30,31,32,33],Dr (Fa 42 0 3) 12 [13,14,16,17,28,29,30,31,32,33],Db (L1 43 42) 13 42 [14,16,17,28,29,30,31,32,33],Dr (Mv 45 7) 15 [16,17,28,29,30,31,32,33],Dr (Fa 48 1 2) 18 [19,20,22,28,29,30,31,32,33],Db (L1 49 48) 19 48 [20,22,28,29,30,31,32,33],⟨Ro 50 (.convI .u64 (.tmp 49)),20,.cvt (.tmp 49),[22,28,29,30,31,32,33],false,true⟩,Dr (Mv 51 7) 21 [22,28,29,30,31,32,33],Dr (Bt 52 .quo 100 50 51) 22 [28,29,30,31,32,33],Dr (Fa 53 1 3) 23 [24,25,27,28,29,30,31,32,33],Db (L1 54 53) 24 53 [25,27,28,29,30,31,32,33],⟨Ro 55 (.convI .u64 (.tmp 54)),25,.cvt (.tmp 54),[27,28,29,30,31,32,33],false,true⟩,Dr (Mv 56 6) 26 [27,28,29,30,31,32,33],Dr (Bt 57 .quo 100 55 56) 27 [28,29,30,31,32,33],⟨Ca 39 63 [.tmp 38] (some (.val (.one (.int .u64)))),9,.all,[11,14,16,17,28,29,30,31,32,33],false,false⟩,Dr (Bt 41 .quo 100 39 40) 11 [17,28,29,30,31,32,33],⟨Ca 44 63 [.tmp 43] (some (.val (.one (.int .u64)))),14,.all,[16,17,28,29,30,31,32,33],false,false⟩,Dr (Bt 46 .quo 100 44 45) 16 [17,28,29,30,31,32,33],⟨Ca 47 65 [.tmp 41,.tmp 46] (some (.val (.agg [.int .u64,.int .u64,.int .u64,.int .u64]))),17,.all,[28,29,30,31,32,33],false,false⟩,⟨Ca 58 65 [.tmp 52,.tmp 57] (some (.val (.agg [.int .u64,.int .u64,.int .u64,.int .u64]))),28,.all,[29,30,31,32,33],false,false⟩,⟨Ca 59 64 [.tmp 36,.tmp 47,.tmp 58] (some (.tup [.agg [.int .i64,.int .i64],.one (.int .i64)])),29,.all,[30,31,32,33],false,false⟩,Dr (Ex 60 59 0) 30 [32,33],Dr (Ex 61 59 1) 31 [32,33],⟨⟨none,none,.op false (.store 2 (.tmp 4) (.tmp 60))⟩,32,.blk (.tmp 4),[33],true,true⟩,Dr (As 5 61) 33 []])
 .ret))),
 [.agg 4 2 [.int .i64,.int .i64],.tmp 5],
 [],
 []⟩
theorem r42_ok : resFun (progU ()) hint live 42 Try.f42 = some r42:=by kernel_rfl
def r43 : RFun :=
⟨.seq (.reg (some [0,1]) [⟨some 2,none,.op true (.box 2 (.tmp 0))⟩,⟨some 3,none,.op true (.box 2 (.tmp 1))⟩,⟨some 4,none,.op true (.new 2 [.int .i64 0,.int .i64 0])⟩,Ac 5 0])
 (.seq (.seq (.reg (some [2,3,4]) [Ld 12 2,Ld 13 3,Ca 14 55 [.tmp 12,.tmp 13] (some (.val (.one (.int .i64)))),Bc 15 .neq 3 14 .i64 0])
 (.cond (.tmp 15) (.seq (.reg (some [2,3,4]) [Ro 16 (.build [.int .i64 0,.int .i64 0] []),Ld 17 2,Ld 18 3,Ca 19 55 [.tmp 17,.tmp 18] (some (.val (.one (.int .i64)))),⟨none,none,.op false (.store 2 (.tmp 4) (.tmp 16))⟩,As 5 19])
 .ret)
 .skip))
 (.seq (.reg (some [2,3,4]) [Fa 20 1 2,L1 21 20,Ro 22 (.convI .u64 (.tmp 21)),Fa 23 1 3,L1 24 23,Ro 25 (.convI .u64 (.tmp 24)),Ca 26 62 [.tmp 22,.tmp 25] (some (.val (.one (.int .u64)))),As 6 26])
 (.seq (.draw (some [2,3,4,6]) 22 [Dr (Fa 27 0 2) 0 [1,2,8,11,17,20,21],Db (L1 28 27) 1 27 [2,8,11,17,20,21],Dr (Fa 30 1 3) 3 [4,5,7,8,11,17,20,21],Db (L1 31 30) 4 30 [5,7,8,11,17,20,21],⟨Ro 32 (.convI .u64 (.tmp 31)),5,.cvt (.tmp 31),[7,8,11,17,20,21],false,true⟩,Dr (Mv 33 6) 6 [7,8,11,17,20,21],Dr (Bt 34 .quo 100 32 33) 7 [8,11,17,20,21],Dr (Fa 36 0 3) 9 [10,11,17,20,21],Db (L1 37 36) 10 36 [11,17,20,21],Dr (Fa 39 1 2) 12 [13,14,16,17,20,21],Db (L1 40 39) 13 39 [14,16,17,20,21],⟨Ro 41 (.convI .u64 (.tmp 40)),14,.cvt (.tmp 40),[16,17,20,21],false,true⟩,Dr (Mv 42 6) 15 [16,17,20,21],Dr (Bt 43 .quo 100 41 42) 16 [17,20,21],⟨⟨some 7,none,.op true (.new 4 [.int .u64 0,.int .u64 0,.int .u64 0,.int .u64 0])⟩,18,.new true,[20,21],false,true⟩,⟨⟨some 8,none,.op true (.new 4 [.int .u64 0,.int .u64 0,.int .u64 0,.int .u64 0])⟩,19,.new true,[20,21],false,true⟩,⟨Ca 29 63 [.tmp 28] (some (.val (.one (.int .u64)))),2,.all,[8,11,17,20,21],false,false⟩,⟨Ca 35 65 [.tmp 29,.tmp 34] (some (.val (.agg [.int .u64,.int .u64,.int .u64,.int .u64]))),8,.all,[11,17,20,21],false,false⟩,⟨Ca 38 63 [.tmp 37] (some (.val (.one (.int .u64)))),11,.all,[17,20,21],false,false⟩,⟨Ca 44 65 [.tmp 38,.tmp 43] (some (.val (.agg [.int .u64,.int .u64,.int .u64,.int .u64]))),17,.all,[20,21],false,false⟩,⟨⟨none,none,.op false (.store 4 (.tmp 7) (.tmp 35))⟩,20,.blk (.tmp 7),[21],true,true⟩,⟨⟨none,none,.op false (.store 4 (.tmp 8) (.tmp 44))⟩,21,.blk (.tmp 8),[],true,true⟩])
 (.seq (.seq (.reg (some [2,3,4,6,7,8]) [Fa 45 0 2,L1 46 45,Bc 47 .lss 2 46 .i64 0,Fa 48 0 3,L1 49 48,Bc 50 .lss 2 49 .i64 0,Bt 51 .eql 4 47 50])
 (.cond (.tmp 51) (.reg (some [2,3,4,6,7,8]) [Ro 52 (.load 4 [.int .u64,.int .u64,.int .u64,.int .u64] (.tmp 7)),Ro 53 (.load 4 [.int .u64,.int .u64,.int .u64,.int .u64] (.tmp 8)),Ca 54 66 [.tmp 52,.tmp 53] (some (.val (.agg [.int .u64,.int .u64,.int .u64,.int .u64]))),⟨none,none,.op false (.store 4 (.tmp 7) (.tmp 54))⟩])
 (.seq (.reg (some [2,3,4,6,7,8]) [Ro 55 (.load 4 [.int .u64,.int .u64,.int .u64,.int .u64] (.tmp 7)),Ro 56 (.load 4 [.int .u64,.int .u64,.int .u64,.int .u64] (.tmp 8)),Ca 57 67 [.tmp 55,.tmp 56] (some (.val (.one .bool)))])
 (.cond (.tmp 57) (.draw (some [2,3,4,6,7,8]) 8 [Db (Ro 58 (.load 4 [.int .u64,.int .u64,.int .u64,.int .u64] (.tmp 8))) 0 8 [2,5,6,7],Db (Ro 59 (.load 4 [.int .u64,.int .u64,.int .u64,.int .u64] (.tmp 7))) 1 7 [2,5,6,7],Db (Ld 61 3) 3 3 [6,7],Db (Ld 62 2) 4 2 [5,6,7],⟨Ca 60 68 [.tmp 58,.tmp 59] (some (.val (.agg [.int .u64,.int .u64,.int .u64,.int .u64]))),2,.all,[5,6,7],false,false⟩,⟨⟨none,none,.op false (.store 4 (.tmp 7) (.tmp 60))⟩,5,.blk (.tmp 7),[6,7],true,true⟩,⟨⟨none,none,.op false (.store 2 (.tmp 2) (.tmp 61))⟩,6,.blk (.tmp 2),[7],true,true⟩,⟨⟨none,none,.op false (.store 2 (.tmp 3) (.tmp 62))⟩,7,.blk (.tmp 3),[],true,true⟩])
 (.reg (some [2,3,4,6,7,8]) [Ro 63 (.load 4 [.int .u64,.int .u64,.int .u64,.int .u64] (.tmp 7)),Ro 64 (.load 4 [.int .u64,.int .u64,.int .u64,.int .u64] (.tmp 8)),Ca 65 68 [.tmp 63,.tmp 64] (some (.val (.agg [.int .u64,.int .u64,.int .u64,.int .u64]))),⟨none,none,.op false (.store 4 (.tmp 7) (.tmp 65))⟩])))))
 (.seq (.reg (some [2,3,4,6,7]) [Ro 67 (.load 4 [.int .u64,.int .u64,.int .u64,.int .u64] (.tmp 7)),Mv 68 6,Ca 69 69 [.tmp 67,.tmp 68] (some (.tup [.agg [.int .u64,.int .u64,.int .u64,.int .u64],.one (.int .u64)])),Mv 66 69,Ex 70 66 0,Ex 71 66 1,⟨some 9,none,.op true (.new 4 [.int .u64 0,.int .u64 0,.int .u64 0,.int .u64 0])⟩,⟨none,none,.op false (.store 4 (.tmp 9) (.tmp 70))⟩,As 10 71])
 (.seq (.reg (some [2,3,4,6,7,10]) [Mv 72 10,Mv 73 6,Ca 74 62 [.tmp 72,.tmp 73] (some (.val (.one (.int .u64)))),As 11 74])
 (.seq (.reg (some [2,3,4,6,7,11]) [Ro 76 (.load 4 [.int .u64,.int .u64,.int .u64,.int .u64] (.tmp 7)),Mv 77 11,Ca 78 69 [.tmp 76,.tmp 77] (some (.tup [.agg [.int .u64,.int .u64,.int .u64,.int .u64],.one (.int .u64)])),Mv 75 78,Ex 79 75 0,Ex 80 75 1,⟨none,none,.op false (.store 4 (.tmp 7) (.tmp 79))⟩])
 (.seq (.seq (.reg (some [2,3,4,6,7,11]) [Ro 81 (.load 4 [.int .u64,.int .u64,.int .u64,.int .u64] (.tmp 7)),Ro 82 (.build [.int .u64 0,.int .u64 0,.int .u64 0,.int .u64 0] []),Bt 83 .eql 106 81 82])
 (.cond (.tmp 83) (.seq (.reg (some [4]) [Ro 84 (.build [.int .i64 0,.int .i64 0] [(1,1,(.const (.int .i64 1)))]),⟨none,none,.op false (.store 2 (.tmp 4) (.tmp 84))⟩,Ac 5 0])
 .ret)
 .skip))
 (.seq (.draw (some [2,3,4,6,7,11]) 20 [Dr (Fa 85 0 2) 0 [1,2,15,16,17,18,19],Db (L1 86 85) 1 85 [2,15,16,17,18,19],Dr (Bc 87 .lss 2 86 .i64 0) 2 [15,16,17,18,19],Db (Ro 88 (.load 4 [.int .u64,.int .u64,.int .u64,.int .u64] (.tmp 7))) 3 7 [15,16,17,18,19],Dr (Fa 89 1 2) 4 [5,6,8,14,15,16,17,18,19],Db (L1 90 89) 5 89 [6,8,14,15,16,17,18,19],⟨Ro 91 (.convI .u64 (.tmp 90)),6,.cvt (.tmp 90),[8,14,15,16,17,18,19],false,true⟩,Dr (Mv 92 6) 7 [8,14,15,16,17,18,19],Dr (Bt 93 .quo 100 91 92) 8 [14,15,16,17,18,19],Dr (Fa 94 1 3) 9 [10,11,13,14,15,16,17,18,19],Db (L1 95 94) 10 94 [11,13,14,15,16,17,18,19],⟨Ro 96 (.convI .u64 (.tmp 95)),11,.cvt (.tmp 95),[13,14,15,16,17,18,19],false,true⟩,Dr (Mv 97 11) 12 [13,14,15,16,17,18,19],Dr (Bt 98 .quo 100 96 97) 13 [14,15,16,17,18,19],⟨Ca 99 65 [.tmp 93,.tmp 98] (some (.val (.agg [.int .u64,.int .u64,.int .u64,.int .u64]))),14,.all,[15,16,17,18,19],false,false⟩,⟨Ca 100 64 [.tmp 87,.tmp 88,.tmp 99] (some (.tup [.agg [.int .i64,.int .i64],.one (.int .i64)])),15,.all,[16,17,18,19],false,false⟩,Dr (Ex 101 100 0) 16 [18,19],Dr (Ex 102 100 1) 17 [18,19],⟨⟨none,none,.op false (.store 2 (.tmp 4) (.tmp 101))⟩,18,.blk (.tmp 4),[19],true,true⟩,Dr (As 5 102) 19 []])
 .ret))))))))),
 [.agg 4 2 [.int .i64,.int .i64],.tmp 5],
 [],
 []⟩
theorem r43_ok : resFun (progU ()) hint live 43 Try.f43 = some r43:=by kernel_rfl
def r44 : RFun :=
⟨.seq (.reg (some [0]) [Ol 2 (.assign (.const (.slice none 0 0)))])
 (.seq (.reg (some [0]) [Ol 3 (.assign (.const (.slice none 0 0)))])
 (.seq (.seq (.reg (some [0,3]) [Mv 6 0,Ro 7 (.lenS (.tmp 6)),Ol 8 (.move (.const (.int .i64 0)))])
 (.block 0 (.loop 3 none (some [0,3,7,8]))))
 (.seq (.reg (some [3]) [Mv 26 3,As 2 26])
 .ret))),
 [.tmp 2],
 [(3,⟨none,some [0,3,7,8],.seq (.reg (some [0,3,7,8]) [Bt 9 .lss 3 8 7])
 (.seq (.cond (.tmp 9) .skip
 (.exit 0 (some [3])))
 (.seq (.block 1 (.seq (.reg (some [0,3,7,8]) [Mv 10 8,As 4 10])
 (.seq (.reg (some [0,3,4,7,8]) [Mv 11 4,Bc 12 .add 3 11 .i64 1,As 5 12])
 (.block 2 (.loop 6 none (some [0,3,4,5,7,8]))))))
 (.reg (some [0,3,7,8]) [Bc 25 .add 3 8 .i64 1,Mv 8 25])))⟩),(6,⟨none,some [0,3,4,5,7,8],.seq (.seq (.reg (some [0,3,4,5,7,8]) [Mv 13 5,Mv 14 0,Ro 15 (.lenS (.tmp 14)),Bt 16 .lss 3 13 15])
 (.cond (.tmp 16) .skip
 (.exit 2 (some [0,3,7,8]))))
 (.seq (.block 3 (.reg (some [0,3,4,5,7,8]) [Mv 19 3,Mv 20 4,Mv 21 5,Ro 22 (.build [.int .i64 0,.int .i64 0] [(0,1,(.tmp 20)),(1,1,(.tmp 21))]),Ro 23 (.buildSlice 2 1 [.int .i64 0,.int .i64 0] [(0,2,(.tmp 22))]),⟨some 24,none,.op false (.old (.call ⟨.builtin .append,#[.tmp 19,.tmp 23],#[75,75]⟩))⟩,As 3 24]))
 (.reg (some [0,3,4,5,7,8]) [Mv 17 5,Bc 18 .add 3 17 .i64 1,As 5 18]))⟩)],
 []⟩
theorem r44_ok : resFun (progU ()) hint live 44 Try.f44 = some r44:=by kernel_rfl
def r45 : RFun :=
⟨.seq (.reg (some [0,1]) [⟨some 4,none,.op true (.new 4 [.slice none 0 0,.int .i64 0,.slice none 0 0,.int .i64 0])⟩])
 (.seq (.reg (some [0,1,4]) [Ro 14 (.build [.slice none 0 0,.int .i64 0,.slice none 0 0,.int .i64 0] [(3,1,(.const (.int .i64 1)))]),Ro 5 (.new 4 [.slice none 0 0,.int .i64 0,.slice none 0 0,.int .i64 0]),⟨none,none,.op false (.store 4 (.tmp 5) (.tmp 14))⟩])
 (.seq (.seq (.reg (some [0,1,4,5]) [Mv 15 0,Ca 16 37 [.tmp 15] (some (.val (.one .slice))),Ro 17 (.lenS (.tmp 16)),Ol 18 (.move (.const (.int .i64 0)))])
 (.block 0 (.loop 3 (some [1,4,5,16,17,18]) (some [1,4,5,16,17,18]))))
 (.seq (.seq (.reg (some [4,5]) [Ro 11 (.new 1 [.int .i64 0]),⟨none,none,.op false (.store 1 (.tmp 11) (.const (.int .i64 0)))⟩])
 (.block 4 (.loop 15 (some [4,5,11]) (some [4,5,11]))))
 (.seq (.reg (some [4,5]) [Ro 121 (.load 4 [.slice,.int .i64,.slice,.int .i64] (.tmp 5)),⟨none,none,.op false (.store 4 (.tmp 4) (.tmp 121))⟩])
 .ret)))),
 [.agg 4 4 [.slice,.int .i64,.slice,.int .i64]],
 [(3,⟨some [1,4,5,16,17,18],some [1,4,5,16,17,18],.seq (.reg (some [1,4,5,16,17,18]) [Bt 19 .lss 3 18 17])
 (.seq (.cond (.tmp 19) .skip
 (.exit 0 (some [4,5])))
 (.seq (.block 1 (.seq (.reg (some [1,4,5,16,17,18]) [Mv 20 18,Ix 21 1 16 18,Ro 22 (.load1 .slice (.tmp 21)),As 6 20,As 7 22])
 (.seq (.reg (some [1,4,5,6,7,16,17,18]) [Mv 23 7,Ro 24 (.lenS (.tmp 23)),Fa 25 1 5,⟨none,none,.op false (.store 1 (.tmp 25) (.tmp 24))⟩])
 (.seq (.reg (some [1,4,5,6,7,16,17,18]) [Fa 26 1 5,L1 27 26,Bc 28 .add 3 27 .i64 1,Ro 29 (.mkSlice 1 [.int .i64 0] (.const (.int .i64 0)) (.tmp 28)),As 8 29])
 (.seq (.seq (.reg (some [1,4,5,6,7,8,16,17,18]) [Mv 30 7,Ro 31 (.lenS (.tmp 30)),Ol 32 (.move (.const (.int .i64 0)))])
 (.block 2 (.loop 8 none (some [1,4,5,6,8,16,17,18,30,31,32]))))
 (.draw (some [1,4,5,6,8,16,17,18]) 13 [Dr (Fa 41 0 5) 0 [1,10,11,12],Db (Ro 42 (.load1 .slice (.tmp 41))) 1 41 [10,11,12],Dr (Mv 43 8) 2 [8,9,10,11,12],Dr (Mv 44 1) 3 [5,6,7,8,9,10,11,12],Dr (Mv 45 6) 4 [5,6,7,8,9,10,11,12],Dr (Ix 46 1 44 45) 5 [6,7,8,9,10,11,12],Db (L1 47 46) 6 46 [7,8,9,10,11,12],⟨Ro 48 (.buildSlice 1 1 [.int .i64 0] [(0,1,(.tmp 47))]),7,.new false,[8,9,10,11,12],false,true⟩,⟨⟨some 49,none,.op false (.old (.call ⟨.builtin .append,#[.tmp 43,.tmp 48],#[81,81]⟩))⟩,8,.app [.tmp 43,.tmp 48],[9,10,11,12],false,false⟩,⟨Ro 50 (.buildSlice 1 1 [.slice none 0 0] [(0,1,(.tmp 49))]),9,.new false,[10,11,12],false,true⟩,⟨⟨some 51,none,.op false (.old (.call ⟨.builtin .append,#[.tmp 42,.tmp 50],#[77,77]⟩))⟩,10,.app [.tmp 42,.tmp 50],[11,12],false,false⟩,Dr (Fa 52 0 5) 11 [12],⟨⟨none,none,.op false (.store 1 (.tmp 52) (.tmp 51))⟩,12,.blk (.tmp 52),[],true,true⟩]))))))
 (.reg (some [1,4,5,16,17,18]) [Bc 53 .add 3 18 .i64 1,Mv 18 53])))⟩),(8,⟨none,some [1,4,5,6,8,16,17,18,30,31,32],.seq (.reg (some [1,4,5,6,8,16,17,18,30,31,32]) [Bt 33 .lss 3 32 31])
 (.seq (.cond (.tmp 33) .skip
 (.exit 2 (some [1,4,5,6,8,16,17,18])))
 (.seq (.block 3 (.seq (.reg (some [1,4,5,6,8,16,17,18,30,31,32]) [Ix 34 1 30 32,L1 35 34,As 10 35])
 (.reg (some [1,4,5,6,8,10,16,17,18,30,31,32]) [Mv 36 8,Mv 37 10,Ro 38 (.buildSlice 1 1 [.int .i64 0] [(0,1,(.tmp 37))]),⟨some 39,none,.op false (.old (.call ⟨.builtin .append,#[.tmp 36,.tmp 38],#[81,81]⟩))⟩,As 8 39])))
 (.reg (some [1,4,5,6,8,16,17,18,30,31,32]) [Bc 40 .add 3 32 .i64 1,Mv 32 40])))⟩),(15,⟨some [4,5,11],some [4,5,11],.seq (.seq (.reg (some [4,5,11]) [L1 54 11,Fa 55 1 5,L1 56 55,Bt 57 .lss 3 54 56,Mv 58 57,⟨some 59,some (58,true),.op false (.fieldAddr 2 (.tmp 5))⟩,⟨some 60,some (58,true),.op false (.load1 .slice (.tmp 59))⟩,⟨some 61,some (58,true),.op false (.lenS (.tmp 60))⟩,⟨some 62,some (58,true),.op false (.fieldAddr 0 (.tmp 5))⟩,⟨some 63,some (58,true),.op false (.load1 .slice (.tmp 62))⟩,⟨some 64,some (58,true),.op false (.lenS (.tmp 63))⟩,⟨some 65,some (58,true),.op false (.old (.binOp .lss 3 (.tmp 61) (.tmp 64) 3))⟩,Ol 66 (.pick (.tmp 58) (.tmp 65) (.const (.bool false)))])
 (.cond (.tmp 66) .skip
 (.exit 4 (some [4,5]))))
 (.seq (.block 5 (.seq (.reg (some [4,5,11]) [Fa 69 2 5,Ro 70 (.load1 .slice (.tmp 69)),Ro 71 (.lenS (.tmp 70)),As 12 71])
 (.seq (.reg (some [4,5,11,12]) [Fa 72 0 5,Ro 73 (.load1 .slice (.tmp 72)),Mv 74 12,Ro 75 (.cutS 77 (.tmp 73) (some (.tmp 74)) none none),Ol 76 (.makeFunc (.func 71) #[] #[.tmp 11]),Ca 77 70 [.tmp 75,.tmp 76] (some (.val (.one (.int .i64)))),As 13 77])
 (.seq (.seq (.reg (some [4,5,11,12,13]) [Mv 78 13,Bc 79 .lss 3 78 .i64 0])
 (.cond (.tmp 79) (.exit 5 (some [4,5,11]))
 .skip))
 (.seq (.draw (some [4,5,11,12,13]) 24 [Dr (Fa 80 0 5) 0 [1,20,21,22,23],Db (Ro 81 (.load1 .slice (.tmp 80))) 1 80 [20,21,22,23],Dr (Mv 82 12) 2 [20,21,22,23],Dr (Fa 83 0 5) 3 [4,20,21,22,23],Db (Ro 84 (.load1 .slice (.tmp 83))) 4 83 [20,21,22,23],Dr (Mv 85 12) 5 [7,22,23],Dr (Mv 86 13) 6 [7,22,23],Dr (Bt 87 .add 3 85 86) 7 [22,23],Dr (Fa 88 0 5) 8 [9,13,14,20,21,22,23],Db (Ro 89 (.load1 .slice (.tmp 88))) 9 88 [13,14,20,21,22,23],Dr (Mv 90 12) 10 [12,13,14,20,21,22,23],Dr (Mv 91 13) 11 [12,13,14,20,21,22,23],Dr (Bt 92 .add 3 90 91) 12 [13,14,20,21,22,23],Dr (Ix 93 1 89 92) 13 [14,20,21,22,23],Db (Ro 94 (.load1 .slice (.tmp 93))) 14 93 [20,21,22,23],Dr (Fa 95 0 5) 15 [16,18,19,20,21,22,23],Db (Ro 96 (.load1 .slice (.tmp 95))) 16 95 [18,19,20,21,22,23],Dr (Mv 97 12) 17 [18,19,20,21,22,23],Dr (Ix 98 1 96 97) 18 [19,20,21,22,23],Db (Ro 99 (.load1 .slice (.tmp 98))) 19 98 [20,21,22,23],Dr (Ix 100 1 81 82) 20 [21,22,23],⟨⟨none,none,.op false (.store 1 (.tmp 100) (.tmp 94))⟩,21,.blk (.tmp 100),[22,23],true,true⟩,Dr (Ix 101 1 84 87) 22 [23],⟨⟨none,none,.op false (.store 1 (.tmp 101) (.tmp 99))⟩,23,.blk (.tmp 101),[],true,true⟩])
 (.seq (.reg (some [4,5,11,12]) [Mv 102 12,L1 103 11,Ca 104 72 [.tmp 5,.tmp 102,.tmp 103] (some (.tup []))])
 (.seq (.reg (some [4,5,11,12]) [Fa 105 2 5,Ro 106 (.load1 .slice (.tmp 105)),L1 107 11,Ro 108 (.buildSlice 1 1 [.int .i64 0] [(0,1,(.tmp 107))]),⟨some 109,none,.op false (.old (.call ⟨.builtin .append,#[.tmp 106,.tmp 108],#[22,22]⟩))⟩,Fa 110 2 5,⟨none,none,.op false (.store 1 (.tmp 110) (.tmp 109))⟩])
 (.draw (some [4,5,11,12]) 10 [Dr (Fa 111 0 5) 0 [1,3,4,6,7,8,9],Db (Ro 112 (.load1 .slice (.tmp 111))) 1 111 [3,4,6,7,8,9],Dr (Mv 113 12) 2 [3,4,6,7,8,9],Dr (Ix 114 1 112 113) 3 [4,6,7,8,9],Db (Ro 115 (.load1 .slice (.tmp 114))) 4 114 [6,7,8,9],Db (L1 116 11) 5 11 [6,7,8,9],Dr (Ix 117 1 115 116) 6 [7,8,9],Db (L1 118 117) 7 117 [8,9],Dr (Fa 119 3 5) 8 [9],⟨⟨none,none,.op false (.store 1 (.tmp 119) (.tmp 118))⟩,9,.blk (.tmp 119),[],true,true⟩]))))))))
 (.seq (.seq (.reg (some [4,5,11]) [L1 120 11])
 (.reg (some [4,5,120]) [Ro 11 (.new 1 [.int .i64 0]),⟨none,none,.op false (.store 1 (.tmp 11) (.tmp 120))⟩]))
 (.reg (some [4,5,11]) [L1 67 11,Bc 68 .add 3 67 .i64 1,⟨none,none,.op false (.store 1 (.tmp 11) (.tmp 68))⟩])))⟩)],
 []⟩
theorem r45_ok : resFun (progU ()) hint live 45 Try.f45 = some r45:=by kernel_rfl
def r46 : RFun :=
⟨.seq (.reg (some [0,1,2]) [Ol 6 (.assign (.const (.slice none 0 0)))])
 (.seq (.reg (some [0,1,2]) [Mv 12 0,Ol 13 (.nilCheck (.tmp 12)),Fa 14 1 13,L1 15 14,Ca 16 73 [.tmp 15] (some (.val (.one .slice))),As 7 16])
 (.seq (.seq (.reg (some [0,1,2,7]) [Mv 17 0,Ol 18 (.nilCheck (.tmp 17)),Fa 19 2 18,Ro 20 (.load1 .slice (.tmp 19)),Ro 21 (.lenS (.tmp 20)),Ol 22 (.move (.const (.int .i64 0)))])
 (.block 0 (.loop 3 (some [0,1,2,7,20,21,22]) (some [0,1,2,7,20,21,22]))))
 (.seq (.reg (some [7]) [Mv 54 7,As 6 54])
 .ret))),
 [.tmp 6],
 [(3,⟨some [0,1,2,7,20,21,22],some [0,1,2,7,20,21,22],.seq (.reg (some [0,1,2,7,20,21,22]) [Bt 23 .lss 3 22 21])
 (.seq (.cond (.tmp 23) .skip
 (.exit 0 (some [7])))
 (.seq (.block 1 (.seq (.reg (some [0,1,2,7,20,21,22]) [Mv 24 22,Ix 25 1 20 22,L1 26 25,As 8 24,As 9 26])
 (.seq (.draw (some [0,1,2,7,8,9,20,21,22]) 23 [Dr (Mv 28 2) 0 [11,16,17,18,19,21,22],Dr (Mv 29 0) 1 [2,3,4,6,7,9,10,11,16,17,18,19,21,22],Dr (Ol 30 (.nilCheck (.tmp 29))) 2 [3,4,6,7,9,10,11,16,17,18,19,21,22],Dr (Fa 31 0 30) 3 [4,6,7,9,10,11,16,17,18,19,21,22],Db (Ro 32 (.load1 .slice (.tmp 31))) 4 31 [6,7,9,10,11,16,17,18,19,21,22],Dr (Mv 33 8) 5 [6,7,9,10,11,16,17,18,19,21,22],Dr (Ix 34 1 32 33) 6 [7,9,10,11,16,17,18,19,21,22],Db (Ro 35 (.load1 .slice (.tmp 34))) 7 34 [9,10,11,16,17,18,19,21,22],Dr (Mv 36 1) 8 [9,10,11,16,17,18,19,21,22],Dr (Ix 37 1 35 36) 9 [10,11,16,17,18,19,21,22],Db (L1 38 37) 10 37 [11,16,17,18,19,21,22],Dr (Bt 39 .mul 2 28 38) 11 [16,17,18,19,21,22],Dr (Mv 40 0) 12 [13,14,15,16,17,18,19,21,22],Dr (Ol 41 (.nilCheck (.tmp 40))) 13 [14,15,16,17,18,19,21,22],Dr (Fa 42 3 41) 14 [15,16,17,18,19,21,22],Db (L1 43 42) 15 42 [16,17,18,19,21,22],⟨⟨some 10,none,.op true (.new 2 [.int .i64 0,.int .i64 0])⟩,20,.new true,[21,22],false,true⟩,⟨Ca 44 74 [.tmp 39,.tmp 43] (some (.tup [.agg [.int .i64,.int .i64],.one (.int .i64)])),16,.all,[17,18,19,21,22],false,false⟩,Dr (Mv 27 44) 17 [18,19,21,22],Dr (Ex 45 27 0) 18 [21,22],Dr (Ex 46 27 1) 19 [22],⟨⟨none,none,.op false (.store 2 (.tmp 10) (.tmp 45))⟩,21,.blk (.tmp 10),[22],true,true⟩,Dr (As 11 46) 22 []])
 (.seq (.reg (some [0,1,2,7,9,10,11,20,21,22]) [Mv 47 11,Bc 48 .eql 23 47 .i64 0])
 (.cond (.tmp 48) (.reg (some [0,1,2,7,9,10,20,21,22]) [Mv 49 7,Mv 50 9,Ld 51 10,Ix 52 2 49 50,⟨none,none,.op false (.store 2 (.tmp 52) (.tmp 51))⟩])
 .skip)))))
 (.reg (some [0,1,2,7,20,21,22]) [Bc 53 .add 3 22 .i64 1,Mv 22 53])))⟩)],
 []⟩
theorem r46_ok : resFun (progU ()) hint live 46 Try.f46 = some r46:=by kernel_rfl
def r51 : RFun :=
⟨.seq (.reg (some [0,1]) [⟨some 2,none,.op true (.box 2 (.tmp 0))⟩,⟨some 3,none,.op true (.box 2 (.tmp 1))⟩,⟨some 4,none,.op true (.new 2 [.int .i64 0,.int .i64 0])⟩,Ac 5 0])
 (.seq (.seq (.reg (some [2,3,4]) [Ld 7 2,Ld 8 3,Ca 9 77 [.tmp 7,.tmp 8] (some (.val (.one (.int .i64)))),As 6 9])
 (.seq (.reg (some [2,3,4,6]) [Mv 10 6,Bc 11 .neq 23 10 .i64 0])
 (.cond (.tmp 11) (.seq (.reg (some [4,6]) [Ro 12 (.build [.int .i64 0,.int .i64 0] []),Mv 13 6,⟨none,none,.op false (.store 2 (.tmp 4) (.tmp 12))⟩,As 5 13])
 .ret)
 .skip)))
 (.seq (.reg (some [2,3,4]) [Ld 14 2,Fa 15 0 3,L1 16 15,Ol 17 (.unOp .neg 2 (.tmp 16)),Fa 18 1 3,L1 19 18,Ro 20 (.build [.int .i64 0,.int .i64 0] [(0,1,(.tmp 17)),(1,1,(.tmp 19))]),Ca 21 78 [.tmp 14,.tmp 20] (some (.tup [.agg [.int .i64,.int .i64],.one (.int .i64)])),Ex 22 21 0,Ex 23 21 1,⟨none,none,.op false (.store 2 (.tmp 4) (.tmp 22))⟩,As 5 23])
 .ret)),
 [.agg 4 2 [.int .i64,.int .i64],.tmp 5],
 [],
 []⟩
theorem r51_ok : resFun (progU ()) hint live 51 Try.f51 = some r51:=by kernel_rfl
end Go.Proofs.Ytogliemiljhliaa
