import Derived.Test.YtogliemiljhliaaSeat0
import Derived.Test.YtogliemiljhliaaSymS
set_option linter.unusedSimpArgs false
set_option linter.unusedVariables false
namespace Go.Proofs.Ytogliemiljhliaa
open Go.Sim
set_option maxRecDepth 100000
def r37 : RFun :=
⟨.seq (.reg (some [0]) [Ol 2 (.assign (.const (.slice none 0 0)))])
 (.seq (.reg (some [0]) [Mv 8 0,Ca 9 35 [.tmp 8] (some (.val (.one .slice))),As 3 9])
 (.seq (.reg (some [0,3]) [Ol 4 (.assign (.const (.slice none 0 0)))])
 (.seq (.seq (.reg (some [0,3,4]) [Mv 10 0,Ca 11 44 [.tmp 10] (some (.val (.one .slice))),Ro 12 (.lenS (.tmp 11)),Ol 13 (.move (.const (.int .i64 0)))])
 (.block 0 (.loop 4 (some [0,3,4,11,12,13]) (some [0,3,4,11,12,13]))))
 (.seq (.reg (some [4]) [Mv 54 4,As 2 54])
 .ret)))),
 [.tmp 2],
 [(4,⟨some [0,3,4,11,12,13],some [0,3,4,11,12,13],.seq (.reg (some [0,3,4,11,12,13]) [Bt 14 .lss 3 13 12])
 (.seq (.cond (.tmp 14) .skip
 (.exit 0 (some [4])))
 (.seq (.block 1 (.seq (.reg (some [0,3,4,11,12,13]) [Ix 15 2 11 13,Ld 16 15,⟨some 6,none,.op true (.new 2 [.int .i64 0,.int .i64 0])⟩,⟨none,none,.op false (.store 2 (.tmp 6) (.tmp 16))⟩])
 (.seq (.reg (some [0,3,4,6,11,12,13]) [Mv 17 0,Ro 18 (.lenS (.tmp 17)),Mv 19 3,Ro 20 (.lenS (.tmp 19)),Bt 21 .add 3 18 20,Ro 22 (.mkSlice 1 [.int .i64 0] (.tmp 21) (.tmp 21)),As 7 22])
 (.seq (.reg (some [0,3,4,6,7,11,12,13]) [Mv 23 7,Fa 24 0 6,L1 25 24,Ix 26 1 23 25,⟨none,none,.op false (.store 1 (.tmp 26) (.const (.int .i64 1)))⟩])
 (.seq (.reg (some [0,3,4,6,7,11,12,13]) [Mv 27 7,Fa 28 1 6,L1 29 28,Ix 30 1 27 29,⟨none,none,.op false (.store 1 (.tmp 30) (.const (.int .i64 (-1))))⟩])
 (.seq (.draw (some [0,3,4,6,7,11,12,13]) 19 [Dr (Mv 31 7) 0 [17,18],Dr (Mv 32 0) 1 [2,16,17,18],Dr (Ro 33 (.lenS (.tmp 32))) 2 [16,17,18],Dr (Mv 34 3) 3 [15,16,17,18],Dr (Mv 35 0) 4 [7,8,14,15,16,17,18],Dr (Fa 36 1 6) 5 [6,7,8,14,15,16,17,18],Db (L1 37 36) 6 36 [7,8,14,15,16,17,18],Dr (Ix 38 1 35 37) 7 [8,14,15,16,17,18],Db (L1 39 38) 8 38 [14,15,16,17,18],Dr (Mv 40 0) 9 [12,13,14,15,16,17,18],Dr (Fa 41 0 6) 10 [11,12,13,14,15,16,17,18],Db (L1 42 41) 11 41 [12,13,14,15,16,17,18],Dr (Ix 43 1 40 42) 12 [13,14,15,16,17,18],Db (L1 44 43) 13 43 [14,15,16,17,18],Dr (Bt 45 .sub 3 39 44) 14 [15,16,17,18],⟨Ca 46 53 [.tmp 34,.tmp 45] (some (.val (.one (.int .i64)))),15,.all,[16,17,18],false,false⟩,Dr (Bt 47 .add 3 33 46) 16 [17,18],Dr (Ix 48 1 31 47) 17 [18],⟨⟨none,none,.op false (.store 1 (.tmp 48) (.const (.int .i64 1)))⟩,18,.blk (.tmp 48),[],true,true⟩])
 (.reg (some [0,3,4,7,11,12,13]) [Mv 49 4,Mv 50 7,Ro 51 (.buildSlice 1 1 [.slice none 0 0] [(0,1,(.tmp 50))]),⟨some 52,none,.op false (.old (.call ⟨.builtin .append,#[.tmp 49,.tmp 51],#[28,28]⟩))⟩,As 4 52])))))))
 (.reg (some [0,3,4,11,12,13]) [Bc 53 .add 3 13 .i64 1,Mv 13 53])))⟩)],
 []⟩
theorem r37_ok : resFun (progU ()) hint live 37 Try.f37 = some r37:=by kernel_rfl
def r42 : RFun :=
⟨.seq (.reg (some [0,1]) [⟨some 2,none,.op true (.box 2 (.tmp 0))⟩,⟨some 3,none,.op true (.box 2 (.tmp 1))⟩,⟨some 4,none,.op true (.new 2 [.int .i64 0,.int .i64 0])⟩,Ac 5 0])
 (.seq (.seq (.reg (some [2,3,4]) [Ld 8 2,Ld 9 3,Ca 10 55 [.tmp 8,.tmp 9] (some (.val (.one (.int .i64)))),Bc 11 .neq 3 10 .i64 0])
 (.cond (.tmp 11) (.seq (.reg (some [2,3,4]) [Ro 12 (.build [.int .i64 0,.int .i64 0] []),Ld 13 2,Ld 14 3,Ca 15 55 [.tmp 13,.tmp 14] (some (.val (.one (.int .i64)))),⟨none,none,.op false (.store 2 (.tmp 4) (.tmp 12))⟩,As 5 15])
 .ret)
 .skip))
 (.seq (.draw (some [2,3,4]) 16 [Dr (Fa 16 0 2) 0 [1,2,6,9,13,14,15],Db (L1 17 16) 1 16 [2,6,9,13,14,15],Dr (Fa 19 1 3) 3 [4,5,6,9,13,14,15],Db (L1 20 19) 4 19 [5,6,9,13,14,15],⟨Ro 21 (.convI .u64 (.tmp 20)),5,.cvt (.tmp 20),[6,9,13,14,15],false,true⟩,Dr (Fa 23 0 3) 7 [8,9,13,14,15],Db (L1 24 23) 8 23 [9,13,14,15],Dr (Fa 26 1 2) 10 [11,12,13,14,15],Db (L1 27 26) 11 26 [12,13,14,15],⟨Ro 28 (.convI .u64 (.tmp 27)),12,.cvt (.tmp 27),[13,14,15],false,true⟩,⟨Ca 18 63 [.tmp 17] (some (.val (.one (.int .u64)))),2,.all,[6,9,13,14,15],false,false⟩,⟨Ca 22 62 [.tmp 18,.tmp 21] (some (.val (.one (.int .u64)))),6,.all,[9,13,14,15],false,false⟩,⟨Ca 25 63 [.tmp 24] (some (.val (.one (.int .u64)))),9,.all,[13,14,15],false,false⟩,⟨Ca 29 62 [.tmp 25,.tmp 28] (some (.val (.one (.int .u64)))),13,.all,[14,15],false,false⟩,Dr (As 6 22) 14 [15],Dr (As 7 29) 15 []])
 (.seq (.draw (some [2,3,4,6,7]) 34 [Dr (Fa 30 0 2) 0 [1,2,6,29,30,31,32,33],Db (L1 31 30) 1 30 [2,6,29,30,31,32,33],Dr (Bc 32 .lss 2 31 .i64 0) 2 [6,29,30,31,32,33],Dr (Fa 33 0 3) 3 [4,5,6,29,30,31,32,33],Db (L1 34 33) 4 33 [5,6,29,30,31,32,33],Dr (Bc 35 .lss 2 34 .i64 0) 5 [6,29,30,31,32,33],Dr (Bt 36 .neq 4 32 35) 6 [29,30,31,32,33],Dr (Fa 37 0 2) 7 [8,9,11,14,16,17,28,29,30,31,32,33],Db (L1 38 37) 8 37 [9,11,14,16,17,28,29,30,31,32,33],Dr (Mv 40 6) 10 [11,17,28,29,30,31,32,33],Dr (Fa 42 0 3) 12 [13,14,16,17,28,29,30,31,32,33],Db (L1 43 42) 13 42 [14,16,17,28,29,30,31,32,33],Dr (Mv 45 7) 15 [16,17,28,29,30,31,32,33],Dr (Fa 48 1 2) 18 [19,20,22,28,29,30,31,32,33],Db (L1 49 48) 19 48 [20,22,28,29,30,31,32,33],⟨Ro 50 (.convI .u64 (.tmp 49)),20,.cvt (.tmp 49),[22,28,29,30,31,32,33],false,true⟩,Dr (Mv 51 7) 21 [22,28,29,30,31,32,33],Dr (Bt 52 .quo 100 50 51) 22 [28,29,30,31,32,33],Dr (Fa 53 1 3) 23 [24,25,27,28,29,30,31,32,33],Db (L1 54 53) 24 53 [25,27,28,29,30,31,32,33],⟨Ro 55 (.convI .u64 (.tmp 54)),25,.cvt (.tmp 54),[27,28,29,30,31,32,33],false,true⟩,Dr (Mv 56 6) 26 [27,28,29,30,31,32,33],Dr (Bt 57 .quo 100 55 56) 27 [28,29,30,31,32,33],⟨Ca 39 63 [.tmp 38] (some (.val (.one (.int .u64)))),9,.all,[11,14,16,17,28,29,30,31,32,33],false,false⟩,Dr (Bt 41 .quo 100 39 40) 11 [17,28,29,30,31,32,33],⟨Ca 44 63 [.tmp 43] (some (.val (.one (.int .u64)))),14,.all,[16,17,28,29,30,31,32,33],false,false⟩,Dr (Bt 46 .quo 100 44 45) 16 [17,28,29,30,31,32,33],⟨Ca 47 65 [.tmp 41,.tmp 46] (some (.val (.agg [.int .u64,.int .u64,.int .u64,.int .u64]))),17,.all,[28,29,30,31,32,33],false,false⟩,⟨Ca 58 65 [.tmp 52,.tmp 57] (some (.val (.agg [.int .u64,.int .u64,.int .u64,.int .u64]))),28,.all,[29,30,31,32,33],false,false⟩,⟨Ca 59 64 [.tmp 36,.tmp 47,.tmp 58] (some (.tup [.agg [.int .i64,.int .i64],.one (.int .i64)])),29,.all,[30,31,32,33],false,false⟩,Dr (Ex 60 59 0) 30 [32,33],Dr (Ex 61 59 1) 31 [32,33],⟨⟨none,none,.op false (.store 2 (.tmp 4) (.tmp 60))⟩,32,.blk (.tmp 4),[33],true,true⟩,Dr (As 5 61) 33 []])
 .ret))),
 [.agg 4 2 [.int .i64,.int .i64],.tmp 5],
 [],
 []⟩
theorem r42_ok : resFun (progU ()) hint live 42 Try.f42 = some r42:=by kernel_rfl
def r43 : RFun :=
⟨.seq (.reg (some [0,1]) [⟨some 2,none,.op true (.box 2 (.tmp 0))⟩,⟨some 3,none,.op true (.box 2 (.tmp 1))⟩,⟨some 4,none,.op true (.new 2 [.int .i64 0,.int .i64 0])⟩,Ac 5 0])
 (.seq (.seq (.reg (some [2,3,4]) [Ld 12 2,Ld 13 3,Ca 14 55 [.tmp 12,.tmp 13] (some (.val (.one (.int .i64)))),Bc 15 .neq 3 14 .i64 0])
 (.cond (.tmp 15) (.seq (.reg (some [2,3,4]) [Ro 16 (.build [.int .i64 0,.int .i64 0] []),Ld 17 2,Ld 18 3,Ca 19 55 [.tmp 17,.tmp 18] (some (.val (.one (.int .i64)))),⟨none,none,.op false (.store 2 (.tmp 4) (.tmp 16))⟩,As 5 19])
 .ret)
 .skip))
 (.seq (.reg (some [2,3,4]) [Fa 20 1 2,L1 21 20,Ro 22 (.convI .u64 (.tmp 21)),Fa 23 1 3,L1 24 23,Ro 25 (.convI .u64 (.tmp 24)),Ca 26 62 [.tmp 22,.tmp 25] (some (.val (.one (.int .u64)))),As 6 26])
 (.seq (.draw (some [2,3,4,6]) 22 [Dr (Fa 27 0 2) 0 [1,2,8,11,17,20,21],Db (L1 28 27) 1 27 [2,8,11,17,20,21],Dr (Fa 30 1 3) 3 [4,5,7,8,11,17,20,21],Db (L1 31 30) 4 30 [5,7,8,11,17,20,21],⟨Ro 32 (.convI .u64 (.tmp 31)),5,.cvt (.tmp 31),[7,8,11,17,20,21],false,true⟩,Dr (Mv 33 6) 6 [7,8,11,17,20,21],Dr (Bt 34 .quo 100 32 33) 7 [8,11,17,20,21],Dr (Fa 36 0 3) 9 [10,11,17,20,21],Db (L1 37 36) 10 36 [11,17,20,21],Dr (Fa 39 1 2) 12 [13,14,16,17,20,21],Db (L1 40 39) 13 39 [14,16,17,20,21],⟨Ro 41 (.convI .u64 (.tmp 40)),14,.cvt (.tmp 40),[16,17,20,21],false,true⟩,Dr (Mv 42 6) 15 [16,17,20,21],Dr (Bt 43 .quo 100 41 42) 16 [17,20,21],⟨⟨some 7,none,.op true (.new 4 [.int .u64 0,.int .u64 0,.int .u64 0,.int .u64 0])⟩,18,.new true,[20,21],false,true⟩,⟨⟨some 8,none,.op true (.new 4 [.int .u64 0,.int .u64 0,.int .u64 0,.int .u64 0])⟩,19,.new true,[20,21],false,true⟩,⟨Ca 29 63 [.tmp 28] (some (.val (.one (.int .u64)))),2,.all,[8,11,17,20,21],false,false⟩,⟨Ca 35 65 [.tmp 29,.tmp 34] (some (.val (.agg [.int .u64,.int .u64,.int .u64,.int .u64]))),8,.all,[11,17,20,21],false,false⟩,⟨Ca 38 63 [.tmp 37] (some (.val (.one (.int .u64)))),11,.all,[17,20,21],false,false⟩,⟨Ca 44 65 [.tmp 38,.tmp 43] (some (.val (.agg [.int .u64,.int .u64,.int .u64,.int .u64]))),17,.all,[20,21],false,false⟩,⟨⟨none,none,.op false (.store 4 (.tmp 7) (.tmp 35))⟩,20,.blk (.tmp 7),[21],true,true⟩,⟨⟨none,none,.op false (.store 4 (.tmp 8) (.tmp 44))⟩,21,.blk (.tmp 8),[],true,true⟩])
 (.seq (.seq (.reg (some [2,3,4,6,7,8]) [Fa 45 0 2,L1 46 45,Bc 47 .lss 2 46 .i64 0,Fa 48 0 3,L1 49 48,Bc 50 .lss 2 49 .i64 0,Bt 51 .eql 4 47 50])
 (.cond (.tmp 51) (.reg (some [2,3,4,6,7,8]) [Ro 52 (.load 4 [.int .u64,.int .u64,.int .u64,.int .u64] (.tmp 7)),Ro 53 (.load 4 [.int .u64,.int .u64,.int .u64,.int .u64] (.tmp 8)),Ca 54 66 [.tmp 52,.tmp 53] (some (.val (.agg [.int .u64,.int .u64,.int .u64,.int .u64]))),⟨none,none,.op false (.store 4 (.tmp 7) (.tmp 54))⟩])
 (.seq (.reg (some [2,3,4,6,7,8]) [Ro 55 (.load 4 [.int .u64,.int .u64,.int .u64,.int .u64] (.tmp 7)),Ro 56 (.load 4 [.int .u64,.int .u64,.int .u64,.int .u64] (.tmp 8)),Ca 57 67 [.tmp 55,.tmp 56] (some (.val (.one .bool)))])
 (.cond (.tmp 57) (.draw (some [2,3,4,6,7,8]) 8 [Db (Ro 58 (.load 4 [.int .u64,.int .u64,.int .u64,.int .u64] (.tmp 8))) 0 8 [2,5,6,7],Db (Ro 59 (.load 4 [.int .u64,.int .u64,.int .u64,.int .u64] (.tmp 7))) 1 7 [2,5,6,7],Db (Ld 61 3) 3 3 [6,7],Db (Ld 62 2) 4 2 [5,6,7],⟨Ca 60 68 [.tmp 58,.tmp 59] (some (.val (.agg [.int .u64,.int .u64,.int .u64,.int .u64]))),2,.all,[5,6,7],false,false⟩,⟨⟨none,none,.op false (.store 4 (.tmp 7) (.tmp 60))⟩,5,.blk (.tmp 7),[6,7],true,true⟩,⟨⟨none,none,.op false (.store 2 (.tmp 2) (.tmp 61))⟩,6,.blk (.tmp 2),[7],true,true⟩,⟨⟨none,none,.op false (.store 2 (.tmp 3) (.tmp 62))⟩,7,.blk (.tmp 3),[],true,true⟩])
 (.reg (some [2,3,4,6,7,8]) [Ro 63 (.load 4 [.int .u64,.int .u64,.int .u64,.int .u64] (.tmp 7)),Ro 64 (.load 4 [.int .u64,.int .u64,.int .u64,.int .u64] (.tmp 8)),Ca 65 68 [.tmp 63,.tmp 64] (some (.val (.agg [.int .u64,.int .u64,.int .u64,.int .u64]))),⟨none,none,.op false (.store 4 (.tmp 7) (.tmp 65))⟩])))))
 (.seq (.reg (some [2,3,4,6,7]) [Ro 67 (.load 4 [.int .u64,.int .u64,.int .u64,.int .u64] (.tmp 7)),Mv 68 6,Ca 69 69 [.tmp 67,.tmp 68] (some (.tup [.agg [.int .u64,.int .u64,.int .u64,.int .u64],.one (.int .u64)])),Mv 66 69,Ex 70 66 0,Ex 71 66 1,⟨some 9,none,.op true (.new 4 [.int .u64 0,.int .u64 0,.int .u64 0,.int .u64 0])⟩,⟨none,none,.op false (.store 4 (.tmp 9) (.tmp 70))⟩,As 10 71])
 (.seq (.reg (some [2,3,4,6,7,10]) [Mv 72 10,Mv 73 6,Ca 74 62 [.tmp 72,.tmp 73] (some (.val (.one (.int .u64)))),As 11 74])
 (.seq (.reg (some [2,3,4,6,7,11]) [Ro 76 (.load 4 [.int .u64,.int .u64,.int .u64,.int .u64] (.tmp 7)),Mv 77 11,Ca 78 69 [.tmp 76,.tmp 77] (some (.tup [.agg [.int .u64,.int .u64,.int .u64,.int .u64],.one (.int .u64)])),Mv 75 78,Ex 79 75 0,Ex 80 75 1,⟨none,none,.op false (.store 4 (.tmp 7) (.tmp 79))⟩])
 (.seq (.seq (.reg (some [2,3,4,6,7,11]) [Ro 81 (.load 4 [.int .u64,.int .u64,.int .u64,.int .u64] (.tmp 7)),Ro 82 (.build [.int .u64 0,.int .u64 0,.int .u64 0,.int .u64 0] []),Bt 83 .eql 106 81 82])
 (.cond (.tmp 83) (.seq (.reg (some [4]) [Ro 84 (.build [.int .i64 0,.int .i64 0] [(1,1,(.const (.int .i64 1)))]),⟨none,none,.op false (.store 2 (.tmp 4) (.tmp 84))⟩,Ac 5 0])
 .ret)
 .skip))
 (.seq (.draw (some [2,3,4,6,7,11]) 20 [Dr (Fa 85 0 2) 0 [1,2,15,16,17,18,19],Db (L1 86 85) 1 85 [2,15,16,17,18,19],Dr (Bc 87 .lss 2 86 .i64 0) 2 [15,16,17,18,19],Db (Ro 88 (.load 4 [.int .u64,.int .u64,.int .u64,.int .u64] (.tmp 7))) 3 7 [15,16,17,18,19],Dr (Fa 89 1 2) 4 [5,6,8,14,15,16,17,18,19],Db (L1 90 89) 5 89 [6,8,14,15,16,17,18,19],⟨Ro 91 (.convI .u64 (.tmp 90)),6,.cvt (.tmp 90),[8,14,15,16,17,18,19],false,true⟩,Dr (Mv 92 6) 7 [8,14,15,16,17,18,19],Dr (Bt 93 .quo 100 91 92) 8 [14,15,16,17,18,19],Dr (Fa 94 1 3) 9 [10,11,13,14,15,16,17,18,19],Db (L1 95 94) 10 94 [11,13,14,15,16,17,18,19],⟨Ro 96 (.convI .u64 (.tmp 95)),11,.cvt (.tmp 95),[13,14,15,16,17,18,19],false,true⟩,Dr (Mv 97 11) 12 [13,14,15,16,17,18,19],Dr (Bt 98 .quo 100 96 97) 13 [14,15,16,17,18,19],⟨Ca 99 65 [.tmp 93,.tmp 98] (some (.val (.agg [.int .u64,.int .u64,.int .u64,.int .u64]))),14,.all,[15,16,17,18,19],false,false⟩,⟨Ca 100 64 [.tmp 87,.tmp 88,.tmp 99] (some (.tup [.agg [.int .i64,.int .i64],.one (.int .i64)])),15,.all,[16,17,18,19],false,false⟩,Dr (Ex 101 100 0) 16 [18,19],Dr (Ex 102 100 1) 17 [18,19],⟨⟨none,none,.op false (.store 2 (.tmp 4) (.tmp 101))⟩,18,.blk (.tmp 4),[19],true,true⟩,Dr (As 5 102) 19 []])
 .ret))))))))),
 [.agg 4 2 [.int .i64,.int .i64],.tmp 5],
 [],
 []⟩
theorem r43_ok : resFun (progU ()) hint live 43 Try.f43 = some r43:=by kernel_rfl
def r44 : RFun :=
⟨.seq (.reg (some [0]) [Ol 2 (.assign (.const (.slice none 0 0)))])
 (.seq (.reg (some [0]) [Ol 3 (.assign (.const (.slice none 0 0)))])
 (.seq (.seq (.reg (some [0,3]) [Mv 6 0,Ro 7 (.lenS (.tmp 6)),Ol 8 (.move (.const (.int .i64 0)))])
 (.block 0 (.loop 3 none (some [0,3,7,8]))))
 (.seq (.reg (some [3]) [Mv 26 3,As 2 26])
 .ret))),
 [.tmp 2],
 [(3,⟨none,some [0,3,7,8],.seq (.reg (some [0,3,7,8]) [Bt 9 .lss 3 8 7])
 (.seq (.cond (.tmp 9) .skip
 (.exit 0 (some [3])))
 (.seq (.block 1 (.seq (.reg (some [0,3,7,8]) [Mv 10 8,As 4 10])
 (.seq (.reg (some [0,3,4,7,8]) [Mv 11 4,Bc 12 .add 3 11 .i64 1,As 5 12])
 (.block 2 (.loop 6 none (some [0,3,4,5,7,8]))))))
 (.reg (some [0,3,7,8]) [Bc 25 .add 3 8 .i64 1,Mv 8 25])))⟩),(6,⟨none,some [0,3,4,5,7,8],.seq (.seq (.reg (some [0,3,4,5,7,8]) [Mv 13 5,Mv 14 0,Ro 15 (.lenS (.tmp 14)),Bt 16 .lss 3 13 15])
 (.cond (.tmp 16) .skip
 (.exit 2 (some [0,3,7,8]))))
 (.seq (.block 3 (.reg (some [0,3,4,5,7,8]) [Mv 19 3,Mv 20 4,Mv 21 5,Ro 22 (.build [.int .i64 0,.int .i64 0] [(0,1,(.tmp 20)),(1,1,(.tmp 21))]),Ro 23 (.buildSlice 2 1 [.int .i64 0,.int .i64 0] [(0,2,(.tmp 22))]),⟨some 24,none,.op false (.old (.call ⟨.builtin .append,#[.tmp 19,.tmp 23],#[75,75]⟩))⟩,As 3 24]))
 (.reg (some [0,3,4,5,7,8]) [Mv 17 5,Bc 18 .add 3 17 .i64 1,As 5 18]))⟩)],
 []⟩
theorem r44_ok : resFun (progU ()) hint live 44 Try.f44 = some r44:=by kernel_rfl
def r51 : RFun :=
⟨.seq (.reg (some [0,1]) [⟨some 2,none,.op true (.box 2 (.tmp 0))⟩,⟨some 3,none,.op true (.box 2 (.tmp 1))⟩,⟨some 4,none,.op true (.new 2 [.int .i64 0,.int .i64 0])⟩,Ac 5 0])
 (.seq (.seq (.reg (some [2,3,4]) [Ld 7 2,Ld 8 3,Ca 9 77 [.tmp 7,.tmp 8] (some (.val (.one (.int .i64)))),As 6 9])
 (.seq (.reg (some [2,3,4,6]) [Mv 10 6,Bc 11 .neq 23 10 .i64 0])
 (.cond (.tmp 11) (.seq (.reg (some [4,6]) [Ro 12 (.build [.int .i64 0,.int .i64 0] []),Mv 13 6,⟨none,none,.op false (.store 2 (.tmp 4) (.tmp 12))⟩,As 5 13])
 .ret)
 .skip)))
 (.seq (.reg (some [2,3,4]) [Ld 14 2,Fa 15 0 3,L1 16 15,Ol 17 (.unOp .neg 2 (.tmp 16)),Fa 18 1 3,L1 19 18,Ro 20 (.build [.int .i64 0,.int .i64 0] [(0,1,(.tmp 17)),(1,1,(.tmp 19))]),Ca 21 78 [.tmp 14,.tmp 20] (some (.tup [.agg [.int .i64,.int .i64],.one (.int .i64)])),Ex 22 21 0,Ex 23 21 1,⟨none,none,.op false (.store 2 (.tmp 4) (.tmp 22))⟩,As 5 23])
 .ret)),
 [.agg 4 2 [.int .i64,.int .i64],.tmp 5],
 [],
 []⟩
theorem r51_ok : resFun (progU ()) hint live 51 Try.f51 = some r51:=by kernel_rfl
end Go.Proofs.Ytogliemiljhliaa
