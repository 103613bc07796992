import Derived.Test.YtogliemiljhliaaSeat0
import Derived.Test.YtogliemiljhliaaSymS
set_option linter.unusedSimpArgs false
set_option linter.unusedVariables false
namespace Go.Proofs.Ytogliemiljhliaa
open Go.Sim
set_option maxRecDepth 100000
def r37 : RFun :=
⟨.seq (Rg [0] [Ol 2 (.assign (.const (.slice none 0 0)))])
 (.seq (Rg [0] [Mv 8 0,Ca 9 35 [T 8] (some (.val (.one .slice))),As 3 9])
 (.seq (Rg [0,3] [Ol 4 (.assign (.const (.slice none 0 0)))])
 (.seq (.seq (Rg [0,3,4] [Mv 10 0,Ca 11 44 [T 10] (some (.val (.one .slice))),Ro 12 (.lenS (T 11)),Ol 13 (.move (Ci 0))])
 (.block 0 (.loop 4 (some [0,3,4,11,12,13]) (some [0,3,4,11,12,13]))))
 (.seq (Rg [4] [Mv 54 4,As 2 54])
 .ret)))),
 [.tmp 2],
 [(4,⟨some [0,3,4,11,12,13],some [0,3,4,11,12,13],.seq (Rg [0,3,4,11,12,13] [Bt 14 .lss 3 13 12])
 (.seq (.cond (T 14) .skip
 (.exit 0 (some [4])))
 (.seq (.block 1 (.seq (Rg [0,3,4,11,12,13] [Ix 15 2 11 13,Ld 16 15,Nw 6 2 z2,Sr 2 6 16])
 (.seq (Rg [0,3,4,6,11,12,13] [Mv 17 0,Ro 18 (.lenS (T 17)),Mv 19 3,Ro 20 (.lenS (T 19)),Bt 21 .add 3 18 20,Ro 22 (.mkSlice 1 [.int .i64 0] (T 21) (T 21)),As 7 22])
 (.seq (Rg [0,3,4,6,7,11,12,13] [Mv 23 7,Fa 24 0 6,L1 25 24,Ix 26 1 23 25,⟨none,none,.op false (.store 1 (T 26) (Ci 1))⟩])
 (.seq (Rg [0,3,4,6,7,11,12,13] [Mv 27 7,Fa 28 1 6,L1 29 28,Ix 30 1 27 29,⟨none,none,.op false (.store 1 (T 30) (.const (.int .i64 (-1))))⟩])
 (.seq (.draw (some [0,3,4,6,7,11,12,13]) 19 [Dr (Mv 31 7) 0 [17,18],Dr (Mv 32 0) 1 [2,16,17,18],Dr (Ro 33 (.lenS (T 32))) 2 [16,17,18],Dr (Mv 34 3) 3 [15,16,17,18],Dr (Mv 35 0) 4 [7,8,14,15,16,17,18],Dr (Fa 36 1 6) 5 [6,7,8,14,15,16,17,18],Db (L1 37 36) 6 36 [7,8,14,15,16,17,18],Dr (Ix 38 1 35 37) 7 [8,14,15,16,17,18],Db (L1 39 38) 8 38 [14,15,16,17,18],Dr (Mv 40 0) 9 [12,13,14,15,16,17,18],Dr (Fa 41 0 6) 10 [11,12,13,14,15,16,17,18],Db (L1 42 41) 11 41 [12,13,14,15,16,17,18],Dr (Ix 43 1 40 42) 12 [13,14,15,16,17,18],Db (L1 44 43) 13 43 [14,15,16,17,18],Dr (Bt 45 .sub 3 39 44) 14 [15,16,17,18],⟨Ca 46 53 [T 34,T 45] vI,15,.all,[16,17,18],false,false⟩,Dr (Bt 47 .add 3 33 46) 16 [17,18],Dr (Ix 48 1 31 47) 17 [18],⟨⟨none,none,.op false (.store 1 (T 48) (Ci 1))⟩,18,.blk (T 48),[],true,true⟩])
 (Rg [0,3,4,7,11,12,13] [Mv 49 4,Mv 50 7,Ro 51 (.buildSlice 1 1 [.slice none 0 0] [(0,1,(T 50))]),⟨some 52,none,.op false (.old (.call ⟨.builtin .append,#[T 49,T 51],#[28,28]⟩))⟩,As 4 52])))))))
 (Rg [0,3,4,11,12,13] [Bc 53 .add 3 13 .i64 1,Mv 13 53])))⟩)],
 []⟩
theorem r37_ok:resFun (progU ()) hint live 37 Try.f37=some r37:=by kernel_rfl
def r39 : RFun :=
⟨.seq (Rg [0] [Ol 2 (.assign (.const (.slice none 0 0)))])
 (.seq (Rg [0] [Mv 7 0,Mv 8 0,Ca 9 44 [T 8] (some (.val (.one .slice))),Ro 10 (.lenS (T 9)),Ro 11 (.mkSlice 1 [.int .i64 0] (T 10) (T 10)),Ca 12 45 [T 7,T 11] (some (.val (.agg [.slice,.int .i64,.slice,.int .i64]))),Ro 3 (.new 4 [.slice none 0 0,.int .i64 0,.slice none 0 0,.int .i64 0]),Sr 4 3 12])
 (.seq (Rg [3] [Ol 4 (.assign (.const (.slice none 0 0)))])
 (.seq (.seq (Rg [3,4] [Fa 13 1 3,L1 14 13,Ol 15 (.move (Ci 0))])
 (.block 0 (.loop 4 none (some [3,4,14,15]))))
 (.seq (Rg [4] [Mv 34 4,As 2 34])
 .ret)))),
 [.tmp 2],
 [(4,⟨none,some [3,4,14,15],.seq (Rg [3,4,14,15] [Bt 16 .lss 3 15 14])
 (.seq (.cond (T 16) .skip
 (.exit 0 (some [4])))
 (.seq (.block 1 (.seq (Rg [3,4,14,15] [Mv 17 15,As 5 17])
 (.seq (Rg [3,4,5,14,15] [Fa 18 2 3,Ro 19 (.load1 .slice (T 18)),Mv 20 5,Ca 21 60 [T 19,T 20] vB,Ol 22 (.unOp .not 4 (T 21))])
 (.cond (T 22) (.seq (Rg [3,4,5,14,15] [Mv 23 5,Ca 24 46 [T 3,T 23,.const (.int .i64 (-1))] (some (.val (.one .slice))),As 6 24])
 (.seq (Rg [3,4,5,6,14,15] [Mv 25 6,Mv 26 5,Ro 27 (.build z2 [(0,1,(Ci 1)),(1,1,(Ci 1))]),Ix 28 2 25 26,Sr 2 28 27])
 (Rg [3,4,6,14,15] [Mv 29 4,Mv 30 6,Ro 31 (.buildSlice 1 1 [.slice none 0 0] [(0,1,(T 30))]),⟨some 32,none,.op false (.old (.call ⟨.builtin .append,#[T 29,T 31],#[33,33]⟩))⟩,As 4 32])))
 .skip))))
 (Rg [3,4,14,15] [Bc 33 .add 3 15 .i64 1,Mv 15 33])))⟩)],
 []⟩
theorem r39_ok:resFun (progU ()) hint live 39 Try.f39=some r39:=by kernel_rfl
def r42 : RFun :=
⟨.seq (Rg [0,1] [Bo 2 2 0,Bo 3 2 1,Nw 4 2 z2,Ac 5 0])
 (.seq (.seq (Rg [2,3,4] [Ld 8 2,Ld 9 3,Ca 10 55 [T 8,T 9] vI,Bc 11 .neq 3 10 .i64 0])
 (.cond (T 11) (.seq (Rg [2,3,4] [Ro 12 (.build z2 []),Ld 13 2,Ld 14 3,Ca 15 55 [T 13,T 14] vI,Sr 2 4 12,As 5 15])
 .ret)
 .skip))
 (.seq (.draw (some [2,3,4]) 16 [Dr (Fa 16 0 2) 0 [1,2,6,9,13,14,15],Db (L1 17 16) 1 16 [2,6,9,13,14,15],Dr (Fa 19 1 3) 3 [4,5,6,9,13,14,15],Db (L1 20 19) 4 19 [5,6,9,13,14,15],⟨Ro 21 (.convI .u64 (T 20)),5,.cvt (T 20),[6,9,13,14,15],false,true⟩,Dr (Fa 23 0 3) 7 [8,9,13,14,15],Db (L1 24 23) 8 23 [9,13,14,15],Dr (Fa 26 1 2) 10 [11,12,13,14,15],Db (L1 27 26) 11 26 [12,13,14,15],⟨Ro 28 (.convI .u64 (T 27)),12,.cvt (T 27),[13,14,15],false,true⟩,⟨Ca 18 63 [T 17] (some (.val (.one (.int .u64)))),2,.all,[6,9,13,14,15],false,false⟩,⟨Ca 22 62 [T 18,T 21] (some (.val (.one (.int .u64)))),6,.all,[9,13,14,15],false,false⟩,⟨Ca 25 63 [T 24] (some (.val (.one (.int .u64)))),9,.all,[13,14,15],false,false⟩,⟨Ca 29 62 [T 25,T 28] (some (.val (.one (.int .u64)))),13,.all,[14,15],false,false⟩,Dr (As 6 22) 14 [15],Dr (As 7 29) 15 []])
 (.seq (.draw (some [2,3,4,6,7]) 34 [Dr (Fa 30 0 2) 0 [1,2,6,29,30,31,32,33],Db (L1 31 30) 1 30 [2,6,29,30,31,32,33],Dr (Bc 32 .lss 2 31 .i64 0) 2 [6,29,30,31,32,33],Dr (Fa 33 0 3) 3 [4,5,6,29,30,31,32,33],Db (L1 34 33) 4 33 [5,6,29,30,31,32,33],Dr (Bc 35 .lss 2 34 .i64 0) 5 [6,29,30,31,32,33],Dr (Bt 36 .neq 4 32 35) 6 [29,30,31,32,33],Dr (Fa 37 0 2) 7 [8,9,11,14,16,17,28,29,30,31,32,33],Db (L1 38 37) 8 37 [9,11,14,16,17,28,29,30,31,32,33],Dr (Mv 40 6) 10 [11,17,28,29,30,31,32,33],Dr (Fa 42 0 3) 12 [13,14,16,17,28,29,30,31,32,33],Db (L1 43 42) 13 42 [14,16,17,28,29,30,31,32,33],Dr (Mv 45 7) 15 [16,17,28,29,30,31,32,33],Dr (Fa 48 1 2) 18 [19,20,22,28,29,30,31,32,33],Db (L1 49 48) 19 48 [20,22,28,29,30,31,32,33],⟨Ro 50 (.convI .u64 (T 49)),20,.cvt (T 49),[22,28,29,30,31,32,33],false,true⟩,Dr (Mv 51 7) 21 [22,28,29,30,31,32,33],Dr (Bt 52 .quo 100 50 51) 22 [28,29,30,31,32,33],Dr (Fa 53 1 3) 23 [24,25,27,28,29,30,31,32,33],Db (L1 54 53) 24 53 [25,27,28,29,30,31,32,33],⟨Ro 55 (.convI .u64 (T 54)),25,.cvt (T 54),[27,28,29,30,31,32,33],false,true⟩,Dr (Mv 56 6) 26 [27,28,29,30,31,32,33],Dr (Bt 57 .quo 100 55 56) 27 [28,29,30,31,32,33],⟨Ca 39 63 [T 38] (some (.val (.one (.int .u64)))),9,.all,[11,14,16,17,28,29,30,31,32,33],false,false⟩,Dr (Bt 41 .quo 100 39 40) 11 [17,28,29,30,31,32,33],⟨Ca 44 63 [T 43] (some (.val (.one (.int .u64)))),14,.all,[16,17,28,29,30,31,32,33],false,false⟩,Dr (Bt 46 .quo 100 44 45) 16 [17,28,29,30,31,32,33],⟨Ca 47 65 [T 41,T 46] (some (.val (.agg s4))),17,.all,[28,29,30,31,32,33],false,false⟩,⟨Ca 58 65 [T 52,T 57] (some (.val (.agg s4))),28,.all,[29,30,31,32,33],false,false⟩,⟨Ca 59 64 [T 36,T 47,T 58] (some (.tup [.agg s2,.one (.int .i64)])),29,.all,[30,31,32,33],false,false⟩,Dr (Ex 60 59 0) 30 [32,33],Dr (Ex 61 59 1) 31 [32,33],⟨Sr 2 4 60,32,.blk (T 4),[33],true,true⟩,Dr (As 5 61) 33 []])
 .ret))),
 [.agg 4 2 [.int .i64,.int .i64],.tmp 5],
 [],
 []⟩
theorem r42_ok:resFun (progU ()) hint live 42 Try.f42=some r42:=by kernel_rfl
def r43 : RFun :=
⟨.seq (Rg [0,1] [Bo 2 2 0,Bo 3 2 1,Nw 4 2 z2,Ac 5 0])
 (.seq (.seq (Rg [2,3,4] [Ld 12 2,Ld 13 3,Ca 14 55 [T 12,T 13] vI,Bc 15 .neq 3 14 .i64 0])
 (.cond (T 15) (.seq (Rg [2,3,4] [Ro 16 (.build z2 []),Ld 17 2,Ld 18 3,Ca 19 55 [T 17,T 18] vI,Sr 2 4 16,As 5 19])
 .ret)
 .skip))
 (.seq (Rg [2,3,4] [Fa 20 1 2,L1 21 20,Ro 22 (.convI .u64 (T 21)),Fa 23 1 3,L1 24 23,Ro 25 (.convI .u64 (T 24)),Ca 26 62 [T 22,T 25] (some (.val (.one (.int .u64)))),As 6 26])
 (.seq (.draw (some [2,3,4,6]) 22 [Dr (Fa 27 0 2) 0 [1,2,8,11,17,20,21],Db (L1 28 27) 1 27 [2,8,11,17,20,21],Dr (Fa 30 1 3) 3 [4,5,7,8,11,17,20,21],Db (L1 31 30) 4 30 [5,7,8,11,17,20,21],⟨Ro 32 (.convI .u64 (T 31)),5,.cvt (T 31),[7,8,11,17,20,21],false,true⟩,Dr (Mv 33 6) 6 [7,8,11,17,20,21],Dr (Bt 34 .quo 100 32 33) 7 [8,11,17,20,21],Dr (Fa 36 0 3) 9 [10,11,17,20,21],Db (L1 37 36) 10 36 [11,17,20,21],Dr (Fa 39 1 2) 12 [13,14,16,17,20,21],Db (L1 40 39) 13 39 [14,16,17,20,21],⟨Ro 41 (.convI .u64 (T 40)),14,.cvt (T 40),[16,17,20,21],false,true⟩,Dr (Mv 42 6) 15 [16,17,20,21],Dr (Bt 43 .quo 100 41 42) 16 [17,20,21],⟨Nw 7 4 [.int .u64 0,.int .u64 0,.int .u64 0,.int .u64 0],18,.new true,[20,21],false,true⟩,⟨Nw 8 4 [.int .u64 0,.int .u64 0,.int .u64 0,.int .u64 0],19,.new true,[20,21],false,true⟩,⟨Ca 29 63 [T 28] (some (.val (.one (.int .u64)))),2,.all,[8,11,17,20,21],false,false⟩,⟨Ca 35 65 [T 29,T 34] (some (.val (.agg s4))),8,.all,[11,17,20,21],false,false⟩,⟨Ca 38 63 [T 37] (some (.val (.one (.int .u64)))),11,.all,[17,20,21],false,false⟩,⟨Ca 44 65 [T 38,T 43] (some (.val (.agg s4))),17,.all,[20,21],false,false⟩,⟨Sr 4 7 35,20,.blk (T 7),[21],true,true⟩,⟨Sr 4 8 44,21,.blk (T 8),[],true,true⟩])
 (.seq (.seq (Rg [2,3,4,6,7,8] [Fa 45 0 2,L1 46 45,Bc 47 .lss 2 46 .i64 0,Fa 48 0 3,L1 49 48,Bc 50 .lss 2 49 .i64 0,Bt 51 .eql 4 47 50])
 (.cond (T 51) (Rg [2,3,4,6,7,8] [Ro 52 (.load 4 s4 (T 7)),Ro 53 (.load 4 s4 (T 8)),Ca 54 66 [T 52,T 53] (some (.val (.agg s4))),Sr 4 7 54])
 (.seq (Rg [2,3,4,6,7,8] [Ro 55 (.load 4 s4 (T 7)),Ro 56 (.load 4 s4 (T 8)),Ca 57 67 [T 55,T 56] vB])
 (.cond (T 57) (.draw (some [2,3,4,6,7,8]) 8 [Db (Ro 58 (.load 4 s4 (T 8))) 0 8 [2,5,6,7],Db (Ro 59 (.load 4 s4 (T 7))) 1 7 [2,5,6,7],Db (Ld 61 3) 3 3 [6,7],Db (Ld 62 2) 4 2 [5,6,7],⟨Ca 60 68 [T 58,T 59] (some (.val (.agg s4))),2,.all,[5,6,7],false,false⟩,⟨Sr 4 7 60,5,.blk (T 7),[6,7],true,true⟩,⟨Sr 2 2 61,6,.blk (T 2),[7],true,true⟩,⟨Sr 2 3 62,7,.blk (T 3),[],true,true⟩])
 (Rg [2,3,4,6,7,8] [Ro 63 (.load 4 s4 (T 7)),Ro 64 (.load 4 s4 (T 8)),Ca 65 68 [T 63,T 64] (some (.val (.agg s4))),Sr 4 7 65])))))
 (.seq (Rg [2,3,4,6,7] [Ro 67 (.load 4 s4 (T 7)),Mv 68 6,Ca 69 69 [T 67,T 68] (some (.tup [.agg s4,.one (.int .u64)])),Mv 66 69,Ex 70 66 0,Ex 71 66 1,Nw 9 4 [.int .u64 0,.int .u64 0,.int .u64 0,.int .u64 0],Sr 4 9 70,As 10 71])
 (.seq (Rg [2,3,4,6,7,10] [Mv 72 10,Mv 73 6,Ca 74 62 [T 72,T 73] (some (.val (.one (.int .u64)))),As 11 74])
 (.seq (Rg [2,3,4,6,7,11] [Ro 76 (.load 4 s4 (T 7)),Mv 77 11,Ca 78 69 [T 76,T 77] (some (.tup [.agg s4,.one (.int .u64)])),Mv 75 78,Ex 79 75 0,Ex 80 75 1,Sr 4 7 79])
 (.seq (.seq (Rg [2,3,4,6,7,11] [Ro 81 (.load 4 s4 (T 7)),Ro 82 (.build [.int .u64 0,.int .u64 0,.int .u64 0,.int .u64 0] []),Bt 83 .eql 106 81 82])
 (.cond (T 83) (.seq (Rg [4] [Ro 84 (.build z2 [(1,1,(Ci 1))]),Sr 2 4 84,Ac 5 0])
 .ret)
 .skip))
 (.seq (.draw (some [2,3,4,6,7,11]) 20 [Dr (Fa 85 0 2) 0 [1,2,15,16,17,18,19],Db (L1 86 85) 1 85 [2,15,16,17,18,19],Dr (Bc 87 .lss 2 86 .i64 0) 2 [15,16,17,18,19],Db (Ro 88 (.load 4 s4 (T 7))) 3 7 [15,16,17,18,19],Dr (Fa 89 1 2) 4 [5,6,8,14,15,16,17,18,19],Db (L1 90 89) 5 89 [6,8,14,15,16,17,18,19],⟨Ro 91 (.convI .u64 (T 90)),6,.cvt (T 90),[8,14,15,16,17,18,19],false,true⟩,Dr (Mv 92 6) 7 [8,14,15,16,17,18,19],Dr (Bt 93 .quo 100 91 92) 8 [14,15,16,17,18,19],Dr (Fa 94 1 3) 9 [10,11,13,14,15,16,17,18,19],Db (L1 95 94) 10 94 [11,13,14,15,16,17,18,19],⟨Ro 96 (.convI .u64 (T 95)),11,.cvt (T 95),[13,14,15,16,17,18,19],false,true⟩,Dr (Mv 97 11) 12 [13,14,15,16,17,18,19],Dr (Bt 98 .quo 100 96 97) 13 [14,15,16,17,18,19],⟨Ca 99 65 [T 93,T 98] (some (.val (.agg s4))),14,.all,[15,16,17,18,19],false,false⟩,⟨Ca 100 64 [T 87,T 88,T 99] (some (.tup [.agg s2,.one (.int .i64)])),15,.all,[16,17,18,19],false,false⟩,Dr (Ex 101 100 0) 16 [18,19],Dr (Ex 102 100 1) 17 [18,19],⟨Sr 2 4 101,18,.blk (T 4),[19],true,true⟩,Dr (As 5 102) 19 []])
 .ret))))))))),
 [.agg 4 2 [.int .i64,.int .i64],.tmp 5],
 [],
 []⟩
theorem r43_ok:resFun (progU ()) hint live 43 Try.f43=some r43:=by kernel_rfl
def r44 : RFun :=
⟨.seq (Rg [0] [Ol 2 (.assign (.const (.slice none 0 0)))])
 (.seq (Rg [0] [Ol 3 (.assign (.const (.slice none 0 0)))])
 (.seq (.seq (Rg [0,3] [Mv 6 0,Ro 7 (.lenS (T 6)),Ol 8 (.move (Ci 0))])
 (.block 0 (.loop 3 none (some [0,3,7,8]))))
 (.seq (Rg [3] [Mv 26 3,As 2 26])
 .ret))),
 [.tmp 2],
 [(3,⟨none,some [0,3,7,8],.seq (Rg [0,3,7,8] [Bt 9 .lss 3 8 7])
 (.seq (.cond (T 9) .skip
 (.exit 0 (some [3])))
 (.seq (.block 1 (.seq (Rg [0,3,7,8] [Mv 10 8,As 4 10])
 (.seq (Rg [0,3,4,7,8] [Mv 11 4,Bc 12 .add 3 11 .i64 1,As 5 12])
 (.block 2 (.loop 6 none (some [0,3,4,5,7,8]))))))
 (Rg [0,3,7,8] [Bc 25 .add 3 8 .i64 1,Mv 8 25])))⟩),(6,⟨none,some [0,3,4,5,7,8],.seq (.seq (Rg [0,3,4,5,7,8] [Mv 13 5,Mv 14 0,Ro 15 (.lenS (T 14)),Bt 16 .lss 3 13 15])
 (.cond (T 16) .skip
 (.exit 2 (some [0,3,7,8]))))
 (.seq (.block 3 (Rg [0,3,4,5,7,8] [Mv 19 3,Mv 20 4,Mv 21 5,Ro 22 (.build z2 [(0,1,(T 20)),(1,1,(T 21))]),Ro 23 (.buildSlice 2 1 z2 [(0,2,(T 22))]),⟨some 24,none,.op false (.old (.call ⟨.builtin .append,#[T 19,T 23],#[75,75]⟩))⟩,As 3 24]))
 (Rg [0,3,4,5,7,8] [Mv 17 5,Bc 18 .add 3 17 .i64 1,As 5 18]))⟩)],
 []⟩
theorem r44_ok:resFun (progU ()) hint live 44 Try.f44=some r44:=by kernel_rfl
def r45 : RFun :=
⟨.seq (Rg [0,1] [Nw 4 4 [.slice none 0 0,.int .i64 0,.slice none 0 0,.int .i64 0]])
 (.seq (Rg [0,1,4] [Ro 14 (.build [.slice none 0 0,.int .i64 0,.slice none 0 0,.int .i64 0] [(3,1,(Ci 1))]),Ro 5 (.new 4 [.slice none 0 0,.int .i64 0,.slice none 0 0,.int .i64 0]),Sr 4 5 14])
 (.seq (.seq (Rg [0,1,4,5] [Mv 15 0,Ca 16 37 [T 15] (some (.val (.one .slice))),Ro 17 (.lenS (T 16)),Ol 18 (.move (Ci 0))])
 (.block 0 (.loop 3 (some [1,4,5,16,17,18]) (some [1,4,5,16,17,18]))))
 (.seq (.seq (Rg [4,5] [Ro 11 (.new 1 [.int .i64 0]),⟨none,none,.op false (.store 1 (T 11) (Ci 0))⟩])
 (.block 4 (.loop 15 (some [4,5,11]) (some [4,5,11]))))
 (.seq (Rg [4,5] [Ro 121 (.load 4 [.slice,.int .i64,.slice,.int .i64] (T 5)),Sr 4 4 121])
 .ret)))),
 [.agg 4 4 [.slice,.int .i64,.slice,.int .i64]],
 [(3,⟨some [1,4,5,16,17,18],some [1,4,5,16,17,18],.seq (Rg [1,4,5,16,17,18] [Bt 19 .lss 3 18 17])
 (.seq (.cond (T 19) .skip
 (.exit 0 (some [4,5])))
 (.seq (.block 1 (.seq (Rg [1,4,5,16,17,18] [Mv 20 18,Ix 21 1 16 18,Ro 22 (.load1 .slice (T 21)),As 6 20,As 7 22])
 (.seq (Rg [1,4,5,6,7,16,17,18] [Mv 23 7,Ro 24 (.lenS (T 23)),Fa 25 1 5,Sr 1 25 24])
 (.seq (Rg [1,4,5,6,7,16,17,18] [Fa 26 1 5,L1 27 26,Bc 28 .add 3 27 .i64 1,Ro 29 (.mkSlice 1 [.int .i64 0] (Ci 0) (T 28)),As 8 29])
 (.seq (.seq (Rg [1,4,5,6,7,8,16,17,18] [Mv 30 7,Ro 31 (.lenS (T 30)),Ol 32 (.move (Ci 0))])
 (.block 2 (.loop 8 none (some [1,4,5,6,8,16,17,18,30,31,32]))))
 (.draw (some [1,4,5,6,8,16,17,18]) 13 [Dr (Fa 41 0 5) 0 [1,10,11,12],Db (Ro 42 (.load1 .slice (T 41))) 1 41 [10,11,12],Dr (Mv 43 8) 2 [8,9,10,11,12],Dr (Mv 44 1) 3 [5,6,7,8,9,10,11,12],Dr (Mv 45 6) 4 [5,6,7,8,9,10,11,12],Dr (Ix 46 1 44 45) 5 [6,7,8,9,10,11,12],Db (L1 47 46) 6 46 [7,8,9,10,11,12],⟨Ro 48 (.buildSlice 1 1 [.int .i64 0] [(0,1,(T 47))]),7,.new false,[8,9,10,11,12],false,true⟩,⟨⟨some 49,none,.op false (.old (.call ⟨.builtin .append,#[T 43,T 48],#[81,81]⟩))⟩,8,.app [T 43,T 48],[9,10,11,12],false,false⟩,⟨Ro 50 (.buildSlice 1 1 [.slice none 0 0] [(0,1,(T 49))]),9,.new false,[10,11,12],false,true⟩,⟨⟨some 51,none,.op false (.old (.call ⟨.builtin .append,#[T 42,T 50],#[77,77]⟩))⟩,10,.app [T 42,T 50],[11,12],false,false⟩,Dr (Fa 52 0 5) 11 [12],⟨Sr 1 52 51,12,.blk (T 52),[],true,true⟩]))))))
 (Rg [1,4,5,16,17,18] [Bc 53 .add 3 18 .i64 1,Mv 18 53])))⟩),(8,⟨none,some [1,4,5,6,8,16,17,18,30,31,32],.seq (Rg [1,4,5,6,8,16,17,18,30,31,32] [Bt 33 .lss 3 32 31])
 (.seq (.cond (T 33) .skip
 (.exit 2 (some [1,4,5,6,8,16,17,18])))
 (.seq (.block 3 (.seq (Rg [1,4,5,6,8,16,17,18,30,31,32] [Ix 34 1 30 32,L1 35 34,As 10 35])
 (Rg [1,4,5,6,8,10,16,17,18,30,31,32] [Mv 36 8,Mv 37 10,Ro 38 (.buildSlice 1 1 [.int .i64 0] [(0,1,(T 37))]),⟨some 39,none,.op false (.old (.call ⟨.builtin .append,#[T 36,T 38],#[81,81]⟩))⟩,As 8 39])))
 (Rg [1,4,5,6,8,16,17,18,30,31,32] [Bc 40 .add 3 32 .i64 1,Mv 32 40])))⟩),(15,⟨some [4,5,11],some [4,5,11],.seq (.seq (Rg [4,5,11] [L1 54 11,Fa 55 1 5,L1 56 55,Bt 57 .lss 3 54 56,Mv 58 57,Ht 59 58 (.fieldAddr 2 (T 5)),Ht 60 58 (.load1 .slice (T 59)),Ht 61 58 (.lenS (T 60)),Ht 62 58 (.fieldAddr 0 (T 5)),Ht 63 58 (.load1 .slice (T 62)),Ht 64 58 (.lenS (T 63)),Gt 65 58 (.binOp .lss 3 (T 61) (T 64) 3),Ol 66 (.pick (T 58) (T 65) (.const (.bool false)))])
 (.cond (T 66) .skip
 (.exit 4 (some [4,5]))))
 (.seq (.block 5 (.seq (Rg [4,5,11] [Fa 69 2 5,Ro 70 (.load1 .slice (T 69)),Ro 71 (.lenS (T 70)),As 12 71])
 (.seq (Rg [4,5,11,12] [Fa 72 0 5,Ro 73 (.load1 .slice (T 72)),Mv 74 12,Ro 75 (.cutS 77 (T 73) (some (T 74)) none none),Ol 76 (.makeFunc (.func 71) #[] #[T 11]),Ca 77 70 [T 75,T 76] vI,As 13 77])
 (.seq (.seq (Rg [4,5,11,12,13] [Mv 78 13,Bc 79 .lss 3 78 .i64 0])
 (.cond (T 79) (.exit 5 (some [4,5,11]))
 .skip))
 (.seq (.draw (some [4,5,11,12,13]) 24 [Dr (Fa 80 0 5) 0 [1,20,21,22,23],Db (Ro 81 (.load1 .slice (T 80))) 1 80 [20,21,22,23],Dr (Mv 82 12) 2 [20,21,22,23],Dr (Fa 83 0 5) 3 [4,20,21,22,23],Db (Ro 84 (.load1 .slice (T 83))) 4 83 [20,21,22,23],Dr (Mv 85 12) 5 [7,22,23],Dr (Mv 86 13) 6 [7,22,23],Dr (Bt 87 .add 3 85 86) 7 [22,23],Dr (Fa 88 0 5) 8 [9,13,14,20,21,22,23],Db (Ro 89 (.load1 .slice (T 88))) 9 88 [13,14,20,21,22,23],Dr (Mv 90 12) 10 [12,13,14,20,21,22,23],Dr (Mv 91 13) 11 [12,13,14,20,21,22,23],Dr (Bt 92 .add 3 90 91) 12 [13,14,20,21,22,23],Dr (Ix 93 1 89 92) 13 [14,20,21,22,23],Db (Ro 94 (.load1 .slice (T 93))) 14 93 [20,21,22,23],Dr (Fa 95 0 5) 15 [16,18,19,20,21,22,23],Db (Ro 96 (.load1 .slice (T 95))) 16 95 [18,19,20,21,22,23],Dr (Mv 97 12) 17 [18,19,20,21,22,23],Dr (Ix 98 1 96 97) 18 [19,20,21,22,23],Db (Ro 99 (.load1 .slice (T 98))) 19 98 [20,21,22,23],Dr (Ix 100 1 81 82) 20 [21,22,23],⟨Sr 1 100 94,21,.blk (T 100),[22,23],true,true⟩,Dr (Ix 101 1 84 87) 22 [23],⟨Sr 1 101 99,23,.blk (T 101),[],true,true⟩])
 (.seq (Rg [4,5,11,12] [Mv 102 12,L1 103 11,Ca 104 72 [T 5,T 102,T 103] (some (.tup []))])
 (.seq (Rg [4,5,11,12] [Fa 105 2 5,Ro 106 (.load1 .slice (T 105)),L1 107 11,Ro 108 (.buildSlice 1 1 [.int .i64 0] [(0,1,(T 107))]),⟨some 109,none,.op false (.old (.call ⟨.builtin .append,#[T 106,T 108],#[22,22]⟩))⟩,Fa 110 2 5,Sr 1 110 109])
 (.draw (some [4,5,11,12]) 10 [Dr (Fa 111 0 5) 0 [1,3,4,6,7,8,9],Db (Ro 112 (.load1 .slice (T 111))) 1 111 [3,4,6,7,8,9],Dr (Mv 113 12) 2 [3,4,6,7,8,9],Dr (Ix 114 1 112 113) 3 [4,6,7,8,9],Db (Ro 115 (.load1 .slice (T 114))) 4 114 [6,7,8,9],Db (L1 116 11) 5 11 [6,7,8,9],Dr (Ix 117 1 115 116) 6 [7,8,9],Db (L1 118 117) 7 117 [8,9],Dr (Fa 119 3 5) 8 [9],⟨Sr 1 119 118,9,.blk (T 119),[],true,true⟩]))))))))
 (.seq (.seq (Rg [4,5,11] [L1 120 11])
 (Rg [4,5,120] [Ro 11 (.new 1 [.int .i64 0]),Sr 1 11 120]))
 (Rg [4,5,11] [L1 67 11,Bc 68 .add 3 67 .i64 1,Sr 1 11 68])))⟩)],
 []⟩
theorem r45_ok:resFun (progU ()) hint live 45 Try.f45=some r45:=by kernel_rfl
def r46 : RFun :=
⟨.seq (Rg [0,1,2] [Ol 6 (.assign (.const (.slice none 0 0)))])
 (.seq (Rg [0,1,2] [Mv 12 0,Ol 13 (.nilCheck (T 12)),Fa 14 1 13,L1 15 14,Ca 16 73 [T 15] (some (.val (.one .slice))),As 7 16])
 (.seq (.seq (Rg [0,1,2,7] [Mv 17 0,Ol 18 (.nilCheck (T 17)),Fa 19 2 18,Ro 20 (.load1 .slice (T 19)),Ro 21 (.lenS (T 20)),Ol 22 (.move (Ci 0))])
 (.block 0 (.loop 3 (some [0,1,2,7,20,21,22]) (some [0,1,2,7,20,21,22]))))
 (.seq (Rg [7] [Mv 54 7,As 6 54])
 .ret))),
 [.tmp 6],
 [(3,⟨some [0,1,2,7,20,21,22],some [0,1,2,7,20,21,22],.seq (Rg [0,1,2,7,20,21,22] [Bt 23 .lss 3 22 21])
 (.seq (.cond (T 23) .skip
 (.exit 0 (some [7])))
 (.seq (.block 1 (.seq (Rg [0,1,2,7,20,21,22] [Mv 24 22,Ix 25 1 20 22,L1 26 25,As 8 24,As 9 26])
 (.seq (.draw (some [0,1,2,7,8,9,20,21,22]) 23 [Dr (Mv 28 2) 0 [11,16,17,18,19,21,22],Dr (Mv 29 0) 1 [2,3,4,6,7,9,10,11,16,17,18,19,21,22],Dr (Ol 30 (.nilCheck (T 29))) 2 [3,4,6,7,9,10,11,16,17,18,19,21,22],Dr (Fa 31 0 30) 3 [4,6,7,9,10,11,16,17,18,19,21,22],Db (Ro 32 (.load1 .slice (T 31))) 4 31 [6,7,9,10,11,16,17,18,19,21,22],Dr (Mv 33 8) 5 [6,7,9,10,11,16,17,18,19,21,22],Dr (Ix 34 1 32 33) 6 [7,9,10,11,16,17,18,19,21,22],Db (Ro 35 (.load1 .slice (T 34))) 7 34 [9,10,11,16,17,18,19,21,22],Dr (Mv 36 1) 8 [9,10,11,16,17,18,19,21,22],Dr (Ix 37 1 35 36) 9 [10,11,16,17,18,19,21,22],Db (L1 38 37) 10 37 [11,16,17,18,19,21,22],Dr (Bt 39 .mul 2 28 38) 11 [16,17,18,19,21,22],Dr (Mv 40 0) 12 [13,14,15,16,17,18,19,21,22],Dr (Ol 41 (.nilCheck (T 40))) 13 [14,15,16,17,18,19,21,22],Dr (Fa 42 3 41) 14 [15,16,17,18,19,21,22],Db (L1 43 42) 15 42 [16,17,18,19,21,22],⟨Nw 10 2 z2,20,.new true,[21,22],false,true⟩,⟨Ca 44 74 [T 39,T 43] (some (.tup [.agg s2,.one (.int .i64)])),16,.all,[17,18,19,21,22],false,false⟩,Dr (Mv 27 44) 17 [18,19,21,22],Dr (Ex 45 27 0) 18 [21,22],Dr (Ex 46 27 1) 19 [22],⟨Sr 2 10 45,21,.blk (T 10),[22],true,true⟩,Dr (As 11 46) 22 []])
 (.seq (Rg [0,1,2,7,9,10,11,20,21,22] [Mv 47 11,Bc 48 .eql 23 47 .i64 0])
 (.cond (T 48) (Rg [0,1,2,7,9,10,20,21,22] [Mv 49 7,Mv 50 9,Ld 51 10,Ix 52 2 49 50,Sr 2 52 51])
 .skip)))))
 (Rg [0,1,2,7,20,21,22] [Bc 53 .add 3 22 .i64 1,Mv 22 53])))⟩)],
 []⟩
theorem r46_ok:resFun (progU ()) hint live 46 Try.f46=some r46:=by kernel_rfl
def r47 : RFun :=
⟨.seq (Rg [0] [Ol 2 (.assign (.const (.slice none 0 0)))])
 (.seq (.seq (Rg [0] [Mv 3 0,Ol 4 (.binOp .eql 50 (T 3) (.const (.slice none 0 0)) 50)])
 (.cond (T 4) (.seq (Rg [] [Ol 2 (.assign (.const (.slice none 0 0)))])
 .ret)
 .skip))
 (.seq (Rg [0] [Ro 5 (.buildSlice 2 0 [] []),Mv 6 0,⟨some 7,none,.op false (.old (.call ⟨.builtin .append,#[T 5,T 6],#[50,50]⟩))⟩,As 2 7])
 .ret)),
 [.tmp 2],
 [],
 []⟩
theorem r47_ok:resFun (progU ()) hint live 47 Try.f47=some r47:=by kernel_rfl
def r50 : RFun :=
⟨.seq (Rg [0,1] [Ol 4 (.assign (.const (.bool false)))])
 (.seq (.seq (Rg [0,1] [Mv 7 0,Ro 8 (.lenS (T 7)),Mv 9 1,Bt 10 .neq 3 8 9])
 (.cond (T 10) (.seq (Rg [] [Ol 4 (.assign (.const (.bool false)))])
 .ret)
 .skip))
 (.seq (.seq (Rg [0] [Mv 11 0,Ro 12 (.lenS (T 11)),Ol 13 (.move (Ci 0))])
 (.block 0 (.loop 4 (some [11,12,13]) (some [11,12,13]))))
 (.seq (Rg [] [Ol 4 (.assign (.const (.bool true)))])
 .ret))),
 [.tmp 4],
 [(4,⟨some [11,12,13],some [11,12,13],.seq (Rg [11,12,13] [Bt 14 .lss 3 13 12])
 (.seq (.cond (T 14) .skip
 (.exit 0 (some [])))
 (.seq (.block 1 (.seq (Rg [11,12,13] [Ix 15 2 11 13,Ld 16 15,Nw 6 2 z2,Sr 2 6 16])
 (.seq (Rg [6,11,12,13] [Ld 17 6,Ca 18 76 [T 17] vI,Bc 19 .neq 23 18 .i64 0,Mv 20 19,Hf 21 20 (.fieldAddr 1 (T 6)),Hf 22 20 (.load1 (.int .i64) (T 21)),Gf 23 20 (.binOp .gtr 2 (T 22) (Ci 1000) 2),Ol 24 (.pick (T 20) (.const (.bool true)) (T 23)),Mv 25 24,Hf 26 25 (.fieldAddr 0 (T 6)),Hf 27 25 (.load1 (.int .i64) (T 26)),Gf 28 25 (.binOp .lss 2 (T 27) (.const (.int .i64 (-1000000))) 2),Ol 29 (.pick (T 25) (.const (.bool true)) (T 28)),Mv 30 29,Hf 31 30 (.fieldAddr 0 (T 6)),Hf 32 30 (.load1 (.int .i64) (T 31)),Gf 33 30 (.binOp .gtr 2 (T 32) (Ci 1000000) 2),Ol 34 (.pick (T 30) (.const (.bool true)) (T 33))])
 (.cond (T 34) (.seq (Rg [] [Ol 4 (.assign (.const (.bool false)))])
 .ret)
 .skip))))
 (Rg [11,12,13] [Bc 35 .add 3 13 .i64 1,Mv 13 35])))⟩)],
 []⟩
theorem r50_ok:resFun (progU ()) hint live 50 Try.f50=some r50:=by kernel_rfl
def r51 : RFun :=
⟨.seq (Rg [0,1] [Bo 2 2 0,Bo 3 2 1,Nw 4 2 z2,Ac 5 0])
 (.seq (.seq (Rg [2,3,4] [Ld 7 2,Ld 8 3,Ca 9 77 [T 7,T 8] vI,As 6 9])
 (.seq (Rg [2,3,4,6] [Mv 10 6,Bc 11 .neq 23 10 .i64 0])
 (.cond (T 11) (.seq (Rg [4,6] [Ro 12 (.build z2 []),Mv 13 6,Sr 2 4 12,As 5 13])
 .ret)
 .skip)))
 (.seq (Rg [2,3,4] [Ld 14 2,Fa 15 0 3,L1 16 15,Ol 17 (.unOp .neg 2 (T 16)),Fa 18 1 3,L1 19 18,Ro 20 (.build z2 [(0,1,(T 17)),(1,1,(T 19))]),Ca 21 78 [T 14,T 20] (some (.tup [.agg s2,.one (.int .i64)])),Ex 22 21 0,Ex 23 21 1,Sr 2 4 22,As 5 23])
 .ret)),
 [.agg 4 2 [.int .i64,.int .i64],.tmp 5],
 [],
 []⟩
theorem r51_ok:resFun (progU ()) hint live 51 Try.f51=some r51:=by kernel_rfl
