import Derived.Test.YtdpbiegfljmhmaaSeat0
import Derived.Test.YtdpbiegfljmhmaaSymS
set_option linter.unusedSimpArgs false
set_option linter.unusedVariables false
namespace Go.Proofs.Ytdpbiegfljmhmaa
open Go.Sim
set_option maxRecDepth 100000
def r53 : RFun :=
⟨.seq (Rg [0,1] [Ac 4 0])
 (.seq (Rg [0,1] [Ac 5 0])
 (.seq (.seq (Rg [0,1,5] [Mv 8 0,Ro 9 (.lenS (T 8)),Ol 10 (.binOp .shl 3 (Ci 1) (T 9) 3),Ol 11 (.move (Ci 0))])
 (.block 0 (.loop 3 none (some [0,1,5,10,11]))))
 (.seq (Rg [5] [Mv 41 5,As 4 41])
 .ret))),
 [.tmp 4],
 [(3,⟨none,some [0,1,5,10,11],.seq (Rg [0,1,5,10,11] [Bt 12 .lss 3 11 10])
 (.seq (.cond (T 12) .skip
 (.exit 0 (some [5])))
 (.seq (.block 1 (.seq (Rg [0,1,5,10,11] [Mv 13 11,As 6 13])
 (.seq (.seq (Rg [0,1,5,6,10,11] [Mv 14 6,Ro 15 (.convI .u64 (T 14)),Ca 16 79 [T 15] vI,Mv 17 1,Bt 18 .neq 3 16 17])
 (.cond (T 18) (.exit 1 (some [0,1,5,10,11]))
 .skip))
 (.seq (Rg [0,1,5,6,10,11] [Mv 19 0,Ro 20 (.ixS 1 (T 19) (Ci 0)),Ro 21 (.load1 .slice (T 20)),Ro 22 (.lenS (T 21)),Ol 23 (.binOp .shl 3 (Ci 1) (T 22) 3),Ol 24 (.move (Ci 0))])
 (.block 2 (.loop 7 none (some [0,1,5,6,10,11,23,24])))))))
 (Rg [0,1,5,10,11] [Bc 40 .add 3 11 .i64 1,Mv 11 40])))⟩),(7,⟨none,some [0,1,5,6,10,11,23,24],.seq (Rg [0,1,5,6,10,11,23,24] [Bt 25 .lss 3 24 23])
 (.seq (.cond (T 25) .skip
 (.exit 2 (some [0,1,5,10,11])))
 (.seq (.block 3 (.seq (Rg [0,1,5,6,10,11,23,24] [Mv 26 24,As 7 26])
 (.seq (Rg [0,1,5,6,7,10,11,23,24] [Mv 27 7,Ro 28 (.convI .u64 (T 27)),Ca 29 79 [T 28] vI,Mv 30 1,Bt 31 .eql 3 29 30])
 (.cond (T 31) (Rg [0,1,5,6,7,10,11,23,24] [Mv 32 5,Mv 33 0,Mv 34 6,Mv 35 7,Ca 36 80 [T 33,T 34,T 35] (some (.val (.one .ptr))),Ca 37 81 [T 36] vI,Ca 38 67 [T 32,T 37] vI,As 5 38])
 .skip))))
 (Rg [0,1,5,6,10,11,23,24] [Bc 39 .add 3 24 .i64 1,Mv 24 39])))⟩)],
 []⟩
theorem r53_ok:resFun (progU ()) hint live 53 Try.f53=some r53:=by kernel_rfl
def r54 : RFun :=
⟨.seq (Rg [0,1] [Ac 4 0])
 (.seq (Rg [0,1] [Ac 5 0])
 (.seq (.draw (some [0,1,5]) 12 [Dr (Mv 10 0) 0 [1,3,9,10,11],Dr (Ro 11 (.lenS (T 10))) 1 [3,9,10,11],Dr (Mv 12 1) 2 [3,9,10,11],Dr (Mv 14 0) 4 [5,6,7,9,10,11],Dr (Ro 15 (.ixS 1 (T 14) (Ci 0))) 5 [6,7,9,10,11],Db (Ro 16 (.load1 .slice (T 15))) 6 15 [7,9,10,11],Dr (Ro 17 (.lenS (T 16))) 7 [9,10,11],Dr (Mv 18 1) 8 [9,10,11],⟨Ca 13 82 [.const (.int .i64 0),T 11,T 12] (some (.val (.one .slice))),3,.all,[9,10,11],false,false⟩,⟨Ca 19 82 [.const (.int .i64 0),T 17,T 18] (some (.val (.one .slice))),9,.all,[10,11],false,false⟩,Dr (As 6 13) 10 [11],Dr (As 7 19) 11 []])
 (.seq (.seq (Rg [0,5,6,7] [Ac 8 0])
 (.block 0 (.loop 4 (some [0,5,6,7,8]) (some [0,5,6,7,8]))))
 (.seq (Rg [5] [Mv 44 5,As 4 44])
 .ret)))),
 [.tmp 4],
 [(4,⟨some [0,5,6,7,8],some [0,5,6,7,8],.seq (.seq (Rg [0,5,6,7,8] [Mv 20 8,Mv 21 6,Ro 22 (.lenS (T 21)),Bt 23 .lss 3 20 22])
 (.cond (T 23) .skip
 (.exit 0 (some [5]))))
 (.seq (.block 1 (.seq (Rg [0,5,6,7,8] [Ac 9 0])
 (.block 2 (.loop 7 (some [0,5,6,7,8,9]) (some [0,5,6,7,8,9])))))
 (Rg [0,5,6,7,8] [Mv 24 8,Bc 25 .add 3 24 .i64 1,As 8 25]))⟩),(7,⟨some [0,5,6,7,8,9],some [0,5,6,7,8,9],.seq (.seq (Rg [0,5,6,7,8,9] [Mv 26 9,Mv 27 7,Ro 28 (.lenS (T 27)),Bt 29 .lss 3 26 28])
 (.cond (T 29) .skip
 (.exit 2 (some [0,5,6,7,8]))))
 (.seq (.block 3 (.draw (some [0,5,6,7,8,9]) 13 [Dr (Mv 32 5) 0 [11,12],Dr (Mv 33 0) 1 [10,11,12],Dr (Mv 34 6) 2 [4,5,10,11,12],Dr (Mv 35 8) 3 [4,5,10,11,12],Dr (Ix 36 1 34 35) 4 [5,10,11,12],Db (Ro 37 (.load1 .slice (T 36))) 5 36 [10,11,12],Dr (Mv 38 7) 6 [8,9,10,11,12],Dr (Mv 39 9) 7 [8,9,10,11,12],Dr (Ix 40 1 38 39) 8 [9,10,11,12],Db (Ro 41 (.load1 .slice (T 40))) 9 40 [10,11,12],⟨Ca 42 84 [T 33,T 37,T 41] vI,10,.all,[11,12],false,false⟩,⟨Ca 43 83 [T 32,T 42] vI,11,.all,[12],false,false⟩,Dr (As 5 43) 12 []]))
 (Rg [0,5,6,7,8,9] [Mv 30 9,Bc 31 .add 3 30 .i64 1,As 9 31]))⟩)],
 []⟩
theorem r54_ok:resFun (progU ()) hint live 54 Try.f54=some r54:=by kernel_rfl
def r55 : RFun :=
⟨.seq (Rg [0] [Ol 2 (.assign (.const (.slice none 0 0)))])
 (.seq (Rg [0] [Ro 3 (.new 1 [.slice none 0 0])])
 (.seq (.seq (Rg [0,3] [Mv 7 0,Ro 8 (.lenS (T 7)),Ol 9 (.move (Ci 0))])
 (.block 0 (.loop 3 none (some [0,3,7,8,9]))))
 (.seq (Rg [3] [Fa 28 0 3,Ro 29 (.load1 .slice (T 28)),As 2 29])
 .ret))),
 [.tmp 2],
 [(3,⟨none,some [0,3,7,8,9],.seq (Rg [0,3,7,8,9] [Bt 10 .lss 3 9 8])
 (.seq (.cond (T 10) .skip
 (.exit 0 (some [3])))
 (.seq (.block 1 (.seq (Rg [0,3,7,8,9] [Mv 11 9,Ix 12 1 7 9,Ro 13 (.load1 .slice (T 12)),As 4 11,As 5 13])
 (.seq (Rg [0,3,4,5,7,8,9] [Mv 14 5,Ca 15 57 [T 14] (some (.val (.one .slice))),Mv 16 0,Ro 17 (.lenS (T 16)),⟨some 18,none,.op false (.old (.call ⟨.builtin .append,#[T 15,T 17],#[27,3]⟩))⟩,As 6 18])
 (.seq (Rg [0,3,4,5,6,7,8,9] [Mv 19 6,Mv 20 5,Ro 21 (.lenS (T 20)),Mv 22 4,Bt 23 .add 3 21 22,Ix 24 1 19 23,⟨none,none,.op false (.store 1 (T 24) (Ci 1))⟩])
 (Rg [0,3,6,7,8,9] [Mv 25 6,Ca 26 85 [T 3,T 25] (some (.tup []))])))))
 (Rg [0,3,7,8,9] [Bc 27 .add 3 9 .i64 1,Mv 9 27])))⟩)],
 []⟩
theorem r55_ok:resFun (progU ()) hint live 55 Try.f55=some r55:=by kernel_rfl
def r56 : RFun :=
⟨.seq (Rg [0] [Ac 2 0])
 (.seq (.seq (Rg [0] [Mv 5 0,Ro 6 (.lenS (T 5)),Ol 7 (.move (Ci 0))])
 (.block 0 (.loop 2 none (some [0,5,6,7]))))
 (.seq (Rg [0] [Mv 16 0,Ro 17 (.lenS (T 16)),As 2 17])
 .ret)),
 [.tmp 2],
 [(2,⟨none,some [0,5,6,7],.seq (Rg [0,5,6,7] [Bt 8 .lss 3 7 6])
 (.seq (.cond (T 8) .skip
 (.exit 0 (some [0])))
 (.seq (.block 1 (.seq (Rg [0,5,6,7] [Mv 9 7,Ix 10 1 5 7,L1 11 10,As 3 9,As 4 11])
 (.seq (Rg [0,3,4,5,6,7] [Mv 12 4,Bc 13 .neq 3 12 .i64 0])
 (.cond (T 13) (.seq (Rg [3] [Mv 14 3,As 2 14])
 .ret)
 .skip))))
 (Rg [0,5,6,7] [Bc 15 .add 3 7 .i64 1,Mv 7 15])))⟩)],
 []⟩
theorem r56_ok:resFun (progU ()) hint live 56 Try.f56=some r56:=by kernel_rfl
def r57 : RFun :=
⟨.seq (Rg [0] [Ol 2 (.assign (.const (.slice none 0 0)))])
 (.seq (.seq (Rg [0] [Mv 3 0,Ol 4 (.binOp .eql 27 (T 3) (.const (.slice none 0 0)) 27)])
 (.cond (T 4) (.seq (Rg [] [Ol 2 (.assign (.const (.slice none 0 0)))])
 .ret)
 .skip))
 (.seq (Rg [0] [Ro 5 (.buildSlice 1 0 [] []),Mv 6 0,⟨some 7,none,.op false (.old (.call ⟨.builtin .append,#[T 5,T 6],#[27,27]⟩))⟩,As 2 7])
 .ret)),
 [.tmp 2],
 [],
 []⟩
theorem r57_ok:resFun (progU ()) hint live 57 Try.f57=some r57:=by kernel_rfl
def r58 : RFun :=
⟨.seq (Rg [0] [Ol 2 (.assign (.const (.slice none 0 0)))])
 (.seq (Rg [0] [Ol 3 (.assign (.const (.slice none 0 0)))])
 (.seq (.seq (Rg [0,3] [Ac 4 0])
 (.block 0 (.loop 3 none (some [0,3,4]))))
 (.seq (Rg [3] [Mv 38 3,As 2 38])
 .ret))),
 [.tmp 2],
 [(3,⟨none,some [0,3,4],.seq (.seq (Rg [0,3,4] [Mv 7 4,Mv 8 0,Ro 9 (.lenS (T 8)),Bt 10 .lss 3 7 9])
 (.cond (T 10) .skip
 (.exit 0 (some [3]))))
 (.seq (.block 1 (.seq (Rg [0,3,4] [Ro 13 (.buildSlice 1 0 [] []),Mv 14 0,Mv 15 4,Ix 16 1 14 15,Ro 17 (.load1 .slice (T 16)),⟨some 18,none,.op false (.old (.call ⟨.builtin .append,#[T 13,T 17],#[27,27]⟩))⟩,As 5 18])
 (.seq (.seq (Rg [0,3,4,5] [Ac 6 0])
 (.block 2 (.loop 7 none (some [0,3,4,5,6]))))
 (Rg [0,3,4,5] [Mv 34 3,Mv 35 5,Ro 36 (.buildSlice 1 1 [.slice none 0 0] [(0,1,(T 35))]),⟨some 37,none,.op false (.old (.call ⟨.builtin .append,#[T 34,T 36],#[22,22]⟩))⟩,As 3 37]))))
 (Rg [0,3,4] [Mv 11 4,Bc 12 .add 3 11 .i64 1,As 4 12]))⟩),(7,⟨none,some [0,3,4,5,6],.seq (.seq (Rg [0,3,4,5,6] [Mv 19 6,Mv 20 0,Ro 21 (.lenS (T 20)),Bt 22 .lss 3 19 21])
 (.cond (T 22) .skip
 (.exit 2 (some [0,3,4,5]))))
 (.seq (.block 3 (.seq (Rg [0,3,4,5,6] [Mv 25 6,Mv 26 4,Bt 27 .eql 3 25 26])
 (.cond (T 27) (Rg [0,3,4,5,6] [Mv 28 5,Ro 29 (.buildSlice 1 1 [.int .i64 0] [(0,1,(Ci 1))]),⟨some 30,none,.op false (.old (.call ⟨.builtin .append,#[T 28,T 29],#[27,27]⟩))⟩,As 5 30])
 (Rg [0,3,4,5,6] [Mv 31 5,Ro 32 (.buildSlice 1 1 [.int .i64 0] [(0,1,(Ci 0))]),⟨some 33,none,.op false (.old (.call ⟨.builtin .append,#[T 31,T 32],#[27,27]⟩))⟩,As 5 33]))))
 (Rg [0,3,4,5,6] [Mv 23 6,Bc 24 .add 3 23 .i64 1,As 6 24]))⟩)],
 []⟩
theorem r58_ok:resFun (progU ()) hint live 58 Try.f58=some r58:=by kernel_rfl
