import Derived.Test.YtdpbiegfljmhmaaSeat0
import Derived.Test.YtdpbiegfljmhmaaSymS
set_option linter.unusedSimpArgs false
set_option linter.unusedVariables false
namespace Go.Proofs.Ytdpbiegfljmhmaa
open Go.Sim
set_option maxRecDepth 100000
def r27 : RFun :=
⟨.seq (Rg [0] [Ol 2 (.assign (.const (.slice none 0 0)))])
 (.seq (Rg [0] [Ro 6 (.buildSlice 1 1 [.int .i64 0] [(0,1,(Ci 1))]),As 3 6])
 (.seq (.seq (Rg [0,3] [Ac 4 1])
 (.block 0 (.loop 3 none (some [0,3,4]))))
 (.seq (Rg [3] [Mv 27 3,As 2 27])
 .ret))),
 [.tmp 2],
 [(3,⟨none,some [0,3,4],.seq (.seq (Rg [0,3,4] [Mv 7 4,Mv 8 0,Ro 9 (.lenS (T 8)),Mv 10 0,Ro 11 (.ixS 1 (T 10) (Ci 0)),Ro 12 (.load1 .slice (T 11)),Ro 13 (.lenS (T 12)),⟨some 14,none,.op false (.old (.call ⟨.builtin .min,#[T 9,T 13],#[3,3]⟩))⟩,Bt 15 .leq 3 7 14])
 (.cond (T 15) .skip
 (.exit 0 (some [3]))))
 (.seq (.block 1 (.seq (Rg [0,3,4] [Mv 18 0,Mv 19 4,Ca 20 53 [T 18,T 19] vI,As 5 20])
 (.seq (.seq (Rg [0,3,4,5] [Mv 21 5,Bc 22 .eql 3 21 .i64 0])
 (.cond (T 22) (.exit 0 (some [3]))
 .skip))
 (Rg [0,3,4,5] [Mv 23 3,Mv 24 5,Ro 25 (.buildSlice 1 1 [.int .i64 0] [(0,1,(T 24))]),⟨some 26,none,.op false (.old (.call ⟨.builtin .append,#[T 23,T 25],#[27,27]⟩))⟩,As 3 26]))))
 (Rg [0,3,4] [Mv 16 4,Bc 17 .add 3 16 .i64 1,As 4 17]))⟩)],
 []⟩
theorem r27_ok:resFun (progU ()) hint live 27 Try.f27=some r27:=by kernel_rfl
def r28 : RFun :=
⟨.seq (Rg [0] [Ol 2 (.assign (.const (.slice none 0 0)))])
 (.seq (Rg [0] [Ol 3 (.assign (.const (.slice none 0 0)))])
 (.seq (Rg [0,3] [Ac 4 1])
 (.seq (.seq (Rg [0,3,4] [Ac 5 1])
 (.block 0 (.loop 4 none (some [0,3,4,5]))))
 (.seq (Rg [3] [Mv 30 3,As 2 30])
 .ret)))),
 [.tmp 2],
 [(4,⟨none,some [0,3,4,5],.seq (.seq (Rg [0,3,4,5] [Mv 7 5,Mv 8 0,Ro 9 (.lenS (T 8)),Mv 10 0,Ro 11 (.ixS 1 (T 10) (Ci 0)),Ro 12 (.load1 .slice (T 11)),Ro 13 (.lenS (T 12)),⟨some 14,none,.op false (.old (.call ⟨.builtin .min,#[T 9,T 13],#[3,3]⟩))⟩,Bt 15 .leq 3 7 14])
 (.cond (T 15) .skip
 (.exit 0 (some [3]))))
 (.seq (.block 1 (.seq (Rg [0,3,4,5] [Mv 18 0,Mv 19 5,Ca 20 54 [T 18,T 19] vI,As 6 20])
 (.seq (.seq (Rg [0,3,4,5,6] [Mv 21 6,Bc 22 .eql 3 21 .i64 0])
 (.cond (T 22) (.exit 0 (some [3]))
 .skip))
 (.seq (Rg [0,3,4,5,6] [Mv 23 3,Mv 24 6,Mv 25 4,Bt 26 .quo 3 24 25,Ro 27 (.buildSlice 1 1 [.int .i64 0] [(0,1,(T 26))]),⟨some 28,none,.op false (.old (.call ⟨.builtin .append,#[T 23,T 27],#[27,27]⟩))⟩,As 3 28])
 (Rg [0,3,5,6] [Mv 29 6,As 4 29])))))
 (Rg [0,3,4,5] [Mv 16 5,Bc 17 .add 3 16 .i64 1,As 5 17]))⟩)],
 []⟩
theorem r28_ok:resFun (progU ()) hint live 28 Try.f28=some r28:=by kernel_rfl
def r29 : RFun :=
⟨.seq (Rg [0] [Ol 2 (.assign (.const (.slice none 0 0))),Ol 3 (.assign (.const (.slice none 0 0)))])
 (.seq (Rg [0,2,3] [Mv 7 0,Ro 8 (.ixS 1 (T 7) (Ci 0)),Ro 9 (.load1 .slice (T 8)),Ro 10 (.lenS (T 9)),As 4 10])
 (.seq (.seq (Rg [0,2,3,4] [Mv 11 0,Ca 12 55 [T 11] (some (.val (.one .slice))),Ro 13 (.lenS (T 12)),Ol 14 (.move (Ci 0))])
 (.block 0 (.loop 3 none (some [2,3,4,12,13,14]))))
 (.seq (Rg [2,3] [Mv 34 2,Mv 35 3,As 2 34,As 3 35])
 .ret))),
 [.tmp 2,.tmp 3],
 [(3,⟨none,some [2,3,4,12,13,14],.seq (Rg [2,3,4,12,13,14] [Bt 15 .lss 3 14 13])
 (.seq (.cond (T 15) .skip
 (.exit 0 (some [2,3])))
 (.seq (.block 1 (.seq (Rg [2,3,4,12,13,14] [Ix 16 1 12 14,Ro 17 (.load1 .slice (T 16)),As 6 17])
 (.seq (Rg [2,3,4,6,12,13,14] [Mv 18 6,Ca 19 56 [T 18] vI,Mv 20 4,Bt 21 .lss 3 19 20])
 (.cond (T 21) (Rg [2,3,4,6,12,13,14] [Mv 22 2,Mv 23 6,Ro 24 (.buildSlice 1 1 [.slice none 0 0] [(0,1,(T 23))]),⟨some 25,none,.op false (.old (.call ⟨.builtin .append,#[T 22,T 24],#[22,22]⟩))⟩,As 2 25])
 (Rg [2,3,4,6,12,13,14] [Mv 26 3,Mv 27 6,Mv 28 4,Ro 29 (.cutS 27 (T 27) (some (T 28)) none none),Ca 30 57 [T 29] (some (.val (.one .slice))),Ro 31 (.buildSlice 1 1 [.slice none 0 0] [(0,1,(T 30))]),⟨some 32,none,.op false (.old (.call ⟨.builtin .append,#[T 26,T 31],#[22,22]⟩))⟩,As 3 32])))))
 (Rg [2,3,4,12,13,14] [Bc 33 .add 3 14 .i64 1,Mv 14 33])))⟩)],
 []⟩
theorem r29_ok:resFun (progU ()) hint live 29 Try.f29=some r29:=by kernel_rfl
def r30 : RFun :=
⟨.seq (Rg [0] [Ol 2 (.assign (.const (.slice none 0 0)))])
 (.seq (Rg [0] [Mv 8 0,Ca 9 58 [T 8] (some (.val (.one .slice))),As 3 9])
 (.seq (Rg [0,3] [Mv 10 0,Ro 11 (.ixS 1 (T 10) (Ci 0)),Ro 12 (.load1 .slice (T 11)),Ro 13 (.lenS (T 12)),As 4 13])
 (.seq (Rg [0,3,4] [Mv 14 3,Mv 15 4,Ca 16 59 [T 14,T 15] vI,As 5 16])
 (.seq (Rg [0,3,4,5] [Ol 6 (.assign (.const (.slice none 0 0)))])
 (.seq (.seq (Rg [0,3,4,5,6] [Mv 17 5,As 7 17])
 (.block 0 (.loop 6 none (some [0,3,4,6,7]))))
 (.seq (Rg [0,6] [Mv 35 6,Mv 36 0,Ro 37 (.lenS (T 36)),Ca 38 59 [T 35,T 37] vI])
 (.seq (Rg [6] [Mv 39 6,As 2 39])
 .ret))))))),
 [.tmp 2],
 [(6,⟨none,some [0,3,4,6,7],.seq (.seq (Rg [0,3,4,6,7] [Mv 18 7,Mv 19 3,Ro 20 (.lenS (T 19)),Bt 21 .lss 3 18 20])
 (.cond (T 21) .skip
 (.exit 0 (some [0,6]))))
 (.seq (.block 1 (Rg [0,3,4,6,7] [Mv 24 6,Ro 25 (.buildSlice 1 0 [] []),Mv 26 3,Mv 27 7,Ix 28 1 26 27,Ro 29 (.load1 .slice (T 28)),Mv 30 4,Ro 31 (.cutS 27 (T 29) (some (T 30)) none none),⟨some 32,none,.op false (.old (.call ⟨.builtin .append,#[T 25,T 31],#[27,27]⟩))⟩,Ro 33 (.buildSlice 1 1 [.slice none 0 0] [(0,1,(T 32))]),⟨some 34,none,.op false (.old (.call ⟨.builtin .append,#[T 24,T 33],#[22,22]⟩))⟩,As 6 34]))
 (Rg [0,3,4,6,7] [Mv 22 7,Bc 23 .add 3 22 .i64 1,As 7 23]))⟩)],
 []⟩
theorem r30_ok:resFun (progU ()) hint live 30 Try.f30=some r30:=by kernel_rfl
def r31 : RFun :=
⟨.seq (Rg [0] [Bo 1 2 0,Ol 2 (.assign (.const (.bool false)))])
 (.seq (Rg [1] [Ld 3 1,Ca 4 60 [T 3] vI,Bc 5 .eql 28 4 .i64 0,Mv 6 5,Ht 7 6 (.fieldAddr 0 (T 1)),Ht 8 6 (.load1 (.int .i64) (T 7)),Gt 9 6 (.binOp .geq 2 (T 8) (Ci 0) 2),Ol 10 (.pick (T 6) (T 9) (.const (.bool false))),Mv 11 10,Ht 12 11 (.fieldAddr 0 (T 1)),Ht 13 11 (.load1 (.int .i64) (T 12)),Ht 14 11 (.fieldAddr 1 (T 1)),Ht 15 11 (.load1 (.int .i64) (T 14)),Gt 16 11 (.binOp .lss 2 (T 13) (T 15) 2),Ol 17 (.pick (T 11) (T 16) (.const (.bool false))),As 2 17])
 .ret),
 [.tmp 2],
 [],
 []⟩
theorem r31_ok:resFun (progU ()) hint live 31 Try.f31=some r31:=by kernel_rfl
def r32 : RFun :=
⟨.seq (Rg [0] [Bo 1 2 0,Ol 2 (.assign (.const (.bool false)))])
 (.seq (Rg [1] [Ld 3 1,Ca 4 61 [T 3] vI,Bc 5 .eql 3 4 .i64 0,Mv 6 5,Ht 7 6 (.fieldAddr 0 (T 1)),Ht 8 6 (.load1 (.int .i64) (T 7)),Gt 9 6 (.binOp .geq 2 (T 8) (Ci 0) 2),Ol 10 (.pick (T 6) (T 9) (.const (.bool false))),Mv 11 10,Ht 12 11 (.fieldAddr 0 (T 1)),Ht 13 11 (.load1 (.int .i64) (T 12)),Ht 14 11 (.fieldAddr 1 (T 1)),Ht 15 11 (.load1 (.int .i64) (T 14)),Gt 16 11 (.binOp .lss 2 (T 13) (T 15) 2),Ol 17 (.pick (T 11) (T 16) (.const (.bool false))),As 2 17])
 .ret),
 [.tmp 2],
 [],
 []⟩
theorem r32_ok:resFun (progU ()) hint live 32 Try.f32=some r32:=by kernel_rfl
def r38 : RFun :=
⟨.seq (Rg [0,1] [Ol 4 (.assign (.const (.int .u64 0)))])
 (.seq (.block 0 (.loop 1 (some [0,1]) (some [0,1])))
 (.seq (Rg [0] [Mv 11 0,As 4 11])
 .ret)),
 [.tmp 4],
 [(1,⟨some [0,1],some [0,1],.seq (.seq (Rg [0,1] [Mv 5 1,Bc 6 .neq 69 5 .u64 0])
 (.cond (T 6) .skip
 (.exit 0 (some [0]))))
 (.block 1 (.draw (some [0,1]) 6 [Dr (Mv 7 1) 0 [4,5],Dr (Mv 8 0) 1 [3,4,5],Dr (Mv 9 1) 2 [3,5],Dr (Bt 10 .rem 69 8 9) 3 [5],Dr (As 0 7) 4 [5],Dr (As 1 10) 5 []]))⟩)],
 []⟩
theorem r38_ok:resFun (progU ()) hint live 38 Try.f38=some r38:=by kernel_rfl
def r40 : RFun :=
⟨.seq (Rg [0] [Ol 2 (.assign (.const (.int .u64 0)))])
 (.seq (.seq (Rg [0] [Mv 3 0,Bc 4 .geq 2 3 .i64 0])
 (.cond (T 4) (.seq (Rg [0] [Mv 5 0,Ro 6 (.convI .u64 (T 5)),As 2 6])
 .ret)
 .skip))
 (.seq (Rg [0] [Mv 7 0,Bc 8 .add 2 7 .i64 1,Ol 9 (.unOp .neg 2 (T 8)),Ro 10 (.convI .u64 (T 9)),Bc 11 .add 69 10 .u64 1,As 2 11])
 .ret)),
 [.tmp 2],
 [],
 []⟩
theorem r40_ok:resFun (progU ()) hint live 40 Try.f40=some r40:=by kernel_rfl
