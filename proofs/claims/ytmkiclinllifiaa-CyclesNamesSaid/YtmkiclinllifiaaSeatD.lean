import Derived.Test.YtmkiclinllifiaaSeat0
import Derived.Test.YtmkiclinllifiaaSymS
set_option linter.unusedSimpArgs false
set_option linter.unusedVariables false
namespace Go.Proofs.Ytmkiclinllifiaa
open Go.Sim
set_option maxRecDepth 100000
def r34 : RFun :=
⟨.seq (Rg [] [Ol 0 (.assign (.const (.slice none 0 0)))])
 (.seq (Rg [] [Ol 1 (.assign (.const (.slice none 0 0)))])
 (.seq (.seq (Rg [1] [Ro 4 (.build z2 [(0,1,(Ci 0)),(1,1,(Ci 1))]),Ro 5 (.build z2 [(0,1,(Ci 1)),(1,1,(Ci 2))]),Ro 6 (.build z2 [(0,1,(Ci 2)),(1,1,(Ci 3))]),Ro 7 (.build z2 [(0,1,(Ci 0)),(1,1,(Ci 3))]),Ro 8 (.build z2 [(0,1,(Ci 0)),(1,1,(Ci 2))]),Ro 9 (.buildSlice 2 5 [.int .i64 0,.int .i64 0,.int .i64 0,.int .i64 0,.int .i64 0,.int .i64 0,.int .i64 0,.int .i64 0,.int .i64 0,.int .i64 0] [(0,2,(T 4)),(2,2,(T 5)),(4,2,(T 6)),(6,2,(T 7)),(8,2,(T 8))]),Ro 10 (.lenS (T 9)),Ol 11 (.move (Ci 0))])
 (.block 0 (.loop 3 (some [1,9,10,11]) (some [1,9,10,11]))))
 (.seq (Rg [1] [Mv 25 1,As 0 25])
 .ret))),
 [.tmp 0],
 [(3,⟨some [1,9,10,11],some [1,9,10,11],.seq (Rg [1,9,10,11] [Bt 12 .lss 3 11 10])
 (.seq (.cond (T 12) .skip
 (.exit 0 (some [1])))
 (.seq (.block 1 (.seq (Rg [1,9,10,11] [Ix 13 2 9 11,Ld 14 13,Nw 3 2 z2,Sr 2 3 14])
 (Rg [1,3,9,10,11] [Mv 15 1,Fa 16 0 3,L1 17 16,Fa 18 1 3,L1 19 18,Ro 20 (.build [.int .i64 0,.int .i64 0,.int .i64 0] [(0,1,(Ci 1)),(2,1,(Ci 1))]),Ro 21 (.build [.int .i64 0,.int .i64 0,.int .i64 0,.int .i64 0,.int .i64 0,.int .i64 0] [(0,1,(T 17)),(1,1,(T 19)),(2,3,(T 20))]),Ro 22 (.buildSlice 6 1 [.int .i64 0,.int .i64 0,.int .i64 0,.int .i64 0,.int .i64 0,.int .i64 0] [(0,6,(T 21))]),⟨some 23,none,.op false (.old (.call ⟨.builtin .append,#[T 15,T 22],#[22,22]⟩))⟩,As 1 23])))
 (Rg [1,9,10,11] [Bc 24 .add 3 11 .i64 1,Mv 11 24])))⟩)],
 []⟩
theorem r34_ok:resFun (progU ()) hint live 34 Try.f34=some r34:=by kernel_rfl
def r35 : RFun :=
⟨.seq (Rg [0] [Ac 2 0])
 (.seq (.seq (Rg [0] [Mv 8 0,Ro 9 (.lenS (T 8)),Bc 10 .gtr 3 9 .i64 64])
 (.cond (T 10) (.seq (Rg [] [Ac 2 4])
 .ret)
 .skip))
 (.seq (.seq (Rg [0] [Mv 11 0,Ro 12 (.lenS (T 11)),Ol 13 (.move (Ci 0))])
 (.block 0 (.loop 4 (some [0,11,12,13]) (some [0,11,12,13]))))
 (.seq (Rg [0] [Ro 5 (.new 64 [.bool false,.bool false,.bool false,.bool false,.bool false,.bool false,.bool false,.bool false,.bool false,.bool false,.bool false,.bool false,.bool false,.bool false,.bool false,.bool false,.bool false,.bool false,.bool false,.bool false,.bool false,.bool false,.bool false,.bool false,.bool false,.bool false,.bool false,.bool false,.bool false,.bool false,.bool false,.bool false,.bool false,.bool false,.bool false,.bool false,.bool false,.bool false,.bool false,.bool false,.bool false,.bool false,.bool false,.bool false,.bool false,.bool false,.bool false,.bool false,.bool false,.bool false,.bool false,.bool false,.bool false,.bool false,.bool false,.bool false,.bool false,.bool false,.bool false,.bool false,.bool false,.bool false,.bool false,.bool false])])
 (.seq (.seq (Rg [0,5] [Mv 45 0,Ro 46 (.lenS (T 45)),Ol 47 (.move (Ci 0))])
 (.block 2 (.loop 11 (some [5,45,46,47]) (some [5,45,46,47]))))
 (.seq (Rg [] [Ac 2 0])
 .ret))))),
 [.tmp 2],
 [(4,⟨some [0,11,12,13],some [0,11,12,13],.seq (Rg [0,11,12,13] [Bt 14 .lss 3 13 12])
 (.seq (.cond (T 14) .skip
 (.exit 0 (some [0])))
 (.seq (.block 1 (.seq (Rg [0,11,12,13] [Ix 15 6 11 13,Ro 16 (.load 6 [.int .i64,.int .i64,.int .i64,.int .i64,.int .i64,.int .i64] (T 15)),Nw 4 6 [.int .i64 0,.int .i64 0,.int .i64 0,.int .i64 0,.int .i64 0,.int .i64 0],Sr 6 4 16])
 (.seq (Rg [0,4,11,12,13] [Fa 17 0 4,L1 18 17,Bc 19 .lss 3 18 .i64 0,Mv 20 19,Hf 21 20 (.fieldAddr 0 (T 4)),Hf 22 20 (.load1 (.int .i64) (T 21)),Hf 23 20 (.fieldAddr 1 (T 4)),Hf 24 20 (.load1 (.int .i64) (T 23)),Gf 25 20 (.binOp .geq 3 (T 22) (T 24) 3),Ol 26 (.pick (T 20) (.const (.bool true)) (T 25)),Mv 27 26,Hf 28 27 (.fieldAddr 1 (T 4)),Hf 29 27 (.load1 (.int .i64) (T 28)),⟨some 30,some (27,false),.call (.func 61) [T 29] vB⟩,Gf 31 27 (.unOp .not 4 (T 30)),Ol 32 (.pick (T 27) (.const (.bool true)) (T 31)),Mv 33 32,Hf 34 33 (.fieldAddr 5 (T 4)),Hf 35 33 (.load1 (.int .i64) (T 34)),Gf 36 33 (.binOp .lss 3 (T 35) (Ci 0) 3),Ol 37 (.pick (T 33) (.const (.bool true)) (T 36)),Mv 38 37,Hf 39 38 (.fieldAddr 2 (T 4)),Hf 40 38 (.load 3 [.int .i64,.int .i64,.int .i64] (T 39)),⟨some 41,some (38,false),.call (.func 62) [T 40] vI⟩,Gf 42 38 (.binOp .neq 24 (T 41) (Ci 0) 24),Ol 43 (.pick (T 38) (.const (.bool true)) (T 42))])
 (.cond (T 43) (.seq (Rg [] [Ac 2 8])
 .ret)
 .skip))))
 (Rg [0,11,12,13] [Bc 44 .add 3 13 .i64 1,Mv 13 44])))⟩),(11,⟨some [5,45,46,47],some [5,45,46,47],.seq (Rg [5,45,46,47] [Bt 48 .lss 3 47 46])
 (.seq (.cond (T 48) .skip
 (.exit 2 (some [])))
 (.seq (.block 3 (.seq (Rg [5,45,46,47] [Ix 49 6 45 47,Ro 50 (.load 6 [.int .i64,.int .i64,.int .i64,.int .i64,.int .i64,.int .i64] (T 49)),Nw 7 6 [.int .i64 0,.int .i64 0,.int .i64 0,.int .i64 0,.int .i64 0,.int .i64 0],Sr 6 7 50])
 (.seq (.seq (.draw (some [5,7,45,46,47]) 7 [Dr (Fa 51 0 7) 0 [1,4,5,6],Db (L1 52 51) 1 51 [4,5,6],Dr (Fa 53 1 7) 2 [3,5,6],Db (L1 54 53) 3 53 [5,6],Dr (Ro 55 (.ixA 8 8 (T 5) (T 52))) 4 [5,6],Dr (Ro 56 (.ixA 8 1 (T 55) (T 54))) 5 [6],Db (Ro 57 (.load1 .bool (T 56))) 6 56 []])
 (.cond (T 57) (.seq (Rg [] [Ac 2 14])
 .ret)
 .skip))
 (.draw (some [5,7,45,46,47]) 7 [Dr (Fa 58 0 7) 0 [1,4,5,6],Db (L1 59 58) 1 58 [4,5,6],Dr (Fa 60 1 7) 2 [3,5,6],Db (L1 61 60) 3 60 [5,6],Dr (Ro 62 (.ixA 8 8 (T 5) (T 59))) 4 [5,6],Dr (Ro 63 (.ixA 8 1 (T 62) (T 61))) 5 [6],⟨⟨none,none,.op false (.store 1 (T 63) (.const (.bool true)))⟩,6,.blk (T 63),[],true,true⟩]))))
 (Rg [5,45,46,47] [Bc 64 .add 3 47 .i64 1,Mv 47 64])))⟩)],
 []⟩
theorem r35_ok:resFun (progU ()) hint live 35 Try.f35=some r35:=by kernel_rfl
def r36 : RFun :=
⟨.seq (Rg [0] [Ol 2 (.assign (.const (.slice none 0 0))),Ac 3 0])
 (.seq (Rg [0] [Mv 10 0,Ca 11 43 [T 10] (some (.val (.one .any))),As 4 11])
 (.seq (Rg [0,4] [Ol 5 (.assign (.const (.slice none 0 0)))])
 (.seq (Rg [0,4,5] [Ac 6 0])
 (.seq (.seq (Rg [0,4,5,6] [Mv 12 4,Ca 13 63 [T 12] vI,As 7 13])
 (.block 0 (.loop 5 none (some [0,4,5,6,7]))))
 (.seq (Rg [5,6] [Mv 46 5,Mv 47 6,As 2 46,As 3 47])
 .ret))))),
 [.tmp 2,.tmp 3],
 [(5,⟨none,some [0,4,5,6,7],.seq (.seq (Rg [0,4,5,6,7] [Mv 14 7,Bc 15 .geq 3 14 .i64 0])
 (.cond (T 15) .skip
 (.exit 0 (some [5,6]))))
 (.seq (.block 1 (.seq (Rg [0,4,5,6,7] [Mv 18 4,Mv 19 7,⟨none,none,.op false (.old (.mapUpdate 76 (T 18) (T 19) (.const (.bool true))))⟩])
 (.seq (Rg [0,4,5,6] [Mv 20 6,Bc 21 .add 3 20 .i64 1,As 6 21])
 (.seq (Rg [0,4,5,6] [Mv 23 0,Mv 24 4,Ca 25 64 [T 23,T 24] (some (.tup [.agg s2,.one .bool])),Mv 22 25,Ex 26 22 0,Ex 27 22 1,Ro 8 (.new 2 z2),Sr 2 8 26,As 9 27])
 (.block 2 (.loop 10 none (some [0,4,5,6,8,9])))))))
 (Rg [0,4,5,6] [Mv 16 4,Ca 17 63 [T 16] vI,As 7 17]))⟩),(10,⟨none,some [0,4,5,6,8,9],.seq (.seq (Rg [0,4,5,6,8,9] [Mv 28 9])
 (.cond (T 28) .skip
 (.exit 2 (some [0,4,5,6]))))
 (.seq (.block 3 (.seq (Rg [0,4,5,6,8] [Mv 35 4,Fa 36 0 8,L1 37 36,⟨none,none,.op false (.old (.mapUpdate 76 (T 35) (T 37) (.const (.bool true))))⟩])
 (.seq (Rg [0,4,5,6,8] [Mv 38 4,Fa 39 1 8,L1 40 39,⟨none,none,.op false (.old (.mapUpdate 76 (T 38) (T 40) (.const (.bool true))))⟩])
 (Rg [0,4,5,6,8] [Mv 41 5,Ld 42 8,Ro 43 (.buildSlice 2 1 z2 [(0,2,(T 42))]),⟨some 44,none,.op false (.old (.call ⟨.builtin .append,#[T 41,T 43],#[23,23]⟩))⟩,As 5 44]))))
 (.seq (.seq (Rg [0,4,5,6,8] [Ld 45 8])
 (Rg [0,4,5,6,45] [Ro 8 (.new 2 z2),Sr 2 8 45]))
 (Rg [0,4,5,6,8] [Mv 30 0,Mv 31 4,Ca 32 64 [T 30,T 31] (some (.tup [.agg s2,.one .bool])),Mv 29 32,Ex 33 29 0,Ex 34 29 1,Sr 2 8 33,As 9 34])))⟩)],
 []⟩
theorem r36_ok:resFun (progU ()) hint live 36 Try.f36=some r36:=by kernel_rfl
def r38 : RFun :=
⟨.seq (Rg [0,1] [Ro 3 (.box 1 (T 1)),Ol 4 (.assign (.const (.slice none 0 0)))])
 (.seq (Rg [0,3,4] [Ro 5 (.new 1 [.slice none 0 0])])
 (.seq (.seq (Rg [0,3,4,5] [Mv 7 0,Ca 8 65 [T 7] (some (.val (.one .any)))])
 (.block 0 (.range 3)))
 (.seq (Rg [5] [Ro 18 (.load1 .slice (T 5)),As 4 18])
 .ret))),
 [.tmp 4],
 [],
 [(3,⟨T 8,[9],Rg [3,5,9] [Ro 6 (.new 2 z2),Sr 2 6 9],.block 1 (.seq (Rg [3,5,6] [Ro 10 (.load1 .any (T 3)),Ld 11 6,Ol 12 (.lookup 71 (T 10) (T 11) false),Ol 13 (.unOp .not 4 (T 12))])
 (.cond (T 13) (Rg [5,6] [Ro 14 (.load1 .slice (T 5)),Ld 15 6,Ro 16 (.buildSlice 2 1 z2 [(0,2,(T 15))]),⟨some 17,none,.op false (.old (.call ⟨.builtin .append,#[T 14,T 16],#[23,23]⟩))⟩,Sr 1 5 17])
 .skip))⟩)]⟩
theorem r38_ok:resFun (progU ()) hint live 38 Try.f38=some r38:=by kernel_rfl
def r39 : RFun :=
⟨.seq (Rg [0] [Ol 2 (.assign (.const (.map none)))])
 (.seq (Rg [0] [Mv 9 0,Ca 10 36 [T 9] (some (.tup [.one .slice,.one (.int .i64)])),Mv 8 10,Ex 11 8 0,Ex 12 8 1,As 3 11,As 4 12])
 (.seq (Rg [3] [Ol 13 (.makeMap 71 none),As 5 13])
 (.seq (.seq (Rg [3,5] [Mv 14 3,Ro 15 (.lenS (T 14)),Ol 16 (.move (Ci 0))])
 (.block 0 (.loop 4 (some [5,14,15,16]) (some [5,14,15,16]))))
 (.seq (Rg [5] [Mv 23 5,As 2 23])
 .ret)))),
 [.tmp 2],
 [(4,⟨some [5,14,15,16],some [5,14,15,16],.seq (Rg [5,14,15,16] [Bt 17 .lss 3 16 15])
 (.seq (.cond (T 17) .skip
 (.exit 0 (some [5])))
 (.seq (.block 1 (.seq (Rg [5,14,15,16] [Ix 18 2 14 16,Ld 19 18,Nw 7 2 z2,Sr 2 7 19])
 (Rg [5,7,14,15,16] [Mv 20 5,Ld 21 7,⟨none,none,.op false (.old (.mapUpdate 71 (T 20) (T 21) (.const (.bool true))))⟩])))
 (Rg [5,14,15,16] [Bc 22 .add 3 16 .i64 1,Mv 16 22])))⟩)],
 []⟩
theorem r39_ok:resFun (progU ()) hint live 39 Try.f39=some r39:=by kernel_rfl
def r41 : RFun :=
⟨.seq (Rg [0] [Ol 2 (.assign (.const (.slice none 0 0))),Ol 3 (.assign (.const (.slice none 0 0)))])
 (.seq (Rg [0] [Mv 11 0,Ca 12 39 [T 11] (some (.val (.one .any))),As 4 12])
 (.seq (Rg [0,4] [Mv 13 0,Mv 14 4,Ca 15 38 [T 13,T 14] (some (.val (.one .slice))),As 5 15])
 (.seq (Rg [4,5] [Ol 6 (.assign (.const (.slice none 0 0)))])
 (.seq (.seq (Rg [4,5,6] [Mv 16 5,Ro 17 (.lenS (T 16)),Ol 18 (.move (Ci 0))])
 (.block 0 (.loop 5 (some [4,5,6,16,17,18]) (some [4,5,6,16,17,18]))))
 (.seq (Rg [5,6] [Mv 42 5,Mv 43 6,As 2 42,As 3 43])
 .ret))))),
 [.tmp 2,.tmp 3],
 [(5,⟨some [4,5,6,16,17,18],some [4,5,6,16,17,18],.seq (Rg [4,5,6,16,17,18] [Bt 19 .lss 3 18 17])
 (.seq (.cond (T 19) .skip
 (.exit 0 (some [5,6])))
 (.seq (.block 1 (.seq (Rg [4,5,6,16,17,18] [Ix 20 2 16 18,Ld 21 20,Nw 8 2 z2,Sr 2 8 21])
 (.seq (Rg [4,5,6,8,16,17,18] [Mv 22 4,Fa 23 1 8,L1 24 23,Fa 25 0 8,L1 26 25,Ca 27 44 [T 22,T 24,T 26] (some (.val (.one .slice))),As 9 27])
 (.seq (Rg [4,5,6,8,9,16,17,18] [Fa 28 0 8,L1 29 28,Ro 30 (.buildSlice 1 1 [.int .i64 0] [(0,1,(T 29))]),As 10 30])
 (Rg [4,5,6,9,10,16,17,18] [Mv 31 6,Mv 32 10,Mv 33 9,Mv 34 9,Ro 35 (.lenS (T 34)),Bc 36 .sub 3 35 .i64 1,Ro 37 (.cutS 38 (T 33) none (some (T 36)) none),⟨some 38,none,.op false (.old (.call ⟨.builtin .append,#[T 32,T 37],#[38,38]⟩))⟩,Ro 39 (.buildSlice 1 1 [.slice none 0 0] [(0,1,(T 38))]),⟨some 40,none,.op false (.old (.call ⟨.builtin .append,#[T 31,T 39],#[33,33]⟩))⟩,As 6 40])))))
 (Rg [4,5,6,16,17,18] [Bc 41 .add 3 18 .i64 1,Mv 18 41])))⟩)],
 []⟩
theorem r41_ok:resFun (progU ()) hint live 41 Try.f41=some r41:=by kernel_rfl
def r43 : RFun :=
⟨.seq (Rg [0] [Ol 2 (.assign (.const (.map none)))])
 (.seq (Rg [0] [Ol 6 (.makeMap 76 none),As 3 6])
 (.seq (.seq (Rg [0,3] [Mv 7 0,Ro 8 (.lenS (T 7)),Ol 9 (.move (Ci 0))])
 (.block 0 (.loop 3 (some [3,7,8,9]) (some [3,7,8,9]))))
 (.seq (Rg [3] [Mv 20 3,As 2 20])
 .ret))),
 [.tmp 2],
 [(3,⟨some [3,7,8,9],some [3,7,8,9],.seq (Rg [3,7,8,9] [Bt 10 .lss 3 9 8])
 (.seq (.cond (T 10) .skip
 (.exit 0 (some [3])))
 (.seq (.block 1 (.seq (Rg [3,7,8,9] [Ix 11 6 7 9,Ro 12 (.load 6 [.int .i64,.int .i64,.int .i64,.int .i64,.int .i64,.int .i64] (T 11)),Nw 5 6 [.int .i64 0,.int .i64 0,.int .i64 0,.int .i64 0,.int .i64 0,.int .i64 0],Sr 6 5 12])
 (.seq (Rg [3,5,7,8,9] [Mv 13 3,Fa 14 0 5,L1 15 14,⟨none,none,.op false (.old (.mapUpdate 76 (T 13) (T 15) (.const (.bool false))))⟩])
 (Rg [3,5,7,8,9] [Mv 16 3,Fa 17 1 5,L1 18 17,⟨none,none,.op false (.old (.mapUpdate 76 (T 16) (T 18) (.const (.bool false))))⟩]))))
 (Rg [3,7,8,9] [Bc 19 .add 3 9 .i64 1,Mv 9 19])))⟩)],
 []⟩
theorem r43_ok:resFun (progU ()) hint live 43 Try.f43=some r43:=by kernel_rfl
def r48 : RFun :=
⟨.seq (Rg [0] [Bo 1 3 0,Nw 2 3 [.int .i64 0,.int .i64 0,.int .i64 0],Ac 3 0])
 (.seq (.seq (Rg [1,2] [Ro 5 (.load 3 [.int .i64,.int .i64,.int .i64] (T 1)),Ca 6 62 [T 5] vI,As 4 6])
 (.seq (Rg [1,2,4] [Mv 7 4,Bc 8 .neq 24 7 .i64 0])
 (.cond (T 8) (.seq (Rg [2,4] [Ro 9 (.build [.int .i64 0,.int .i64 0,.int .i64 0] []),Mv 10 4,Sr 3 2 9,As 3 10])
 .ret)
 .skip)))
 (.seq (Rg [1,2] [Fa 11 1 1,L1 12 11,Ol 13 (.unOp .neg 2 (T 12)),Fa 14 1 1,Sr 1 14 13])
 (.seq (Rg [1,2] [Ro 15 (.load 3 [.int .i64,.int .i64,.int .i64] (T 1)),Sr 3 2 15,Ac 3 0])
 .ret))),
 [.agg 2 3 [.int .i64,.int .i64,.int .i64],.tmp 3],
 [],
 []⟩
theorem r48_ok:resFun (progU ()) hint live 48 Try.f48=some r48:=by kernel_rfl
def r49 : RFun :=
⟨.seq (Rg [0,1] [Bo 2 3 0,Bo 3 3 1,Nw 4 3 [.int .i64 0,.int .i64 0,.int .i64 0],Ac 5 0])
 (.seq (.seq (Rg [2,3,4] [Ro 7 (.load 3 [.int .i64,.int .i64,.int .i64] (T 2)),Ro 8 (.load 3 [.int .i64,.int .i64,.int .i64] (T 3)),Ca 9 67 [T 7,T 8] vI,As 6 9])
 (.seq (Rg [2,3,4,6] [Mv 10 6,Bc 11 .neq 24 10 .i64 0])
 (.cond (T 11) (.seq (Rg [4,6] [Ro 12 (.build [.int .i64 0,.int .i64 0,.int .i64 0] []),Mv 13 6,Sr 3 4 12,As 5 13])
 .ret)
 .skip)))
 (.seq (Rg [2,3,4] [Fa 14 0 2,L1 15 14,Fa 16 0 3,L1 17 16,Bt 18 .mul 2 15 17,Fa 19 1 2,L1 20 19,Fa 21 1 3,L1 22 21,Bt 23 .mul 2 20 22,Bt 24 .sub 2 18 23,Fa 25 0 2,L1 26 25,Fa 27 1 3,L1 28 27,Bt 29 .mul 2 26 28,Fa 30 1 2,L1 31 30,Fa 32 0 3,L1 33 32,Bt 34 .mul 2 31 33,Bt 35 .add 2 29 34,Fa 36 2 2,L1 37 36,Fa 38 2 3,L1 39 38,Bt 40 .mul 2 37 39,Ca 41 68 [T 24,T 35,T 40] (some (.tup [.agg [.int .i64,.int .i64,.int .i64],.one (.int .i64)])),Ex 42 41 0,Ex 43 41 1,Sr 3 4 42,As 5 43])
 .ret)),
 [.agg 4 3 [.int .i64,.int .i64,.int .i64],.tmp 5],
 [],
 []⟩
theorem r49_ok:resFun (progU ()) hint live 49 Try.f49=some r49:=by kernel_rfl
def r50 : RFun :=
⟨.seq (Rg [0] [Bo 1 3 0,Nw 2 3 [.int .i64 0,.int .i64 0,.int .i64 0],Ac 3 0])
 (.seq (.seq (Rg [1,2] [Ro 6 (.load 3 [.int .i64,.int .i64,.int .i64] (T 1)),Ca 7 62 [T 6] vI,As 4 7])
 (.seq (Rg [1,2,4] [Mv 8 4,Bc 9 .neq 24 8 .i64 0])
 (.cond (T 9) (.seq (Rg [2,4] [Ro 10 (.build [.int .i64 0,.int .i64 0,.int .i64 0] []),Mv 11 4,Sr 3 2 10,As 3 11])
 .ret)
 .skip)))
 (.seq (.seq (Rg [1,2] [Ro 12 (.load 3 [.int .i64,.int .i64,.int .i64] (T 1)),Ca 13 69 [T 12] vB])
 (.cond (T 13) (.seq (Rg [2] [Ro 14 (.build [.int .i64 0,.int .i64 0,.int .i64 0] []),Sr 3 2 14,Ac 3 18])
 .ret)
 .skip))
 (.seq (Rg [1,2] [Fa 15 0 1,L1 16 15,Fa 17 1 1,L1 18 17,Ca 19 70 [T 16,T 18] vI,As 5 19])
 (.seq (.draw (some [1,2,5]) 11 [Dr (Fa 20 0 1) 0 [1,3,8,9,10],Db (L1 21 20) 1 20 [3,8,9,10],Dr (Mv 22 5) 2 [3,8,9,10],Dr (Bt 23 .quo 2 21 22) 3 [8,9,10],Dr (Fa 24 1 1) 4 [5,7,8,9,10],Db (L1 25 24) 5 24 [7,8,9,10],Dr (Mv 26 5) 6 [7,8,9,10],Dr (Bt 27 .quo 2 25 26) 7 [8,9,10],Dr (Ro 28 (.build [.int .i64 0,.int .i64 0,.int .i64 0] [(0,1,(T 23)),(1,1,(T 27)),(2,1,(Ci 1))])) 8 [9,10],⟨Sr 3 2 28,9,.blk (T 2),[10],true,true⟩,Dr (Ac 3 0) 10 []])
 .ret)))),
 [.agg 2 3 [.int .i64,.int .i64,.int .i64],.tmp 3],
 [],
 []⟩
theorem r50_ok:resFun (progU ()) hint live 50 Try.f50=some r50:=by kernel_rfl
