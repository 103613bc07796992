import Derived.Test.YtnokkniofajnhaaSeat0
import Derived.Test.YtnokkniofajnhaaSymS
set_option linter.unusedSimpArgs false
set_option linter.unusedVariables false
namespace Go.Proofs.Ytnokkniofajnhaa
open Go.Sim
set_option maxRecDepth 100000
def r17 : RFun :=
⟨.seq (.reg (some [0,1]) [Ol 4 (.assign (.const (.slice none 0 0))),Ac 5 0])
 (.seq (.seq (.reg (some [0,1]) [Mv 16 0,Ca 17 14 [.tmp 16] (some (.val (.one (.int .i64)))),As 6 17])
 (.seq (.reg (some [0,1,6]) [Mv 18 6,Bc 19 .neq 26 18 .i64 0])
 (.cond (.tmp 19) (.seq (.reg (some [6]) [Mv 20 6,Ol 4 (.assign (.const (.slice none 0 0))),As 5 20])
 .ret)
 .skip)))
 (.seq (.seq (.reg (some [0,1]) [Mv 21 1,Ca 22 14 [.tmp 21] (some (.val (.one (.int .i64)))),As 7 22])
 (.seq (.reg (some [0,1,7]) [Mv 23 7,Bc 24 .neq 26 23 .i64 0])
 (.cond (.tmp 24) (.seq (.reg (some [7]) [Mv 25 7,Ol 4 (.assign (.const (.slice none 0 0))),As 5 25])
 .ret)
 .skip)))
 (.seq (.seq (.draw (some [0,1]) 28 [Dr (Mv 26 0) 0 [1,2,3,8,9,10,11,12,13,14,15,16,17,18,19,20,21,22,23,24,25,26,27],Dr (Ro 27 (.ixS 4 (.tmp 26) (.const (.int .i64 0)))) 1 [2,3,8,9,10,11,12,13,14,15,16,17,18,19,20,21,22,23,24,25,26,27],Dr (Fa 28 2 27) 2 [3,8,9,10,11,12,13,14,15,16,17,18,19,20,21,22,23,24,25,26,27],Db (Ld 29 28) 3 28 [8,9,10,11,12,13,14,15,16,17,18,19,20,21,22,23,24,25,26,27],Dr (Mv 30 1) 4 [5,6,7,8,9,10,11,12,13,14,15,16,17,18,19,20,21,22,23,24,25,26,27],Dr (Ro 31 (.ixS 4 (.tmp 30) (.const (.int .i64 0)))) 5 [6,7,8,9,10,11,12,13,14,15,16,17,18,19,20,21,22,23,24,25,26,27],Dr (Fa 32 0 31) 6 [7,8,9,10,11,12,13,14,15,16,17,18,19,20,21,22,23,24,25,26,27],Db (Ld 33 32) 7 32 [8,9,10,11,12,13,14,15,16,17,18,19,20,21,22,23,24,25,26,27],⟨Ca 34 34 [.tmp 29,.tmp 33] (some (.val (.one (.int .i64)))),8,.all,[9,10,11,12,13,14,15,16,17,18,19,20,21,22,23,24,25,26,27],false,false⟩,Dr (Bc 35 .lss 3 34 .i64 0) 9 [10,11,12,13,14,15,16,17,18,19,20,21,22,23,24,25,26,27],Dr (Mv 36 35) 10 [11,12,13,14,15,16,17,18,19,20,21,22,23,24,25,26,27],⟨⟨some 37,some (36,false),.op false (.old (.move (.tmp 0)))⟩,11,.none,[15,16,17,25,26,27],false,true⟩,⟨⟨some 38,some (36,false),.op false (.old (.move (.tmp 0)))⟩,12,.none,[13,14,15,16,17,25,26,27],false,true⟩,⟨⟨some 39,some (36,false),.op false (.lenS (.tmp 38))⟩,13,.none,[14,15,16,17,25,26,27],false,true⟩,⟨⟨some 40,some (36,false),.op false (.old (.binOp .sub 3 (.tmp 39) (.const (.int .i64 1)) 3))⟩,14,.none,[15,16,17,25,26,27],false,true⟩,⟨⟨some 41,some (36,false),.op false (.ixS 4 (.tmp 37) (.tmp 40))⟩,15,.none,[16,17,25,26,27],false,true⟩,⟨⟨some 42,some (36,false),.op false (.fieldAddr 2 (.tmp 41))⟩,16,.none,[17,25,26,27],false,true⟩,⟨⟨some 43,some (36,false),.op false (.load 2 [.int .i64,.int .i64] (.tmp 42))⟩,17,.blk (.tmp 42),[25,26,27],false,true⟩,⟨⟨some 44,some (36,false),.op false (.old (.move (.tmp 1)))⟩,18,.none,[22,23,24,25,26,27],false,true⟩,⟨⟨some 45,some (36,false),.op false (.old (.move (.tmp 1)))⟩,19,.none,[20,21,22,23,24,25,26,27],false,true⟩,⟨⟨some 46,some (36,false),.op false (.lenS (.tmp 45))⟩,20,.none,[21,22,23,24,25,26,27],false,true⟩,⟨⟨some 47,some (36,false),.op false (.old (.binOp .sub 3 (.tmp 46) (.const (.int .i64 1)) 3))⟩,21,.none,[22,23,24,25,26,27],false,true⟩,⟨⟨some 48,some (36,false),.op false (.ixS 4 (.tmp 44) (.tmp 47))⟩,22,.none,[23,24,25,26,27],false,true⟩,⟨⟨some 49,some (36,false),.op false (.fieldAddr 0 (.tmp 48))⟩,23,.none,[24,25,26,27],false,true⟩,⟨⟨some 50,some (36,false),.op false (.load 2 [.int .i64,.int .i64] (.tmp 49))⟩,24,.blk (.tmp 49),[25,26,27],false,true⟩,⟨⟨some 51,some (36,false),.call (.func 34) [.tmp 43,.tmp 50] (some (.val (.one (.int .i64))))⟩,25,.all,[26,27],false,false⟩,⟨⟨some 52,some (36,false),.op false (.old (.binOp .gtr 3 (.tmp 51) (.const (.int .i64 0)) 3))⟩,26,.none,[27],false,true⟩,Dr (Ol 53 (.pick (.tmp 36) (.const (.bool true)) (.tmp 52))) 27 []])
 (.cond (.tmp 53) (.seq (.reg (some []) [Ol 4 (.assign (.const (.slice none 0 0))),Ac 5 6])
 .ret)
 .skip))
 (.seq (.reg (some [0,1]) [Mv 54 0,Mv 55 1,Ca 56 39 [.tmp 54,.tmp 55] (some (.val (.one .slice))),As 8 56])
 (.seq (.seq (.reg (some [0,1,8]) [Mv 57 8,Ro 58 (.lenS (.tmp 57)),Bc 59 .gtr 3 58 .i64 40])
 (.cond (.tmp 59) (.seq (.reg (some []) [Ol 4 (.assign (.const (.slice none 0 0))),Ac 5 4])
 .ret)
 .skip))
 (.seq (.reg (some [0,1,8]) [Mv 60 0,Ca 61 37 [.tmp 60] (some (.val (.one .slice))),As 9 61])
 (.seq (.reg (some [1,8,9]) [Mv 62 8,Ro 63 (.lenS (.tmp 62)),Ro 64 (.mkSlice 4 [.int .i64 0,.int .i64 0,.int .i64 0,.int .i64 0] (.tmp 63) (.tmp 63)),As 10 64])
 (.seq (.seq (.reg (some [1,8,9,10]) [Mv 65 8,Ro 66 (.lenS (.tmp 65)),Ol 67 (.move (.const (.int .i64 0)))])
 (.block 0 (.loop 15 (some [1,9,10,65,66,67]) (some [1,9,10,65,66,67]))))
 (.seq (.reg (some [10]) [Mv 105 10,As 4 105,Ac 5 0])
 .ret))))))))),
 [.tmp 4,.tmp 5],
 [(15,⟨some [1,9,10,65,66,67],some [1,9,10,65,66,67],.seq (.reg (some [1,9,10,65,66,67]) [Bt 68 .lss 3 67 66])
 (.seq (.cond (.tmp 68) .skip
 (.exit 0 (some [10])))
 (.seq (.block 1 (.seq (.reg (some [1,9,10,65,66,67]) [Mv 69 67,Ix 70 2 65 67,Ld 71 70,⟨some 12,none,.op true (.new 2 [.int .i64 0,.int .i64 0])⟩,As 11 69,⟨none,none,.op false (.store 2 (.tmp 12) (.tmp 71))⟩])
 (.seq (.reg (some [1,9,10,11,12,65,66,67]) [Mv 73 9,Ld 74 12,Ca 75 35 [.tmp 73,.tmp 74] (some (.tup [.agg [.int .i64,.int .i64],.one (.int .i64)])),Mv 72 75,Ex 76 72 0,Ex 77 72 1,⟨some 13,none,.op true (.new 2 [.int .i64 0,.int .i64 0])⟩,⟨none,none,.op false (.store 2 (.tmp 13) (.tmp 76))⟩,As 14 77])
 (.seq (.seq (.reg (some [1,9,10,11,12,13,14,65,66,67]) [Mv 78 14,Bc 79 .neq 26 78 .i64 0])
 (.cond (.tmp 79) (.seq (.reg (some [14]) [Mv 80 14,Ol 4 (.assign (.const (.slice none 0 0))),As 5 80])
 .ret)
 .skip))
 (.seq (.reg (some [1,9,10,11,12,13,65,66,67]) [Mv 82 1,Ld 83 12,Ca 84 35 [.tmp 82,.tmp 83] (some (.tup [.agg [.int .i64,.int .i64],.one (.int .i64)])),Mv 81 84,Ex 85 81 0,Ex 86 81 1,⟨some 15,none,.op true (.new 2 [.int .i64 0,.int .i64 0])⟩,⟨none,none,.op false (.store 2 (.tmp 15) (.tmp 85))⟩,As 14 86])
 (.seq (.seq (.reg (some [1,9,10,11,13,14,15,65,66,67]) [Mv 87 14,Bc 88 .neq 26 87 .i64 0])
 (.cond (.tmp 88) (.seq (.reg (some [14]) [Mv 89 14,Ol 4 (.assign (.const (.slice none 0 0))),As 5 89])
 .ret)
 .skip))
 (.seq (.seq (.reg (some [1,9,10,11,13,15,65,66,67]) [Ld 90 13,Ca 91 33 [.tmp 90,.const (.int .i64 100)] (some (.val (.one .bool))),Ol 92 (.unOp .not 4 (.tmp 91)),Mv 93 92,⟨some 94,some (93,false),.op false (.load 2 [.int .i64,.int .i64] (.tmp 15))⟩,⟨some 95,some (93,false),.call (.func 33) [.tmp 94,.const (.int .i64 100)] (some (.val (.one .bool)))⟩,⟨some 96,some (93,false),.op false (.old (.unOp .not 4 (.tmp 95)))⟩,Ol 97 (.pick (.tmp 93) (.const (.bool true)) (.tmp 96))])
 (.cond (.tmp 97) (.seq (.reg (some []) [Ol 4 (.assign (.const (.slice none 0 0))),Ac 5 16])
 .ret)
 .skip))
 (.reg (some [1,9,10,11,13,15,65,66,67]) [Mv 98 10,Mv 99 11,Ld 100 13,Ld 101 15,Ro 102 (.build [.int .i64 0,.int .i64 0,.int .i64 0,.int .i64 0] [(0,2,(.tmp 100)),(2,2,(.tmp 101))]),Ix 103 4 98 99,⟨none,none,.op false (.store 4 (.tmp 103) (.tmp 102))⟩]))))))))
 (.reg (some [1,9,10,65,66,67]) [Bc 104 .add 3 67 .i64 1,Mv 67 104])))⟩)],
 []⟩
theorem r17_ok : resFun (progU ()) hint live 17 Try.f17 = some r17:=by kernel_rfl
def r39 : RFun :=
⟨.seq (.reg (some [0,1]) [Ol 4 (.assign (.const (.slice none 0 0)))])
 (.seq (.reg (some [0,1]) [Ol 5 (.assign (.const (.slice none 0 0)))])
 (.seq (.seq (.reg (some [0,1,5]) [Mv 10 0,Ro 11 (.lenS (.tmp 10)),Ol 12 (.move (.const (.int .i64 0)))])
 (.block 0 (.loop 3 (some [0,1,5,10,11,12]) (some [0,1,5,10,11,12]))))
 (.seq (.seq (.reg (some [0,1,5]) [Mv 22 1,Ro 23 (.lenS (.tmp 22)),Ol 24 (.move (.const (.int .i64 0)))])
 (.block 2 (.loop 8 (some [0,5,22,23,24]) (some [0,5,22,23,24]))))
 (.seq (.reg (some [5]) [Mv 55 5,Ca 56 60 [.tmp 55,.func 34] (some (.tup []))])
 (.seq (.reg (some [5]) [Mv 57 5,Ca 58 61 [.tmp 57] (some (.val (.one .slice))),As 4 58])
 .ret))))),
 [.tmp 4],
 [(3,⟨some [0,1,5,10,11,12],some [0,1,5,10,11,12],.seq (.reg (some [0,1,5,10,11,12]) [Bt 13 .lss 3 12 11])
 (.seq (.cond (.tmp 13) .skip
 (.exit 0 (some [0,1,5])))
 (.seq (.block 1 (.seq (.reg (some [0,1,5,10,11,12]) [Ix 14 4 10 12,Ro 15 (.load 4 [.int .i64,.int .i64,.int .i64,.int .i64] (.tmp 14)),⟨some 7,none,.op true (.new 4 [.int .i64 0,.int .i64 0,.int .i64 0,.int .i64 0])⟩,⟨none,none,.op false (.store 4 (.tmp 7) (.tmp 15))⟩])
 (.reg (some [0,1,5,7,10,11,12]) [Mv 16 5,Fa 17 2 7,Ld 18 17,Ro 19 (.buildSlice 2 1 [.int .i64 0,.int .i64 0] [(0,2,(.tmp 18))]),⟨some 20,none,.op false (.old (.call ⟨.builtin .append,#[.tmp 16,.tmp 19],#[69,69]⟩))⟩,As 5 20])))
 (.reg (some [0,1,5,10,11,12]) [Bc 21 .add 3 12 .i64 1,Mv 12 21])))⟩),(8,⟨some [0,5,22,23,24],some [0,5,22,23,24],.seq (.reg (some [0,5,22,23,24]) [Bt 25 .lss 3 24 23])
 (.seq (.cond (.tmp 25) .skip
 (.exit 2 (some [5])))
 (.seq (.block 3 (.seq (.reg (some [0,5,22,23,24]) [Ix 26 4 22 24,Ro 27 (.load 4 [.int .i64,.int .i64,.int .i64,.int .i64] (.tmp 26)),⟨some 9,none,.op true (.new 4 [.int .i64 0,.int .i64 0,.int .i64 0,.int .i64 0])⟩,⟨none,none,.op false (.store 4 (.tmp 9) (.tmp 27))⟩])
 (.seq (.draw (some [0,5,9,22,23,24]) 21 [Dr (Mv 28 0) 0 [1,2,3,6,7,8,9,10,11,12,13,14,15,16,17,18,19,20],Dr (Ro 29 (.ixS 4 (.tmp 28) (.const (.int .i64 0)))) 1 [2,3,6,7,8,9,10,11,12,13,14,15,16,17,18,19,20],Dr (Fa 30 2 29) 2 [3,6,7,8,9,10,11,12,13,14,15,16,17,18,19,20],Db (Ld 31 30) 3 30 [6,7,8,9,10,11,12,13,14,15,16,17,18,19,20],Dr (Fa 32 0 9) 4 [5,6,7,8,9,10,11,12,13,14,15,16,17,18,19,20],Db (Ld 33 32) 5 32 [6,7,8,9,10,11,12,13,14,15,16,17,18,19,20],⟨Ca 34 34 [.tmp 31,.tmp 33] (some (.val (.one (.int .i64)))),6,.all,[7,8,9,10,11,12,13,14,15,16,17,18,19,20],false,false⟩,Dr (Bc 35 .leq 3 34 .i64 0) 7 [8,9,10,11,12,13,14,15,16,17,18,19,20],Dr (Mv 36 35) 8 [9,10,11,12,13,14,15,16,17,18,19,20],⟨⟨some 37,some (36,true),.op false (.fieldAddr 0 (.tmp 9))⟩,9,.none,[10,18,19,20],false,true⟩,⟨⟨some 38,some (36,true),.op false (.load 2 [.int .i64,.int .i64] (.tmp 37))⟩,10,.blk (.tmp 37),[18,19,20],false,true⟩,⟨⟨some 39,some (36,true),.op false (.old (.move (.tmp 0)))⟩,11,.none,[15,16,17,18,19,20],false,true⟩,⟨⟨some 40,some (36,true),.op false (.old (.move (.tmp 0)))⟩,12,.none,[13,14,15,16,17,18,19,20],false,true⟩,⟨⟨some 41,some (36,true),.op false (.lenS (.tmp 40))⟩,13,.none,[14,15,16,17,18,19,20],false,true⟩,⟨⟨some 42,some (36,true),.op false (.old (.binOp .sub 3 (.tmp 41) (.const (.int .i64 1)) 3))⟩,14,.none,[15,16,17,18,19,20],false,true⟩,⟨⟨some 43,some (36,true),.op false (.ixS 4 (.tmp 39) (.tmp 42))⟩,15,.none,[16,17,18,19,20],false,true⟩,⟨⟨some 44,some (36,true),.op false (.fieldAddr 2 (.tmp 43))⟩,16,.none,[17,18,19,20],false,true⟩,⟨⟨some 45,some (36,true),.op false (.load 2 [.int .i64,.int .i64] (.tmp 44))⟩,17,.blk (.tmp 44),[18,19,20],false,true⟩,⟨⟨some 46,some (36,true),.call (.func 34) [.tmp 38,.tmp 45] (some (.val (.one (.int .i64))))⟩,18,.all,[19,20],false,false⟩,⟨⟨some 47,some (36,true),.op false (.old (.binOp .leq 3 (.tmp 46) (.const (.int .i64 0)) 3))⟩,19,.none,[20],false,true⟩,Dr (Ol 48 (.pick (.tmp 36) (.tmp 47) (.const (.bool false)))) 20 []])
 (.cond (.tmp 48) (.reg (some [0,5,9,22,23,24]) [Mv 49 5,Fa 50 0 9,Ld 51 50,Ro 52 (.buildSlice 2 1 [.int .i64 0,.int .i64 0] [(0,2,(.tmp 51))]),⟨some 53,none,.op false (.old (.call ⟨.builtin .append,#[.tmp 49,.tmp 52],#[69,69]⟩))⟩,As 5 53])
 .skip))))
 (.reg (some [0,5,22,23,24]) [Bc 54 .add 3 24 .i64 1,Mv 24 54])))⟩)],
 []⟩
theorem r39_ok : resFun (progU ()) hint live 39 Try.f39 = some r39:=by kernel_rfl
def r61 : RFun :=
⟨.seq (.reg (some [0]) [Ol 2 (.assign (.const (.slice none 0 0)))])
 (.seq (.seq (.reg (some [0]) [Mv 6 0,Ro 7 (.lenS (.tmp 6)),Bc 8 .lss 3 7 .i64 2])
 (.cond (.tmp 8) (.seq (.reg (some [0]) [Mv 9 0,As 2 9])
 .ret)
 .skip))
 (.seq (.seq (.reg (some [0]) [Ac 3 1])
 (.block 0 (.loop 4 (some [0,3]) (some [0,3]))))
 (.seq (.reg (some [0]) [Mv 60 0,As 2 60])
 .ret))),
 [.tmp 2],
 [(4,⟨some [0,3],some [0,3],.seq (.seq (.reg (some [0,3]) [Mv 10 3,Mv 11 0,Ro 12 (.lenS (.tmp 11)),Bt 13 .lss 3 10 12])
 (.cond (.tmp 13) .skip
 (.exit 0 (some [0]))))
 (.seq (.block 1 (.seq (.draw (some [0,3]) 10 [Dr (Mv 16 0) 0 [2,3,9],Dr (Mv 17 3) 1 [2,3,9],Dr (Ix 18 2 16 17) 2 [3,9],Db (Ld 19 18) 3 18 [9],Dr (Mv 20 0) 4 [7,8,9],Dr (Mv 21 3) 5 [6,7,8,9],Dr (Bc 22 .sub 3 21 .i64 1) 6 [7,8,9],Dr (Ix 23 2 20 22) 7 [8,9],Db (Ld 24 23) 8 23 [9],Dr (Bt 25 .eql 24 19 24) 9 []])
 (.cond (.tmp 25) (.seq (.reg (some [0,3]) [Mv 26 0,Mv 27 3,Ro 28 (.cutS 69 (.tmp 26) (some (.tmp 27)) none none),As 4 28])
 (.seq (.seq (.reg (some [0,3,4]) [Ac 5 1])
 (.block 2 (.loop 9 (some [0,3,4,5]) (some [0,3,4,5]))))
 (.seq (.reg (some [0,3]) [Mv 54 0,Mv 55 3,Ro 56 (.cutS 69 (.tmp 54) (some (.tmp 55)) none none),⟨none,none,.op false (.old (.call ⟨.builtin .clear,#[.tmp 56],#[69]⟩))⟩])
 (.seq (.reg (some [0,3]) [Mv 57 0,Mv 58 3,Ro 59 (.cutS 69 (.tmp 57) none (some (.tmp 58)) none),As 2 59])
 .ret))))
 .skip)))
 (.reg (some [0,3]) [Mv 14 3,Bc 15 .add 3 14 .i64 1,As 3 15]))⟩),(9,⟨some [0,3,4,5],some [0,3,4,5],.seq (.seq (.reg (some [0,3,4,5]) [Mv 29 5,Mv 30 4,Ro 31 (.lenS (.tmp 30)),Bt 32 .lss 3 29 31])
 (.cond (.tmp 32) .skip
 (.exit 2 (some [0,3]))))
 (.seq (.block 3 (.seq (.draw (some [0,3,4,5]) 10 [Dr (Mv 35 4) 0 [2,3,9],Dr (Mv 36 5) 1 [2,3,9],Dr (Ix 37 2 35 36) 2 [3,9],Db (Ld 38 37) 3 37 [9],Dr (Mv 39 4) 4 [7,8,9],Dr (Mv 40 5) 5 [6,7,8,9],Dr (Bc 41 .sub 3 40 .i64 1) 6 [7,8,9],Dr (Ix 42 2 39 41) 7 [8,9],Db (Ld 43 42) 8 42 [9],Dr (Bt 44 .neq 24 38 43) 9 []])
 (.cond (.tmp 44) (.seq (.reg (some [0,3,4,5]) [Mv 45 0,Mv 46 3,Mv 47 4,Mv 48 5,Ix 49 2 47 48,Ld 50 49,Ix 51 2 45 46,⟨none,none,.op false (.store 2 (.tmp 51) (.tmp 50))⟩])
 (.reg (some [0,3,4,5]) [Mv 52 3,Bc 53 .add 3 52 .i64 1,As 3 53]))
 .skip)))
 (.reg (some [0,3,4,5]) [Mv 33 5,Bc 34 .add 3 33 .i64 1,As 5 34]))⟩)],
 []⟩
theorem r61_ok : resFun (progU ()) hint live 61 Try.f61 = some r61:=by kernel_rfl
end Go.Proofs.Ytnokkniofajnhaa
