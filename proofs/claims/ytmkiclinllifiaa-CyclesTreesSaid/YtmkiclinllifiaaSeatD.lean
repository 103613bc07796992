import Derived.Test.YtmkiclinllifiaaSeat0
import Derived.Test.YtmkiclinllifiaaSymS
set_option linter.unusedSimpArgs false
set_option linter.unusedVariables false
namespace Go.Proofs.Ytmkiclinllifiaa
open Go.Sim
set_option maxRecDepth 100000
def r33 : RFun :=
⟨.seq (.reg (some [0]) [⟨some 1,none,.op true (.box 3 (.tmp 0))⟩,Ac 2 0])
 (.seq (.seq (.draw (some [1]) 39 [Dr (Fa 3 2 1) 0 [1,2,3,4,5,6,7,8,9,10,11,12,13,14,15,16,17,18,19,20,21,22,23,24,25,26,27,28,29,30,31,32,33,34,35,36,37,38],Db (L1 4 3) 1 3 [2,3,4,5,6,7,8,9,10,11,12,13,14,15,16,17,18,19,20,21,22,23,24,25,26,27,28,29,30,31,32,33,34,35,36,37,38],Dr (Bc 5 .lss 2 4 .i64 1) 2 [3,4,5,6,7,8,9,10,11,12,13,14,15,16,17,18,19,20,21,22,23,24,25,26,27,28,29,30,31,32,33,34,35,36,37,38],Dr (Mv 6 5) 3 [4,5,6,7,8,9,10,11,12,13,14,15,16,17,18,19,20,21,22,23,24,25,26,27,28,29,30,31,32,33,34,35,36,37,38],⟨⟨some 7,some (6,false),.op false (.fieldAddr 2 (.tmp 1))⟩,4,.none,[5,6,7,8,9,10,11,12,13,14,15,16,17,18,19,20,21,22,23,24,25,26,27,28,29,30,31,32,33,34,35,36,37,38],false,true⟩,⟨⟨some 8,some (6,false),.op false (.load1 (.int .i64) (.tmp 7))⟩,5,.blk (.tmp 7),[6,7,8,9,10,11,12,13,14,15,16,17,18,19,20,21,22,23,24,25,26,27,28,29,30,31,32,33,34,35,36,37,38],false,true⟩,⟨⟨some 9,some (6,false),.op false (.old (.binOp .gtr 2 (.tmp 8) (.const (.int .i64 1000000000)) 2))⟩,6,.none,[7,8,9,10,11,12,13,14,15,16,17,18,19,20,21,22,23,24,25,26,27,28,29,30,31,32,33,34,35,36,37,38],false,true⟩,Dr (Ol 10 (.pick (.tmp 6) (.const (.bool true)) (.tmp 9))) 7 [8,9,10,11,12,13,14,15,16,17,18,19,20,21,22,23,24,25,26,27,28,29,30,31,32,33,34,35,36,37,38],Dr (Mv 11 10) 8 [9,10,11,12,13,14,15,16,17,18,19,20,21,22,23,24,25,26,27,28,29,30,31,32,33,34,35,36,37,38],⟨⟨some 12,some (11,false),.op false (.fieldAddr 0 (.tmp 1))⟩,9,.none,[10,11,12,13,14,15,16,17,18,19,20,21,22,23,24,25,26,27,28,29,30,31,32,33,34,35,36,37,38],false,true⟩,⟨⟨some 13,some (11,false),.op false (.load1 (.int .i64) (.tmp 12))⟩,10,.blk (.tmp 12),[11,12,13,14,15,16,17,18,19,20,21,22,23,24,25,26,27,28,29,30,31,32,33,34,35,36,37,38],false,true⟩,⟨⟨some 14,some (11,false),.op false (.old (.binOp .lss 2 (.tmp 13) (.const (.int .i64 (-1000000000))) 2))⟩,11,.none,[12,13,14,15,16,17,18,19,20,21,22,23,24,25,26,27,28,29,30,31,32,33,34,35,36,37,38],false,true⟩,Dr (Ol 15 (.pick (.tmp 11) (.const (.bool true)) (.tmp 14))) 12 [13,14,15,16,17,18,19,20,21,22,23,24,25,26,27,28,29,30,31,32,33,34,35,36,37,38],Dr (Mv 16 15) 13 [14,15,16,17,18,19,20,21,22,23,24,25,26,27,28,29,30,31,32,33,34,35,36,37,38],⟨⟨some 17,some (16,false),.op false (.fieldAddr 0 (.tmp 1))⟩,14,.none,[15,16,17,18,19,20,21,22,23,24,25,26,27,28,29,30,31,32,33,34,35,36,37,38],false,true⟩,⟨⟨some 18,some (16,false),.op false (.load1 (.int .i64) (.tmp 17))⟩,15,.blk (.tmp 17),[16,17,18,19,20,21,22,23,24,25,26,27,28,29,30,31,32,33,34,35,36,37,38],false,true⟩,⟨⟨some 19,some (16,false),.op false (.old (.binOp .gtr 2 (.tmp 18) (.const (.int .i64 1000000000)) 2))⟩,16,.none,[17,18,19,20,21,22,23,24,25,26,27,28,29,30,31,32,33,34,35,36,37,38],false,true⟩,Dr (Ol 20 (.pick (.tmp 16) (.const (.bool true)) (.tmp 19))) 17 [18,19,20,21,22,23,24,25,26,27,28,29,30,31,32,33,34,35,36,37,38],Dr (Mv 21 20) 18 [19,20,21,22,23,24,25,26,27,28,29,30,31,32,33,34,35,36,37,38],⟨⟨some 22,some (21,false),.op false (.fieldAddr 1 (.tmp 1))⟩,19,.none,[20,21,22,23,24,25,26,27,28,29,30,31,32,33,34,35,36,37,38],false,true⟩,⟨⟨some 23,some (21,false),.op false (.load1 (.int .i64) (.tmp 22))⟩,20,.blk (.tmp 22),[21,22,23,24,25,26,27,28,29,30,31,32,33,34,35,36,37,38],false,true⟩,⟨⟨some 24,some (21,false),.op false (.old (.binOp .lss 2 (.tmp 23) (.const (.int .i64 (-1000000000))) 2))⟩,21,.none,[22,23,24,25,26,27,28,29,30,31,32,33,34,35,36,37,38],false,true⟩,Dr (Ol 25 (.pick (.tmp 21) (.const (.bool true)) (.tmp 24))) 22 [23,24,25,26,27,28,29,30,31,32,33,34,35,36,37,38],Dr (Mv 26 25) 23 [24,25,26,27,28,29,30,31,32,33,34,35,36,37,38],⟨⟨some 27,some (26,false),.op false (.fieldAddr 1 (.tmp 1))⟩,24,.none,[25,26,27,28,29,30,31,32,33,34,35,36,37,38],false,true⟩,⟨⟨some 28,some (26,false),.op false (.load1 (.int .i64) (.tmp 27))⟩,25,.blk (.tmp 27),[26,27,28,29,30,31,32,33,34,35,36,37,38],false,true⟩,⟨⟨some 29,some (26,false),.op false (.old (.binOp .gtr 2 (.tmp 28) (.const (.int .i64 1000000000)) 2))⟩,26,.none,[27,28,29,30,31,32,33,34,35,36,37,38],false,true⟩,Dr (Ol 30 (.pick (.tmp 26) (.const (.bool true)) (.tmp 29))) 27 [28,29,30,31,32,33,34,35,36,37,38],Dr (Mv 31 30) 28 [29,30,31,32,33,34,35,36,37,38],⟨⟨some 32,some (31,false),.op false (.fieldAddr 0 (.tmp 1))⟩,29,.none,[30,33,36,37,38],false,true⟩,⟨⟨some 33,some (31,false),.op false (.load1 (.int .i64) (.tmp 32))⟩,30,.blk (.tmp 32),[33,36,37,38],false,true⟩,⟨⟨some 34,some (31,false),.op false (.fieldAddr 1 (.tmp 1))⟩,31,.none,[32,33,36,37,38],false,true⟩,⟨⟨some 35,some (31,false),.op false (.load1 (.int .i64) (.tmp 34))⟩,32,.blk (.tmp 34),[33,36,37,38],false,true⟩,⟨⟨some 37,some (31,false),.op false (.fieldAddr 2 (.tmp 1))⟩,34,.none,[35,36,37,38],false,true⟩,⟨⟨some 38,some (31,false),.op false (.load1 (.int .i64) (.tmp 37))⟩,35,.blk (.tmp 37),[36,37,38],false,true⟩,⟨⟨some 36,some (31,false),.call (.func 60) [.tmp 33,.tmp 35] (some (.val (.one (.int .i64))))⟩,33,.all,[36,37,38],false,false⟩,⟨⟨some 39,some (31,false),.call (.func 60) [.tmp 36,.tmp 38] (some (.val (.one (.int .i64))))⟩,36,.all,[37,38],false,false⟩,⟨⟨some 40,some (31,false),.op false (.old (.binOp .neq 2 (.tmp 39) (.const (.int .i64 1)) 2))⟩,37,.none,[38],false,true⟩,Dr (Ol 41 (.pick (.tmp 31) (.const (.bool true)) (.tmp 40))) 38 []])
 (.cond (.tmp 41) (.seq (.reg (some []) [Ac 2 8])
 .ret)
 .skip))
 (.seq (.reg (some []) [Ac 2 0])
 .ret)),
 [.tmp 2],
 [],
 []⟩
theorem r33_ok : resFun (progU ()) hint live 33 Try.f33 = some r33:=by kernel_rfl
def r35 : RFun :=
⟨.seq (.reg (some [0]) [Ac 2 0])
 (.seq (.seq (.reg (some [0]) [Mv 8 0,Ro 9 (.lenS (.tmp 8)),Bc 10 .gtr 3 9 .i64 64])
 (.cond (.tmp 10) (.seq (.reg (some []) [Ac 2 4])
 .ret)
 .skip))
 (.seq (.seq (.reg (some [0]) [Mv 11 0,Ro 12 (.lenS (.tmp 11)),Ol 13 (.move (.const (.int .i64 0)))])
 (.block 0 (.loop 4 (some [0,11,12,13]) (some [0,11,12,13]))))
 (.seq (.reg (some [0]) [Ro 5 (.new 64 [.bool false,.bool false,.bool false,.bool false,.bool false,.bool false,.bool false,.bool false,.bool false,.bool false,.bool false,.bool false,.bool false,.bool false,.bool false,.bool false,.bool false,.bool false,.bool false,.bool false,.bool false,.bool false,.bool false,.bool false,.bool false,.bool false,.bool false,.bool false,.bool false,.bool false,.bool false,.bool false,.bool false,.bool false,.bool false,.bool false,.bool false,.bool false,.bool false,.bool false,.bool false,.bool false,.bool false,.bool false,.bool false,.bool false,.bool false,.bool false,.bool false,.bool false,.bool false,.bool false,.bool false,.bool false,.bool false,.bool false,.bool false,.bool false,.bool false,.bool false,.bool false,.bool false,.bool false,.bool false])])
 (.seq (.seq (.reg (some [0,5]) [Mv 45 0,Ro 46 (.lenS (.tmp 45)),Ol 47 (.move (.const (.int .i64 0)))])
 (.block 2 (.loop 11 (some [5,45,46,47]) (some [5,45,46,47]))))
 (.seq (.reg (some []) [Ac 2 0])
 .ret))))),
 [.tmp 2],
 [(4,⟨some [0,11,12,13],some [0,11,12,13],.seq (.reg (some [0,11,12,13]) [Bt 14 .lss 3 13 12])
 (.seq (.cond (.tmp 14) .skip
 (.exit 0 (some [0])))
 (.seq (.block 1 (.seq (.reg (some [0,11,12,13]) [Ix 15 6 11 13,Ro 16 (.load 6 [.int .i64,.int .i64,.int .i64,.int .i64,.int .i64,.int .i64] (.tmp 15)),⟨some 4,none,.op true (.new 6 [.int .i64 0,.int .i64 0,.int .i64 0,.int .i64 0,.int .i64 0,.int .i64 0])⟩,⟨none,none,.op false (.store 6 (.tmp 4) (.tmp 16))⟩])
 (.seq (.reg (some [0,4,11,12,13]) [Fa 17 0 4,L1 18 17,Bc 19 .lss 3 18 .i64 0,Mv 20 19,⟨some 21,some (20,false),.op false (.fieldAddr 0 (.tmp 4))⟩,⟨some 22,some (20,false),.op false (.load1 (.int .i64) (.tmp 21))⟩,⟨some 23,some (20,false),.op false (.fieldAddr 1 (.tmp 4))⟩,⟨some 24,some (20,false),.op false (.load1 (.int .i64) (.tmp 23))⟩,⟨some 25,some (20,false),.op false (.old (.binOp .geq 3 (.tmp 22) (.tmp 24) 3))⟩,Ol 26 (.pick (.tmp 20) (.const (.bool true)) (.tmp 25)),Mv 27 26,⟨some 28,some (27,false),.op false (.fieldAddr 1 (.tmp 4))⟩,⟨some 29,some (27,false),.op false (.load1 (.int .i64) (.tmp 28))⟩,⟨some 30,some (27,false),.call (.func 61) [.tmp 29] (some (.val (.one .bool)))⟩,⟨some 31,some (27,false),.op false (.old (.unOp .not 4 (.tmp 30)))⟩,Ol 32 (.pick (.tmp 27) (.const (.bool true)) (.tmp 31)),Mv 33 32,⟨some 34,some (33,false),.op false (.fieldAddr 5 (.tmp 4))⟩,⟨some 35,some (33,false),.op false (.load1 (.int .i64) (.tmp 34))⟩,⟨some 36,some (33,false),.op false (.old (.binOp .lss 3 (.tmp 35) (.const (.int .i64 0)) 3))⟩,Ol 37 (.pick (.tmp 33) (.const (.bool true)) (.tmp 36)),Mv 38 37,⟨some 39,some (38,false),.op false (.fieldAddr 2 (.tmp 4))⟩,⟨some 40,some (38,false),.op false (.load 3 [.int .i64,.int .i64,.int .i64] (.tmp 39))⟩,⟨some 41,some (38,false),.call (.func 62) [.tmp 40] (some (.val (.one (.int .i64))))⟩,⟨some 42,some (38,false),.op false (.old (.binOp .neq 24 (.tmp 41) (.const (.int .i64 0)) 24))⟩,Ol 43 (.pick (.tmp 38) (.const (.bool true)) (.tmp 42))])
 (.cond (.tmp 43) (.seq (.reg (some []) [Ac 2 8])
 .ret)
 .skip))))
 (.reg (some [0,11,12,13]) [Bc 44 .add 3 13 .i64 1,Mv 13 44])))⟩),(11,⟨some [5,45,46,47],some [5,45,46,47],.seq (.reg (some [5,45,46,47]) [Bt 48 .lss 3 47 46])
 (.seq (.cond (.tmp 48) .skip
 (.exit 2 (some [])))
 (.seq (.block 3 (.seq (.reg (some [5,45,46,47]) [Ix 49 6 45 47,Ro 50 (.load 6 [.int .i64,.int .i64,.int .i64,.int .i64,.int .i64,.int .i64] (.tmp 49)),⟨some 7,none,.op true (.new 6 [.int .i64 0,.int .i64 0,.int .i64 0,.int .i64 0,.int .i64 0,.int .i64 0])⟩,⟨none,none,.op false (.store 6 (.tmp 7) (.tmp 50))⟩])
 (.seq (.seq (.draw (some [5,7,45,46,47]) 7 [Dr (Fa 51 0 7) 0 [1,4,5,6],Db (L1 52 51) 1 51 [4,5,6],Dr (Fa 53 1 7) 2 [3,5,6],Db (L1 54 53) 3 53 [5,6],Dr (Ro 55 (.ixA 8 8 (.tmp 5) (.tmp 52))) 4 [5,6],Dr (Ro 56 (.ixA 8 1 (.tmp 55) (.tmp 54))) 5 [6],Db (Ro 57 (.load1 .bool (.tmp 56))) 6 56 []])
 (.cond (.tmp 57) (.seq (.reg (some []) [Ac 2 14])
 .ret)
 .skip))
 (.draw (some [5,7,45,46,47]) 7 [Dr (Fa 58 0 7) 0 [1,4,5,6],Db (L1 59 58) 1 58 [4,5,6],Dr (Fa 60 1 7) 2 [3,5,6],Db (L1 61 60) 3 60 [5,6],Dr (Ro 62 (.ixA 8 8 (.tmp 5) (.tmp 59))) 4 [5,6],Dr (Ro 63 (.ixA 8 1 (.tmp 62) (.tmp 61))) 5 [6],⟨⟨none,none,.op false (.store 1 (.tmp 63) (.const (.bool true)))⟩,6,.blk (.tmp 63),[],true,true⟩]))))
 (.reg (some [5,45,46,47]) [Bc 64 .add 3 47 .i64 1,Mv 47 64])))⟩)],
 []⟩
theorem r35_ok : resFun (progU ()) hint live 35 Try.f35 = some r35:=by kernel_rfl
def r36 : RFun :=
⟨.seq (.reg (some [0]) [Ol 2 (.assign (.const (.slice none 0 0))),Ac 3 0])
 (.seq (.reg (some [0]) [Mv 10 0,Ca 11 43 [.tmp 10] (some (.val (.one .any))),As 4 11])
 (.seq (.reg (some [0,4]) [Ol 5 (.assign (.const (.slice none 0 0)))])
 (.seq (.reg (some [0,4,5]) [Ac 6 0])
 (.seq (.seq (.reg (some [0,4,5,6]) [Mv 12 4,Ca 13 63 [.tmp 12] (some (.val (.one (.int .i64)))),As 7 13])
 (.block 0 (.loop 5 none (some [0,4,5,6,7]))))
 (.seq (.reg (some [5,6]) [Mv 46 5,Mv 47 6,As 2 46,As 3 47])
 .ret))))),
 [.tmp 2,.tmp 3],
 [(5,⟨none,some [0,4,5,6,7],.seq (.seq (.reg (some [0,4,5,6,7]) [Mv 14 7,Bc 15 .geq 3 14 .i64 0])
 (.cond (.tmp 15) .skip
 (.exit 0 (some [5,6]))))
 (.seq (.block 1 (.seq (.reg (some [0,4,5,6,7]) [Mv 18 4,Mv 19 7,⟨none,none,.op false (.old (.mapUpdate 76 (.tmp 18) (.tmp 19) (.const (.bool true))))⟩])
 (.seq (.reg (some [0,4,5,6]) [Mv 20 6,Bc 21 .add 3 20 .i64 1,As 6 21])
 (.seq (.reg (some [0,4,5,6]) [Mv 23 0,Mv 24 4,Ca 25 64 [.tmp 23,.tmp 24] (some (.tup [.agg [.int .i64,.int .i64],.one .bool])),Mv 22 25,Ex 26 22 0,Ex 27 22 1,Ro 8 (.new 2 [.int .i64 0,.int .i64 0]),⟨none,none,.op false (.store 2 (.tmp 8) (.tmp 26))⟩,As 9 27])
 (.block 2 (.loop 10 none (some [0,4,5,6,8,9])))))))
 (.reg (some [0,4,5,6]) [Mv 16 4,Ca 17 63 [.tmp 16] (some (.val (.one (.int .i64)))),As 7 17]))⟩),(10,⟨none,some [0,4,5,6,8,9],.seq (.seq (.reg (some [0,4,5,6,8,9]) [Mv 28 9])
 (.cond (.tmp 28) .skip
 (.exit 2 (some [0,4,5,6]))))
 (.seq (.block 3 (.seq (.reg (some [0,4,5,6,8]) [Mv 35 4,Fa 36 0 8,L1 37 36,⟨none,none,.op false (.old (.mapUpdate 76 (.tmp 35) (.tmp 37) (.const (.bool true))))⟩])
 (.seq (.reg (some [0,4,5,6,8]) [Mv 38 4,Fa 39 1 8,L1 40 39,⟨none,none,.op false (.old (.mapUpdate 76 (.tmp 38) (.tmp 40) (.const (.bool true))))⟩])
 (.reg (some [0,4,5,6,8]) [Mv 41 5,Ld 42 8,Ro 43 (.buildSlice 2 1 [.int .i64 0,.int .i64 0] [(0,2,(.tmp 42))]),⟨some 44,none,.op false (.old (.call ⟨.builtin .append,#[.tmp 41,.tmp 43],#[23,23]⟩))⟩,As 5 44]))))
 (.seq (.seq (.reg (some [0,4,5,6,8]) [Ld 45 8])
 (.reg (some [0,4,5,6,45]) [Ro 8 (.new 2 [.int .i64 0,.int .i64 0]),⟨none,none,.op false (.store 2 (.tmp 8) (.tmp 45))⟩]))
 (.reg (some [0,4,5,6,8]) [Mv 30 0,Mv 31 4,Ca 32 64 [.tmp 30,.tmp 31] (some (.tup [.agg [.int .i64,.int .i64],.one .bool])),Mv 29 32,Ex 33 29 0,Ex 34 29 1,⟨none,none,.op false (.store 2 (.tmp 8) (.tmp 33))⟩,As 9 34])))⟩)],
 []⟩
theorem r36_ok : resFun (progU ()) hint live 36 Try.f36 = some r36:=by kernel_rfl
def r37 : RFun :=
⟨.seq (.reg (some [0]) [Ol 2 (.assign (.const (.slice none 0 0))),Ac 3 0])
 (.seq (.reg (some [0]) [Mv 11 0,Ca 12 24 [.tmp 11] (some (.val (.one .slice))),As 4 12])
 (.seq (.reg (some [0,4]) [Ro 13 (.mkSlice 1 [.bool false] (.const (.int .i64 8)) (.const (.int .i64 8))),As 5 13])
 (.seq (.reg (some [0,4,5]) [Ol 6 (.assign (.const (.slice none 0 0)))])
 (.seq (.reg (some [0,4,5,6]) [Ac 7 0])
 (.seq (.seq (.reg (some [0,4,5,6,7]) [Ac 8 0])
 (.block 0 (.loop 6 (some [0,4,5,6,7,8]) (some [0,4,5,6,7,8]))))
 (.seq (.reg (some [6,7]) [Mv 82 6,Mv 83 7,As 2 82,As 3 83])
 .ret)))))),
 [.tmp 2,.tmp 3],
 [(6,⟨some [0,4,5,6,7,8],some [0,4,5,6,7,8],.seq (.seq (.reg (some [0,4,5,6,7,8]) [Mv 14 8,Bc 15 .lss 3 14 .i64 8])
 (.cond (.tmp 15) .skip
 (.exit 0 (some [6,7]))))
 (.seq (.block 1 (.seq (.seq (.reg (some [0,4,5,6,7,8]) [Mv 18 0,Mv 19 8,Ca 20 27 [.tmp 18,.tmp 19] (some (.val (.one .bool))),Ol 21 (.unOp .not 4 (.tmp 20)),Mv 22 21,⟨some 23,some (22,false),.op false (.old (.move (.tmp 5)))⟩,⟨some 24,some (22,false),.op false (.old (.move (.tmp 8)))⟩,⟨some 25,some (22,false),.op false (.ixS 1 (.tmp 23) (.tmp 24))⟩,⟨some 26,some (22,false),.op false (.load1 .bool (.tmp 25))⟩,Ol 27 (.pick (.tmp 22) (.const (.bool true)) (.tmp 26))])
 (.cond (.tmp 27) (.exit 1 (some [0,4,5,6,7,8]))
 .skip))
 (.seq (.reg (some [0,4,5,6,7,8]) [Mv 28 5,Mv 29 8,Ix 30 1 28 29,⟨none,none,.op false (.store 1 (.tmp 30) (.const (.bool true)))⟩])
 (.seq (.reg (some [0,4,5,6,7,8]) [Mv 31 7,Bc 32 .add 3 31 .i64 1,As 7 32])
 (.seq (.reg (some [0,4,5,6,7,8]) [Ol 9 (.assign (.const (.bool true)))])
 (.block 2 (.loop 12 (some [0,4,5,6,7,8,9]) (some [0,4,5,6,7,8,9]))))))))
 (.reg (some [0,4,5,6,7,8]) [Mv 16 8,Bc 17 .add 3 16 .i64 1,As 8 17]))⟩),(12,⟨some [0,4,5,6,7,8,9],some [0,4,5,6,7,8,9],.seq (.seq (.reg (some [0,4,5,6,7,8,9]) [Mv 33 9])
 (.cond (.tmp 33) .skip
 (.exit 2 (some [0,4,5,6,7,8]))))
 (.block 3 (.seq (.reg (some [0,4,5,6,7,8]) [Ol 9 (.assign (.const (.bool false)))])
 (.seq (.reg (some [0,4,5,6,7,8,9]) [Ac 10 0])
 (.block 4 (.loop 15 (some [0,4,5,6,7,8,9,10]) (some [0,4,5,6,7,8,9,10]))))))⟩),(15,⟨some [0,4,5,6,7,8,9,10],some [0,4,5,6,7,8,9,10],.seq (.seq (.reg (some [0,4,5,6,7,8,9,10]) [Mv 34 10,Mv 35 4,Ro 36 (.lenS (.tmp 35)),Bt 37 .lss 3 34 36,Mv 38 37,⟨some 39,some (38,true),.op false (.old (.move (.tmp 9)))⟩,⟨some 40,some (38,true),.op false (.old (.unOp .not 4 (.tmp 39)))⟩,Ol 41 (.pick (.tmp 38) (.tmp 40) (.const (.bool false)))])
 (.cond (.tmp 41) .skip
 (.exit 4 (some [0,4,5,6,7,8,9]))))
 (.seq (.block 5 (.seq (.draw (some [0,4,5,6,7,8,9,10]) 17 [Dr (Mv 44 5) 0 [6,7,16],Dr (Mv 45 4) 1 [3,4,5,6,7,16],Dr (Mv 46 10) 2 [3,4,5,6,7,16],Dr (Ix 47 2 45 46) 3 [4,5,6,7,16],Dr (Fa 48 0 47) 4 [5,6,7,16],Db (L1 49 48) 5 48 [6,7,16],Dr (Ix 50 1 44 49) 6 [7,16],Db (Ro 51 (.load1 .bool (.tmp 50))) 7 50 [16],Dr (Mv 52 5) 8 [14,15,16],Dr (Mv 53 4) 9 [11,12,13,14,15,16],Dr (Mv 54 10) 10 [11,12,13,14,15,16],Dr (Ix 55 2 53 54) 11 [12,13,14,15,16],Dr (Fa 56 1 55) 12 [13,14,15,16],Db (L1 57 56) 13 56 [14,15,16],Dr (Ix 58 1 52 57) 14 [15,16],Db (Ro 59 (.load1 .bool (.tmp 58))) 15 58 [16],Dr (Bt 60 .neq 4 51 59) 16 []])
 (.cond (.tmp 60) (.seq (.draw (some [0,4,5,6,7,8,10]) 16 [Dr (Mv 61 5) 0 [12,13,14,15],Dr (Mv 62 4) 1 [3,4,5,12,13,14,15],Dr (Mv 63 10) 2 [3,4,5,12,13,14,15],Dr (Ix 64 2 62 63) 3 [4,5,12,13,14,15],Dr (Fa 65 0 64) 4 [5,12,13,14,15],Db (L1 66 65) 5 65 [12,13,14,15],Dr (Mv 67 5) 6 [14,15],Dr (Mv 68 4) 7 [9,10,11,12,13,14,15],Dr (Mv 69 10) 8 [9,10,11,12,13,14,15],Dr (Ix 70 2 68 69) 9 [10,11,12,13,14,15],Dr (Fa 71 1 70) 10 [11,12,13,14,15],Db (L1 72 71) 11 71 [12,13,14,15],Dr (Ix 73 1 61 66) 12 [13,14,15],⟨⟨none,none,.op false (.store 1 (.tmp 73) (.const (.bool true)))⟩,13,.blk (.tmp 73),[14,15],true,true⟩,Dr (Ix 74 1 67 72) 14 [15],⟨⟨none,none,.op false (.store 1 (.tmp 74) (.const (.bool true)))⟩,15,.blk (.tmp 74),[],true,true⟩])
 (.seq (.reg (some [0,4,5,6,7,8,10]) [Mv 75 6,Mv 76 4,Mv 77 10,Ix 78 2 76 77,Ld 79 78,Ro 80 (.buildSlice 2 1 [.int .i64 0,.int .i64 0] [(0,2,(.tmp 79))]),⟨some 81,none,.op false (.old (.call ⟨.builtin .append,#[.tmp 75,.tmp 80],#[23,23]⟩))⟩,As 6 81])
 (.reg (some [0,4,5,6,7,8,10]) [Ol 9 (.assign (.const (.bool true)))])))
 .skip)))
 (.reg (some [0,4,5,6,7,8,9,10]) [Mv 42 10,Bc 43 .add 3 42 .i64 1,As 10 43]))⟩)],
 []⟩
theorem r37_ok : resFun (progU ()) hint live 37 Try.f37 = some r37:=by kernel_rfl
def r38 : RFun :=
⟨.seq (.reg (some [0,1]) [Ro 3 (.box 1 (.tmp 1)),Ol 4 (.assign (.const (.slice none 0 0)))])
 (.seq (.reg (some [0,3,4]) [Ro 5 (.new 1 [.slice none 0 0])])
 (.seq (.seq (.reg (some [0,3,4,5]) [Mv 7 0,Ca 8 65 [.tmp 7] (some (.val (.one .any)))])
 (.block 0 (.range 3)))
 (.seq (.reg (some [5]) [Ro 18 (.load1 .slice (.tmp 5)),As 4 18])
 .ret))),
 [.tmp 4],
 [],
 [(3,⟨.tmp 8,[9],.reg (some [3,5,9]) [Ro 6 (.new 2 [.int .i64 0,.int .i64 0]),⟨none,none,.op false (.store 2 (.tmp 6) (.tmp 9))⟩],.block 1 (.seq (.reg (some [3,5,6]) [Ro 10 (.load1 .any (.tmp 3)),Ld 11 6,Ol 12 (.lookup 71 (.tmp 10) (.tmp 11) false),Ol 13 (.unOp .not 4 (.tmp 12))])
 (.cond (.tmp 13) (.reg (some [5,6]) [Ro 14 (.load1 .slice (.tmp 5)),Ld 15 6,Ro 16 (.buildSlice 2 1 [.int .i64 0,.int .i64 0] [(0,2,(.tmp 15))]),⟨some 17,none,.op false (.old (.call ⟨.builtin .append,#[.tmp 14,.tmp 16],#[23,23]⟩))⟩,⟨none,none,.op false (.store 1 (.tmp 5) (.tmp 17))⟩])
 .skip))⟩)]⟩
theorem r38_ok : resFun (progU ()) hint live 38 Try.f38 = some r38:=by kernel_rfl
def r39 : RFun :=
⟨.seq (.reg (some [0]) [Ol 2 (.assign (.const (.map none)))])
 (.seq (.reg (some [0]) [Mv 9 0,Ca 10 36 [.tmp 9] (some (.tup [.one .slice,.one (.int .i64)])),Mv 8 10,Ex 11 8 0,Ex 12 8 1,As 3 11,As 4 12])
 (.seq (.reg (some [3]) [Ol 13 (.makeMap 71 none),As 5 13])
 (.seq (.seq (.reg (some [3,5]) [Mv 14 3,Ro 15 (.lenS (.tmp 14)),Ol 16 (.move (.const (.int .i64 0)))])
 (.block 0 (.loop 4 (some [5,14,15,16]) (some [5,14,15,16]))))
 (.seq (.reg (some [5]) [Mv 23 5,As 2 23])
 .ret)))),
 [.tmp 2],
 [(4,⟨some [5,14,15,16],some [5,14,15,16],.seq (.reg (some [5,14,15,16]) [Bt 17 .lss 3 16 15])
 (.seq (.cond (.tmp 17) .skip
 (.exit 0 (some [5])))
 (.seq (.block 1 (.seq (.reg (some [5,14,15,16]) [Ix 18 2 14 16,Ld 19 18,⟨some 7,none,.op true (.new 2 [.int .i64 0,.int .i64 0])⟩,⟨none,none,.op false (.store 2 (.tmp 7) (.tmp 19))⟩])
 (.reg (some [5,7,14,15,16]) [Mv 20 5,Ld 21 7,⟨none,none,.op false (.old (.mapUpdate 71 (.tmp 20) (.tmp 21) (.const (.bool true))))⟩])))
 (.reg (some [5,14,15,16]) [Bc 22 .add 3 16 .i64 1,Mv 16 22])))⟩)],
 []⟩
theorem r39_ok : resFun (progU ()) hint live 39 Try.f39 = some r39:=by kernel_rfl
def r40 : RFun :=
⟨.seq (.reg (some [0]) [Ol 2 (.assign (.const (.slice none 0 0)))])
 (.seq (.reg (some [0]) [Mv 9 0,Ca 10 37 [.tmp 9] (some (.tup [.one .slice,.one (.int .i64)])),Mv 8 10,Ex 11 8 0,Ex 12 8 1,As 3 11,As 4 12])
 (.seq (.reg (some [0,3]) [Mv 13 0,Ca 14 24 [.tmp 13] (some (.val (.one .slice))),As 5 14])
 (.seq (.reg (some [3,5]) [Ol 6 (.assign (.const (.slice none 0 0)))])
 (.seq (.seq (.reg (some [3,5,6]) [Ac 7 0])
 (.block 0 (.loop 5 none (some [3,5,6,7]))))
 (.seq (.reg (some [6]) [Mv 35 6,As 2 35])
 .ret))))),
 [.tmp 2],
 [(5,⟨none,some [3,5,6,7],.seq (.seq (.reg (some [3,5,6,7]) [Mv 15 7,Mv 16 5,Ro 17 (.lenS (.tmp 16)),Bt 18 .lss 3 15 17])
 (.cond (.tmp 18) .skip
 (.exit 0 (some [6]))))
 (.seq (.block 1 (.seq (.reg (some [3,5,6,7]) [Mv 21 3,Mv 22 5,Mv 23 7,Ix 24 2 22 23,Ld 25 24,Ca 26 47 [.tmp 21,.tmp 25] (some (.val (.one .bool))),Ol 27 (.unOp .not 4 (.tmp 26))])
 (.cond (.tmp 27) (.reg (some [3,5,6,7]) [Mv 28 6,Mv 29 5,Mv 30 7,Ix 31 2 29 30,Ld 32 31,Ro 33 (.buildSlice 2 1 [.int .i64 0,.int .i64 0] [(0,2,(.tmp 32))]),⟨some 34,none,.op false (.old (.call ⟨.builtin .append,#[.tmp 28,.tmp 33],#[23,23]⟩))⟩,As 6 34])
 .skip)))
 (.reg (some [3,5,6,7]) [Mv 19 7,Bc 20 .add 3 19 .i64 1,As 7 20]))⟩)],
 []⟩
theorem r40_ok : resFun (progU ()) hint live 40 Try.f40 = some r40:=by kernel_rfl
def r41 : RFun :=
⟨.seq (.reg (some [0]) [Ol 2 (.assign (.const (.slice none 0 0))),Ol 3 (.assign (.const (.slice none 0 0)))])
 (.seq (.reg (some [0]) [Mv 11 0,Ca 12 39 [.tmp 11] (some (.val (.one .any))),As 4 12])
 (.seq (.reg (some [0,4]) [Mv 13 0,Mv 14 4,Ca 15 38 [.tmp 13,.tmp 14] (some (.val (.one .slice))),As 5 15])
 (.seq (.reg (some [4,5]) [Ol 6 (.assign (.const (.slice none 0 0)))])
 (.seq (.seq (.reg (some [4,5,6]) [Mv 16 5,Ro 17 (.lenS (.tmp 16)),Ol 18 (.move (.const (.int .i64 0)))])
 (.block 0 (.loop 5 (some [4,5,6,16,17,18]) (some [4,5,6,16,17,18]))))
 (.seq (.reg (some [5,6]) [Mv 42 5,Mv 43 6,As 2 42,As 3 43])
 .ret))))),
 [.tmp 2,.tmp 3],
 [(5,⟨some [4,5,6,16,17,18],some [4,5,6,16,17,18],.seq (.reg (some [4,5,6,16,17,18]) [Bt 19 .lss 3 18 17])
 (.seq (.cond (.tmp 19) .skip
 (.exit 0 (some [5,6])))
 (.seq (.block 1 (.seq (.reg (some [4,5,6,16,17,18]) [Ix 20 2 16 18,Ld 21 20,⟨some 8,none,.op true (.new 2 [.int .i64 0,.int .i64 0])⟩,⟨none,none,.op false (.store 2 (.tmp 8) (.tmp 21))⟩])
 (.seq (.reg (some [4,5,6,8,16,17,18]) [Mv 22 4,Fa 23 1 8,L1 24 23,Fa 25 0 8,L1 26 25,Ca 27 44 [.tmp 22,.tmp 24,.tmp 26] (some (.val (.one .slice))),As 9 27])
 (.seq (.reg (some [4,5,6,8,9,16,17,18]) [Fa 28 0 8,L1 29 28,Ro 30 (.buildSlice 1 1 [.int .i64 0] [(0,1,(.tmp 29))]),As 10 30])
 (.reg (some [4,5,6,9,10,16,17,18]) [Mv 31 6,Mv 32 10,Mv 33 9,Mv 34 9,Ro 35 (.lenS (.tmp 34)),Bc 36 .sub 3 35 .i64 1,Ro 37 (.cutS 38 (.tmp 33) none (some (.tmp 36)) none),⟨some 38,none,.op false (.old (.call ⟨.builtin .append,#[.tmp 32,.tmp 37],#[38,38]⟩))⟩,Ro 39 (.buildSlice 1 1 [.slice none 0 0] [(0,1,(.tmp 38))]),⟨some 40,none,.op false (.old (.call ⟨.builtin .append,#[.tmp 31,.tmp 39],#[33,33]⟩))⟩,As 6 40])))))
 (.reg (some [4,5,6,16,17,18]) [Bc 41 .add 3 18 .i64 1,Mv 18 41])))⟩)],
 []⟩
theorem r41_ok : resFun (progU ()) hint live 41 Try.f41 = some r41:=by kernel_rfl
def r42 : RFun :=
⟨.seq (.reg (some [0]) [Ol 2 (.assign (.const (.slice none 0 0)))])
 (.seq (.reg (some [0]) [Mv 10 0,Ca 11 37 [.tmp 10] (some (.tup [.one .slice,.one (.int .i64)])),Mv 9 11,Ex 12 9 0,Ex 13 9 1,As 3 12,As 4 13])
 (.seq (.reg (some [0,3]) [Mv 14 0,Ca 15 40 [.tmp 14] (some (.val (.one .slice))),As 5 15])
 (.seq (.reg (some [3,5]) [Ol 6 (.assign (.const (.slice none 0 0)))])
 (.seq (.seq (.reg (some [3,5,6]) [Ac 7 0])
 (.block 0 (.loop 5 (some [3,5,6,7]) (some [3,5,6,7]))))
 (.seq (.reg (some [6]) [Mv 49 6,As 2 49])
 .ret))))),
 [.tmp 2],
 [(5,⟨some [3,5,6,7],some [3,5,6,7],.seq (.seq (.reg (some [3,5,6,7]) [Mv 16 7,Mv 17 5,Ro 18 (.lenS (.tmp 17)),Bt 19 .lss 3 16 18])
 (.cond (.tmp 19) .skip
 (.exit 0 (some [6]))))
 (.seq (.block 1 (.seq (.draw (some [3,5,6,7]) 13 [Dr (Mv 22 3) 0 [11,12],Dr (Mv 23 5) 1 [3,4,5,11,12],Dr (Mv 24 7) 2 [3,4,5,11,12],Dr (Ix 25 2 23 24) 3 [4,5,11,12],Dr (Fa 26 1 25) 4 [5,11,12],Db (L1 27 26) 5 26 [11,12],Dr (Mv 28 5) 6 [8,9,10,11,12],Dr (Mv 29 7) 7 [8,9,10,11,12],Dr (Ix 30 2 28 29) 8 [9,10,11,12],Dr (Fa 31 0 30) 9 [10,11,12],Db (L1 32 31) 10 31 [11,12],⟨Ca 33 45 [.tmp 22,.tmp 27,.tmp 32,.const (.int .i64 (-1))] (some (.val (.one .slice))),11,.all,[12],false,false⟩,Dr (As 8 33) 12 []])
 (.draw (some [3,5,6,7,8]) 16 [Dr (Mv 34 6) 0 [14,15],Dr (Mv 35 5) 1 [3,4,5,6,12,13,14,15],Dr (Mv 36 7) 2 [3,4,5,6,12,13,14,15],Dr (Ix 37 2 35 36) 3 [4,5,6,12,13,14,15],Dr (Fa 38 0 37) 4 [5,6,12,13,14,15],Db (L1 39 38) 5 38 [6,12,13,14,15],⟨Ro 40 (.buildSlice 1 1 [.int .i64 0] [(0,1,(.tmp 39))]),6,.new false,[12,13,14,15],false,true⟩,Dr (Mv 41 8) 7 [11,12,13,14,15],Dr (Mv 42 8) 8 [9,10,11,12,13,14,15],Dr (Ro 43 (.lenS (.tmp 42))) 9 [10,11,12,13,14,15],Dr (Bc 44 .sub 3 43 .i64 1) 10 [11,12,13,14,15],Dr (Ro 45 (.cutS 38 (.tmp 41) none (some (.tmp 44)) none)) 11 [12,13,14,15],⟨⟨some 46,none,.op false (.old (.call ⟨.builtin .append,#[.tmp 40,.tmp 45],#[38,38]⟩))⟩,12,.app [.tmp 40,.tmp 45],[13,14,15],false,false⟩,⟨Ro 47 (.buildSlice 1 1 [.slice none 0 0] [(0,1,(.tmp 46))]),13,.new false,[14,15],false,true⟩,⟨⟨some 48,none,.op false (.old (.call ⟨.builtin .append,#[.tmp 34,.tmp 47],#[33,33]⟩))⟩,14,.app [.tmp 34,.tmp 47],[15],false,false⟩,Dr (As 6 48) 15 []])))
 (.reg (some [3,5,6,7]) [Mv 20 7,Bc 21 .add 3 20 .i64 1,As 7 21]))⟩)],
 []⟩
theorem r42_ok : resFun (progU ()) hint live 42 Try.f42 = some r42:=by kernel_rfl
def r43 : RFun :=
⟨.seq (.reg (some [0]) [Ol 2 (.assign (.const (.map none)))])
 (.seq (.reg (some [0]) [Ol 6 (.makeMap 76 none),As 3 6])
 (.seq (.seq (.reg (some [0,3]) [Mv 7 0,Ro 8 (.lenS (.tmp 7)),Ol 9 (.move (.const (.int .i64 0)))])
 (.block 0 (.loop 3 (some [3,7,8,9]) (some [3,7,8,9]))))
 (.seq (.reg (some [3]) [Mv 20 3,As 2 20])
 .ret))),
 [.tmp 2],
 [(3,⟨some [3,7,8,9],some [3,7,8,9],.seq (.reg (some [3,7,8,9]) [Bt 10 .lss 3 9 8])
 (.seq (.cond (.tmp 10) .skip
 (.exit 0 (some [3])))
 (.seq (.block 1 (.seq (.reg (some [3,7,8,9]) [Ix 11 6 7 9,Ro 12 (.load 6 [.int .i64,.int .i64,.int .i64,.int .i64,.int .i64,.int .i64] (.tmp 11)),⟨some 5,none,.op true (.new 6 [.int .i64 0,.int .i64 0,.int .i64 0,.int .i64 0,.int .i64 0,.int .i64 0])⟩,⟨none,none,.op false (.store 6 (.tmp 5) (.tmp 12))⟩])
 (.seq (.reg (some [3,5,7,8,9]) [Mv 13 3,Fa 14 0 5,L1 15 14,⟨none,none,.op false (.old (.mapUpdate 76 (.tmp 13) (.tmp 15) (.const (.bool false))))⟩])
 (.reg (some [3,5,7,8,9]) [Mv 16 3,Fa 17 1 5,L1 18 17,⟨none,none,.op false (.old (.mapUpdate 76 (.tmp 16) (.tmp 18) (.const (.bool false))))⟩]))))
 (.reg (some [3,7,8,9]) [Bc 19 .add 3 9 .i64 1,Mv 9 19])))⟩)],
 []⟩
theorem r43_ok : resFun (progU ()) hint live 43 Try.f43 = some r43:=by kernel_rfl
def r45 : RFun :=
⟨.seq (.reg (some [0,1,2,3]) [Ol 8 (.assign (.const (.slice none 0 0)))])
 (.seq (.seq (.reg (some [0,1,2,3]) [Mv 12 1,Mv 13 2,Bt 14 .eql 3 12 13])
 (.cond (.tmp 14) (.seq (.reg (some [1]) [Mv 15 1,Ro 16 (.buildSlice 1 1 [.int .i64 0] [(0,1,(.tmp 15))]),As 8 16])
 .ret)
 .skip))
 (.seq (.seq (.reg (some [0,1,2,3]) [Ac 9 0])
 (.block 0 (.loop 4 none (some [0,1,2,3,9]))))
 (.seq (.reg (some []) [Ol 8 (.assign (.const (.slice none 0 0)))])
 .ret))),
 [.tmp 8],
 [(4,⟨none,some [0,1,2,3,9],.seq (.seq (.reg (some [0,1,2,3,9]) [Mv 17 9,Mv 18 0,Ro 19 (.lenS (.tmp 18)),Bt 20 .lss 3 17 19])
 (.cond (.tmp 20) .skip
 (.exit 0 (some []))))
 (.seq (.block 1 (.seq (.reg (some [0,1,2,3,9]) [Ol 10 (.assign (.const (.int .i64 (-1))))])
 (.seq (.seq (.reg (some [0,1,2,3,9,10]) [Mv 23 0,Mv 24 9,Ix 25 2 23 24,Fa 26 0 25,L1 27 26,Mv 28 1,Bt 29 .eql 3 27 28])
 (.cond (.tmp 29) (.reg (some [0,1,2,3,9]) [Mv 30 0,Mv 31 9,Ix 32 2 30 31,Fa 33 1 32,L1 34 33,As 10 34])
 .skip))
 (.seq (.seq (.reg (some [0,1,2,3,9,10]) [Mv 35 0,Mv 36 9,Ix 37 2 35 36,Fa 38 1 37,L1 39 38,Mv 40 1,Bt 41 .eql 3 39 40])
 (.cond (.tmp 41) (.reg (some [0,1,2,3,9]) [Mv 42 0,Mv 43 9,Ix 44 2 42 43,Fa 45 0 44,L1 46 45,As 10 46])
 .skip))
 (.seq (.seq (.reg (some [0,1,2,3,9,10]) [Mv 47 10,Bc 48 .lss 3 47 .i64 0,Mv 49 48,⟨some 50,some (49,false),.op false (.old (.move (.tmp 10)))⟩,⟨some 51,some (49,false),.op false (.old (.move (.tmp 3)))⟩,⟨some 52,some (49,false),.op false (.old (.binOp .eql 3 (.tmp 50) (.tmp 51) 3))⟩,Ol 53 (.pick (.tmp 49) (.const (.bool true)) (.tmp 52))])
 (.cond (.tmp 53) (.exit 1 (some [0,1,2,3,9]))
 .skip))
 (.seq (.reg (some [0,1,2,3,9,10]) [Mv 54 0,Mv 55 10,Mv 56 2,Mv 57 1,Ca 58 45 [.tmp 54,.tmp 55,.tmp 56,.tmp 57] (some (.val (.one .slice))),As 11 58])
 (.seq (.reg (some [0,1,2,3,9,11]) [Mv 59 11,Ro 60 (.lenS (.tmp 59)),Bc 61 .gtr 3 60 .i64 0])
 (.cond (.tmp 61) (.seq (.reg (some [1,11]) [Mv 62 1,Ro 63 (.buildSlice 1 1 [.int .i64 0] [(0,1,(.tmp 62))]),Mv 64 11,⟨some 65,none,.op false (.old (.call ⟨.builtin .append,#[.tmp 63,.tmp 64],#[38,38]⟩))⟩,As 8 65])
 .ret)
 .skip))))))))
 (.reg (some [0,1,2,3,9]) [Mv 21 9,Bc 22 .add 3 21 .i64 1,As 9 22]))⟩)],
 []⟩
theorem r45_ok : resFun (progU ()) hint live 45 Try.f45 = some r45:=by kernel_rfl
def r46 : RFun :=
⟨.seq (.reg (some [0,1]) [Ac 4 0])
 (.seq (.seq (.reg (some [0,1]) [Mv 6 0,Ro 7 (.lenS (.tmp 6)),Bc 8 .gtr 3 7 .i64 64])
 (.cond (.tmp 8) (.seq (.reg (some []) [Ac 4 4])
 .ret)
 .skip))
 (.seq (.seq (.reg (some [0,1]) [Ac 5 0])
 (.block 0 (.loop 4 none (some [0,1,5]))))
 (.seq (.reg (some []) [Ac 4 0])
 .ret))),
 [.tmp 4],
 [(4,⟨none,some [0,1,5],.seq (.seq (.reg (some [0,1,5]) [Mv 9 5,Mv 10 0,Ro 11 (.lenS (.tmp 10)),Bt 12 .lss 3 9 11])
 (.cond (.tmp 12) .skip
 (.exit 0 (some []))))
 (.seq (.block 1 (.seq (.reg (some [0,1,5]) [Mv 15 0,Mv 16 5,Ix 17 6 15 16,Ro 18 (.load 6 [.int .i64,.int .i64,.int .i64,.int .i64,.int .i64,.int .i64] (.tmp 17)),Mv 19 1,Ca 20 66 [.tmp 18,.tmp 19] (some (.val (.one .bool))),Ol 21 (.unOp .not 4 (.tmp 20))])
 (.cond (.tmp 21) (.seq (.reg (some []) [Ac 4 8])
 .ret)
 .skip)))
 (.reg (some [0,1,5]) [Mv 13 5,Bc 14 .add 3 13 .i64 1,As 5 14]))⟩)],
 []⟩
theorem r46_ok : resFun (progU ()) hint live 46 Try.f46 = some r46:=by kernel_rfl
def r47 : RFun :=
⟨.seq (.reg (some [0,1]) [⟨some 3,none,.op true (.box 2 (.tmp 1))⟩,Ol 4 (.assign (.const (.bool false)))])
 (.seq (.seq (.reg (some [0,3]) [Ac 5 0])
 (.block 0 (.loop 2 (some [0,3,5]) (some [0,3,5]))))
 (.seq (.reg (some []) [Ol 4 (.assign (.const (.bool false)))])
 .ret)),
 [.tmp 4],
 [(2,⟨some [0,3,5],some [0,3,5],.seq (.seq (.reg (some [0,3,5]) [Mv 6 5,Mv 7 0,Ro 8 (.lenS (.tmp 7)),Bt 9 .lss 3 6 8])
 (.cond (.tmp 9) .skip
 (.exit 0 (some []))))
 (.seq (.block 1 (.seq (.draw (some [0,3,5]) 6 [Dr (Mv 12 0) 0 [2,3,5],Dr (Mv 13 5) 1 [2,3,5],Dr (Ix 14 2 12 13) 2 [3,5],Db (Ld 15 14) 3 14 [5],Db (Ld 16 3) 4 3 [5],Dr (Bt 17 .eql 54 15 16) 5 []])
 (.cond (.tmp 17) (.seq (.reg (some []) [Ol 4 (.assign (.const (.bool true)))])
 .ret)
 .skip)))
 (.reg (some [0,3,5]) [Mv 10 5,Bc 11 .add 3 10 .i64 1,As 5 11]))⟩)],
 []⟩
theorem r47_ok : resFun (progU ()) hint live 47 Try.f47 = some r47:=by kernel_rfl
end Go.Proofs.Ytmkiclinllifiaa
