import Derived.Test.YtnokkniofajnhaaSeat0
import Derived.Test.YtnokkniofajnhaaSymS
set_option linter.unusedSimpArgs false
set_option linter.unusedVariables false
namespace Go.Proofs.Ytnokkniofajnhaa
open Go.Sim
set_option maxRecDepth 100000
def r2 : RFun :=
⟨.reg (some []) [Ca 0 1 [] (some (.tup []))],
 [],
 [],
 []⟩
def r9 : RFun :=
⟨.seq (.reg (some [0]) [Ol 2 (.assign (.const (.bool false)))])
 (.seq (.reg (some [0]) [Mv 3 0,Ro 4 (.lenS (.tmp 3)),Bc 5 .gtr 3 4 .i64 60,As 2 5])
 .ret),
 [.tmp 2],
 [],
 []⟩
theorem r9_ok : resFun (progU ()) hint live 9 Try.f9 = some r9:=by kernel_rfl
def r10 : RFun :=
⟨.seq (.reg (some [0,1]) [⟨some 3,none,.op true (.box 2 (.tmp 1))⟩,⟨some 4,none,.op true (.new 2 [.int .i64 0,.int .i64 0])⟩,Ac 5 0])
 (.seq (.seq (.reg (some [0,3,4]) [Mv 7 0,Ca 8 14 [.tmp 7] (some (.val (.one (.int .i64)))),As 6 8])
 (.seq (.reg (some [0,3,4,6]) [Mv 9 6,Bc 10 .neq 26 9 .i64 0])
 (.cond (.tmp 10) (.seq (.reg (some [4,6]) [Ro 11 (.build [.int .i64 0,.int .i64 0] []),Mv 12 6,⟨none,none,.op false (.store 2 (.tmp 4) (.tmp 11))⟩,As 5 12])
 .ret)
 .skip)))
 (.seq (.seq (.reg (some [0,3,4]) [Ld 13 3,Ca 14 32 [.tmp 13] (some (.val (.one (.int .i64)))),Bc 15 .neq 26 14 .i64 0])
 (.cond (.tmp 15) (.seq (.reg (some [4]) [Ro 16 (.build [.int .i64 0,.int .i64 0] []),⟨none,none,.op false (.store 2 (.tmp 4) (.tmp 16))⟩,Ac 5 8])
 .ret)
 .skip))
 (.seq (.seq (.reg (some [0,3,4]) [Ld 17 3,Ca 18 33 [.tmp 17,.const (.int .i64 10000)] (some (.val (.one .bool))),Ol 19 (.unOp .not 4 (.tmp 18))])
 (.cond (.tmp 19) (.seq (.reg (some [4]) [Ro 20 (.build [.int .i64 0,.int .i64 0] []),⟨none,none,.op false (.store 2 (.tmp 4) (.tmp 20))⟩,Ac 5 16])
 .ret)
 .skip))
 (.seq (.seq (.draw (some [0,3,4]) 19 [Db (Ld 21 3) 0 3 [5,6,7,8,9,10,11,12,13,14,15,16,17,18],Dr (Mv 22 0) 1 [2,3,4,5,6,7,8,9,10,11,12,13,14,15,16,17,18],Dr (Ro 23 (.ixS 4 (.tmp 22) (.const (.int .i64 0)))) 2 [3,4,5,6,7,8,9,10,11,12,13,14,15,16,17,18],Dr (Fa 24 0 23) 3 [4,5,6,7,8,9,10,11,12,13,14,15,16,17,18],Db (Ld 25 24) 4 24 [5,6,7,8,9,10,11,12,13,14,15,16,17,18],⟨Ca 26 34 [.tmp 21,.tmp 25] (some (.val (.one (.int .i64)))),5,.all,[6,7,8,9,10,11,12,13,14,15,16,17,18],false,false⟩,Dr (Bc 27 .lss 3 26 .i64 0) 6 [7,8,9,10,11,12,13,14,15,16,17,18],Dr (Mv 28 27) 7 [8,9,10,11,12,13,14,15,16,17,18],⟨⟨some 29,some (28,false),.op false (.load 2 [.int .i64,.int .i64] (.tmp 3))⟩,8,.blk (.tmp 3),[16,17,18],false,true⟩,⟨⟨some 30,some (28,false),.op false (.old (.move (.tmp 0)))⟩,9,.none,[13,14,15,16,17,18],false,true⟩,⟨⟨some 31,some (28,false),.op false (.old (.move (.tmp 0)))⟩,10,.none,[11,12,13,14,15,16,17,18],false,true⟩,⟨⟨some 32,some (28,false),.op false (.lenS (.tmp 31))⟩,11,.none,[12,13,14,15,16,17,18],false,true⟩,⟨⟨some 33,some (28,false),.op false (.old (.binOp .sub 3 (.tmp 32) (.const (.int .i64 1)) 3))⟩,12,.none,[13,14,15,16,17,18],false,true⟩,⟨⟨some 34,some (28,false),.op false (.ixS 4 (.tmp 30) (.tmp 33))⟩,13,.none,[14,15,16,17,18],false,true⟩,⟨⟨some 35,some (28,false),.op false (.fieldAddr 0 (.tmp 34))⟩,14,.none,[15,16,17,18],false,true⟩,⟨⟨some 36,some (28,false),.op false (.load 2 [.int .i64,.int .i64] (.tmp 35))⟩,15,.blk (.tmp 35),[16,17,18],false,true⟩,⟨⟨some 37,some (28,false),.call (.func 34) [.tmp 29,.tmp 36] (some (.val (.one (.int .i64))))⟩,16,.all,[17,18],false,false⟩,⟨⟨some 38,some (28,false),.op false (.old (.binOp .gtr 3 (.tmp 37) (.const (.int .i64 0)) 3))⟩,17,.none,[18],false,true⟩,Dr (Ol 39 (.pick (.tmp 28) (.const (.bool true)) (.tmp 38))) 18 []])
 (.cond (.tmp 39) (.seq (.reg (some [4]) [Ro 40 (.build [.int .i64 0,.int .i64 0] []),⟨none,none,.op false (.store 2 (.tmp 4) (.tmp 40))⟩,Ac 5 6])
 .ret)
 .skip))
 (.seq (.reg (some [0,3,4]) [Mv 41 0,Ld 42 3,Ca 43 35 [.tmp 41,.tmp 42] (some (.tup [.agg [.int .i64,.int .i64],.one (.int .i64)])),Ex 44 43 0,Ex 45 43 1,⟨none,none,.op false (.store 2 (.tmp 4) (.tmp 44))⟩,As 5 45])
 .ret))))),
 [.agg 4 2 [.int .i64,.int .i64],.tmp 5],
 [],
 []⟩
theorem r10_ok : resFun (progU ()) hint live 10 Try.f10 = some r10:=by kernel_rfl
def r11 : RFun :=
⟨.seq (.reg (some [0,1]) [⟨some 3,none,.op true (.box 2 (.tmp 1))⟩,⟨some 4,none,.op true (.new 2 [.int .i64 0,.int .i64 0])⟩,Ac 5 0])
 (.seq (.seq (.reg (some [0,3,4]) [Mv 6 0,Ca 7 15 [.tmp 6] (some (.val (.one (.int .i64)))),Bc 8 .neq 3 7 .i64 0])
 (.cond (.tmp 8) (.seq (.reg (some [0,4]) [Ro 9 (.build [.int .i64 0,.int .i64 0] []),Mv 10 0,Ca 11 15 [.tmp 10] (some (.val (.one (.int .i64)))),⟨none,none,.op false (.store 2 (.tmp 4) (.tmp 9))⟩,As 5 11])
 .ret)
 .skip))
 (.seq (.seq (.reg (some [0,3,4]) [Ld 12 3,Ca 13 28 [.tmp 12] (some (.val (.one (.int .i64)))),Bc 14 .neq 3 13 .i64 0])
 (.cond (.tmp 14) (.seq (.reg (some [4]) [Ro 15 (.build [.int .i64 0,.int .i64 0] []),⟨none,none,.op false (.store 2 (.tmp 4) (.tmp 15))⟩,Ac 5 8])
 .ret)
 .skip))
 (.seq (.seq (.reg (some [0,3,4]) [Ld 16 3,Ca 17 29 [.tmp 16,.const (.int .i64 10000)] (some (.val (.one .bool))),Ol 18 (.unOp .not 4 (.tmp 17))])
 (.cond (.tmp 18) (.seq (.reg (some [4]) [Ro 19 (.build [.int .i64 0,.int .i64 0] []),⟨none,none,.op false (.store 2 (.tmp 4) (.tmp 19))⟩,Ac 5 16])
 .ret)
 .skip))
 (.seq (.seq (.draw (some [0,3,4]) 17 [Db (Ld 20 3) 0 3 [5,6,7,8,9,10,11,12,13,14,15,16],Dr (Mv 21 0) 1 [2,3,4,5,6,7,8,9,10,11,12,13,14,15,16],Dr (Ro 22 (.ixS 4 (.tmp 21) (.const (.int .i64 0)))) 2 [3,4,5,6,7,8,9,10,11,12,13,14,15,16],Dr (Fa 23 0 22) 3 [4,5,6,7,8,9,10,11,12,13,14,15,16],Db (Ld 24 23) 4 23 [5,6,7,8,9,10,11,12,13,14,15,16],⟨Ca 25 27 [.tmp 20,.tmp 24] (some (.val (.one .bool))),5,.all,[6,7,8,9,10,11,12,13,14,15,16],false,false⟩,Dr (Mv 26 25) 6 [7,8,9,10,11,12,13,14,15,16],⟨⟨some 27,some (26,false),.op false (.old (.move (.tmp 0)))⟩,7,.none,[11,12,13,15,16],false,true⟩,⟨⟨some 28,some (26,false),.op false (.old (.move (.tmp 0)))⟩,8,.none,[9,10,11,12,13,15,16],false,true⟩,⟨⟨some 29,some (26,false),.op false (.lenS (.tmp 28))⟩,9,.none,[10,11,12,13,15,16],false,true⟩,⟨⟨some 30,some (26,false),.op false (.old (.binOp .sub 3 (.tmp 29) (.const (.int .i64 1)) 3))⟩,10,.none,[11,12,13,15,16],false,true⟩,⟨⟨some 31,some (26,false),.op false (.ixS 4 (.tmp 27) (.tmp 30))⟩,11,.none,[12,13,15,16],false,true⟩,⟨⟨some 32,some (26,false),.op false (.fieldAddr 0 (.tmp 31))⟩,12,.none,[13,15,16],false,true⟩,⟨⟨some 33,some (26,false),.op false (.load 2 [.int .i64,.int .i64] (.tmp 32))⟩,13,.blk (.tmp 32),[15,16],false,true⟩,⟨⟨some 34,some (26,false),.op false (.load 2 [.int .i64,.int .i64] (.tmp 3))⟩,14,.blk (.tmp 3),[15,16],false,true⟩,⟨⟨some 35,some (26,false),.call (.func 27) [.tmp 33,.tmp 34] (some (.val (.one .bool)))⟩,15,.all,[16],false,false⟩,Dr (Ol 36 (.pick (.tmp 26) (.const (.bool true)) (.tmp 35))) 16 []])
 (.cond (.tmp 36) (.seq (.reg (some [4]) [Ro 37 (.build [.int .i64 0,.int .i64 0] []),⟨none,none,.op false (.store 2 (.tmp 4) (.tmp 37))⟩,Ac 5 6])
 .ret)
 .skip))
 (.seq (.reg (some [0,3,4]) [Mv 38 0,Ld 39 3,Ca 40 36 [.tmp 38,.tmp 39] (some (.val (.agg [.int .i64,.int .i64]))),⟨none,none,.op false (.store 2 (.tmp 4) (.tmp 40))⟩,Ac 5 0])
 .ret))))),
 [.agg 4 2 [.int .i64,.int .i64],.tmp 5],
 [],
 []⟩
def r12 : RFun :=
⟨.seq (.reg (some [0]) [Ol 2 (.assign (.const (.slice none 0 0))),Ac 3 0])
 (.seq (.seq (.reg (some [0]) [Mv 5 0,Ca 6 14 [.tmp 5] (some (.val (.one (.int .i64)))),As 4 6])
 (.seq (.reg (some [0,4]) [Mv 7 4,Bc 8 .neq 26 7 .i64 0])
 (.cond (.tmp 8) (.seq (.reg (some [4]) [Mv 9 4,Ol 2 (.assign (.const (.slice none 0 0))),As 3 9])
 .ret)
 .skip)))
 (.seq (.reg (some [0]) [Mv 10 0,Ca 11 37 [.tmp 10] (some (.val (.one .slice))),As 2 11,Ac 3 0])
 .ret)),
 [.tmp 2,.tmp 3],
 [],
 []⟩
theorem r12_ok : resFun (progU ()) hint live 12 Try.f12 = some r12:=by kernel_rfl
def r14 : RFun :=
⟨.seq (.reg (some [0]) [Ac 2 0])
 (.seq (.seq (.reg (some [0]) [Mv 5 0,Ro 6 (.lenS (.tmp 5)),Bc 7 .gtr 3 6 .i64 40])
 (.cond (.tmp 7) (.seq (.reg (some []) [Ac 2 4])
 .ret)
 .skip))
 (.seq (.seq (.reg (some [0]) [Mv 8 0,Ro 9 (.lenS (.tmp 8)),Bc 10 .lss 3 9 .i64 2])
 (.cond (.tmp 10) (.seq (.reg (some []) [Ac 2 8])
 .ret)
 .skip))
 (.seq (.seq (.reg (some [0]) [Mv 11 0,Ro 12 (.lenS (.tmp 11)),Ol 13 (.move (.const (.int .i64 0)))])
 (.block 0 (.loop 6 (some [0,11,12,13]) (some [0,11,12,13]))))
 (.seq (.reg (some []) [Ac 2 0])
 .ret)))),
 [.tmp 2],
 [(6,⟨some [0,11,12,13],some [0,11,12,13],.seq (.reg (some [0,11,12,13]) [Bt 14 .lss 3 13 12])
 (.seq (.cond (.tmp 14) .skip
 (.exit 0 (some [])))
 (.seq (.block 1 (.seq (.reg (some [0,11,12,13]) [Mv 15 13,Ix 16 4 11 13,Ro 17 (.load 4 [.int .i64,.int .i64,.int .i64,.int .i64] (.tmp 16)),⟨some 4,none,.op true (.new 4 [.int .i64 0,.int .i64 0,.int .i64 0,.int .i64 0])⟩,As 3 15,⟨none,none,.op false (.store 4 (.tmp 4) (.tmp 17))⟩])
 (.seq (.seq (.reg (some [0,3,4,11,12,13]) [Fa 18 0 4,Ld 19 18,Ca 20 33 [.tmp 19,.const (.int .i64 100)] (some (.val (.one .bool))),Ol 21 (.unOp .not 4 (.tmp 20)),Mv 22 21,⟨some 23,some (22,false),.op false (.fieldAddr 2 (.tmp 4))⟩,⟨some 24,some (22,false),.op false (.load 2 [.int .i64,.int .i64] (.tmp 23))⟩,⟨some 25,some (22,false),.call (.func 33) [.tmp 24,.const (.int .i64 100)] (some (.val (.one .bool)))⟩,⟨some 26,some (22,false),.op false (.old (.unOp .not 4 (.tmp 25)))⟩,Ol 27 (.pick (.tmp 22) (.const (.bool true)) (.tmp 26))])
 (.cond (.tmp 27) (.seq (.reg (some []) [Ac 2 8])
 .ret)
 .skip))
 (.seq (.draw (some [0,3,4,11,12,13]) 26 [Dr (Mv 28 3) 0 [1,2,3,4,5,6,7,8,9,10,11,12,13,14,15,16,17,18,19,20,21,22,23,24,25],Dr (Bc 29 .gtr 3 28 .i64 0) 1 [2,3,4,5,6,7,8,9,10,11,12,13,14,15,16,17,18,19,20,21,22,23,24,25],Dr (Mv 30 29) 2 [3,4,5,6,7,8,9,10,11,12,13,14,15,16,17,18,19,20,21,22,23,24,25],⟨⟨some 31,some (30,true),.op false (.old (.move (.tmp 0)))⟩,3,.none,[6,7,8,11,12,13,14,15,16,17,18,19,20,21,22,23,24,25],false,true⟩,⟨⟨some 32,some (30,true),.op false (.old (.move (.tmp 3)))⟩,4,.none,[5,6,7,8,11,12,13,14,15,16,17,18,19,20,21,22,23,24,25],false,true⟩,⟨⟨some 33,some (30,true),.op false (.old (.binOp .sub 3 (.tmp 32) (.const (.int .i64 1)) 3))⟩,5,.none,[6,7,8,11,12,13,14,15,16,17,18,19,20,21,22,23,24,25],false,true⟩,⟨⟨some 34,some (30,true),.op false (.ixS 4 (.tmp 31) (.tmp 33))⟩,6,.none,[7,8,11,12,13,14,15,16,17,18,19,20,21,22,23,24,25],false,true⟩,⟨⟨some 35,some (30,true),.op false (.fieldAddr 0 (.tmp 34))⟩,7,.none,[8,11,12,13,14,15,16,17,18,19,20,21,22,23,24,25],false,true⟩,⟨⟨some 36,some (30,true),.op false (.load 2 [.int .i64,.int .i64] (.tmp 35))⟩,8,.blk (.tmp 35),[11,12,13,14,15,16,17,18,19,20,21,22,23,24,25],false,true⟩,⟨⟨some 37,some (30,true),.op false (.fieldAddr 0 (.tmp 4))⟩,9,.none,[10,11,12,13,14,15,16,17,18,19,20,21,22,23,24,25],false,true⟩,⟨⟨some 38,some (30,true),.op false (.load 2 [.int .i64,.int .i64] (.tmp 37))⟩,10,.blk (.tmp 37),[11,12,13,14,15,16,17,18,19,20,21,22,23,24,25],false,true⟩,⟨⟨some 39,some (30,true),.call (.func 34) [.tmp 36,.tmp 38] (some (.val (.one (.int .i64))))⟩,11,.all,[12,13,14,15,16,17,18,19,20,21,22,23,24,25],false,false⟩,⟨⟨some 40,some (30,true),.op false (.old (.binOp .geq 3 (.tmp 39) (.const (.int .i64 0)) 3))⟩,12,.none,[13,14,15,16,17,18,19,20,21,22,23,24,25],false,true⟩,⟨⟨some 41,some (30,true),.op false (.old (.move (.tmp 40)))⟩,13,.none,[14,15,16,17,18,19,20,21,22,23,24,25],false,true⟩,⟨⟨some 42,some (41,false),.op false (.old (.move (.tmp 0)))⟩,14,.none,[17,18,19,22,23,24,25],false,true⟩,⟨⟨some 43,some (41,false),.op false (.old (.move (.tmp 3)))⟩,15,.none,[16,17,18,19,22,23,24,25],false,true⟩,⟨⟨some 44,some (41,false),.op false (.old (.binOp .sub 3 (.tmp 43) (.const (.int .i64 1)) 3))⟩,16,.none,[17,18,19,22,23,24,25],false,true⟩,⟨⟨some 45,some (41,false),.op false (.ixS 4 (.tmp 42) (.tmp 44))⟩,17,.none,[18,19,22,23,24,25],false,true⟩,⟨⟨some 46,some (41,false),.op false (.fieldAddr 2 (.tmp 45))⟩,18,.none,[19,22,23,24,25],false,true⟩,⟨⟨some 47,some (41,false),.op false (.load 2 [.int .i64,.int .i64] (.tmp 46))⟩,19,.blk (.tmp 46),[22,23,24,25],false,true⟩,⟨⟨some 48,some (41,false),.op false (.fieldAddr 2 (.tmp 4))⟩,20,.none,[21,22,23,24,25],false,true⟩,⟨⟨some 49,some (41,false),.op false (.load 2 [.int .i64,.int .i64] (.tmp 48))⟩,21,.blk (.tmp 48),[22,23,24,25],false,true⟩,⟨⟨some 50,some (41,false),.call (.func 34) [.tmp 47,.tmp 49] (some (.val (.one (.int .i64))))⟩,22,.all,[23,24,25],false,false⟩,⟨⟨some 51,some (41,false),.op false (.old (.binOp .geq 3 (.tmp 50) (.const (.int .i64 0)) 3))⟩,23,.none,[24,25],false,true⟩,⟨⟨some 52,some (30,true),.op false (.old (.pick (.tmp 41) (.const (.bool true)) (.tmp 51)))⟩,24,.none,[25],false,true⟩,Dr (Ol 53 (.pick (.tmp 30) (.tmp 52) (.const (.bool false)))) 25 []])
 (.cond (.tmp 53) (.seq (.reg (some []) [Ac 2 8])
 .ret)
 .skip)))))
 (.reg (some [0,11,12,13]) [Bc 54 .add 3 13 .i64 1,Mv 13 54])))⟩)],
 []⟩
theorem r14_ok : resFun (progU ()) hint live 14 Try.f14 = some r14:=by kernel_rfl
def r15 : RFun :=
⟨.seq (.reg (some [0]) [Ac 2 0])
 (.seq (.seq (.reg (some [0]) [Mv 5 0,Ro 6 (.lenS (.tmp 5)),Bc 7 .gtr 3 6 .i64 40])
 (.cond (.tmp 7) (.seq (.reg (some []) [Ac 2 4])
 .ret)
 .skip))
 (.seq (.seq (.reg (some [0]) [Ac 3 0])
 (.block 0 (.loop 4 none (some [0,3]))))
 (.seq (.seq (.reg (some [0]) [Ac 4 1])
 (.block 2 (.loop 9 (some [0,4]) (some [0,4]))))
 (.seq (.seq (.reg (some [0]) [Mv 64 0,Ro 65 (.lenS (.tmp 64)),Bc 66 .lss 3 65 .i64 2])
 (.cond (.tmp 66) (.seq (.reg (some []) [Ac 2 8])
 .ret)
 .skip))
 (.seq (.reg (some []) [Ac 2 0])
 .ret))))),
 [.tmp 2],
 [(4,⟨none,some [0,3],.seq (.seq (.reg (some [0,3]) [Mv 8 3,Mv 9 0,Ro 10 (.lenS (.tmp 9)),Bt 11 .lss 3 8 10])
 (.cond (.tmp 11) .skip
 (.exit 0 (some [0]))))
 (.seq (.block 1 (.seq (.reg (some [0,3]) [Mv 14 0,Mv 15 3,Ix 16 4 14 15,Fa 17 0 16,Ld 18 17,Ca 19 29 [.tmp 18,.const (.int .i64 100)] (some (.val (.one .bool))),Ol 20 (.unOp .not 4 (.tmp 19)),Mv 21 20,⟨some 22,some (21,false),.op false (.old (.move (.tmp 0)))⟩,⟨some 23,some (21,false),.op false (.old (.move (.tmp 3)))⟩,⟨some 24,some (21,false),.op false (.ixS 4 (.tmp 22) (.tmp 23))⟩,⟨some 25,some (21,false),.op false (.fieldAddr 2 (.tmp 24))⟩,⟨some 26,some (21,false),.op false (.load 2 [.int .i64,.int .i64] (.tmp 25))⟩,⟨some 27,some (21,false),.call (.func 29) [.tmp 26,.const (.int .i64 100)] (some (.val (.one .bool)))⟩,⟨some 28,some (21,false),.op false (.old (.unOp .not 4 (.tmp 27)))⟩,Ol 29 (.pick (.tmp 21) (.const (.bool true)) (.tmp 28))])
 (.cond (.tmp 29) (.seq (.reg (some []) [Ac 2 8])
 .ret)
 .skip)))
 (.reg (some [0,3]) [Mv 12 3,Bc 13 .add 3 12 .i64 1,As 3 13]))⟩),(9,⟨some [0,4],some [0,4],.seq (.seq (.reg (some [0,4]) [Mv 30 4,Mv 31 0,Ro 32 (.lenS (.tmp 31)),Bt 33 .lss 3 30 32])
 (.cond (.tmp 33) .skip
 (.exit 2 (some [0]))))
 (.seq (.block 3 (.seq (.draw (some [0,4]) 28 [Dr (Mv 36 0) 0 [3,4,5,11,12,13,14,15,16,17,18,19,20,21,22,23,24,25,26,27],Dr (Mv 37 4) 1 [2,3,4,5,11,12,13,14,15,16,17,18,19,20,21,22,23,24,25,26,27],Dr (Bc 38 .sub 3 37 .i64 1) 2 [3,4,5,11,12,13,14,15,16,17,18,19,20,21,22,23,24,25,26,27],Dr (Ix 39 4 36 38) 3 [4,5,11,12,13,14,15,16,17,18,19,20,21,22,23,24,25,26,27],Dr (Fa 40 0 39) 4 [5,11,12,13,14,15,16,17,18,19,20,21,22,23,24,25,26,27],Db (Ld 41 40) 5 40 [11,12,13,14,15,16,17,18,19,20,21,22,23,24,25,26,27],Dr (Mv 42 0) 6 [8,9,10,11,12,13,14,15,16,17,18,19,20,21,22,23,24,25,26,27],Dr (Mv 43 4) 7 [8,9,10,11,12,13,14,15,16,17,18,19,20,21,22,23,24,25,26,27],Dr (Ix 44 4 42 43) 8 [9,10,11,12,13,14,15,16,17,18,19,20,21,22,23,24,25,26,27],Dr (Fa 45 0 44) 9 [10,11,12,13,14,15,16,17,18,19,20,21,22,23,24,25,26,27],Db (Ld 46 45) 10 45 [11,12,13,14,15,16,17,18,19,20,21,22,23,24,25,26,27],⟨Ca 47 27 [.tmp 41,.tmp 46] (some (.val (.one .bool))),11,.all,[12,13,14,15,16,17,18,19,20,21,22,23,24,25,26,27],false,false⟩,Dr (Ol 48 (.unOp .not 4 (.tmp 47))) 12 [13,14,15,16,17,18,19,20,21,22,23,24,25,26,27],Dr (Mv 49 48) 13 [14,15,16,17,18,19,20,21,22,23,24,25,26,27],⟨⟨some 50,some (49,false),.op false (.old (.move (.tmp 0)))⟩,14,.none,[17,18,19,25,26,27],false,true⟩,⟨⟨some 51,some (49,false),.op false (.old (.move (.tmp 4)))⟩,15,.none,[16,17,18,19,25,26,27],false,true⟩,⟨⟨some 52,some (49,false),.op false (.old (.binOp .sub 3 (.tmp 51) (.const (.int .i64 1)) 3))⟩,16,.none,[17,18,19,25,26,27],false,true⟩,⟨⟨some 53,some (49,false),.op false (.ixS 4 (.tmp 50) (.tmp 52))⟩,17,.none,[18,19,25,26,27],false,true⟩,⟨⟨some 54,some (49,false),.op false (.fieldAddr 2 (.tmp 53))⟩,18,.none,[19,25,26,27],false,true⟩,⟨⟨some 55,some (49,false),.op false (.load 2 [.int .i64,.int .i64] (.tmp 54))⟩,19,.blk (.tmp 54),[25,26,27],false,true⟩,⟨⟨some 56,some (49,false),.op false (.old (.move (.tmp 0)))⟩,20,.none,[22,23,24,25,26,27],false,true⟩,⟨⟨some 57,some (49,false),.op false (.old (.move (.tmp 4)))⟩,21,.none,[22,23,24,25,26,27],false,true⟩,⟨⟨some 58,some (49,false),.op false (.ixS 4 (.tmp 56) (.tmp 57))⟩,22,.none,[23,24,25,26,27],false,true⟩,⟨⟨some 59,some (49,false),.op false (.fieldAddr 2 (.tmp 58))⟩,23,.none,[24,25,26,27],false,true⟩,⟨⟨some 60,some (49,false),.op false (.load 2 [.int .i64,.int .i64] (.tmp 59))⟩,24,.blk (.tmp 59),[25,26,27],false,true⟩,⟨⟨some 61,some (49,false),.call (.func 27) [.tmp 55,.tmp 60] (some (.val (.one .bool)))⟩,25,.all,[26,27],false,false⟩,⟨⟨some 62,some (49,false),.op false (.old (.unOp .not 4 (.tmp 61)))⟩,26,.none,[27],false,true⟩,Dr (Ol 63 (.pick (.tmp 49) (.const (.bool true)) (.tmp 62))) 27 []])
 (.cond (.tmp 63) (.seq (.reg (some []) [Ac 2 8])
 .ret)
 .skip)))
 (.reg (some [0,4]) [Mv 34 4,Bc 35 .add 3 34 .i64 1,As 4 35]))⟩)],
 []⟩
theorem r15_ok : resFun (progU ()) hint live 15 Try.f15 = some r15:=by kernel_rfl
def r26 : RFun :=
⟨.seq (.reg (some [0]) [Ol 2 (.assign (.const (.bool false)))])
 (.seq (.reg (some [0]) [Mv 3 0,Ca 4 9 [.tmp 3] (some (.val (.one .bool))),Ol 5 (.unOp .not 4 (.tmp 4)),Mv 6 5,⟨some 7,some (6,true),.op false (.old (.move (.tmp 0)))⟩,⟨some 8,some (6,true),.call (.func 15) [.tmp 7] (some (.val (.one (.int .i64))))⟩,⟨some 9,some (6,true),.op false (.old (.binOp .eql 3 (.tmp 8) (.const (.int .i64 0)) 3))⟩,Ol 10 (.pick (.tmp 6) (.tmp 9) (.const (.bool false))),As 2 10])
 .ret),
 [.tmp 2],
 [],
 []⟩
theorem r26_ok : resFun (progU ()) hint live 26 Try.f26 = some r26:=by kernel_rfl
def r27 : RFun :=
⟨.seq (.reg (some [0,1]) [⟨some 2,none,.op true (.box 2 (.tmp 0))⟩,⟨some 3,none,.op true (.box 2 (.tmp 1))⟩,Ol 4 (.assign (.const (.bool false)))])
 (.seq (.reg (some [2,3]) [Ld 8 2,Ld 9 3,Ca 10 46 [.tmp 8,.tmp 9] (some (.tup [.one (.int .i64),.one (.int .i64)])),Mv 7 10,Ex 11 7 0,Ex 12 7 1,As 5 11,As 6 12])
 (.seq (.reg (some [5]) [Mv 13 5,Bc 14 .lss 3 13 .i64 0,As 4 14])
 .ret)),
 [.tmp 4],
 [],
 []⟩
theorem r27_ok : resFun (progU ()) hint live 27 Try.f27 = some r27:=by kernel_rfl
def r28 : RFun :=
⟨.seq (.reg (some [0]) [⟨some 1,none,.op true (.box 2 (.tmp 0))⟩,Ac 2 0])
 (.seq (.seq (.draw (some [1]) 28 [Dr (Fa 3 1 1) 0 [1,2,3,4,5,6,7,8,9,10,11,12,13,14,15,16,17,18,19,20,21,22,23,24,25,26,27],Db (L1 4 3) 1 3 [2,3,4,5,6,7,8,9,10,11,12,13,14,15,16,17,18,19,20,21,22,23,24,25,26,27],Dr (Bc 5 .lss 2 4 .i64 1) 2 [3,4,5,6,7,8,9,10,11,12,13,14,15,16,17,18,19,20,21,22,23,24,25,26,27],Dr (Mv 6 5) 3 [4,5,6,7,8,9,10,11,12,13,14,15,16,17,18,19,20,21,22,23,24,25,26,27],⟨⟨some 7,some (6,false),.op false (.fieldAddr 1 (.tmp 1))⟩,4,.none,[5,6,7,8,9,10,11,12,13,14,15,16,17,18,19,20,21,22,23,24,25,26,27],false,true⟩,⟨⟨some 8,some (6,false),.op false (.load1 (.int .i64) (.tmp 7))⟩,5,.blk (.tmp 7),[6,7,8,9,10,11,12,13,14,15,16,17,18,19,20,21,22,23,24,25,26,27],false,true⟩,⟨⟨some 9,some (6,false),.op false (.old (.binOp .gtr 2 (.tmp 8) (.const (.int .i64 1000000000000000000)) 2))⟩,6,.none,[7,8,9,10,11,12,13,14,15,16,17,18,19,20,21,22,23,24,25,26,27],false,true⟩,Dr (Ol 10 (.pick (.tmp 6) (.const (.bool true)) (.tmp 9))) 7 [8,9,10,11,12,13,14,15,16,17,18,19,20,21,22,23,24,25,26,27],Dr (Mv 11 10) 8 [9,10,11,12,13,14,15,16,17,18,19,20,21,22,23,24,25,26,27],⟨⟨some 12,some (11,false),.op false (.fieldAddr 0 (.tmp 1))⟩,9,.none,[10,11,12,13,14,15,16,17,18,19,20,21,22,23,24,25,26,27],false,true⟩,⟨⟨some 13,some (11,false),.op false (.load1 (.int .i64) (.tmp 12))⟩,10,.blk (.tmp 12),[11,12,13,14,15,16,17,18,19,20,21,22,23,24,25,26,27],false,true⟩,⟨⟨some 14,some (11,false),.op false (.old (.binOp .lss 2 (.tmp 13) (.const (.int .i64 (-1000000000000000000))) 2))⟩,11,.none,[12,13,14,15,16,17,18,19,20,21,22,23,24,25,26,27],false,true⟩,Dr (Ol 15 (.pick (.tmp 11) (.const (.bool true)) (.tmp 14))) 12 [13,14,15,16,17,18,19,20,21,22,23,24,25,26,27],Dr (Mv 16 15) 13 [14,15,16,17,18,19,20,21,22,23,24,25,26,27],⟨⟨some 17,some (16,false),.op false (.fieldAddr 0 (.tmp 1))⟩,14,.none,[15,16,17,18,19,20,21,22,23,24,25,26,27],false,true⟩,⟨⟨some 18,some (16,false),.op false (.load1 (.int .i64) (.tmp 17))⟩,15,.blk (.tmp 17),[16,17,18,19,20,21,22,23,24,25,26,27],false,true⟩,⟨⟨some 19,some (16,false),.op false (.old (.binOp .gtr 2 (.tmp 18) (.const (.int .i64 1000000000000000000)) 2))⟩,16,.none,[17,18,19,20,21,22,23,24,25,26,27],false,true⟩,Dr (Ol 20 (.pick (.tmp 16) (.const (.bool true)) (.tmp 19))) 17 [18,19,20,21,22,23,24,25,26,27],Dr (Mv 21 20) 18 [19,20,21,22,23,24,25,26,27],⟨⟨some 22,some (21,false),.op false (.fieldAddr 0 (.tmp 1))⟩,19,.none,[20,21,25,26,27],false,true⟩,⟨⟨some 23,some (21,false),.op false (.load1 (.int .i64) (.tmp 22))⟩,20,.blk (.tmp 22),[21,25,26,27],false,true⟩,⟨⟨some 25,some (21,false),.op false (.fieldAddr 1 (.tmp 1))⟩,22,.none,[23,24,25,26,27],false,true⟩,⟨⟨some 26,some (21,false),.op false (.load1 (.int .i64) (.tmp 25))⟩,23,.blk (.tmp 25),[24,25,26,27],false,true⟩,⟨⟨some 27,some (21,false),.op false (.convI .u64 (.tmp 26))⟩,24,.cvt (.tmp 26),[25,26,27],false,true⟩,⟨⟨some 24,some (21,false),.call (.func 48) [.tmp 23] (some (.val (.one (.int .u64))))⟩,21,.all,[25,26,27],false,false⟩,⟨⟨some 28,some (21,false),.call (.func 47) [.tmp 24,.tmp 27] (some (.val (.one (.int .u64))))⟩,25,.all,[26,27],false,false⟩,⟨⟨some 29,some (21,false),.op false (.old (.binOp .neq 80 (.tmp 28) (.const (.int .u64 1)) 80))⟩,26,.none,[27],false,true⟩,Dr (Ol 30 (.pick (.tmp 21) (.const (.bool true)) (.tmp 29))) 27 []])
 (.cond (.tmp 30) (.seq (.reg (some []) [Ac 2 8])
 .ret)
 .skip))
 (.seq (.reg (some []) [Ac 2 0])
 .ret)),
 [.tmp 2],
 [],
 []⟩
theorem r28_ok : resFun (progU ()) hint live 28 Try.f28 = some r28:=by kernel_rfl
def r29 : RFun :=
⟨.seq (.reg (some [0,1]) [⟨some 2,none,.op true (.box 2 (.tmp 0))⟩,Ol 4 (.assign (.const (.bool false)))])
 (.seq (.reg (some [1,2]) [Ld 5 2,Ca 6 28 [.tmp 5] (some (.val (.one (.int .i64)))),Bc 7 .eql 3 6 .i64 0,Mv 8 7,⟨some 9,some (8,true),.op false (.old (.move (.tmp 1)))⟩,⟨some 10,some (8,true),.op false (.old (.unOp .neg 2 (.tmp 9)))⟩,⟨some 11,some (8,true),.op false (.fieldAddr 0 (.tmp 2))⟩,⟨some 12,some (8,true),.op false (.load1 (.int .i64) (.tmp 11))⟩,⟨some 13,some (8,true),.op false (.old (.binOp .leq 2 (.tmp 10) (.tmp 12) 2))⟩,Ol 14 (.pick (.tmp 8) (.tmp 13) (.const (.bool false))),Mv 15 14,⟨some 16,some (15,true),.op false (.fieldAddr 0 (.tmp 2))⟩,⟨some 17,some (15,true),.op false (.load1 (.int .i64) (.tmp 16))⟩,⟨some 18,some (15,true),.op false (.old (.move (.tmp 1)))⟩,⟨some 19,some (15,true),.op false (.old (.binOp .leq 2 (.tmp 17) (.tmp 18) 2))⟩,Ol 20 (.pick (.tmp 15) (.tmp 19) (.const (.bool false))),Mv 21 20,⟨some 22,some (21,true),.op false (.fieldAddr 1 (.tmp 2))⟩,⟨some 23,some (21,true),.op false (.load1 (.int .i64) (.tmp 22))⟩,⟨some 24,some (21,true),.op false (.old (.move (.tmp 1)))⟩,⟨some 25,some (21,true),.op false (.old (.binOp .leq 2 (.tmp 23) (.tmp 24) 2))⟩,Ol 26 (.pick (.tmp 21) (.tmp 25) (.const (.bool false))),As 4 26])
 .ret),
 [.tmp 4],
 [],
 []⟩
theorem r29_ok : resFun (progU ()) hint live 29 Try.f29 = some r29:=by kernel_rfl
def r31 : RFun :=
⟨.seq (.reg (some [0,1]) [⟨some 4,none,.op true (.new 2 [.int .i64 0,.int .i64 0])⟩,Ac 5 0])
 (.seq (.seq (.reg (some [0,1,4]) [Mv 7 1,Bc 8 .eql 2 7 .i64 0])
 (.cond (.tmp 8) (.seq (.reg (some [4]) [Ro 9 (.build [.int .i64 0,.int .i64 0] []),⟨none,none,.op false (.store 2 (.tmp 4) (.tmp 9))⟩,Ac 5 18])
 .ret)
 .skip))
 (.seq (.reg (some [0,1,4]) [Mv 10 0,Ca 11 48 [.tmp 10] (some (.val (.one (.int .u64)))),Mv 12 1,Ca 13 48 [.tmp 12] (some (.val (.one (.int .u64)))),Ca 14 47 [.tmp 11,.tmp 13] (some (.val (.one (.int .u64)))),As 6 14])
 (.seq (.reg (some [0,1,4,6]) [Mv 15 0,Bc 16 .lss 2 15 .i64 0,Mv 17 1,Bc 18 .lss 2 17 .i64 0,Bt 19 .neq 4 16 18,Mv 20 0,Ca 21 48 [.tmp 20] (some (.val (.one (.int .u64)))),Mv 22 6,Bt 23 .quo 80 21 22,Ca 24 52 [.tmp 23] (some (.val (.agg [.int .u64,.int .u64,.int .u64,.int .u64]))),Mv 25 1,Ca 26 48 [.tmp 25] (some (.val (.one (.int .u64)))),Mv 27 6,Bt 28 .quo 80 26 27,Ca 29 52 [.tmp 28] (some (.val (.agg [.int .u64,.int .u64,.int .u64,.int .u64]))),Ca 30 51 [.tmp 19,.tmp 24,.tmp 29] (some (.tup [.agg [.int .i64,.int .i64],.one (.int .i64)])),Ex 31 30 0,Ex 32 30 1,⟨none,none,.op false (.store 2 (.tmp 4) (.tmp 31))⟩,As 5 32])
 .ret))),
 [.agg 4 2 [.int .i64,.int .i64],.tmp 5],
 [],
 []⟩
theorem r31_ok : resFun (progU ()) hint live 31 Try.f31 = some r31:=by kernel_rfl
def r32 : RFun :=
⟨.seq (.reg (some [0]) [⟨some 1,none,.op true (.box 2 (.tmp 0))⟩,Ac 2 0])
 (.seq (.seq (.reg (some [1]) [Fa 3 1 1,L1 4 3,Bc 5 .lss 2 4 .i64 1,Mv 6 5,⟨some 7,some (6,false),.op false (.fieldAddr 1 (.tmp 1))⟩,⟨some 8,some (6,false),.op false (.load1 (.int .i64) (.tmp 7))⟩,⟨some 9,some (6,false),.op false (.old (.binOp .gtr 2 (.tmp 8) (.const (.int .i64 1000000000000000000)) 2))⟩,Ol 10 (.pick (.tmp 6) (.const (.bool true)) (.tmp 9)),Mv 11 10,⟨some 12,some (11,false),.op false (.fieldAddr 0 (.tmp 1))⟩,⟨some 13,some (11,false),.op false (.load1 (.int .i64) (.tmp 12))⟩,⟨some 14,some (11,false),.op false (.old (.binOp .lss 2 (.tmp 13) (.const (.int .i64 (-1000000000000000000))) 2))⟩,Ol 15 (.pick (.tmp 11) (.const (.bool true)) (.tmp 14)),Mv 16 15,⟨some 17,some (16,false),.op false (.fieldAddr 0 (.tmp 1))⟩,⟨some 18,some (16,false),.op false (.load1 (.int .i64) (.tmp 17))⟩,⟨some 19,some (16,false),.op false (.old (.binOp .gtr 2 (.tmp 18) (.const (.int .i64 1000000000000000000)) 2))⟩,Ol 20 (.pick (.tmp 16) (.const (.bool true)) (.tmp 19))])
 (.cond (.tmp 20) (.seq (.reg (some []) [Ac 2 8])
 .ret)
 .skip))
 (.seq (.seq (.draw (some [1]) 8 [Dr (Fa 21 0 1) 0 [1,2,5,6,7],Db (L1 22 21) 1 21 [2,5,6,7],Dr (Fa 24 1 1) 3 [4,5,6,7],Db (L1 25 24) 4 24 [5,6,7],⟨Ca 23 54 [.tmp 22] (some (.val (.one (.int .u64)))),2,.all,[5,6,7],false,false⟩,⟨Ca 26 54 [.tmp 25] (some (.val (.one (.int .u64)))),5,.all,[6,7],false,false⟩,⟨Ca 27 53 [.tmp 23,.tmp 26] (some (.val (.one (.int .u64)))),6,.all,[7],false,false⟩,Dr (Bc 28 .neq 80 27 .u64 1) 7 []])
 (.cond (.tmp 28) (.seq (.reg (some []) [Ac 2 8])
 .ret)
 .skip))
 (.seq (.reg (some []) [Ac 2 0])
 .ret))),
 [.tmp 2],
 [],
 []⟩
theorem r32_ok : resFun (progU ()) hint live 32 Try.f32 = some r32:=by kernel_rfl
def r33 : RFun :=
⟨.seq (.reg (some [0,1]) [⟨some 2,none,.op true (.box 2 (.tmp 0))⟩,Ol 4 (.assign (.const (.bool false)))])
 (.seq (.reg (some [1,2]) [Ld 5 2,Ca 6 32 [.tmp 5] (some (.val (.one (.int .i64)))),Bc 7 .eql 26 6 .i64 0,Mv 8 7,⟨some 9,some (8,true),.op false (.fieldAddr 0 (.tmp 2))⟩,⟨some 10,some (8,true),.op false (.load1 (.int .i64) (.tmp 9))⟩,⟨some 11,some (8,true),.op false (.old (.move (.tmp 1)))⟩,⟨some 12,some (8,true),.op false (.old (.unOp .neg 2 (.tmp 11)))⟩,⟨some 13,some (8,true),.op false (.old (.binOp .geq 2 (.tmp 10) (.tmp 12) 2))⟩,Ol 14 (.pick (.tmp 8) (.tmp 13) (.const (.bool false))),Mv 15 14,⟨some 16,some (15,true),.op false (.fieldAddr 0 (.tmp 2))⟩,⟨some 17,some (15,true),.op false (.load1 (.int .i64) (.tmp 16))⟩,⟨some 18,some (15,true),.op false (.old (.move (.tmp 1)))⟩,⟨some 19,some (15,true),.op false (.old (.binOp .leq 2 (.tmp 17) (.tmp 18) 2))⟩,Ol 20 (.pick (.tmp 15) (.tmp 19) (.const (.bool false))),Mv 21 20,⟨some 22,some (21,true),.op false (.fieldAddr 1 (.tmp 2))⟩,⟨some 23,some (21,true),.op false (.load1 (.int .i64) (.tmp 22))⟩,⟨some 24,some (21,true),.op false (.old (.move (.tmp 1)))⟩,⟨some 25,some (21,true),.op false (.old (.binOp .leq 2 (.tmp 23) (.tmp 24) 2))⟩,Ol 26 (.pick (.tmp 21) (.tmp 25) (.const (.bool false))),As 4 26])
 .ret),
 [.tmp 4],
 [],
 []⟩
theorem r33_ok : resFun (progU ()) hint live 33 Try.f33 = some r33:=by kernel_rfl
def r34 : RFun :=
⟨.seq (.reg (some [0,1]) [⟨some 2,none,.op true (.box 2 (.tmp 0))⟩,⟨some 3,none,.op true (.box 2 (.tmp 1))⟩,Ac 4 0])
 (.seq (.reg (some [2,3]) [Ld 8 2,Ld 9 3,Ca 10 55 [.tmp 8,.tmp 9] (some (.tup [.one (.int .i64),.one (.int .i64)])),Mv 7 10,Ex 11 7 0,Ex 12 7 1,As 5 11,As 6 12])
 (.seq (.reg (some [5]) [Mv 13 5,As 4 13])
 .ret)),
 [.tmp 4],
 [],
 []⟩
theorem r34_ok : resFun (progU ()) hint live 34 Try.f34 = some r34:=by kernel_rfl
def r35 : RFun :=
⟨.seq (.reg (some [0,1]) [⟨some 3,none,.op true (.box 2 (.tmp 1))⟩,⟨some 4,none,.op true (.new 2 [.int .i64 0,.int .i64 0])⟩,Ac 5 0])
 (.seq (.reg (some [0,3,4]) [Ac 6 1])
 (.seq (.block 0 (.loop 2 (some [0,3,4,6]) (some [0,3,4,6])))
 (.seq (.draw (some [0,3,4,6]) 13 [Dr (Mv 32 0) 0 [3,4,11,12],Dr (Mv 33 6) 1 [2,3,4,11,12],Dr (Bc 34 .sub 3 33 .i64 1) 2 [3,4,11,12],Dr (Ix 35 4 32 34) 3 [4,11,12],Db (Ro 36 (.load 4 [.int .i64,.int .i64,.int .i64,.int .i64] (.tmp 35))) 4 35 [11,12],Dr (Mv 37 0) 5 [7,8,12],Dr (Mv 38 6) 6 [7,8,12],Dr (Ix 39 4 37 38) 7 [8,12],Db (Ro 40 (.load 4 [.int .i64,.int .i64,.int .i64,.int .i64] (.tmp 39))) 8 39 [12],⟨⟨some 7,none,.op true (.new 4 [.int .i64 0,.int .i64 0,.int .i64 0,.int .i64 0])⟩,9,.new true,[11,12],false,true⟩,⟨⟨some 8,none,.op true (.new 4 [.int .i64 0,.int .i64 0,.int .i64 0,.int .i64 0])⟩,10,.new true,[11,12],false,true⟩,⟨⟨none,none,.op false (.store 4 (.tmp 7) (.tmp 36))⟩,11,.blk (.tmp 7),[12],true,true⟩,⟨⟨none,none,.op false (.store 4 (.tmp 8) (.tmp 40))⟩,12,.blk (.tmp 8),[],true,true⟩])
 (.seq (.reg (some [3,4,7,8]) [Fa 42 2 8,Ld 43 42,Fa 44 2 7,Ld 45 44,Ca 46 56 [.tmp 43,.tmp 45] (some (.tup [.agg [.int .i64,.int .i64],.one (.int .i64)])),Mv 41 46,Ex 47 41 0,Ex 48 41 1,⟨some 9,none,.op true (.new 2 [.int .i64 0,.int .i64 0])⟩,⟨none,none,.op false (.store 2 (.tmp 9) (.tmp 47))⟩,As 10 48])
 (.seq (.seq (.reg (some [3,4,7,8,9,10]) [Mv 49 10,Bc 50 .neq 26 49 .i64 0])
 (.cond (.tmp 50) (.seq (.reg (some [4,10]) [Ro 51 (.build [.int .i64 0,.int .i64 0] []),Mv 52 10,⟨none,none,.op false (.store 2 (.tmp 4) (.tmp 51))⟩,As 5 52])
 .ret)
 .skip))
 (.seq (.reg (some [3,4,7,8,9]) [Ld 54 3,Fa 55 0 7,Ld 56 55,Ca 57 56 [.tmp 54,.tmp 56] (some (.tup [.agg [.int .i64,.int .i64],.one (.int .i64)])),Mv 53 57,Ex 58 53 0,Ex 59 53 1,⟨some 11,none,.op true (.new 2 [.int .i64 0,.int .i64 0])⟩,⟨none,none,.op false (.store 2 (.tmp 11) (.tmp 58))⟩,As 10 59])
 (.seq (.seq (.reg (some [4,7,8,9,10,11]) [Mv 60 10,Bc 61 .neq 26 60 .i64 0])
 (.cond (.tmp 61) (.seq (.reg (some [4,10]) [Ro 62 (.build [.int .i64 0,.int .i64 0] []),Mv 63 10,⟨none,none,.op false (.store 2 (.tmp 4) (.tmp 62))⟩,As 5 63])
 .ret)
 .skip))
 (.seq (.reg (some [4,7,8,9,11]) [Fa 65 0 8,Ld 66 65,Fa 67 0 7,Ld 68 67,Ca 69 56 [.tmp 66,.tmp 68] (some (.tup [.agg [.int .i64,.int .i64],.one (.int .i64)])),Mv 64 69,Ex 70 64 0,Ex 71 64 1,⟨some 12,none,.op true (.new 2 [.int .i64 0,.int .i64 0])⟩,⟨none,none,.op false (.store 2 (.tmp 12) (.tmp 70))⟩,As 10 71])
 (.seq (.seq (.reg (some [4,7,9,10,11,12]) [Mv 72 10,Bc 73 .neq 26 72 .i64 0])
 (.cond (.tmp 73) (.seq (.reg (some [4,10]) [Ro 74 (.build [.int .i64 0,.int .i64 0] []),Mv 75 10,⟨none,none,.op false (.store 2 (.tmp 4) (.tmp 74))⟩,As 5 75])
 .ret)
 .skip))
 (.seq (.reg (some [4,7,9,11,12]) [Ld 77 9,Ld 78 11,Ca 79 57 [.tmp 77,.tmp 78] (some (.tup [.agg [.int .i64,.int .i64],.one (.int .i64)])),Mv 76 79,Ex 80 76 0,Ex 81 76 1,⟨some 13,none,.op true (.new 2 [.int .i64 0,.int .i64 0])⟩,⟨none,none,.op false (.store 2 (.tmp 13) (.tmp 80))⟩,As 10 81])
 (.seq (.seq (.reg (some [4,7,10,12,13]) [Mv 82 10,Bc 83 .neq 26 82 .i64 0])
 (.cond (.tmp 83) (.seq (.reg (some [4,10]) [Ro 84 (.build [.int .i64 0,.int .i64 0] []),Mv 85 10,⟨none,none,.op false (.store 2 (.tmp 4) (.tmp 84))⟩,As 5 85])
 .ret)
 .skip))
 (.seq (.reg (some [4,7,12,13]) [Ld 87 13,Ld 88 12,Ca 89 43 [.tmp 87,.tmp 88] (some (.tup [.agg [.int .i64,.int .i64],.one (.int .i64)])),Mv 86 89,Ex 90 86 0,Ex 91 86 1,⟨some 14,none,.op true (.new 2 [.int .i64 0,.int .i64 0])⟩,⟨none,none,.op false (.store 2 (.tmp 14) (.tmp 90))⟩,As 10 91])
 (.seq (.seq (.reg (some [4,7,10,14]) [Mv 92 10,Bc 93 .neq 26 92 .i64 0])
 (.cond (.tmp 93) (.seq (.reg (some [4,10]) [Ro 94 (.build [.int .i64 0,.int .i64 0] []),Mv 95 10,⟨none,none,.op false (.store 2 (.tmp 4) (.tmp 94))⟩,As 5 95])
 .ret)
 .skip))
 (.seq (.reg (some [4,7,14]) [Fa 96 2 7,Ld 97 96,Ld 98 14,Ca 99 58 [.tmp 97,.tmp 98] (some (.tup [.agg [.int .i64,.int .i64],.one (.int .i64)])),Ex 100 99 0,Ex 101 99 1,⟨none,none,.op false (.store 2 (.tmp 4) (.tmp 100))⟩,As 5 101])
 .ret)))))))))))))),
 [.agg 4 2 [.int .i64,.int .i64],.tmp 5],
 [(2,⟨some [0,3,4,6],some [0,3,4,6],.seq (.seq (.draw (some [0,3,4,6]) 15 [Dr (Mv 15 6) 0 [4,5,6,7,8,9,10,11,12,13,14],Dr (Mv 16 0) 1 [2,3,4,5,6,7,8,9,10,11,12,13,14],Dr (Ro 17 (.lenS (.tmp 16))) 2 [3,4,5,6,7,8,9,10,11,12,13,14],Dr (Bc 18 .sub 3 17 .i64 1) 3 [4,5,6,7,8,9,10,11,12,13,14],Dr (Bt 19 .lss 3 15 18) 4 [5,6,7,8,9,10,11,12,13,14],Dr (Mv 20 19) 5 [6,7,8,9,10,11,12,13,14],⟨⟨some 21,some (20,true),.op false (.load 2 [.int .i64,.int .i64] (.tmp 3))⟩,6,.blk (.tmp 3),[12,13,14],false,true⟩,⟨⟨some 22,some (20,true),.op false (.old (.move (.tmp 0)))⟩,7,.none,[9,10,11,12,13,14],false,true⟩,⟨⟨some 23,some (20,true),.op false (.old (.move (.tmp 6)))⟩,8,.none,[9,10,11,12,13,14],false,true⟩,⟨⟨some 24,some (20,true),.op false (.ixS 4 (.tmp 22) (.tmp 23))⟩,9,.none,[10,11,12,13,14],false,true⟩,⟨⟨some 25,some (20,true),.op false (.fieldAddr 0 (.tmp 24))⟩,10,.none,[11,12,13,14],false,true⟩,⟨⟨some 26,some (20,true),.op false (.load 2 [.int .i64,.int .i64] (.tmp 25))⟩,11,.blk (.tmp 25),[12,13,14],false,true⟩,⟨⟨some 27,some (20,true),.call (.func 34) [.tmp 21,.tmp 26] (some (.val (.one (.int .i64))))⟩,12,.all,[13,14],false,false⟩,⟨⟨some 28,some (20,true),.op false (.old (.binOp .gtr 3 (.tmp 27) (.const (.int .i64 0)) 3))⟩,13,.none,[14],false,true⟩,Dr (Ol 29 (.pick (.tmp 20) (.tmp 28) (.const (.bool false)))) 14 []])
 (.cond (.tmp 29) .skip
 (.exit 0 (some [0,3,4,6]))))
 (.block 1 (.reg (some [0,3,4,6]) [Mv 30 6,Bc 31 .add 3 30 .i64 1,As 6 31]))⟩)],
 []⟩
theorem r35_ok : resFun (progU ()) hint live 35 Try.f35 = some r35:=by kernel_rfl
def r37 : RFun :=
⟨.seq (.reg (some [0]) [Ol 2 (.assign (.const (.slice none 0 0)))])
 (.seq (.reg (some [0]) [Mv 6 0,Ro 7 (.lenS (.tmp 6)),Ro 8 (.mkSlice 4 [.int .i64 0,.int .i64 0,.int .i64 0,.int .i64 0] (.tmp 7) (.tmp 7)),As 3 8])
 (.seq (.seq (.reg (some [0,3]) [Mv 9 0,Ro 10 (.lenS (.tmp 9)),Ol 11 (.move (.const (.int .i64 0)))])
 (.block 0 (.loop 3 (some [3,9,10,11]) (some [3,9,10,11]))))
 (.seq (.reg (some [3]) [Mv 25 3,As 2 25])
 .ret))),
 [.tmp 2],
 [(3,⟨some [3,9,10,11],some [3,9,10,11],.seq (.reg (some [3,9,10,11]) [Bt 12 .lss 3 11 10])
 (.seq (.cond (.tmp 12) .skip
 (.exit 0 (some [3])))
 (.seq (.block 1 (.seq (.reg (some [3,9,10,11]) [Mv 13 11,Ix 14 4 9 11,Ro 15 (.load 4 [.int .i64,.int .i64,.int .i64,.int .i64] (.tmp 14)),⟨some 5,none,.op true (.new 4 [.int .i64 0,.int .i64 0,.int .i64 0,.int .i64 0])⟩,As 4 13,⟨none,none,.op false (.store 4 (.tmp 5) (.tmp 15))⟩])
 (.reg (some [3,4,5,9,10,11]) [Mv 16 3,Mv 17 4,Fa 18 2 5,Ld 19 18,Fa 20 0 5,Ld 21 20,Ro 22 (.build [.int .i64 0,.int .i64 0,.int .i64 0,.int .i64 0] [(0,2,(.tmp 19)),(2,2,(.tmp 21))]),Ix 23 4 16 17,⟨none,none,.op false (.store 4 (.tmp 23) (.tmp 22))⟩])))
 (.reg (some [3,9,10,11]) [Bc 24 .add 3 11 .i64 1,Mv 11 24])))⟩)],
 []⟩
theorem r37_ok : resFun (progU ()) hint live 37 Try.f37 = some r37:=by kernel_rfl
def r41 : RFun :=
⟨.seq (.reg (some [0,1]) [⟨some 4,none,.op true (.new 2 [.int .i64 0,.int .i64 0])⟩,Ac 5 0])
 (.seq (.seq (.reg (some [0,1,4]) [Mv 9 1,Bc 10 .eql 2 9 .i64 0])
 (.cond (.tmp 10) (.seq (.reg (some [4]) [Ro 11 (.build [.int .i64 0,.int .i64 0] []),⟨none,none,.op false (.store 2 (.tmp 4) (.tmp 11))⟩,Ac 5 18])
 .ret)
 .skip))
 (.seq (.reg (some [0,1,4]) [Mv 12 0,Ca 13 54 [.tmp 12] (some (.val (.one (.int .u64)))),Mv 14 1,Ca 15 54 [.tmp 14] (some (.val (.one (.int .u64)))),As 6 13,As 7 15])
 (.seq (.reg (some [0,1,4,6,7]) [Mv 16 6,Mv 17 7,Ca 18 53 [.tmp 16,.tmp 17] (some (.val (.one (.int .u64)))),As 8 18])
 (.seq (.draw (some [0,1,4,6,7,8]) 16 [Dr (Mv 19 0) 0 [1,4,11,12,13,14,15],Dr (Bc 20 .lss 2 19 .i64 0) 1 [4,11,12,13,14,15],Dr (Mv 21 1) 2 [3,4,11,12,13,14,15],Dr (Bc 22 .lss 2 21 .i64 0) 3 [4,11,12,13,14,15],Dr (Bt 23 .neq 4 20 22) 4 [11,12,13,14,15],Dr (Mv 24 6) 5 [7,11,12,13,14,15],Dr (Mv 25 8) 6 [7,11,12,13,14,15],Dr (Bt 26 .quo 80 24 25) 7 [11,12,13,14,15],Dr (Mv 27 7) 8 [10,11,12,13,14,15],Dr (Mv 28 8) 9 [10,11,12,13,14,15],Dr (Bt 29 .quo 80 27 28) 10 [11,12,13,14,15],⟨Ca 30 62 [.tmp 23,.tmp 26,.tmp 29] (some (.tup [.agg [.int .i64,.int .i64],.one (.int .i64)])),11,.all,[12,13,14,15],false,false⟩,Dr (Ex 31 30 0) 12 [14,15],Dr (Ex 32 30 1) 13 [14,15],⟨⟨none,none,.op false (.store 2 (.tmp 4) (.tmp 31))⟩,14,.blk (.tmp 4),[15],true,true⟩,Dr (As 5 32) 15 []])
 .ret)))),
 [.agg 4 2 [.int .i64,.int .i64],.tmp 5],
 [],
 []⟩
theorem r41_ok : resFun (progU ()) hint live 41 Try.f41 = some r41:=by kernel_rfl
def r43 : RFun :=
⟨.seq (.reg (some [0,1]) [⟨some 2,none,.op true (.box 2 (.tmp 0))⟩,⟨some 3,none,.op true (.box 2 (.tmp 1))⟩,⟨some 4,none,.op true (.new 2 [.int .i64 0,.int .i64 0])⟩,Ac 5 0])
 (.seq (.seq (.reg (some [2,3,4]) [Ld 8 2,Ld 9 3,Ca 10 63 [.tmp 8,.tmp 9] (some (.val (.one (.int .i64)))),As 6 10])
 (.seq (.reg (some [2,3,4,6]) [Mv 11 6,Bc 12 .neq 26 11 .i64 0])
 (.cond (.tmp 12) (.seq (.reg (some [4,6]) [Ro 13 (.build [.int .i64 0,.int .i64 0] []),Mv 14 6,⟨none,none,.op false (.store 2 (.tmp 4) (.tmp 13))⟩,As 5 14])
 .ret)
 .skip)))
 (.seq (.seq (.reg (some [2,3,4]) [Fa 15 0 3,L1 16 15,Bc 17 .eql 2 16 .i64 0])
 (.cond (.tmp 17) (.seq (.reg (some [4]) [Ro 18 (.build [.int .i64 0,.int .i64 0] []),⟨none,none,.op false (.store 2 (.tmp 4) (.tmp 18))⟩,Ac 5 18])
 .ret)
 .skip))
 (.seq (.reg (some [2,3,4]) [Fa 19 1 3,L1 20 19,Fa 21 0 3,L1 22 21,Ro 23 (.build [.int .i64 0,.int .i64 0] [(0,1,(.tmp 20)),(1,1,(.tmp 22))]),⟨some 7,none,.op true (.new 2 [.int .i64 0,.int .i64 0])⟩,⟨none,none,.op false (.store 2 (.tmp 7) (.tmp 23))⟩])
 (.seq (.seq (.reg (some [2,3,4,7]) [Fa 24 0 3,L1 25 24,Bc 26 .lss 2 25 .i64 0])
 (.cond (.tmp 26) (.reg (some [2,3,4,7]) [Fa 27 1 3,L1 28 27,Ol 29 (.unOp .neg 2 (.tmp 28)),Fa 30 0 3,L1 31 30,Ol 32 (.unOp .neg 2 (.tmp 31)),Ro 33 (.build [.int .i64 0,.int .i64 0] [(0,1,(.tmp 29)),(1,1,(.tmp 32))]),⟨none,none,.op false (.store 2 (.tmp 7) (.tmp 33))⟩])
 .skip))
 (.seq (.reg (some [2,4,7]) [Ld 34 2,Ld 35 7,Ca 36 64 [.tmp 34,.tmp 35] (some (.tup [.agg [.int .i64,.int .i64],.one (.int .i64)])),Ex 37 36 0,Ex 38 36 1,⟨none,none,.op false (.store 2 (.tmp 4) (.tmp 37))⟩,As 5 38])
 .ret))))),
 [.agg 4 2 [.int .i64,.int .i64],.tmp 5],
 [],
 []⟩
theorem r43_ok : resFun (progU ()) hint live 43 Try.f43 = some r43:=by kernel_rfl
def r45 : RFun :=
⟨.seq (.reg (some [0,1]) [⟨some 2,none,.op true (.box 2 (.tmp 0))⟩,⟨some 3,none,.op true (.box 2 (.tmp 1))⟩,⟨some 4,none,.op true (.new 2 [.int .i64 0,.int .i64 0])⟩,Ac 5 0])
 (.seq (.seq (.reg (some [2,3,4]) [Ld 6 2,Ld 7 3,Ca 8 66 [.tmp 6,.tmp 7] (some (.val (.one (.int .i64)))),Bc 9 .neq 3 8 .i64 0])
 (.cond (.tmp 9) (.seq (.reg (some [2,3,4]) [Ro 10 (.build [.int .i64 0,.int .i64 0] []),Ld 11 2,Ld 12 3,Ca 13 66 [.tmp 11,.tmp 12] (some (.val (.one (.int .i64)))),⟨none,none,.op false (.store 2 (.tmp 4) (.tmp 10))⟩,As 5 13])
 .ret)
 .skip))
 (.seq (.seq (.reg (some [2,3,4]) [Fa 14 0 3,L1 15 14,Bc 16 .eql 2 15 .i64 0])
 (.cond (.tmp 16) (.seq (.reg (some [4]) [Ro 17 (.build [.int .i64 0,.int .i64 0] []),⟨none,none,.op false (.store 2 (.tmp 4) (.tmp 17))⟩,Ac 5 18])
 .ret)
 .skip))
 (.seq (.seq (.reg (some [2,3,4]) [Fa 18 0 3,L1 19 18,Bc 20 .lss 2 19 .i64 0])
 (.cond (.tmp 20) (.seq (.reg (some [2,3,4]) [Ld 21 2,Fa 22 1 3,L1 23 22,Ol 24 (.unOp .neg 2 (.tmp 23)),Fa 25 0 3,L1 26 25,Ol 27 (.unOp .neg 2 (.tmp 26)),Ro 28 (.build [.int .i64 0,.int .i64 0] [(0,1,(.tmp 24)),(1,1,(.tmp 27))]),Ca 29 67 [.tmp 21,.tmp 28] (some (.tup [.agg [.int .i64,.int .i64],.one (.int .i64)])),Ex 30 29 0,Ex 31 29 1,⟨none,none,.op false (.store 2 (.tmp 4) (.tmp 30))⟩,As 5 31])
 .ret)
 .skip))
 (.seq (.reg (some [2,3,4]) [Ld 32 2,Fa 33 1 3,L1 34 33,Fa 35 0 3,L1 36 35,Ro 37 (.build [.int .i64 0,.int .i64 0] [(0,1,(.tmp 34)),(1,1,(.tmp 36))]),Ca 38 67 [.tmp 32,.tmp 37] (some (.tup [.agg [.int .i64,.int .i64],.one (.int .i64)])),Ex 39 38 0,Ex 40 38 1,⟨none,none,.op false (.store 2 (.tmp 4) (.tmp 39))⟩,As 5 40])
 .ret)))),
 [.agg 4 2 [.int .i64,.int .i64],.tmp 5],
 [],
 []⟩
theorem r45_ok : resFun (progU ()) hint live 45 Try.f45 = some r45:=by kernel_rfl
def r46 : RFun :=
⟨.seq (.reg (some [0,1]) [⟨some 2,none,.op true (.box 2 (.tmp 0))⟩,⟨some 3,none,.op true (.box 2 (.tmp 1))⟩,Ac 4 0,Ac 5 0])
 (.seq (.seq (.reg (some [2,3]) [Ld 6 2,Ld 7 3,Ca 8 66 [.tmp 6,.tmp 7] (some (.val (.one (.int .i64)))),Bc 9 .neq 3 8 .i64 0])
 (.cond (.tmp 9) (.seq (.reg (some [2,3]) [Ld 10 2,Ld 11 3,Ca 12 66 [.tmp 10,.tmp 11] (some (.val (.one (.int .i64)))),Ac 4 0,As 5 12])
 .ret)
 .skip))
 (.seq (.seq (.reg (some [2,3]) [Ld 13 2,Ld 14 3,Bt 15 .eql 24 13 14])
 (.cond (.tmp 15) (.seq (.reg (some []) [Ac 4 0,Ac 5 0])
 .ret)
 .skip))
 (.seq (.seq (.reg (some [2,3]) [Ld 16 2,Ld 17 3,Ca 18 68 [.tmp 16,.tmp 17] (some (.val (.one .bool)))])
 (.cond (.tmp 18) (.seq (.reg (some []) [Ol 4 (.assign (.const (.int .i64 (-1)))),Ac 5 0])
 .ret)
 .skip))
 (.seq (.reg (some []) [Ac 4 1,Ac 5 0])
 .ret)))),
 [.tmp 4,.tmp 5],
 [],
 []⟩
theorem r46_ok : resFun (progU ()) hint live 46 Try.f46 = some r46:=by kernel_rfl
def r47 : RFun :=
⟨.seq (.reg (some [0,1]) [Ol 4 (.assign (.const (.int .u64 0)))])
 (.seq (.block 0 (.loop 1 (some [0,1]) (some [0,1])))
 (.seq (.reg (some [0]) [Mv 11 0,As 4 11])
 .ret)),
 [.tmp 4],
 [(1,⟨some [0,1],some [0,1],.seq (.seq (.reg (some [0,1]) [Mv 5 1,Bc 6 .neq 80 5 .u64 0])
 (.cond (.tmp 6) .skip
 (.exit 0 (some [0]))))
 (.block 1 (.draw (some [0,1]) 6 [Dr (Mv 7 1) 0 [4,5],Dr (Mv 8 0) 1 [3,4,5],Dr (Mv 9 1) 2 [3,5],Dr (Bt 10 .rem 80 8 9) 3 [5],Dr (As 0 7) 4 [5],Dr (As 1 10) 5 []]))⟩)],
 []⟩
theorem r47_ok : resFun (progU ()) hint live 47 Try.f47 = some r47:=by kernel_rfl
def r48 : RFun :=
⟨.seq (.reg (some [0]) [Ol 2 (.assign (.const (.int .u64 0)))])
 (.seq (.seq (.reg (some [0]) [Mv 3 0,Bc 4 .geq 2 3 .i64 0])
 (.cond (.tmp 4) (.seq (.reg (some [0]) [Mv 5 0,Ro 6 (.convI .u64 (.tmp 5)),As 2 6])
 .ret)
 .skip))
 (.seq (.reg (some [0]) [Mv 7 0,Bc 8 .add 2 7 .i64 1,Ol 9 (.unOp .neg 2 (.tmp 8)),Ro 10 (.convI .u64 (.tmp 9)),Bc 11 .add 80 10 .u64 1,As 2 11])
 .ret)),
 [.tmp 2],
 [],
 []⟩
theorem r48_ok : resFun (progU ()) hint live 48 Try.f48 = some r48:=by kernel_rfl
def r51 : RFun :=
⟨.seq (.reg (some [0,1,2]) [⟨some 4,none,.op true (.box 4 (.tmp 1))⟩,⟨some 5,none,.op true (.box 4 (.tmp 2))⟩,⟨some 6,none,.op true (.new 2 [.int .i64 0,.int .i64 0])⟩,Ac 7 0])
 (.seq (.reg (some [0,4,5,6]) [Ro 13 (.load 4 [.int .u64,.int .u64,.int .u64,.int .u64] (.tmp 4)),Ca 14 69 [.tmp 13] (some (.tup [.one (.int .i64),.one .bool])),Mv 12 14,Ex 15 12 0,Ex 16 12 1,As 8 15,As 9 16])
 (.seq (.reg (some [0,5,6,8,9]) [Ro 18 (.load 4 [.int .u64,.int .u64,.int .u64,.int .u64] (.tmp 5)),Ca 19 69 [.tmp 18] (some (.tup [.one (.int .i64),.one .bool])),Mv 17 19,Ex 20 17 0,Ex 21 17 1,As 10 20,As 11 21])
 (.seq (.seq (.reg (some [0,6,8,9,10,11]) [Mv 22 9,Ol 23 (.unOp .not 4 (.tmp 22)),Mv 24 23,⟨some 25,some (24,false),.op false (.old (.move (.tmp 11)))⟩,⟨some 26,some (24,false),.op false (.old (.unOp .not 4 (.tmp 25)))⟩,Ol 27 (.pick (.tmp 24) (.const (.bool true)) (.tmp 26))])
 (.cond (.tmp 27) (.seq (.reg (some [6]) [Ro 28 (.build [.int .i64 0,.int .i64 0] []),⟨none,none,.op false (.store 2 (.tmp 6) (.tmp 28))⟩,Ac 7 16])
 .ret)
 .skip))
 (.seq (.seq (.reg (some [0,6,8,10]) [Mv 29 0])
 (.cond (.tmp 29) (.reg (some [6,8,10]) [Mv 30 8,Ol 31 (.unOp .neg 2 (.tmp 30)),As 8 31])
 .skip))
 (.seq (.reg (some [6,8,10]) [Mv 32 8,Mv 33 10,Ro 34 (.build [.int .i64 0,.int .i64 0] [(0,1,(.tmp 32)),(1,1,(.tmp 33))]),⟨none,none,.op false (.store 2 (.tmp 6) (.tmp 34))⟩,Ac 7 0])
 .ret))))),
 [.agg 6 2 [.int .i64,.int .i64],.tmp 7],
 [],
 []⟩
theorem r51_ok : resFun (progU ()) hint live 51 Try.f51 = some r51:=by kernel_rfl
def r52 : RFun :=
⟨.seq (.reg (some [0]) [⟨some 2,none,.op true (.new 4 [.int .u64 0,.int .u64 0,.int .u64 0,.int .u64 0])⟩])
 (.seq (.reg (some [0,2]) [Mv 3 0,Bc 4 .and 80 3 .u64 4294967295,Mv 5 0,Ol 6 (.binOp .shr 80 (.tmp 5) (.const (.int .u64 32)) 100),Ro 7 (.build [.int .u64 0,.int .u64 0,.int .u64 0,.int .u64 0] [(0,1,(.tmp 4)),(1,1,(.tmp 6)),(2,1,(.const (.int .u64 0))),(3,1,(.const (.int .u64 0)))]),Ro 8 (.build [.int .u64 0,.int .u64 0,.int .u64 0,.int .u64 0] [(0,4,(.tmp 7))]),⟨none,none,.op false (.store 4 (.tmp 2) (.tmp 8))⟩])
 .ret),
 [.agg 2 4 [.int .u64,.int .u64,.int .u64,.int .u64]],
 [],
 []⟩
theorem r52_ok : resFun (progU ()) hint live 52 Try.f52 = some r52:=by kernel_rfl
def r53 : RFun :=
⟨.seq (.reg (some [0,1]) [Ol 4 (.assign (.const (.int .u64 0)))])
 (.seq (.block 0 (.loop 1 (some [0,1]) (some [0,1])))
 (.seq (.reg (some [0]) [Mv 11 0,As 4 11])
 .ret)),
 [.tmp 4],
 [(1,⟨some [0,1],some [0,1],.seq (.seq (.reg (some [0,1]) [Mv 5 1,Bc 6 .neq 80 5 .u64 0])
 (.cond (.tmp 6) .skip
 (.exit 0 (some [0]))))
 (.block 1 (.draw (some [0,1]) 6 [Dr (Mv 7 1) 0 [4,5],Dr (Mv 8 0) 1 [3,4,5],Dr (Mv 9 1) 2 [3,5],Dr (Bt 10 .rem 80 8 9) 3 [5],Dr (As 0 7) 4 [5],Dr (As 1 10) 5 []]))⟩)],
 []⟩
theorem r53_ok : resFun (progU ()) hint live 53 Try.f53 = some r53:=by kernel_rfl
def r54 : RFun :=
⟨.seq (.reg (some [0]) [Ol 2 (.assign (.const (.int .u64 0)))])
 (.seq (.seq (.reg (some [0]) [Mv 3 0,Bc 4 .lss 2 3 .i64 0])
 (.cond (.tmp 4) (.seq (.reg (some [0]) [Mv 5 0,Ro 6 (.convI .u64 (.tmp 5)),Ol 7 (.unOp .neg 80 (.tmp 6)),As 2 7])
 .ret)
 .skip))
 (.seq (.reg (some [0]) [Mv 8 0,Ro 9 (.convI .u64 (.tmp 8)),As 2 9])
 .ret)),
 [.tmp 2],
 [],
 []⟩
theorem r54_ok : resFun (progU ()) hint live 54 Try.f54 = some r54:=by kernel_rfl
def r55 : RFun :=
⟨.seq (.reg (some [0,1]) [⟨some 2,none,.op true (.box 2 (.tmp 0))⟩,⟨some 3,none,.op true (.box 2 (.tmp 1))⟩,Ac 4 0,Ac 5 0])
 (.seq (.seq (.reg (some [2,3]) [Ld 7 2,Ld 8 3,Ca 9 63 [.tmp 7,.tmp 8] (some (.val (.one (.int .i64)))),As 6 9])
 (.seq (.reg (some [2,3,6]) [Mv 10 6,Bc 11 .neq 26 10 .i64 0])
 (.cond (.tmp 11) (.seq (.reg (some [6]) [Mv 12 6,Ac 4 0,As 5 12])
 .ret)
 .skip)))
 (.seq (.reg (some [2,3]) [Ld 13 2,Ld 14 3,Ca 15 70 [.tmp 13,.tmp 14] (some (.val (.one (.int .i64)))),As 4 15,Ac 5 0])
 .ret)),
 [.tmp 4,.tmp 5],
 [],
 []⟩
theorem r55_ok : resFun (progU ()) hint live 55 Try.f55 = some r55:=by kernel_rfl
def r56 : RFun :=
⟨.seq (.reg (some [0,1]) [⟨some 2,none,.op true (.box 2 (.tmp 0))⟩,⟨some 3,none,.op true (.box 2 (.tmp 1))⟩,⟨some 4,none,.op true (.new 2 [.int .i64 0,.int .i64 0])⟩,Ac 5 0])
 (.seq (.seq (.reg (some [2,3,4]) [Ld 7 2,Ld 8 3,Ca 9 63 [.tmp 7,.tmp 8] (some (.val (.one (.int .i64)))),As 6 9])
 (.seq (.reg (some [2,3,4,6]) [Mv 10 6,Bc 11 .neq 26 10 .i64 0])
 (.cond (.tmp 11) (.seq (.reg (some [4,6]) [Ro 12 (.build [.int .i64 0,.int .i64 0] []),Mv 13 6,⟨none,none,.op false (.store 2 (.tmp 4) (.tmp 12))⟩,As 5 13])
 .ret)
 .skip)))
 (.seq (.reg (some [2,3,4]) [Ld 14 2,Fa 15 0 3,L1 16 15,Ol 17 (.unOp .neg 2 (.tmp 16)),Fa 18 1 3,L1 19 18,Ro 20 (.build [.int .i64 0,.int .i64 0] [(0,1,(.tmp 17)),(1,1,(.tmp 19))]),Ca 21 71 [.tmp 14,.tmp 20] (some (.tup [.agg [.int .i64,.int .i64],.one (.int .i64)])),Ex 22 21 0,Ex 23 21 1,⟨none,none,.op false (.store 2 (.tmp 4) (.tmp 22))⟩,As 5 23])
 .ret)),
 [.agg 4 2 [.int .i64,.int .i64],.tmp 5],
 [],
 []⟩
theorem r56_ok : resFun (progU ()) hint live 56 Try.f56 = some r56:=by kernel_rfl
def r57 : RFun :=
⟨.seq (.reg (some [0,1]) [⟨some 2,none,.op true (.box 2 (.tmp 0))⟩,⟨some 3,none,.op true (.box 2 (.tmp 1))⟩,⟨some 4,none,.op true (.new 2 [.int .i64 0,.int .i64 0])⟩,Ac 5 0])
 (.seq (.seq (.reg (some [2,3,4]) [Ld 7 2,Ld 8 3,Ca 9 63 [.tmp 7,.tmp 8] (some (.val (.one (.int .i64)))),As 6 9])
 (.seq (.reg (some [2,3,4,6]) [Mv 10 6,Bc 11 .neq 26 10 .i64 0])
 (.cond (.tmp 11) (.seq (.reg (some [4,6]) [Ro 12 (.build [.int .i64 0,.int .i64 0] []),Mv 13 6,⟨none,none,.op false (.store 2 (.tmp 4) (.tmp 12))⟩,As 5 13])
 .ret)
 .skip)))
 (.seq (.reg (some [2,3,4]) [Ld 14 2,Ld 15 3,Ca 16 64 [.tmp 14,.tmp 15] (some (.tup [.agg [.int .i64,.int .i64],.one (.int .i64)])),Ex 17 16 0,Ex 18 16 1,⟨none,none,.op false (.store 2 (.tmp 4) (.tmp 17))⟩,As 5 18])
 .ret)),
 [.agg 4 2 [.int .i64,.int .i64],.tmp 5],
 [],
 []⟩
theorem r57_ok : resFun (progU ()) hint live 57 Try.f57 = some r57:=by kernel_rfl
def r58 : RFun :=
⟨.seq (.reg (some [0,1]) [⟨some 2,none,.op true (.box 2 (.tmp 0))⟩,⟨some 3,none,.op true (.box 2 (.tmp 1))⟩,⟨some 4,none,.op true (.new 2 [.int .i64 0,.int .i64 0])⟩,Ac 5 0])
 (.seq (.seq (.reg (some [2,3,4]) [Ld 7 2,Ld 8 3,Ca 9 63 [.tmp 7,.tmp 8] (some (.val (.one (.int .i64)))),As 6 9])
 (.seq (.reg (some [2,3,4,6]) [Mv 10 6,Bc 11 .neq 26 10 .i64 0])
 (.cond (.tmp 11) (.seq (.reg (some [4,6]) [Ro 12 (.build [.int .i64 0,.int .i64 0] []),Mv 13 6,⟨none,none,.op false (.store 2 (.tmp 4) (.tmp 12))⟩,As 5 13])
 .ret)
 .skip)))
 (.seq (.reg (some [2,3,4]) [Ld 14 2,Ld 15 3,Ca 16 71 [.tmp 14,.tmp 15] (some (.tup [.agg [.int .i64,.int .i64],.one (.int .i64)])),Ex 17 16 0,Ex 18 16 1,⟨none,none,.op false (.store 2 (.tmp 4) (.tmp 17))⟩,As 5 18])
 .ret)),
 [.agg 4 2 [.int .i64,.int .i64],.tmp 5],
 [],
 []⟩
theorem r58_ok : resFun (progU ()) hint live 58 Try.f58 = some r58:=by kernel_rfl
def r62 : RFun :=
⟨.seq (.reg (some [0,1,2]) [⟨some 6,none,.op true (.new 2 [.int .i64 0,.int .i64 0])⟩,Ac 7 0])
 (.seq (.seq (.reg (some [0,1,2,6]) [Mv 9 1,Bc 10 .gtr 80 9 .u64 1000000000000000000,Mv 11 10,⟨some 12,some (11,false),.op false (.old (.move (.tmp 2)))⟩,⟨some 13,some (11,false),.op false (.old (.binOp .gtr 80 (.tmp 12) (.const (.int .u64 1000000000000000000)) 80))⟩,Ol 14 (.pick (.tmp 11) (.const (.bool true)) (.tmp 13))])
 (.cond (.tmp 14) (.seq (.reg (some [6]) [Ro 15 (.build [.int .i64 0,.int .i64 0] []),⟨none,none,.op false (.store 2 (.tmp 6) (.tmp 15))⟩,Ac 7 16])
 .ret)
 .skip))
 (.seq (.reg (some [0,1,2,6]) [Mv 16 1,Ro 17 (.convI .i64 (.tmp 16)),Mv 18 2,Ro 19 (.convI .i64 (.tmp 18)),Ro 20 (.build [.int .i64 0,.int .i64 0] [(0,1,(.tmp 17)),(1,1,(.tmp 19))]),⟨some 8,none,.op true (.new 2 [.int .i64 0,.int .i64 0])⟩,⟨none,none,.op false (.store 2 (.tmp 8) (.tmp 20))⟩])
 (.seq (.seq (.reg (some [0,6,8]) [Mv 21 0])
 (.cond (.tmp 21) (.reg (some [6,8]) [Fa 22 0 8,L1 23 22,Ol 24 (.unOp .neg 2 (.tmp 23)),Fa 25 0 8,⟨none,none,.op false (.store 1 (.tmp 25) (.tmp 24))⟩])
 .skip))
 (.seq (.reg (some [6,8]) [Ld 26 8,⟨none,none,.op false (.store 2 (.tmp 6) (.tmp 26))⟩,Ac 7 0])
 .ret)))),
 [.agg 6 2 [.int .i64,.int .i64],.tmp 7],
 [],
 []⟩
theorem r62_ok : resFun (progU ()) hint live 62 Try.f62 = some r62:=by kernel_rfl
def r63 : RFun :=
⟨.seq (.reg (some [0,1]) [⟨some 2,none,.op true (.box 2 (.tmp 0))⟩,⟨some 3,none,.op true (.box 2 (.tmp 1))⟩,Ac 4 0])
 (.seq (.seq (.reg (some [2,3]) [Ld 6 2,Ca 7 32 [.tmp 6] (some (.val (.one (.int .i64)))),As 5 7])
 (.seq (.reg (some [3,5]) [Mv 8 5,Bc 9 .neq 26 8 .i64 0])
 (.cond (.tmp 9) (.seq (.reg (some [5]) [Mv 10 5,As 4 10])
 .ret)
 .skip)))
 (.seq (.reg (some [3]) [Ld 11 3,Ca 12 32 [.tmp 11] (some (.val (.one (.int .i64)))),As 4 12])
 .ret)),
 [.tmp 4],
 [],
 []⟩
theorem r63_ok : resFun (progU ()) hint live 63 Try.f63 = some r63:=by kernel_rfl
def r64 : RFun :=
⟨.seq (.reg (some [0,1]) [⟨some 2,none,.op true (.box 2 (.tmp 0))⟩,⟨some 3,none,.op true (.box 2 (.tmp 1))⟩,⟨some 4,none,.op true (.new 2 [.int .i64 0,.int .i64 0])⟩,Ac 5 0])
 (.seq (.draw (some [2,3,4]) 16 [Dr (Fa 16 0 2) 0 [1,2,5,8,11,12,13,14,15],Db (L1 17 16) 1 16 [2,5,8,11,12,13,14,15],Dr (Fa 19 1 2) 3 [4,5,8,11,12,13,14,15],Db (L1 20 19) 4 19 [5,8,11,12,13,14,15],Dr (Fa 22 0 3) 6 [7,8,11,12,13,14,15],Db (L1 23 22) 7 22 [8,11,12,13,14,15],Dr (Fa 25 1 3) 9 [10,11,12,13,14,15],Db (L1 26 25) 10 25 [11,12,13,14,15],⟨Ca 18 54 [.tmp 17] (some (.val (.one (.int .u64)))),2,.all,[5,8,11,12,13,14,15],false,false⟩,⟨Ca 21 54 [.tmp 20] (some (.val (.one (.int .u64)))),5,.all,[8,11,12,13,14,15],false,false⟩,⟨Ca 24 54 [.tmp 23] (some (.val (.one (.int .u64)))),8,.all,[11,12,13,14,15],false,false⟩,⟨Ca 27 54 [.tmp 26] (some (.val (.one (.int .u64)))),11,.all,[12,13,14,15],false,false⟩,Dr (As 6 18) 12 [13,14,15],Dr (As 7 21) 13 [14,15],Dr (As 8 24) 14 [15],Dr (As 9 27) 15 []])
 (.seq (.reg (some [2,3,4,6,7,8,9]) [Mv 28 6,Mv 29 9,Ca 30 53 [.tmp 28,.tmp 29] (some (.val (.one (.int .u64)))),Mv 31 8,Mv 32 7,Ca 33 53 [.tmp 31,.tmp 32] (some (.val (.one (.int .u64)))),As 10 30,As 11 33])
 (.seq (.draw (some [2,3,4,6,7,8,9,10,11]) 12 [Dr (Mv 35 6) 0 [2,6,7,8,9,10,11],Dr (Mv 36 10) 1 [2,6,7,8,9,10,11],Dr (Bt 37 .quo 80 35 36) 2 [6,7,8,9,10,11],Dr (Mv 38 8) 3 [5,6,7,8,9,10,11],Dr (Mv 39 11) 4 [5,6,7,8,9,10,11],Dr (Bt 40 .quo 80 38 39) 5 [6,7,8,9,10,11],⟨Ca 41 76 [.tmp 37,.tmp 40] (some (.tup [.one (.int .u64),.one (.int .u64)])),6,.all,[7,8,9,10,11],false,false⟩,Dr (Mv 34 41) 7 [8,9,10,11],Dr (Ex 42 34 0) 8 [10,11],Dr (Ex 43 34 1) 9 [11],Dr (As 12 42) 10 [11],Dr (As 13 43) 11 []])
 (.seq (.draw (some [2,3,4,7,9,10,11,12,13]) 12 [Dr (Mv 45 7) 0 [2,6,7,8,9,10,11],Dr (Mv 46 11) 1 [2,6,7,8,9,10,11],Dr (Bt 47 .quo 80 45 46) 2 [6,7,8,9,10,11],Dr (Mv 48 9) 3 [5,6,7,8,9,10,11],Dr (Mv 49 10) 4 [5,6,7,8,9,10,11],Dr (Bt 50 .quo 80 48 49) 5 [6,7,8,9,10,11],⟨Ca 51 76 [.tmp 47,.tmp 50] (some (.tup [.one (.int .u64),.one (.int .u64)])),6,.all,[7,8,9,10,11],false,false⟩,Dr (Mv 44 51) 7 [8,9,10,11],Dr (Ex 52 44 0) 8 [10,11],Dr (Ex 53 44 1) 9 [11],Dr (As 14 52) 10 [11],Dr (As 15 53) 11 []])
 (.seq (.seq (.reg (some [2,3,4,12,13,14,15]) [Mv 54 12,Bc 55 .neq 80 54 .u64 0,Mv 56 55,⟨some 57,some (56,false),.op false (.old (.move (.tmp 14)))⟩,⟨some 58,some (56,false),.op false (.old (.binOp .neq 80 (.tmp 57) (.const (.int .u64 0)) 80))⟩,Ol 59 (.pick (.tmp 56) (.const (.bool true)) (.tmp 58))])
 (.cond (.tmp 59) (.seq (.reg (some [4]) [Ro 60 (.build [.int .i64 0,.int .i64 0] []),⟨none,none,.op false (.store 2 (.tmp 4) (.tmp 60))⟩,Ac 5 16])
 .ret)
 .skip))
 (.seq (.reg (some [2,3,4,13,15]) [Fa 61 0 2,L1 62 61,Bc 63 .lss 2 62 .i64 0,Fa 64 0 3,L1 65 64,Bc 66 .lss 2 65 .i64 0,Bt 67 .neq 4 63 66,Mv 68 13,Mv 69 15,Ca 70 62 [.tmp 67,.tmp 68,.tmp 69] (some (.tup [.agg [.int .i64,.int .i64],.one (.int .i64)])),Ex 71 70 0,Ex 72 70 1,⟨none,none,.op false (.store 2 (.tmp 4) (.tmp 71))⟩,As 5 72])
 .ret)))))),
 [.agg 4 2 [.int .i64,.int .i64],.tmp 5],
 [],
 []⟩
theorem r64_ok : resFun (progU ()) hint live 64 Try.f64 = some r64:=by kernel_rfl
def r66 : RFun :=
⟨.seq (.reg (some [0,1]) [⟨some 2,none,.op true (.box 2 (.tmp 0))⟩,⟨some 3,none,.op true (.box 2 (.tmp 1))⟩,Ac 4 0])
 (.seq (.seq (.reg (some [2,3]) [Ld 5 2,Ca 6 28 [.tmp 5] (some (.val (.one (.int .i64)))),Bc 7 .neq 3 6 .i64 0])
 (.cond (.tmp 7) (.seq (.reg (some [2]) [Ld 8 2,Ca 9 28 [.tmp 8] (some (.val (.one (.int .i64)))),As 4 9])
 .ret)
 .skip))
 (.seq (.reg (some [3]) [Ld 10 3,Ca 11 28 [.tmp 10] (some (.val (.one (.int .i64)))),As 4 11])
 .ret)),
 [.tmp 4],
 [],
 []⟩
theorem r66_ok : resFun (progU ()) hint live 66 Try.f66 = some r66:=by kernel_rfl
def r67 : RFun :=
⟨.seq (.reg (some [0,1]) [⟨some 2,none,.op true (.box 2 (.tmp 0))⟩,⟨some 3,none,.op true (.box 2 (.tmp 1))⟩,⟨some 4,none,.op true (.new 2 [.int .i64 0,.int .i64 0])⟩,Ac 5 0])
 (.seq (.seq (.reg (some [2,3,4]) [Ld 8 2,Ld 9 3,Ca 10 66 [.tmp 8,.tmp 9] (some (.val (.one (.int .i64)))),Bc 11 .neq 3 10 .i64 0])
 (.cond (.tmp 11) (.seq (.reg (some [2,3,4]) [Ro 12 (.build [.int .i64 0,.int .i64 0] []),Ld 13 2,Ld 14 3,Ca 15 66 [.tmp 13,.tmp 14] (some (.val (.one (.int .i64)))),⟨none,none,.op false (.store 2 (.tmp 4) (.tmp 12))⟩,As 5 15])
 .ret)
 .skip))
 (.seq (.draw (some [2,3,4]) 16 [Dr (Fa 16 0 2) 0 [1,2,6,9,13,14,15],Db (L1 17 16) 1 16 [2,6,9,13,14,15],Dr (Fa 19 1 3) 3 [4,5,6,9,13,14,15],Db (L1 20 19) 4 19 [5,6,9,13,14,15],⟨Ro 21 (.convI .u64 (.tmp 20)),5,.cvt (.tmp 20),[6,9,13,14,15],false,true⟩,Dr (Fa 23 0 3) 7 [8,9,13,14,15],Db (L1 24 23) 8 23 [9,13,14,15],Dr (Fa 26 1 2) 10 [11,12,13,14,15],Db (L1 27 26) 11 26 [12,13,14,15],⟨Ro 28 (.convI .u64 (.tmp 27)),12,.cvt (.tmp 27),[13,14,15],false,true⟩,⟨Ca 18 48 [.tmp 17] (some (.val (.one (.int .u64)))),2,.all,[6,9,13,14,15],false,false⟩,⟨Ca 22 47 [.tmp 18,.tmp 21] (some (.val (.one (.int .u64)))),6,.all,[9,13,14,15],false,false⟩,⟨Ca 25 48 [.tmp 24] (some (.val (.one (.int .u64)))),9,.all,[13,14,15],false,false⟩,⟨Ca 29 47 [.tmp 25,.tmp 28] (some (.val (.one (.int .u64)))),13,.all,[14,15],false,false⟩,Dr (As 6 22) 14 [15],Dr (As 7 29) 15 []])
 (.seq (.draw (some [2,3,4,6,7]) 34 [Dr (Fa 30 0 2) 0 [1,2,6,29,30,31,32,33],Db (L1 31 30) 1 30 [2,6,29,30,31,32,33],Dr (Bc 32 .lss 2 31 .i64 0) 2 [6,29,30,31,32,33],Dr (Fa 33 0 3) 3 [4,5,6,29,30,31,32,33],Db (L1 34 33) 4 33 [5,6,29,30,31,32,33],Dr (Bc 35 .lss 2 34 .i64 0) 5 [6,29,30,31,32,33],Dr (Bt 36 .neq 4 32 35) 6 [29,30,31,32,33],Dr (Fa 37 0 2) 7 [8,9,11,14,16,17,28,29,30,31,32,33],Db (L1 38 37) 8 37 [9,11,14,16,17,28,29,30,31,32,33],Dr (Mv 40 6) 10 [11,17,28,29,30,31,32,33],Dr (Fa 42 0 3) 12 [13,14,16,17,28,29,30,31,32,33],Db (L1 43 42) 13 42 [14,16,17,28,29,30,31,32,33],Dr (Mv 45 7) 15 [16,17,28,29,30,31,32,33],Dr (Fa 48 1 2) 18 [19,20,22,28,29,30,31,32,33],Db (L1 49 48) 19 48 [20,22,28,29,30,31,32,33],⟨Ro 50 (.convI .u64 (.tmp 49)),20,.cvt (.tmp 49),[22,28,29,30,31,32,33],false,true⟩,Dr (Mv 51 7) 21 [22,28,29,30,31,32,33],Dr (Bt 52 .quo 80 50 51) 22 [28,29,30,31,32,33],Dr (Fa 53 1 3) 23 [24,25,27,28,29,30,31,32,33],Db (L1 54 53) 24 53 [25,27,28,29,30,31,32,33],⟨Ro 55 (.convI .u64 (.tmp 54)),25,.cvt (.tmp 54),[27,28,29,30,31,32,33],false,true⟩,Dr (Mv 56 6) 26 [27,28,29,30,31,32,33],Dr (Bt 57 .quo 80 55 56) 27 [28,29,30,31,32,33],⟨Ca 39 48 [.tmp 38] (some (.val (.one (.int .u64)))),9,.all,[11,14,16,17,28,29,30,31,32,33],false,false⟩,Dr (Bt 41 .quo 80 39 40) 11 [17,28,29,30,31,32,33],⟨Ca 44 48 [.tmp 43] (some (.val (.one (.int .u64)))),14,.all,[16,17,28,29,30,31,32,33],false,false⟩,Dr (Bt 46 .quo 80 44 45) 16 [17,28,29,30,31,32,33],⟨Ca 47 77 [.tmp 41,.tmp 46] (some (.val (.agg [.int .u64,.int .u64,.int .u64,.int .u64]))),17,.all,[28,29,30,31,32,33],false,false⟩,⟨Ca 58 77 [.tmp 52,.tmp 57] (some (.val (.agg [.int .u64,.int .u64,.int .u64,.int .u64]))),28,.all,[29,30,31,32,33],false,false⟩,⟨Ca 59 51 [.tmp 36,.tmp 47,.tmp 58] (some (.tup [.agg [.int .i64,.int .i64],.one (.int .i64)])),29,.all,[30,31,32,33],false,false⟩,Dr (Ex 60 59 0) 30 [32,33],Dr (Ex 61 59 1) 31 [32,33],⟨⟨none,none,.op false (.store 2 (.tmp 4) (.tmp 60))⟩,32,.blk (.tmp 4),[33],true,true⟩,Dr (As 5 61) 33 []])
 .ret))),
 [.agg 4 2 [.int .i64,.int .i64],.tmp 5],
 [],
 []⟩
theorem r67_ok : resFun (progU ()) hint live 67 Try.f67 = some r67:=by kernel_rfl
def r68 : RFun :=
⟨.seq (.reg (some [0,1]) [⟨some 2,none,.op true (.box 2 (.tmp 0))⟩,⟨some 3,none,.op true (.box 2 (.tmp 1))⟩,Ol 4 (.assign (.const (.bool false)))])
 (.seq (.seq (.reg (some [2,3]) [Fa 7 0 2,L1 8 7,Bc 9 .lss 2 8 .i64 0,Fa 10 0 3,L1 11 10,Bc 12 .lss 2 11 .i64 0,Bt 13 .neq 4 9 12])
 (.cond (.tmp 13) (.seq (.reg (some [2]) [Fa 14 0 2,L1 15 14,Bc 16 .lss 2 15 .i64 0,As 4 16])
 .ret)
 .skip))
 (.seq (.draw (some [2,3]) 18 [Dr (Fa 17 0 2) 0 [1,2,6,9,13,16,17],Db (L1 18 17) 1 17 [2,6,9,13,16,17],Dr (Fa 20 1 3) 3 [4,5,6,9,13,16,17],Db (L1 21 20) 4 20 [5,6,9,13,16,17],⟨Ro 22 (.convI .u64 (.tmp 21)),5,.cvt (.tmp 21),[6,9,13,16,17],false,true⟩,Dr (Fa 24 0 3) 7 [8,9,13,16,17],Db (L1 25 24) 8 24 [9,13,16,17],Dr (Fa 27 1 2) 10 [11,12,13,16,17],Db (L1 28 27) 11 27 [12,13,16,17],⟨Ro 29 (.convI .u64 (.tmp 28)),12,.cvt (.tmp 28),[13,16,17],false,true⟩,⟨⟨some 5,none,.op true (.new 4 [.int .u64 0,.int .u64 0,.int .u64 0,.int .u64 0])⟩,14,.new true,[16,17],false,true⟩,⟨⟨some 6,none,.op true (.new 4 [.int .u64 0,.int .u64 0,.int .u64 0,.int .u64 0])⟩,15,.new true,[16,17],false,true⟩,⟨Ca 19 48 [.tmp 18] (some (.val (.one (.int .u64)))),2,.all,[6,9,13,16,17],false,false⟩,⟨Ca 23 77 [.tmp 19,.tmp 22] (some (.val (.agg [.int .u64,.int .u64,.int .u64,.int .u64]))),6,.all,[9,13,16,17],false,false⟩,⟨Ca 26 48 [.tmp 25] (some (.val (.one (.int .u64)))),9,.all,[13,16,17],false,false⟩,⟨Ca 30 77 [.tmp 26,.tmp 29] (some (.val (.agg [.int .u64,.int .u64,.int .u64,.int .u64]))),13,.all,[16,17],false,false⟩,⟨⟨none,none,.op false (.store 4 (.tmp 5) (.tmp 23))⟩,16,.blk (.tmp 5),[17],true,true⟩,⟨⟨none,none,.op false (.store 4 (.tmp 6) (.tmp 30))⟩,17,.blk (.tmp 6),[],true,true⟩])
 (.seq (.seq (.reg (some [2,5,6]) [Fa 31 0 2,L1 32 31,Bc 33 .lss 2 32 .i64 0])
 (.cond (.tmp 33) (.seq (.reg (some [5,6]) [Ro 34 (.load 4 [.int .u64,.int .u64,.int .u64,.int .u64] (.tmp 6)),Ro 35 (.load 4 [.int .u64,.int .u64,.int .u64,.int .u64] (.tmp 5)),Ca 36 78 [.tmp 34,.tmp 35] (some (.val (.one .bool))),As 4 36])
 .ret)
 .skip))
 (.seq (.reg (some [5,6]) [Ro 37 (.load 4 [.int .u64,.int .u64,.int .u64,.int .u64] (.tmp 5)),Ro 38 (.load 4 [.int .u64,.int .u64,.int .u64,.int .u64] (.tmp 6)),Ca 39 78 [.tmp 37,.tmp 38] (some (.val (.one .bool))),As 4 39])
 .ret)))),
 [.tmp 4],
 [],
 []⟩
theorem r68_ok : resFun (progU ()) hint live 68 Try.f68 = some r68:=by kernel_rfl
def r69 : RFun :=
⟨.seq (.reg (some [0]) [Ro 1 (.box 4 (.tmp 0)),Ac 2 0,Ol 3 (.assign (.const (.bool false)))])
 (.seq (.reg (some [1]) [Fa 5 0 1,Ro 6 (.ixA 4 1 (.tmp 5) (.const (.int .i64 1))),Ro 7 (.load1 (.int .u64) (.tmp 6)),Ol 8 (.binOp .shl 80 (.tmp 7) (.const (.int .u64 32)) 100),Fa 9 0 1,Ro 10 (.ixA 4 1 (.tmp 9) (.const (.int .i64 0))),Ro 11 (.load1 (.int .u64) (.tmp 10)),Bt 12 .or 80 8 11,As 4 12])
 (.seq (.reg (some [1,4]) [Mv 13 4,Bc 14 .and 80 13 .u64 9223372036854775807,Ro 15 (.convI .i64 (.tmp 14)),Fa 16 0 1,Ro 17 (.ixA 4 1 (.tmp 16) (.const (.int .i64 2))),Ro 18 (.load1 (.int .u64) (.tmp 17)),Bc 19 .eql 80 18 .u64 0,Mv 20 19,⟨some 21,some (20,true),.op false (.fieldAddr 0 (.tmp 1))⟩,⟨some 22,some (20,true),.op false (.ixA 4 1 (.tmp 21) (.const (.int .i64 3)))⟩,⟨some 23,some (20,true),.op false (.load1 (.int .u64) (.tmp 22))⟩,⟨some 24,some (20,true),.op false (.old (.binOp .eql 80 (.tmp 23) (.const (.int .u64 0)) 80))⟩,Ol 25 (.pick (.tmp 20) (.tmp 24) (.const (.bool false))),Mv 26 25,⟨some 27,some (26,true),.op false (.old (.move (.tmp 4)))⟩,⟨some 28,some (26,true),.op false (.old (.binOp .leq 80 (.tmp 27) (.const (.int .u64 1000000000000000000)) 80))⟩,Ol 29 (.pick (.tmp 26) (.tmp 28) (.const (.bool false))),As 2 15,As 3 29])
 .ret)),
 [.tmp 2,.tmp 3],
 [],
 []⟩
theorem r69_ok : resFun (progU ()) hint live 69 Try.f69 = some r69:=by kernel_rfl
def r70 : RFun :=
⟨.seq (.reg (some [0,1]) [⟨some 2,none,.op true (.box 2 (.tmp 0))⟩,⟨some 3,none,.op true (.box 2 (.tmp 1))⟩,Ac 4 0])
 (.seq (.block 0 (.seq (.reg (some [2,3]) [Fa 7 0 2,L1 8 7,Bc 9 .lss 2 8 .i64 0,Mv 10 9,⟨some 11,some (10,true),.op false (.fieldAddr 0 (.tmp 3))⟩,⟨some 12,some (10,true),.op false (.load1 (.int .i64) (.tmp 11))⟩,⟨some 13,some (10,true),.op false (.old (.binOp .geq 2 (.tmp 12) (.const (.int .i64 0)) 2))⟩,Ol 14 (.pick (.tmp 10) (.tmp 13) (.const (.bool false))),As 6 14])
 (.cond (.tmp 6) (.seq (.reg (some []) [Ol 4 (.assign (.const (.int .i64 (-1))))])
 .ret)
 (.seq (.reg (some [2,3]) [Fa 16 0 2,L1 17 16,Bc 18 .geq 2 17 .i64 0,Mv 19 18,⟨some 20,some (19,true),.op false (.fieldAddr 0 (.tmp 3))⟩,⟨some 21,some (19,true),.op false (.load1 (.int .i64) (.tmp 20))⟩,⟨some 22,some (19,true),.op false (.old (.binOp .lss 2 (.tmp 21) (.const (.int .i64 0)) 2))⟩,Ol 23 (.pick (.tmp 19) (.tmp 22) (.const (.bool false))),As 15 23])
 (.cond (.tmp 15) (.seq (.reg (some []) [Ac 4 1])
 .ret)
 .skip)))))
 (.seq (.draw (some [2,3]) 14 [Dr (Fa 24 0 2) 0 [1,2,5,8,11,12,13],Db (L1 25 24) 1 24 [2,5,8,11,12,13],Dr (Fa 27 1 3) 3 [4,5,8,11,12,13],Db (L1 28 27) 4 27 [5,8,11,12,13],Dr (Fa 30 0 3) 6 [7,8,11,12,13],Db (L1 31 30) 7 30 [8,11,12,13],Dr (Fa 33 1 2) 9 [10,11,12,13],Db (L1 34 33) 10 33 [11,12,13],⟨Ca 26 54 [.tmp 25] (some (.val (.one (.int .u64)))),2,.all,[5,8,11,12,13],false,false⟩,⟨Ca 29 54 [.tmp 28] (some (.val (.one (.int .u64)))),5,.all,[8,11,12,13],false,false⟩,⟨Ca 32 54 [.tmp 31] (some (.val (.one (.int .u64)))),8,.all,[11,12,13],false,false⟩,⟨Ca 35 54 [.tmp 34] (some (.val (.one (.int .u64)))),11,.all,[12,13],false,false⟩,⟨Ca 36 79 [.tmp 26,.tmp 29,.tmp 32,.tmp 35] (some (.val (.one (.int .i64)))),12,.all,[13],false,false⟩,Dr (As 5 36) 13 []])
 (.seq (.seq (.reg (some [2,5]) [Fa 37 0 2,L1 38 37,Bc 39 .lss 2 38 .i64 0])
 (.cond (.tmp 39) (.seq (.reg (some [5]) [Mv 40 5,Ol 41 (.unOp .neg 3 (.tmp 40)),As 4 41])
 .ret)
 .skip))
 (.seq (.reg (some [5]) [Mv 42 5,As 4 42])
 .ret)))),
 [.tmp 4],
 [],
 []⟩
theorem r70_ok : resFun (progU ()) hint live 70 Try.f70 = some r70:=by kernel_rfl
def r71 : RFun :=
⟨.seq (.reg (some [0,1]) [⟨some 2,none,.op true (.box 2 (.tmp 0))⟩,⟨some 3,none,.op true (.box 2 (.tmp 1))⟩,⟨some 4,none,.op true (.new 2 [.int .i64 0,.int .i64 0])⟩,Ac 5 0])
 (.seq (.draw (some [2,3,4]) 8 [Dr (Fa 22 1 2) 0 [1,2,5,6,7],Db (L1 23 22) 1 22 [2,5,6,7],Dr (Fa 25 1 3) 3 [4,5,6,7],Db (L1 26 25) 4 25 [5,6,7],⟨Ca 24 54 [.tmp 23] (some (.val (.one (.int .u64)))),2,.all,[5,6,7],false,false⟩,⟨Ca 27 54 [.tmp 26] (some (.val (.one (.int .u64)))),5,.all,[6,7],false,false⟩,Dr (As 6 24) 6 [7],Dr (As 7 27) 7 []])
 (.seq (.reg (some [2,3,4,6,7]) [Mv 28 6,Mv 29 7,Ca 30 53 [.tmp 28,.tmp 29] (some (.val (.one (.int .u64)))),As 8 30])
 (.seq (.draw (some [2,3,4,6,7,8]) 12 [Dr (Fa 32 0 2) 0 [1,2,6,7,8,9,10,11],Db (L1 33 32) 1 32 [2,6,7,8,9,10,11],Dr (Mv 35 7) 3 [5,6,7,8,9,10,11],Dr (Mv 36 8) 4 [5,6,7,8,9,10,11],Dr (Bt 37 .quo 80 35 36) 5 [6,7,8,9,10,11],⟨Ca 34 54 [.tmp 33] (some (.val (.one (.int .u64)))),2,.all,[6,7,8,9,10,11],false,false⟩,⟨Ca 38 76 [.tmp 34,.tmp 37] (some (.tup [.one (.int .u64),.one (.int .u64)])),6,.all,[7,8,9,10,11],false,false⟩,Dr (Mv 31 38) 7 [8,9,10,11],Dr (Ex 39 31 0) 8 [10,11],Dr (Ex 40 31 1) 9 [11],Dr (As 9 39) 10 [11],Dr (As 10 40) 11 []])
 (.seq (.draw (some [2,3,4,6,7,8,9,10]) 12 [Dr (Fa 42 0 3) 0 [1,2,6,7,8,9,10,11],Db (L1 43 42) 1 42 [2,6,7,8,9,10,11],Dr (Mv 45 6) 3 [5,6,7,8,9,10,11],Dr (Mv 46 8) 4 [5,6,7,8,9,10,11],Dr (Bt 47 .quo 80 45 46) 5 [6,7,8,9,10,11],⟨Ca 44 54 [.tmp 43] (some (.val (.one (.int .u64)))),2,.all,[6,7,8,9,10,11],false,false⟩,⟨Ca 48 76 [.tmp 44,.tmp 47] (some (.tup [.one (.int .u64),.one (.int .u64)])),6,.all,[7,8,9,10,11],false,false⟩,Dr (Mv 41 48) 7 [8,9,10,11],Dr (Ex 49 41 0) 8 [10,11],Dr (Ex 50 41 1) 9 [11],Dr (As 11 49) 10 [11],Dr (As 12 50) 11 []])
 (.seq (.reg (some [2,3,4,6,7,8,9,10,11,12]) [Fa 51 0 2,L1 52 51,Bc 53 .lss 2 52 .i64 0,As 13 53])
 (.seq (.reg (some [2,3,4,6,7,8,9,10,11,12,13]) [Ol 14 (.assign (.const (.int .u64 0))),Ol 15 (.assign (.const (.int .u64 0))),Ol 16 (.assign (.const (.int .u64 0)))])
 (.seq (.block 0 (.seq (.reg (some [2,3,4,6,7,8,9,10,11,12,13]) [Fa 71 0 2,L1 72 71,Bc 73 .lss 2 72 .i64 0,Fa 74 0 3,L1 75 74,Bc 76 .lss 2 75 .i64 0,Bt 77 .eql 4 73 76,As 70 77])
 (.cond (.tmp 70) (.seq (.reg (some [4,6,7,8,9,10,11,12,13]) [Mv 79 10,Mv 80 12,Ca 81 80 [.tmp 79,.tmp 80,.const (.int .u64 0)] (some (.tup [.one (.int .u64),.one (.int .u64)])),Mv 78 81,Ex 82 78 0,Ex 83 78 1,As 15 82,As 16 83])
 (.reg (some [4,6,7,8,9,11,13,15,16]) [Mv 85 9,Mv 86 11,Mv 87 16,Ca 88 80 [.tmp 85,.tmp 86,.tmp 87] (some (.tup [.one (.int .u64),.one (.int .u64)])),Mv 84 88,Ex 89 84 0,Ex 90 84 1,As 14 89]))
 (.seq (.reg (some [3,4,6,7,8,9,10,11,12,13]) [Mv 92 9,Mv 93 10,Mv 94 11,Mv 95 12,Ca 96 81 [.tmp 92,.tmp 93,.tmp 94,.tmp 95] (some (.val (.one (.int .i64)))),Bc 97 .geq 3 96 .i64 0,As 91 97])
 (.cond (.tmp 91) (.seq (.reg (some [4,6,7,8,9,10,11,12,13]) [Mv 99 10,Mv 100 12,Ca 101 82 [.tmp 99,.tmp 100,.const (.int .u64 0)] (some (.tup [.one (.int .u64),.one (.int .u64)])),Mv 98 101,Ex 102 98 0,Ex 103 98 1,As 15 102,As 16 103])
 (.reg (some [4,6,7,8,9,11,13,15,16]) [Mv 105 9,Mv 106 11,Mv 107 16,Ca 108 82 [.tmp 105,.tmp 106,.tmp 107] (some (.tup [.one (.int .u64),.one (.int .u64)])),Mv 104 108,Ex 109 104 0,Ex 110 104 1,As 14 109]))
 (.seq (.reg (some [3,4,6,7,8,9,10,11,12]) [Fa 54 0 3,L1 55 54,Bc 56 .lss 2 55 .i64 0,As 13 56])
 (.seq (.reg (some [4,6,7,8,9,10,11,12,13]) [Mv 58 12,Mv 59 10,Ca 60 82 [.tmp 58,.tmp 59,.const (.int .u64 0)] (some (.tup [.one (.int .u64),.one (.int .u64)])),Mv 57 60,Ex 61 57 0,Ex 62 57 1,As 15 61,As 16 62])
 (.reg (some [4,6,7,8,9,11,13,15,16]) [Mv 64 11,Mv 65 9,Mv 66 16,Ca 67 82 [.tmp 64,.tmp 65,.tmp 66] (some (.tup [.one (.int .u64),.one (.int .u64)])),Mv 63 67,Ex 68 63 0,Ex 69 63 1,As 14 68]))))))))
 (.seq (.reg (some [4,6,7,8,13,14,15]) [Mv 111 8,Mv 112 14,Mv 113 15,Mv 114 8,Ca 115 83 [.tmp 112,.tmp 113,.tmp 114] (some (.val (.one (.int .u64)))),Ca 116 53 [.tmp 111,.tmp 115] (some (.val (.one (.int .u64)))),As 17 116])
 (.seq (.seq (.reg (some [4,6,7,8,13,14,15,17]) [Mv 117 14,Mv 118 17,Bt 119 .geq 80 117 118])
 (.cond (.tmp 119) (.seq (.reg (some [4]) [Ro 120 (.build [.int .i64 0,.int .i64 0] []),⟨none,none,.op false (.store 2 (.tmp 4) (.tmp 120))⟩,Ac 5 16])
 .ret)
 .skip))
 (.seq (.reg (some [4,6,7,8,13,14,15,17]) [Mv 122 14,Mv 123 15,Mv 124 17,Ca 125 84 [.tmp 122,.tmp 123,.tmp 124] (some (.tup [.one (.int .u64),.one (.int .u64)])),Mv 121 125,Ex 126 121 0,Ex 127 121 1,As 18 126,As 19 127])
 (.seq (.draw (some [4,6,7,8,13,17,18]) 12 [Dr (Mv 129 6) 0 [2,6,7,8,9,10,11],Dr (Mv 130 8) 1 [2,6,7,8,9,10,11],Dr (Bt 131 .quo 80 129 130) 2 [6,7,8,9,10,11],Dr (Mv 132 7) 3 [5,6,7,8,9,10,11],Dr (Mv 133 17) 4 [5,6,7,8,9,10,11],Dr (Bt 134 .quo 80 132 133) 5 [6,7,8,9,10,11],⟨Ca 135 76 [.tmp 131,.tmp 134] (some (.tup [.one (.int .u64),.one (.int .u64)])),6,.all,[7,8,9,10,11],false,false⟩,Dr (Mv 128 135) 7 [8,9,10,11],Dr (Ex 136 128 0) 8 [10,11],Dr (Ex 137 128 1) 9 [11],Dr (As 20 136) 10 [11],Dr (As 21 137) 11 []])
 (.seq (.seq (.reg (some [4,13,18,20,21]) [Mv 138 20,Bc 139 .neq 80 138 .u64 0])
 (.cond (.tmp 139) (.seq (.reg (some [4]) [Ro 140 (.build [.int .i64 0,.int .i64 0] []),⟨none,none,.op false (.store 2 (.tmp 4) (.tmp 140))⟩,Ac 5 16])
 .ret)
 .skip))
 (.seq (.reg (some [4,13,18,21]) [Mv 141 13,Mv 142 18,Mv 143 21,Ca 144 62 [.tmp 141,.tmp 142,.tmp 143] (some (.tup [.agg [.int .i64,.int .i64],.one (.int .i64)])),Ex 145 144 0,Ex 146 144 1,⟨none,none,.op false (.store 2 (.tmp 4) (.tmp 145))⟩,As 5 146])
 .ret))))))))))))),
 [.agg 4 2 [.int .i64,.int .i64],.tmp 5],
 [],
 []⟩
theorem r71_ok : resFun (progU ()) hint live 71 Try.f71 = some r71:=by kernel_rfl
def r72 : RFun :=
⟨.seq (.reg (some [0,1]) [⟨some 2,none,.op true (.box 2 (.tmp 0))⟩,⟨some 3,none,.op true (.box 2 (.tmp 1))⟩,⟨some 4,none,.op true (.new 2 [.int .i64 0,.int .i64 0])⟩,Ac 5 0])
 (.seq (.seq (.reg (some [2,3,4]) [Ld 6 2,Ld 7 3,Ca 8 66 [.tmp 6,.tmp 7] (some (.val (.one (.int .i64)))),Bc 9 .neq 3 8 .i64 0])
 (.cond (.tmp 9) (.seq (.reg (some [2,3,4]) [Ro 10 (.build [.int .i64 0,.int .i64 0] []),Ld 11 2,Ld 12 3,Ca 13 66 [.tmp 11,.tmp 12] (some (.val (.one (.int .i64)))),⟨none,none,.op false (.store 2 (.tmp 4) (.tmp 10))⟩,As 5 13])
 .ret)
 .skip))
 (.seq (.draw (some [2,3,4]) 8 [Db (Ld 14 2) 0 2 [3,4,5,6,7],Db (Ld 15 3) 1 3 [2,3,4,5,6,7],⟨Ca 16 85 [.tmp 15] (some (.val (.agg [.int .i64,.int .i64]))),2,.all,[3,4,5,6,7],false,false⟩,⟨Ca 17 73 [.tmp 14,.tmp 16] (some (.tup [.agg [.int .i64,.int .i64],.one (.int .i64)])),3,.all,[4,5,6,7],false,false⟩,Dr (Ex 18 17 0) 4 [6,7],Dr (Ex 19 17 1) 5 [6,7],⟨⟨none,none,.op false (.store 2 (.tmp 4) (.tmp 18))⟩,6,.blk (.tmp 4),[7],true,true⟩,Dr (As 5 19) 7 []])
 .ret)),
 [.agg 4 2 [.int .i64,.int .i64],.tmp 5],
 [],
 []⟩
theorem r72_ok : resFun (progU ()) hint live 72 Try.f72 = some r72:=by kernel_rfl
def r73 : RFun :=
⟨.seq (.reg (some [0,1]) [⟨some 2,none,.op true (.box 2 (.tmp 0))⟩,⟨some 3,none,.op true (.box 2 (.tmp 1))⟩,⟨some 4,none,.op true (.new 2 [.int .i64 0,.int .i64 0])⟩,Ac 5 0])
 (.seq (.seq (.reg (some [2,3,4]) [Ld 12 2,Ld 13 3,Ca 14 66 [.tmp 12,.tmp 13] (some (.val (.one (.int .i64)))),Bc 15 .neq 3 14 .i64 0])
 (.cond (.tmp 15) (.seq (.reg (some [2,3,4]) [Ro 16 (.build [.int .i64 0,.int .i64 0] []),Ld 17 2,Ld 18 3,Ca 19 66 [.tmp 17,.tmp 18] (some (.val (.one (.int .i64)))),⟨none,none,.op false (.store 2 (.tmp 4) (.tmp 16))⟩,As 5 19])
 .ret)
 .skip))
 (.seq (.reg (some [2,3,4]) [Fa 20 1 2,L1 21 20,Ro 22 (.convI .u64 (.tmp 21)),Fa 23 1 3,L1 24 23,Ro 25 (.convI .u64 (.tmp 24)),Ca 26 47 [.tmp 22,.tmp 25] (some (.val (.one (.int .u64)))),As 6 26])
 (.seq (.draw (some [2,3,4,6]) 22 [Dr (Fa 27 0 2) 0 [1,2,8,11,17,20,21],Db (L1 28 27) 1 27 [2,8,11,17,20,21],Dr (Fa 30 1 3) 3 [4,5,7,8,11,17,20,21],Db (L1 31 30) 4 30 [5,7,8,11,17,20,21],⟨Ro 32 (.convI .u64 (.tmp 31)),5,.cvt (.tmp 31),[7,8,11,17,20,21],false,true⟩,Dr (Mv 33 6) 6 [7,8,11,17,20,21],Dr (Bt 34 .quo 80 32 33) 7 [8,11,17,20,21],Dr (Fa 36 0 3) 9 [10,11,17,20,21],Db (L1 37 36) 10 36 [11,17,20,21],Dr (Fa 39 1 2) 12 [13,14,16,17,20,21],Db (L1 40 39) 13 39 [14,16,17,20,21],⟨Ro 41 (.convI .u64 (.tmp 40)),14,.cvt (.tmp 40),[16,17,20,21],false,true⟩,Dr (Mv 42 6) 15 [16,17,20,21],Dr (Bt 43 .quo 80 41 42) 16 [17,20,21],⟨⟨some 7,none,.op true (.new 4 [.int .u64 0,.int .u64 0,.int .u64 0,.int .u64 0])⟩,18,.new true,[20,21],false,true⟩,⟨⟨some 8,none,.op true (.new 4 [.int .u64 0,.int .u64 0,.int .u64 0,.int .u64 0])⟩,19,.new true,[20,21],false,true⟩,⟨Ca 29 48 [.tmp 28] (some (.val (.one (.int .u64)))),2,.all,[8,11,17,20,21],false,false⟩,⟨Ca 35 77 [.tmp 29,.tmp 34] (some (.val (.agg [.int .u64,.int .u64,.int .u64,.int .u64]))),8,.all,[11,17,20,21],false,false⟩,⟨Ca 38 48 [.tmp 37] (some (.val (.one (.int .u64)))),11,.all,[17,20,21],false,false⟩,⟨Ca 44 77 [.tmp 38,.tmp 43] (some (.val (.agg [.int .u64,.int .u64,.int .u64,.int .u64]))),17,.all,[20,21],false,false⟩,⟨⟨none,none,.op false (.store 4 (.tmp 7) (.tmp 35))⟩,20,.blk (.tmp 7),[21],true,true⟩,⟨⟨none,none,.op false (.store 4 (.tmp 8) (.tmp 44))⟩,21,.blk (.tmp 8),[],true,true⟩])
 (.seq (.seq (.reg (some [2,3,4,6,7,8]) [Fa 45 0 2,L1 46 45,Bc 47 .lss 2 46 .i64 0,Fa 48 0 3,L1 49 48,Bc 50 .lss 2 49 .i64 0,Bt 51 .eql 4 47 50])
 (.cond (.tmp 51) (.reg (some [2,3,4,6,7,8]) [Ro 52 (.load 4 [.int .u64,.int .u64,.int .u64,.int .u64] (.tmp 7)),Ro 53 (.load 4 [.int .u64,.int .u64,.int .u64,.int .u64] (.tmp 8)),Ca 54 86 [.tmp 52,.tmp 53] (some (.val (.agg [.int .u64,.int .u64,.int .u64,.int .u64]))),⟨none,none,.op false (.store 4 (.tmp 7) (.tmp 54))⟩])
 (.seq (.reg (some [2,3,4,6,7,8]) [Ro 55 (.load 4 [.int .u64,.int .u64,.int .u64,.int .u64] (.tmp 7)),Ro 56 (.load 4 [.int .u64,.int .u64,.int .u64,.int .u64] (.tmp 8)),Ca 57 78 [.tmp 55,.tmp 56] (some (.val (.one .bool)))])
 (.cond (.tmp 57) (.draw (some [2,3,4,6,7,8]) 8 [Db (Ro 58 (.load 4 [.int .u64,.int .u64,.int .u64,.int .u64] (.tmp 8))) 0 8 [2,5,6,7],Db (Ro 59 (.load 4 [.int .u64,.int .u64,.int .u64,.int .u64] (.tmp 7))) 1 7 [2,5,6,7],Db (Ld 61 3) 3 3 [6,7],Db (Ld 62 2) 4 2 [5,6,7],⟨Ca 60 87 [.tmp 58,.tmp 59] (some (.val (.agg [.int .u64,.int .u64,.int .u64,.int .u64]))),2,.all,[5,6,7],false,false⟩,⟨⟨none,none,.op false (.store 4 (.tmp 7) (.tmp 60))⟩,5,.blk (.tmp 7),[6,7],true,true⟩,⟨⟨none,none,.op false (.store 2 (.tmp 2) (.tmp 61))⟩,6,.blk (.tmp 2),[7],true,true⟩,⟨⟨none,none,.op false (.store 2 (.tmp 3) (.tmp 62))⟩,7,.blk (.tmp 3),[],true,true⟩])
 (.reg (some [2,3,4,6,7,8]) [Ro 63 (.load 4 [.int .u64,.int .u64,.int .u64,.int .u64] (.tmp 7)),Ro 64 (.load 4 [.int .u64,.int .u64,.int .u64,.int .u64] (.tmp 8)),Ca 65 87 [.tmp 63,.tmp 64] (some (.val (.agg [.int .u64,.int .u64,.int .u64,.int .u64]))),⟨none,none,.op false (.store 4 (.tmp 7) (.tmp 65))⟩])))))
 (.seq (.reg (some [2,3,4,6,7]) [Ro 67 (.load 4 [.int .u64,.int .u64,.int .u64,.int .u64] (.tmp 7)),Mv 68 6,Ca 69 88 [.tmp 67,.tmp 68] (some (.tup [.agg [.int .u64,.int .u64,.int .u64,.int .u64],.one (.int .u64)])),Mv 66 69,Ex 70 66 0,Ex 71 66 1,⟨some 9,none,.op true (.new 4 [.int .u64 0,.int .u64 0,.int .u64 0,.int .u64 0])⟩,⟨none,none,.op false (.store 4 (.tmp 9) (.tmp 70))⟩,As 10 71])
 (.seq (.reg (some [2,3,4,6,7,10]) [Mv 72 10,Mv 73 6,Ca 74 47 [.tmp 72,.tmp 73] (some (.val (.one (.int .u64)))),As 11 74])
 (.seq (.reg (some [2,3,4,6,7,11]) [Ro 76 (.load 4 [.int .u64,.int .u64,.int .u64,.int .u64] (.tmp 7)),Mv 77 11,Ca 78 88 [.tmp 76,.tmp 77] (some (.tup [.agg [.int .u64,.int .u64,.int .u64,.int .u64],.one (.int .u64)])),Mv 75 78,Ex 79 75 0,Ex 80 75 1,⟨none,none,.op false (.store 4 (.tmp 7) (.tmp 79))⟩])
 (.seq (.seq (.reg (some [2,3,4,6,7,11]) [Ro 81 (.load 4 [.int .u64,.int .u64,.int .u64,.int .u64] (.tmp 7)),Ro 82 (.build [.int .u64 0,.int .u64 0,.int .u64 0,.int .u64 0] []),Bt 83 .eql 88 81 82])
 (.cond (.tmp 83) (.seq (.reg (some [4]) [Ro 84 (.build [.int .i64 0,.int .i64 0] [(1,1,(.const (.int .i64 1)))]),⟨none,none,.op false (.store 2 (.tmp 4) (.tmp 84))⟩,Ac 5 0])
 .ret)
 .skip))
 (.seq (.draw (some [2,3,4,6,7,11]) 20 [Dr (Fa 85 0 2) 0 [1,2,15,16,17,18,19],Db (L1 86 85) 1 85 [2,15,16,17,18,19],Dr (Bc 87 .lss 2 86 .i64 0) 2 [15,16,17,18,19],Db (Ro 88 (.load 4 [.int .u64,.int .u64,.int .u64,.int .u64] (.tmp 7))) 3 7 [15,16,17,18,19],Dr (Fa 89 1 2) 4 [5,6,8,14,15,16,17,18,19],Db (L1 90 89) 5 89 [6,8,14,15,16,17,18,19],⟨Ro 91 (.convI .u64 (.tmp 90)),6,.cvt (.tmp 90),[8,14,15,16,17,18,19],false,true⟩,Dr (Mv 92 6) 7 [8,14,15,16,17,18,19],Dr (Bt 93 .quo 80 91 92) 8 [14,15,16,17,18,19],Dr (Fa 94 1 3) 9 [10,11,13,14,15,16,17,18,19],Db (L1 95 94) 10 94 [11,13,14,15,16,17,18,19],⟨Ro 96 (.convI .u64 (.tmp 95)),11,.cvt (.tmp 95),[13,14,15,16,17,18,19],false,true⟩,Dr (Mv 97 11) 12 [13,14,15,16,17,18,19],Dr (Bt 98 .quo 80 96 97) 13 [14,15,16,17,18,19],⟨Ca 99 77 [.tmp 93,.tmp 98] (some (.val (.agg [.int .u64,.int .u64,.int .u64,.int .u64]))),14,.all,[15,16,17,18,19],false,false⟩,⟨Ca 100 51 [.tmp 87,.tmp 88,.tmp 99] (some (.tup [.agg [.int .i64,.int .i64],.one (.int .i64)])),15,.all,[16,17,18,19],false,false⟩,Dr (Ex 101 100 0) 16 [18,19],Dr (Ex 102 100 1) 17 [18,19],⟨⟨none,none,.op false (.store 2 (.tmp 4) (.tmp 101))⟩,18,.blk (.tmp 4),[19],true,true⟩,Dr (As 5 102) 19 []])
 .ret))))))))),
 [.agg 4 2 [.int .i64,.int .i64],.tmp 5],
 [],
 []⟩
theorem r73_ok : resFun (progU ()) hint live 73 Try.f73 = some r73:=by kernel_rfl
def r76 : RFun :=
⟨.seq (.reg (some [0,1]) [Ol 4 (.assign (.const (.int .u64 0))),Ol 5 (.assign (.const (.int .u64 0)))])
 (.seq (.reg (some [0,1]) [Mv 14 0,Bc 15 .and 80 14 .u64 4294967295,As 6 15])
 (.seq (.reg (some [0,1,6]) [Mv 16 0,Ol 17 (.binOp .shr 80 (.tmp 16) (.const (.int .u64 32)) 100),As 7 17])
 (.seq (.reg (some [0,1,6,7]) [Mv 18 1,Bc 19 .and 80 18 .u64 4294967295,As 8 19])
 (.seq (.reg (some [0,1,6,7,8]) [Mv 20 1,Ol 21 (.binOp .shr 80 (.tmp 20) (.const (.int .u64 32)) 100),As 9 21])
 (.seq (.reg (some [0,1,6,7,8,9]) [Mv 22 6,Mv 23 8,Bt 24 .mul 80 22 23,As 10 24])
 (.seq (.reg (some [0,1,6,7,8,9,10]) [Mv 25 7,Mv 26 8,Bt 27 .mul 80 25 26,Mv 28 10,Ol 29 (.binOp .shr 80 (.tmp 28) (.const (.int .u64 32)) 100),Bt 30 .add 80 27 29,As 11 30])
 (.seq (.reg (some [0,1,6,7,9,11]) [Mv 31 11,Bc 32 .and 80 31 .u64 4294967295,As 12 32])
 (.seq (.reg (some [0,1,6,7,9,11,12]) [Mv 33 11,Ol 34 (.binOp .shr 80 (.tmp 33) (.const (.int .u64 32)) 100),As 13 34])
 (.seq (.reg (some [0,1,6,7,9,12,13]) [Mv 35 12,Mv 36 6,Mv 37 9,Bt 38 .mul 80 36 37,Bt 39 .add 80 35 38,As 12 39])
 (.seq (.reg (some [0,1,7,9,12,13]) [Mv 40 7,Mv 41 9,Bt 42 .mul 80 40 41,Mv 43 13,Bt 44 .add 80 42 43,Mv 45 12,Ol 46 (.binOp .shr 80 (.tmp 45) (.const (.int .u64 32)) 100),Bt 47 .add 80 44 46,As 4 47])
 (.seq (.reg (some [0,1,4]) [Mv 48 0,Mv 49 1,Bt 50 .mul 80 48 49,As 5 50])
 .ret))))))))))),
 [.tmp 4,.tmp 5],
 [],
 []⟩
theorem r76_ok : resFun (progU ()) hint live 76 Try.f76 = some r76:=by kernel_rfl
def r77 : RFun :=
⟨.seq (.reg (some [0,1]) [⟨some 4,none,.op true (.new 4 [.int .u64 0,.int .u64 0,.int .u64 0,.int .u64 0])⟩])
 (.seq (.reg (some [0,1,4]) [Mv 11 0,Ca 12 52 [.tmp 11] (some (.val (.agg [.int .u64,.int .u64,.int .u64,.int .u64]))),Mv 13 1,Ca 14 52 [.tmp 13] (some (.val (.agg [.int .u64,.int .u64,.int .u64,.int .u64]))),Ro 5 (.new 4 [.int .u64 0,.int .u64 0,.int .u64 0,.int .u64 0]),Ro 6 (.new 4 [.int .u64 0,.int .u64 0,.int .u64 0,.int .u64 0]),⟨none,none,.op false (.store 4 (.tmp 5) (.tmp 12))⟩,⟨none,none,.op false (.store 4 (.tmp 6) (.tmp 14))⟩])
 (.seq (.reg (some [4,5,6]) [Ro 15 (.build [.int .u64 0,.int .u64 0,.int .u64 0,.int .u64 0] []),Ro 7 (.new 4 [.int .u64 0,.int .u64 0,.int .u64 0,.int .u64 0]),⟨none,none,.op false (.store 4 (.tmp 7) (.tmp 15))⟩])
 (.seq (.seq (.reg (some [4,5,6,7]) [Ac 8 0])
 (.block 0 (.loop 4 (some [4,5,6,7,8]) (some [4,5,6,7,8]))))
 (.seq (.reg (some [4,7]) [Ro 60 (.load 4 [.int .u64,.int .u64,.int .u64,.int .u64] (.tmp 7)),⟨none,none,.op false (.store 4 (.tmp 4) (.tmp 60))⟩])
 .ret)))),
 [.agg 4 4 [.int .u64,.int .u64,.int .u64,.int .u64]],
 [(4,⟨some [4,5,6,7,8],some [4,5,6,7,8],.seq (.seq (.reg (some [4,5,6,7,8]) [Mv 16 8,Bc 17 .lss 3 16 .i64 2])
 (.cond (.tmp 17) .skip
 (.exit 0 (some [4,7]))))
 (.seq (.block 1 (.seq (.reg (some [4,5,6,7,8]) [Ol 9 (.assign (.const (.int .u64 0)))])
 (.seq (.seq (.reg (some [4,5,6,7,8,9]) [Ac 10 0])
 (.block 2 (.loop 8 (some [4,5,6,7,8,9,10]) (some [4,5,6,7,8,9,10]))))
 (.reg (some [4,5,6,7,8,9]) [Mv 51 8,Bc 52 .add 3 51 .i64 2,Fa 53 0 7,Ro 54 (.ixA 4 1 (.tmp 53) (.tmp 52)),Ro 55 (.load1 (.int .u64) (.tmp 54)),Mv 56 9,Bt 57 .add 80 55 56,Fa 58 0 7,Ro 59 (.ixA 4 1 (.tmp 58) (.tmp 52)),⟨none,none,.op false (.store 1 (.tmp 59) (.tmp 57))⟩]))))
 (.reg (some [4,5,6,7,8]) [Mv 18 8,Bc 19 .add 3 18 .i64 1,As 8 19]))⟩),(8,⟨some [4,5,6,7,8,9,10],some [4,5,6,7,8,9,10],.seq (.seq (.reg (some [4,5,6,7,8,9,10]) [Mv 20 10,Bc 21 .lss 3 20 .i64 2])
 (.cond (.tmp 21) .skip
 (.exit 2 (some [4,5,6,7,8,9]))))
 (.seq (.block 3 (.seq (.draw (some [4,5,6,7,8,9,10]) 19 [Dr (Mv 24 9) 0 [17,18],Dr (Mv 25 8) 1 [3,5,6,16,17,18],Dr (Mv 26 10) 2 [3,5,6,16,17,18],Dr (Bt 27 .add 3 25 26) 3 [5,6,16,17,18],Dr (Fa 28 0 7) 4 [5,6,16,17,18],Dr (Ro 29 (.ixA 4 1 (.tmp 28) (.tmp 27))) 5 [6,16,17,18],Db (Ro 30 (.load1 (.int .u64) (.tmp 29))) 6 29 [16,17,18],Dr (Mv 31 8) 7 [9,10,15,16,17,18],Dr (Fa 32 0 5) 8 [9,10,15,16,17,18],Dr (Ro 33 (.ixA 4 1 (.tmp 32) (.tmp 31))) 9 [10,15,16,17,18],Db (Ro 34 (.load1 (.int .u64) (.tmp 33))) 10 33 [15,16,17,18],Dr (Mv 35 10) 11 [13,14,15,16,17,18],Dr (Fa 36 0 6) 12 [13,14,15,16,17,18],Dr (Ro 37 (.ixA 4 1 (.tmp 36) (.tmp 35))) 13 [14,15,16,17,18],Db (Ro 38 (.load1 (.int .u64) (.tmp 37))) 14 37 [15,16,17,18],Dr (Bt 39 .mul 80 34 38) 15 [16,17,18],Dr (Bt 40 .add 80 30 39) 16 [17,18],Dr (Bt 41 .add 80 24 40) 17 [18],Dr (As 9 41) 18 []])
 (.seq (.reg (some [4,5,6,7,8,9,10]) [Mv 42 8,Mv 43 10,Bt 44 .add 3 42 43,Mv 45 9,Bc 46 .and 80 45 .u64 4294967295,Fa 47 0 7,Ro 48 (.ixA 4 1 (.tmp 47) (.tmp 44)),⟨none,none,.op false (.store 1 (.tmp 48) (.tmp 46))⟩])
 (.reg (some [4,5,6,7,8,9,10]) [Mv 49 9,Ol 50 (.binOp .shr 80 (.tmp 49) (.const (.int .u64 32)) 100),As 9 50]))))
 (.reg (some [4,5,6,7,8,9,10]) [Mv 22 10,Bc 23 .add 3 22 .i64 1,As 10 23]))⟩)],
 []⟩
theorem r77_ok : resFun (progU ()) hint live 77 Try.f77 = some r77:=by kernel_rfl
def r78 : RFun :=
⟨.seq (.reg (some [0,1]) [Ro 2 (.box 4 (.tmp 0)),Ro 3 (.box 4 (.tmp 1)),Ol 4 (.assign (.const (.bool false)))])
 (.seq (.seq (.reg (some [2,3]) [Ac 5 3])
 (.block 0 (.loop 2 (some [2,3,5]) (some [2,3,5]))))
 (.seq (.reg (some []) [Ol 4 (.assign (.const (.bool false)))])
 .ret)),
 [.tmp 4],
 [(2,⟨some [2,3,5],some [2,3,5],.seq (.seq (.reg (some [2,3,5]) [Mv 6 5,Bc 7 .geq 3 6 .i64 0])
 (.cond (.tmp 7) .skip
 (.exit 0 (some []))))
 (.seq (.block 1 (.seq (.draw (some [2,3,5]) 9 [Dr (Mv 10 5) 0 [2,3,8],Dr (Fa 11 0 2) 1 [2,3,8],Dr (Ro 12 (.ixA 4 1 (.tmp 11) (.tmp 10))) 2 [3,8],Db (Ro 13 (.load1 (.int .u64) (.tmp 12))) 3 12 [8],Dr (Mv 14 5) 4 [6,7,8],Dr (Fa 15 0 3) 5 [6,7,8],Dr (Ro 16 (.ixA 4 1 (.tmp 15) (.tmp 14))) 6 [7,8],Db (Ro 17 (.load1 (.int .u64) (.tmp 16))) 7 16 [8],Dr (Bt 18 .neq 80 13 17) 8 []])
 (.cond (.tmp 18) (.seq (.draw (some [2,3,5]) 10 [Dr (Mv 19 5) 0 [2,3,8,9],Dr (Fa 20 0 2) 1 [2,3,8,9],Dr (Ro 21 (.ixA 4 1 (.tmp 20) (.tmp 19))) 2 [3,8,9],Db (Ro 22 (.load1 (.int .u64) (.tmp 21))) 3 21 [8,9],Dr (Mv 23 5) 4 [6,7,8,9],Dr (Fa 24 0 3) 5 [6,7,8,9],Dr (Ro 25 (.ixA 4 1 (.tmp 24) (.tmp 23))) 6 [7,8,9],Db (Ro 26 (.load1 (.int .u64) (.tmp 25))) 7 25 [8,9],Dr (Bt 27 .lss 80 22 26) 8 [9],Dr (As 4 27) 9 []])
 .ret)
 .skip)))
 (.reg (some [2,3,5]) [Mv 8 5,Bc 9 .sub 3 8 .i64 1,As 5 9]))⟩)],
 []⟩
theorem r78_ok : resFun (progU ()) hint live 78 Try.f78 = some r78:=by kernel_rfl
def r79 : RFun :=
⟨.seq (.reg (some [0,1,2,3]) [Ac 8 0])
 (.seq (.reg (some [0,1,2,3]) [Mv 14 0,Mv 15 1,Ca 16 76 [.tmp 14,.tmp 15] (some (.tup [.one (.int .u64),.one (.int .u64)])),Mv 13 16,Ex 17 13 0,Ex 18 13 1,As 9 17,As 10 18])
 (.seq (.reg (some [2,3,9,10]) [Mv 20 2,Mv 21 3,Ca 22 76 [.tmp 20,.tmp 21] (some (.tup [.one (.int .u64),.one (.int .u64)])),Mv 19 22,Ex 23 19 0,Ex 24 19 1,As 11 23,As 12 24])
 (.seq (.reg (some [9,10,11,12]) [Mv 25 9,Mv 26 10,Mv 27 11,Mv 28 12,Ca 29 81 [.tmp 25,.tmp 26,.tmp 27,.tmp 28] (some (.val (.one (.int .i64)))),As 8 29])
 .ret))),
 [.tmp 8],
 [],
 []⟩
theorem r79_ok : resFun (progU ()) hint live 79 Try.f79 = some r79:=by kernel_rfl
def r81 : RFun :=
⟨.seq (.reg (some [0,1,2,3]) [Ac 8 0])
 (.seq (.block 0 (.seq (.reg (some [0,1,2,3]) [Mv 10 0,Mv 11 2,Bt 12 .gtr 80 10 11,Mv 13 12,⟨some 14,some (13,false),.op false (.old (.move (.tmp 0)))⟩,⟨some 15,some (13,false),.op false (.old (.move (.tmp 2)))⟩,⟨some 16,some (13,false),.op false (.old (.binOp .eql 80 (.tmp 14) (.tmp 15) 80))⟩,⟨some 17,some (13,false),.op false (.old (.move (.tmp 16)))⟩,⟨some 18,some (17,true),.op false (.old (.move (.tmp 1)))⟩,⟨some 19,some (17,true),.op false (.old (.move (.tmp 3)))⟩,⟨some 20,some (17,true),.op false (.old (.binOp .gtr 80 (.tmp 18) (.tmp 19) 80))⟩,⟨some 21,some (13,false),.op false (.old (.pick (.tmp 17) (.tmp 20) (.const (.bool false))))⟩,Ol 22 (.pick (.tmp 13) (.const (.bool true)) (.tmp 21)),As 9 22])
 (.cond (.tmp 9) (.seq (.reg (some []) [Ac 8 1])
 .ret)
 (.seq (.reg (some [0,1,2,3]) [Mv 24 0,Mv 25 2,Bt 26 .eql 80 24 25,Mv 27 26,⟨some 28,some (27,true),.op false (.old (.move (.tmp 1)))⟩,⟨some 29,some (27,true),.op false (.old (.move (.tmp 3)))⟩,⟨some 30,some (27,true),.op false (.old (.binOp .eql 80 (.tmp 28) (.tmp 29) 80))⟩,Ol 31 (.pick (.tmp 27) (.tmp 30) (.const (.bool false))),As 23 31])
 (.cond (.tmp 23) (.seq (.reg (some []) [Ac 8 0])
 .ret)
 .skip)))))
 (.seq (.reg (some []) [Ol 8 (.assign (.const (.int .i64 (-1))))])
 .ret)),
 [.tmp 8],
 [],
 []⟩
theorem r81_ok : resFun (progU ()) hint live 81 Try.f81 = some r81:=by kernel_rfl
def r83 : RFun :=
⟨.seq (.reg (some [0,1,2]) [Ol 6 (.assign (.const (.int .u64 0)))])
 (.seq (.reg (some [0,1,2]) [Mv 10 0,Mv 11 2,Bt 12 .rem 80 10 11,Mv 13 1,Mv 14 2,Ca 15 84 [.tmp 12,.tmp 13,.tmp 14] (some (.tup [.one (.int .u64),.one (.int .u64)])),Mv 9 15,Ex 16 9 0,Ex 17 9 1,As 7 16,As 8 17])
 (.seq (.reg (some [8]) [Mv 18 8,As 6 18])
 .ret)),
 [.tmp 6],
 [],
 []⟩
theorem r83_ok : resFun (progU ()) hint live 83 Try.f83 = some r83:=by kernel_rfl
end Go.Proofs.Ytnokkniofajnhaa
