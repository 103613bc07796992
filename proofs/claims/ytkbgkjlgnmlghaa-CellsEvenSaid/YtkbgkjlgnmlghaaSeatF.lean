import Derived.Test.YtkbgkjlgnmlghaaSeat0
import Derived.Test.YtkbgkjlgnmlghaaSymS
set_option linter.unusedSimpArgs false
set_option linter.unusedVariables false
namespace Go.Proofs.Ytkbgkjlgnmlghaa
open Go.Sim
set_option maxRecDepth 100000
def r52 : RFun :=
⟨.seq (.reg (some [0,1]) [⟨some 2,none,.op true (.box 2 (.tmp 0))⟩,⟨some 3,none,.op true (.box 2 (.tmp 1))⟩,⟨some 4,none,.op true (.new 2 [.int .i64 0,.int .i64 0])⟩,Ac 5 0])
 (.seq (.draw (some [2,3,4]) 8 [Dr (Fa 22 1 2) 0 [1,2,5,6,7],Db (L1 23 22) 1 22 [2,5,6,7],Dr (Fa 25 1 3) 3 [4,5,6,7],Db (L1 26 25) 4 25 [5,6,7],⟨Ca 24 72 [.tmp 23] (some (.val (.one (.int .u64)))),2,.all,[5,6,7],false,false⟩,⟨Ca 27 72 [.tmp 26] (some (.val (.one (.int .u64)))),5,.all,[6,7],false,false⟩,Dr (As 6 24) 6 [7],Dr (As 7 27) 7 []])
 (.seq (.reg (some [2,3,4,6,7]) [Mv 28 6,Mv 29 7,Ca 30 73 [.tmp 28,.tmp 29] (some (.val (.one (.int .u64)))),As 8 30])
 (.seq (.draw (some [2,3,4,6,7,8]) 12 [Dr (Fa 32 0 2) 0 [1,2,6,7,8,9,10,11],Db (L1 33 32) 1 32 [2,6,7,8,9,10,11],Dr (Mv 35 7) 3 [5,6,7,8,9,10,11],Dr (Mv 36 8) 4 [5,6,7,8,9,10,11],Dr (Bt 37 .quo 110 35 36) 5 [6,7,8,9,10,11],⟨Ca 34 72 [.tmp 33] (some (.val (.one (.int .u64)))),2,.all,[6,7,8,9,10,11],false,false⟩,⟨Ca 38 74 [.tmp 34,.tmp 37] (some (.tup [.one (.int .u64),.one (.int .u64)])),6,.all,[7,8,9,10,11],false,false⟩,Dr (Mv 31 38) 7 [8,9,10,11],Dr (Ex 39 31 0) 8 [10,11],Dr (Ex 40 31 1) 9 [11],Dr (As 9 39) 10 [11],Dr (As 10 40) 11 []])
 (.seq (.draw (some [2,3,4,6,7,8,9,10]) 12 [Dr (Fa 42 0 3) 0 [1,2,6,7,8,9,10,11],Db (L1 43 42) 1 42 [2,6,7,8,9,10,11],Dr (Mv 45 6) 3 [5,6,7,8,9,10,11],Dr (Mv 46 8) 4 [5,6,7,8,9,10,11],Dr (Bt 47 .quo 110 45 46) 5 [6,7,8,9,10,11],⟨Ca 44 72 [.tmp 43] (some (.val (.one (.int .u64)))),2,.all,[6,7,8,9,10,11],false,false⟩,⟨Ca 48 74 [.tmp 44,.tmp 47] (some (.tup [.one (.int .u64),.one (.int .u64)])),6,.all,[7,8,9,10,11],false,false⟩,Dr (Mv 41 48) 7 [8,9,10,11],Dr (Ex 49 41 0) 8 [10,11],Dr (Ex 50 41 1) 9 [11],Dr (As 11 49) 10 [11],Dr (As 12 50) 11 []])
 (.seq (.reg (some [2,3,4,6,7,8,9,10,11,12]) [Fa 51 0 2,L1 52 51,Bc 53 .lss 2 52 .i64 0,As 13 53])
 (.seq (.reg (some [2,3,4,6,7,8,9,10,11,12,13]) [Ol 14 (.assign (.const (.int .u64 0))),Ol 15 (.assign (.const (.int .u64 0))),Ol 16 (.assign (.const (.int .u64 0)))])
 (.seq (.block 0 (.seq (.reg (some [2,3,4,6,7,8,9,10,11,12,13]) [Fa 71 0 2,L1 72 71,Bc 73 .lss 2 72 .i64 0,Fa 74 0 3,L1 75 74,Bc 76 .lss 2 75 .i64 0,Bt 77 .eql 4 73 76,As 70 77])
 (.cond (.tmp 70) (.seq (.reg (some [4,6,7,8,9,10,11,12,13]) [Mv 79 10,Mv 80 12,Ca 81 76 [.tmp 79,.tmp 80,.const (.int .u64 0)] (some (.tup [.one (.int .u64),.one (.int .u64)])),Mv 78 81,Ex 82 78 0,Ex 83 78 1,As 15 82,As 16 83])
 (.reg (some [4,6,7,8,9,11,13,15,16]) [Mv 85 9,Mv 86 11,Mv 87 16,Ca 88 76 [.tmp 85,.tmp 86,.tmp 87] (some (.tup [.one (.int .u64),.one (.int .u64)])),Mv 84 88,Ex 89 84 0,Ex 90 84 1,As 14 89]))
 (.seq (.reg (some [3,4,6,7,8,9,10,11,12,13]) [Mv 92 9,Mv 93 10,Mv 94 11,Mv 95 12,Ca 96 77 [.tmp 92,.tmp 93,.tmp 94,.tmp 95] (some (.val (.one (.int .i64)))),Bc 97 .geq 3 96 .i64 0,As 91 97])
 (.cond (.tmp 91) (.seq (.reg (some [4,6,7,8,9,10,11,12,13]) [Mv 99 10,Mv 100 12,Ca 101 78 [.tmp 99,.tmp 100,.const (.int .u64 0)] (some (.tup [.one (.int .u64),.one (.int .u64)])),Mv 98 101,Ex 102 98 0,Ex 103 98 1,As 15 102,As 16 103])
 (.reg (some [4,6,7,8,9,11,13,15,16]) [Mv 105 9,Mv 106 11,Mv 107 16,Ca 108 78 [.tmp 105,.tmp 106,.tmp 107] (some (.tup [.one (.int .u64),.one (.int .u64)])),Mv 104 108,Ex 109 104 0,Ex 110 104 1,As 14 109]))
 (.seq (.reg (some [3,4,6,7,8,9,10,11,12]) [Fa 54 0 3,L1 55 54,Bc 56 .lss 2 55 .i64 0,As 13 56])
 (.seq (.reg (some [4,6,7,8,9,10,11,12,13]) [Mv 58 12,Mv 59 10,Ca 60 78 [.tmp 58,.tmp 59,.const (.int .u64 0)] (some (.tup [.one (.int .u64),.one (.int .u64)])),Mv 57 60,Ex 61 57 0,Ex 62 57 1,As 15 61,As 16 62])
 (.reg (some [4,6,7,8,9,11,13,15,16]) [Mv 64 11,Mv 65 9,Mv 66 16,Ca 67 78 [.tmp 64,.tmp 65,.tmp 66] (some (.tup [.one (.int .u64),.one (.int .u64)])),Mv 63 67,Ex 68 63 0,Ex 69 63 1,As 14 68]))))))))
 (.seq (.reg (some [4,6,7,8,13,14,15]) [Mv 111 8,Mv 112 14,Mv 113 15,Mv 114 8,Ca 115 79 [.tmp 112,.tmp 113,.tmp 114] (some (.val (.one (.int .u64)))),Ca 116 73 [.tmp 111,.tmp 115] (some (.val (.one (.int .u64)))),As 17 116])
 (.seq (.seq (.reg (some [4,6,7,8,13,14,15,17]) [Mv 117 14,Mv 118 17,Bt 119 .geq 110 117 118])
 (.cond (.tmp 119) (.seq (.reg (some [4]) [Ro 120 (.build [.int .i64 0,.int .i64 0] []),⟨none,none,.op false (.store 2 (.tmp 4) (.tmp 120))⟩,Ac 5 16])
 .ret)
 .skip))
 (.seq (.reg (some [4,6,7,8,13,14,15,17]) [Mv 122 14,Mv 123 15,Mv 124 17,Ca 125 80 [.tmp 122,.tmp 123,.tmp 124] (some (.tup [.one (.int .u64),.one (.int .u64)])),Mv 121 125,Ex 126 121 0,Ex 127 121 1,As 18 126,As 19 127])
 (.seq (.draw (some [4,6,7,8,13,17,18]) 12 [Dr (Mv 129 6) 0 [2,6,7,8,9,10,11],Dr (Mv 130 8) 1 [2,6,7,8,9,10,11],Dr (Bt 131 .quo 110 129 130) 2 [6,7,8,9,10,11],Dr (Mv 132 7) 3 [5,6,7,8,9,10,11],Dr (Mv 133 17) 4 [5,6,7,8,9,10,11],Dr (Bt 134 .quo 110 132 133) 5 [6,7,8,9,10,11],⟨Ca 135 74 [.tmp 131,.tmp 134] (some (.tup [.one (.int .u64),.one (.int .u64)])),6,.all,[7,8,9,10,11],false,false⟩,Dr (Mv 128 135) 7 [8,9,10,11],Dr (Ex 136 128 0) 8 [10,11],Dr (Ex 137 128 1) 9 [11],Dr (As 20 136) 10 [11],Dr (As 21 137) 11 []])
 (.seq (.seq (.reg (some [4,13,18,20,21]) [Mv 138 20,Bc 139 .neq 110 138 .u64 0])
 (.cond (.tmp 139) (.seq (.reg (some [4]) [Ro 140 (.build [.int .i64 0,.int .i64 0] []),⟨none,none,.op false (.store 2 (.tmp 4) (.tmp 140))⟩,Ac 5 16])
 .ret)
 .skip))
 (.seq (.reg (some [4,13,18,21]) [Mv 141 13,Mv 142 18,Mv 143 21,Ca 144 75 [.tmp 141,.tmp 142,.tmp 143] (some (.tup [.agg [.int .i64,.int .i64],.one (.int .i64)])),Ex 145 144 0,Ex 146 144 1,⟨none,none,.op false (.store 2 (.tmp 4) (.tmp 145))⟩,As 5 146])
 .ret))))))))))))),
 [.agg 4 2 [.int .i64,.int .i64],.tmp 5],
 [],
 []⟩
theorem r52_ok : resFun (progU ()) hint live 52 Try.f52 = some r52:=by kernel_rfl
def r53 : RFun :=
⟨.seq (.reg (some [0]) [Ac 2 0])
 (.seq (.seq (.reg (some [0]) [Mv 7 0,Ro 8 (.lenS (.tmp 7)),Bc 9 .lss 3 8 .i64 2,Mv 10 9,⟨some 11,some (10,false),.op false (.old (.move (.tmp 0)))⟩,⟨some 12,some (10,false),.op false (.lenS (.tmp 11))⟩,⟨some 13,some (10,false),.op false (.old (.binOp .gtr 3 (.tmp 12) (.const (.int .i64 8)) 3))⟩,Ol 14 (.pick (.tmp 10) (.const (.bool true)) (.tmp 13))])
 (.cond (.tmp 14) (.seq (.reg (some []) [Ac 2 2])
 .ret)
 .skip))
 (.seq (.seq (.reg (some [0]) [Mv 15 0,Ro 16 (.lenS (.tmp 15)),Ol 17 (.move (.const (.int .i64 0)))])
 (.block 0 (.loop 4 none (some [0,15,16,17]))))
 (.seq (.seq (.reg (some [0]) [Mv 27 0,Ro 28 (.lenS (.tmp 27)),Ol 29 (.move (.const (.int .i64 0)))])
 (.block 2 (.loop 10 none (some [27,28,29]))))
 (.seq (.reg (some []) [Ac 2 0])
 .ret)))),
 [.tmp 2],
 [(4,⟨none,some [0,15,16,17],.seq (.reg (some [0,15,16,17]) [Bt 18 .lss 3 17 16])
 (.seq (.cond (.tmp 18) .skip
 (.exit 0 (some [0])))
 (.seq (.block 1 (.seq (.reg (some [0,15,16,17]) [Ix 19 1 15 17,Ro 20 (.load1 .slice (.tmp 19)),As 4 20])
 (.seq (.reg (some [0,4,15,16,17]) [Mv 21 4,Ro 22 (.lenS (.tmp 21)),Mv 23 0,Ro 24 (.lenS (.tmp 23)),Bt 25 .neq 3 22 24])
 (.cond (.tmp 25) (.seq (.reg (some []) [Ac 2 2])
 .ret)
 .skip))))
 (.reg (some [0,15,16,17]) [Bc 26 .add 3 17 .i64 1,Mv 17 26])))⟩),(10,⟨none,some [27,28,29],.seq (.reg (some [27,28,29]) [Bt 30 .lss 3 29 28])
 (.seq (.cond (.tmp 30) .skip
 (.exit 2 (some [])))
 (.seq (.block 3 (.seq (.reg (some [27,28,29]) [Ix 31 1 27 29,Ro 32 (.load1 .slice (.tmp 31)),As 6 32])
 (.seq (.reg (some [6,27,28,29]) [Mv 33 6,Ca 34 40 [.tmp 33] (some (.val (.one .bool))),Ol 35 (.unOp .not 4 (.tmp 34))])
 (.cond (.tmp 35) (.seq (.reg (some []) [Ac 2 8])
 .ret)
 .skip))))
 (.reg (some [27,28,29]) [Bc 36 .add 3 29 .i64 1,Mv 29 36])))⟩)],
 []⟩
theorem r53_ok : resFun (progU ()) hint live 53 Try.f53 = some r53:=by kernel_rfl
def r54 : RFun :=
⟨.seq (.reg (some [0]) [Ol 2 (.assign (.const (.slice none 0 0)))])
 (.seq (.reg (some [0]) [Ac 3 0])
 (.seq (.seq (.reg (some [0,3]) [Mv 9 0,Ro 10 (.lenS (.tmp 9)),Ol 11 (.move (.const (.int .i64 0)))])
 (.block 0 (.loop 3 none (some [0,3,9,10,11]))))
 (.seq (.reg (some [0,3]) [Mv 23 3,Ca 24 81 [.const (.slice none 0 0),.tmp 23] (some (.val (.one .slice))),As 6 24])
 (.seq (.seq (.reg (some [0,6]) [Mv 25 0,Ro 26 (.lenS (.tmp 25)),Ol 27 (.move (.const (.int .i64 0)))])
 (.block 2 (.loop 11 none (some [6,25,26,27]))))
 (.seq (.reg (some [6]) [Mv 35 6,As 2 35])
 .ret))))),
 [.tmp 2],
 [(3,⟨none,some [0,3,9,10,11],.seq (.reg (some [0,3,9,10,11]) [Bt 12 .lss 3 11 10])
 (.seq (.cond (.tmp 12) .skip
 (.exit 0 (some [0,3])))
 (.seq (.block 1 (.seq (.reg (some [0,3,9,10,11]) [Ix 13 1 9 11,Ro 14 (.load1 .slice (.tmp 13)),As 5 14])
 (.seq (.reg (some [0,3,5,9,10,11]) [Mv 15 3,Mv 16 5,Ro 17 (.lenS (.tmp 16)),Bt 18 .add 3 15 17,As 3 18])
 (.seq (.reg (some [0,3,9,10,11]) [Mv 19 3,Bc 20 .lss 3 19 .i64 0])
 (.cond (.tmp 20) (.reg (some [0,3,9,10,11]) [⟨some 21,none,.op false (.old (.makeInterface 9 (.const (.string ⟨#[108,101,110,32,111,117,116,32,111,102,32,114,97,110,103,101]⟩))))⟩,⟨none,none,.op false (.old (.panic (.tmp 21)))⟩])
 .skip)))))
 (.reg (some [0,3,9,10,11]) [Bc 22 .add 3 11 .i64 1,Mv 11 22])))⟩),(11,⟨none,some [6,25,26,27],.seq (.reg (some [6,25,26,27]) [Bt 28 .lss 3 27 26])
 (.seq (.cond (.tmp 28) .skip
 (.exit 2 (some [6])))
 (.seq (.block 3 (.seq (.reg (some [6,25,26,27]) [Ix 29 1 25 27,Ro 30 (.load1 .slice (.tmp 29)),As 8 30])
 (.reg (some [6,8,25,26,27]) [Mv 31 6,Mv 32 8,⟨some 33,none,.op false (.old (.call ⟨.builtin .append,#[.tmp 31,.tmp 32],#[27,27]⟩))⟩,As 6 33])))
 (.reg (some [6,25,26,27]) [Bc 34 .add 3 27 .i64 1,Mv 27 34])))⟩)],
 []⟩
theorem r54_ok : resFun (progU ()) hint live 54 Try.f54 = some r54:=by kernel_rfl
def r55 : RFun :=
⟨.seq (.reg (some [0]) [⟨some 1,none,.op true (.box 3 (.tmp 0))⟩,⟨some 2,none,.op true (.new 3 [.int .i64 0,.int .i64 0,.int .i64 0])⟩,Ac 3 0])
 (.seq (.seq (.reg (some [1,2]) [Ro 5 (.load 3 [.int .i64,.int .i64,.int .i64] (.tmp 1)),Ca 6 63 [.tmp 5] (some (.val (.one (.int .i64)))),As 4 6])
 (.seq (.reg (some [1,2,4]) [Mv 7 4,Bc 8 .neq 30 7 .i64 0])
 (.cond (.tmp 8) (.seq (.reg (some [2,4]) [Ro 9 (.build [.int .i64 0,.int .i64 0,.int .i64 0] []),Mv 10 4,⟨none,none,.op false (.store 3 (.tmp 2) (.tmp 9))⟩,As 3 10])
 .ret)
 .skip)))
 (.seq (.reg (some [1,2]) [Fa 11 1 1,L1 12 11,Ol 13 (.unOp .neg 2 (.tmp 12)),Fa 14 1 1,⟨none,none,.op false (.store 1 (.tmp 14) (.tmp 13))⟩])
 (.seq (.reg (some [1,2]) [Ro 15 (.load 3 [.int .i64,.int .i64,.int .i64] (.tmp 1)),⟨none,none,.op false (.store 3 (.tmp 2) (.tmp 15))⟩,Ac 3 0])
 .ret))),
 [.agg 2 3 [.int .i64,.int .i64,.int .i64],.tmp 3],
 [],
 []⟩
theorem r55_ok : resFun (progU ()) hint live 55 Try.f55 = some r55:=by kernel_rfl
def r56 : RFun :=
⟨.seq (.reg (some [0]) [⟨some 1,none,.op true (.box 2 (.tmp 0))⟩,Ac 2 0,Ac 3 0])
 (.seq (.seq (.reg (some [1]) [Ld 5 1,Ca 6 66 [.tmp 5] (some (.val (.one (.int .i64)))),As 4 6])
 (.seq (.reg (some [1,4]) [Mv 7 4,Bc 8 .neq 30 7 .i64 0])
 (.cond (.tmp 8) (.seq (.reg (some [4]) [Mv 9 4,Ac 2 0,As 3 9])
 .ret)
 .skip)))
 (.seq (.reg (some [1]) [Fa 10 0 1,L1 11 10,Fa 12 1 1,L1 13 12,Ca 14 82 [.tmp 11,.tmp 13] (some (.val (.one (.int .i64)))),As 2 14,Ac 3 0])
 .ret)),
 [.tmp 2,.tmp 3],
 [],
 []⟩
theorem r56_ok : resFun (progU ()) hint live 56 Try.f56 = some r56:=by kernel_rfl
def r57 : RFun :=
⟨.seq (.reg (some [0,1]) [⟨some 2,none,.op true (.box 2 (.tmp 0))⟩,⟨some 3,none,.op true (.box 2 (.tmp 1))⟩,⟨some 4,none,.op true (.new 2 [.int .i64 0,.int .i64 0])⟩,Ac 5 0])
 (.seq (.seq (.reg (some [2,3,4]) [Ld 7 2,Ld 8 3,Ca 9 50 [.tmp 7,.tmp 8] (some (.val (.one (.int .i64)))),As 6 9])
 (.seq (.reg (some [2,3,4,6]) [Mv 10 6,Bc 11 .neq 30 10 .i64 0])
 (.cond (.tmp 11) (.seq (.reg (some [4,6]) [Ro 12 (.build [.int .i64 0,.int .i64 0] []),Mv 13 6,⟨none,none,.op false (.store 2 (.tmp 4) (.tmp 12))⟩,As 5 13])
 .ret)
 .skip)))
 (.seq (.reg (some [2,3,4]) [Ld 14 2,Fa 15 0 3,L1 16 15,Ol 17 (.unOp .neg 2 (.tmp 16)),Fa 18 1 3,L1 19 18,Ro 20 (.build [.int .i64 0,.int .i64 0] [(0,1,(.tmp 17)),(1,1,(.tmp 19))]),Ca 21 52 [.tmp 14,.tmp 20] (some (.tup [.agg [.int .i64,.int .i64],.one (.int .i64)])),Ex 22 21 0,Ex 23 21 1,⟨none,none,.op false (.store 2 (.tmp 4) (.tmp 22))⟩,As 5 23])
 .ret)),
 [.agg 4 2 [.int .i64,.int .i64],.tmp 5],
 [],
 []⟩
theorem r57_ok : resFun (progU ()) hint live 57 Try.f57 = some r57:=by kernel_rfl
def r58 : RFun :=
⟨.seq (.reg (some [0,1,2,3,4]) [Ol 10 (.assign (.const (.bool true)))])
 (.seq (.reg (some [0,1,2,3,4,10]) [Ol 11 (.assign (.const (.bool true)))])
 (.block 0 (.loop 2 (some [0,1,2,3,4,10,11]) (some [0,1,2,3,4,10,11])))),
 [],
 [(2,⟨some [0,1,2,3,4,10,11],some [0,1,2,3,4,10,11],.block 1 (.seq (.reg (some [0,1,2,3,4,10,11]) [Mv 21 2,Mv 22 1,Bt 23 .sub 3 21 22,As 12 23])
 (.seq (.seq (.reg (some [0,1,2,3,4,10,11,12]) [Mv 24 12,Bc 25 .leq 3 24 .i64 12])
 (.cond (.tmp 25) (.seq (.reg (some [0,1,2,4]) [Mv 26 0,Mv 27 1,Mv 28 2,Mv 29 4,Ca 30 83 [.tmp 26,.tmp 27,.tmp 28,.tmp 29] (some (.tup []))])
 .ret)
 .skip))
 (.seq (.seq (.reg (some [0,1,2,3,4,10,11,12]) [Mv 31 3,Bc 32 .eql 3 31 .i64 0])
 (.cond (.tmp 32) (.seq (.reg (some [0,1,2,4]) [Mv 33 0,Mv 34 1,Mv 35 2,Mv 36 4,Ca 37 84 [.tmp 33,.tmp 34,.tmp 35,.tmp 36] (some (.tup []))])
 .ret)
 .skip))
 (.seq (.seq (.reg (some [0,1,2,3,4,10,11,12]) [Mv 38 10,Ol 39 (.unOp .not 4 (.tmp 38))])
 (.cond (.tmp 39) (.seq (.reg (some [0,1,2,3,4,10,11,12]) [Mv 40 0,Mv 41 1,Mv 42 2,Mv 43 4,Ca 44 85 [.tmp 40,.tmp 41,.tmp 42,.tmp 43] (some (.tup []))])
 (.reg (some [0,1,2,3,4,10,11,12]) [Mv 45 3,Bc 46 .sub 3 45 .i64 1,As 3 46]))
 .skip))
 (.seq (.reg (some [0,1,2,3,4,10,11,12]) [Mv 48 0,Mv 49 1,Mv 50 2,Mv 51 4,Ca 52 86 [.tmp 48,.tmp 49,.tmp 50,.tmp 51] (some (.tup [.one (.int .i64),.one (.int .i64)])),Mv 47 52,Ex 53 47 0,Ex 54 47 1,As 13 53,As 14 54])
 (.seq (.seq (.reg (some [0,1,2,3,4,10,11,12,13,14]) [Mv 55 14,Bc 56 .eql 121 55 .i64 2])
 (.cond (.tmp 56) (.seq (.reg (some [0,1,2,3,4,10,11,12,13]) [Mv 57 0,Mv 58 1,Mv 59 2,Mv 60 4,Ca 61 87 [.tmp 57,.tmp 58,.tmp 59,.tmp 60] (some (.tup []))])
 (.seq (.reg (some [0,1,2,3,4,10,11,12,13]) [Mv 62 2,Bc 63 .sub 3 62 .i64 1,Mv 64 13,Mv 65 1,Bt 66 .sub 3 64 65,Bt 67 .sub 3 63 66,As 13 67])
 (.reg (some [0,1,2,3,4,10,11,12,13]) [Ac 14 1])))
 .skip))
 (.seq (.seq (.reg (some [0,1,2,3,4,10,11,12,13,14]) [Mv 68 10,Mv 69 68,⟨some 70,some (69,true),.op false (.old (.move (.tmp 11)))⟩,Ol 71 (.pick (.tmp 69) (.tmp 70) (.const (.bool false))),Mv 72 71,⟨some 73,some (72,true),.op false (.old (.move (.tmp 14)))⟩,⟨some 74,some (72,true),.op false (.old (.binOp .eql 121 (.tmp 73) (.const (.int .i64 1)) 121))⟩,Ol 75 (.pick (.tmp 72) (.tmp 74) (.const (.bool false)))])
 (.cond (.tmp 75) (.seq (.reg (some [0,1,2,3,4,10,11,12,13]) [Mv 76 0,Mv 77 1,Mv 78 2,Mv 79 4,Ca 80 88 [.tmp 76,.tmp 77,.tmp 78,.tmp 79] (some (.val (.one .bool)))])
 (.cond (.tmp 80) .ret
 .skip))
 .skip))
 (.seq (.seq (.draw (some [0,1,2,3,4,10,11,12,13]) 17 [Dr (Mv 81 1) 0 [1,2,3,4,5,6,7,8,9,10,11,12,13,14,15,16],Dr (Bc 82 .gtr 3 81 .i64 0) 1 [2,3,4,5,6,7,8,9,10,11,12,13,14,15,16],Dr (Mv 83 82) 2 [3,4,5,6,7,8,9,10,11,12,13,14,15,16],⟨⟨some 84,some (83,true),.op false (.old (.move (.tmp 4)))⟩,3,.none,[13,14,15,16],false,true⟩,⟨⟨some 85,some (83,true),.op false (.old (.move (.tmp 0)))⟩,4,.none,[7,8,13,14,15,16],false,true⟩,⟨⟨some 86,some (83,true),.op false (.old (.move (.tmp 1)))⟩,5,.none,[6,7,8,13,14,15,16],false,true⟩,⟨⟨some 87,some (83,true),.op false (.old (.binOp .sub 3 (.tmp 86) (.const (.int .i64 1)) 3))⟩,6,.none,[7,8,13,14,15,16],false,true⟩,⟨⟨some 88,some (83,true),.op false (.ixS 4 (.tmp 85) (.tmp 87))⟩,7,.none,[8,13,14,15,16],false,true⟩,⟨⟨some 89,some (83,true),.op false (.load 4 [.int .i64,.int .i64,.int .i64,.int .i64] (.tmp 88))⟩,8,.blk (.tmp 88),[13,14,15,16],false,true⟩,⟨⟨some 90,some (83,true),.op false (.old (.move (.tmp 0)))⟩,9,.none,[11,12,13,14,15,16],false,true⟩,⟨⟨some 91,some (83,true),.op false (.old (.move (.tmp 13)))⟩,10,.none,[11,12,13,14,15,16],false,true⟩,⟨⟨some 92,some (83,true),.op false (.ixS 4 (.tmp 90) (.tmp 91))⟩,11,.none,[12,13,14,15,16],false,true⟩,⟨⟨some 93,some (83,true),.op false (.load 4 [.int .i64,.int .i64,.int .i64,.int .i64] (.tmp 92))⟩,12,.blk (.tmp 92),[13,14,15,16],false,true⟩,⟨⟨some 94,some (83,true),.call (.tmp 84) [.tmp 89,.tmp 93] (some (.val (.one (.int .i64))))⟩,13,.all,[14,15,16],false,false⟩,⟨⟨some 95,some (83,true),.op false (.old (.binOp .lss 3 (.tmp 94) (.const (.int .i64 0)) 3))⟩,14,.none,[15,16],false,true⟩,⟨⟨some 96,some (83,true),.op false (.old (.unOp .not 4 (.tmp 95)))⟩,15,.none,[16],false,true⟩,Dr (Ol 97 (.pick (.tmp 83) (.tmp 96) (.const (.bool false)))) 16 []])
 (.cond (.tmp 97) (.seq (.reg (some [0,1,2,3,4,10,11,13]) [Mv 98 0,Mv 99 1,Mv 100 2,Mv 101 13,Mv 102 4,Ca 103 89 [.tmp 98,.tmp 99,.tmp 100,.tmp 101,.tmp 102] (some (.val (.one (.int .i64)))),As 15 103])
 (.seq (.reg (some [0,2,3,4,10,11,15]) [Mv 104 15,As 1 104])
 (.exit 1 (some [0,1,2,3,4,10,11]))))
 .skip))
 (.seq (.reg (some [0,1,2,3,4,12,13]) [Mv 106 0,Mv 107 1,Mv 108 2,Mv 109 13,Mv 110 4,Ca 111 90 [.tmp 106,.tmp 107,.tmp 108,.tmp 109,.tmp 110] (some (.tup [.one (.int .i64),.one .bool])),Mv 105 111,Ex 112 105 0,Ex 113 105 1,As 16 112,As 17 113])
 (.seq (.reg (some [0,1,2,3,4,12,16,17]) [Mv 114 17,As 11 114])
 (.seq (.reg (some [0,1,2,3,4,11,12,16]) [Mv 115 16,Mv 116 1,Bt 117 .sub 3 115 116,Mv 118 2,Mv 119 16,Bt 120 .sub 3 118 119,As 18 117,As 19 120])
 (.seq (.reg (some [0,1,2,3,4,11,12,16,18,19]) [Mv 121 12,Bc 122 .quo 3 121 .i64 8,As 20 122])
 (.seq (.reg (some [0,1,2,3,4,11,16,18,19,20]) [Mv 123 18,Mv 124 19,Bt 125 .lss 3 123 124])
 (.cond (.tmp 125) (.seq (.reg (some [0,1,2,3,4,11,16,18,20]) [Mv 126 18,Mv 127 20,Bt 128 .geq 3 126 127,As 10 128])
 (.seq (.reg (some [0,1,2,3,4,10,11,16]) [Mv 129 0,Mv 130 1,Mv 131 16,Mv 132 3,Mv 133 4,Ca 134 58 [.tmp 129,.tmp 130,.tmp 131,.tmp 132,.tmp 133] (some (.tup []))])
 (.reg (some [0,2,3,4,10,11,16]) [Mv 135 16,Bc 136 .add 3 135 .i64 1,As 1 136])))
 (.seq (.reg (some [0,1,2,3,4,11,16,19,20]) [Mv 137 19,Mv 138 20,Bt 139 .geq 3 137 138,As 10 139])
 (.seq (.reg (some [0,1,2,3,4,10,11,16]) [Mv 140 0,Mv 141 16,Bc 142 .add 3 141 .i64 1,Mv 143 2,Mv 144 3,Mv 145 4,Ca 146 58 [.tmp 140,.tmp 142,.tmp 143,.tmp 144,.tmp 145] (some (.tup []))])
 (.reg (some [0,1,3,4,10,11,16]) [Mv 147 16,As 2 147])))))))))))))))))⟩)],
 []⟩
theorem r58_ok : resFun (progU ()) hint live 58 Try.f58 = some r58:=by kernel_rfl
def r59 : RFun :=
⟨.seq (.reg (some [0]) [Ac 2 0])
 (.seq (.cond (.const (.bool false)) (.seq (.reg (some [0]) [Mv 3 0,Ro 4 (.convI .u32 (.tmp 3)),Ca 5 91 [.tmp 4] (some (.val (.one (.int .i64)))),As 2 5])
 .ret)
 .skip)
 (.seq (.reg (some [0]) [Mv 6 0,Ca 7 92 [.tmp 6] (some (.val (.one (.int .i64)))),As 2 7])
 .ret)),
 [.tmp 2],
 [],
 []⟩
theorem r59_ok : resFun (progU ()) hint live 59 Try.f59 = some r59:=by kernel_rfl
def r60 : RFun :=
⟨.seq (.reg (some [0]) [Ol 2 (.assign (.const (.bool false)))])
 (.seq (.reg (some [0]) [Mv 3 0,Mv 4 0,Bt 5 .neq 3 3 4,As 2 5])
 .ret),
 [.tmp 2],
 [],
 []⟩
theorem r60_ok : resFun (progU ()) hint live 60 Try.f60 = some r60:=by kernel_rfl
def r61 : RFun :=
⟨.seq (.reg (some [0,1]) [⟨some 2,none,.op true (.box 2 (.tmp 0))⟩,⟨some 3,none,.op true (.box 2 (.tmp 1))⟩,⟨some 4,none,.op true (.new 2 [.int .i64 0,.int .i64 0])⟩,Ac 5 0])
 (.seq (.seq (.reg (some [2,3,4]) [Ld 8 2,Ld 9 3,Ca 10 93 [.tmp 8,.tmp 9] (some (.val (.one (.int .i64)))),Bc 11 .neq 3 10 .i64 0])
 (.cond (.tmp 11) (.seq (.reg (some [2,3,4]) [Ro 12 (.build [.int .i64 0,.int .i64 0] []),Ld 13 2,Ld 14 3,Ca 15 93 [.tmp 13,.tmp 14] (some (.val (.one (.int .i64)))),⟨none,none,.op false (.store 2 (.tmp 4) (.tmp 12))⟩,As 5 15])
 .ret)
 .skip))
 (.seq (.draw (some [2,3,4]) 16 [Dr (Fa 16 0 2) 0 [1,2,6,9,13,14,15],Db (L1 17 16) 1 16 [2,6,9,13,14,15],Dr (Fa 19 1 3) 3 [4,5,6,9,13,14,15],Db (L1 20 19) 4 19 [5,6,9,13,14,15],⟨Ro 21 (.convI .u64 (.tmp 20)),5,.cvt (.tmp 20),[6,9,13,14,15],false,true⟩,Dr (Fa 23 0 3) 7 [8,9,13,14,15],Db (L1 24 23) 8 23 [9,13,14,15],Dr (Fa 26 1 2) 10 [11,12,13,14,15],Db (L1 27 26) 11 26 [12,13,14,15],⟨Ro 28 (.convI .u64 (.tmp 27)),12,.cvt (.tmp 27),[13,14,15],false,true⟩,⟨Ca 18 95 [.tmp 17] (some (.val (.one (.int .u64)))),2,.all,[6,9,13,14,15],false,false⟩,⟨Ca 22 94 [.tmp 18,.tmp 21] (some (.val (.one (.int .u64)))),6,.all,[9,13,14,15],false,false⟩,⟨Ca 25 95 [.tmp 24] (some (.val (.one (.int .u64)))),9,.all,[13,14,15],false,false⟩,⟨Ca 29 94 [.tmp 25,.tmp 28] (some (.val (.one (.int .u64)))),13,.all,[14,15],false,false⟩,Dr (As 6 22) 14 [15],Dr (As 7 29) 15 []])
 (.seq (.draw (some [2,3,4,6,7]) 34 [Dr (Fa 30 0 2) 0 [1,2,6,29,30,31,32,33],Db (L1 31 30) 1 30 [2,6,29,30,31,32,33],Dr (Bc 32 .lss 2 31 .i64 0) 2 [6,29,30,31,32,33],Dr (Fa 33 0 3) 3 [4,5,6,29,30,31,32,33],Db (L1 34 33) 4 33 [5,6,29,30,31,32,33],Dr (Bc 35 .lss 2 34 .i64 0) 5 [6,29,30,31,32,33],Dr (Bt 36 .neq 4 32 35) 6 [29,30,31,32,33],Dr (Fa 37 0 2) 7 [8,9,11,14,16,17,28,29,30,31,32,33],Db (L1 38 37) 8 37 [9,11,14,16,17,28,29,30,31,32,33],Dr (Mv 40 6) 10 [11,17,28,29,30,31,32,33],Dr (Fa 42 0 3) 12 [13,14,16,17,28,29,30,31,32,33],Db (L1 43 42) 13 42 [14,16,17,28,29,30,31,32,33],Dr (Mv 45 7) 15 [16,17,28,29,30,31,32,33],Dr (Fa 48 1 2) 18 [19,20,22,28,29,30,31,32,33],Db (L1 49 48) 19 48 [20,22,28,29,30,31,32,33],⟨Ro 50 (.convI .u64 (.tmp 49)),20,.cvt (.tmp 49),[22,28,29,30,31,32,33],false,true⟩,Dr (Mv 51 7) 21 [22,28,29,30,31,32,33],Dr (Bt 52 .quo 110 50 51) 22 [28,29,30,31,32,33],Dr (Fa 53 1 3) 23 [24,25,27,28,29,30,31,32,33],Db (L1 54 53) 24 53 [25,27,28,29,30,31,32,33],⟨Ro 55 (.convI .u64 (.tmp 54)),25,.cvt (.tmp 54),[27,28,29,30,31,32,33],false,true⟩,Dr (Mv 56 6) 26 [27,28,29,30,31,32,33],Dr (Bt 57 .quo 110 55 56) 27 [28,29,30,31,32,33],⟨Ca 39 95 [.tmp 38] (some (.val (.one (.int .u64)))),9,.all,[11,14,16,17,28,29,30,31,32,33],false,false⟩,Dr (Bt 41 .quo 110 39 40) 11 [17,28,29,30,31,32,33],⟨Ca 44 95 [.tmp 43] (some (.val (.one (.int .u64)))),14,.all,[16,17,28,29,30,31,32,33],false,false⟩,Dr (Bt 46 .quo 110 44 45) 16 [17,28,29,30,31,32,33],⟨Ca 47 97 [.tmp 41,.tmp 46] (some (.val (.agg [.int .u64,.int .u64,.int .u64,.int .u64]))),17,.all,[28,29,30,31,32,33],false,false⟩,⟨Ca 58 97 [.tmp 52,.tmp 57] (some (.val (.agg [.int .u64,.int .u64,.int .u64,.int .u64]))),28,.all,[29,30,31,32,33],false,false⟩,⟨Ca 59 96 [.tmp 36,.tmp 47,.tmp 58] (some (.tup [.agg [.int .i64,.int .i64],.one (.int .i64)])),29,.all,[30,31,32,33],false,false⟩,Dr (Ex 60 59 0) 30 [32,33],Dr (Ex 61 59 1) 31 [32,33],⟨⟨none,none,.op false (.store 2 (.tmp 4) (.tmp 60))⟩,32,.blk (.tmp 4),[33],true,true⟩,Dr (As 5 61) 33 []])
 .ret))),
 [.agg 4 2 [.int .i64,.int .i64],.tmp 5],
 [],
 []⟩
theorem r61_ok : resFun (progU ()) hint live 61 Try.f61 = some r61:=by kernel_rfl
def r63 : RFun :=
⟨.seq (.reg (some [0]) [⟨some 1,none,.op true (.box 3 (.tmp 0))⟩,Ac 2 0])
 (.seq (.seq (.draw (some [1]) 31 [Dr (Fa 3 2 1) 0 [1,2,3,4,5,6,7,8,9,10,11,12,13,14,15,16,17,18,19,20,21,22,23,24,25,26,27,28,29,30],Db (L1 4 3) 1 3 [2,3,4,5,6,7,8,9,10,11,12,13,14,15,16,17,18,19,20,21,22,23,24,25,26,27,28,29,30],Dr (Bc 5 .lss 2 4 .i64 1) 2 [3,4,5,6,7,8,9,10,11,12,13,14,15,16,17,18,19,20,21,22,23,24,25,26,27,28,29,30],Dr (Mv 6 5) 3 [4,5,6,7,8,9,10,11,12,13,14,15,16,17,18,19,20,21,22,23,24,25,26,27,28,29,30],⟨⟨some 7,some (6,false),.op false (.fieldAddr 2 (.tmp 1))⟩,4,.none,[5,6,7,8,9,10,11,12,13,14,15,16,17,18,19,20,21,22,23,24,25,26,27,28,29,30],false,true⟩,⟨⟨some 8,some (6,false),.op false (.load1 (.int .i64) (.tmp 7))⟩,5,.blk (.tmp 7),[6,7,8,9,10,11,12,13,14,15,16,17,18,19,20,21,22,23,24,25,26,27,28,29,30],false,true⟩,⟨⟨some 9,some (6,false),.op false (.old (.binOp .gtr 2 (.tmp 8) (.const (.int .i64 1000000000)) 2))⟩,6,.none,[7,8,9,10,11,12,13,14,15,16,17,18,19,20,21,22,23,24,25,26,27,28,29,30],false,true⟩,Dr (Ol 10 (.pick (.tmp 6) (.const (.bool true)) (.tmp 9))) 7 [8,9,10,11,12,13,14,15,16,17,18,19,20,21,22,23,24,25,26,27,28,29,30],Dr (Mv 11 10) 8 [9,10,11,12,13,14,15,16,17,18,19,20,21,22,23,24,25,26,27,28,29,30],⟨⟨some 12,some (11,false),.op false (.fieldAddr 0 (.tmp 1))⟩,9,.none,[10,11,12,13,14,15,16,17,18,19,20,21,22,23,24,25,26,27,28,29,30],false,true⟩,⟨⟨some 13,some (11,false),.op false (.load1 (.int .i64) (.tmp 12))⟩,10,.blk (.tmp 12),[11,12,13,14,15,16,17,18,19,20,21,22,23,24,25,26,27,28,29,30],false,true⟩,⟨⟨some 14,some (11,false),.call (.func 71) [.tmp 13] (some (.val (.one .bool)))⟩,11,.all,[12,13,14,15,16,17,18,19,20,21,22,23,24,25,26,27,28,29,30],false,false⟩,⟨⟨some 15,some (11,false),.op false (.old (.unOp .not 4 (.tmp 14)))⟩,12,.none,[13,14,15,16,17,18,19,20,21,22,23,24,25,26,27,28,29,30],false,true⟩,Dr (Ol 16 (.pick (.tmp 11) (.const (.bool true)) (.tmp 15))) 13 [14,15,16,17,18,19,20,21,22,23,24,25,26,27,28,29,30],Dr (Mv 17 16) 14 [15,16,17,18,19,20,21,22,23,24,25,26,27,28,29,30],⟨⟨some 18,some (17,false),.op false (.fieldAddr 1 (.tmp 1))⟩,15,.none,[16,17,18,19,20,21,22,23,24,25,26,27,28,29,30],false,true⟩,⟨⟨some 19,some (17,false),.op false (.load1 (.int .i64) (.tmp 18))⟩,16,.blk (.tmp 18),[17,18,19,20,21,22,23,24,25,26,27,28,29,30],false,true⟩,⟨⟨some 20,some (17,false),.call (.func 71) [.tmp 19] (some (.val (.one .bool)))⟩,17,.all,[18,19,20,21,22,23,24,25,26,27,28,29,30],false,false⟩,⟨⟨some 21,some (17,false),.op false (.old (.unOp .not 4 (.tmp 20)))⟩,18,.none,[19,20,21,22,23,24,25,26,27,28,29,30],false,true⟩,Dr (Ol 22 (.pick (.tmp 17) (.const (.bool true)) (.tmp 21))) 19 [20,21,22,23,24,25,26,27,28,29,30],Dr (Mv 23 22) 20 [21,22,23,24,25,26,27,28,29,30],⟨⟨some 24,some (23,false),.op false (.fieldAddr 0 (.tmp 1))⟩,21,.none,[22,25,28,29,30],false,true⟩,⟨⟨some 25,some (23,false),.op false (.load1 (.int .i64) (.tmp 24))⟩,22,.blk (.tmp 24),[25,28,29,30],false,true⟩,⟨⟨some 26,some (23,false),.op false (.fieldAddr 1 (.tmp 1))⟩,23,.none,[24,25,28,29,30],false,true⟩,⟨⟨some 27,some (23,false),.op false (.load1 (.int .i64) (.tmp 26))⟩,24,.blk (.tmp 26),[25,28,29,30],false,true⟩,⟨⟨some 29,some (23,false),.op false (.fieldAddr 2 (.tmp 1))⟩,26,.none,[27,28,29,30],false,true⟩,⟨⟨some 30,some (23,false),.op false (.load1 (.int .i64) (.tmp 29))⟩,27,.blk (.tmp 29),[28,29,30],false,true⟩,⟨⟨some 28,some (23,false),.call (.func 70) [.tmp 25,.tmp 27] (some (.val (.one (.int .i64))))⟩,25,.all,[28,29,30],false,false⟩,⟨⟨some 31,some (23,false),.call (.func 70) [.tmp 28,.tmp 30] (some (.val (.one (.int .i64))))⟩,28,.all,[29,30],false,false⟩,⟨⟨some 32,some (23,false),.op false (.old (.binOp .neq 2 (.tmp 31) (.const (.int .i64 1)) 2))⟩,29,.none,[30],false,true⟩,Dr (Ol 33 (.pick (.tmp 23) (.const (.bool true)) (.tmp 32))) 30 []])
 (.cond (.tmp 33) (.seq (.reg (some []) [Ac 2 8])
 .ret)
 .skip))
 (.seq (.reg (some []) [Ac 2 0])
 .ret)),
 [.tmp 2],
 [],
 []⟩
theorem r63_ok : resFun (progU ()) hint live 63 Try.f63 = some r63:=by kernel_rfl
def r66 : RFun :=
⟨.seq (.reg (some [0]) [⟨some 1,none,.op true (.box 2 (.tmp 0))⟩,Ac 2 0])
 (.seq (.seq (.reg (some [1]) [Fa 3 1 1,L1 4 3,Bc 5 .lss 2 4 .i64 1,Mv 6 5,⟨some 7,some (6,false),.op false (.fieldAddr 1 (.tmp 1))⟩,⟨some 8,some (6,false),.op false (.load1 (.int .i64) (.tmp 7))⟩,⟨some 9,some (6,false),.op false (.old (.binOp .gtr 2 (.tmp 8) (.const (.int .i64 1000000000000000000)) 2))⟩,Ol 10 (.pick (.tmp 6) (.const (.bool true)) (.tmp 9)),Mv 11 10,⟨some 12,some (11,false),.op false (.fieldAddr 0 (.tmp 1))⟩,⟨some 13,some (11,false),.op false (.load1 (.int .i64) (.tmp 12))⟩,⟨some 14,some (11,false),.op false (.old (.binOp .lss 2 (.tmp 13) (.const (.int .i64 (-1000000000000000000))) 2))⟩,Ol 15 (.pick (.tmp 11) (.const (.bool true)) (.tmp 14)),Mv 16 15,⟨some 17,some (16,false),.op false (.fieldAddr 0 (.tmp 1))⟩,⟨some 18,some (16,false),.op false (.load1 (.int .i64) (.tmp 17))⟩,⟨some 19,some (16,false),.op false (.old (.binOp .gtr 2 (.tmp 18) (.const (.int .i64 1000000000000000000)) 2))⟩,Ol 20 (.pick (.tmp 16) (.const (.bool true)) (.tmp 19))])
 (.cond (.tmp 20) (.seq (.reg (some []) [Ac 2 8])
 .ret)
 .skip))
 (.seq (.seq (.draw (some [1]) 8 [Dr (Fa 21 0 1) 0 [1,2,5,6,7],Db (L1 22 21) 1 21 [2,5,6,7],Dr (Fa 24 1 1) 3 [4,5,6,7],Db (L1 25 24) 4 24 [5,6,7],⟨Ca 23 72 [.tmp 22] (some (.val (.one (.int .u64)))),2,.all,[5,6,7],false,false⟩,⟨Ca 26 72 [.tmp 25] (some (.val (.one (.int .u64)))),5,.all,[6,7],false,false⟩,⟨Ca 27 73 [.tmp 23,.tmp 26] (some (.val (.one (.int .u64)))),6,.all,[7],false,false⟩,Dr (Bc 28 .neq 110 27 .u64 1) 7 []])
 (.cond (.tmp 28) (.seq (.reg (some []) [Ac 2 8])
 .ret)
 .skip))
 (.seq (.reg (some []) [Ac 2 0])
 .ret))),
 [.tmp 2],
 [],
 []⟩
theorem r66_ok : resFun (progU ()) hint live 66 Try.f66 = some r66:=by kernel_rfl
def r67 : RFun :=
⟨.seq (.reg (some [0,1]) [⟨some 2,none,.op true (.box 2 (.tmp 0))⟩,⟨some 3,none,.op true (.box 2 (.tmp 1))⟩,Ac 4 0,Ac 5 0])
 (.seq (.seq (.reg (some [2,3]) [Ld 7 2,Ld 8 3,Ca 9 50 [.tmp 7,.tmp 8] (some (.val (.one (.int .i64)))),As 6 9])
 (.seq (.reg (some [2,3,6]) [Mv 10 6,Bc 11 .neq 30 10 .i64 0])
 (.cond (.tmp 11) (.seq (.reg (some [6]) [Mv 12 6,Ac 4 0,As 5 12])
 .ret)
 .skip)))
 (.seq (.reg (some [2,3]) [Ld 13 2,Ld 14 3,Ca 15 102 [.tmp 13,.tmp 14] (some (.val (.one (.int .i64)))),As 4 15,Ac 5 0])
 .ret)),
 [.tmp 4,.tmp 5],
 [],
 []⟩
theorem r67_ok : resFun (progU ()) hint live 67 Try.f67 = some r67:=by kernel_rfl
def r68 : RFun :=
⟨.seq (.reg (some [0]) [⟨some 1,none,.op true (.box 2 (.tmp 0))⟩,Ac 2 0])
 (.seq (.seq (.draw (some [1]) 28 [Dr (Fa 3 1 1) 0 [1,2,3,4,5,6,7,8,9,10,11,12,13,14,15,16,17,18,19,20,21,22,23,24,25,26,27],Db (L1 4 3) 1 3 [2,3,4,5,6,7,8,9,10,11,12,13,14,15,16,17,18,19,20,21,22,23,24,25,26,27],Dr (Bc 5 .lss 2 4 .i64 1) 2 [3,4,5,6,7,8,9,10,11,12,13,14,15,16,17,18,19,20,21,22,23,24,25,26,27],Dr (Mv 6 5) 3 [4,5,6,7,8,9,10,11,12,13,14,15,16,17,18,19,20,21,22,23,24,25,26,27],⟨⟨some 7,some (6,false),.op false (.fieldAddr 1 (.tmp 1))⟩,4,.none,[5,6,7,8,9,10,11,12,13,14,15,16,17,18,19,20,21,22,23,24,25,26,27],false,true⟩,⟨⟨some 8,some (6,false),.op false (.load1 (.int .i64) (.tmp 7))⟩,5,.blk (.tmp 7),[6,7,8,9,10,11,12,13,14,15,16,17,18,19,20,21,22,23,24,25,26,27],false,true⟩,⟨⟨some 9,some (6,false),.op false (.old (.binOp .gtr 2 (.tmp 8) (.const (.int .i64 1000000000000000000)) 2))⟩,6,.none,[7,8,9,10,11,12,13,14,15,16,17,18,19,20,21,22,23,24,25,26,27],false,true⟩,Dr (Ol 10 (.pick (.tmp 6) (.const (.bool true)) (.tmp 9))) 7 [8,9,10,11,12,13,14,15,16,17,18,19,20,21,22,23,24,25,26,27],Dr (Mv 11 10) 8 [9,10,11,12,13,14,15,16,17,18,19,20,21,22,23,24,25,26,27],⟨⟨some 12,some (11,false),.op false (.fieldAddr 0 (.tmp 1))⟩,9,.none,[10,11,12,13,14,15,16,17,18,19,20,21,22,23,24,25,26,27],false,true⟩,⟨⟨some 13,some (11,false),.op false (.load1 (.int .i64) (.tmp 12))⟩,10,.blk (.tmp 12),[11,12,13,14,15,16,17,18,19,20,21,22,23,24,25,26,27],false,true⟩,⟨⟨some 14,some (11,false),.op false (.old (.binOp .lss 2 (.tmp 13) (.const (.int .i64 (-1000000000000000000))) 2))⟩,11,.none,[12,13,14,15,16,17,18,19,20,21,22,23,24,25,26,27],false,true⟩,Dr (Ol 15 (.pick (.tmp 11) (.const (.bool true)) (.tmp 14))) 12 [13,14,15,16,17,18,19,20,21,22,23,24,25,26,27],Dr (Mv 16 15) 13 [14,15,16,17,18,19,20,21,22,23,24,25,26,27],⟨⟨some 17,some (16,false),.op false (.fieldAddr 0 (.tmp 1))⟩,14,.none,[15,16,17,18,19,20,21,22,23,24,25,26,27],false,true⟩,⟨⟨some 18,some (16,false),.op false (.load1 (.int .i64) (.tmp 17))⟩,15,.blk (.tmp 17),[16,17,18,19,20,21,22,23,24,25,26,27],false,true⟩,⟨⟨some 19,some (16,false),.op false (.old (.binOp .gtr 2 (.tmp 18) (.const (.int .i64 1000000000000000000)) 2))⟩,16,.none,[17,18,19,20,21,22,23,24,25,26,27],false,true⟩,Dr (Ol 20 (.pick (.tmp 16) (.const (.bool true)) (.tmp 19))) 17 [18,19,20,21,22,23,24,25,26,27],Dr (Mv 21 20) 18 [19,20,21,22,23,24,25,26,27],⟨⟨some 22,some (21,false),.op false (.fieldAddr 0 (.tmp 1))⟩,19,.none,[20,21,25,26,27],false,true⟩,⟨⟨some 23,some (21,false),.op false (.load1 (.int .i64) (.tmp 22))⟩,20,.blk (.tmp 22),[21,25,26,27],false,true⟩,⟨⟨some 25,some (21,false),.op false (.fieldAddr 1 (.tmp 1))⟩,22,.none,[23,24,25,26,27],false,true⟩,⟨⟨some 26,some (21,false),.op false (.load1 (.int .i64) (.tmp 25))⟩,23,.blk (.tmp 25),[24,25,26,27],false,true⟩,⟨⟨some 27,some (21,false),.op false (.convI .u64 (.tmp 26))⟩,24,.cvt (.tmp 26),[25,26,27],false,true⟩,⟨⟨some 24,some (21,false),.call (.func 95) [.tmp 23] (some (.val (.one (.int .u64))))⟩,21,.all,[25,26,27],false,false⟩,⟨⟨some 28,some (21,false),.call (.func 94) [.tmp 24,.tmp 27] (some (.val (.one (.int .u64))))⟩,25,.all,[26,27],false,false⟩,⟨⟨some 29,some (21,false),.op false (.old (.binOp .neq 110 (.tmp 28) (.const (.int .u64 1)) 110))⟩,26,.none,[27],false,true⟩,Dr (Ol 30 (.pick (.tmp 21) (.const (.bool true)) (.tmp 29))) 27 []])
 (.cond (.tmp 30) (.seq (.reg (some []) [Ac 2 8])
 .ret)
 .skip))
 (.seq (.reg (some []) [Ac 2 0])
 .ret)),
 [.tmp 2],
 [],
 []⟩
theorem r68_ok : resFun (progU ()) hint live 68 Try.f68 = some r68:=by kernel_rfl
def r69 : RFun :=
⟨.seq (.reg (some [0,1]) [⟨some 2,none,.op true (.box 2 (.tmp 0))⟩,⟨some 3,none,.op true (.box 2 (.tmp 1))⟩,Ol 4 (.assign (.const (.bool false)))])
 (.seq (.seq (.reg (some [2,3]) [Fa 7 0 2,L1 8 7,Bc 9 .lss 2 8 .i64 0,Fa 10 0 3,L1 11 10,Bc 12 .lss 2 11 .i64 0,Bt 13 .neq 4 9 12])
 (.cond (.tmp 13) (.seq (.reg (some [2]) [Fa 14 0 2,L1 15 14,Bc 16 .lss 2 15 .i64 0,As 4 16])
 .ret)
 .skip))
 (.seq (.draw (some [2,3]) 18 [Dr (Fa 17 0 2) 0 [1,2,6,9,13,16,17],Db (L1 18 17) 1 17 [2,6,9,13,16,17],Dr (Fa 20 1 3) 3 [4,5,6,9,13,16,17],Db (L1 21 20) 4 20 [5,6,9,13,16,17],⟨Ro 22 (.convI .u64 (.tmp 21)),5,.cvt (.tmp 21),[6,9,13,16,17],false,true⟩,Dr (Fa 24 0 3) 7 [8,9,13,16,17],Db (L1 25 24) 8 24 [9,13,16,17],Dr (Fa 27 1 2) 10 [11,12,13,16,17],Db (L1 28 27) 11 27 [12,13,16,17],⟨Ro 29 (.convI .u64 (.tmp 28)),12,.cvt (.tmp 28),[13,16,17],false,true⟩,⟨⟨some 5,none,.op true (.new 4 [.int .u64 0,.int .u64 0,.int .u64 0,.int .u64 0])⟩,14,.new true,[16,17],false,true⟩,⟨⟨some 6,none,.op true (.new 4 [.int .u64 0,.int .u64 0,.int .u64 0,.int .u64 0])⟩,15,.new true,[16,17],false,true⟩,⟨Ca 19 95 [.tmp 18] (some (.val (.one (.int .u64)))),2,.all,[6,9,13,16,17],false,false⟩,⟨Ca 23 97 [.tmp 19,.tmp 22] (some (.val (.agg [.int .u64,.int .u64,.int .u64,.int .u64]))),6,.all,[9,13,16,17],false,false⟩,⟨Ca 26 95 [.tmp 25] (some (.val (.one (.int .u64)))),9,.all,[13,16,17],false,false⟩,⟨Ca 30 97 [.tmp 26,.tmp 29] (some (.val (.agg [.int .u64,.int .u64,.int .u64,.int .u64]))),13,.all,[16,17],false,false⟩,⟨⟨none,none,.op false (.store 4 (.tmp 5) (.tmp 23))⟩,16,.blk (.tmp 5),[17],true,true⟩,⟨⟨none,none,.op false (.store 4 (.tmp 6) (.tmp 30))⟩,17,.blk (.tmp 6),[],true,true⟩])
 (.seq (.seq (.reg (some [2,5,6]) [Fa 31 0 2,L1 32 31,Bc 33 .lss 2 32 .i64 0])
 (.cond (.tmp 33) (.seq (.reg (some [5,6]) [Ro 34 (.load 4 [.int .u64,.int .u64,.int .u64,.int .u64] (.tmp 6)),Ro 35 (.load 4 [.int .u64,.int .u64,.int .u64,.int .u64] (.tmp 5)),Ca 36 103 [.tmp 34,.tmp 35] (some (.val (.one .bool))),As 4 36])
 .ret)
 .skip))
 (.seq (.reg (some [5,6]) [Ro 37 (.load 4 [.int .u64,.int .u64,.int .u64,.int .u64] (.tmp 5)),Ro 38 (.load 4 [.int .u64,.int .u64,.int .u64,.int .u64] (.tmp 6)),Ca 39 103 [.tmp 37,.tmp 38] (some (.val (.one .bool))),As 4 39])
 .ret)))),
 [.tmp 4],
 [],
 []⟩
theorem r69_ok : resFun (progU ()) hint live 69 Try.f69 = some r69:=by kernel_rfl
def r70 : RFun :=
⟨.seq (.reg (some [0,1]) [Ac 4 0])
 (.seq (.block 0 (.loop 1 (some [0,1]) (some [0,1])))
 (.seq (.reg (some [0]) [Mv 11 0,Mv 12 0,Ol 13 (.unOp .neg 2 (.tmp 12)),⟨some 14,none,.op false (.old (.call ⟨.builtin .max,#[.tmp 11,.tmp 13],#[2,2]⟩))⟩,As 4 14])
 .ret)),
 [.tmp 4],
 [(1,⟨some [0,1],some [0,1],.seq (.seq (.reg (some [0,1]) [Mv 5 1,Bc 6 .neq 2 5 .i64 0])
 (.cond (.tmp 6) .skip
 (.exit 0 (some [0]))))
 (.block 1 (.draw (some [0,1]) 6 [Dr (Mv 7 1) 0 [4,5],Dr (Mv 8 0) 1 [3,4,5],Dr (Mv 9 1) 2 [3,5],Dr (Bt 10 .rem 2 8 9) 3 [5],Dr (As 0 7) 4 [5],Dr (As 1 10) 5 []]))⟩)],
 []⟩
theorem r70_ok : resFun (progU ()) hint live 70 Try.f70 = some r70:=by kernel_rfl
def r71 : RFun :=
⟨.seq (.reg (some [0]) [Ol 2 (.assign (.const (.bool false)))])
 (.seq (.reg (some [0]) [Mv 3 0,Ol 4 (.binOp .geq 2 (.tmp 3) (.const (.int .i64 (-1000000000))) 2),Mv 5 4,⟨some 6,some (5,true),.op false (.old (.move (.tmp 0)))⟩,⟨some 7,some (5,true),.op false (.old (.binOp .leq 2 (.tmp 6) (.const (.int .i64 1000000000)) 2))⟩,Ol 8 (.pick (.tmp 5) (.tmp 7) (.const (.bool false))),As 2 8])
 .ret),
 [.tmp 2],
 [],
 []⟩
theorem r71_ok : resFun (progU ()) hint live 71 Try.f71 = some r71:=by kernel_rfl
def r72 : RFun :=
⟨.seq (.reg (some [0]) [Ol 2 (.assign (.const (.int .u64 0)))])
 (.seq (.seq (.reg (some [0]) [Mv 3 0,Bc 4 .lss 2 3 .i64 0])
 (.cond (.tmp 4) (.seq (.reg (some [0]) [Mv 5 0,Ro 6 (.convI .u64 (.tmp 5)),Ol 7 (.unOp .neg 110 (.tmp 6)),As 2 7])
 .ret)
 .skip))
 (.seq (.reg (some [0]) [Mv 8 0,Ro 9 (.convI .u64 (.tmp 8)),As 2 9])
 .ret)),
 [.tmp 2],
 [],
 []⟩
theorem r72_ok : resFun (progU ()) hint live 72 Try.f72 = some r72:=by kernel_rfl
def r73 : RFun :=
⟨.seq (.reg (some [0,1]) [Ol 4 (.assign (.const (.int .u64 0)))])
 (.seq (.block 0 (.loop 1 (some [0,1]) (some [0,1])))
 (.seq (.reg (some [0]) [Mv 11 0,As 4 11])
 .ret)),
 [.tmp 4],
 [(1,⟨some [0,1],some [0,1],.seq (.seq (.reg (some [0,1]) [Mv 5 1,Bc 6 .neq 110 5 .u64 0])
 (.cond (.tmp 6) .skip
 (.exit 0 (some [0]))))
 (.block 1 (.draw (some [0,1]) 6 [Dr (Mv 7 1) 0 [4,5],Dr (Mv 8 0) 1 [3,4,5],Dr (Mv 9 1) 2 [3,5],Dr (Bt 10 .rem 110 8 9) 3 [5],Dr (As 0 7) 4 [5],Dr (As 1 10) 5 []]))⟩)],
 []⟩
theorem r73_ok : resFun (progU ()) hint live 73 Try.f73 = some r73:=by kernel_rfl
def r74 : RFun :=
⟨.seq (.reg (some [0,1]) [Ol 4 (.assign (.const (.int .u64 0))),Ol 5 (.assign (.const (.int .u64 0)))])
 (.seq (.reg (some [0,1]) [Mv 14 0,Bc 15 .and 110 14 .u64 4294967295,As 6 15])
 (.seq (.reg (some [0,1,6]) [Mv 16 0,Ol 17 (.binOp .shr 110 (.tmp 16) (.const (.int .u64 32)) 95),As 7 17])
 (.seq (.reg (some [0,1,6,7]) [Mv 18 1,Bc 19 .and 110 18 .u64 4294967295,As 8 19])
 (.seq (.reg (some [0,1,6,7,8]) [Mv 20 1,Ol 21 (.binOp .shr 110 (.tmp 20) (.const (.int .u64 32)) 95),As 9 21])
 (.seq (.reg (some [0,1,6,7,8,9]) [Mv 22 6,Mv 23 8,Bt 24 .mul 110 22 23,As 10 24])
 (.seq (.reg (some [0,1,6,7,8,9,10]) [Mv 25 7,Mv 26 8,Bt 27 .mul 110 25 26,Mv 28 10,Ol 29 (.binOp .shr 110 (.tmp 28) (.const (.int .u64 32)) 95),Bt 30 .add 110 27 29,As 11 30])
 (.seq (.reg (some [0,1,6,7,9,11]) [Mv 31 11,Bc 32 .and 110 31 .u64 4294967295,As 12 32])
 (.seq (.reg (some [0,1,6,7,9,11,12]) [Mv 33 11,Ol 34 (.binOp .shr 110 (.tmp 33) (.const (.int .u64 32)) 95),As 13 34])
 (.seq (.reg (some [0,1,6,7,9,12,13]) [Mv 35 12,Mv 36 6,Mv 37 9,Bt 38 .mul 110 36 37,Bt 39 .add 110 35 38,As 12 39])
 (.seq (.reg (some [0,1,7,9,12,13]) [Mv 40 7,Mv 41 9,Bt 42 .mul 110 40 41,Mv 43 13,Bt 44 .add 110 42 43,Mv 45 12,Ol 46 (.binOp .shr 110 (.tmp 45) (.const (.int .u64 32)) 95),Bt 47 .add 110 44 46,As 4 47])
 (.seq (.reg (some [0,1,4]) [Mv 48 0,Mv 49 1,Bt 50 .mul 110 48 49,As 5 50])
 .ret))))))))))),
 [.tmp 4,.tmp 5],
 [],
 []⟩
theorem r74_ok : resFun (progU ()) hint live 74 Try.f74 = some r74:=by kernel_rfl
end Go.Proofs.Ytkbgkjlgnmlghaa
