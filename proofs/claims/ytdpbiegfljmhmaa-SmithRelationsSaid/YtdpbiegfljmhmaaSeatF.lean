import Derived.Test.YtdpbiegfljmhmaaSeat0
import Derived.Test.YtdpbiegfljmhmaaSymS
set_option linter.unusedSimpArgs false
set_option linter.unusedVariables false
namespace Go.Proofs.Ytdpbiegfljmhmaa
open Go.Sim
set_option maxRecDepth 100000
def r81 : RFun :=
⟨.seq (Rg [0] [Ac 2 0])
 (.seq (Rg [0] [Mv 11 0,Ol 12 (.makeFunc (.func 95) #[T 11] #[]),Mv 13 0,Ol 14 (.makeFunc (.func 96) #[T 13] #[]),As 3 12,As 4 14])
 (.seq (Rg [0,3,4] [Ac 5 1])
 (.seq (.seq (Rg [0,3,4,5] [Mv 15 0,Ol 16 (.nilCheck (T 15)),Fa 17 0 16,L1 18 17,Ol 19 (.move (Ci 0))])
 (.block 0 (.loop 4 (some [0,3,4,5,18,19]) (some [0,3,4,5,18,19]))))
 (.seq (Rg [5] [Mv 118 5,Mv 119 5,Ol 120 (.unOp .neg 3 (T 119)),⟨some 121,none,.op false (.old (.call ⟨.builtin .max,#[T 118,T 120],#[3,3]⟩))⟩,As 2 121])
 .ret)))),
 [.tmp 2],
 [(4,⟨some [0,3,4,5,18,19],some [0,3,4,5,18,19],.seq (Rg [0,3,4,5,18,19] [Bt 20 .lss 3 19 18])
 (.seq (.cond (T 20) .skip
 (.exit 0 (some [5])))
 (.seq (.block 1 (.seq (Rg [0,3,4,5,18,19] [Mv 21 19,As 6 21])
 (.seq (Rg [0,3,4,5,6,18,19] [Mv 23 0,Mv 24 6,Ca 25 97 [T 23,T 24] (some (.tup [.agg s2,.one .bool])),Mv 22 25,Ex 26 22 0,Ex 27 22 1,Ro 7 (.new 2 z2),Sr 2 7 26,As 8 27])
 (.seq (.seq (Rg [0,3,4,5,6,7,8,18,19] [Mv 28 8,Ol 29 (.unOp .not 4 (T 28))])
 (.cond (T 29) (.seq (Rg [] [Ac 2 0])
 .ret)
 .skip))
 (.seq (.seq (Rg [0,3,4,5,6,7,18,19] [Ld 30 7,Mv 31 6,Mv 32 6,Ro 33 (.build z2 [(0,1,(T 31)),(1,1,(T 32))]),Bt 34 .neq 126 30 33])
 (.cond (T 34) (.seq (Rg [0,3,4,5,6,7,18,19] [Mv 35 3,Mv 36 6,Ro 37 (.ixA 2 1 (T 7) (Ci 0)),L1 38 37,⟨some 39,none,.call (T 35) [T 36,T 38] (some (.tup []))⟩])
 (Rg [0,3,4,5,6,7,18,19] [Mv 40 4,Mv 41 6,Ro 42 (.ixA 2 1 (T 7) (Ci 1)),L1 43 42,⟨some 44,none,.call (T 40) [T 41,T 43] (some (.tup []))⟩]))
 .skip))
 (.seq (.seq (Rg [0,3,4,5,6,18,19] [Mv 45 6,Bc 46 .add 3 45 .i64 1,As 9 46])
 (.block 2 (.loop 13 (some [0,3,4,5,6,9,18,19]) (some [0,3,4,5,6,9,18,19]))))
 (Rg [0,3,4,6,18,19] [Mv 109 0,Mv 110 6,Mv 111 6,Ol 112 (.nilCheck (T 109)),Fa 113 1 112,Ro 114 (.ixA 4 4 (T 113) (T 110)),Ro 115 (.ixA 4 1 (T 114) (T 111)),L1 116 115,As 5 116])))))))
 (Rg [0,3,4,5,18,19] [Bc 117 .add 3 19 .i64 1,Mv 19 117])))⟩),(13,⟨some [0,3,4,5,6,9,18,19],some [0,3,4,5,6,9,18,19],.seq (.seq (Rg [0,3,4,5,6,9,18,19] [Mv 47 9,Mv 48 0,Ol 49 (.nilCheck (T 48)),Fa 50 0 49,L1 51 50,Bt 52 .lss 3 47 51])
 (.cond (T 52) .skip
 (.exit 2 (some [0,3,4,6,18,19]))))
 (.seq (.block 3 (.seq (Rg [0,3,4,5,6,9,18,19] [Mv 55 6,Bc 56 .add 3 55 .i64 1,As 10 56])
 (.block 4 (.loop 16 (some [0,3,4,5,6,9,10,18,19]) (some [0,3,4,5,6,9,10,18,19])))))
 (Rg [0,3,4,5,6,9,18,19] [Mv 53 9,Bc 54 .add 3 53 .i64 1,As 9 54]))⟩),(16,⟨some [0,3,4,5,6,9,10,18,19],some [0,3,4,5,6,9,10,18,19],.seq (.seq (Rg [0,3,4,5,6,9,10,18,19] [Mv 57 10,Mv 58 0,Ol 59 (.nilCheck (T 58)),Fa 60 0 59,L1 61 60,Bt 62 .lss 3 57 61])
 (.cond (T 62) .skip
 (.exit 4 (some [0,3,4,5,6,9,18,19]))))
 (.seq (.block 5 (.draw (some [0,3,4,5,6,9,10,18,19]) 45 [Dr (Mv 65 0) 0 [40,41,42,43,44],Dr (Mv 66 9) 1 [42,43,44],Dr (Mv 67 10) 2 [43,44],Dr (Mv 68 0) 3 [6,7,8,9,10,19,37,39,43,44],Dr (Mv 69 6) 4 [8,9,10,19,37,39,43,44],Dr (Mv 70 6) 5 [9,10,19,37,39,43,44],Dr (Ol 71 (.nilCheck (T 68))) 6 [7,8,9,10,19,37,39,43,44],Dr (Fa 72 1 71) 7 [8,9,10,19,37,39,43,44],Dr (Ro 73 (.ixA 4 4 (T 72) (T 69))) 8 [9,10,19,37,39,43,44],Dr (Ro 74 (.ixA 4 1 (T 73) (T 70))) 9 [10,19,37,39,43,44],Db (L1 75 74) 10 74 [19,37,39,43,44],Dr (Mv 76 0) 11 [14,15,16,17,18,19,37,39,43,44],Dr (Mv 77 9) 12 [16,17,18,19,37,39,43,44],Dr (Mv 78 10) 13 [17,18,19,37,39,43,44],Dr (Ol 79 (.nilCheck (T 76))) 14 [15,16,17,18,19,37,39,43,44],Dr (Fa 80 1 79) 15 [16,17,18,19,37,39,43,44],Dr (Ro 81 (.ixA 4 4 (T 80) (T 77))) 16 [17,18,19,37,39,43,44],Dr (Ro 82 (.ixA 4 1 (T 81) (T 78))) 17 [18,19,37,39,43,44],Db (L1 83 82) 18 82 [19,37,39,43,44],Dr (Bt 84 .mul 3 75 83) 19 [37,39,43,44],Dr (Mv 85 0) 20 [23,24,25,26,27,36,37,39,43,44],Dr (Mv 86 9) 21 [25,26,27,36,37,39,43,44],Dr (Mv 87 6) 22 [26,27,36,37,39,43,44],Dr (Ol 88 (.nilCheck (T 85))) 23 [24,25,26,27,36,37,39,43,44],Dr (Fa 89 1 88) 24 [25,26,27,36,37,39,43,44],Dr (Ro 90 (.ixA 4 4 (T 89) (T 86))) 25 [26,27,36,37,39,43,44],Dr (Ro 91 (.ixA 4 1 (T 90) (T 87))) 26 [27,36,37,39,43,44],Db (L1 92 91) 27 91 [36,37,39,43,44],Dr (Mv 93 0) 28 [31,32,33,34,35,36,37,39,43,44],Dr (Mv 94 6) 29 [33,34,35,36,37,39,43,44],Dr (Mv 95 10) 30 [34,35,36,37,39,43,44],Dr (Ol 96 (.nilCheck (T 93))) 31 [32,33,34,35,36,37,39,43,44],Dr (Fa 97 1 96) 32 [33,34,35,36,37,39,43,44],Dr (Ro 98 (.ixA 4 4 (T 97) (T 94))) 33 [34,35,36,37,39,43,44],Dr (Ro 99 (.ixA 4 1 (T 98) (T 95))) 34 [35,36,37,39,43,44],Db (L1 100 99) 35 99 [36,37,39,43,44],Dr (Bt 101 .mul 3 92 100) 36 [37,39,43,44],Dr (Bt 102 .sub 3 84 101) 37 [39,43,44],Dr (Mv 103 5) 38 [39,43,44],Dr (Bt 104 .quo 3 102 103) 39 [43,44],Dr (Ol 105 (.nilCheck (T 65))) 40 [41,42,43,44],Dr (Fa 106 1 105) 41 [42,43,44],Dr (Ro 107 (.ixA 4 4 (T 106) (T 66))) 42 [43,44],Dr (Ro 108 (.ixA 4 1 (T 107) (T 67))) 43 [44],⟨Sr 1 108 104,44,.blk (T 108),[],true,true⟩]))
 (Rg [0,3,4,5,6,9,10,18,19] [Mv 63 10,Bc 64 .add 3 63 .i64 1,As 10 64]))⟩)],
 []⟩
theorem r81_ok:resFun (progU ()) hint live 81 Try.f81=some r81:=by kernel_rfl
def r85 : RFun :=
⟨.seq (Rg [0,1] [Mv 8 0,Ol 9 (.makeFunc (.func 98) #[T 8] #[]),As 4 9])
 (.seq (.block 0 (.loop 1 (some [0,1,4]) (some [0,1,4])))
 (.seq (Rg [0,4] [Mv 127 0,Ol 128 (.nilCheck (T 127)),Fa 129 0 128,Ro 130 (.load1 .slice (T 129)),Ro 131 (.lenS (T 130)),Bc 132 .sub 3 131 .i64 1,As 7 132])
 (.block 4 (.loop 17 none (some [0,4,7]))))),
 [],
 [(1,⟨some [0,1,4],some [0,1,4],.block 1 (.seq (Rg [0,1,4] [Mv 10 4,Mv 11 1,⟨some 12,none,.call (T 10) [T 11] (some (.tup []))⟩])
 (.seq (Rg [0,1,4] [Mv 13 1,Ca 14 56 [T 13] vI,As 5 14])
 (.seq (.seq (Rg [0,1,4,5] [Mv 15 5,Mv 16 1,Ro 17 (.lenS (T 16)),Bt 18 .eql 3 15 17])
 (.cond (T 18) .ret
 .skip))
 (.seq (Rg [0,1,4,5] [Ac 6 0])
 (.seq (.block 2 (.loop 5 none (some [0,1,4,5,6])))
 (.seq (.seq (Rg [0,1,4,5,6] [Mv 40 6,Mv 41 0,Ol 42 (.nilCheck (T 41)),Fa 43 0 42,Ro 44 (.load1 .slice (T 43)),Ro 45 (.lenS (T 44)),Bt 46 .eql 3 40 45,Mv 47 46,Gf 48 47 (.move (T 0)),Gf 49 47 (.nilCheck (T 48)),Hf 50 47 (.fieldAddr 0 (T 49)),Hf 51 47 (.load1 .slice (T 50)),Gf 52 47 (.move (T 6)),Hf 53 47 (.ixS 1 (T 51) (T 52)),Hf 54 47 (.load1 .slice (T 53)),⟨some 55,some (47,false),.call (.func 56) [T 54] vI⟩,Gf 56 47 (.move (T 5)),Gf 57 47 (.binOp .gtr 3 (T 55) (T 56) 3),Ol 58 (.pick (T 47) (.const (.bool true)) (T 57))])
 (.cond (T 58) (.seq (.seq (Rg [0,1,4,5,6] [Mv 59 1,Mv 60 5,Ix 61 1 59 60,L1 62 61,Bc 63 .lss 3 62 .i64 0])
 (.cond (T 63) (.seq (Rg [0,1,4,6] [Mv 64 1,Mv 65 1,Ca 66 99 [T 64,T 65,.const (.int .i64 2)] (some (.tup []))])
 (Rg [0,1,4,6] [Mv 67 4,Mv 68 1,⟨some 69,none,.call (T 67) [T 68] (some (.tup []))⟩]))
 .skip))
 (.seq (Rg [0,1,4,6] [Mv 70 0,Mv 71 0,Ol 72 (.nilCheck (T 71)),Fa 73 0 72,Ro 74 (.load1 .slice (T 73)),Mv 75 6,Mv 76 1,Ro 77 (.buildSlice 1 1 [.slice none 0 0] [(0,1,(T 76))]),Ca 78 100 [T 74,T 75,T 77] (some (.val (.one .slice))),Ol 79 (.nilCheck (T 70)),Fa 80 0 79,Sr 1 80 78])
 (.exit 0 (some [0,4]))))
 .skip))
 (.seq (.draw (some [0,1,4,5,6]) 24 [Dr (Mv 81 1) 0 [23],Dr (Mv 82 0) 1 [2,3,4,6,7,23],Dr (Ol 83 (.nilCheck (T 82))) 2 [3,4,6,7,23],Dr (Fa 84 0 83) 3 [4,6,7,23],Db (Ro 85 (.load1 .slice (T 84))) 4 84 [6,7,23],Dr (Mv 86 6) 5 [6,7,23],Dr (Ix 87 1 85 86) 6 [7,23],Db (Ro 88 (.load1 .slice (T 87))) 7 87 [23],Dr (Mv 89 1) 8 [10,11,22,23],Dr (Mv 90 5) 9 [10,11,22,23],Dr (Ix 91 1 89 90) 10 [11,22,23],Db (L1 92 91) 11 91 [22,23],Dr (Mv 93 0) 12 [13,14,15,17,18,20,21,22,23],Dr (Ol 94 (.nilCheck (T 93))) 13 [14,15,17,18,20,21,22,23],Dr (Fa 95 0 94) 14 [15,17,18,20,21,22,23],Db (Ro 96 (.load1 .slice (T 95))) 15 95 [17,18,20,21,22,23],Dr (Mv 97 6) 16 [17,18,20,21,22,23],Dr (Ix 98 1 96 97) 17 [18,20,21,22,23],Db (Ro 99 (.load1 .slice (T 98))) 18 98 [20,21,22,23],Dr (Mv 100 5) 19 [20,21,22,23],Dr (Ix 101 1 99 100) 20 [21,22,23],Db (L1 102 101) 21 101 [22,23],⟨Ca 103 68 [T 92,T 102] vI,22,.all,[23],false,false⟩,⟨Ca 104 99 [T 81,T 88,T 103] (some (.tup [])),23,.all,[],false,false⟩])
 (.seq (Rg [0,1,4,5,6] [Mv 105 1,Mv 106 5,Ix 107 1 105 106,L1 108 107,Bc 109 .neq 3 108 .i64 0])
 (.cond (T 109) (.seq (Rg [0,1,4,6] [Mv 110 4,Mv 111 1,⟨some 112,none,.call (T 110) [T 111] (some (.tup []))⟩])
 (.draw (some [0,1,4,6]) 16 [Dr (Mv 113 0) 0 [1,2,3,14,15],Dr (Ol 114 (.nilCheck (T 113))) 1 [2,3,14,15],Dr (Fa 115 0 114) 2 [3,14,15],Db (Ro 116 (.load1 .slice (T 115))) 3 115 [14,15],Dr (Mv 117 6) 4 [14,15],Dr (Mv 118 0) 5 [6,7,8,10,11,13,14,15],Dr (Ol 119 (.nilCheck (T 118))) 6 [7,8,10,11,13,14,15],Dr (Fa 120 0 119) 7 [8,10,11,13,14,15],Db (Ro 121 (.load1 .slice (T 120))) 8 120 [10,11,13,14,15],Dr (Mv 122 6) 9 [10,11,13,14,15],Dr (Ix 123 1 121 122) 10 [11,13,14,15],Db (Ro 124 (.load1 .slice (T 123))) 11 123 [13,14,15],Dr (Mv 125 1) 12 [13,14,15],Dr (As 1 124) 13 [14,15],Dr (Ix 126 1 116 117) 14 [15],⟨Sr 1 126 125,15,.blk (T 126),[],true,true⟩]))
 .skip)))))))))⟩),(5,⟨none,some [0,1,4,5,6],.seq (.seq (Rg [0,1,4,5,6] [Mv 19 6,Mv 20 0,Ol 21 (.nilCheck (T 20)),Fa 22 0 21,Ro 23 (.load1 .slice (T 22)),Ro 24 (.lenS (T 23)),Bt 25 .lss 3 19 24,Mv 26 25,Gt 27 26 (.move (T 0)),Gt 28 26 (.nilCheck (T 27)),Ht 29 26 (.fieldAddr 0 (T 28)),Ht 30 26 (.load1 .slice (T 29)),Gt 31 26 (.move (T 6)),Ht 32 26 (.ixS 1 (T 30) (T 31)),Ht 33 26 (.load1 .slice (T 32)),⟨some 34,some (26,true),.call (.func 56) [T 33] vI⟩,Gt 35 26 (.move (T 5)),Gt 36 26 (.binOp .lss 3 (T 34) (T 35) 3),Ol 37 (.pick (T 26) (T 36) (.const (.bool false)))])
 (.cond (T 37) .skip
 (.exit 2 (some [0,1,4,5,6]))))
 (.block 3 (Rg [0,1,4,5,6] [Mv 38 6,Bc 39 .add 3 38 .i64 1,As 6 39]))⟩),(17,⟨none,some [0,4,7],.seq (.seq (Rg [0,4,7] [Mv 133 7,Bc 134 .geq 3 133 .i64 0])
 (.cond (T 134) .skip
 (.exit 4 (some []))))
 (.seq (.block 5 (Rg [0,4,7] [Mv 137 4,Mv 138 0,Ol 139 (.nilCheck (T 138)),Fa 140 0 139,Ro 141 (.load1 .slice (T 140)),Mv 142 7,Ix 143 1 141 142,Ro 144 (.load1 .slice (T 143)),⟨some 145,none,.call (T 137) [T 144] (some (.tup []))⟩]))
 (Rg [0,4,7] [Mv 135 7,Bc 136 .sub 3 135 .i64 1,As 7 136]))⟩)],
 []⟩
theorem r85_ok:resFun (progU ()) hint live 85 Try.f85=some r85:=by kernel_rfl
def r89 : RFun :=
⟨.seq (Rg [0,1] [Bo 2 2 0,Bo 3 2 1,Ac 4 0])
 (.seq (.seq (Rg [2,3] [Ld 6 2,Ca 7 60 [T 6] vI,As 5 7])
 (.seq (Rg [3,5] [Mv 8 5,Bc 9 .neq 28 8 .i64 0])
 (.cond (T 9) (.seq (Rg [5] [Mv 10 5,As 4 10])
 .ret)
 .skip)))
 (.seq (Rg [3] [Ld 11 3,Ca 12 60 [T 11] vI,As 4 12])
 .ret)),
 [.tmp 4],
 [],
 []⟩
theorem r89_ok:resFun (progU ()) hint live 89 Try.f89=some r89:=by kernel_rfl
def r90 : RFun :=
⟨.seq (Rg [0,1] [Bo 2 2 0,Bo 3 2 1,Nw 4 2 z2,Ac 5 0])
 (.seq (.draw (some [2,3,4]) 16 [Dr (Fa 16 0 2) 0 [1,2,5,8,11,12,13,14,15],Db (L1 17 16) 1 16 [2,5,8,11,12,13,14,15],Dr (Fa 19 1 2) 3 [4,5,8,11,12,13,14,15],Db (L1 20 19) 4 19 [5,8,11,12,13,14,15],Dr (Fa 22 0 3) 6 [7,8,11,12,13,14,15],Db (L1 23 22) 7 22 [8,11,12,13,14,15],Dr (Fa 25 1 3) 9 [10,11,12,13,14,15],Db (L1 26 25) 10 25 [11,12,13,14,15],⟨Ca 18 71 [T 17] (some (.val (.one (.int .u64)))),2,.all,[5,8,11,12,13,14,15],false,false⟩,⟨Ca 21 71 [T 20] (some (.val (.one (.int .u64)))),5,.all,[8,11,12,13,14,15],false,false⟩,⟨Ca 24 71 [T 23] (some (.val (.one (.int .u64)))),8,.all,[11,12,13,14,15],false,false⟩,⟨Ca 27 71 [T 26] (some (.val (.one (.int .u64)))),11,.all,[12,13,14,15],false,false⟩,Dr (As 6 18) 12 [13,14,15],Dr (As 7 21) 13 [14,15],Dr (As 8 24) 14 [15],Dr (As 9 27) 15 []])
 (.seq (Rg [2,3,4,6,7,8,9] [Mv 28 6,Mv 29 9,Ca 30 72 [T 28,T 29] (some (.val (.one (.int .u64)))),Mv 31 8,Mv 32 7,Ca 33 72 [T 31,T 32] (some (.val (.one (.int .u64)))),As 10 30,As 11 33])
 (.seq (.draw (some [2,3,4,6,7,8,9,10,11]) 12 [Dr (Mv 35 6) 0 [2,6,7,8,9,10,11],Dr (Mv 36 10) 1 [2,6,7,8,9,10,11],Dr (Bt 37 .quo 69 35 36) 2 [6,7,8,9,10,11],Dr (Mv 38 8) 3 [5,6,7,8,9,10,11],Dr (Mv 39 11) 4 [5,6,7,8,9,10,11],Dr (Bt 40 .quo 69 38 39) 5 [6,7,8,9,10,11],⟨Ca 41 112 [T 37,T 40] (some (.tup [.one (.int .u64),.one (.int .u64)])),6,.all,[7,8,9,10,11],false,false⟩,Dr (Mv 34 41) 7 [8,9,10,11],Dr (Ex 42 34 0) 8 [10,11],Dr (Ex 43 34 1) 9 [11],Dr (As 12 42) 10 [11],Dr (As 13 43) 11 []])
 (.seq (.draw (some [2,3,4,7,9,10,11,12,13]) 12 [Dr (Mv 45 7) 0 [2,6,7,8,9,10,11],Dr (Mv 46 11) 1 [2,6,7,8,9,10,11],Dr (Bt 47 .quo 69 45 46) 2 [6,7,8,9,10,11],Dr (Mv 48 9) 3 [5,6,7,8,9,10,11],Dr (Mv 49 10) 4 [5,6,7,8,9,10,11],Dr (Bt 50 .quo 69 48 49) 5 [6,7,8,9,10,11],⟨Ca 51 112 [T 47,T 50] (some (.tup [.one (.int .u64),.one (.int .u64)])),6,.all,[7,8,9,10,11],false,false⟩,Dr (Mv 44 51) 7 [8,9,10,11],Dr (Ex 52 44 0) 8 [10,11],Dr (Ex 53 44 1) 9 [11],Dr (As 14 52) 10 [11],Dr (As 15 53) 11 []])
 (.seq (.seq (Rg [2,3,4,12,13,14,15] [Mv 54 12,Bc 55 .neq 69 54 .u64 0,Mv 56 55,Gf 57 56 (.move (T 14)),Gf 58 56 (.binOp .neq 69 (T 57) (.const (.int .u64 0)) 69),Ol 59 (.pick (T 56) (.const (.bool true)) (T 58))])
 (.cond (T 59) (.seq (Rg [4] [Ro 60 (.build z2 []),Sr 2 4 60,Ac 5 16])
 .ret)
 .skip))
 (.seq (Rg [2,3,4,13,15] [Fa 61 0 2,L1 62 61,Bc 63 .lss 2 62 .i64 0,Fa 64 0 3,L1 65 64,Bc 66 .lss 2 65 .i64 0,Bt 67 .neq 4 63 66,Mv 68 13,Mv 69 15,Ca 70 73 [T 67,T 68,T 69] (some (.tup [.agg s2,.one (.int .i64)])),Ex 71 70 0,Ex 72 70 1,Sr 2 4 71,As 5 72])
 .ret)))))),
 [.agg 4 2 [.int .i64,.int .i64],.tmp 5],
 [],
 []⟩
theorem r90_ok:resFun (progU ()) hint live 90 Try.f90=some r90:=by kernel_rfl
def r91 : RFun :=
⟨.seq (Rg [0,1] [Bo 2 2 0,Bo 3 2 1,Nw 4 2 z2,Ac 5 0])
 (.seq (.draw (some [2,3,4]) 8 [Dr (Fa 22 1 2) 0 [1,2,5,6,7],Db (L1 23 22) 1 22 [2,5,6,7],Dr (Fa 25 1 3) 3 [4,5,6,7],Db (L1 26 25) 4 25 [5,6,7],⟨Ca 24 71 [T 23] (some (.val (.one (.int .u64)))),2,.all,[5,6,7],false,false⟩,⟨Ca 27 71 [T 26] (some (.val (.one (.int .u64)))),5,.all,[6,7],false,false⟩,Dr (As 6 24) 6 [7],Dr (As 7 27) 7 []])
 (.seq (Rg [2,3,4,6,7] [Mv 28 6,Mv 29 7,Ca 30 72 [T 28,T 29] (some (.val (.one (.int .u64)))),As 8 30])
 (.seq (.draw (some [2,3,4,6,7,8]) 12 [Dr (Fa 32 0 2) 0 [1,2,6,7,8,9,10,11],Db (L1 33 32) 1 32 [2,6,7,8,9,10,11],Dr (Mv 35 7) 3 [5,6,7,8,9,10,11],Dr (Mv 36 8) 4 [5,6,7,8,9,10,11],Dr (Bt 37 .quo 69 35 36) 5 [6,7,8,9,10,11],⟨Ca 34 71 [T 33] (some (.val (.one (.int .u64)))),2,.all,[6,7,8,9,10,11],false,false⟩,⟨Ca 38 112 [T 34,T 37] (some (.tup [.one (.int .u64),.one (.int .u64)])),6,.all,[7,8,9,10,11],false,false⟩,Dr (Mv 31 38) 7 [8,9,10,11],Dr (Ex 39 31 0) 8 [10,11],Dr (Ex 40 31 1) 9 [11],Dr (As 9 39) 10 [11],Dr (As 10 40) 11 []])
 (.seq (.draw (some [2,3,4,6,7,8,9,10]) 12 [Dr (Fa 42 0 3) 0 [1,2,6,7,8,9,10,11],Db (L1 43 42) 1 42 [2,6,7,8,9,10,11],Dr (Mv 45 6) 3 [5,6,7,8,9,10,11],Dr (Mv 46 8) 4 [5,6,7,8,9,10,11],Dr (Bt 47 .quo 69 45 46) 5 [6,7,8,9,10,11],⟨Ca 44 71 [T 43] (some (.val (.one (.int .u64)))),2,.all,[6,7,8,9,10,11],false,false⟩,⟨Ca 48 112 [T 44,T 47] (some (.tup [.one (.int .u64),.one (.int .u64)])),6,.all,[7,8,9,10,11],false,false⟩,Dr (Mv 41 48) 7 [8,9,10,11],Dr (Ex 49 41 0) 8 [10,11],Dr (Ex 50 41 1) 9 [11],Dr (As 11 49) 10 [11],Dr (As 12 50) 11 []])
 (.seq (Rg [2,3,4,6,7,8,9,10,11,12] [Fa 51 0 2,L1 52 51,Bc 53 .lss 2 52 .i64 0,As 13 53])
 (.seq (Rg [2,3,4,6,7,8,9,10,11,12,13] [Ol 14 (.assign (.const (.int .u64 0))),Ol 15 (.assign (.const (.int .u64 0))),Ol 16 (.assign (.const (.int .u64 0)))])
 (.seq (.block 0 (.seq (Rg [2,3,4,6,7,8,9,10,11,12,13] [Fa 71 0 2,L1 72 71,Bc 73 .lss 2 72 .i64 0,Fa 74 0 3,L1 75 74,Bc 76 .lss 2 75 .i64 0,Bt 77 .eql 4 73 76,As 70 77])
 (.cond (T 70) (.seq (Rg [4,6,7,8,9,10,11,12,13] [Mv 79 10,Mv 80 12,Ca 81 113 [T 79,T 80,.const (.int .u64 0)] (some (.tup [.one (.int .u64),.one (.int .u64)])),Mv 78 81,Ex 82 78 0,Ex 83 78 1,As 15 82,As 16 83])
 (Rg [4,6,7,8,9,11,13,15,16] [Mv 85 9,Mv 86 11,Mv 87 16,Ca 88 113 [T 85,T 86,T 87] (some (.tup [.one (.int .u64),.one (.int .u64)])),Mv 84 88,Ex 89 84 0,Ex 90 84 1,As 14 89]))
 (.seq (Rg [3,4,6,7,8,9,10,11,12,13] [Mv 92 9,Mv 93 10,Mv 94 11,Mv 95 12,Ca 96 114 [T 92,T 93,T 94,T 95] vI,Bc 97 .geq 3 96 .i64 0,As 91 97])
 (.cond (T 91) (.seq (Rg [4,6,7,8,9,10,11,12,13] [Mv 99 10,Mv 100 12,Ca 101 115 [T 99,T 100,.const (.int .u64 0)] (some (.tup [.one (.int .u64),.one (.int .u64)])),Mv 98 101,Ex 102 98 0,Ex 103 98 1,As 15 102,As 16 103])
 (Rg [4,6,7,8,9,11,13,15,16] [Mv 105 9,Mv 106 11,Mv 107 16,Ca 108 115 [T 105,T 106,T 107] (some (.tup [.one (.int .u64),.one (.int .u64)])),Mv 104 108,Ex 109 104 0,Ex 110 104 1,As 14 109]))
 (.seq (Rg [3,4,6,7,8,9,10,11,12] [Fa 54 0 3,L1 55 54,Bc 56 .lss 2 55 .i64 0,As 13 56])
 (.seq (Rg [4,6,7,8,9,10,11,12,13] [Mv 58 12,Mv 59 10,Ca 60 115 [T 58,T 59,.const (.int .u64 0)] (some (.tup [.one (.int .u64),.one (.int .u64)])),Mv 57 60,Ex 61 57 0,Ex 62 57 1,As 15 61,As 16 62])
 (Rg [4,6,7,8,9,11,13,15,16] [Mv 64 11,Mv 65 9,Mv 66 16,Ca 67 115 [T 64,T 65,T 66] (some (.tup [.one (.int .u64),.one (.int .u64)])),Mv 63 67,Ex 68 63 0,Ex 69 63 1,As 14 68]))))))))
 (.seq (Rg [4,6,7,8,13,14,15] [Mv 111 8,Mv 112 14,Mv 113 15,Mv 114 8,Ca 115 116 [T 112,T 113,T 114] (some (.val (.one (.int .u64)))),Ca 116 72 [T 111,T 115] (some (.val (.one (.int .u64)))),As 17 116])
 (.seq (.seq (Rg [4,6,7,8,13,14,15,17] [Mv 117 14,Mv 118 17,Bt 119 .geq 69 117 118])
 (.cond (T 119) (.seq (Rg [4] [Ro 120 (.build z2 []),Sr 2 4 120,Ac 5 16])
 .ret)
 .skip))
 (.seq (Rg [4,6,7,8,13,14,15,17] [Mv 122 14,Mv 123 15,Mv 124 17,Ca 125 117 [T 122,T 123,T 124] (some (.tup [.one (.int .u64),.one (.int .u64)])),Mv 121 125,Ex 126 121 0,Ex 127 121 1,As 18 126,As 19 127])
 (.seq (.draw (some [4,6,7,8,13,17,18]) 12 [Dr (Mv 129 6) 0 [2,6,7,8,9,10,11],Dr (Mv 130 8) 1 [2,6,7,8,9,10,11],Dr (Bt 131 .quo 69 129 130) 2 [6,7,8,9,10,11],Dr (Mv 132 7) 3 [5,6,7,8,9,10,11],Dr (Mv 133 17) 4 [5,6,7,8,9,10,11],Dr (Bt 134 .quo 69 132 133) 5 [6,7,8,9,10,11],⟨Ca 135 112 [T 131,T 134] (some (.tup [.one (.int .u64),.one (.int .u64)])),6,.all,[7,8,9,10,11],false,false⟩,Dr (Mv 128 135) 7 [8,9,10,11],Dr (Ex 136 128 0) 8 [10,11],Dr (Ex 137 128 1) 9 [11],Dr (As 20 136) 10 [11],Dr (As 21 137) 11 []])
 (.seq (.seq (Rg [4,13,18,20,21] [Mv 138 20,Bc 139 .neq 69 138 .u64 0])
 (.cond (T 139) (.seq (Rg [4] [Ro 140 (.build z2 []),Sr 2 4 140,Ac 5 16])
 .ret)
 .skip))
 (.seq (Rg [4,13,18,21] [Mv 141 13,Mv 142 18,Mv 143 21,Ca 144 73 [T 141,T 142,T 143] (some (.tup [.agg s2,.one (.int .i64)])),Ex 145 144 0,Ex 146 144 1,Sr 2 4 145,As 5 146])
 .ret))))))))))))),
 [.agg 4 2 [.int .i64,.int .i64],.tmp 5],
 [],
 []⟩
theorem r91_ok:resFun (progU ()) hint live 91 Try.f91=some r91:=by kernel_rfl
def r94 : RFun :=
⟨.seq (Rg [0] [Ac 2 0])
 (.seq (Rg [0] [Mv 3 0,Ol 4 (.binOp .shr 69 (T 3) (.const (.int .u64 1)) 95),Bc 5 .and 69 4 .u64 6148914691236517205,Mv 6 0,Bc 7 .and 69 6 .u64 6148914691236517205,Bt 8 .add 69 5 7,As 0 8])
 (.seq (Rg [0] [Mv 9 0,Ol 10 (.binOp .shr 69 (T 9) (.const (.int .u64 2)) 95),Bc 11 .and 69 10 .u64 3689348814741910323,Mv 12 0,Bc 13 .and 69 12 .u64 3689348814741910323,Bt 14 .add 69 11 13,As 0 14])
 (.seq (Rg [0] [Mv 15 0,Ol 16 (.binOp .shr 69 (T 15) (.const (.int .u64 4)) 95),Mv 17 0,Bt 18 .add 69 16 17,Bc 19 .and 69 18 .u64 1085102592571150095,As 0 19])
 (.seq (Rg [0] [Mv 20 0,Mv 21 0,Ol 22 (.binOp .shr 69 (T 21) (.const (.int .u64 8)) 95),Bt 23 .add 69 20 22,As 0 23])
 (.seq (Rg [0] [Mv 24 0,Mv 25 0,Ol 26 (.binOp .shr 69 (T 25) (.const (.int .u64 16)) 95),Bt 27 .add 69 24 26,As 0 27])
 (.seq (Rg [0] [Mv 28 0,Mv 29 0,Ol 30 (.binOp .shr 69 (T 29) (.const (.int .u64 32)) 95),Bt 31 .add 69 28 30,As 0 31])
 (.seq (Rg [0] [Mv 32 0,Ro 33 (.convI .i64 (T 32)),Bc 34 .and 3 33 .i64 127,As 2 34])
 .ret))))))),
 [.tmp 2],
 [],
 []⟩
theorem r94_ok:resFun (progU ()) hint live 94 Try.f94=some r94:=by kernel_rfl
def r95 : RFun :=
⟨.draw (some [0,1,2]) 24 [Dr (Mv 6 0) 0 [16,17,18,19,22,23],Dr (Mv 7 1) 1 [18,19,22,23],Dr (Mv 8 0) 2 [20,21,22,23],Dr (Mv 9 2) 3 [22,23],Dr (Mv 10 0) 4 [6,7,8,9,18,19,22,23],Dr (Mv 11 2) 5 [8,9,18,19,22,23],Dr (Ol 12 (.nilCheck (T 10))) 6 [7,8,9,18,19,22,23],Dr (Fa 13 1 12) 7 [8,9,18,19,22,23],Dr (Ro 14 (.ixA 4 4 (T 13) (T 11))) 8 [9,18,19,22,23],Db (Ro 15 (.load 4 [.int .i64,.int .i64,.int .i64,.int .i64] (T 14))) 9 14 [18,19,22,23],Dr (Mv 16 0) 10 [12,13,14,15,18,19,22,23],Dr (Mv 17 1) 11 [14,15,18,19,22,23],Dr (Ol 18 (.nilCheck (T 16))) 12 [13,14,15,18,19,22,23],Dr (Fa 19 1 18) 13 [14,15,18,19,22,23],Dr (Ro 20 (.ixA 4 4 (T 19) (T 17))) 14 [15,18,19,22,23],Db (Ro 21 (.load 4 [.int .i64,.int .i64,.int .i64,.int .i64] (T 20))) 15 20 [18,19,22,23],Dr (Ol 22 (.nilCheck (T 6))) 16 [17,18,19,22,23],Dr (Fa 23 1 22) 17 [18,19,22,23],Dr (Ro 24 (.ixA 4 4 (T 23) (T 7))) 18 [19,22,23],⟨Sr 4 24 15,19,.blk (T 24),[22,23],true,true⟩,Dr (Ol 25 (.nilCheck (T 8))) 20 [21,22,23],Dr (Fa 26 1 25) 21 [22,23],Dr (Ro 27 (.ixA 4 4 (T 26) (T 9))) 22 [23],⟨Sr 4 27 21,23,.blk (T 27),[],true,true⟩],
 [],
 [],
 []⟩
theorem r95_ok:resFun (progU ()) hint live 95 Try.f95=some r95:=by kernel_rfl
def r96 : RFun :=
⟨.seq (Rg [0,1,2] [Ol 7 (.move (Ci 0))])
 (.block 0 (.loop 1 (some [0,1,2,7]) (some [0,1,2,7]))),
 [],
 [(1,⟨some [0,1,2,7],some [0,1,2,7],.seq (Rg [0,1,2,7] [Bc 8 .lss 3 7 .i64 4])
 (.seq (.cond (T 8) .skip
 (.exit 0 (some [])))
 (.seq (.block 1 (.seq (Rg [0,1,2,7] [Mv 9 7,As 6 9])
 (.draw (some [0,1,2,6,7]) 32 [Dr (Mv 10 0) 0 [22,23,24,25,26,30,31],Dr (Mv 11 6) 1 [24,25,26,30,31],Dr (Mv 12 1) 2 [25,26,30,31],Dr (Mv 13 0) 3 [27,28,29,30,31],Dr (Mv 14 6) 4 [29,30,31],Dr (Mv 15 2) 5 [30,31],Dr (Mv 16 0) 6 [9,10,11,12,13,25,26,30,31],Dr (Mv 17 6) 7 [11,12,13,25,26,30,31],Dr (Mv 18 2) 8 [12,13,25,26,30,31],Dr (Ol 19 (.nilCheck (T 16))) 9 [10,11,12,13,25,26,30,31],Dr (Fa 20 1 19) 10 [11,12,13,25,26,30,31],Dr (Ro 21 (.ixA 4 4 (T 20) (T 17))) 11 [12,13,25,26,30,31],Dr (Ro 22 (.ixA 4 1 (T 21) (T 18))) 12 [13,25,26,30,31],Db (L1 23 22) 13 22 [25,26,30,31],Dr (Mv 24 0) 14 [17,18,19,20,21,25,26,30,31],Dr (Mv 25 6) 15 [19,20,21,25,26,30,31],Dr (Mv 26 1) 16 [20,21,25,26,30,31],Dr (Ol 27 (.nilCheck (T 24))) 17 [18,19,20,21,25,26,30,31],Dr (Fa 28 1 27) 18 [19,20,21,25,26,30,31],Dr (Ro 29 (.ixA 4 4 (T 28) (T 25))) 19 [20,21,25,26,30,31],Dr (Ro 30 (.ixA 4 1 (T 29) (T 26))) 20 [21,25,26,30,31],Db (L1 31 30) 21 30 [25,26,30,31],Dr (Ol 32 (.nilCheck (T 10))) 22 [23,24,25,26,30,31],Dr (Fa 33 1 32) 23 [24,25,26,30,31],Dr (Ro 34 (.ixA 4 4 (T 33) (T 11))) 24 [25,26,30,31],Dr (Ro 35 (.ixA 4 1 (T 34) (T 12))) 25 [26,30,31],⟨Sr 1 35 23,26,.blk (T 35),[30,31],true,true⟩,Dr (Ol 36 (.nilCheck (T 13))) 27 [28,29,30,31],Dr (Fa 37 1 36) 28 [29,30,31],Dr (Ro 38 (.ixA 4 4 (T 37) (T 14))) 29 [30,31],Dr (Ro 39 (.ixA 4 1 (T 38) (T 15))) 30 [31],⟨Sr 1 39 31,31,.blk (T 39),[],true,true⟩])))
 (Rg [0,1,2,7] [Bc 40 .add 3 7 .i64 1,Mv 7 40])))⟩)],
 []⟩
theorem r96_ok:resFun (progU ()) hint live 96 Try.f96=some r96:=by kernel_rfl
def r97 : RFun :=
⟨.seq (Rg [0,1] [Nw 4 2 z2,Ol 5 (.assign (.const (.bool false)))])
 (.seq (.seq (Rg [0,1,4] [Mv 8 1,As 6 8])
 (.block 0 (.loop 2 none (some [0,1,4,6]))))
 (.seq (Rg [4] [Ro 38 (.build z2 []),Sr 2 4 38,Ol 5 (.assign (.const (.bool false)))])
 .ret)),
 [.agg 4 2 [.int .i64,.int .i64],.tmp 5],
 [(2,⟨none,some [0,1,4,6],.seq (.seq (Rg [0,1,4,6] [Mv 9 6,Mv 10 0,Ol 11 (.nilCheck (T 10)),Fa 12 0 11,L1 13 12,Bt 14 .lss 3 9 13])
 (.cond (T 14) .skip
 (.exit 0 (some [4]))))
 (.seq (.block 1 (.seq (Rg [0,1,4,6] [Mv 17 1,As 7 17])
 (.block 2 (.loop 5 none (some [0,1,4,6,7])))))
 (Rg [0,1,4,6] [Mv 15 6,Bc 16 .add 3 15 .i64 1,As 6 16]))⟩),(5,⟨none,some [0,1,4,6,7],.seq (.seq (Rg [0,1,4,6,7] [Mv 18 7,Mv 19 0,Ol 20 (.nilCheck (T 19)),Fa 21 0 20,L1 22 21,Bt 23 .lss 3 18 22])
 (.cond (T 23) .skip
 (.exit 2 (some [0,1,4,6]))))
 (.seq (.block 3 (.seq (Rg [0,1,4,6,7] [Mv 26 0,Mv 27 6,Mv 28 7,Ol 29 (.nilCheck (T 26)),Fa 30 1 29,Ro 31 (.ixA 4 4 (T 30) (T 27)),Ro 32 (.ixA 4 1 (T 31) (T 28)),L1 33 32,Bc 34 .neq 3 33 .i64 0])
 (.cond (T 34) (.seq (Rg [4,6,7] [Mv 35 6,Mv 36 7,Ro 37 (.build z2 [(0,1,(T 35)),(1,1,(T 36))]),Sr 2 4 37,Ol 5 (.assign (.const (.bool true)))])
 .ret)
 .skip)))
 (Rg [0,1,4,6,7] [Mv 24 7,Bc 25 .add 3 24 .i64 1,As 7 25]))⟩)],
 []⟩
theorem r97_ok:resFun (progU ()) hint live 97 Try.f97=some r97:=by kernel_rfl
