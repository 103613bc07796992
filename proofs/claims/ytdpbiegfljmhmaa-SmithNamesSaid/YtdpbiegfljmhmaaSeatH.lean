import Derived.Test.YtdpbiegfljmhmaaSeat0
import Derived.Test.YtdpbiegfljmhmaaSymI
set_option linter.unusedSimpArgs false
set_option linter.unusedVariables false
namespace Go.Proofs.Ytdpbiegfljmhmaa
open Go.cL
set_option maxRecDepth 100000
def r81 : lL :=
⟨.seq (Rg [0] [Ac 2 0])
 (.seq (Rg [0] [Mv 11 0,Ol 12 (.makeFunc (.func 95) #[T 11] #[]),Mv 13 0,Ol 14 (.makeFunc (.func 96) #[T 13] #[]),As 3 12,As 4 14])
 (.seq (Rg [0,3,4] [Ac 5 1])
 (.seq (.seq (Rg [0,3,4,5] [Mv 15 0,Ol 16 (.nilCheck (T 15)),Fa 17 0 16,L1 18 17,Ol 19 (.move (Ci 0))])
 (.block 0 (.loop 4 (some [0,3,4,5,18,19]) (some [0,3,4,5,18,19]))))
 (.seq (Rg [5] [Mv 118 5,Mv 119 5,Ol 120 (.unOp .neg 3 (T 119)),⟨some 121,none,.op false (.cJ (.call ⟨.builtin .max,#[T 118,T 120],#[3,3]⟩))⟩,As 2 121])
 .ret)))),
 [.tmp 2],
 [(4,⟨some [0,3,4,5,18,19],some [0,3,4,5,18,19],.seq (Rg [0,3,4,5,18,19] [Bt 20 .lss 3 19 18])
 (.seq (.cond (T 20) .skip
 (.exit 0 (some [5])))
 (.seq (.block 1 (.seq (Rg [0,3,4,5,18,19] [Mv 21 19,As 6 21])
 (.seq (Rg [0,3,4,5,6,18,19] [Mv 23 0,Mv 24 6,Ca 25 97 [T 23,T 24] (some (.kL [.agg s2,.one .bool])),Mv 22 25,Ex 26 22 0,Ex 27 22 1,Ro 7 (.new 2 z2),Sr 2 7 26,As 8 27])
 (.seq (.seq (Rg [0,3,4,5,6,7,8,18,19] [Mv 28 8,Ol 29 (.unOp .not 4 (T 28))])
 (.cond (T 29) (.seq (Rg [] [Ac 2 0])
 .ret)
 .skip))
 (.seq (.seq (Rg [0,3,4,5,6,7,18,19] [Ld 30 7,Mv 31 6,Mv 32 6,Ro 33 (.build z2 [(0,1,(T 31)),(1,1,(T 32))]),Bt 34 .neq 126 30 33])
 (.cond (T 34) (.seq (Rg [0,3,4,5,6,7,18,19] [Mv 35 3,Mv 36 6,Ro 37 (.wo 2 1 (T 7) (Ci 0)),L1 38 37,⟨some 39,none,.call (T 35) [T 36,T 38] (some (.kL []))⟩])
 (Rg [0,3,4,5,6,7,18,19] [Mv 40 4,Mv 41 6,Ro 42 (.wo 2 1 (T 7) (Ci 1)),L1 43 42,⟨some 44,none,.call (T 40) [T 41,T 43] (some (.kL []))⟩]))
 .skip))
 (.seq (.seq (Rg [0,3,4,5,6,18,19] [Mv 45 6,Bc 46 .add 3 45 .i64 1,As 9 46])
 (.block 2 (.loop 13 (some [0,3,4,5,6,9,18,19]) (some [0,3,4,5,6,9,18,19]))))
 (Rg [0,3,4,6,18,19] [Mv 109 0,Mv 110 6,Mv 111 6,Ol 112 (.nilCheck (T 109)),Fa 113 1 112,Ro 114 (.wo 4 4 (T 113) (T 110)),Ro 115 (.wo 4 1 (T 114) (T 111)),L1 116 115,As 5 116])))))))
 (Rg [0,3,4,5,18,19] [Bc 117 .add 3 19 .i64 1,Mv 19 117])))⟩),(13,⟨some [0,3,4,5,6,9,18,19],some [0,3,4,5,6,9,18,19],.seq (.seq (Rg [0,3,4,5,6,9,18,19] [Mv 47 9,Mv 48 0,Ol 49 (.nilCheck (T 48)),Fa 50 0 49,L1 51 50,Bt 52 .lss 3 47 51])
 (.cond (T 52) .skip
 (.exit 2 (some [0,3,4,6,18,19]))))
 (.seq (.block 3 (.seq (Rg [0,3,4,5,6,9,18,19] [Mv 55 6,Bc 56 .add 3 55 .i64 1,As 10 56])
 (.block 4 (.loop 16 (some [0,3,4,5,6,9,10,18,19]) (some [0,3,4,5,6,9,10,18,19])))))
 (Rg [0,3,4,5,6,9,18,19] [Mv 53 9,Bc 54 .add 3 53 .i64 1,As 9 54]))⟩),(16,⟨some [0,3,4,5,6,9,10,18,19],some [0,3,4,5,6,9,10,18,19],.seq (.seq (Rg [0,3,4,5,6,9,10,18,19] [Mv 57 10,Mv 58 0,Ol 59 (.nilCheck (T 58)),Fa 60 0 59,L1 61 60,Bt 62 .lss 3 57 61])
 (.cond (T 62) .skip
 (.exit 4 (some [0,3,4,5,6,9,18,19]))))
 (.seq (.block 5 (.draw (some [0,3,4,5,6,9,10,18,19]) 45 [Dr (Mv 65 0) 0 [40,41,42,43,44],Dr (Mv 66 9) 1 [42,43,44],Dr (Mv 67 10) 2 [43,44],Dr (Mv 68 0) 3 [6,7,8,9,10,19,37,39,43,44],Dr (Mv 69 6) 4 [8,9,10,19,37,39,43,44],Dr (Mv 70 6) 5 [9,10,19,37,39,43,44],Dr (Ol 71 (.nilCheck (T 68))) 6 [7,8,9,10,19,37,39,43,44],Dr (Fa 72 1 71) 7 [8,9,10,19,37,39,43,44],Dr (Ro 73 (.wo 4 4 (T 72) (T 69))) 8 [9,10,19,37,39,43,44],Dr (Ro 74 (.wo 4 1 (T 73) (T 70))) 9 [10,19,37,39,43,44],Db (L1 75 74) 10 74 [19,37,39,43,44],Dr (Mv 76 0) 11 [14,15,16,17,18,19,37,39,43,44],Dr (Mv 77 9) 12 [16,17,18,19,37,39,43,44],Dr (Mv 78 10) 13 [17,18,19,37,39,43,44],Dr (Ol 79 (.nilCheck (T 76))) 14 [15,16,17,18,19,37,39,43,44],Dr (Fa 80 1 79) 15 [16,17,18,19,37,39,43,44],Dr (Ro 81 (.wo 4 4 (T 80) (T 77))) 16 [17,18,19,37,39,43,44],Dr (Ro 82 (.wo 4 1 (T 81) (T 78))) 17 [18,19,37,39,43,44],Db (L1 83 82) 18 82 [19,37,39,43,44],Dr (Bt 84 .mul 3 75 83) 19 [37,39,43,44],Dr (Mv 85 0) 20 [23,24,25,26,27,36,37,39,43,44],Dr (Mv 86 9) 21 [25,26,27,36,37,39,43,44],Dr (Mv 87 6) 22 [26,27,36,37,39,43,44],Dr (Ol 88 (.nilCheck (T 85))) 23 [24,25,26,27,36,37,39,43,44],Dr (Fa 89 1 88) 24 [25,26,27,36,37,39,43,44],Dr (Ro 90 (.wo 4 4 (T 89) (T 86))) 25 [26,27,36,37,39,43,44],Dr (Ro 91 (.wo 4 1 (T 90) (T 87))) 26 [27,36,37,39,43,44],Db (L1 92 91) 27 91 [36,37,39,43,44],Dr (Mv 93 0) 28 [31,32,33,34,35,36,37,39,43,44],Dr (Mv 94 6) 29 [33,34,35,36,37,39,43,44],Dr (Mv 95 10) 30 [34,35,36,37,39,43,44],Dr (Ol 96 (.nilCheck (T 93))) 31 [32,33,34,35,36,37,39,43,44],Dr (Fa 97 1 96) 32 [33,34,35,36,37,39,43,44],Dr (Ro 98 (.wo 4 4 (T 97) (T 94))) 33 [34,35,36,37,39,43,44],Dr (Ro 99 (.wo 4 1 (T 98) (T 95))) 34 [35,36,37,39,43,44],Db (L1 100 99) 35 99 [36,37,39,43,44],Dr (Bt 101 .mul 3 92 100) 36 [37,39,43,44],Dr (Bt 102 .sub 3 84 101) 37 [39,43,44],Dr (Mv 103 5) 38 [39,43,44],Dr (Bt 104 .quo 3 102 103) 39 [43,44],Dr (Ol 105 (.nilCheck (T 65))) 40 [41,42,43,44],Dr (Fa 106 1 105) 41 [42,43,44],Dr (Ro 107 (.wo 4 4 (T 106) (T 66))) 42 [43,44],Dr (Ro 108 (.wo 4 1 (T 107) (T 67))) 43 [44],⟨Sr 1 108 104,44,.dx (T 108),[],true,true⟩]))
 (Rg [0,3,4,5,6,9,10,18,19] [Mv 63 10,Bc 64 .add 3 63 .i64 1,As 10 64]))⟩)],
 []⟩
theorem og: fE (progU ()) hint live 81 Try.f81=some r81:=by kernel_rfl
def r85 : lL :=
⟨.seq (Rg [0,1] [Mv 8 0,Ol 9 (.makeFunc (.func 98) #[T 8] #[]),As 4 9])
 (.seq (.block 0 (.loop 1 (some [0,1,4]) (some [0,1,4])))
 (.seq (Rg [0,4] [Mv 127 0,Ol 128 (.nilCheck (T 127)),Fa 129 0 128,Ro 130 (.bq .slice (T 129)),Ro 131 (.yO (T 130)),Bc 132 .sub 3 131 .i64 1,As 7 132])
 (.block 4 (.loop 17 none (some [0,4,7]))))),
 [],
 [(1,⟨some [0,1,4],some [0,1,4],.block 1 (.seq (Rg [0,1,4] [Mv 10 4,Mv 11 1,⟨some 12,none,.call (T 10) [T 11] (some (.kL []))⟩])
 (.seq (Rg [0,1,4] [Mv 13 1,Ca 14 56 [T 13] vI,As 5 14])
 (.seq (.seq (Rg [0,1,4,5] [Mv 15 5,Mv 16 1,Ro 17 (.yO (T 16)),Bt 18 .eql 3 15 17])
 (.cond (T 18) .ret
 .skip))
 (.seq (Rg [0,1,4,5] [Ac 6 0])
 (.seq (.block 2 (.loop 5 none (some [0,1,4,5,6])))
 (.seq (.seq (Rg [0,1,4,5,6] [Mv 40 6,Mv 41 0,Ol 42 (.nilCheck (T 41)),Fa 43 0 42,Ro 44 (.bq .slice (T 43)),Ro 45 (.yO (T 44)),Bt 46 .eql 3 40 45,Mv 47 46,Gf 48 47 (.move (T 0)),Gf 49 47 (.nilCheck (T 48)),Hf 50 47 (.fieldAddr 0 (T 49)),Hf 51 47 (.bq .slice (T 50)),Gf 52 47 (.move (T 6)),Hf 53 47 (.yI 1 (T 51) (T 52)),Hf 54 47 (.bq .slice (T 53)),⟨some 55,some (47,false),.call (.func 56) [T 54] vI⟩,Gf 56 47 (.move (T 5)),Gf 57 47 (.binOp .gtr 3 (T 55) (T 56) 3),Ol 58 (.pick (T 47) (.const (.bool true)) (T 57))])
 (.cond (T 58) (.seq (.seq (Rg [0,1,4,5,6] [Mv 59 1,Mv 60 5,Ix 61 1 59 60,L1 62 61,Bc 63 .lss 3 62 .i64 0])
 (.cond (T 63) (.seq (Rg [0,1,4,6] [Mv 64 1,Mv 65 1,Ca 66 99 [T 64,T 65,.const (.int .i64 2)] (some (.kL []))])
 (Rg [0,1,4,6] [Mv 67 4,Mv 68 1,⟨some 69,none,.call (T 67) [T 68] (some (.kL []))⟩]))
 .skip))
 (.seq (Rg [0,1,4,6] [Mv 70 0,Mv 71 0,Ol 72 (.nilCheck (T 71)),Fa 73 0 72,Ro 74 (.bq .slice (T 73)),Mv 75 6,Mv 76 1,Ro 77 (.buildSlice 1 1 [.slice none 0 0] [(0,1,(T 76))]),Ca 78 100 [T 74,T 75,T 77] (some (.val (.one .slice))),Ol 79 (.nilCheck (T 70)),Fa 80 0 79,Sr 1 80 78])
 (.exit 0 (some [0,4]))))
 .skip))
 (.seq (.draw (some [0,1,4,5,6]) 24 [Dr (Mv 81 1) 0 [23],Dr (Mv 82 0) 1 [2,3,4,6,7,23],Dr (Ol 83 (.nilCheck (T 82))) 2 [3,4,6,7,23],Dr (Fa 84 0 83) 3 [4,6,7,23],Db (Ro 85 (.bq .slice (T 84))) 4 84 [6,7,23],Dr (Mv 86 6) 5 [6,7,23],Dr (Ix 87 1 85 86) 6 [7,23],Db (Ro 88 (.bq .slice (T 87))) 7 87 [23],Dr (Mv 89 1) 8 [10,11,22,23],Dr (Mv 90 5) 9 [10,11,22,23],Dr (Ix 91 1 89 90) 10 [11,22,23],Db (L1 92 91) 11 91 [22,23],Dr (Mv 93 0) 12 [13,14,15,17,18,20,21,22,23],Dr (Ol 94 (.nilCheck (T 93))) 13 [14,15,17,18,20,21,22,23],Dr (Fa 95 0 94) 14 [15,17,18,20,21,22,23],Db (Ro 96 (.bq .slice (T 95))) 15 95 [17,18,20,21,22,23],Dr (Mv 97 6) 16 [17,18,20,21,22,23],Dr (Ix 98 1 96 97) 17 [18,20,21,22,23],Db (Ro 99 (.bq .slice (T 98))) 18 98 [20,21,22,23],Dr (Mv 100 5) 19 [20,21,22,23],Dr (Ix 101 1 99 100) 20 [21,22,23],Db (L1 102 101) 21 101 [22,23],⟨Ca 103 68 [T 92,T 102] vI,22,.all,[23],false,false⟩,⟨Ca 104 99 [T 81,T 88,T 103] (some (.kL [])),23,.all,[],false,false⟩])
 (.seq (Rg [0,1,4,5,6] [Mv 105 1,Mv 106 5,Ix 107 1 105 106,L1 108 107,Bc 109 .neq 3 108 .i64 0])
 (.cond (T 109) (.seq (Rg [0,1,4,6] [Mv 110 4,Mv 111 1,⟨some 112,none,.call (T 110) [T 111] (some (.kL []))⟩])
 (.draw (some [0,1,4,6]) 16 [Dr (Mv 113 0) 0 [1,2,3,14,15],Dr (Ol 114 (.nilCheck (T 113))) 1 [2,3,14,15],Dr (Fa 115 0 114) 2 [3,14,15],Db (Ro 116 (.bq .slice (T 115))) 3 115 [14,15],Dr (Mv 117 6) 4 [14,15],Dr (Mv 118 0) 5 [6,7,8,10,11,13,14,15],Dr (Ol 119 (.nilCheck (T 118))) 6 [7,8,10,11,13,14,15],Dr (Fa 120 0 119) 7 [8,10,11,13,14,15],Db (Ro 121 (.bq .slice (T 120))) 8 120 [10,11,13,14,15],Dr (Mv 122 6) 9 [10,11,13,14,15],Dr (Ix 123 1 121 122) 10 [11,13,14,15],Db (Ro 124 (.bq .slice (T 123))) 11 123 [13,14,15],Dr (Mv 125 1) 12 [13,14,15],Dr (As 1 124) 13 [14,15],Dr (Ix 126 1 116 117) 14 [15],⟨Sr 1 126 125,15,.dx (T 126),[],true,true⟩]))
 .skip)))))))))⟩),(5,⟨none,some [0,1,4,5,6],.seq (.seq (Rg [0,1,4,5,6] [Mv 19 6,Mv 20 0,Ol 21 (.nilCheck (T 20)),Fa 22 0 21,Ro 23 (.bq .slice (T 22)),Ro 24 (.yO (T 23)),Bt 25 .lss 3 19 24,Mv 26 25,Gt 27 26 (.move (T 0)),Gt 28 26 (.nilCheck (T 27)),Ht 29 26 (.fieldAddr 0 (T 28)),Ht 30 26 (.bq .slice (T 29)),Gt 31 26 (.move (T 6)),Ht 32 26 (.yI 1 (T 30) (T 31)),Ht 33 26 (.bq .slice (T 32)),⟨some 34,some (26,true),.call (.func 56) [T 33] vI⟩,Gt 35 26 (.move (T 5)),Gt 36 26 (.binOp .lss 3 (T 34) (T 35) 3),Ol 37 (.pick (T 26) (T 36) (.const (.bool false)))])
 (.cond (T 37) .skip
 (.exit 2 (some [0,1,4,5,6]))))
 (.block 3 (Rg [0,1,4,5,6] [Mv 38 6,Bc 39 .add 3 38 .i64 1,As 6 39]))⟩),(17,⟨none,some [0,4,7],.seq (.seq (Rg [0,4,7] [Mv 133 7,Bc 134 .geq 3 133 .i64 0])
 (.cond (T 134) .skip
 (.exit 4 (some []))))
 (.seq (.block 5 (Rg [0,4,7] [Mv 137 4,Mv 138 0,Ol 139 (.nilCheck (T 138)),Fa 140 0 139,Ro 141 (.bq .slice (T 140)),Mv 142 7,Ix 143 1 141 142,Ro 144 (.bq .slice (T 143)),⟨some 145,none,.call (T 137) [T 144] (some (.kL []))⟩]))
 (Rg [0,4,7] [Mv 135 7,Bc 136 .sub 3 135 .i64 1,As 7 136]))⟩)],
 []⟩
theorem uK: fE (progU ()) hint live 85 Try.f85=some r85:=by kernel_rfl
def r86 : lL :=
⟨.seq (Rg [0,1,2,3,4] [Ol 10 (.assign (.const (.bool true)))])
 (.seq (Rg [0,1,2,3,4,10] [Ol 11 (.assign (.const (.bool true)))])
 (.block 0 (.loop 2 (some [0,1,2,3,4,10,11]) (some [0,1,2,3,4,10,11])))),
 [],
 [(2,⟨some [0,1,2,3,4,10,11],some [0,1,2,3,4,10,11],.block 1 (.seq (Rg [0,1,2,3,4,10,11] [Mv 21 2,Mv 22 1,Bt 23 .sub 3 21 22,As 12 23])
 (.seq (.seq (Rg [0,1,2,3,4,10,11,12] [Mv 24 12,Bc 25 .leq 3 24 .i64 12])
 (.cond (T 25) (.seq (Rg [0,1,2,4] [Mv 26 0,Mv 27 1,Mv 28 2,Mv 29 4,Ca 30 101 [T 26,T 27,T 28,T 29] (some (.kL []))])
 .ret)
 .skip))
 (.seq (.seq (Rg [0,1,2,3,4,10,11,12] [Mv 31 3,Bc 32 .eql 3 31 .i64 0])
 (.cond (T 32) (.seq (Rg [0,1,2,4] [Mv 33 0,Mv 34 1,Mv 35 2,Mv 36 4,Ca 37 102 [T 33,T 34,T 35,T 36] (some (.kL []))])
 .ret)
 .skip))
 (.seq (.seq (Rg [0,1,2,3,4,10,11,12] [Mv 38 10,Ol 39 (.unOp .not 4 (T 38))])
 (.cond (T 39) (.seq (Rg [0,1,2,3,4,10,11,12] [Mv 40 0,Mv 41 1,Mv 42 2,Mv 43 4,Ca 44 103 [T 40,T 41,T 42,T 43] (some (.kL []))])
 (Rg [0,1,2,3,4,10,11,12] [Mv 45 3,Bc 46 .sub 3 45 .i64 1,As 3 46]))
 .skip))
 (.seq (Rg [0,1,2,3,4,10,11,12] [Mv 48 0,Mv 49 1,Mv 50 2,Mv 51 4,Ca 52 104 [T 48,T 49,T 50,T 51] (some (.kL [.one (.int .i64),.one (.int .i64)])),Mv 47 52,Ex 53 47 0,Ex 54 47 1,As 13 53,As 14 54])
 (.seq (.seq (Rg [0,1,2,3,4,10,11,12,13,14] [Mv 55 14,Bc 56 .eql 133 55 .i64 2])
 (.cond (T 56) (.seq (Rg [0,1,2,3,4,10,11,12,13] [Mv 57 0,Mv 58 1,Mv 59 2,Mv 60 4,Ca 61 105 [T 57,T 58,T 59,T 60] (some (.kL []))])
 (.seq (Rg [0,1,2,3,4,10,11,12,13] [Mv 62 2,Bc 63 .sub 3 62 .i64 1,Mv 64 13,Mv 65 1,Bt 66 .sub 3 64 65,Bt 67 .sub 3 63 66,As 13 67])
 (Rg [0,1,2,3,4,10,11,12,13] [Ac 14 1])))
 .skip))
 (.seq (.seq (Rg [0,1,2,3,4,10,11,12,13,14] [Mv 68 10,Mv 69 68,Gt 70 69 (.move (T 11)),Ol 71 (.pick (T 69) (T 70) (.const (.bool false))),Mv 72 71,Gt 73 72 (.move (T 14)),Gt 74 72 (.binOp .eql 133 (T 73) (Ci 1) 133),Ol 75 (.pick (T 72) (T 74) (.const (.bool false)))])
 (.cond (T 75) (.seq (Rg [0,1,2,3,4,10,11,12,13] [Mv 76 0,Mv 77 1,Mv 78 2,Mv 79 4,Ca 80 106 [T 76,T 77,T 78,T 79] vB])
 (.cond (T 80) .ret
 .skip))
 .skip))
 (.seq (.seq (.draw (some [0,1,2,3,4,10,11,12,13]) 17 [Dr (Mv 81 1) 0 [1,2,3,4,5,6,7,8,9,10,11,12,13,14,15,16],Dr (Bc 82 .gtr 3 81 .i64 0) 1 [2,3,4,5,6,7,8,9,10,11,12,13,14,15,16],Dr (Mv 83 82) 2 [3,4,5,6,7,8,9,10,11,12,13,14,15,16],⟨Gt 84 83 (.move (T 4)),3,.none,[13,14,15,16],false,true⟩,⟨Gt 85 83 (.move (T 0)),4,.none,[7,8,13,14,15,16],false,true⟩,⟨Gt 86 83 (.move (T 1)),5,.none,[6,7,8,13,14,15,16],false,true⟩,⟨Gt 87 83 (.binOp .sub 3 (T 86) (Ci 1) 3),6,.none,[7,8,13,14,15,16],false,true⟩,⟨Ht 88 83 (.yI 1 (T 85) (T 87)),7,.none,[8,13,14,15,16],false,true⟩,⟨Ht 89 83 (.bq .slice (T 88)),8,.dx (T 88),[13,14,15,16],false,true⟩,⟨Gt 90 83 (.move (T 0)),9,.none,[11,12,13,14,15,16],false,true⟩,⟨Gt 91 83 (.move (T 13)),10,.none,[11,12,13,14,15,16],false,true⟩,⟨Ht 92 83 (.yI 1 (T 90) (T 91)),11,.none,[12,13,14,15,16],false,true⟩,⟨Ht 93 83 (.bq .slice (T 92)),12,.dx (T 92),[13,14,15,16],false,true⟩,⟨⟨some 94,some (83,true),.call (T 84) [T 89,T 93] vI⟩,13,.all,[14,15,16],false,false⟩,⟨Gt 95 83 (.binOp .lss 3 (T 94) (Ci 0) 3),14,.none,[15,16],false,true⟩,⟨Gt 96 83 (.unOp .not 4 (T 95)),15,.none,[16],false,true⟩,Dr (Ol 97 (.pick (T 83) (T 96) (.const (.bool false)))) 16 []])
 (.cond (T 97) (.seq (Rg [0,1,2,3,4,10,11,13] [Mv 98 0,Mv 99 1,Mv 100 2,Mv 101 13,Mv 102 4,Ca 103 107 [T 98,T 99,T 100,T 101,T 102] vI,As 15 103])
 (.seq (Rg [0,2,3,4,10,11,15] [Mv 104 15,As 1 104])
 (.exit 1 (some [0,1,2,3,4,10,11]))))
 .skip))
 (.seq (Rg [0,1,2,3,4,12,13] [Mv 106 0,Mv 107 1,Mv 108 2,Mv 109 13,Mv 110 4,Ca 111 108 [T 106,T 107,T 108,T 109,T 110] (some (.kL [.one (.int .i64),.one .bool])),Mv 105 111,Ex 112 105 0,Ex 113 105 1,As 16 112,As 17 113])
 (.seq (Rg [0,1,2,3,4,12,16,17] [Mv 114 17,As 11 114])
 (.seq (Rg [0,1,2,3,4,11,12,16] [Mv 115 16,Mv 116 1,Bt 117 .sub 3 115 116,Mv 118 2,Mv 119 16,Bt 120 .sub 3 118 119,As 18 117,As 19 120])
 (.seq (Rg [0,1,2,3,4,11,12,16,18,19] [Mv 121 12,Bc 122 .quo 3 121 .i64 8,As 20 122])
 (.seq (Rg [0,1,2,3,4,11,16,18,19,20] [Mv 123 18,Mv 124 19,Bt 125 .lss 3 123 124])
 (.cond (T 125) (.seq (Rg [0,1,2,3,4,11,16,18,20] [Mv 126 18,Mv 127 20,Bt 128 .geq 3 126 127,As 10 128])
 (.seq (Rg [0,1,2,3,4,10,11,16] [Mv 129 0,Mv 130 1,Mv 131 16,Mv 132 3,Mv 133 4,Ca 134 86 [T 129,T 130,T 131,T 132,T 133] (some (.kL []))])
 (Rg [0,2,3,4,10,11,16] [Mv 135 16,Bc 136 .add 3 135 .i64 1,As 1 136])))
 (.seq (Rg [0,1,2,3,4,11,16,19,20] [Mv 137 19,Mv 138 20,Bt 139 .geq 3 137 138,As 10 139])
 (.seq (Rg [0,1,2,3,4,10,11,16] [Mv 140 0,Mv 141 16,Bc 142 .add 3 141 .i64 1,Mv 143 2,Mv 144 3,Mv 145 4,Ca 146 86 [T 140,T 142,T 143,T 144,T 145] (some (.kL []))])
 (Rg [0,1,3,4,10,11,16] [Mv 147 16,As 2 147])))))))))))))))))⟩)],
 []⟩
theorem G4: fE (progU ()) hint live 86 Try.f86=some r86:=by kernel_rfl
def x87:RX 87 Try.f87:=by constructor;conv=>lhs;cbv
def x88:RX 88 Try.f88:=by constructor;conv=>lhs;cbv
def x89:RX 89 Try.f89:=by constructor;conv=>lhs;cbv
def r90 : lL :=
⟨.seq (Rg [0,1] [Bo 2 2 0,Bo 3 2 1,Nw 4 2 z2,Ac 5 0])
 (.seq (.draw (some [2,3,4]) 16 [Dr (Fa 16 0 2) 0 [1,2,5,8,11,12,13,14,15],Db (L1 17 16) 1 16 [2,5,8,11,12,13,14,15],Dr (Fa 19 1 2) 3 [4,5,8,11,12,13,14,15],Db (L1 20 19) 4 19 [5,8,11,12,13,14,15],Dr (Fa 22 0 3) 6 [7,8,11,12,13,14,15],Db (L1 23 22) 7 22 [8,11,12,13,14,15],Dr (Fa 25 1 3) 9 [10,11,12,13,14,15],Db (L1 26 25) 10 25 [11,12,13,14,15],⟨Ca 18 71 [T 17] (some (.val (.one (.int .u64)))),2,.all,[5,8,11,12,13,14,15],false,false⟩,⟨Ca 21 71 [T 20] (some (.val (.one (.int .u64)))),5,.all,[8,11,12,13,14,15],false,false⟩,⟨Ca 24 71 [T 23] (some (.val (.one (.int .u64)))),8,.all,[11,12,13,14,15],false,false⟩,⟨Ca 27 71 [T 26] (some (.val (.one (.int .u64)))),11,.all,[12,13,14,15],false,false⟩,Dr (As 6 18) 12 [13,14,15],Dr (As 7 21) 13 [14,15],Dr (As 8 24) 14 [15],Dr (As 9 27) 15 []])
 (.seq (Rg [2,3,4,6,7,8,9] [Mv 28 6,Mv 29 9,Ca 30 72 [T 28,T 29] (some (.val (.one (.int .u64)))),Mv 31 8,Mv 32 7,Ca 33 72 [T 31,T 32] (some (.val (.one (.int .u64)))),As 10 30,As 11 33])
 (.seq (.draw (some [2,3,4,6,7,8,9,10,11]) 12 [Dr (Mv 35 6) 0 [2,6,7,8,9,10,11],Dr (Mv 36 10) 1 [2,6,7,8,9,10,11],Dr (Bt 37 .quo 69 35 36) 2 [6,7,8,9,10,11],Dr (Mv 38 8) 3 [5,6,7,8,9,10,11],Dr (Mv 39 11) 4 [5,6,7,8,9,10,11],Dr (Bt 40 .quo 69 38 39) 5 [6,7,8,9,10,11],⟨Ca 41 112 [T 37,T 40] (some (.kL [.one (.int .u64),.one (.int .u64)])),6,.all,[7,8,9,10,11],false,false⟩,Dr (Mv 34 41) 7 [8,9,10,11],Dr (Ex 42 34 0) 8 [10,11],Dr (Ex 43 34 1) 9 [11],Dr (As 12 42) 10 [11],Dr (As 13 43) 11 []])
 (.seq (.draw (some [2,3,4,7,9,10,11,12,13]) 12 [Dr (Mv 45 7) 0 [2,6,7,8,9,10,11],Dr (Mv 46 11) 1 [2,6,7,8,9,10,11],Dr (Bt 47 .quo 69 45 46) 2 [6,7,8,9,10,11],Dr (Mv 48 9) 3 [5,6,7,8,9,10,11],Dr (Mv 49 10) 4 [5,6,7,8,9,10,11],Dr (Bt 50 .quo 69 48 49) 5 [6,7,8,9,10,11],⟨Ca 51 112 [T 47,T 50] (some (.kL [.one (.int .u64),.one (.int .u64)])),6,.all,[7,8,9,10,11],false,false⟩,Dr (Mv 44 51) 7 [8,9,10,11],Dr (Ex 52 44 0) 8 [10,11],Dr (Ex 53 44 1) 9 [11],Dr (As 14 52) 10 [11],Dr (As 15 53) 11 []])
 (.seq (.seq (Rg [2,3,4,12,13,14,15] [Mv 54 12,Bc 55 .neq 69 54 .u64 0,Mv 56 55,Gf 57 56 (.move (T 14)),Gf 58 56 (.binOp .neq 69 (T 57) (.const (.int .u64 0)) 69),Ol 59 (.pick (T 56) (.const (.bool true)) (T 58))])
 (.cond (T 59) (.seq (Rg [4] [Ro 60 (.build z2 []),Sr 2 4 60,Ac 5 16])
 .ret)
 .skip))
 (.seq (Rg [2,3,4,13,15] [Fa 61 0 2,L1 62 61,Bc 63 .lss 2 62 .i64 0,Fa 64 0 3,L1 65 64,Bc 66 .lss 2 65 .i64 0,Bt 67 .neq 4 63 66,Mv 68 13,Mv 69 15,Ca 70 73 [T 67,T 68,T 69] (some (.kL [.agg s2,.one (.int .i64)])),Ex 71 70 0,Ex 72 70 1,Sr 2 4 71,As 5 72])
 .ret)))))),
 [.agg 4 2 [.int .i64,.int .i64],.tmp 5],
 [],
 []⟩
theorem T9: fE (progU ()) hint live 90 Try.f90=some r90:=by kernel_rfl
def r91 : lL :=
⟨.seq (Rg [0,1] [Bo 2 2 0,Bo 3 2 1,Nw 4 2 z2,Ac 5 0])
 (.seq (.draw (some [2,3,4]) 8 [Dr (Fa 22 1 2) 0 [1,2,5,6,7],Db (L1 23 22) 1 22 [2,5,6,7],Dr (Fa 25 1 3) 3 [4,5,6,7],Db (L1 26 25) 4 25 [5,6,7],⟨Ca 24 71 [T 23] (some (.val (.one (.int .u64)))),2,.all,[5,6,7],false,false⟩,⟨Ca 27 71 [T 26] (some (.val (.one (.int .u64)))),5,.all,[6,7],false,false⟩,Dr (As 6 24) 6 [7],Dr (As 7 27) 7 []])
 (.seq (Rg [2,3,4,6,7] [Mv 28 6,Mv 29 7,Ca 30 72 [T 28,T 29] (some (.val (.one (.int .u64)))),As 8 30])
 (.seq (.draw (some [2,3,4,6,7,8]) 12 [Dr (Fa 32 0 2) 0 [1,2,6,7,8,9,10,11],Db (L1 33 32) 1 32 [2,6,7,8,9,10,11],Dr (Mv 35 7) 3 [5,6,7,8,9,10,11],Dr (Mv 36 8) 4 [5,6,7,8,9,10,11],Dr (Bt 37 .quo 69 35 36) 5 [6,7,8,9,10,11],⟨Ca 34 71 [T 33] (some (.val (.one (.int .u64)))),2,.all,[6,7,8,9,10,11],false,false⟩,⟨Ca 38 112 [T 34,T 37] (some (.kL [.one (.int .u64),.one (.int .u64)])),6,.all,[7,8,9,10,11],false,false⟩,Dr (Mv 31 38) 7 [8,9,10,11],Dr (Ex 39 31 0) 8 [10,11],Dr (Ex 40 31 1) 9 [11],Dr (As 9 39) 10 [11],Dr (As 10 40) 11 []])
 (.seq (.draw (some [2,3,4,6,7,8,9,10]) 12 [Dr (Fa 42 0 3) 0 [1,2,6,7,8,9,10,11],Db (L1 43 42) 1 42 [2,6,7,8,9,10,11],Dr (Mv 45 6) 3 [5,6,7,8,9,10,11],Dr (Mv 46 8) 4 [5,6,7,8,9,10,11],Dr (Bt 47 .quo 69 45 46) 5 [6,7,8,9,10,11],⟨Ca 44 71 [T 43] (some (.val (.one (.int .u64)))),2,.all,[6,7,8,9,10,11],false,false⟩,⟨Ca 48 112 [T 44,T 47] (some (.kL [.one (.int .u64),.one (.int .u64)])),6,.all,[7,8,9,10,11],false,false⟩,Dr (Mv 41 48) 7 [8,9,10,11],Dr (Ex 49 41 0) 8 [10,11],Dr (Ex 50 41 1) 9 [11],Dr (As 11 49) 10 [11],Dr (As 12 50) 11 []])
 (.seq (Rg [2,3,4,6,7,8,9,10,11,12] [Fa 51 0 2,L1 52 51,Bc 53 .lss 2 52 .i64 0,As 13 53])
 (.seq (Rg [2,3,4,6,7,8,9,10,11,12,13] [Ol 14 (.assign (.const (.int .u64 0))),Ol 15 (.assign (.const (.int .u64 0))),Ol 16 (.assign (.const (.int .u64 0)))])
 (.seq (.block 0 (.seq (Rg [2,3,4,6,7,8,9,10,11,12,13] [Fa 71 0 2,L1 72 71,Bc 73 .lss 2 72 .i64 0,Fa 74 0 3,L1 75 74,Bc 76 .lss 2 75 .i64 0,Bt 77 .eql 4 73 76,As 70 77])
 (.cond (T 70) (.seq (Rg [4,6,7,8,9,10,11,12,13] [Mv 79 10,Mv 80 12,Ca 81 113 [T 79,T 80,.const (.int .u64 0)] (some (.kL [.one (.int .u64),.one (.int .u64)])),Mv 78 81,Ex 82 78 0,Ex 83 78 1,As 15 82,As 16 83])
 (Rg [4,6,7,8,9,11,13,15,16] [Mv 85 9,Mv 86 11,Mv 87 16,Ca 88 113 [T 85,T 86,T 87] (some (.kL [.one (.int .u64),.one (.int .u64)])),Mv 84 88,Ex 89 84 0,Ex 90 84 1,As 14 89]))
 (.seq (Rg [3,4,6,7,8,9,10,11,12,13] [Mv 92 9,Mv 93 10,Mv 94 11,Mv 95 12,Ca 96 114 [T 92,T 93,T 94,T 95] vI,Bc 97 .geq 3 96 .i64 0,As 91 97])
 (.cond (T 91) (.seq (Rg [4,6,7,8,9,10,11,12,13] [Mv 99 10,Mv 100 12,Ca 101 115 [T 99,T 100,.const (.int .u64 0)] (some (.kL [.one (.int .u64),.one (.int .u64)])),Mv 98 101,Ex 102 98 0,Ex 103 98 1,As 15 102,As 16 103])
 (Rg [4,6,7,8,9,11,13,15,16] [Mv 105 9,Mv 106 11,Mv 107 16,Ca 108 115 [T 105,T 106,T 107] (some (.kL [.one (.int .u64),.one (.int .u64)])),Mv 104 108,Ex 109 104 0,Ex 110 104 1,As 14 109]))
 (.seq (Rg [3,4,6,7,8,9,10,11,12] [Fa 54 0 3,L1 55 54,Bc 56 .lss 2 55 .i64 0,As 13 56])
 (.seq (Rg [4,6,7,8,9,10,11,12,13] [Mv 58 12,Mv 59 10,Ca 60 115 [T 58,T 59,.const (.int .u64 0)] (some (.kL [.one (.int .u64),.one (.int .u64)])),Mv 57 60,Ex 61 57 0,Ex 62 57 1,As 15 61,As 16 62])
 (Rg [4,6,7,8,9,11,13,15,16] [Mv 64 11,Mv 65 9,Mv 66 16,Ca 67 115 [T 64,T 65,T 66] (some (.kL [.one (.int .u64),.one (.int .u64)])),Mv 63 67,Ex 68 63 0,Ex 69 63 1,As 14 68]))))))))
 (.seq (Rg [4,6,7,8,13,14,15] [Mv 111 8,Mv 112 14,Mv 113 15,Mv 114 8,Ca 115 116 [T 112,T 113,T 114] (some (.val (.one (.int .u64)))),Ca 116 72 [T 111,T 115] (some (.val (.one (.int .u64)))),As 17 116])
 (.seq (.seq (Rg [4,6,7,8,13,14,15,17] [Mv 117 14,Mv 118 17,Bt 119 .geq 69 117 118])
 (.cond (T 119) (.seq (Rg [4] [Ro 120 (.build z2 []),Sr 2 4 120,Ac 5 16])
 .ret)
 .skip))
 (.seq (Rg [4,6,7,8,13,14,15,17] [Mv 122 14,Mv 123 15,Mv 124 17,Ca 125 117 [T 122,T 123,T 124] (some (.kL [.one (.int .u64),.one (.int .u64)])),Mv 121 125,Ex 126 121 0,Ex 127 121 1,As 18 126,As 19 127])
 (.seq (.draw (some [4,6,7,8,13,17,18]) 12 [Dr (Mv 129 6) 0 [2,6,7,8,9,10,11],Dr (Mv 130 8) 1 [2,6,7,8,9,10,11],Dr (Bt 131 .quo 69 129 130) 2 [6,7,8,9,10,11],Dr (Mv 132 7) 3 [5,6,7,8,9,10,11],Dr (Mv 133 17) 4 [5,6,7,8,9,10,11],Dr (Bt 134 .quo 69 132 133) 5 [6,7,8,9,10,11],⟨Ca 135 112 [T 131,T 134] (some (.kL [.one (.int .u64),.one (.int .u64)])),6,.all,[7,8,9,10,11],false,false⟩,Dr (Mv 128 135) 7 [8,9,10,11],Dr (Ex 136 128 0) 8 [10,11],Dr (Ex 137 128 1) 9 [11],Dr (As 20 136) 10 [11],Dr (As 21 137) 11 []])
 (.seq (.seq (Rg [4,13,18,20,21] [Mv 138 20,Bc 139 .neq 69 138 .u64 0])
 (.cond (T 139) (.seq (Rg [4] [Ro 140 (.build z2 []),Sr 2 4 140,Ac 5 16])
 .ret)
 .skip))
 (.seq (Rg [4,13,18,21] [Mv 141 13,Mv 142 18,Mv 143 21,Ca 144 73 [T 141,T 142,T 143] (some (.kL [.agg s2,.one (.int .i64)])),Ex 145 144 0,Ex 146 144 1,Sr 2 4 145,As 5 146])
 .ret))))))))))))),
 [.agg 4 2 [.int .i64,.int .i64],.tmp 5],
 [],
 []⟩
theorem Ua: fE (progU ()) hint live 91 Try.f91=some r91:=by kernel_rfl
def x92:RX 92 Try.f92:=by constructor;conv=>lhs;cbv
def x94:RX 94 Try.f94:=by constructor;conv=>lhs;cbv
def x95:RX 95 Try.f95:=by constructor;conv=>lhs;cbv
def r96 : lL :=
⟨.seq (Rg [0,1,2] [Ol 7 (.move (Ci 0))])
 (.block 0 (.loop 1 (some [0,1,2,7]) (some [0,1,2,7]))),
 [],
 [(1,⟨some [0,1,2,7],some [0,1,2,7],.seq (Rg [0,1,2,7] [Bc 8 .lss 3 7 .i64 4])
 (.seq (.cond (T 8) .skip
 (.exit 0 (some [])))
 (.seq (.block 1 (.seq (Rg [0,1,2,7] [Mv 9 7,As 6 9])
 (.draw (some [0,1,2,6,7]) 32 [Dr (Mv 10 0) 0 [22,23,24,25,26,30,31],Dr (Mv 11 6) 1 [24,25,26,30,31],Dr (Mv 12 1) 2 [25,26,30,31],Dr (Mv 13 0) 3 [27,28,29,30,31],Dr (Mv 14 6) 4 [29,30,31],Dr (Mv 15 2) 5 [30,31],Dr (Mv 16 0) 6 [9,10,11,12,13,25,26,30,31],Dr (Mv 17 6) 7 [11,12,13,25,26,30,31],Dr (Mv 18 2) 8 [12,13,25,26,30,31],Dr (Ol 19 (.nilCheck (T 16))) 9 [10,11,12,13,25,26,30,31],Dr (Fa 20 1 19) 10 [11,12,13,25,26,30,31],Dr (Ro 21 (.wo 4 4 (T 20) (T 17))) 11 [12,13,25,26,30,31],Dr (Ro 22 (.wo 4 1 (T 21) (T 18))) 12 [13,25,26,30,31],Db (L1 23 22) 13 22 [25,26,30,31],Dr (Mv 24 0) 14 [17,18,19,20,21,25,26,30,31],Dr (Mv 25 6) 15 [19,20,21,25,26,30,31],Dr (Mv 26 1) 16 [20,21,25,26,30,31],Dr (Ol 27 (.nilCheck (T 24))) 17 [18,19,20,21,25,26,30,31],Dr (Fa 28 1 27) 18 [19,20,21,25,26,30,31],Dr (Ro 29 (.wo 4 4 (T 28) (T 25))) 19 [20,21,25,26,30,31],Dr (Ro 30 (.wo 4 1 (T 29) (T 26))) 20 [21,25,26,30,31],Db (L1 31 30) 21 30 [25,26,30,31],Dr (Ol 32 (.nilCheck (T 10))) 22 [23,24,25,26,30,31],Dr (Fa 33 1 32) 23 [24,25,26,30,31],Dr (Ro 34 (.wo 4 4 (T 33) (T 11))) 24 [25,26,30,31],Dr (Ro 35 (.wo 4 1 (T 34) (T 12))) 25 [26,30,31],⟨Sr 1 35 23,26,.dx (T 35),[30,31],true,true⟩,Dr (Ol 36 (.nilCheck (T 13))) 27 [28,29,30,31],Dr (Fa 37 1 36) 28 [29,30,31],Dr (Ro 38 (.wo 4 4 (T 37) (T 14))) 29 [30,31],Dr (Ro 39 (.wo 4 1 (T 38) (T 15))) 30 [31],⟨Sr 1 39 31,31,.dx (T 39),[],true,true⟩])))
 (Rg [0,1,2,7] [Bc 40 .add 3 7 .i64 1,Mv 7 40])))⟩)],
 []⟩
theorem G5: fE (progU ()) hint live 96 Try.f96=some r96:=by kernel_rfl
def x97:RX 97 Try.f97:=by constructor;conv=>lhs;cbv
end Go.Proofs.Ytdpbiegfljmhmaa
namespace Go.Proofs.Ytdpbiegfljmhmaa
open Go.cL
set_option maxRecDepth 100000
def r19 : lL :=
⟨.seq (Rg [0,1] [Bo 2 2 0,Bo 3 2 1,Nw 4 2 z2,Ac 5 0])
 (.seq (.seq (Rg [2,3,4] [Ld 12 2,Ld 13 3,Ca 14 37 [T 12,T 13] vI,Bc 15 .neq 3 14 .i64 0])
 (.cond (T 15) (.seq (Rg [2,3,4] [Ro 16 (.build z2 []),Ld 17 2,Ld 18 3,Ca 19 37 [T 17,T 18] vI,Sr 2 4 16,As 5 19])
 .ret)
 .skip))
 (.seq (Rg [2,3,4] [Fa 20 1 2,L1 21 20,Ro 22 (.ng .u64 (T 21)),Fa 23 1 3,L1 24 23,Ro 25 (.ng .u64 (T 24)),Ca 26 38 [T 22,T 25] (some (.val (.one (.int .u64)))),As 6 26])
 (.seq (.draw (some [2,3,4,6]) 22 [Dr (Fa 27 0 2) 0 [1,2,8,11,17,20,21],Db (L1 28 27) 1 27 [2,8,11,17,20,21],Dr (Fa 30 1 3) 3 [4,5,7,8,11,17,20,21],Db (L1 31 30) 4 30 [5,7,8,11,17,20,21],⟨Ro 32 (.ng .u64 (T 31)),5,.Pv (T 31),[7,8,11,17,20,21],false,true⟩,Dr (Mv 33 6) 6 [7,8,11,17,20,21],Dr (Bt 34 .quo 69 32 33) 7 [8,11,17,20,21],Dr (Fa 36 0 3) 9 [10,11,17,20,21],Db (L1 37 36) 10 36 [11,17,20,21],Dr (Fa 39 1 2) 12 [13,14,16,17,20,21],Db (L1 40 39) 13 39 [14,16,17,20,21],⟨Ro 41 (.ng .u64 (T 40)),14,.Pv (T 40),[16,17,20,21],false,true⟩,Dr (Mv 42 6) 15 [16,17,20,21],Dr (Bt 43 .quo 69 41 42) 16 [17,20,21],⟨Nw 7 4 [.int .u64 0,.int .u64 0,.int .u64 0,.int .u64 0],18,.new true,[20,21],false,true⟩,⟨Nw 8 4 [.int .u64 0,.int .u64 0,.int .u64 0,.int .u64 0],19,.new true,[20,21],false,true⟩,⟨Ca 29 40 [T 28] (some (.val (.one (.int .u64)))),2,.all,[8,11,17,20,21],false,false⟩,⟨Ca 35 39 [T 29,T 34] (some (.val (.agg s4))),8,.all,[11,17,20,21],false,false⟩,⟨Ca 38 40 [T 37] (some (.val (.one (.int .u64)))),11,.all,[17,20,21],false,false⟩,⟨Ca 44 39 [T 38,T 43] (some (.val (.agg s4))),17,.all,[20,21],false,false⟩,⟨Sr 4 7 35,20,.dx (T 7),[21],true,true⟩,⟨Sr 4 8 44,21,.dx (T 8),[],true,true⟩])
 (.seq (.seq (Rg [2,3,4,6,7,8] [Fa 45 0 2,L1 46 45,Bc 47 .lss 2 46 .i64 0,Fa 48 0 3,L1 49 48,Bc 50 .lss 2 49 .i64 0,Bt 51 .eql 4 47 50])
 (.cond (T 51) (Rg [2,3,4,6,7,8] [Ro 52 (.load 4 s4 (T 7)),Ro 53 (.load 4 s4 (T 8)),Ca 54 41 [T 52,T 53] (some (.val (.agg s4))),Sr 4 7 54])
 (.seq (Rg [2,3,4,6,7,8] [Ro 55 (.load 4 s4 (T 7)),Ro 56 (.load 4 s4 (T 8)),Ca 57 42 [T 55,T 56] vB])
 (.cond (T 57) (.draw (some [2,3,4,6,7,8]) 8 [Db (Ro 58 (.load 4 s4 (T 8))) 0 8 [2,5,6,7],Db (Ro 59 (.load 4 s4 (T 7))) 1 7 [2,5,6,7],Db (Ld 61 3) 3 3 [6,7],Db (Ld 62 2) 4 2 [5,6,7],⟨Ca 60 43 [T 58,T 59] (some (.val (.agg s4))),2,.all,[5,6,7],false,false⟩,⟨Sr 4 7 60,5,.dx (T 7),[6,7],true,true⟩,⟨Sr 2 2 61,6,.dx (T 2),[7],true,true⟩,⟨Sr 2 3 62,7,.dx (T 3),[],true,true⟩])
 (Rg [2,3,4,6,7,8] [Ro 63 (.load 4 s4 (T 7)),Ro 64 (.load 4 s4 (T 8)),Ca 65 43 [T 63,T 64] (some (.val (.agg s4))),Sr 4 7 65])))))
 (.seq (Rg [2,3,4,6,7] [Ro 67 (.load 4 s4 (T 7)),Mv 68 6,Ca 69 44 [T 67,T 68] (some (.kL [.agg s4,.one (.int .u64)])),Mv 66 69,Ex 70 66 0,Ex 71 66 1,Nw 9 4 [.int .u64 0,.int .u64 0,.int .u64 0,.int .u64 0],Sr 4 9 70,As 10 71])
 (.seq (Rg [2,3,4,6,7,10] [Mv 72 10,Mv 73 6,Ca 74 38 [T 72,T 73] (some (.val (.one (.int .u64)))),As 11 74])
 (.seq (Rg [2,3,4,6,7,11] [Ro 76 (.load 4 s4 (T 7)),Mv 77 11,Ca 78 44 [T 76,T 77] (some (.kL [.agg s4,.one (.int .u64)])),Mv 75 78,Ex 79 75 0,Ex 80 75 1,Sr 4 7 79])
 (.seq (.seq (Rg [2,3,4,6,7,11] [Ro 81 (.load 4 s4 (T 7)),Ro 82 (.build [.int .u64 0,.int .u64 0,.int .u64 0,.int .u64 0] []),Bt 83 .eql 73 81 82])
 (.cond (T 83) (.seq (Rg [4] [Ro 84 (.build z2 [(1,1,(Ci 1))]),Sr 2 4 84,Ac 5 0])
 .ret)
 .skip))
 (.seq (.draw (some [2,3,4,6,7,11]) 20 [Dr (Fa 85 0 2) 0 [1,2,15,16,17,18,19],Db (L1 86 85) 1 85 [2,15,16,17,18,19],Dr (Bc 87 .lss 2 86 .i64 0) 2 [15,16,17,18,19],Db (Ro 88 (.load 4 s4 (T 7))) 3 7 [15,16,17,18,19],Dr (Fa 89 1 2) 4 [5,6,8,14,15,16,17,18,19],Db (L1 90 89) 5 89 [6,8,14,15,16,17,18,19],⟨Ro 91 (.ng .u64 (T 90)),6,.Pv (T 90),[8,14,15,16,17,18,19],false,true⟩,Dr (Mv 92 6) 7 [8,14,15,16,17,18,19],Dr (Bt 93 .quo 69 91 92) 8 [14,15,16,17,18,19],Dr (Fa 94 1 3) 9 [10,11,13,14,15,16,17,18,19],Db (L1 95 94) 10 94 [11,13,14,15,16,17,18,19],⟨Ro 96 (.ng .u64 (T 95)),11,.Pv (T 95),[13,14,15,16,17,18,19],false,true⟩,Dr (Mv 97 11) 12 [13,14,15,16,17,18,19],Dr (Bt 98 .quo 69 96 97) 13 [14,15,16,17,18,19],⟨Ca 99 39 [T 93,T 98] (some (.val (.agg s4))),14,.all,[15,16,17,18,19],false,false⟩,⟨Ca 100 45 [T 87,T 88,T 99] (some (.kL [.agg s2,.one (.int .i64)])),15,.all,[16,17,18,19],false,false⟩,Dr (Ex 101 100 0) 16 [18,19],Dr (Ex 102 100 1) 17 [18,19],⟨Sr 2 4 101,18,.dx (T 4),[19],true,true⟩,Dr (As 5 102) 19 []])
 .ret))))))))),
 [.agg 4 2 [.int .i64,.int .i64],.tmp 5],
 [],
 []⟩
theorem Ub: fE (progU ()) hint live 19 Try.f19=some r19:=by kernel_rfl
def x21:RX 21 Try.f21:=by constructor;conv=>lhs;cbv
def x23:RX 23 Try.f23:=by constructor;conv=>lhs;cbv
def x24:RX 24 Try.f24:=by constructor;conv=>lhs;cbv
def x25:RX 25 Try.f25:=by constructor;conv=>lhs;cbv
def x26:RX 26 Try.f26:=by constructor;conv=>lhs;cbv
def x27:RX 27 Try.f27:=by constructor;conv=>lhs;cbv
def x29:RX 29 Try.f29:=by constructor;conv=>lhs;cbv
def x31:RX 31 Try.f31:=by constructor;conv=>lhs;cbv
def x34:RX 34 Try.f34:=by constructor;conv=>lhs;cbv
def r36 : lL :=
⟨.seq (Rg [0,1] [Bo 2 2 0,Bo 3 2 1,Nw 4 2 z2,Ac 5 0])
 (.seq (.seq (Rg [2,3,4] [Ld 8 2,Ld 9 3,Ca 10 37 [T 8,T 9] vI,Bc 11 .neq 3 10 .i64 0])
 (.cond (T 11) (.seq (Rg [2,3,4] [Ro 12 (.build z2 []),Ld 13 2,Ld 14 3,Ca 15 37 [T 13,T 14] vI,Sr 2 4 12,As 5 15])
 .ret)
 .skip))
 (.seq (.draw (some [2,3,4]) 16 [Dr (Fa 16 0 2) 0 [1,2,6,9,13,14,15],Db (L1 17 16) 1 16 [2,6,9,13,14,15],Dr (Fa 19 1 3) 3 [4,5,6,9,13,14,15],Db (L1 20 19) 4 19 [5,6,9,13,14,15],⟨Ro 21 (.ng .u64 (T 20)),5,.Pv (T 20),[6,9,13,14,15],false,true⟩,Dr (Fa 23 0 3) 7 [8,9,13,14,15],Db (L1 24 23) 8 23 [9,13,14,15],Dr (Fa 26 1 2) 10 [11,12,13,14,15],Db (L1 27 26) 11 26 [12,13,14,15],⟨Ro 28 (.ng .u64 (T 27)),12,.Pv (T 27),[13,14,15],false,true⟩,⟨Ca 18 40 [T 17] (some (.val (.one (.int .u64)))),2,.all,[6,9,13,14,15],false,false⟩,⟨Ca 22 38 [T 18,T 21] (some (.val (.one (.int .u64)))),6,.all,[9,13,14,15],false,false⟩,⟨Ca 25 40 [T 24] (some (.val (.one (.int .u64)))),9,.all,[13,14,15],false,false⟩,⟨Ca 29 38 [T 25,T 28] (some (.val (.one (.int .u64)))),13,.all,[14,15],false,false⟩,Dr (As 6 22) 14 [15],Dr (As 7 29) 15 []])
 (.seq (.draw (some [2,3,4,6,7]) 34 [Dr (Fa 30 0 2) 0 [1,2,6,29,30,31,32,33],Db (L1 31 30) 1 30 [2,6,29,30,31,32,33],Dr (Bc 32 .lss 2 31 .i64 0) 2 [6,29,30,31,32,33],Dr (Fa 33 0 3) 3 [4,5,6,29,30,31,32,33],Db (L1 34 33) 4 33 [5,6,29,30,31,32,33],Dr (Bc 35 .lss 2 34 .i64 0) 5 [6,29,30,31,32,33],Dr (Bt 36 .neq 4 32 35) 6 [29,30,31,32,33],Dr (Fa 37 0 2) 7 [8,9,11,14,16,17,28,29,30,31,32,33],Db (L1 38 37) 8 37 [9,11,14,16,17,28,29,30,31,32,33],Dr (Mv 40 6) 10 [11,17,28,29,30,31,32,33],Dr (Fa 42 0 3) 12 [13,14,16,17,28,29,30,31,32,33],Db (L1 43 42) 13 42 [14,16,17,28,29,30,31,32,33],Dr (Mv 45 7) 15 [16,17,28,29,30,31,32,33],Dr (Fa 48 1 2) 18 [19,20,22,28,29,30,31,32,33],Db (L1 49 48) 19 48 [20,22,28,29,30,31,32,33],⟨Ro 50 (.ng .u64 (T 49)),20,.Pv (T 49),[22,28,29,30,31,32,33],false,true⟩,Dr (Mv 51 7) 21 [22,28,29,30,31,32,33],Dr (Bt 52 .quo 69 50 51) 22 [28,29,30,31,32,33],Dr (Fa 53 1 3) 23 [24,25,27,28,29,30,31,32,33],Db (L1 54 53) 24 53 [25,27,28,29,30,31,32,33],⟨Ro 55 (.ng .u64 (T 54)),25,.Pv (T 54),[27,28,29,30,31,32,33],false,true⟩,Dr (Mv 56 6) 26 [27,28,29,30,31,32,33],Dr (Bt 57 .quo 69 55 56) 27 [28,29,30,31,32,33],⟨Ca 39 40 [T 38] (some (.val (.one (.int .u64)))),9,.all,[11,14,16,17,28,29,30,31,32,33],false,false⟩,Dr (Bt 41 .quo 69 39 40) 11 [17,28,29,30,31,32,33],⟨Ca 44 40 [T 43] (some (.val (.one (.int .u64)))),14,.all,[16,17,28,29,30,31,32,33],false,false⟩,Dr (Bt 46 .quo 69 44 45) 16 [17,28,29,30,31,32,33],⟨Ca 47 39 [T 41,T 46] (some (.val (.agg s4))),17,.all,[28,29,30,31,32,33],false,false⟩,⟨Ca 58 39 [T 52,T 57] (some (.val (.agg s4))),28,.all,[29,30,31,32,33],false,false⟩,⟨Ca 59 45 [T 36,T 47,T 58] (some (.kL [.agg s2,.one (.int .i64)])),29,.all,[30,31,32,33],false,false⟩,Dr (Ex 60 59 0) 30 [32,33],Dr (Ex 61 59 1) 31 [32,33],⟨Sr 2 4 60,32,.dx (T 4),[33],true,true⟩,Dr (As 5 61) 33 []])
 .ret))),
 [.agg 4 2 [.int .i64,.int .i64],.tmp 5],
 [],
 []⟩
theorem Uc: fE (progU ()) hint live 36 Try.f36=some r36:=by kernel_rfl
def x37:RX 37 Try.f37:=by constructor;conv=>lhs;cbv
def x38:RX 38 Try.f38:=by constructor;conv=>lhs;cbv
def x39:RX 39 Try.f39:=by constructor;conv=>lhs;cbv
def x40:RX 40 Try.f40:=by constructor;conv=>lhs;cbv
def x41:RX 41 Try.f41:=by constructor;conv=>lhs;cbv
def x42:RX 42 Try.f42:=by constructor;conv=>lhs;cbv
end Go.Proofs.Ytdpbiegfljmhmaa
namespace Go.Proofs.Ytdpbiegfljmhmaa
open Go.cL
set_option maxRecDepth 100000
def x43:RX 43 Try.f43:=by constructor;conv=>lhs;cbv
def x44:RX 44 Try.f44:=by constructor;conv=>lhs;cbv
def x45:RX 45 Try.f45:=by constructor;conv=>lhs;cbv
def x47:RX 47 Try.f47:=by constructor;conv=>lhs;cbv
def x48:RX 48 Try.f48:=by constructor;conv=>lhs;cbv
def r49 : lL :=
⟨.seq (Rg [0,1,2,3] [Ol 8 (.assign (.const (.slice none 0 0)))])
 (.seq (Rg [0,1,2,3] [Mv 22 0,Ro 23 (.yO (T 22)),As 9 23])
 (.seq (Rg [0,1,2,3,9] [Mv 24 2,Mv 25 3,Bt 26 .mul 3 24 25,As 10 26])
 (.seq (Rg [0,1,2,3,9,10] [Mv 27 9,Ro 28 (.mkSlice 1 [.int .i64 0] (T 27) (T 27)),Ro 29 (.buildSlice 1 1 [.slice none 0 0] [(0,1,(T 28))]),As 11 29])
 (.seq (.seq (Rg [0,1,2,3,9,10,11] [Mv 30 9,Bc 31 .sub 3 30 .i64 1,As 12 31])
 (.block 0 (.loop 5 (some [0,1,2,3,9,10,11,12]) (some [0,1,2,3,9,10,11,12]))))
 (.seq (Rg [11] [Mv 101 11,Ca 102 69 [T 101,.func 70] (some (.kL []))])
 (.seq (Rg [11] [Mv 103 11,As 8 103])
 .ret)))))),
 [.tmp 8],
 [(5,⟨some [0,1,2,3,9,10,11,12],some [0,1,2,3,9,10,11,12],.seq (.seq (Rg [0,1,2,3,9,10,11,12] [Mv 32 12,Bc 33 .geq 3 32 .i64 0])
 (.cond (T 33) .skip
 (.exit 0 (some [11]))))
 (.seq (.block 1 (.seq (.draw (some [0,1,2,3,9,10,11,12]) 13 [Dr (Mv 36 0) 0 [2,3,11,12],Dr (Mv 37 12) 1 [2,3,11,12],Dr (Ix 38 1 36 37) 2 [3,11,12],Db (Ro 39 (.bq .slice (T 38))) 3 38 [11,12],Dr (Mv 40 0) 4 [6,7,9,10,12],Dr (Mv 41 12) 5 [6,7,9,10,12],Dr (Ix 42 1 40 41) 6 [7,9,10,12],Db (Ro 43 (.bq .slice (T 42))) 7 42 [9,10,12],Dr (Mv 44 12) 8 [9,10,12],Dr (Ix 45 1 43 44) 9 [10,12],Db (L1 46 45) 10 45 [12],Dr (As 13 39) 11 [12],Dr (As 14 46) 12 []])
 (.seq (Rg [0,1,2,3,9,10,11,12,13,14] [Mv 47 13,Mv 48 9,Ro 49 (.Qr 27 (T 47) (some (T 48)) none none),Mv 50 1,Mv 51 2,Ca 52 62 [T 49,T 50,T 51] vI,Mv 53 3,Bt 54 .mul 3 52 53,As 15 54])
 (.seq (Rg [0,1,2,3,9,10,11,12,13,14,15] [Ol 16 (.assign (.const (.slice none 0 0)))])
 (.seq (.seq (Rg [0,1,2,3,9,10,11,12,13,14,15,16] [Mv 55 11,Ro 56 (.yO (T 55)),Ol 57 (.move (Ci 0))])
 (.block 2 (.loop 11 (some [0,1,2,3,9,10,12,13,14,15,16,55,56,57]) (some [0,1,2,3,9,10,12,13,14,15,16,55,56,57]))))
 (Rg [0,1,2,3,9,10,12,16] [Mv 100 16,As 11 100]))))))
 (Rg [0,1,2,3,9,10,11,12] [Mv 34 12,Bc 35 .sub 3 34 .i64 1,As 12 35]))⟩),(11,⟨some [0,1,2,3,9,10,12,13,14,15,16,55,56,57],some [0,1,2,3,9,10,12,13,14,15,16,55,56,57],.seq (Rg [0,1,2,3,9,10,12,13,14,15,16,55,56,57] [Bt 58 .lss 3 57 56])
 (.seq (.cond (T 58) .skip
 (.exit 2 (some [0,1,2,3,9,10,12,16])))
 (.seq (.block 3 (.seq (Rg [0,1,2,3,9,10,12,13,14,15,16,55,56,57] [Ix 59 1 55 57,Ro 60 (.bq .slice (T 59)),As 18 60])
 (.seq (Rg [0,1,2,3,9,10,12,13,14,15,16,18,55,56,57] [Mv 61 15,Mv 62 13,Mv 63 9,Ro 64 (.Qr 27 (T 62) none (some (T 63)) none),Mv 65 18,Mv 66 10,Ca 67 62 [T 64,T 65,T 66] vI,Bt 68 .sub 3 61 67,As 19 68])
 (.seq (Rg [0,1,2,3,9,10,12,13,14,15,16,18,19,55,56,57] [Mv 69 19,Mv 70 10,Mv 71 19,Mv 72 10,Ca 73 68 [T 71,T 72] vI,Bt 74 .mul 3 70 73,Bt 75 .sub 3 69 74,As 19 75])
 (.seq (Rg [0,1,2,3,9,10,12,13,14,15,16,18,19,55,56,57] [Mv 76 14,Ol 77 (.move (Ci 0))])
 (.block 4 (.loop 16 (some [0,1,2,3,9,10,12,13,14,15,16,18,19,55,56,57,76,77]) (some [0,1,2,3,9,10,12,13,14,15,16,18,19,55,56,57,76,77]))))))))
 (Rg [0,1,2,3,9,10,12,13,14,15,16,55,56,57] [Bc 99 .add 3 57 .i64 1,Mv 57 99])))⟩),(16,⟨some [0,1,2,3,9,10,12,13,14,15,16,18,19,55,56,57,76,77],some [0,1,2,3,9,10,12,13,14,15,16,18,19,55,56,57,76,77],.seq (Rg [0,1,2,3,9,10,12,13,14,15,16,18,19,55,56,57,76,77] [Bt 78 .lss 3 77 76])
 (.seq (.cond (T 78) .skip
 (.exit 4 (some [0,1,2,3,9,10,12,13,14,15,16,55,56,57])))
 (.seq (.block 5 (.seq (Rg [0,1,2,3,9,10,12,13,14,15,16,18,19,55,56,57,76,77] [Mv 79 77,As 20 79])
 (.seq (Rg [0,1,2,3,9,10,12,13,14,15,16,18,19,20,55,56,57,76,77] [Mv 80 18,Ca 81 57 [T 80] (some (.val (.one .slice))),As 21 81])
 (.seq (.draw (some [0,1,2,3,9,10,12,13,14,15,16,18,19,20,21,55,56,57,76,77]) 13 [Dr (Mv 82 21) 0 [11,12],Dr (Mv 83 12) 1 [11,12],Dr (Mv 84 19) 2 [4,10,11,12],Dr (Mv 85 14) 3 [4,10,11,12],Dr (Bt 86 .quo 3 84 85) 4 [10,11,12],Dr (Mv 87 20) 5 [9,10,11,12],Dr (Mv 88 10) 6 [8,9,10,11,12],Dr (Mv 89 14) 7 [8,9,10,11,12],Dr (Bt 90 .quo 3 88 89) 8 [9,10,11,12],Dr (Bt 91 .mul 3 87 90) 9 [10,11,12],Dr (Bt 92 .add 3 86 91) 10 [11,12],Dr (Ix 93 1 82 83) 11 [12],⟨Sr 1 93 92,12,.dx (T 93),[],true,true⟩])
 (Rg [0,1,2,3,9,10,12,13,14,15,16,18,19,21,55,56,57,76,77] [Mv 94 16,Mv 95 21,Ro 96 (.buildSlice 1 1 [.slice none 0 0] [(0,1,(T 95))]),⟨some 97,none,.op false (.cJ (.call ⟨.builtin .append,#[T 94,T 96],#[22,22]⟩))⟩,As 16 97])))))
 (Rg [0,1,2,3,9,10,12,13,14,15,16,18,19,55,56,57,76,77] [Bc 98 .add 3 77 .i64 1,Mv 77 98])))⟩)],
 []⟩
theorem mM: fE (progU ()) hint live 49 Try.f49=some r49:=by kernel_rfl
def x50:RX 50 Try.f50:=by constructor;conv=>lhs;cbv
def x52:RX 52 Try.f52:=by constructor;conv=>lhs;cbv
def x53:RX 53 Try.f53:=by constructor;conv=>lhs;cbv
def x55:RX 55 Try.f55:=by constructor;conv=>lhs;cbv
def x56:RX 56 Try.f56:=by constructor;conv=>lhs;cbv
def x57:RX 57 Try.f57:=by constructor;conv=>lhs;cbv
end Go.Proofs.Ytdpbiegfljmhmaa
namespace Go.Proofs.Ytdpbiegfljmhmaa
open Go.cL
set_option maxRecDepth 100000
end Go.Proofs.Ytdpbiegfljmhmaa
namespace Go.Proofs.Ytdpbiegfljmhmaa
open Go.cL
set_option maxRecDepth 100000
def x60:RX 60 Try.f60:=by constructor;conv=>lhs;cbv
def x61:RX 61 Try.f61:=by constructor;conv=>lhs;cbv
def x62:RX 62 Try.f62:=by constructor;conv=>lhs;cbv
def x63:RX 63 Try.f63:=by constructor;conv=>lhs;cbv
def x64:RX 64 Try.f64:=by constructor;conv=>lhs;cbv
def x66:RX 66 Try.f66:=by constructor;conv=>lhs;cbv
def x67:RX 67 Try.f67:=by constructor;conv=>lhs;cbv
def x68:RX 68 Try.f68:=by constructor;conv=>lhs;cbv
def x69:RX 69 Try.f69:=by constructor;conv=>lhs;cbv
def x70:RX 70 Try.f70:=by constructor;conv=>lhs;cbv
def x71:RX 71 Try.f71:=by constructor;conv=>lhs;cbv
def x72:RX 72 Try.f72:=by constructor;conv=>lhs;cbv
def x73:RX 73 Try.f73:=by constructor;conv=>lhs;cbv
def x75:RX 75 Try.f75:=by constructor;conv=>lhs;cbv
def x76:RX 76 Try.f76:=by constructor;conv=>lhs;cbv
def x77:RX 77 Try.f77:=by constructor;conv=>lhs;cbv
def x78:RX 78 Try.f78:=by constructor;conv=>lhs;cbv
def x79:RX 79 Try.f79:=by constructor;conv=>lhs;cbv
def x80:RX 80 Try.f80:=by constructor;conv=>lhs;cbv
end Go.Proofs.Ytdpbiegfljmhmaa
namespace Go.Proofs.Ytdpbiegfljmhmaa
open Go.cL
set_option maxRecDepth 100000
def x110:RX 110 Try.f110:=by constructor;conv=>lhs;cbv
def x111:RX 111 Try.f111:=by constructor;conv=>lhs;cbv
def x112:RX 112 Try.f112:=by constructor;conv=>lhs;cbv
def x114:RX 114 Try.f114:=by constructor;conv=>lhs;cbv
def x116:RX 116 Try.f116:=by constructor;conv=>lhs;cbv
def aaG : lL :=
⟨.seq (Rg [0,1,2] [Ol 6 (.assign (.const (.int .u64 0))),Ol 7 (.assign (.const (.int .u64 0)))])
 (.seq (.seq (Rg [0,1,2] [Mv 19 2,Bc 20 .eql 69 19 .u64 0])
 (.cond (T 20) (Rg [0,1,2] [Ro 21 (.bq .any (.global 0)),⟨none,none,.op false (.cJ (.panic (T 21)))⟩])
 .skip))
 (.seq (.seq (Rg [0,1,2] [Mv 22 2,Mv 23 0,Bt 24 .leq 69 22 23])
 (.cond (T 24) (Rg [0,1,2] [Ro 25 (.bq .any (.global 1)),⟨none,none,.op false (.cJ (.panic (T 25)))⟩])
 .skip))
 (.seq (.seq (Rg [0,1,2] [Mv 26 0,Bc 27 .eql 69 26 .u64 0])
 (.cond (T 27) (.seq (.draw (some [1,2]) 8 [Dr (Mv 28 1) 0 [2,6,7],Dr (Mv 29 2) 1 [2,6,7],Dr (Bt 30 .quo 69 28 29) 2 [6,7],Dr (Mv 31 1) 3 [5,7],Dr (Mv 32 2) 4 [5,7],Dr (Bt 33 .rem 69 31 32) 5 [7],Dr (As 6 30) 6 [7],Dr (As 7 33) 7 []])
 .ret)
 .skip))
 (.seq (Rg [0,1,2] [Mv 34 2,Ca 35 125 [T 34] vI,Ro 36 (.ng .u64 (T 35)),As 8 36])
 (.seq (Rg [0,1,2,8] [Mv 37 2,Mv 38 8,Ol 39 (.binOp .shl 69 (T 37) (T 38) 95),As 2 39])
 (.seq (Rg [0,1,2,8] [Mv 40 2,Ol 41 (.binOp .shr 69 (T 40) (.const (.int .u64 32)) 95),As 9 41])
 (.seq (Rg [0,1,2,8,9] [Mv 42 2,Bc 43 .and 69 42 .u64 4294967295,As 10 43])
 (.seq (Rg [0,1,2,8,9,10] [Mv 44 0,Mv 45 8,Ol 46 (.binOp .shl 69 (T 44) (T 45) 95),Mv 47 1,Mv 48 8,Ol 49 (.binOp .sub 95 (.const (.int .u64 64)) (T 48) 95),Ol 50 (.binOp .shr 69 (T 47) (T 49) 95),Bt 51 .or 69 46 50,As 11 51])
 (.seq (Rg [1,2,8,9,10,11] [Mv 52 1,Mv 53 8,Ol 54 (.binOp .shl 69 (T 52) (T 53) 95),As 12 54])
 (.seq (Rg [2,8,9,10,11,12] [Mv 55 12,Ol 56 (.binOp .shr 69 (T 55) (.const (.int .u64 32)) 95),As 13 56])
 (.seq (Rg [2,8,9,10,11,12,13] [Mv 57 12,Bc 58 .and 69 57 .u64 4294967295,As 14 58])
 (.seq (Rg [2,8,9,10,11,13,14] [Mv 59 11,Mv 60 9,Bt 61 .quo 69 59 60,As 15 61])
 (.seq (Rg [2,8,9,10,11,13,14,15] [Mv 62 11,Mv 63 15,Mv 64 9,Bt 65 .mul 69 63 64,Bt 66 .sub 69 62 65,As 16 66])
 (.seq (.block 0 (.loop 17 none (some [2,8,9,10,11,13,14,15,16])))
 (.seq (Rg [2,8,9,10,11,13,14,15] [Mv 86 11,Bc 87 .mul 69 86 .u64 4294967296,Mv 88 13,Bt 89 .add 69 87 88,Mv 90 15,Mv 91 2,Bt 92 .mul 69 90 91,Bt 93 .sub 69 89 92,As 17 93])
 (.seq (Rg [2,8,9,10,14,15,17] [Mv 94 17,Mv 95 9,Bt 96 .quo 69 94 95,As 18 96])
 (.seq (Rg [2,8,9,10,14,15,17,18] [Mv 97 17,Mv 98 18,Mv 99 9,Bt 100 .mul 69 98 99,Bt 101 .sub 69 97 100,As 16 101])
 (.seq (.block 2 (.loop 24 none (some [2,8,9,10,14,15,16,17,18])))
 (.seq (Rg [2,8,14,15,17,18] [Mv 121 15,Bc 122 .mul 69 121 .u64 4294967296,Mv 123 18,Bt 124 .add 69 122 123,Mv 125 17,Bc 126 .mul 69 125 .u64 4294967296,Mv 127 14,Bt 128 .add 69 126 127,Mv 129 18,Mv 130 2,Bt 131 .mul 69 129 130,Bt 132 .sub 69 128 131,Mv 133 8,Ol 134 (.binOp .shr 69 (T 132) (T 133) 95),As 6 124,As 7 134])
 .ret))))))))))))))))))),
 [.tmp 6,.tmp 7],
 [(17,⟨none,some [2,8,9,10,11,13,14,15,16],.seq (.seq (Rg [2,8,9,10,11,13,14,15,16] [Mv 67 15,Bc 68 .geq 69 67 .u64 4294967296,Mv 69 68,Gf 70 69 (.move (T 15)),Gf 71 69 (.move (T 10)),Gf 72 69 (.binOp .mul 69 (T 70) (T 71) 69),Gf 73 69 (.move (T 16)),Gf 74 69 (.binOp .mul 69 (.const (.int .u64 4294967296)) (T 73) 69),Gf 75 69 (.move (T 13)),Gf 76 69 (.binOp .add 69 (T 74) (T 75) 69),Gf 77 69 (.binOp .gtr 69 (T 72) (T 76) 69),Ol 78 (.pick (T 69) (.const (.bool true)) (T 77))])
 (.cond (T 78) .skip
 (.exit 0 (some [2,8,9,10,11,13,14,15]))))
 (.block 1 (.seq (Rg [2,8,9,10,11,13,14,15,16] [Mv 79 15,Bc 80 .sub 69 79 .u64 1,As 15 80])
 (.seq (Rg [2,8,9,10,11,13,14,15,16] [Mv 81 16,Mv 82 9,Bt 83 .add 69 81 82,As 16 83])
 (.seq (Rg [2,8,9,10,11,13,14,15,16] [Mv 84 16,Bc 85 .geq 69 84 .u64 4294967296])
 (.cond (T 85) (.exit 0 (some [2,8,9,10,11,13,14,15]))
 .skip)))))⟩),(24,⟨none,some [2,8,9,10,14,15,16,17,18],.seq (.seq (Rg [2,8,9,10,14,15,16,17,18] [Mv 102 18,Bc 103 .geq 69 102 .u64 4294967296,Mv 104 103,Gf 105 104 (.move (T 18)),Gf 106 104 (.move (T 10)),Gf 107 104 (.binOp .mul 69 (T 105) (T 106) 69),Gf 108 104 (.move (T 16)),Gf 109 104 (.binOp .mul 69 (.const (.int .u64 4294967296)) (T 108) 69),Gf 110 104 (.move (T 14)),Gf 111 104 (.binOp .add 69 (T 109) (T 110) 69),Gf 112 104 (.binOp .gtr 69 (T 107) (T 111) 69),Ol 113 (.pick (T 104) (.const (.bool true)) (T 112))])
 (.cond (T 113) .skip
 (.exit 2 (some [2,8,14,15,17,18]))))
 (.block 3 (.seq (Rg [2,8,9,10,14,15,16,17,18] [Mv 114 18,Bc 115 .sub 69 114 .u64 1,As 18 115])
 (.seq (Rg [2,8,9,10,14,15,16,17,18] [Mv 116 16,Mv 117 9,Bt 118 .add 69 116 117,As 16 118])
 (.seq (Rg [2,8,9,10,14,15,16,17,18] [Mv 119 16,Bc 120 .geq 69 119 .u64 4294967296])
 (.cond (T 120) (.exit 2 (some [2,8,14,15,17,18]))
 .skip)))))⟩)],
 []⟩
theorem tu: fE (progU ()) hint live 117 Try.f117=some aaG:=by kernel_rfl
def aaH : lL :=
⟨.seq (Rg [0,1,2,3,4] [Mv 12 1,As 10 12])
 (.block 0 (.loop 1 (some [0,2,3,4,10]) (some [0,2,3,4,10]))),
 [],
 [(1,⟨some [0,2,3,4,10],some [0,2,3,4,10],.block 1 (.seq (Rg [0,2,3,4,10] [Mv 13 10,Ol 14 (.binOp .mul 3 (Ci 2) (T 13) 3),Bc 15 .add 3 14 .i64 1,As 11 15])
 (.seq (.seq (Rg [0,2,3,4,10,11] [Mv 16 11,Mv 17 2,Bt 18 .geq 3 16 17])
 (.cond (T 18) (.exit 0 (some []))
 .skip))
 (.seq (.seq (.draw (some [0,2,3,4,10,11]) 22 [Dr (Mv 19 11) 0 [1,3,4,5,6,7,8,9,10,11,12,13,14,15,16,17,18,19,20,21],Dr (Bc 20 .add 3 19 .i64 1) 1 [3,4,5,6,7,8,9,10,11,12,13,14,15,16,17,18,19,20,21],Dr (Mv 21 2) 2 [3,4,5,6,7,8,9,10,11,12,13,14,15,16,17,18,19,20,21],Dr (Bt 22 .lss 3 20 21) 3 [4,5,6,7,8,9,10,11,12,13,14,15,16,17,18,19,20,21],Dr (Mv 23 22) 4 [5,6,7,8,9,10,11,12,13,14,15,16,17,18,19,20,21],⟨Gt 24 23 (.move (T 4)),5,.none,[19,20,21],false,true⟩,⟨Gt 25 23 (.move (T 0)),6,.none,[10,11,19,20,21],false,true⟩,⟨Gt 26 23 (.move (T 3)),7,.none,[9,10,11,19,20,21],false,true⟩,⟨Gt 27 23 (.move (T 11)),8,.none,[9,10,11,19,20,21],false,true⟩,⟨Gt 28 23 (.binOp .add 3 (T 26) (T 27) 3),9,.none,[10,11,19,20,21],false,true⟩,⟨Ht 29 23 (.yI 1 (T 25) (T 28)),10,.none,[11,19,20,21],false,true⟩,⟨Ht 30 23 (.bq .slice (T 29)),11,.dx (T 29),[19,20,21],false,true⟩,⟨Gt 31 23 (.move (T 0)),12,.none,[17,18,19,20,21],false,true⟩,⟨Gt 32 23 (.move (T 3)),13,.none,[15,16,17,18,19,20,21],false,true⟩,⟨Gt 33 23 (.move (T 11)),14,.none,[15,16,17,18,19,20,21],false,true⟩,⟨Gt 34 23 (.binOp .add 3 (T 32) (T 33) 3),15,.none,[16,17,18,19,20,21],false,true⟩,⟨Gt 35 23 (.binOp .add 3 (T 34) (Ci 1) 3),16,.none,[17,18,19,20,21],false,true⟩,⟨Ht 36 23 (.yI 1 (T 31) (T 35)),17,.none,[18,19,20,21],false,true⟩,⟨Ht 37 23 (.bq .slice (T 36)),18,.dx (T 36),[19,20,21],false,true⟩,⟨⟨some 38,some (23,true),.call (T 24) [T 30,T 37] vI⟩,19,.all,[20,21],false,false⟩,⟨Gt 39 23 (.binOp .lss 3 (T 38) (Ci 0) 3),20,.none,[21],false,true⟩,Dr (Ol 40 (.pick (T 23) (T 39) (.const (.bool false)))) 21 []])
 (.cond (T 40) (Rg [0,2,3,4,10,11] [Mv 41 11,Bc 42 .add 3 41 .i64 1,As 11 42])
 .skip))
 (.seq (.seq (.draw (some [0,2,3,4,10,11]) 16 [Dr (Mv 43 4) 0 [13,14,15],Dr (Mv 44 0) 1 [5,6,13,14,15],Dr (Mv 45 3) 2 [4,5,6,13,14,15],Dr (Mv 46 10) 3 [4,5,6,13,14,15],Dr (Bt 47 .add 3 45 46) 4 [5,6,13,14,15],Dr (Ix 48 1 44 47) 5 [6,13,14,15],Db (Ro 49 (.bq .slice (T 48))) 6 48 [13,14,15],Dr (Mv 50 0) 7 [11,12,13,14,15],Dr (Mv 51 3) 8 [10,11,12,13,14,15],Dr (Mv 52 11) 9 [10,11,12,13,14,15],Dr (Bt 53 .add 3 51 52) 10 [11,12,13,14,15],Dr (Ix 54 1 50 53) 11 [12,13,14,15],Db (Ro 55 (.bq .slice (T 54))) 12 54 [13,14,15],⟨⟨some 56,none,.call (T 43) [T 49,T 55] vI⟩,13,.all,[14,15],false,false⟩,Dr (Bc 57 .lss 3 56 .i64 0) 14 [15],Dr (Ol 58 (.unOp .not 4 (T 57))) 15 []])
 (.cond (T 58) .ret
 .skip))
 (.seq (.draw (some [0,2,3,4,10,11]) 24 [Dr (Mv 59 0) 0 [20,21,22,23],Dr (Mv 60 3) 1 [3,20,21,22,23],Dr (Mv 61 10) 2 [3,20,21,22,23],Dr (Bt 62 .add 3 60 61) 3 [20,21,22,23],Dr (Mv 63 0) 4 [22,23],Dr (Mv 64 3) 5 [7,22,23],Dr (Mv 65 11) 6 [7,22,23],Dr (Bt 66 .add 3 64 65) 7 [22,23],Dr (Mv 67 0) 8 [12,13,20,21,22,23],Dr (Mv 68 3) 9 [11,12,13,20,21,22,23],Dr (Mv 69 11) 10 [11,12,13,20,21,22,23],Dr (Bt 70 .add 3 68 69) 11 [12,13,20,21,22,23],Dr (Ix 71 1 67 70) 12 [13,20,21,22,23],Db (Ro 72 (.bq .slice (T 71))) 13 71 [20,21,22,23],Dr (Mv 73 0) 14 [18,19,20,21,22,23],Dr (Mv 74 3) 15 [17,18,19,20,21,22,23],Dr (Mv 75 10) 16 [17,18,19,20,21,22,23],Dr (Bt 76 .add 3 74 75) 17 [18,19,20,21,22,23],Dr (Ix 77 1 73 76) 18 [19,20,21,22,23],Db (Ro 78 (.bq .slice (T 77))) 19 77 [20,21,22,23],Dr (Ix 79 1 59 62) 20 [21,22,23],⟨Sr 1 79 72,21,.dx (T 79),[22,23],true,true⟩,Dr (Ix 80 1 63 66) 22 [23],⟨Sr 1 80 78,23,.dx (T 80),[],true,true⟩])
 (Rg [0,2,3,4,11] [Mv 81 11,As 10 81]))))))⟩)],
 []⟩
theorem Ce: fE (progU ()) hint live 120 Try.f120=some aaH:=by kernel_rfl
def x121:RX 121 Try.f121:=by constructor;conv=>lhs;cbv
def x122:RX 122 Try.f122:=by constructor;conv=>lhs;cbv
def x123:RX 123 Try.f123:=by constructor;conv=>lhs;cbv
def x124:RX 124 Try.f124:=by constructor;conv=>lhs;cbv
def x125:RX 125 Try.f125:=by constructor;conv=>lhs;cbv
def x127:RX 127 Try.f127:=by constructor;conv=>lhs;cbv
