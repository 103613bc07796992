import Derived.Test.YtdpbiegfljmhmaaGreatSeat0
import Derived.Test.YtdpbiegfljmhmaaGreatSmG
set_option linter.unusedSimpArgs false
set_option linter.unusedVariables false
namespace Go.Proofs.YtdpbiegfljmhmaaGreat
open Go.cS
set_option maxRecDepth 100000
def x61:RX 61 Tryz.f61:=by constructor;conv=>lhs;cbv
def x62:RX 62 Tryz.f62:=by constructor;conv=>lhs;cbv
def x63:RX 63 Tryz.f63:=by constructor;conv=>lhs;cbv
def x64:RX 64 Tryz.f64:=by constructor;conv=>lhs;cbv
def x65:RX 65 Tryz.f65:=by constructor;conv=>lhs;cbv
def x66:RX 66 Tryz.f66:=by constructor;conv=>lhs;cbv
def x67:RX 67 Tryz.f67:=by constructor;conv=>lhs;cbv
def x68:RX 68 Tryz.f68:=by constructor;conv=>lhs;cbv
def x69:RX 69 Tryz.f69:=by constructor;conv=>lhs;cbv
def x70:RX 70 Tryz.f70:=by constructor;conv=>lhs;cbv
def x71:RX 71 Tryz.f71:=by constructor;conv=>lhs;cbv
def r72 : lG :=
⟨.seq (Rg [0] [Ac 2 0])
 (.seq (Rg [0] [Mv 11 0,Ol 12 (.makeFunc (.func 85) #[T 11] #[]),Mv 13 0,Ol 14 (.makeFunc (.func 86) #[T 13] #[]),As 3 12,As 4 14])
 (.seq (Rg [0,3,4] [Ac 5 1])
 (.seq (.seq (Rg [0,3,4,5] [Mv 15 0,Ol 16 (.nilCheck (T 15)),Fa 17 0 16,L1 18 17,Ol 19 (.move (Ci 0))])
 (.block 0 (.loop 4 (some [0,3,4,5,18,19]) (some [0,3,4,5,18,19]))))
 (.seq (Rg [5] [Mv 118 5,Mv 119 5,Ol 120 (.unOp .neg 3 (T 119)),⟨some 121,none,.op false (.cJ (.call ⟨.builtin .max,#[T 118,T 120],#[3,3]⟩))⟩,As 2 121])
 .ret)))),
 [.tmp 2],
 [(4,⟨some [0,3,4,5,18,19],some [0,3,4,5,18,19],.seq (Rg [0,3,4,5,18,19] [Bt 20 .lss 3 19 18])
 (.seq (.cond (T 20) .skip
 (.exit 0 (some [5])))
 (.seq (.block 1 (.seq (Rg [0,3,4,5,18,19] [Mv 21 19,As 6 21])
 (.seq (Rg [0,3,4,5,6,18,19] [Mv 23 0,Mv 24 6,Ca 25 87 [T 23,T 24] (some (.mV [.agg s2,.one .bool])),Mv 22 25,Ex 26 22 0,Ex 27 22 1,Ro 7 (.new 2 z2),Sr 2 7 26,As 8 27])
 (.seq (.seq (Rg [0,3,4,5,6,7,8,18,19] [Mv 28 8,Ol 29 (.unOp .not 4 (T 28))])
 (.cond (T 29) (.seq (Rg [] [Ac 2 0])
 .ret)
 .skip))
 (.seq (.seq (Rg [0,3,4,5,6,7,18,19] [Ld 30 7,Mv 31 6,Mv 32 6,Ro 33 (.build z2 [(0,1,(T 31)),(1,1,(T 32))]),Bt 34 .neq 124 30 33])
 (.cond (T 34) (.seq (Rg [0,3,4,5,6,7,18,19] [Mv 35 3,Mv 36 6,Ro 37 (.vW 2 1 (T 7) (Ci 0)),L1 38 37,⟨some 39,none,.call (T 35) [T 36,T 38] (some (.mV []))⟩])
 (Rg [0,3,4,5,6,7,18,19] [Mv 40 4,Mv 41 6,Ro 42 (.vW 2 1 (T 7) (Ci 1)),L1 43 42,⟨some 44,none,.call (T 40) [T 41,T 43] (some (.mV []))⟩]))
 .skip))
 (.seq (.seq (Rg [0,3,4,5,6,18,19] [Mv 45 6,Bc 46 .add 3 45 .i64 1,As 9 46])
 (.block 2 (.loop 13 (some [0,3,4,5,6,9,18,19]) (some [0,3,4,5,6,9,18,19]))))
 (Rg [0,3,4,6,18,19] [Mv 109 0,Mv 110 6,Mv 111 6,Ol 112 (.nilCheck (T 109)),Fa 113 1 112,Ro 114 (.vW 4 4 (T 113) (T 110)),Ro 115 (.vW 4 1 (T 114) (T 111)),L1 116 115,As 5 116])))))))
 (Rg [0,3,4,5,18,19] [Bc 117 .add 3 19 .i64 1,Mv 19 117])))⟩),(13,⟨some [0,3,4,5,6,9,18,19],some [0,3,4,5,6,9,18,19],.seq (.seq (Rg [0,3,4,5,6,9,18,19] [Mv 47 9,Mv 48 0,Ol 49 (.nilCheck (T 48)),Fa 50 0 49,L1 51 50,Bt 52 .lss 3 47 51])
 (.cond (T 52) .skip
 (.exit 2 (some [0,3,4,6,18,19]))))
 (.seq (.block 3 (.seq (Rg [0,3,4,5,6,9,18,19] [Mv 55 6,Bc 56 .add 3 55 .i64 1,As 10 56])
 (.block 4 (.loop 16 (some [0,3,4,5,6,9,10,18,19]) (some [0,3,4,5,6,9,10,18,19])))))
 (Rg [0,3,4,5,6,9,18,19] [Mv 53 9,Bc 54 .add 3 53 .i64 1,As 9 54]))⟩),(16,⟨some [0,3,4,5,6,9,10,18,19],some [0,3,4,5,6,9,10,18,19],.seq (.seq (Rg [0,3,4,5,6,9,10,18,19] [Mv 57 10,Mv 58 0,Ol 59 (.nilCheck (T 58)),Fa 60 0 59,L1 61 60,Bt 62 .lss 3 57 61])
 (.cond (T 62) .skip
 (.exit 4 (some [0,3,4,5,6,9,18,19]))))
 (.seq (.block 5 (.draw (some [0,3,4,5,6,9,10,18,19]) 45 [Dr (Mv 65 0) 0 [40,41,42,43,44],Dr (Mv 66 9) 1 [42,43,44],Dr (Mv 67 10) 2 [43,44],Dr (Mv 68 0) 3 [6,7,8,9,10,19,37,39,43,44],Dr (Mv 69 6) 4 [8,9,10,19,37,39,43,44],Dr (Mv 70 6) 5 [9,10,19,37,39,43,44],Dr (Ol 71 (.nilCheck (T 68))) 6 [7,8,9,10,19,37,39,43,44],Dr (Fa 72 1 71) 7 [8,9,10,19,37,39,43,44],Dr (Ro 73 (.vW 4 4 (T 72) (T 69))) 8 [9,10,19,37,39,43,44],Dr (Ro 74 (.vW 4 1 (T 73) (T 70))) 9 [10,19,37,39,43,44],Db (L1 75 74) 10 74 [19,37,39,43,44],Dr (Mv 76 0) 11 [14,15,16,17,18,19,37,39,43,44],Dr (Mv 77 9) 12 [16,17,18,19,37,39,43,44],Dr (Mv 78 10) 13 [17,18,19,37,39,43,44],Dr (Ol 79 (.nilCheck (T 76))) 14 [15,16,17,18,19,37,39,43,44],Dr (Fa 80 1 79) 15 [16,17,18,19,37,39,43,44],Dr (Ro 81 (.vW 4 4 (T 80) (T 77))) 16 [17,18,19,37,39,43,44],Dr (Ro 82 (.vW 4 1 (T 81) (T 78))) 17 [18,19,37,39,43,44],Db (L1 83 82) 18 82 [19,37,39,43,44],Dr (Bt 84 .mul 3 75 83) 19 [37,39,43,44],Dr (Mv 85 0) 20 [23,24,25,26,27,36,37,39,43,44],Dr (Mv 86 9) 21 [25,26,27,36,37,39,43,44],Dr (Mv 87 6) 22 [26,27,36,37,39,43,44],Dr (Ol 88 (.nilCheck (T 85))) 23 [24,25,26,27,36,37,39,43,44],Dr (Fa 89 1 88) 24 [25,26,27,36,37,39,43,44],Dr (Ro 90 (.vW 4 4 (T 89) (T 86))) 25 [26,27,36,37,39,43,44],Dr (Ro 91 (.vW 4 1 (T 90) (T 87))) 26 [27,36,37,39,43,44],Db (L1 92 91) 27 91 [36,37,39,43,44],Dr (Mv 93 0) 28 [31,32,33,34,35,36,37,39,43,44],Dr (Mv 94 6) 29 [33,34,35,36,37,39,43,44],Dr (Mv 95 10) 30 [34,35,36,37,39,43,44],Dr (Ol 96 (.nilCheck (T 93))) 31 [32,33,34,35,36,37,39,43,44],Dr (Fa 97 1 96) 32 [33,34,35,36,37,39,43,44],Dr (Ro 98 (.vW 4 4 (T 97) (T 94))) 33 [34,35,36,37,39,43,44],Dr (Ro 99 (.vW 4 1 (T 98) (T 95))) 34 [35,36,37,39,43,44],Db (L1 100 99) 35 99 [36,37,39,43,44],Dr (Bt 101 .mul 3 92 100) 36 [37,39,43,44],Dr (Bt 102 .sub 3 84 101) 37 [39,43,44],Dr (Mv 103 5) 38 [39,43,44],Dr (Bt 104 .quo 3 102 103) 39 [43,44],Dr (Ol 105 (.nilCheck (T 65))) 40 [41,42,43,44],Dr (Fa 106 1 105) 41 [42,43,44],Dr (Ro 107 (.vW 4 4 (T 106) (T 66))) 42 [43,44],Dr (Ro 108 (.vW 4 1 (T 107) (T 67))) 43 [44],⟨Sr 1 108 104,44,.dm (T 108),[],true,true⟩]))
 (Rg [0,3,4,5,6,9,10,18,19] [Mv 63 10,Bc 64 .add 3 63 .i64 1,As 10 64]))⟩)],
 []⟩
theorem nU: fE (progU ()) hint live 72 Tryz.f72=some r72:=by kernel_rfl
def r73 : lG :=
⟨.seq (Rg [0,1] [Mv 8 0,Ol 9 (.makeFunc (.func 88) #[T 8] #[]),As 4 9])
 (.seq (.block 0 (.loop 1 (some [0,1,4]) (some [0,1,4])))
 (.seq (Rg [0,4] [Mv 127 0,Ol 128 (.nilCheck (T 127)),Fa 129 0 128,Ro 130 (.aL .slice (T 129)),Ro 131 (.lS (T 130)),Bc 132 .sub 3 131 .i64 1,As 7 132])
 (.block 4 (.loop 17 none (some [0,4,7]))))),
 [],
 [(1,⟨some [0,1,4],some [0,1,4],.block 1 (.seq (Rg [0,1,4] [Mv 10 4,Mv 11 1,⟨some 12,none,.call (T 10) [T 11] (some (.mV []))⟩])
 (.seq (Rg [0,1,4] [Mv 13 1,Ca 14 47 [T 13] vI,As 5 14])
 (.seq (.seq (Rg [0,1,4,5] [Mv 15 5,Mv 16 1,Ro 17 (.lS (T 16)),Bt 18 .eql 3 15 17])
 (.cond (T 18) .ret
 .skip))
 (.seq (Rg [0,1,4,5] [Ac 6 0])
 (.seq (.block 2 (.loop 5 none (some [0,1,4,5,6])))
 (.seq (.seq (Rg [0,1,4,5,6] [Mv 40 6,Mv 41 0,Ol 42 (.nilCheck (T 41)),Fa 43 0 42,Ro 44 (.aL .slice (T 43)),Ro 45 (.lS (T 44)),Bt 46 .eql 3 40 45,Mv 47 46,Gf 48 47 (.move (T 0)),Gf 49 47 (.nilCheck (T 48)),Hf 50 47 (.fieldAddr 0 (T 49)),Hf 51 47 (.aL .slice (T 50)),Gf 52 47 (.move (T 6)),Hf 53 47 (.rI 1 (T 51) (T 52)),Hf 54 47 (.aL .slice (T 53)),⟨some 55,some (47,false),.call (.func 47) [T 54] vI⟩,Gf 56 47 (.move (T 5)),Gf 57 47 (.binOp .gtr 3 (T 55) (T 56) 3),Ol 58 (.pick (T 47) (.const (.bool true)) (T 57))])
 (.cond (T 58) (.seq (.seq (Rg [0,1,4,5,6] [Mv 59 1,Mv 60 5,Ix 61 1 59 60,L1 62 61,Bc 63 .lss 3 62 .i64 0])
 (.cond (T 63) (.seq (Rg [0,1,4,6] [Mv 64 1,Mv 65 1,Ca 66 89 [T 64,T 65,.const (.int .i64 2)] (some (.mV []))])
 (Rg [0,1,4,6] [Mv 67 4,Mv 68 1,⟨some 69,none,.call (T 67) [T 68] (some (.mV []))⟩]))
 .skip))
 (.seq (Rg [0,1,4,6] [Mv 70 0,Mv 71 0,Ol 72 (.nilCheck (T 71)),Fa 73 0 72,Ro 74 (.aL .slice (T 73)),Mv 75 6,Mv 76 1,Ro 77 (.buildSlice 1 1 [.slice none 0 0] [(0,1,(T 76))]),Ca 78 90 [T 74,T 75,T 77] (some (.val (.one .slice))),Ol 79 (.nilCheck (T 70)),Fa 80 0 79,Sr 1 80 78])
 (.exit 0 (some [0,4]))))
 .skip))
 (.seq (.draw (some [0,1,4,5,6]) 24 [Dr (Mv 81 1) 0 [23],Dr (Mv 82 0) 1 [2,3,4,6,7,23],Dr (Ol 83 (.nilCheck (T 82))) 2 [3,4,6,7,23],Dr (Fa 84 0 83) 3 [4,6,7,23],Db (Ro 85 (.aL .slice (T 84))) 4 84 [6,7,23],Dr (Mv 86 6) 5 [6,7,23],Dr (Ix 87 1 85 86) 6 [7,23],Db (Ro 88 (.aL .slice (T 87))) 7 87 [23],Dr (Mv 89 1) 8 [10,11,22,23],Dr (Mv 90 5) 9 [10,11,22,23],Dr (Ix 91 1 89 90) 10 [11,22,23],Db (L1 92 91) 11 91 [22,23],Dr (Mv 93 0) 12 [13,14,15,17,18,20,21,22,23],Dr (Ol 94 (.nilCheck (T 93))) 13 [14,15,17,18,20,21,22,23],Dr (Fa 95 0 94) 14 [15,17,18,20,21,22,23],Db (Ro 96 (.aL .slice (T 95))) 15 95 [17,18,20,21,22,23],Dr (Mv 97 6) 16 [17,18,20,21,22,23],Dr (Ix 98 1 96 97) 17 [18,20,21,22,23],Db (Ro 99 (.aL .slice (T 98))) 18 98 [20,21,22,23],Dr (Mv 100 5) 19 [20,21,22,23],Dr (Ix 101 1 99 100) 20 [21,22,23],Db (L1 102 101) 21 101 [22,23],⟨Ca 103 49 [T 92,T 102] vI,22,.all,[23],false,false⟩,⟨Ca 104 89 [T 81,T 88,T 103] (some (.mV [])),23,.all,[],false,false⟩])
 (.seq (Rg [0,1,4,5,6] [Mv 105 1,Mv 106 5,Ix 107 1 105 106,L1 108 107,Bc 109 .neq 3 108 .i64 0])
 (.cond (T 109) (.seq (Rg [0,1,4,6] [Mv 110 4,Mv 111 1,⟨some 112,none,.call (T 110) [T 111] (some (.mV []))⟩])
 (.draw (some [0,1,4,6]) 16 [Dr (Mv 113 0) 0 [1,2,3,14,15],Dr (Ol 114 (.nilCheck (T 113))) 1 [2,3,14,15],Dr (Fa 115 0 114) 2 [3,14,15],Db (Ro 116 (.aL .slice (T 115))) 3 115 [14,15],Dr (Mv 117 6) 4 [14,15],Dr (Mv 118 0) 5 [6,7,8,10,11,13,14,15],Dr (Ol 119 (.nilCheck (T 118))) 6 [7,8,10,11,13,14,15],Dr (Fa 120 0 119) 7 [8,10,11,13,14,15],Db (Ro 121 (.aL .slice (T 120))) 8 120 [10,11,13,14,15],Dr (Mv 122 6) 9 [10,11,13,14,15],Dr (Ix 123 1 121 122) 10 [11,13,14,15],Db (Ro 124 (.aL .slice (T 123))) 11 123 [13,14,15],Dr (Mv 125 1) 12 [13,14,15],Dr (As 1 124) 13 [14,15],Dr (Ix 126 1 116 117) 14 [15],⟨Sr 1 126 125,15,.dm (T 126),[],true,true⟩]))
 .skip)))))))))⟩),(5,⟨none,some [0,1,4,5,6],.seq (.seq (Rg [0,1,4,5,6] [Mv 19 6,Mv 20 0,Ol 21 (.nilCheck (T 20)),Fa 22 0 21,Ro 23 (.aL .slice (T 22)),Ro 24 (.lS (T 23)),Bt 25 .lss 3 19 24,Mv 26 25,Gt 27 26 (.move (T 0)),Gt 28 26 (.nilCheck (T 27)),Ht 29 26 (.fieldAddr 0 (T 28)),Ht 30 26 (.aL .slice (T 29)),Gt 31 26 (.move (T 6)),Ht 32 26 (.rI 1 (T 30) (T 31)),Ht 33 26 (.aL .slice (T 32)),⟨some 34,some (26,true),.call (.func 47) [T 33] vI⟩,Gt 35 26 (.move (T 5)),Gt 36 26 (.binOp .lss 3 (T 34) (T 35) 3),Ol 37 (.pick (T 26) (T 36) (.const (.bool false)))])
 (.cond (T 37) .skip
 (.exit 2 (some [0,1,4,5,6]))))
 (.block 3 (Rg [0,1,4,5,6] [Mv 38 6,Bc 39 .add 3 38 .i64 1,As 6 39]))⟩),(17,⟨none,some [0,4,7],.seq (.seq (Rg [0,4,7] [Mv 133 7,Bc 134 .geq 3 133 .i64 0])
 (.cond (T 134) .skip
 (.exit 4 (some []))))
 (.seq (.block 5 (Rg [0,4,7] [Mv 137 4,Mv 138 0,Ol 139 (.nilCheck (T 138)),Fa 140 0 139,Ro 141 (.aL .slice (T 140)),Mv 142 7,Ix 143 1 141 142,Ro 144 (.aL .slice (T 143)),⟨some 145,none,.call (T 137) [T 144] (some (.mV []))⟩]))
 (Rg [0,4,7] [Mv 135 7,Bc 136 .sub 3 135 .i64 1,As 7 136]))⟩)],
 []⟩
theorem uv: fE (progU ()) hint live 73 Tryz.f73=some r73:=by kernel_rfl
def r74 : lG :=
⟨.seq (Rg [0,1,2,3,4] [Ol 10 (.assign (.const (.bool true)))])
 (.seq (Rg [0,1,2,3,4,10] [Ol 11 (.assign (.const (.bool true)))])
 (.block 0 (.loop 2 (some [0,1,2,3,4,10,11]) (some [0,1,2,3,4,10,11])))),
 [],
 [(2,⟨some [0,1,2,3,4,10,11],some [0,1,2,3,4,10,11],.block 1 (.seq (Rg [0,1,2,3,4,10,11] [Mv 21 2,Mv 22 1,Bt 23 .sub 3 21 22,As 12 23])
 (.seq (.seq (Rg [0,1,2,3,4,10,11,12] [Mv 24 12,Bc 25 .leq 3 24 .i64 12])
 (.cond (T 25) (.seq (Rg [0,1,2,4] [Mv 26 0,Mv 27 1,Mv 28 2,Mv 29 4,Ca 30 91 [T 26,T 27,T 28,T 29] (some (.mV []))])
 .ret)
 .skip))
 (.seq (.seq (Rg [0,1,2,3,4,10,11,12] [Mv 31 3,Bc 32 .eql 3 31 .i64 0])
 (.cond (T 32) (.seq (Rg [0,1,2,4] [Mv 33 0,Mv 34 1,Mv 35 2,Mv 36 4,Ca 37 92 [T 33,T 34,T 35,T 36] (some (.mV []))])
 .ret)
 .skip))
 (.seq (.seq (Rg [0,1,2,3,4,10,11,12] [Mv 38 10,Ol 39 (.unOp .not 4 (T 38))])
 (.cond (T 39) (.seq (Rg [0,1,2,3,4,10,11,12] [Mv 40 0,Mv 41 1,Mv 42 2,Mv 43 4,Ca 44 93 [T 40,T 41,T 42,T 43] (some (.mV []))])
 (Rg [0,1,2,3,4,10,11,12] [Mv 45 3,Bc 46 .sub 3 45 .i64 1,As 3 46]))
 .skip))
 (.seq (Rg [0,1,2,3,4,10,11,12] [Mv 48 0,Mv 49 1,Mv 50 2,Mv 51 4,Ca 52 94 [T 48,T 49,T 50,T 51] (some (.mV [.one (.int .i64),.one (.int .i64)])),Mv 47 52,Ex 53 47 0,Ex 54 47 1,As 13 53,As 14 54])
 (.seq (.seq (Rg [0,1,2,3,4,10,11,12,13,14] [Mv 55 14,Bc 56 .eql 131 55 .i64 2])
 (.cond (T 56) (.seq (Rg [0,1,2,3,4,10,11,12,13] [Mv 57 0,Mv 58 1,Mv 59 2,Mv 60 4,Ca 61 95 [T 57,T 58,T 59,T 60] (some (.mV []))])
 (.seq (Rg [0,1,2,3,4,10,11,12,13] [Mv 62 2,Bc 63 .sub 3 62 .i64 1,Mv 64 13,Mv 65 1,Bt 66 .sub 3 64 65,Bt 67 .sub 3 63 66,As 13 67])
 (Rg [0,1,2,3,4,10,11,12,13] [Ac 14 1])))
 .skip))
 (.seq (.seq (Rg [0,1,2,3,4,10,11,12,13,14] [Mv 68 10,Mv 69 68,Gt 70 69 (.move (T 11)),Ol 71 (.pick (T 69) (T 70) (.const (.bool false))),Mv 72 71,Gt 73 72 (.move (T 14)),Gt 74 72 (.binOp .eql 131 (T 73) (Ci 1) 131),Ol 75 (.pick (T 72) (T 74) (.const (.bool false)))])
 (.cond (T 75) (.seq (Rg [0,1,2,3,4,10,11,12,13] [Mv 76 0,Mv 77 1,Mv 78 2,Mv 79 4,Ca 80 96 [T 76,T 77,T 78,T 79] vB])
 (.cond (T 80) .ret
 .skip))
 .skip))
 (.seq (.seq (.draw (some [0,1,2,3,4,10,11,12,13]) 17 [Dr (Mv 81 1) 0 [1,2,3,4,5,6,7,8,9,10,11,12,13,14,15,16],Dr (Bc 82 .gtr 3 81 .i64 0) 1 [2,3,4,5,6,7,8,9,10,11,12,13,14,15,16],Dr (Mv 83 82) 2 [3,4,5,6,7,8,9,10,11,12,13,14,15,16],⟨Gt 84 83 (.move (T 4)),3,.none,[13,14,15,16],false,true⟩,⟨Gt 85 83 (.move (T 0)),4,.none,[7,8,13,14,15,16],false,true⟩,⟨Gt 86 83 (.move (T 1)),5,.none,[6,7,8,13,14,15,16],false,true⟩,⟨Gt 87 83 (.binOp .sub 3 (T 86) (Ci 1) 3),6,.none,[7,8,13,14,15,16],false,true⟩,⟨Ht 88 83 (.rI 1 (T 85) (T 87)),7,.none,[8,13,14,15,16],false,true⟩,⟨Ht 89 83 (.aL .slice (T 88)),8,.dm (T 88),[13,14,15,16],false,true⟩,⟨Gt 90 83 (.move (T 0)),9,.none,[11,12,13,14,15,16],false,true⟩,⟨Gt 91 83 (.move (T 13)),10,.none,[11,12,13,14,15,16],false,true⟩,⟨Ht 92 83 (.rI 1 (T 90) (T 91)),11,.none,[12,13,14,15,16],false,true⟩,⟨Ht 93 83 (.aL .slice (T 92)),12,.dm (T 92),[13,14,15,16],false,true⟩,⟨⟨some 94,some (83,true),.call (T 84) [T 89,T 93] vI⟩,13,.all,[14,15,16],false,false⟩,⟨Gt 95 83 (.binOp .lss 3 (T 94) (Ci 0) 3),14,.none,[15,16],false,true⟩,⟨Gt 96 83 (.unOp .not 4 (T 95)),15,.none,[16],false,true⟩,Dr (Ol 97 (.pick (T 83) (T 96) (.const (.bool false)))) 16 []])
 (.cond (T 97) (.seq (Rg [0,1,2,3,4,10,11,13] [Mv 98 0,Mv 99 1,Mv 100 2,Mv 101 13,Mv 102 4,Ca 103 97 [T 98,T 99,T 100,T 101,T 102] vI,As 15 103])
 (.seq (Rg [0,2,3,4,10,11,15] [Mv 104 15,As 1 104])
 (.exit 1 (some [0,1,2,3,4,10,11]))))
 .skip))
 (.seq (Rg [0,1,2,3,4,12,13] [Mv 106 0,Mv 107 1,Mv 108 2,Mv 109 13,Mv 110 4,Ca 111 98 [T 106,T 107,T 108,T 109,T 110] (some (.mV [.one (.int .i64),.one .bool])),Mv 105 111,Ex 112 105 0,Ex 113 105 1,As 16 112,As 17 113])
 (.seq (Rg [0,1,2,3,4,12,16,17] [Mv 114 17,As 11 114])
 (.seq (Rg [0,1,2,3,4,11,12,16] [Mv 115 16,Mv 116 1,Bt 117 .sub 3 115 116,Mv 118 2,Mv 119 16,Bt 120 .sub 3 118 119,As 18 117,As 19 120])
 (.seq (Rg [0,1,2,3,4,11,12,16,18,19] [Mv 121 12,Bc 122 .quo 3 121 .i64 8,As 20 122])
 (.seq (Rg [0,1,2,3,4,11,16,18,19,20] [Mv 123 18,Mv 124 19,Bt 125 .lss 3 123 124])
 (.cond (T 125) (.seq (Rg [0,1,2,3,4,11,16,18,20] [Mv 126 18,Mv 127 20,Bt 128 .geq 3 126 127,As 10 128])
 (.seq (Rg [0,1,2,3,4,10,11,16] [Mv 129 0,Mv 130 1,Mv 131 16,Mv 132 3,Mv 133 4,Ca 134 74 [T 129,T 130,T 131,T 132,T 133] (some (.mV []))])
 (Rg [0,2,3,4,10,11,16] [Mv 135 16,Bc 136 .add 3 135 .i64 1,As 1 136])))
 (.seq (Rg [0,1,2,3,4,11,16,19,20] [Mv 137 19,Mv 138 20,Bt 139 .geq 3 137 138,As 10 139])
 (.seq (Rg [0,1,2,3,4,10,11,16] [Mv 140 0,Mv 141 16,Bc 142 .add 3 141 .i64 1,Mv 143 2,Mv 144 3,Mv 145 4,Ca 146 74 [T 140,T 142,T 143,T 144,T 145] (some (.mV []))])
 (Rg [0,1,3,4,10,11,16] [Mv 147 16,As 2 147])))))))))))))))))⟩)],
 []⟩
theorem FT: fE (progU ()) hint live 74 Tryz.f74=some r74:=by kernel_rfl
def x75:RX 75 Tryz.f75:=by constructor;conv=>lhs;cbv
def x76:RX 76 Tryz.f76:=by constructor;conv=>lhs;cbv
def x77:RX 77 Tryz.f77:=by constructor;conv=>lhs;cbv
def x78:RX 78 Tryz.f78:=by constructor;conv=>lhs;cbv
def x79:RX 79 Tryz.f79:=by constructor;conv=>lhs;cbv
def r80 : lG :=
⟨.seq (Rg [0,1] [Bo 2 2 0,Bo 3 2 1,Nw 4 2 z2,Ac 5 0])
 (.seq (.draw (some [2,3,4]) 16 [Dr (Fa 16 0 2) 0 [1,2,5,8,11,12,13,14,15],Db (L1 17 16) 1 16 [2,5,8,11,12,13,14,15],Dr (Fa 19 1 2) 3 [4,5,8,11,12,13,14,15],Db (L1 20 19) 4 19 [5,8,11,12,13,14,15],Dr (Fa 22 0 3) 6 [7,8,11,12,13,14,15],Db (L1 23 22) 7 22 [8,11,12,13,14,15],Dr (Fa 25 1 3) 9 [10,11,12,13,14,15],Db (L1 26 25) 10 25 [11,12,13,14,15],⟨Ca 18 52 [T 17] (some (.val (.one (.int .u64)))),2,.all,[5,8,11,12,13,14,15],false,false⟩,⟨Ca 21 52 [T 20] (some (.val (.one (.int .u64)))),5,.all,[8,11,12,13,14,15],false,false⟩,⟨Ca 24 52 [T 23] (some (.val (.one (.int .u64)))),8,.all,[11,12,13,14,15],false,false⟩,⟨Ca 27 52 [T 26] (some (.val (.one (.int .u64)))),11,.all,[12,13,14,15],false,false⟩,Dr (As 6 18) 12 [13,14,15],Dr (As 7 21) 13 [14,15],Dr (As 8 24) 14 [15],Dr (As 9 27) 15 []])
 (.seq (Rg [2,3,4,6,7,8,9] [Mv 28 6,Mv 29 9,Ca 30 53 [T 28,T 29] (some (.val (.one (.int .u64)))),Mv 31 8,Mv 32 7,Ca 33 53 [T 31,T 32] (some (.val (.one (.int .u64)))),As 10 30,As 11 33])
 (.seq (.draw (some [2,3,4,6,7,8,9,10,11]) 12 [Dr (Mv 35 6) 0 [2,6,7,8,9,10,11],Dr (Mv 36 10) 1 [2,6,7,8,9,10,11],Dr (Bt 37 .quo 85 35 36) 2 [6,7,8,9,10,11],Dr (Mv 38 8) 3 [5,6,7,8,9,10,11],Dr (Mv 39 11) 4 [5,6,7,8,9,10,11],Dr (Bt 40 .quo 85 38 39) 5 [6,7,8,9,10,11],⟨Ca 41 102 [T 37,T 40] (some (.mV [.one (.int .u64),.one (.int .u64)])),6,.all,[7,8,9,10,11],false,false⟩,Dr (Mv 34 41) 7 [8,9,10,11],Dr (Ex 42 34 0) 8 [10,11],Dr (Ex 43 34 1) 9 [11],Dr (As 12 42) 10 [11],Dr (As 13 43) 11 []])
 (.seq (.draw (some [2,3,4,7,9,10,11,12,13]) 12 [Dr (Mv 45 7) 0 [2,6,7,8,9,10,11],Dr (Mv 46 11) 1 [2,6,7,8,9,10,11],Dr (Bt 47 .quo 85 45 46) 2 [6,7,8,9,10,11],Dr (Mv 48 9) 3 [5,6,7,8,9,10,11],Dr (Mv 49 10) 4 [5,6,7,8,9,10,11],Dr (Bt 50 .quo 85 48 49) 5 [6,7,8,9,10,11],⟨Ca 51 102 [T 47,T 50] (some (.mV [.one (.int .u64),.one (.int .u64)])),6,.all,[7,8,9,10,11],false,false⟩,Dr (Mv 44 51) 7 [8,9,10,11],Dr (Ex 52 44 0) 8 [10,11],Dr (Ex 53 44 1) 9 [11],Dr (As 14 52) 10 [11],Dr (As 15 53) 11 []])
 (.seq (.seq (Rg [2,3,4,12,13,14,15] [Mv 54 12,Bc 55 .neq 85 54 .u64 0,Mv 56 55,Gf 57 56 (.move (T 14)),Gf 58 56 (.binOp .neq 85 (T 57) (.const (.int .u64 0)) 85),Ol 59 (.pick (T 56) (.const (.bool true)) (T 58))])
 (.cond (T 59) (.seq (Rg [4] [Ro 60 (.build z2 []),Sr 2 4 60,Ac 5 16])
 .ret)
 .skip))
 (.seq (Rg [2,3,4,13,15] [Fa 61 0 2,L1 62 61,Bc 63 .lss 2 62 .i64 0,Fa 64 0 3,L1 65 64,Bc 66 .lss 2 65 .i64 0,Bt 67 .neq 4 63 66,Mv 68 13,Mv 69 15,Ca 70 54 [T 67,T 68,T 69] (some (.mV [.agg s2,.one (.int .i64)])),Ex 71 70 0,Ex 72 70 1,Sr 2 4 71,As 5 72])
 .ret)))))),
 [.agg 4 2 [.int .i64,.int .i64],.tmp 5],
 [],
 []⟩
theorem Sb: fE (progU ()) hint live 80 Tryz.f80=some r80:=by kernel_rfl
end Go.Proofs.YtdpbiegfljmhmaaGreat
namespace Go.Proofs.YtdpbiegfljmhmaaGreat
open Go.cS
set_option maxRecDepth 100000
def r81 : lG :=
⟨.seq (Rg [0,1] [Bo 2 2 0,Bo 3 2 1,Nw 4 2 z2,Ac 5 0])
 (.seq (.draw (some [2,3,4]) 8 [Dr (Fa 22 1 2) 0 [1,2,5,6,7],Db (L1 23 22) 1 22 [2,5,6,7],Dr (Fa 25 1 3) 3 [4,5,6,7],Db (L1 26 25) 4 25 [5,6,7],⟨Ca 24 52 [T 23] (some (.val (.one (.int .u64)))),2,.all,[5,6,7],false,false⟩,⟨Ca 27 52 [T 26] (some (.val (.one (.int .u64)))),5,.all,[6,7],false,false⟩,Dr (As 6 24) 6 [7],Dr (As 7 27) 7 []])
 (.seq (Rg [2,3,4,6,7] [Mv 28 6,Mv 29 7,Ca 30 53 [T 28,T 29] (some (.val (.one (.int .u64)))),As 8 30])
 (.seq (.draw (some [2,3,4,6,7,8]) 12 [Dr (Fa 32 0 2) 0 [1,2,6,7,8,9,10,11],Db (L1 33 32) 1 32 [2,6,7,8,9,10,11],Dr (Mv 35 7) 3 [5,6,7,8,9,10,11],Dr (Mv 36 8) 4 [5,6,7,8,9,10,11],Dr (Bt 37 .quo 85 35 36) 5 [6,7,8,9,10,11],⟨Ca 34 52 [T 33] (some (.val (.one (.int .u64)))),2,.all,[6,7,8,9,10,11],false,false⟩,⟨Ca 38 102 [T 34,T 37] (some (.mV [.one (.int .u64),.one (.int .u64)])),6,.all,[7,8,9,10,11],false,false⟩,Dr (Mv 31 38) 7 [8,9,10,11],Dr (Ex 39 31 0) 8 [10,11],Dr (Ex 40 31 1) 9 [11],Dr (As 9 39) 10 [11],Dr (As 10 40) 11 []])
 (.seq (.draw (some [2,3,4,6,7,8,9,10]) 12 [Dr (Fa 42 0 3) 0 [1,2,6,7,8,9,10,11],Db (L1 43 42) 1 42 [2,6,7,8,9,10,11],Dr (Mv 45 6) 3 [5,6,7,8,9,10,11],Dr (Mv 46 8) 4 [5,6,7,8,9,10,11],Dr (Bt 47 .quo 85 45 46) 5 [6,7,8,9,10,11],⟨Ca 44 52 [T 43] (some (.val (.one (.int .u64)))),2,.all,[6,7,8,9,10,11],false,false⟩,⟨Ca 48 102 [T 44,T 47] (some (.mV [.one (.int .u64),.one (.int .u64)])),6,.all,[7,8,9,10,11],false,false⟩,Dr (Mv 41 48) 7 [8,9,10,11],Dr (Ex 49 41 0) 8 [10,11],Dr (Ex 50 41 1) 9 [11],Dr (As 11 49) 10 [11],Dr (As 12 50) 11 []])
 (.seq (Rg [2,3,4,6,7,8,9,10,11,12] [Fa 51 0 2,L1 52 51,Bc 53 .lss 2 52 .i64 0,As 13 53])
 (.seq (Rg [2,3,4,6,7,8,9,10,11,12,13] [Ol 14 (.assign (.const (.int .u64 0))),Ol 15 (.assign (.const (.int .u64 0))),Ol 16 (.assign (.const (.int .u64 0)))])
 (.seq (.block 0 (.seq (Rg [2,3,4,6,7,8,9,10,11,12,13] [Fa 71 0 2,L1 72 71,Bc 73 .lss 2 72 .i64 0,Fa 74 0 3,L1 75 74,Bc 76 .lss 2 75 .i64 0,Bt 77 .eql 4 73 76,As 70 77])
 (.cond (T 70) (.seq (Rg [4,6,7,8,9,10,11,12,13] [Mv 79 10,Mv 80 12,Ca 81 103 [T 79,T 80,.const (.int .u64 0)] (some (.mV [.one (.int .u64),.one (.int .u64)])),Mv 78 81,Ex 82 78 0,Ex 83 78 1,As 15 82,As 16 83])
 (Rg [4,6,7,8,9,11,13,15,16] [Mv 85 9,Mv 86 11,Mv 87 16,Ca 88 103 [T 85,T 86,T 87] (some (.mV [.one (.int .u64),.one (.int .u64)])),Mv 84 88,Ex 89 84 0,Ex 90 84 1,As 14 89]))
 (.seq (Rg [3,4,6,7,8,9,10,11,12,13] [Mv 92 9,Mv 93 10,Mv 94 11,Mv 95 12,Ca 96 104 [T 92,T 93,T 94,T 95] vI,Bc 97 .geq 3 96 .i64 0,As 91 97])
 (.cond (T 91) (.seq (Rg [4,6,7,8,9,10,11,12,13] [Mv 99 10,Mv 100 12,Ca 101 105 [T 99,T 100,.const (.int .u64 0)] (some (.mV [.one (.int .u64),.one (.int .u64)])),Mv 98 101,Ex 102 98 0,Ex 103 98 1,As 15 102,As 16 103])
 (Rg [4,6,7,8,9,11,13,15,16] [Mv 105 9,Mv 106 11,Mv 107 16,Ca 108 105 [T 105,T 106,T 107] (some (.mV [.one (.int .u64),.one (.int .u64)])),Mv 104 108,Ex 109 104 0,Ex 110 104 1,As 14 109]))
 (.seq (Rg [3,4,6,7,8,9,10,11,12] [Fa 54 0 3,L1 55 54,Bc 56 .lss 2 55 .i64 0,As 13 56])
 (.seq (Rg [4,6,7,8,9,10,11,12,13] [Mv 58 12,Mv 59 10,Ca 60 105 [T 58,T 59,.const (.int .u64 0)] (some (.mV [.one (.int .u64),.one (.int .u64)])),Mv 57 60,Ex 61 57 0,Ex 62 57 1,As 15 61,As 16 62])
 (Rg [4,6,7,8,9,11,13,15,16] [Mv 64 11,Mv 65 9,Mv 66 16,Ca 67 105 [T 64,T 65,T 66] (some (.mV [.one (.int .u64),.one (.int .u64)])),Mv 63 67,Ex 68 63 0,Ex 69 63 1,As 14 68]))))))))
 (.seq (Rg [4,6,7,8,13,14,15] [Mv 111 8,Mv 112 14,Mv 113 15,Mv 114 8,Ca 115 106 [T 112,T 113,T 114] (some (.val (.one (.int .u64)))),Ca 116 53 [T 111,T 115] (some (.val (.one (.int .u64)))),As 17 116])
 (.seq (.seq (Rg [4,6,7,8,13,14,15,17] [Mv 117 14,Mv 118 17,Bt 119 .geq 85 117 118])
 (.cond (T 119) (.seq (Rg [4] [Ro 120 (.build z2 []),Sr 2 4 120,Ac 5 16])
 .ret)
 .skip))
 (.seq (Rg [4,6,7,8,13,14,15,17] [Mv 122 14,Mv 123 15,Mv 124 17,Ca 125 107 [T 122,T 123,T 124] (some (.mV [.one (.int .u64),.one (.int .u64)])),Mv 121 125,Ex 126 121 0,Ex 127 121 1,As 18 126,As 19 127])
 (.seq (.draw (some [4,6,7,8,13,17,18]) 12 [Dr (Mv 129 6) 0 [2,6,7,8,9,10,11],Dr (Mv 130 8) 1 [2,6,7,8,9,10,11],Dr (Bt 131 .quo 85 129 130) 2 [6,7,8,9,10,11],Dr (Mv 132 7) 3 [5,6,7,8,9,10,11],Dr (Mv 133 17) 4 [5,6,7,8,9,10,11],Dr (Bt 134 .quo 85 132 133) 5 [6,7,8,9,10,11],⟨Ca 135 102 [T 131,T 134] (some (.mV [.one (.int .u64),.one (.int .u64)])),6,.all,[7,8,9,10,11],false,false⟩,Dr (Mv 128 135) 7 [8,9,10,11],Dr (Ex 136 128 0) 8 [10,11],Dr (Ex 137 128 1) 9 [11],Dr (As 20 136) 10 [11],Dr (As 21 137) 11 []])
 (.seq (.seq (Rg [4,13,18,20,21] [Mv 138 20,Bc 139 .neq 85 138 .u64 0])
 (.cond (T 139) (.seq (Rg [4] [Ro 140 (.build z2 []),Sr 2 4 140,Ac 5 16])
 .ret)
 .skip))
 (.seq (Rg [4,13,18,21] [Mv 141 13,Mv 142 18,Mv 143 21,Ca 144 54 [T 141,T 142,T 143] (some (.mV [.agg s2,.one (.int .i64)])),Ex 145 144 0,Ex 146 144 1,Sr 2 4 145,As 5 146])
 .ret))))))))))))),
 [.agg 4 2 [.int .i64,.int .i64],.tmp 5],
 [],
 []⟩
theorem Sc: fE (progU ()) hint live 81 Tryz.f81=some r81:=by kernel_rfl
def x82:RX 82 Tryz.f82:=by constructor;conv=>lhs;cbv
def x84:RX 84 Tryz.f84:=by constructor;conv=>lhs;cbv
def x85:RX 85 Tryz.f85:=by constructor;conv=>lhs;cbv
def r86 : lG :=
⟨.seq (Rg [0,1,2] [Ol 7 (.move (Ci 0))])
 (.block 0 (.loop 1 (some [0,1,2,7]) (some [0,1,2,7]))),
 [],
 [(1,⟨some [0,1,2,7],some [0,1,2,7],.seq (Rg [0,1,2,7] [Bc 8 .lss 3 7 .i64 4])
 (.seq (.cond (T 8) .skip
 (.exit 0 (some [])))
 (.seq (.block 1 (.seq (Rg [0,1,2,7] [Mv 9 7,As 6 9])
 (.draw (some [0,1,2,6,7]) 32 [Dr (Mv 10 0) 0 [22,23,24,25,26,30,31],Dr (Mv 11 6) 1 [24,25,26,30,31],Dr (Mv 12 1) 2 [25,26,30,31],Dr (Mv 13 0) 3 [27,28,29,30,31],Dr (Mv 14 6) 4 [29,30,31],Dr (Mv 15 2) 5 [30,31],Dr (Mv 16 0) 6 [9,10,11,12,13,25,26,30,31],Dr (Mv 17 6) 7 [11,12,13,25,26,30,31],Dr (Mv 18 2) 8 [12,13,25,26,30,31],Dr (Ol 19 (.nilCheck (T 16))) 9 [10,11,12,13,25,26,30,31],Dr (Fa 20 1 19) 10 [11,12,13,25,26,30,31],Dr (Ro 21 (.vW 4 4 (T 20) (T 17))) 11 [12,13,25,26,30,31],Dr (Ro 22 (.vW 4 1 (T 21) (T 18))) 12 [13,25,26,30,31],Db (L1 23 22) 13 22 [25,26,30,31],Dr (Mv 24 0) 14 [17,18,19,20,21,25,26,30,31],Dr (Mv 25 6) 15 [19,20,21,25,26,30,31],Dr (Mv 26 1) 16 [20,21,25,26,30,31],Dr (Ol 27 (.nilCheck (T 24))) 17 [18,19,20,21,25,26,30,31],Dr (Fa 28 1 27) 18 [19,20,21,25,26,30,31],Dr (Ro 29 (.vW 4 4 (T 28) (T 25))) 19 [20,21,25,26,30,31],Dr (Ro 30 (.vW 4 1 (T 29) (T 26))) 20 [21,25,26,30,31],Db (L1 31 30) 21 30 [25,26,30,31],Dr (Ol 32 (.nilCheck (T 10))) 22 [23,24,25,26,30,31],Dr (Fa 33 1 32) 23 [24,25,26,30,31],Dr (Ro 34 (.vW 4 4 (T 33) (T 11))) 24 [25,26,30,31],Dr (Ro 35 (.vW 4 1 (T 34) (T 12))) 25 [26,30,31],⟨Sr 1 35 23,26,.dm (T 35),[30,31],true,true⟩,Dr (Ol 36 (.nilCheck (T 13))) 27 [28,29,30,31],Dr (Fa 37 1 36) 28 [29,30,31],Dr (Ro 38 (.vW 4 4 (T 37) (T 14))) 29 [30,31],Dr (Ro 39 (.vW 4 1 (T 38) (T 15))) 30 [31],⟨Sr 1 39 31,31,.dm (T 39),[],true,true⟩])))
 (Rg [0,1,2,7] [Bc 40 .add 3 7 .i64 1,Mv 7 40])))⟩)],
 []⟩
theorem FU: fE (progU ()) hint live 86 Tryz.f86=some r86:=by kernel_rfl
def x87:RX 87 Tryz.f87:=by constructor;conv=>lhs;cbv
def x88:RX 88 Tryz.f88:=by constructor;conv=>lhs;cbv
def x89:RX 89 Tryz.f89:=by constructor;conv=>lhs;cbv
def x90:RX 90 Tryz.f90:=by constructor;conv=>lhs;cbv
def x91:RX 91 Tryz.f91:=by constructor;conv=>lhs;cbv
def x92:RX 92 Tryz.f92:=by constructor;conv=>lhs;cbv
def x93:RX 93 Tryz.f93:=by constructor;conv=>lhs;cbv
def x94:RX 94 Tryz.f94:=by constructor;conv=>lhs;cbv
def x95:RX 95 Tryz.f95:=by constructor;conv=>lhs;cbv
def r96 : lG :=
⟨.seq (Rg [0,1,2,3] [Ol 8 (.assign (.const (.bool false)))])
 (.seq (Rg [0,1,2,3] [Mv 13 1,Bc 14 .add 3 13 .i64 1,As 9 14])
 (.seq (.seq (Rg [0,1,2,3,9] [Ac 10 0])
 (.block 0 (.loop 3 (some [0,1,2,3,9,10]) (some [0,1,2,3,9,10]))))
 (.seq (Rg [] [Ol 8 (.assign (.const (.bool false)))])
 .ret))),
 [.tmp 8],
 [(3,⟨some [0,1,2,3,9,10],some [0,1,2,3,9,10],.seq (.seq (Rg [0,1,2,3,9,10] [Mv 15 10,Bc 16 .lss 3 15 .i64 5])
 (.cond (T 16) .skip
 (.exit 0 (some []))))
 (.seq (.block 1 (.seq (.block 2 (.loop 5 (some [0,1,2,3,9,10]) (some [0,1,2,3,9,10])))
 (.seq (.seq (Rg [0,1,2,3,9,10] [Mv 39 9,Mv 40 2,Bt 41 .eql 3 39 40])
 (.cond (T 41) (.seq (Rg [] [Ol 8 (.assign (.const (.bool true)))])
 .ret)
 .skip))
 (.seq (.seq (Rg [0,1,2,3,9,10] [Mv 42 2,Mv 43 1,Bt 44 .sub 3 42 43,Bc 45 .lss 3 44 .i64 50])
 (.cond (T 45) (.seq (Rg [] [Ol 8 (.assign (.const (.bool false)))])
 .ret)
 .skip))
 (.seq (.draw (some [0,1,2,3,9,10]) 18 [Dr (Mv 46 0) 0 [14,15,16,17],Dr (Mv 47 9) 1 [14,15,16,17],Dr (Mv 48 0) 2 [16,17],Dr (Mv 49 9) 3 [4,16,17],Dr (Bc 50 .sub 3 49 .i64 1) 4 [16,17],Dr (Mv 51 0) 5 [8,9,14,15,16,17],Dr (Mv 52 9) 6 [7,8,9,14,15,16,17],Dr (Bc 53 .sub 3 52 .i64 1) 7 [8,9,14,15,16,17],Dr (Ix 54 1 51 53) 8 [9,14,15,16,17],Db (Ro 55 (.aL .slice (T 54))) 9 54 [14,15,16,17],Dr (Mv 56 0) 10 [12,13,14,15,16,17],Dr (Mv 57 9) 11 [12,13,14,15,16,17],Dr (Ix 58 1 56 57) 12 [13,14,15,16,17],Db (Ro 59 (.aL .slice (T 58))) 13 58 [14,15,16,17],Dr (Ix 60 1 46 47) 14 [15,16,17],⟨Sr 1 60 55,15,.dm (T 60),[16,17],true,true⟩,Dr (Ix 61 1 48 50) 16 [17],⟨Sr 1 61 59,17,.dm (T 61),[],true,true⟩])
 (.seq (.seq (Rg [0,1,2,3,9,10] [Mv 62 9,Mv 63 1,Bt 64 .sub 3 62 63,Bc 65 .geq 3 64 .i64 2])
 (.cond (T 65) (.seq (Rg [0,1,2,3,9,10] [Mv 66 9,Bc 67 .sub 3 66 .i64 1,As 11 67])
 (.block 4 (.loop 14 (some [0,1,2,3,9,10,11]) (some [0,1,2,3,9,10,11]))))
 .skip))
 (.seq (Rg [0,1,2,3,9,10] [Mv 101 2,Mv 102 9,Bt 103 .sub 3 101 102,Bc 104 .geq 3 103 .i64 2])
 (.cond (T 104) (.seq (Rg [0,1,2,3,9,10] [Mv 105 9,Bc 106 .add 3 105 .i64 1,As 12 106])
 (.block 6 (.loop 20 (some [0,1,2,3,9,10,12]) (some [0,1,2,3,9,10,12]))))
 .skip))))))))
 (Rg [0,1,2,3,9,10] [Mv 17 10,Bc 18 .add 3 17 .i64 1,As 10 18]))⟩),(5,⟨some [0,1,2,3,9,10],some [0,1,2,3,9,10],.seq (.seq (.draw (some [0,1,2,3,9,10]) 18 [Dr (Mv 19 9) 0 [2,3,4,5,6,7,8,9,10,11,12,13,14,15,16,17],Dr (Mv 20 2) 1 [2,3,4,5,6,7,8,9,10,11,12,13,14,15,16,17],Dr (Bt 21 .lss 3 19 20) 2 [3,4,5,6,7,8,9,10,11,12,13,14,15,16,17],Dr (Mv 22 21) 3 [4,5,6,7,8,9,10,11,12,13,14,15,16,17],⟨Gt 23 22 (.move (T 3)),4,.none,[14,15,16,17],false,true⟩,⟨Gt 24 22 (.move (T 0)),5,.none,[7,8,14,15,16,17],false,true⟩,⟨Gt 25 22 (.move (T 9)),6,.none,[7,8,14,15,16,17],false,true⟩,⟨Ht 26 22 (.rI 1 (T 24) (T 25)),7,.none,[8,14,15,16,17],false,true⟩,⟨Ht 27 22 (.aL .slice (T 26)),8,.dm (T 26),[14,15,16,17],false,true⟩,⟨Gt 28 22 (.move (T 0)),9,.none,[12,13,14,15,16,17],false,true⟩,⟨Gt 29 22 (.move (T 9)),10,.none,[11,12,13,14,15,16,17],false,true⟩,⟨Gt 30 22 (.binOp .sub 3 (T 29) (Ci 1) 3),11,.none,[12,13,14,15,16,17],false,true⟩,⟨Ht 31 22 (.rI 1 (T 28) (T 30)),12,.none,[13,14,15,16,17],false,true⟩,⟨Ht 32 22 (.aL .slice (T 31)),13,.dm (T 31),[14,15,16,17],false,true⟩,⟨⟨some 33,some (22,true),.call (T 23) [T 27,T 32] vI⟩,14,.all,[15,16,17],false,false⟩,⟨Gt 34 22 (.binOp .lss 3 (T 33) (Ci 0) 3),15,.none,[16,17],false,true⟩,⟨Gt 35 22 (.unOp .not 4 (T 34)),16,.none,[17],false,true⟩,Dr (Ol 36 (.pick (T 22) (T 35) (.const (.bool false)))) 17 []])
 (.cond (T 36) .skip
 (.exit 2 (some [0,1,2,3,9,10]))))
 (.block 3 (Rg [0,1,2,3,9,10] [Mv 37 9,Bc 38 .add 3 37 .i64 1,As 9 38]))⟩),(14,⟨some [0,1,2,3,9,10,11],some [0,1,2,3,9,10,11],.seq (.seq (Rg [0,1,2,3,9,10,11] [Mv 68 11,Bc 69 .geq 3 68 .i64 1])
 (.cond (T 69) .skip
 (.exit 4 (some [0,1,2,3,9,10]))))
 (.seq (.block 5 (.seq (.seq (.draw (some [0,1,2,3,9,10,11]) 13 [Dr (Mv 72 3) 0 [10,11,12],Dr (Mv 73 0) 1 [3,4,10,11,12],Dr (Mv 74 11) 2 [3,4,10,11,12],Dr (Ix 75 1 73 74) 3 [4,10,11,12],Db (Ro 76 (.aL .slice (T 75))) 4 75 [10,11,12],Dr (Mv 77 0) 5 [8,9,10,11,12],Dr (Mv 78 11) 6 [7,8,9,10,11,12],Dr (Bc 79 .sub 3 78 .i64 1) 7 [8,9,10,11,12],Dr (Ix 80 1 77 79) 8 [9,10,11,12],Db (Ro 81 (.aL .slice (T 80))) 9 80 [10,11,12],⟨⟨some 82,none,.call (T 72) [T 76,T 81] vI⟩,10,.all,[11,12],false,false⟩,Dr (Bc 83 .lss 3 82 .i64 0) 11 [12],Dr (Ol 84 (.unOp .not 4 (T 83))) 12 []])
 (.cond (T 84) (.exit 4 (some [0,1,2,3,9,10]))
 .skip))
 (.draw (some [0,1,2,3,9,10,11]) 18 [Dr (Mv 85 0) 0 [14,15,16,17],Dr (Mv 86 11) 1 [14,15,16,17],Dr (Mv 87 0) 2 [16,17],Dr (Mv 88 11) 3 [4,16,17],Dr (Bc 89 .sub 3 88 .i64 1) 4 [16,17],Dr (Mv 90 0) 5 [8,9,14,15,16,17],Dr (Mv 91 11) 6 [7,8,9,14,15,16,17],Dr (Bc 92 .sub 3 91 .i64 1) 7 [8,9,14,15,16,17],Dr (Ix 93 1 90 92) 8 [9,14,15,16,17],Db (Ro 94 (.aL .slice (T 93))) 9 93 [14,15,16,17],Dr (Mv 95 0) 10 [12,13,14,15,16,17],Dr (Mv 96 11) 11 [12,13,14,15,16,17],Dr (Ix 97 1 95 96) 12 [13,14,15,16,17],Db (Ro 98 (.aL .slice (T 97))) 13 97 [14,15,16,17],Dr (Ix 99 1 85 86) 14 [15,16,17],⟨Sr 1 99 94,15,.dm (T 99),[16,17],true,true⟩,Dr (Ix 100 1 87 89) 16 [17],⟨Sr 1 100 98,17,.dm (T 100),[],true,true⟩])))
 (Rg [0,1,2,3,9,10,11] [Mv 70 11,Bc 71 .sub 3 70 .i64 1,As 11 71]))⟩),(20,⟨some [0,1,2,3,9,10,12],some [0,1,2,3,9,10,12],.seq (.seq (Rg [0,1,2,3,9,10,12] [Mv 107 12,Mv 108 2,Bt 109 .lss 3 107 108])
 (.cond (T 109) .skip
 (.exit 6 (some [0,1,2,3,9,10]))))
 (.seq (.block 7 (.seq (.seq (.draw (some [0,1,2,3,9,10,12]) 13 [Dr (Mv 112 3) 0 [10,11,12],Dr (Mv 113 0) 1 [3,4,10,11,12],Dr (Mv 114 12) 2 [3,4,10,11,12],Dr (Ix 115 1 113 114) 3 [4,10,11,12],Db (Ro 116 (.aL .slice (T 115))) 4 115 [10,11,12],Dr (Mv 117 0) 5 [8,9,10,11,12],Dr (Mv 118 12) 6 [7,8,9,10,11,12],Dr (Bc 119 .sub 3 118 .i64 1) 7 [8,9,10,11,12],Dr (Ix 120 1 117 119) 8 [9,10,11,12],Db (Ro 121 (.aL .slice (T 120))) 9 120 [10,11,12],⟨⟨some 122,none,.call (T 112) [T 116,T 121] vI⟩,10,.all,[11,12],false,false⟩,Dr (Bc 123 .lss 3 122 .i64 0) 11 [12],Dr (Ol 124 (.unOp .not 4 (T 123))) 12 []])
 (.cond (T 124) (.exit 6 (some [0,1,2,3,9,10]))
 .skip))
 (.draw (some [0,1,2,3,9,10,12]) 18 [Dr (Mv 125 0) 0 [14,15,16,17],Dr (Mv 126 12) 1 [14,15,16,17],Dr (Mv 127 0) 2 [16,17],Dr (Mv 128 12) 3 [4,16,17],Dr (Bc 129 .sub 3 128 .i64 1) 4 [16,17],Dr (Mv 130 0) 5 [8,9,14,15,16,17],Dr (Mv 131 12) 6 [7,8,9,14,15,16,17],Dr (Bc 132 .sub 3 131 .i64 1) 7 [8,9,14,15,16,17],Dr (Ix 133 1 130 132) 8 [9,14,15,16,17],Db (Ro 134 (.aL .slice (T 133))) 9 133 [14,15,16,17],Dr (Mv 135 0) 10 [12,13,14,15,16,17],Dr (Mv 136 12) 11 [12,13,14,15,16,17],Dr (Ix 137 1 135 136) 12 [13,14,15,16,17],Db (Ro 138 (.aL .slice (T 137))) 13 137 [14,15,16,17],Dr (Ix 139 1 125 126) 14 [15,16,17],⟨Sr 1 139 134,15,.dm (T 139),[16,17],true,true⟩,Dr (Ix 140 1 127 129) 16 [17],⟨Sr 1 140 138,17,.dm (T 140),[],true,true⟩])))
 (Rg [0,1,2,3,9,10,12] [Mv 110 12,Bc 111 .add 3 110 .i64 1,As 12 111]))⟩)],
 []⟩
theorem lH: fE (progU ()) hint live 96 Tryz.f96=some r96:=by kernel_rfl
end Go.Proofs.YtdpbiegfljmhmaaGreat
namespace Go.Proofs.YtdpbiegfljmhmaaGreat
open Go.cS
set_option maxRecDepth 100000
def r4 : lG :=
⟨.seq (Rg [0,1] [Bo 2 2 0,Ol 4 (.assign (.const (.bool false)))])
 (.seq (Rg [1,2] [Ca 19 5 [] vB,As 5 19])
 (.seq (.seq (Rg [1,2,5] [Ro 20 (.load 2 [.slice,.slice] (T 2)),Ca 21 6 [T 20] vI,Bc 22 .neq 3 21 .i64 0,Mv 23 22,Gf 24 23 (.move (T 1)),Hf 25 23 (.lS (T 24)),Hf 26 23 (.fieldAddr 0 (T 2)),Hf 27 23 (.aL .slice (T 26)),Hf 28 23 (.rI 1 (T 27) (Ci 0)),Hf 29 23 (.aL .slice (T 28)),Hf 30 23 (.lS (T 29)),Gf 31 23 (.binOp .neq 3 (T 25) (T 30) 3),Ol 32 (.pick (T 23) (.const (.bool true)) (T 31)),Mv 33 32,Gf 34 33 (.move (T 5)),Gf 35 33 (.unOp .not 4 (T 34)),Ol 36 (.pick (T 33) (.const (.bool true)) (T 35))])
 (.cond (T 36) (.seq (Rg [5] [Mv 37 5,As 4 37])
 .ret)
 .skip))
 (.seq (.seq (Rg [1,2,5] [Ac 6 0])
 (.block 0 (.loop 5 none (some [1,2,5,6]))))
 (.seq (Rg [1,2,5] [Fa 59 0 2,Ro 60 (.aL .slice (T 59)),Ro 61 (.build [.slice none 0 0,.slice none 0 0] [(0,1,(T 60))]),Nw 7 2 [.slice none 0 0,.slice none 0 0],Sr 2 7 61])
 (.seq (.seq (Rg [1,2,5,7] [Ac 8 0])
 (.block 2 (.loop 11 (some [1,2,5,7,8]) (some [1,2,5,7,8]))))
 (.seq (Rg [1,5,7] [Ro 94 (.load 2 [.slice,.slice] (T 7)),Ca 95 9 [T 94] (some (.mV [.one .bool,.one (.int .i64)])),Mv 93 95,Ex 96 93 0,Ex 97 93 1,As 11 96,As 12 97])
 (.seq (Rg [1,5,7,11,12] [Ro 99 (.load 2 [.slice,.slice] (T 7)),Mv 100 1,Ca 101 16 [T 99,T 100] (some (.mV [.one .bool,.one (.int .i64)])),Mv 98 101,Ex 102 98 0,Ex 103 98 1,As 13 102,As 14 103])
 (.seq (Rg [1,5,7,11,12,13,14] [Ro 105 (.load 2 [.slice,.slice] (T 7)),Ca 106 10 [T 105] (some (.mV [.one .slice,.one (.int .i64)])),Mv 104 106,Ex 107 104 0,Ex 108 104 1,As 15 107,As 16 108])
 (.seq (.seq (Rg [1,5,11,12,13,14,15,16] [Mv 109 12,Bc 110 .neq 29 109 .i64 0,Mv 111 110,Gf 112 111 (.move (T 14)),Gf 113 111 (.binOp .neq 29 (T 112) (Ci 0) 29),Ol 114 (.pick (T 111) (.const (.bool true)) (T 113)),Mv 115 114,Gf 116 115 (.move (T 11)),Gf 117 115 (.unOp .not 4 (T 116)),Ol 118 (.pick (T 115) (.const (.bool true)) (T 117)),Mv 119 118,Gf 120 119 (.move (T 13)),Gf 121 119 (.unOp .not 4 (T 120)),Ol 122 (.pick (T 119) (.const (.bool true)) (T 121)),Mv 123 122,Gf 124 123 (.move (T 16)),Gf 125 123 (.binOp .eql 29 (T 124) (Ci 6) 29),Ol 126 (.pick (T 123) (.const (.bool true)) (T 125))])
 (.cond (T 126) (.seq (Rg [] [Ol 4 (.assign (.const (.bool false)))])
 .ret)
 .skip))
 (.seq (Rg [1,5,15,16] [Ac 17 0])
 (.seq (.seq (Rg [1,5,15,16,17] [Ac 18 0])
 (.block 4 (.loop 24 none (some [1,5,15,16,17,18]))))
 (.seq (Rg [5,16,17] [Mv 143 5,Mv 144 143,Gt 145 144 (.move (T 16)),Gt 146 144 (.binOp .neq 29 (T 145) (Ci 0) 29),Gt 147 144 (.move (T 146)),Gf 148 147 (.move (T 17)),Gf 149 147 (.binOp .eql 3 (T 148) (Ci 1) 3),Gt 150 144 (.pick (T 147) (.const (.bool true)) (T 149)),Ol 151 (.pick (T 144) (T 150) (.const (.bool false))),As 4 151])
 .ret)))))))))))),
 [.tmp 4],
 [(5,⟨none,some [1,2,5,6],.seq (.seq (Rg [1,2,5,6] [Mv 38 6,Mv 39 1,Ro 40 (.lS (T 39)),Bt 41 .lss 3 38 40])
 (.cond (T 41) .skip
 (.exit 0 (some [1,2,5]))))
 (.seq (.block 1 (.seq (Rg [1,2,5,6] [Mv 44 1,Mv 45 6,Ix 46 2 44 45,Ld 47 46,Ca 48 17 [T 47] vB,Ol 49 (.unOp .not 4 (T 48)),Mv 50 49,Gf 51 50 (.move (T 1)),Gf 52 50 (.move (T 6)),Hf 53 50 (.rI 2 (T 51) (T 52)),Hf 54 50 (.fieldAddr 1 (T 53)),Hf 55 50 (.aL (.int .i64) (T 54)),Gf 56 50 (.binOp .gtr 2 (T 55) (Ci 12) 2),Ol 57 (.pick (T 50) (.const (.bool true)) (T 56))])
 (.cond (T 57) (.seq (Rg [5] [Mv 58 5,As 4 58])
 .ret)
 .skip)))
 (Rg [1,2,5,6] [Mv 42 6,Bc 43 .add 3 42 .i64 1,As 6 43]))⟩),(11,⟨some [1,2,5,7,8],some [1,2,5,7,8],.seq (.seq (Rg [1,2,5,7,8] [Mv 62 8,Fa 63 0 2,Ro 64 (.aL .slice (T 63)),Ro 65 (.lS (T 64)),Bt 66 .lss 3 62 65])
 (.cond (T 66) .skip
 (.exit 2 (some [1,5,7]))))
 (.seq (.block 3 (.seq (Rg [1,2,5,7,8] [Fa 70 0 2,Ro 71 (.aL .slice (T 70)),Mv 72 8,Ix 73 1 71 72,Ro 74 (.aL .slice (T 73)),Mv 75 1,Ca 76 18 [T 74,T 75] (some (.mV [.agg s2,.one .bool])),Mv 69 76,Ex 77 69 0,Ex 78 69 1,Nw 9 2 z2,Sr 2 9 77,As 10 78])
 (.seq (.seq (Rg [1,2,5,7,8,9,10] [Mv 79 10,Ol 80 (.unOp .not 4 (T 79)),Mv 81 80,Hf 82 81 (.fieldAddr 1 (T 9)),Hf 83 81 (.aL (.int .i64) (T 82)),Gf 84 81 (.binOp .gtr 2 (T 83) (Ci 60) 2),Ol 85 (.pick (T 81) (.const (.bool true)) (T 84))])
 (.cond (T 85) (.seq (Rg [5] [Mv 86 5,As 4 86])
 .ret)
 .skip))
 (Rg [1,2,5,7,8,9] [Fa 87 1 7,Ro 88 (.aL .slice (T 87)),Ld 89 9,Ro 90 (.buildSlice 2 1 z2 [(0,2,(T 89))]),⟨some 91,none,.op false (.cJ (.call ⟨.builtin .append,#[T 88,T 90],#[23,23]⟩))⟩,Fa 92 1 7,Sr 1 92 91]))))
 (Rg [1,2,5,7,8] [Mv 67 8,Bc 68 .add 3 67 .i64 1,As 8 68]))⟩),(24,⟨none,some [1,5,15,16,17,18],.seq (.seq (Rg [1,5,15,16,17,18] [Mv 127 18,Mv 128 15,Ro 129 (.lS (T 128)),Bt 130 .lss 3 127 129])
 (.cond (T 130) .skip
 (.exit 4 (some [5,16,17]))))
 (.seq (.block 5 (.seq (Rg [1,5,15,16,17,18] [Mv 133 15,Mv 134 18,Ix 135 1 133 134,Ro 136 (.aL .slice (T 135)),Ro 137 (.buildSlice 1 1 [.slice none 0 0] [(0,1,(T 136))]),Mv 138 1,Ro 139 (.buildSlice 1 1 [.slice none 0 0] [(0,1,(T 138))]),Ca 140 19 [T 137,T 139] vB])
 (.cond (T 140) (Rg [1,5,15,16,17,18] [Mv 141 17,Bc 142 .add 3 141 .i64 1,As 17 142])
 .skip)))
 (Rg [1,5,15,16,17,18] [Mv 131 18,Bc 132 .add 3 131 .i64 1,As 18 132]))⟩)],
 []⟩
theorem rz: fE (progU ()) hint live 4 Tryz.f4=some r4:=by kernel_rfl
def r6 : lG :=
⟨.seq (Rg [0] [Bo 1 2 0,Ac 2 0])
 (.seq (.seq (Rg [1] [Fa 6 0 1,Ro 7 (.aL .slice (T 6)),Ro 8 (.lS (T 7)),Bc 9 .gtr 3 8 .i64 4])
 (.cond (T 9) (.seq (Rg [] [Ac 2 4])
 .ret)
 .skip))
 (.seq (.seq (Rg [1] [Ac 3 0])
 (.block 0 (.loop 4 none (some [1,3]))))
 (.seq (.seq (Rg [1] [Fa 24 0 1,Ro 25 (.aL .slice (T 24)),Ro 26 (.lS (T 25)),Bc 27 .eql 3 26 .i64 0,Mv 28 27,Hf 29 28 (.fieldAddr 0 (T 1)),Hf 30 28 (.aL .slice (T 29)),Hf 31 28 (.rI 1 (T 30) (Ci 0)),Hf 32 28 (.aL .slice (T 31)),Hf 33 28 (.lS (T 32)),Gf 34 28 (.binOp .eql 3 (T 33) (Ci 0) 3),Ol 35 (.pick (T 28) (.const (.bool true)) (T 34)),Mv 36 35,Hf 37 36 (.fieldAddr 1 (T 1)),Hf 38 36 (.aL .slice (T 37)),Hf 39 36 (.lS (T 38)),Hf 40 36 (.fieldAddr 0 (T 1)),Hf 41 36 (.aL .slice (T 40)),Hf 42 36 (.lS (T 41)),Gf 43 36 (.binOp .neq 3 (T 39) (T 42) 3),Ol 44 (.pick (T 36) (.const (.bool true)) (T 43))])
 (.cond (T 44) (.seq (Rg [] [Ac 2 8])
 .ret)
 .skip))
 (.seq (.seq (Rg [1] [Ac 4 0])
 (.block 2 (.loop 11 (some [1,4]) (some [1,4]))))
 (.seq (Rg [] [Ac 2 0])
 .ret))))),
 [.tmp 2],
 [(4,⟨none,some [1,3],.seq (.seq (Rg [1,3] [Mv 10 3,Fa 11 0 1,Ro 12 (.aL .slice (T 11)),Ro 13 (.lS (T 12)),Bt 14 .lss 3 10 13])
 (.cond (T 14) .skip
 (.exit 0 (some [1]))))
 (.seq (.block 1 (.seq (Rg [1,3] [Fa 17 0 1,Ro 18 (.aL .slice (T 17)),Mv 19 3,Ix 20 1 18 19,Ro 21 (.aL .slice (T 20)),Ro 22 (.lS (T 21)),Bc 23 .gtr 3 22 .i64 4])
 (.cond (T 23) (.seq (Rg [] [Ac 2 4])
 .ret)
 .skip)))
 (Rg [1,3] [Mv 15 3,Bc 16 .add 3 15 .i64 1,As 3 16]))⟩),(11,⟨some [1,4],some [1,4],.seq (.seq (Rg [1,4] [Mv 45 4,Fa 46 0 1,Ro 47 (.aL .slice (T 46)),Ro 48 (.lS (T 47)),Bt 49 .lss 3 45 48])
 (.cond (T 49) .skip
 (.exit 2 (some []))))
 (.seq (.block 3 (.seq (.seq (.draw (some [1,4]) 30 [Dr (Fa 52 0 1) 0 [1,3,4,5,11,12,13,14,15,16,17,18,19,20,21,22,23,24,25,26,27,28,29],Db (Ro 53 (.aL .slice (T 52))) 1 52 [3,4,5,11,12,13,14,15,16,17,18,19,20,21,22,23,24,25,26,27,28,29],Dr (Mv 54 4) 2 [3,4,5,11,12,13,14,15,16,17,18,19,20,21,22,23,24,25,26,27,28,29],Dr (Ix 55 1 53 54) 3 [4,5,11,12,13,14,15,16,17,18,19,20,21,22,23,24,25,26,27,28,29],Db (Ro 56 (.aL .slice (T 55))) 4 55 [5,11,12,13,14,15,16,17,18,19,20,21,22,23,24,25,26,27,28,29],Dr (Ro 57 (.lS (T 56))) 5 [11,12,13,14,15,16,17,18,19,20,21,22,23,24,25,26,27,28,29],Dr (Fa 58 0 1) 6 [7,8,9,10,11,12,13,14,15,16,17,18,19,20,21,22,23,24,25,26,27,28,29],Db (Ro 59 (.aL .slice (T 58))) 7 58 [8,9,10,11,12,13,14,15,16,17,18,19,20,21,22,23,24,25,26,27,28,29],Dr (Ro 60 (.rI 1 (T 59) (Ci 0))) 8 [9,10,11,12,13,14,15,16,17,18,19,20,21,22,23,24,25,26,27,28,29],Db (Ro 61 (.aL .slice (T 60))) 9 60 [10,11,12,13,14,15,16,17,18,19,20,21,22,23,24,25,26,27,28,29],Dr (Ro 62 (.lS (T 61))) 10 [11,12,13,14,15,16,17,18,19,20,21,22,23,24,25,26,27,28,29],Dr (Bt 63 .neq 3 57 62) 11 [12,13,14,15,16,17,18,19,20,21,22,23,24,25,26,27,28,29],Dr (Mv 64 63) 12 [13,14,15,16,17,18,19,20,21,22,23,24,25,26,27,28,29],⟨Hf 65 64 (.fieldAddr 1 (T 1)),13,.none,[14,16,17,18,19,20,21,22,23,24,25,26,27,28,29],false,true⟩,⟨Hf 66 64 (.aL .slice (T 65)),14,.dm (T 65),[16,17,18,19,20,21,22,23,24,25,26,27,28,29],false,true⟩,⟨Gf 67 64 (.move (T 4)),15,.none,[16,17,18,19,20,21,22,23,24,25,26,27,28,29],false,true⟩,⟨Hf 68 64 (.rI 2 (T 66) (T 67)),16,.none,[17,18,19,20,21,22,23,24,25,26,27,28,29],false,true⟩,⟨Hf 69 64 (.load 2 s2 (T 68)),17,.dm (T 68),[18,19,20,21,22,23,24,25,26,27,28,29],false,true⟩,⟨⟨some 70,some (64,false),.call (.func 17) [T 69] vB⟩,18,.all,[19,20,21,22,23,24,25,26,27,28,29],false,false⟩,⟨Gf 71 64 (.unOp .not 4 (T 70)),19,.none,[20,21,22,23,24,25,26,27,28,29],false,true⟩,Dr (Ol 72 (.pick (T 64) (.const (.bool true)) (T 71))) 20 [21,22,23,24,25,26,27,28,29],Dr (Mv 73 72) 21 [22,23,24,25,26,27,28,29],⟨Hf 74 73 (.fieldAddr 1 (T 1)),22,.none,[23,25,26,27,28,29],false,true⟩,⟨Hf 75 73 (.aL .slice (T 74)),23,.dm (T 74),[25,26,27,28,29],false,true⟩,⟨Gf 76 73 (.move (T 4)),24,.none,[25,26,27,28,29],false,true⟩,⟨Hf 77 73 (.rI 2 (T 75) (T 76)),25,.none,[26,27,28,29],false,true⟩,⟨Hf 78 73 (.fieldAddr 1 (T 77)),26,.none,[27,28,29],false,true⟩,⟨Hf 79 73 (.aL (.int .i64) (T 78)),27,.dm (T 78),[28,29],false,true⟩,⟨Gf 80 73 (.binOp .gtr 2 (T 79) (Ci 60) 2),28,.none,[29],false,true⟩,Dr (Ol 81 (.pick (T 73) (.const (.bool true)) (T 80))) 29 []])
 (.cond (T 81) (.seq (Rg [] [Ac 2 8])
 .ret)
 .skip))
 (.seq (Rg [1,4] [Ac 5 0])
 (.block 4 (.loop 16 none (some [1,4,5]))))))
 (Rg [1,4] [Mv 50 4,Bc 51 .add 3 50 .i64 1,As 4 51]))⟩),(16,⟨none,some [1,4,5],.seq (.seq (Rg [1,4,5] [Mv 82 5,Fa 83 0 1,Ro 84 (.aL .slice (T 83)),Mv 85 4,Ix 86 1 84 85,Ro 87 (.aL .slice (T 86)),Ro 88 (.lS (T 87)),Bt 89 .lss 3 82 88])
 (.cond (T 89) .skip
 (.exit 4 (some [1,4]))))
 (.seq (.block 5 (.seq (Rg [1,4,5] [Fa 92 0 1,Ro 93 (.aL .slice (T 92)),Mv 94 4,Ix 95 1 93 94,Ro 96 (.aL .slice (T 95)),Mv 97 5,Ix 98 1 96 97,L1 99 98,Ol 100 (.binOp .lss 3 (T 99) (.const (.int .i64 (-9))) 3),Mv 101 100,Hf 102 101 (.fieldAddr 0 (T 1)),Hf 103 101 (.aL .slice (T 102)),Gf 104 101 (.move (T 4)),Hf 105 101 (.rI 1 (T 103) (T 104)),Hf 106 101 (.aL .slice (T 105)),Gf 107 101 (.move (T 5)),Hf 108 101 (.rI 1 (T 106) (T 107)),Hf 109 101 (.aL (.int .i64) (T 108)),Gf 110 101 (.binOp .gtr 3 (T 109) (Ci 9) 3),Ol 111 (.pick (T 101) (.const (.bool true)) (T 110))])
 (.cond (T 111) (.seq (Rg [] [Ac 2 8])
 .ret)
 .skip)))
 (Rg [1,4,5] [Mv 90 5,Bc 91 .add 3 90 .i64 1,As 5 91]))⟩)],
 []⟩
theorem rA: fE (progU ()) hint live 6 Tryz.f6=some r6:=by kernel_rfl
def x8:RX 8 Tryz.f8:=by constructor;conv=>lhs;cbv
def x9:RX 9 Tryz.f9:=by constructor;conv=>lhs;cbv
end Go.Proofs.YtdpbiegfljmhmaaGreat
namespace Go.Proofs.YtdpbiegfljmhmaaGreat
open Go.cS
set_option maxRecDepth 100000
def x10:RX 10 Tryz.f10:=by constructor;conv=>lhs;cbv
def x13:RX 13 Tryz.f13:=by constructor;conv=>lhs;cbv
def x14:RX 14 Tryz.f14:=by constructor;conv=>lhs;cbv
def x16:RX 16 Tryz.f16:=by constructor;conv=>lhs;cbv
def x17:RX 17 Tryz.f17:=by constructor;conv=>lhs;cbv
def x18:RX 18 Tryz.f18:=by constructor;conv=>lhs;cbv
def x19:RX 19 Tryz.f19:=by constructor;conv=>lhs;cbv
def x25:RX 25 Tryz.f25:=by constructor;conv=>lhs;cbv
def x26:RX 26 Tryz.f26:=by constructor;conv=>lhs;cbv
def x27:RX 27 Tryz.f27:=by constructor;conv=>lhs;cbv
def x28:RX 28 Tryz.f28:=by constructor;conv=>lhs;cbv
def x29:RX 29 Tryz.f29:=by constructor;conv=>lhs;cbv
def x30:RX 30 Tryz.f30:=by constructor;conv=>lhs;cbv
def x31:RX 31 Tryz.f31:=by constructor;conv=>lhs;cbv
end Go.Proofs.YtdpbiegfljmhmaaGreat
namespace Go.Proofs.YtdpbiegfljmhmaaGreat
open Go.cS
set_option maxRecDepth 100000
def x33:RX 33 Tryz.f33:=by constructor;conv=>lhs;cbv
def r34 : lG :=
⟨.seq (Rg [0,1] [Bo 2 2 0,Bo 3 2 1,Nw 4 2 z2,Ac 5 0])
 (.seq (.seq (Rg [2,3,4] [Ld 12 2,Ld 13 3,Ca 14 33 [T 12,T 13] vI,Bc 15 .neq 3 14 .i64 0])
 (.cond (T 15) (.seq (Rg [2,3,4] [Ro 16 (.build z2 []),Ld 17 2,Ld 18 3,Ca 19 33 [T 17,T 18] vI,Sr 2 4 16,As 5 19])
 .ret)
 .skip))
 (.seq (Rg [2,3,4] [Fa 20 1 2,L1 21 20,Ro 22 (.mU .u64 (T 21)),Fa 23 1 3,L1 24 23,Ro 25 (.mU .u64 (T 24)),Ca 26 58 [T 22,T 25] (some (.val (.one (.int .u64)))),As 6 26])
 (.seq (.draw (some [2,3,4,6]) 22 [Dr (Fa 27 0 2) 0 [1,2,8,11,17,20,21],Db (L1 28 27) 1 27 [2,8,11,17,20,21],Dr (Fa 30 1 3) 3 [4,5,7,8,11,17,20,21],Db (L1 31 30) 4 30 [5,7,8,11,17,20,21],⟨Ro 32 (.mU .u64 (T 31)),5,.NT (T 31),[7,8,11,17,20,21],false,true⟩,Dr (Mv 33 6) 6 [7,8,11,17,20,21],Dr (Bt 34 .quo 85 32 33) 7 [8,11,17,20,21],Dr (Fa 36 0 3) 9 [10,11,17,20,21],Db (L1 37 36) 10 36 [11,17,20,21],Dr (Fa 39 1 2) 12 [13,14,16,17,20,21],Db (L1 40 39) 13 39 [14,16,17,20,21],⟨Ro 41 (.mU .u64 (T 40)),14,.NT (T 40),[16,17,20,21],false,true⟩,Dr (Mv 42 6) 15 [16,17,20,21],Dr (Bt 43 .quo 85 41 42) 16 [17,20,21],⟨Nw 7 4 [.int .u64 0,.int .u64 0,.int .u64 0,.int .u64 0],18,.new true,[20,21],false,true⟩,⟨Nw 8 4 [.int .u64 0,.int .u64 0,.int .u64 0,.int .u64 0],19,.new true,[20,21],false,true⟩,⟨Ca 29 56 [T 28] (some (.val (.one (.int .u64)))),2,.all,[8,11,17,20,21],false,false⟩,⟨Ca 35 55 [T 29,T 34] (some (.val (.agg s4))),8,.all,[11,17,20,21],false,false⟩,⟨Ca 38 56 [T 37] (some (.val (.one (.int .u64)))),11,.all,[17,20,21],false,false⟩,⟨Ca 44 55 [T 38,T 43] (some (.val (.agg s4))),17,.all,[20,21],false,false⟩,⟨Sr 4 7 35,20,.dm (T 7),[21],true,true⟩,⟨Sr 4 8 44,21,.dm (T 8),[],true,true⟩])
 (.seq (.seq (Rg [2,3,4,6,7,8] [Fa 45 0 2,L1 46 45,Bc 47 .lss 2 46 .i64 0,Fa 48 0 3,L1 49 48,Bc 50 .lss 2 49 .i64 0,Bt 51 .eql 4 47 50])
 (.cond (T 51) (Rg [2,3,4,6,7,8] [Ro 52 (.load 4 s4 (T 7)),Ro 53 (.load 4 s4 (T 8)),Ca 54 59 [T 52,T 53] (some (.val (.agg s4))),Sr 4 7 54])
 (.seq (Rg [2,3,4,6,7,8] [Ro 55 (.load 4 s4 (T 7)),Ro 56 (.load 4 s4 (T 8)),Ca 57 57 [T 55,T 56] vB])
 (.cond (T 57) (.draw (some [2,3,4,6,7,8]) 8 [Db (Ro 58 (.load 4 s4 (T 8))) 0 8 [2,5,6,7],Db (Ro 59 (.load 4 s4 (T 7))) 1 7 [2,5,6,7],Db (Ld 61 3) 3 3 [6,7],Db (Ld 62 2) 4 2 [5,6,7],⟨Ca 60 60 [T 58,T 59] (some (.val (.agg s4))),2,.all,[5,6,7],false,false⟩,⟨Sr 4 7 60,5,.dm (T 7),[6,7],true,true⟩,⟨Sr 2 2 61,6,.dm (T 2),[7],true,true⟩,⟨Sr 2 3 62,7,.dm (T 3),[],true,true⟩])
 (Rg [2,3,4,6,7,8] [Ro 63 (.load 4 s4 (T 7)),Ro 64 (.load 4 s4 (T 8)),Ca 65 60 [T 63,T 64] (some (.val (.agg s4))),Sr 4 7 65])))))
 (.seq (Rg [2,3,4,6,7] [Ro 67 (.load 4 s4 (T 7)),Mv 68 6,Ca 69 61 [T 67,T 68] (some (.mV [.agg s4,.one (.int .u64)])),Mv 66 69,Ex 70 66 0,Ex 71 66 1,Nw 9 4 [.int .u64 0,.int .u64 0,.int .u64 0,.int .u64 0],Sr 4 9 70,As 10 71])
 (.seq (Rg [2,3,4,6,7,10] [Mv 72 10,Mv 73 6,Ca 74 58 [T 72,T 73] (some (.val (.one (.int .u64)))),As 11 74])
 (.seq (Rg [2,3,4,6,7,11] [Ro 76 (.load 4 s4 (T 7)),Mv 77 11,Ca 78 61 [T 76,T 77] (some (.mV [.agg s4,.one (.int .u64)])),Mv 75 78,Ex 79 75 0,Ex 80 75 1,Sr 4 7 79])
 (.seq (.seq (Rg [2,3,4,6,7,11] [Ro 81 (.load 4 s4 (T 7)),Ro 82 (.build [.int .u64 0,.int .u64 0,.int .u64 0,.int .u64 0] []),Bt 83 .eql 91 81 82])
 (.cond (T 83) (.seq (Rg [4] [Ro 84 (.build z2 [(1,1,(Ci 1))]),Sr 2 4 84,Ac 5 0])
 .ret)
 .skip))
 (.seq (.draw (some [2,3,4,6,7,11]) 20 [Dr (Fa 85 0 2) 0 [1,2,15,16,17,18,19],Db (L1 86 85) 1 85 [2,15,16,17,18,19],Dr (Bc 87 .lss 2 86 .i64 0) 2 [15,16,17,18,19],Db (Ro 88 (.load 4 s4 (T 7))) 3 7 [15,16,17,18,19],Dr (Fa 89 1 2) 4 [5,6,8,14,15,16,17,18,19],Db (L1 90 89) 5 89 [6,8,14,15,16,17,18,19],⟨Ro 91 (.mU .u64 (T 90)),6,.NT (T 90),[8,14,15,16,17,18,19],false,true⟩,Dr (Mv 92 6) 7 [8,14,15,16,17,18,19],Dr (Bt 93 .quo 85 91 92) 8 [14,15,16,17,18,19],Dr (Fa 94 1 3) 9 [10,11,13,14,15,16,17,18,19],Db (L1 95 94) 10 94 [11,13,14,15,16,17,18,19],⟨Ro 96 (.mU .u64 (T 95)),11,.NT (T 95),[13,14,15,16,17,18,19],false,true⟩,Dr (Mv 97 11) 12 [13,14,15,16,17,18,19],Dr (Bt 98 .quo 85 96 97) 13 [14,15,16,17,18,19],⟨Ca 99 55 [T 93,T 98] (some (.val (.agg s4))),14,.all,[15,16,17,18,19],false,false⟩,⟨Ca 100 62 [T 87,T 88,T 99] (some (.mV [.agg s2,.one (.int .i64)])),15,.all,[16,17,18,19],false,false⟩,Dr (Ex 101 100 0) 16 [18,19],Dr (Ex 102 100 1) 17 [18,19],⟨Sr 2 4 101,18,.dm (T 4),[19],true,true⟩,Dr (As 5 102) 19 []])
 .ret))))))))),
 [.agg 4 2 [.int .i64,.int .i64],.tmp 5],
 [],
 []⟩
theorem Sd: fE (progU ()) hint live 34 Tryz.f34=some r34:=by kernel_rfl
def x35:RX 35 Tryz.f35:=by constructor;conv=>lhs;cbv
def x36:RX 36 Tryz.f36:=by constructor;conv=>lhs;cbv
def x37:RX 37 Tryz.f37:=by constructor;conv=>lhs;cbv
def x38:RX 38 Tryz.f38:=by constructor;conv=>lhs;cbv
def x39:RX 39 Tryz.f39:=by constructor;conv=>lhs;cbv
def x40:RX 40 Tryz.f40:=by constructor;conv=>lhs;cbv
def r41 : lG :=
⟨.seq (Rg [0,1] [Bo 2 2 0,Bo 3 2 1,Nw 4 2 z2,Ac 5 0])
 (.seq (.seq (Rg [2,3,4] [Ld 8 2,Ld 9 3,Ca 10 33 [T 8,T 9] vI,Bc 11 .neq 3 10 .i64 0])
 (.cond (T 11) (.seq (Rg [2,3,4] [Ro 12 (.build z2 []),Ld 13 2,Ld 14 3,Ca 15 33 [T 13,T 14] vI,Sr 2 4 12,As 5 15])
 .ret)
 .skip))
 (.seq (.draw (some [2,3,4]) 16 [Dr (Fa 16 0 2) 0 [1,2,6,9,13,14,15],Db (L1 17 16) 1 16 [2,6,9,13,14,15],Dr (Fa 19 1 3) 3 [4,5,6,9,13,14,15],Db (L1 20 19) 4 19 [5,6,9,13,14,15],⟨Ro 21 (.mU .u64 (T 20)),5,.NT (T 20),[6,9,13,14,15],false,true⟩,Dr (Fa 23 0 3) 7 [8,9,13,14,15],Db (L1 24 23) 8 23 [9,13,14,15],Dr (Fa 26 1 2) 10 [11,12,13,14,15],Db (L1 27 26) 11 26 [12,13,14,15],⟨Ro 28 (.mU .u64 (T 27)),12,.NT (T 27),[13,14,15],false,true⟩,⟨Ca 18 56 [T 17] (some (.val (.one (.int .u64)))),2,.all,[6,9,13,14,15],false,false⟩,⟨Ca 22 58 [T 18,T 21] (some (.val (.one (.int .u64)))),6,.all,[9,13,14,15],false,false⟩,⟨Ca 25 56 [T 24] (some (.val (.one (.int .u64)))),9,.all,[13,14,15],false,false⟩,⟨Ca 29 58 [T 25,T 28] (some (.val (.one (.int .u64)))),13,.all,[14,15],false,false⟩,Dr (As 6 22) 14 [15],Dr (As 7 29) 15 []])
 (.seq (.draw (some [2,3,4,6,7]) 34 [Dr (Fa 30 0 2) 0 [1,2,6,29,30,31,32,33],Db (L1 31 30) 1 30 [2,6,29,30,31,32,33],Dr (Bc 32 .lss 2 31 .i64 0) 2 [6,29,30,31,32,33],Dr (Fa 33 0 3) 3 [4,5,6,29,30,31,32,33],Db (L1 34 33) 4 33 [5,6,29,30,31,32,33],Dr (Bc 35 .lss 2 34 .i64 0) 5 [6,29,30,31,32,33],Dr (Bt 36 .neq 4 32 35) 6 [29,30,31,32,33],Dr (Fa 37 0 2) 7 [8,9,11,14,16,17,28,29,30,31,32,33],Db (L1 38 37) 8 37 [9,11,14,16,17,28,29,30,31,32,33],Dr (Mv 40 6) 10 [11,17,28,29,30,31,32,33],Dr (Fa 42 0 3) 12 [13,14,16,17,28,29,30,31,32,33],Db (L1 43 42) 13 42 [14,16,17,28,29,30,31,32,33],Dr (Mv 45 7) 15 [16,17,28,29,30,31,32,33],Dr (Fa 48 1 2) 18 [19,20,22,28,29,30,31,32,33],Db (L1 49 48) 19 48 [20,22,28,29,30,31,32,33],⟨Ro 50 (.mU .u64 (T 49)),20,.NT (T 49),[22,28,29,30,31,32,33],false,true⟩,Dr (Mv 51 7) 21 [22,28,29,30,31,32,33],Dr (Bt 52 .quo 85 50 51) 22 [28,29,30,31,32,33],Dr (Fa 53 1 3) 23 [24,25,27,28,29,30,31,32,33],Db (L1 54 53) 24 53 [25,27,28,29,30,31,32,33],⟨Ro 55 (.mU .u64 (T 54)),25,.NT (T 54),[27,28,29,30,31,32,33],false,true⟩,Dr (Mv 56 6) 26 [27,28,29,30,31,32,33],Dr (Bt 57 .quo 85 55 56) 27 [28,29,30,31,32,33],⟨Ca 39 56 [T 38] (some (.val (.one (.int .u64)))),9,.all,[11,14,16,17,28,29,30,31,32,33],false,false⟩,Dr (Bt 41 .quo 85 39 40) 11 [17,28,29,30,31,32,33],⟨Ca 44 56 [T 43] (some (.val (.one (.int .u64)))),14,.all,[16,17,28,29,30,31,32,33],false,false⟩,Dr (Bt 46 .quo 85 44 45) 16 [17,28,29,30,31,32,33],⟨Ca 47 55 [T 41,T 46] (some (.val (.agg s4))),17,.all,[28,29,30,31,32,33],false,false⟩,⟨Ca 58 55 [T 52,T 57] (some (.val (.agg s4))),28,.all,[29,30,31,32,33],false,false⟩,⟨Ca 59 62 [T 36,T 47,T 58] (some (.mV [.agg s2,.one (.int .i64)])),29,.all,[30,31,32,33],false,false⟩,Dr (Ex 60 59 0) 30 [32,33],Dr (Ex 61 59 1) 31 [32,33],⟨Sr 2 4 60,32,.dm (T 4),[33],true,true⟩,Dr (As 5 61) 33 []])
 .ret))),
 [.agg 4 2 [.int .i64,.int .i64],.tmp 5],
 [],
 []⟩
theorem Se: fE (progU ()) hint live 41 Tryz.f41=some r41:=by kernel_rfl
def x42:RX 42 Tryz.f42:=by constructor;conv=>lhs;cbv
def x43:RX 43 Tryz.f43:=by constructor;conv=>lhs;cbv
def x44:RX 44 Tryz.f44:=by constructor;conv=>lhs;cbv
def x45:RX 45 Tryz.f45:=by constructor;conv=>lhs;cbv
def x46:RX 46 Tryz.f46:=by constructor;conv=>lhs;cbv
def x47:RX 47 Tryz.f47:=by constructor;conv=>lhs;cbv
def x48:RX 48 Tryz.f48:=by constructor;conv=>lhs;cbv
def x49:RX 49 Tryz.f49:=by constructor;conv=>lhs;cbv
def x50:RX 50 Tryz.f50:=by constructor;conv=>lhs;cbv
def x51:RX 51 Tryz.f51:=by constructor;conv=>lhs;cbv
def x52:RX 52 Tryz.f52:=by constructor;conv=>lhs;cbv
def x53:RX 53 Tryz.f53:=by constructor;conv=>lhs;cbv
def x54:RX 54 Tryz.f54:=by constructor;conv=>lhs;cbv
def x55:RX 55 Tryz.f55:=by constructor;conv=>lhs;cbv
def x56:RX 56 Tryz.f56:=by constructor;conv=>lhs;cbv
def x57:RX 57 Tryz.f57:=by constructor;conv=>lhs;cbv
def x58:RX 58 Tryz.f58:=by constructor;conv=>lhs;cbv
def x59:RX 59 Tryz.f59:=by constructor;conv=>lhs;cbv
def x60:RX 60 Tryz.f60:=by constructor;conv=>lhs;cbv
end Go.Proofs.YtdpbiegfljmhmaaGreat
namespace Go.Proofs.YtdpbiegfljmhmaaGreat
open Go.cS
set_option maxRecDepth 100000
def r97 : lG :=
⟨.seq (Rg [0,1,2,3,4] [Ac 10 0])
 (.seq (.draw (some [0,1,2,3,4]) 16 [Dr (Mv 13 0) 0 [12,13,14,15],Dr (Mv 14 1) 1 [12,13,14,15],Dr (Mv 15 0) 2 [14,15],Dr (Mv 16 3) 3 [14,15],Dr (Mv 17 0) 4 [6,7,12,13,14,15],Dr (Mv 18 3) 5 [6,7,12,13,14,15],Dr (Ix 19 1 17 18) 6 [7,12,13,14,15],Db (Ro 20 (.aL .slice (T 19))) 7 19 [12,13,14,15],Dr (Mv 21 0) 8 [10,11,12,13,14,15],Dr (Mv 22 1) 9 [10,11,12,13,14,15],Dr (Ix 23 1 21 22) 10 [11,12,13,14,15],Db (Ro 24 (.aL .slice (T 23))) 11 23 [12,13,14,15],Dr (Ix 25 1 13 14) 12 [13,14,15],⟨Sr 1 25 20,13,.dm (T 25),[14,15],true,true⟩,Dr (Ix 26 1 15 16) 14 [15],⟨Sr 1 26 24,15,.dm (T 26),[],true,true⟩])
 (.seq (Rg [0,1,2,4] [Mv 27 1,Bc 28 .add 3 27 .i64 1,Mv 29 2,Bc 30 .sub 3 29 .i64 1,As 11 28,As 12 30])
 (.seq (.block 0 (.loop 1003 (some [0,1,4,11,12]) (some [0,1,4,11,12])))
 (.seq (Rg [11] [Mv 89 11,As 10 89])
 .ret)))),
 [.tmp 10],
 [(1003,⟨some [0,1,4,11,12],some [0,1,4,11,12],.block 1 (.seq (.block 2 (.loop 3 (some [0,1,4,11,12]) (some [0,1,4,11,12])))
 (.seq (.block 4 (.loop 5 (some [0,1,4,11,12]) (some [0,1,4,11,12])))
 (.seq (.seq (Rg [0,1,4,11,12] [Mv 68 11,Mv 69 12,Bt 70 .gtr 3 68 69])
 (.cond (T 70) (.exit 0 (some [11]))
 .skip))
 (.seq (.draw (some [0,1,4,11,12]) 16 [Dr (Mv 71 0) 0 [12,13,14,15],Dr (Mv 72 11) 1 [12,13,14,15],Dr (Mv 73 0) 2 [14,15],Dr (Mv 74 12) 3 [14,15],Dr (Mv 75 0) 4 [6,7,12,13,14,15],Dr (Mv 76 12) 5 [6,7,12,13,14,15],Dr (Ix 77 1 75 76) 6 [7,12,13,14,15],Db (Ro 78 (.aL .slice (T 77))) 7 77 [12,13,14,15],Dr (Mv 79 0) 8 [10,11,12,13,14,15],Dr (Mv 80 11) 9 [10,11,12,13,14,15],Dr (Ix 81 1 79 80) 10 [11,12,13,14,15],Db (Ro 82 (.aL .slice (T 81))) 11 81 [12,13,14,15],Dr (Ix 83 1 71 72) 12 [13,14,15],⟨Sr 1 83 78,13,.dm (T 83),[14,15],true,true⟩,Dr (Ix 84 1 73 74) 14 [15],⟨Sr 1 84 82,15,.dm (T 84),[],true,true⟩])
 (.seq (Rg [0,1,4,11,12] [Mv 85 11,Bc 86 .add 3 85 .i64 1,As 11 86])
 (Rg [0,1,4,11,12] [Mv 87 12,Bc 88 .sub 3 87 .i64 1,As 12 88]))))))⟩),(3,⟨some [0,1,4,11,12],some [0,1,4,11,12],.seq (.seq (.draw (some [0,1,4,11,12]) 17 [Dr (Mv 31 11) 0 [2,3,4,5,6,7,8,9,10,11,12,13,14,15,16],Dr (Mv 32 12) 1 [2,3,4,5,6,7,8,9,10,11,12,13,14,15,16],Dr (Bt 33 .leq 3 31 32) 2 [3,4,5,6,7,8,9,10,11,12,13,14,15,16],Dr (Mv 34 33) 3 [4,5,6,7,8,9,10,11,12,13,14,15,16],⟨Gt 35 34 (.move (T 4)),4,.none,[13,14,15,16],false,true⟩,⟨Gt 36 34 (.move (T 0)),5,.none,[7,8,13,14,15,16],false,true⟩,⟨Gt 37 34 (.move (T 1)),6,.none,[7,8,13,14,15,16],false,true⟩,⟨Ht 38 34 (.rI 1 (T 36) (T 37)),7,.none,[8,13,14,15,16],false,true⟩,⟨Ht 39 34 (.aL .slice (T 38)),8,.dm (T 38),[13,14,15,16],false,true⟩,⟨Gt 40 34 (.move (T 0)),9,.none,[11,12,13,14,15,16],false,true⟩,⟨Gt 41 34 (.move (T 11)),10,.none,[11,12,13,14,15,16],false,true⟩,⟨Ht 42 34 (.rI 1 (T 40) (T 41)),11,.none,[12,13,14,15,16],false,true⟩,⟨Ht 43 34 (.aL .slice (T 42)),12,.dm (T 42),[13,14,15,16],false,true⟩,⟨⟨some 44,some (34,true),.call (T 35) [T 39,T 43] vI⟩,13,.all,[14,15,16],false,false⟩,⟨Gt 45 34 (.binOp .lss 3 (T 44) (Ci 0) 3),14,.none,[15,16],false,true⟩,⟨Gt 46 34 (.unOp .not 4 (T 45)),15,.none,[16],false,true⟩,Dr (Ol 47 (.pick (T 34) (T 46) (.const (.bool false)))) 16 []])
 (.cond (T 47) .skip
 (.exit 2 (some [0,1,4,11,12]))))
 (.block 3 (Rg [0,1,4,11,12] [Mv 48 11,Bc 49 .add 3 48 .i64 1,As 11 49]))⟩),(5,⟨some [0,1,4,11,12],some [0,1,4,11,12],.seq (.seq (.draw (some [0,1,4,11,12]) 16 [Dr (Mv 50 11) 0 [2,3,4,5,6,7,8,9,10,11,12,13,14,15],Dr (Mv 51 12) 1 [2,3,4,5,6,7,8,9,10,11,12,13,14,15],Dr (Bt 52 .leq 3 50 51) 2 [3,4,5,6,7,8,9,10,11,12,13,14,15],Dr (Mv 53 52) 3 [4,5,6,7,8,9,10,11,12,13,14,15],⟨Gt 54 53 (.move (T 4)),4,.none,[13,14,15],false,true⟩,⟨Gt 55 53 (.move (T 0)),5,.none,[7,8,13,14,15],false,true⟩,⟨Gt 56 53 (.move (T 1)),6,.none,[7,8,13,14,15],false,true⟩,⟨Ht 57 53 (.rI 1 (T 55) (T 56)),7,.none,[8,13,14,15],false,true⟩,⟨Ht 58 53 (.aL .slice (T 57)),8,.dm (T 57),[13,14,15],false,true⟩,⟨Gt 59 53 (.move (T 0)),9,.none,[11,12,13,14,15],false,true⟩,⟨Gt 60 53 (.move (T 12)),10,.none,[11,12,13,14,15],false,true⟩,⟨Ht 61 53 (.rI 1 (T 59) (T 60)),11,.none,[12,13,14,15],false,true⟩,⟨Ht 62 53 (.aL .slice (T 61)),12,.dm (T 61),[13,14,15],false,true⟩,⟨⟨some 63,some (53,true),.call (T 54) [T 58,T 62] vI⟩,13,.all,[14,15],false,false⟩,⟨Gt 64 53 (.binOp .lss 3 (T 63) (Ci 0) 3),14,.none,[15],false,true⟩,Dr (Ol 65 (.pick (T 53) (T 64) (.const (.bool false)))) 15 []])
 (.cond (T 65) .skip
 (.exit 4 (some [0,1,4,11,12]))))
 (.block 5 (Rg [0,1,4,11,12] [Mv 66 12,Bc 67 .sub 3 66 .i64 1,As 12 67]))⟩)],
 []⟩
theorem rN: fE (progU ()) hint live 97 Tryz.f97=some r97:=by kernel_rfl
def r98 : lG :=
⟨.seq (Rg [0,1,2,3,4] [Ac 10 0,Ol 11 (.assign (.const (.bool false)))])
 (.seq (.draw (some [0,1,2,3,4]) 16 [Dr (Mv 14 0) 0 [12,13,14,15],Dr (Mv 15 1) 1 [12,13,14,15],Dr (Mv 16 0) 2 [14,15],Dr (Mv 17 3) 3 [14,15],Dr (Mv 18 0) 4 [6,7,12,13,14,15],Dr (Mv 19 3) 5 [6,7,12,13,14,15],Dr (Ix 20 1 18 19) 6 [7,12,13,14,15],Db (Ro 21 (.aL .slice (T 20))) 7 20 [12,13,14,15],Dr (Mv 22 0) 8 [10,11,12,13,14,15],Dr (Mv 23 1) 9 [10,11,12,13,14,15],Dr (Ix 24 1 22 23) 10 [11,12,13,14,15],Db (Ro 25 (.aL .slice (T 24))) 11 24 [12,13,14,15],Dr (Ix 26 1 14 15) 12 [13,14,15],⟨Sr 1 26 21,13,.dm (T 26),[14,15],true,true⟩,Dr (Ix 27 1 16 17) 14 [15],⟨Sr 1 27 25,15,.dm (T 27),[],true,true⟩])
 (.seq (Rg [0,1,2,4] [Mv 28 1,Bc 29 .add 3 28 .i64 1,Mv 30 2,Bc 31 .sub 3 30 .i64 1,As 12 29,As 13 31])
 (.seq (.block 0 (.loop 3 (some [0,1,4,12,13]) (some [0,1,4,12,13])))
 (.seq (.block 2 (.loop 5 (some [0,1,4,12,13]) (some [0,1,4,12,13])))
 (.seq (.seq (Rg [0,1,4,12,13] [Mv 69 12,Mv 70 13,Bt 71 .gtr 3 69 70])
 (.cond (T 71) (.seq (.draw (some [0,1,13]) 16 [Dr (Mv 72 0) 0 [12,13,14,15],Dr (Mv 73 13) 1 [12,13,14,15],Dr (Mv 74 0) 2 [14,15],Dr (Mv 75 1) 3 [14,15],Dr (Mv 76 0) 4 [6,7,12,13,14,15],Dr (Mv 77 1) 5 [6,7,12,13,14,15],Dr (Ix 78 1 76 77) 6 [7,12,13,14,15],Db (Ro 79 (.aL .slice (T 78))) 7 78 [12,13,14,15],Dr (Mv 80 0) 8 [10,11,12,13,14,15],Dr (Mv 81 13) 9 [10,11,12,13,14,15],Dr (Ix 82 1 80 81) 10 [11,12,13,14,15],Db (Ro 83 (.aL .slice (T 82))) 11 82 [12,13,14,15],Dr (Ix 84 1 72 73) 12 [13,14,15],⟨Sr 1 84 79,13,.dm (T 84),[14,15],true,true⟩,Dr (Ix 85 1 74 75) 14 [15],⟨Sr 1 85 83,15,.dm (T 85),[],true,true⟩])
 (.seq (Rg [13] [Mv 86 13,As 10 86,Ol 11 (.assign (.const (.bool true)))])
 .ret))
 .skip))
 (.seq (.draw (some [0,1,4,12,13]) 16 [Dr (Mv 87 0) 0 [12,13,14,15],Dr (Mv 88 12) 1 [12,13,14,15],Dr (Mv 89 0) 2 [14,15],Dr (Mv 90 13) 3 [14,15],Dr (Mv 91 0) 4 [6,7,12,13,14,15],Dr (Mv 92 13) 5 [6,7,12,13,14,15],Dr (Ix 93 1 91 92) 6 [7,12,13,14,15],Db (Ro 94 (.aL .slice (T 93))) 7 93 [12,13,14,15],Dr (Mv 95 0) 8 [10,11,12,13,14,15],Dr (Mv 96 12) 9 [10,11,12,13,14,15],Dr (Ix 97 1 95 96) 10 [11,12,13,14,15],Db (Ro 98 (.aL .slice (T 97))) 11 97 [12,13,14,15],Dr (Ix 99 1 87 88) 12 [13,14,15],⟨Sr 1 99 94,13,.dm (T 99),[14,15],true,true⟩,Dr (Ix 100 1 89 90) 14 [15],⟨Sr 1 100 98,15,.dm (T 100),[],true,true⟩])
 (.seq (Rg [0,1,4,12,13] [Mv 101 12,Bc 102 .add 3 101 .i64 1,As 12 102])
 (.seq (Rg [0,1,4,12,13] [Mv 103 13,Bc 104 .sub 3 103 .i64 1,As 13 104])
 (.seq (.block 4 (.loop 1013 (some [0,1,4,12,13]) (some [0,1,4,12,13])))
 (.seq (.draw (some [0,1,13]) 16 [Dr (Mv 163 0) 0 [12,13,14,15],Dr (Mv 164 13) 1 [12,13,14,15],Dr (Mv 165 0) 2 [14,15],Dr (Mv 166 1) 3 [14,15],Dr (Mv 167 0) 4 [6,7,12,13,14,15],Dr (Mv 168 1) 5 [6,7,12,13,14,15],Dr (Ix 169 1 167 168) 6 [7,12,13,14,15],Db (Ro 170 (.aL .slice (T 169))) 7 169 [12,13,14,15],Dr (Mv 171 0) 8 [10,11,12,13,14,15],Dr (Mv 172 13) 9 [10,11,12,13,14,15],Dr (Ix 173 1 171 172) 10 [11,12,13,14,15],Db (Ro 174 (.aL .slice (T 173))) 11 173 [12,13,14,15],Dr (Ix 175 1 163 164) 12 [13,14,15],⟨Sr 1 175 170,13,.dm (T 175),[14,15],true,true⟩,Dr (Ix 176 1 165 166) 14 [15],⟨Sr 1 176 174,15,.dm (T 176),[],true,true⟩])
 (.seq (Rg [13] [Mv 177 13,As 10 177,Ol 11 (.assign (.const (.bool false)))])
 .ret))))))))))),
 [.tmp 10,.tmp 11],
 [(3,⟨some [0,1,4,12,13],some [0,1,4,12,13],.seq (.seq (.draw (some [0,1,4,12,13]) 16 [Dr (Mv 32 12) 0 [2,3,4,5,6,7,8,9,10,11,12,13,14,15],Dr (Mv 33 13) 1 [2,3,4,5,6,7,8,9,10,11,12,13,14,15],Dr (Bt 34 .leq 3 32 33) 2 [3,4,5,6,7,8,9,10,11,12,13,14,15],Dr (Mv 35 34) 3 [4,5,6,7,8,9,10,11,12,13,14,15],⟨Gt 36 35 (.move (T 4)),4,.none,[13,14,15],false,true⟩,⟨Gt 37 35 (.move (T 0)),5,.none,[7,8,13,14,15],false,true⟩,⟨Gt 38 35 (.move (T 12)),6,.none,[7,8,13,14,15],false,true⟩,⟨Ht 39 35 (.rI 1 (T 37) (T 38)),7,.none,[8,13,14,15],false,true⟩,⟨Ht 40 35 (.aL .slice (T 39)),8,.dm (T 39),[13,14,15],false,true⟩,⟨Gt 41 35 (.move (T 0)),9,.none,[11,12,13,14,15],false,true⟩,⟨Gt 42 35 (.move (T 1)),10,.none,[11,12,13,14,15],false,true⟩,⟨Ht 43 35 (.rI 1 (T 41) (T 42)),11,.none,[12,13,14,15],false,true⟩,⟨Ht 44 35 (.aL .slice (T 43)),12,.dm (T 43),[13,14,15],false,true⟩,⟨⟨some 45,some (35,true),.call (T 36) [T 40,T 44] vI⟩,13,.all,[14,15],false,false⟩,⟨Gt 46 35 (.binOp .lss 3 (T 45) (Ci 0) 3),14,.none,[15],false,true⟩,Dr (Ol 47 (.pick (T 35) (T 46) (.const (.bool false)))) 15 []])
 (.cond (T 47) .skip
 (.exit 0 (some [0,1,4,12,13]))))
 (.block 1 (Rg [0,1,4,12,13] [Mv 48 12,Bc 49 .add 3 48 .i64 1,As 12 49]))⟩),(5,⟨some [0,1,4,12,13],some [0,1,4,12,13],.seq (.seq (.draw (some [0,1,4,12,13]) 17 [Dr (Mv 50 12) 0 [2,3,4,5,6,7,8,9,10,11,12,13,14,15,16],Dr (Mv 51 13) 1 [2,3,4,5,6,7,8,9,10,11,12,13,14,15,16],Dr (Bt 52 .leq 3 50 51) 2 [3,4,5,6,7,8,9,10,11,12,13,14,15,16],Dr (Mv 53 52) 3 [4,5,6,7,8,9,10,11,12,13,14,15,16],⟨Gt 54 53 (.move (T 4)),4,.none,[13,14,15,16],false,true⟩,⟨Gt 55 53 (.move (T 0)),5,.none,[7,8,13,14,15,16],false,true⟩,⟨Gt 56 53 (.move (T 13)),6,.none,[7,8,13,14,15,16],false,true⟩,⟨Ht 57 53 (.rI 1 (T 55) (T 56)),7,.none,[8,13,14,15,16],false,true⟩,⟨Ht 58 53 (.aL .slice (T 57)),8,.dm (T 57),[13,14,15,16],false,true⟩,⟨Gt 59 53 (.move (T 0)),9,.none,[11,12,13,14,15,16],false,true⟩,⟨Gt 60 53 (.move (T 1)),10,.none,[11,12,13,14,15,16],false,true⟩,⟨Ht 61 53 (.rI 1 (T 59) (T 60)),11,.none,[12,13,14,15,16],false,true⟩,⟨Ht 62 53 (.aL .slice (T 61)),12,.dm (T 61),[13,14,15,16],false,true⟩,⟨⟨some 63,some (53,true),.call (T 54) [T 58,T 62] vI⟩,13,.all,[14,15,16],false,false⟩,⟨Gt 64 53 (.binOp .lss 3 (T 63) (Ci 0) 3),14,.none,[15,16],false,true⟩,⟨Gt 65 53 (.unOp .not 4 (T 64)),15,.none,[16],false,true⟩,Dr (Ol 66 (.pick (T 53) (T 65) (.const (.bool false)))) 16 []])
 (.cond (T 66) .skip
 (.exit 2 (some [0,1,4,12,13]))))
 (.block 3 (Rg [0,1,4,12,13] [Mv 67 13,Bc 68 .sub 3 67 .i64 1,As 13 68]))⟩),(1013,⟨some [0,1,4,12,13],some [0,1,4,12,13],.block 5 (.seq (.block 6 (.loop 13 (some [0,1,4,12,13]) (some [0,1,4,12,13])))
 (.seq (.block 8 (.loop 15 (some [0,1,4,12,13]) (some [0,1,4,12,13])))
 (.seq (.seq (Rg [0,1,4,12,13] [Mv 142 12,Mv 143 13,Bt 144 .gtr 3 142 143])
 (.cond (T 144) (.exit 4 (some [0,1,13]))
 .skip))
 (.seq (.draw (some [0,1,4,12,13]) 16 [Dr (Mv 145 0) 0 [12,13,14,15],Dr (Mv 146 12) 1 [12,13,14,15],Dr (Mv 147 0) 2 [14,15],Dr (Mv 148 13) 3 [14,15],Dr (Mv 149 0) 4 [6,7,12,13,14,15],Dr (Mv 150 13) 5 [6,7,12,13,14,15],Dr (Ix 151 1 149 150) 6 [7,12,13,14,15],Db (Ro 152 (.aL .slice (T 151))) 7 151 [12,13,14,15],Dr (Mv 153 0) 8 [10,11,12,13,14,15],Dr (Mv 154 12) 9 [10,11,12,13,14,15],Dr (Ix 155 1 153 154) 10 [11,12,13,14,15],Db (Ro 156 (.aL .slice (T 155))) 11 155 [12,13,14,15],Dr (Ix 157 1 145 146) 12 [13,14,15],⟨Sr 1 157 152,13,.dm (T 157),[14,15],true,true⟩,Dr (Ix 158 1 147 148) 14 [15],⟨Sr 1 158 156,15,.dm (T 158),[],true,true⟩])
 (.seq (Rg [0,1,4,12,13] [Mv 159 12,Bc 160 .add 3 159 .i64 1,As 12 160])
 (Rg [0,1,4,12,13] [Mv 161 13,Bc 162 .sub 3 161 .i64 1,As 13 162]))))))⟩),(13,⟨some [0,1,4,12,13],some [0,1,4,12,13],.seq (.seq (.draw (some [0,1,4,12,13]) 16 [Dr (Mv 105 12) 0 [2,3,4,5,6,7,8,9,10,11,12,13,14,15],Dr (Mv 106 13) 1 [2,3,4,5,6,7,8,9,10,11,12,13,14,15],Dr (Bt 107 .leq 3 105 106) 2 [3,4,5,6,7,8,9,10,11,12,13,14,15],Dr (Mv 108 107) 3 [4,5,6,7,8,9,10,11,12,13,14,15],⟨Gt 109 108 (.move (T 4)),4,.none,[13,14,15],false,true⟩,⟨Gt 110 108 (.move (T 0)),5,.none,[7,8,13,14,15],false,true⟩,⟨Gt 111 108 (.move (T 12)),6,.none,[7,8,13,14,15],false,true⟩,⟨Ht 112 108 (.rI 1 (T 110) (T 111)),7,.none,[8,13,14,15],false,true⟩,⟨Ht 113 108 (.aL .slice (T 112)),8,.dm (T 112),[13,14,15],false,true⟩,⟨Gt 114 108 (.move (T 0)),9,.none,[11,12,13,14,15],false,true⟩,⟨Gt 115 108 (.move (T 1)),10,.none,[11,12,13,14,15],false,true⟩,⟨Ht 116 108 (.rI 1 (T 114) (T 115)),11,.none,[12,13,14,15],false,true⟩,⟨Ht 117 108 (.aL .slice (T 116)),12,.dm (T 116),[13,14,15],false,true⟩,⟨⟨some 118,some (108,true),.call (T 109) [T 113,T 117] vI⟩,13,.all,[14,15],false,false⟩,⟨Gt 119 108 (.binOp .lss 3 (T 118) (Ci 0) 3),14,.none,[15],false,true⟩,Dr (Ol 120 (.pick (T 108) (T 119) (.const (.bool false)))) 15 []])
 (.cond (T 120) .skip
 (.exit 6 (some [0,1,4,12,13]))))
 (.block 7 (Rg [0,1,4,12,13] [Mv 121 12,Bc 122 .add 3 121 .i64 1,As 12 122]))⟩),(15,⟨some [0,1,4,12,13],some [0,1,4,12,13],.seq (.seq (.draw (some [0,1,4,12,13]) 17 [Dr (Mv 123 12) 0 [2,3,4,5,6,7,8,9,10,11,12,13,14,15,16],Dr (Mv 124 13) 1 [2,3,4,5,6,7,8,9,10,11,12,13,14,15,16],Dr (Bt 125 .leq 3 123 124) 2 [3,4,5,6,7,8,9,10,11,12,13,14,15,16],Dr (Mv 126 125) 3 [4,5,6,7,8,9,10,11,12,13,14,15,16],⟨Gt 127 126 (.move (T 4)),4,.none,[13,14,15,16],false,true⟩,⟨Gt 128 126 (.move (T 0)),5,.none,[7,8,13,14,15,16],false,true⟩,⟨Gt 129 126 (.move (T 13)),6,.none,[7,8,13,14,15,16],false,true⟩,⟨Ht 130 126 (.rI 1 (T 128) (T 129)),7,.none,[8,13,14,15,16],false,true⟩,⟨Ht 131 126 (.aL .slice (T 130)),8,.dm (T 130),[13,14,15,16],false,true⟩,⟨Gt 132 126 (.move (T 0)),9,.none,[11,12,13,14,15,16],false,true⟩,⟨Gt 133 126 (.move (T 1)),10,.none,[11,12,13,14,15,16],false,true⟩,⟨Ht 134 126 (.rI 1 (T 132) (T 133)),11,.none,[12,13,14,15,16],false,true⟩,⟨Ht 135 126 (.aL .slice (T 134)),12,.dm (T 134),[13,14,15,16],false,true⟩,⟨⟨some 136,some (126,true),.call (T 127) [T 131,T 135] vI⟩,13,.all,[14,15,16],false,false⟩,⟨Gt 137 126 (.binOp .lss 3 (T 136) (Ci 0) 3),14,.none,[15,16],false,true⟩,⟨Gt 138 126 (.unOp .not 4 (T 137)),15,.none,[16],false,true⟩,Dr (Ol 139 (.pick (T 126) (T 138) (.const (.bool false)))) 16 []])
 (.cond (T 139) .skip
 (.exit 8 (some [0,1,4,12,13]))))
 (.block 9 (Rg [0,1,4,12,13] [Mv 140 13,Bc 141 .sub 3 140 .i64 1,As 13 141]))⟩)],
 []⟩
theorem lI: fE (progU ()) hint live 98 Tryz.f98=some r98:=by kernel_rfl
def x100:RX 100 Tryz.f100:=by constructor;conv=>lhs;cbv
def x101:RX 101 Tryz.f101:=by constructor;conv=>lhs;cbv
def x102:RX 102 Tryz.f102:=by constructor;conv=>lhs;cbv
def x104:RX 104 Tryz.f104:=by constructor;conv=>lhs;cbv
def x106:RX 106 Tryz.f106:=by constructor;conv=>lhs;cbv
def YH : lG :=
⟨.seq (Rg [0,1,2] [Ol 6 (.assign (.const (.int .u64 0))),Ol 7 (.assign (.const (.int .u64 0)))])
 (.seq (.seq (Rg [0,1,2] [Mv 19 2,Bc 20 .eql 85 19 .u64 0])
 (.cond (T 20) (Rg [0,1,2] [Ro 21 (.aL .any (.global 0)),⟨none,none,.op false (.cJ (.panic (T 21)))⟩])
 .skip))
 (.seq (.seq (Rg [0,1,2] [Mv 22 2,Mv 23 0,Bt 24 .leq 85 22 23])
 (.cond (T 24) (Rg [0,1,2] [Ro 25 (.aL .any (.global 1)),⟨none,none,.op false (.cJ (.panic (T 25)))⟩])
 .skip))
 (.seq (.seq (Rg [0,1,2] [Mv 26 0,Bc 27 .eql 85 26 .u64 0])
 (.cond (T 27) (.seq (.draw (some [1,2]) 8 [Dr (Mv 28 1) 0 [2,6,7],Dr (Mv 29 2) 1 [2,6,7],Dr (Bt 30 .quo 85 28 29) 2 [6,7],Dr (Mv 31 1) 3 [5,7],Dr (Mv 32 2) 4 [5,7],Dr (Bt 33 .rem 85 31 32) 5 [7],Dr (As 6 30) 6 [7],Dr (As 7 33) 7 []])
 .ret)
 .skip))
 (.seq (Rg [0,1,2] [Mv 34 2,Ca 35 115 [T 34] vI,Ro 36 (.mU .u64 (T 35)),As 8 36])
 (.seq (Rg [0,1,2,8] [Mv 37 2,Mv 38 8,Ol 39 (.binOp .shl 85 (T 37) (T 38) 104),As 2 39])
 (.seq (Rg [0,1,2,8] [Mv 40 2,Ol 41 (.binOp .shr 85 (T 40) (.const (.int .u64 32)) 104),As 9 41])
 (.seq (Rg [0,1,2,8,9] [Mv 42 2,Bc 43 .and 85 42 .u64 4294967295,As 10 43])
 (.seq (Rg [0,1,2,8,9,10] [Mv 44 0,Mv 45 8,Ol 46 (.binOp .shl 85 (T 44) (T 45) 104),Mv 47 1,Mv 48 8,Ol 49 (.binOp .sub 104 (.const (.int .u64 64)) (T 48) 104),Ol 50 (.binOp .shr 85 (T 47) (T 49) 104),Bt 51 .or 85 46 50,As 11 51])
 (.seq (Rg [1,2,8,9,10,11] [Mv 52 1,Mv 53 8,Ol 54 (.binOp .shl 85 (T 52) (T 53) 104),As 12 54])
 (.seq (Rg [2,8,9,10,11,12] [Mv 55 12,Ol 56 (.binOp .shr 85 (T 55) (.const (.int .u64 32)) 104),As 13 56])
 (.seq (Rg [2,8,9,10,11,12,13] [Mv 57 12,Bc 58 .and 85 57 .u64 4294967295,As 14 58])
 (.seq (Rg [2,8,9,10,11,13,14] [Mv 59 11,Mv 60 9,Bt 61 .quo 85 59 60,As 15 61])
 (.seq (Rg [2,8,9,10,11,13,14,15] [Mv 62 11,Mv 63 15,Mv 64 9,Bt 65 .mul 85 63 64,Bt 66 .sub 85 62 65,As 16 66])
 (.seq (.block 0 (.loop 17 none (some [2,8,9,10,11,13,14,15,16])))
 (.seq (Rg [2,8,9,10,11,13,14,15] [Mv 86 11,Bc 87 .mul 85 86 .u64 4294967296,Mv 88 13,Bt 89 .add 85 87 88,Mv 90 15,Mv 91 2,Bt 92 .mul 85 90 91,Bt 93 .sub 85 89 92,As 17 93])
 (.seq (Rg [2,8,9,10,14,15,17] [Mv 94 17,Mv 95 9,Bt 96 .quo 85 94 95,As 18 96])
 (.seq (Rg [2,8,9,10,14,15,17,18] [Mv 97 17,Mv 98 18,Mv 99 9,Bt 100 .mul 85 98 99,Bt 101 .sub 85 97 100,As 16 101])
 (.seq (.block 2 (.loop 24 none (some [2,8,9,10,14,15,16,17,18])))
 (.seq (Rg [2,8,14,15,17,18] [Mv 121 15,Bc 122 .mul 85 121 .u64 4294967296,Mv 123 18,Bt 124 .add 85 122 123,Mv 125 17,Bc 126 .mul 85 125 .u64 4294967296,Mv 127 14,Bt 128 .add 85 126 127,Mv 129 18,Mv 130 2,Bt 131 .mul 85 129 130,Bt 132 .sub 85 128 131,Mv 133 8,Ol 134 (.binOp .shr 85 (T 132) (T 133) 104),As 6 124,As 7 134])
 .ret))))))))))))))))))),
 [.tmp 6,.tmp 7],
 [(17,⟨none,some [2,8,9,10,11,13,14,15,16],.seq (.seq (Rg [2,8,9,10,11,13,14,15,16] [Mv 67 15,Bc 68 .geq 85 67 .u64 4294967296,Mv 69 68,Gf 70 69 (.move (T 15)),Gf 71 69 (.move (T 10)),Gf 72 69 (.binOp .mul 85 (T 70) (T 71) 85),Gf 73 69 (.move (T 16)),Gf 74 69 (.binOp .mul 85 (.const (.int .u64 4294967296)) (T 73) 85),Gf 75 69 (.move (T 13)),Gf 76 69 (.binOp .add 85 (T 74) (T 75) 85),Gf 77 69 (.binOp .gtr 85 (T 72) (T 76) 85),Ol 78 (.pick (T 69) (.const (.bool true)) (T 77))])
 (.cond (T 78) .skip
 (.exit 0 (some [2,8,9,10,11,13,14,15]))))
 (.block 1 (.seq (Rg [2,8,9,10,11,13,14,15,16] [Mv 79 15,Bc 80 .sub 85 79 .u64 1,As 15 80])
 (.seq (Rg [2,8,9,10,11,13,14,15,16] [Mv 81 16,Mv 82 9,Bt 83 .add 85 81 82,As 16 83])
 (.seq (Rg [2,8,9,10,11,13,14,15,16] [Mv 84 16,Bc 85 .geq 85 84 .u64 4294967296])
 (.cond (T 85) (.exit 0 (some [2,8,9,10,11,13,14,15]))
 .skip)))))⟩),(24,⟨none,some [2,8,9,10,14,15,16,17,18],.seq (.seq (Rg [2,8,9,10,14,15,16,17,18] [Mv 102 18,Bc 103 .geq 85 102 .u64 4294967296,Mv 104 103,Gf 105 104 (.move (T 18)),Gf 106 104 (.move (T 10)),Gf 107 104 (.binOp .mul 85 (T 105) (T 106) 85),Gf 108 104 (.move (T 16)),Gf 109 104 (.binOp .mul 85 (.const (.int .u64 4294967296)) (T 108) 85),Gf 110 104 (.move (T 14)),Gf 111 104 (.binOp .add 85 (T 109) (T 110) 85),Gf 112 104 (.binOp .gtr 85 (T 107) (T 111) 85),Ol 113 (.pick (T 104) (.const (.bool true)) (T 112))])
 (.cond (T 113) .skip
 (.exit 2 (some [2,8,14,15,17,18]))))
 (.block 3 (.seq (Rg [2,8,9,10,14,15,16,17,18] [Mv 114 18,Bc 115 .sub 85 114 .u64 1,As 18 115])
 (.seq (Rg [2,8,9,10,14,15,16,17,18] [Mv 116 16,Mv 117 9,Bt 118 .add 85 116 117,As 16 118])
 (.seq (Rg [2,8,9,10,14,15,16,17,18] [Mv 119 16,Bc 120 .geq 85 119 .u64 4294967296])
 (.cond (T 120) (.exit 2 (some [2,8,14,15,17,18]))
 .skip)))))⟩)],
 []⟩
theorem sX: fE (progU ()) hint live 107 Tryz.f107=some YH:=by kernel_rfl
def YI : lG :=
⟨.seq (Rg [0,1,2,3,4] [Mv 12 1,As 10 12])
 (.block 0 (.loop 1 (some [0,2,3,4,10]) (some [0,2,3,4,10]))),
 [],
 [(1,⟨some [0,2,3,4,10],some [0,2,3,4,10],.block 1 (.seq (Rg [0,2,3,4,10] [Mv 13 10,Ol 14 (.binOp .mul 3 (Ci 2) (T 13) 3),Bc 15 .add 3 14 .i64 1,As 11 15])
 (.seq (.seq (Rg [0,2,3,4,10,11] [Mv 16 11,Mv 17 2,Bt 18 .geq 3 16 17])
 (.cond (T 18) (.exit 0 (some []))
 .skip))
 (.seq (.seq (.draw (some [0,2,3,4,10,11]) 22 [Dr (Mv 19 11) 0 [1,3,4,5,6,7,8,9,10,11,12,13,14,15,16,17,18,19,20,21],Dr (Bc 20 .add 3 19 .i64 1) 1 [3,4,5,6,7,8,9,10,11,12,13,14,15,16,17,18,19,20,21],Dr (Mv 21 2) 2 [3,4,5,6,7,8,9,10,11,12,13,14,15,16,17,18,19,20,21],Dr (Bt 22 .lss 3 20 21) 3 [4,5,6,7,8,9,10,11,12,13,14,15,16,17,18,19,20,21],Dr (Mv 23 22) 4 [5,6,7,8,9,10,11,12,13,14,15,16,17,18,19,20,21],⟨Gt 24 23 (.move (T 4)),5,.none,[19,20,21],false,true⟩,⟨Gt 25 23 (.move (T 0)),6,.none,[10,11,19,20,21],false,true⟩,⟨Gt 26 23 (.move (T 3)),7,.none,[9,10,11,19,20,21],false,true⟩,⟨Gt 27 23 (.move (T 11)),8,.none,[9,10,11,19,20,21],false,true⟩,⟨Gt 28 23 (.binOp .add 3 (T 26) (T 27) 3),9,.none,[10,11,19,20,21],false,true⟩,⟨Ht 29 23 (.rI 1 (T 25) (T 28)),10,.none,[11,19,20,21],false,true⟩,⟨Ht 30 23 (.aL .slice (T 29)),11,.dm (T 29),[19,20,21],false,true⟩,⟨Gt 31 23 (.move (T 0)),12,.none,[17,18,19,20,21],false,true⟩,⟨Gt 32 23 (.move (T 3)),13,.none,[15,16,17,18,19,20,21],false,true⟩,⟨Gt 33 23 (.move (T 11)),14,.none,[15,16,17,18,19,20,21],false,true⟩,⟨Gt 34 23 (.binOp .add 3 (T 32) (T 33) 3),15,.none,[16,17,18,19,20,21],false,true⟩,⟨Gt 35 23 (.binOp .add 3 (T 34) (Ci 1) 3),16,.none,[17,18,19,20,21],false,true⟩,⟨Ht 36 23 (.rI 1 (T 31) (T 35)),17,.none,[18,19,20,21],false,true⟩,⟨Ht 37 23 (.aL .slice (T 36)),18,.dm (T 36),[19,20,21],false,true⟩,⟨⟨some 38,some (23,true),.call (T 24) [T 30,T 37] vI⟩,19,.all,[20,21],false,false⟩,⟨Gt 39 23 (.binOp .lss 3 (T 38) (Ci 0) 3),20,.none,[21],false,true⟩,Dr (Ol 40 (.pick (T 23) (T 39) (.const (.bool false)))) 21 []])
 (.cond (T 40) (Rg [0,2,3,4,10,11] [Mv 41 11,Bc 42 .add 3 41 .i64 1,As 11 42])
 .skip))
 (.seq (.seq (.draw (some [0,2,3,4,10,11]) 16 [Dr (Mv 43 4) 0 [13,14,15],Dr (Mv 44 0) 1 [5,6,13,14,15],Dr (Mv 45 3) 2 [4,5,6,13,14,15],Dr (Mv 46 10) 3 [4,5,6,13,14,15],Dr (Bt 47 .add 3 45 46) 4 [5,6,13,14,15],Dr (Ix 48 1 44 47) 5 [6,13,14,15],Db (Ro 49 (.aL .slice (T 48))) 6 48 [13,14,15],Dr (Mv 50 0) 7 [11,12,13,14,15],Dr (Mv 51 3) 8 [10,11,12,13,14,15],Dr (Mv 52 11) 9 [10,11,12,13,14,15],Dr (Bt 53 .add 3 51 52) 10 [11,12,13,14,15],Dr (Ix 54 1 50 53) 11 [12,13,14,15],Db (Ro 55 (.aL .slice (T 54))) 12 54 [13,14,15],⟨⟨some 56,none,.call (T 43) [T 49,T 55] vI⟩,13,.all,[14,15],false,false⟩,Dr (Bc 57 .lss 3 56 .i64 0) 14 [15],Dr (Ol 58 (.unOp .not 4 (T 57))) 15 []])
 (.cond (T 58) .ret
 .skip))
 (.seq (.draw (some [0,2,3,4,10,11]) 24 [Dr (Mv 59 0) 0 [20,21,22,23],Dr (Mv 60 3) 1 [3,20,21,22,23],Dr (Mv 61 10) 2 [3,20,21,22,23],Dr (Bt 62 .add 3 60 61) 3 [20,21,22,23],Dr (Mv 63 0) 4 [22,23],Dr (Mv 64 3) 5 [7,22,23],Dr (Mv 65 11) 6 [7,22,23],Dr (Bt 66 .add 3 64 65) 7 [22,23],Dr (Mv 67 0) 8 [12,13,20,21,22,23],Dr (Mv 68 3) 9 [11,12,13,20,21,22,23],Dr (Mv 69 11) 10 [11,12,13,20,21,22,23],Dr (Bt 70 .add 3 68 69) 11 [12,13,20,21,22,23],Dr (Ix 71 1 67 70) 12 [13,20,21,22,23],Db (Ro 72 (.aL .slice (T 71))) 13 71 [20,21,22,23],Dr (Mv 73 0) 14 [18,19,20,21,22,23],Dr (Mv 74 3) 15 [17,18,19,20,21,22,23],Dr (Mv 75 10) 16 [17,18,19,20,21,22,23],Dr (Bt 76 .add 3 74 75) 17 [18,19,20,21,22,23],Dr (Ix 77 1 73 76) 18 [19,20,21,22,23],Db (Ro 78 (.aL .slice (T 77))) 19 77 [20,21,22,23],Dr (Ix 79 1 59 62) 20 [21,22,23],⟨Sr 1 79 72,21,.dm (T 79),[22,23],true,true⟩,Dr (Ix 80 1 63 66) 22 [23],⟨Sr 1 80 78,23,.dm (T 80),[],true,true⟩])
 (Rg [0,2,3,4,11] [Mv 81 11,As 10 81]))))))⟩)],
 []⟩
theorem Br: fE (progU ()) hint live 110 Tryz.f110=some YI:=by kernel_rfl
def x111:RX 111 Tryz.f111:=by constructor;conv=>lhs;cbv
def x112:RX 112 Tryz.f112:=by constructor;conv=>lhs;cbv
def x113:RX 113 Tryz.f113:=by constructor;conv=>lhs;cbv
def x114:RX 114 Tryz.f114:=by constructor;conv=>lhs;cbv
def x115:RX 115 Tryz.f115:=by constructor;conv=>lhs;cbv
def x117:RX 117 Tryz.f117:=by constructor;conv=>lhs;cbv
