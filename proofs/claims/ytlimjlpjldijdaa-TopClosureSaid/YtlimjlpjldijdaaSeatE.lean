import Derived.Test.YtlimjlpjldijdaaSeat0
import Derived.Test.YtlimjlpjldijdaaSymS
set_option linter.unusedSimpArgs false
set_option linter.unusedVariables false
namespace Go.Proofs.Ytlimjlpjldijdaa
open Go.Sim
set_option maxRecDepth 100000
def r81 : RFun :=
⟨.seq (Rg [0,1,2,3,4] [Ac 10 0])
 (.seq (.draw (some [0,1,2,3,4]) 16 [Dr (Mv 13 0) 0 [12,13,14,15],Dr (Mv 14 1) 1 [12,13,14,15],Dr (Mv 15 0) 2 [14,15],Dr (Mv 16 3) 3 [14,15],Dr (Mv 17 0) 4 [6,7,12,13,14,15],Dr (Mv 18 3) 5 [6,7,12,13,14,15],Dr (Ix 19 2 17 18) 6 [7,12,13,14,15],Db (Ld 20 19) 7 19 [12,13,14,15],Dr (Mv 21 0) 8 [10,11,12,13,14,15],Dr (Mv 22 1) 9 [10,11,12,13,14,15],Dr (Ix 23 2 21 22) 10 [11,12,13,14,15],Db (Ld 24 23) 11 23 [12,13,14,15],Dr (Ix 25 2 13 14) 12 [13,14,15],⟨Sr 2 25 20,13,.blk (T 25),[14,15],true,true⟩,Dr (Ix 26 2 15 16) 14 [15],⟨Sr 2 26 24,15,.blk (T 26),[],true,true⟩])
 (.seq (Rg [0,1,2,4] [Mv 27 1,Bc 28 .add 3 27 .i64 1,Mv 29 2,Bc 30 .sub 3 29 .i64 1,As 11 28,As 12 30])
 (.seq (.block 0 (.loop 1003 (some [0,1,4,11,12]) (some [0,1,4,11,12])))
 (.seq (Rg [11] [Mv 89 11,As 10 89])
 .ret)))),
 [.tmp 10],
 [(1003,⟨some [0,1,4,11,12],some [0,1,4,11,12],.block 1 (.seq (.block 2 (.loop 3 (some [0,1,4,11,12]) (some [0,1,4,11,12])))
 (.seq (.block 4 (.loop 5 (some [0,1,4,11,12]) (some [0,1,4,11,12])))
 (.seq (.seq (Rg [0,1,4,11,12] [Mv 68 11,Mv 69 12,Bt 70 .gtr 3 68 69])
 (.cond (T 70) (.exit 0 (some [11]))
 .skip))
 (.seq (.draw (some [0,1,4,11,12]) 16 [Dr (Mv 71 0) 0 [12,13,14,15],Dr (Mv 72 11) 1 [12,13,14,15],Dr (Mv 73 0) 2 [14,15],Dr (Mv 74 12) 3 [14,15],Dr (Mv 75 0) 4 [6,7,12,13,14,15],Dr (Mv 76 12) 5 [6,7,12,13,14,15],Dr (Ix 77 2 75 76) 6 [7,12,13,14,15],Db (Ld 78 77) 7 77 [12,13,14,15],Dr (Mv 79 0) 8 [10,11,12,13,14,15],Dr (Mv 80 11) 9 [10,11,12,13,14,15],Dr (Ix 81 2 79 80) 10 [11,12,13,14,15],Db (Ld 82 81) 11 81 [12,13,14,15],Dr (Ix 83 2 71 72) 12 [13,14,15],⟨Sr 2 83 78,13,.blk (T 83),[14,15],true,true⟩,Dr (Ix 84 2 73 74) 14 [15],⟨Sr 2 84 82,15,.blk (T 84),[],true,true⟩])
 (.seq (Rg [0,1,4,11,12] [Mv 85 11,Bc 86 .add 3 85 .i64 1,As 11 86])
 (Rg [0,1,4,11,12] [Mv 87 12,Bc 88 .sub 3 87 .i64 1,As 12 88]))))))⟩),(3,⟨some [0,1,4,11,12],some [0,1,4,11,12],.seq (.seq (.draw (some [0,1,4,11,12]) 17 [Dr (Mv 31 11) 0 [2,3,4,5,6,7,8,9,10,11,12,13,14,15,16],Dr (Mv 32 12) 1 [2,3,4,5,6,7,8,9,10,11,12,13,14,15,16],Dr (Bt 33 .leq 3 31 32) 2 [3,4,5,6,7,8,9,10,11,12,13,14,15,16],Dr (Mv 34 33) 3 [4,5,6,7,8,9,10,11,12,13,14,15,16],⟨Gt 35 34 (.move (T 4)),4,.none,[13,14,15,16],false,true⟩,⟨Gt 36 34 (.move (T 0)),5,.none,[7,8,13,14,15,16],false,true⟩,⟨Gt 37 34 (.move (T 1)),6,.none,[7,8,13,14,15,16],false,true⟩,⟨Ht 38 34 (.ixS 2 (T 36) (T 37)),7,.none,[8,13,14,15,16],false,true⟩,⟨Ht 39 34 (.load 2 s2 (T 38)),8,.blk (T 38),[13,14,15,16],false,true⟩,⟨Gt 40 34 (.move (T 0)),9,.none,[11,12,13,14,15,16],false,true⟩,⟨Gt 41 34 (.move (T 11)),10,.none,[11,12,13,14,15,16],false,true⟩,⟨Ht 42 34 (.ixS 2 (T 40) (T 41)),11,.none,[12,13,14,15,16],false,true⟩,⟨Ht 43 34 (.load 2 s2 (T 42)),12,.blk (T 42),[13,14,15,16],false,true⟩,⟨⟨some 44,some (34,true),.call (T 35) [T 39,T 43] vI⟩,13,.all,[14,15,16],false,false⟩,⟨Gt 45 34 (.binOp .lss 3 (T 44) (Ci 0) 3),14,.none,[15,16],false,true⟩,⟨Gt 46 34 (.unOp .not 4 (T 45)),15,.none,[16],false,true⟩,Dr (Ol 47 (.pick (T 34) (T 46) (.const (.bool false)))) 16 []])
 (.cond (T 47) .skip
 (.exit 2 (some [0,1,4,11,12]))))
 (.block 3 (Rg [0,1,4,11,12] [Mv 48 11,Bc 49 .add 3 48 .i64 1,As 11 49]))⟩),(5,⟨some [0,1,4,11,12],some [0,1,4,11,12],.seq (.seq (.draw (some [0,1,4,11,12]) 16 [Dr (Mv 50 11) 0 [2,3,4,5,6,7,8,9,10,11,12,13,14,15],Dr (Mv 51 12) 1 [2,3,4,5,6,7,8,9,10,11,12,13,14,15],Dr (Bt 52 .leq 3 50 51) 2 [3,4,5,6,7,8,9,10,11,12,13,14,15],Dr (Mv 53 52) 3 [4,5,6,7,8,9,10,11,12,13,14,15],⟨Gt 54 53 (.move (T 4)),4,.none,[13,14,15],false,true⟩,⟨Gt 55 53 (.move (T 0)),5,.none,[7,8,13,14,15],false,true⟩,⟨Gt 56 53 (.move (T 1)),6,.none,[7,8,13,14,15],false,true⟩,⟨Ht 57 53 (.ixS 2 (T 55) (T 56)),7,.none,[8,13,14,15],false,true⟩,⟨Ht 58 53 (.load 2 s2 (T 57)),8,.blk (T 57),[13,14,15],false,true⟩,⟨Gt 59 53 (.move (T 0)),9,.none,[11,12,13,14,15],false,true⟩,⟨Gt 60 53 (.move (T 12)),10,.none,[11,12,13,14,15],false,true⟩,⟨Ht 61 53 (.ixS 2 (T 59) (T 60)),11,.none,[12,13,14,15],false,true⟩,⟨Ht 62 53 (.load 2 s2 (T 61)),12,.blk (T 61),[13,14,15],false,true⟩,⟨⟨some 63,some (53,true),.call (T 54) [T 58,T 62] vI⟩,13,.all,[14,15],false,false⟩,⟨Gt 64 53 (.binOp .lss 3 (T 63) (Ci 0) 3),14,.none,[15],false,true⟩,Dr (Ol 65 (.pick (T 53) (T 64) (.const (.bool false)))) 15 []])
 (.cond (T 65) .skip
 (.exit 4 (some [0,1,4,11,12]))))
 (.block 5 (Rg [0,1,4,11,12] [Mv 66 12,Bc 67 .sub 3 66 .i64 1,As 12 67]))⟩)],
 []⟩
theorem r81_ok:resFun (progU ()) hint live 81 Try.f81=some r81:=by kernel_rfl
def r82 : RFun :=
⟨.seq (Rg [0,1,2,3,4] [Ac 10 0,Ol 11 (.assign (.const (.bool false)))])
 (.seq (.draw (some [0,1,2,3,4]) 16 [Dr (Mv 14 0) 0 [12,13,14,15],Dr (Mv 15 1) 1 [12,13,14,15],Dr (Mv 16 0) 2 [14,15],Dr (Mv 17 3) 3 [14,15],Dr (Mv 18 0) 4 [6,7,12,13,14,15],Dr (Mv 19 3) 5 [6,7,12,13,14,15],Dr (Ix 20 2 18 19) 6 [7,12,13,14,15],Db (Ld 21 20) 7 20 [12,13,14,15],Dr (Mv 22 0) 8 [10,11,12,13,14,15],Dr (Mv 23 1) 9 [10,11,12,13,14,15],Dr (Ix 24 2 22 23) 10 [11,12,13,14,15],Db (Ld 25 24) 11 24 [12,13,14,15],Dr (Ix 26 2 14 15) 12 [13,14,15],⟨Sr 2 26 21,13,.blk (T 26),[14,15],true,true⟩,Dr (Ix 27 2 16 17) 14 [15],⟨Sr 2 27 25,15,.blk (T 27),[],true,true⟩])
 (.seq (Rg [0,1,2,4] [Mv 28 1,Bc 29 .add 3 28 .i64 1,Mv 30 2,Bc 31 .sub 3 30 .i64 1,As 12 29,As 13 31])
 (.seq (.block 0 (.loop 3 (some [0,1,4,12,13]) (some [0,1,4,12,13])))
 (.seq (.block 2 (.loop 5 (some [0,1,4,12,13]) (some [0,1,4,12,13])))
 (.seq (.seq (Rg [0,1,4,12,13] [Mv 69 12,Mv 70 13,Bt 71 .gtr 3 69 70])
 (.cond (T 71) (.seq (.draw (some [0,1,13]) 16 [Dr (Mv 72 0) 0 [12,13,14,15],Dr (Mv 73 13) 1 [12,13,14,15],Dr (Mv 74 0) 2 [14,15],Dr (Mv 75 1) 3 [14,15],Dr (Mv 76 0) 4 [6,7,12,13,14,15],Dr (Mv 77 1) 5 [6,7,12,13,14,15],Dr (Ix 78 2 76 77) 6 [7,12,13,14,15],Db (Ld 79 78) 7 78 [12,13,14,15],Dr (Mv 80 0) 8 [10,11,12,13,14,15],Dr (Mv 81 13) 9 [10,11,12,13,14,15],Dr (Ix 82 2 80 81) 10 [11,12,13,14,15],Db (Ld 83 82) 11 82 [12,13,14,15],Dr (Ix 84 2 72 73) 12 [13,14,15],⟨Sr 2 84 79,13,.blk (T 84),[14,15],true,true⟩,Dr (Ix 85 2 74 75) 14 [15],⟨Sr 2 85 83,15,.blk (T 85),[],true,true⟩])
 (.seq (Rg [13] [Mv 86 13,As 10 86,Ol 11 (.assign (.const (.bool true)))])
 .ret))
 .skip))
 (.seq (.draw (some [0,1,4,12,13]) 16 [Dr (Mv 87 0) 0 [12,13,14,15],Dr (Mv 88 12) 1 [12,13,14,15],Dr (Mv 89 0) 2 [14,15],Dr (Mv 90 13) 3 [14,15],Dr (Mv 91 0) 4 [6,7,12,13,14,15],Dr (Mv 92 13) 5 [6,7,12,13,14,15],Dr (Ix 93 2 91 92) 6 [7,12,13,14,15],Db (Ld 94 93) 7 93 [12,13,14,15],Dr (Mv 95 0) 8 [10,11,12,13,14,15],Dr (Mv 96 12) 9 [10,11,12,13,14,15],Dr (Ix 97 2 95 96) 10 [11,12,13,14,15],Db (Ld 98 97) 11 97 [12,13,14,15],Dr (Ix 99 2 87 88) 12 [13,14,15],⟨Sr 2 99 94,13,.blk (T 99),[14,15],true,true⟩,Dr (Ix 100 2 89 90) 14 [15],⟨Sr 2 100 98,15,.blk (T 100),[],true,true⟩])
 (.seq (Rg [0,1,4,12,13] [Mv 101 12,Bc 102 .add 3 101 .i64 1,As 12 102])
 (.seq (Rg [0,1,4,12,13] [Mv 103 13,Bc 104 .sub 3 103 .i64 1,As 13 104])
 (.seq (.block 4 (.loop 1013 (some [0,1,4,12,13]) (some [0,1,4,12,13])))
 (.seq (.draw (some [0,1,13]) 16 [Dr (Mv 163 0) 0 [12,13,14,15],Dr (Mv 164 13) 1 [12,13,14,15],Dr (Mv 165 0) 2 [14,15],Dr (Mv 166 1) 3 [14,15],Dr (Mv 167 0) 4 [6,7,12,13,14,15],Dr (Mv 168 1) 5 [6,7,12,13,14,15],Dr (Ix 169 2 167 168) 6 [7,12,13,14,15],Db (Ld 170 169) 7 169 [12,13,14,15],Dr (Mv 171 0) 8 [10,11,12,13,14,15],Dr (Mv 172 13) 9 [10,11,12,13,14,15],Dr (Ix 173 2 171 172) 10 [11,12,13,14,15],Db (Ld 174 173) 11 173 [12,13,14,15],Dr (Ix 175 2 163 164) 12 [13,14,15],⟨Sr 2 175 170,13,.blk (T 175),[14,15],true,true⟩,Dr (Ix 176 2 165 166) 14 [15],⟨Sr 2 176 174,15,.blk (T 176),[],true,true⟩])
 (.seq (Rg [13] [Mv 177 13,As 10 177,Ol 11 (.assign (.const (.bool false)))])
 .ret))))))))))),
 [.tmp 10,.tmp 11],
 [(3,⟨some [0,1,4,12,13],some [0,1,4,12,13],.seq (.seq (.draw (some [0,1,4,12,13]) 16 [Dr (Mv 32 12) 0 [2,3,4,5,6,7,8,9,10,11,12,13,14,15],Dr (Mv 33 13) 1 [2,3,4,5,6,7,8,9,10,11,12,13,14,15],Dr (Bt 34 .leq 3 32 33) 2 [3,4,5,6,7,8,9,10,11,12,13,14,15],Dr (Mv 35 34) 3 [4,5,6,7,8,9,10,11,12,13,14,15],⟨Gt 36 35 (.move (T 4)),4,.none,[13,14,15],false,true⟩,⟨Gt 37 35 (.move (T 0)),5,.none,[7,8,13,14,15],false,true⟩,⟨Gt 38 35 (.move (T 12)),6,.none,[7,8,13,14,15],false,true⟩,⟨Ht 39 35 (.ixS 2 (T 37) (T 38)),7,.none,[8,13,14,15],false,true⟩,⟨Ht 40 35 (.load 2 s2 (T 39)),8,.blk (T 39),[13,14,15],false,true⟩,⟨Gt 41 35 (.move (T 0)),9,.none,[11,12,13,14,15],false,true⟩,⟨Gt 42 35 (.move (T 1)),10,.none,[11,12,13,14,15],false,true⟩,⟨Ht 43 35 (.ixS 2 (T 41) (T 42)),11,.none,[12,13,14,15],false,true⟩,⟨Ht 44 35 (.load 2 s2 (T 43)),12,.blk (T 43),[13,14,15],false,true⟩,⟨⟨some 45,some (35,true),.call (T 36) [T 40,T 44] vI⟩,13,.all,[14,15],false,false⟩,⟨Gt 46 35 (.binOp .lss 3 (T 45) (Ci 0) 3),14,.none,[15],false,true⟩,Dr (Ol 47 (.pick (T 35) (T 46) (.const (.bool false)))) 15 []])
 (.cond (T 47) .skip
 (.exit 0 (some [0,1,4,12,13]))))
 (.block 1 (Rg [0,1,4,12,13] [Mv 48 12,Bc 49 .add 3 48 .i64 1,As 12 49]))⟩),(5,⟨some [0,1,4,12,13],some [0,1,4,12,13],.seq (.seq (.draw (some [0,1,4,12,13]) 17 [Dr (Mv 50 12) 0 [2,3,4,5,6,7,8,9,10,11,12,13,14,15,16],Dr (Mv 51 13) 1 [2,3,4,5,6,7,8,9,10,11,12,13,14,15,16],Dr (Bt 52 .leq 3 50 51) 2 [3,4,5,6,7,8,9,10,11,12,13,14,15,16],Dr (Mv 53 52) 3 [4,5,6,7,8,9,10,11,12,13,14,15,16],⟨Gt 54 53 (.move (T 4)),4,.none,[13,14,15,16],false,true⟩,⟨Gt 55 53 (.move (T 0)),5,.none,[7,8,13,14,15,16],false,true⟩,⟨Gt 56 53 (.move (T 13)),6,.none,[7,8,13,14,15,16],false,true⟩,⟨Ht 57 53 (.ixS 2 (T 55) (T 56)),7,.none,[8,13,14,15,16],false,true⟩,⟨Ht 58 53 (.load 2 s2 (T 57)),8,.blk (T 57),[13,14,15,16],false,true⟩,⟨Gt 59 53 (.move (T 0)),9,.none,[11,12,13,14,15,16],false,true⟩,⟨Gt 60 53 (.move (T 1)),10,.none,[11,12,13,14,15,16],false,true⟩,⟨Ht 61 53 (.ixS 2 (T 59) (T 60)),11,.none,[12,13,14,15,16],false,true⟩,⟨Ht 62 53 (.load 2 s2 (T 61)),12,.blk (T 61),[13,14,15,16],false,true⟩,⟨⟨some 63,some (53,true),.call (T 54) [T 58,T 62] vI⟩,13,.all,[14,15,16],false,false⟩,⟨Gt 64 53 (.binOp .lss 3 (T 63) (Ci 0) 3),14,.none,[15,16],false,true⟩,⟨Gt 65 53 (.unOp .not 4 (T 64)),15,.none,[16],false,true⟩,Dr (Ol 66 (.pick (T 53) (T 65) (.const (.bool false)))) 16 []])
 (.cond (T 66) .skip
 (.exit 2 (some [0,1,4,12,13]))))
 (.block 3 (Rg [0,1,4,12,13] [Mv 67 13,Bc 68 .sub 3 67 .i64 1,As 13 68]))⟩),(1013,⟨some [0,1,4,12,13],some [0,1,4,12,13],.block 5 (.seq (.block 6 (.loop 13 (some [0,1,4,12,13]) (some [0,1,4,12,13])))
 (.seq (.block 8 (.loop 15 (some [0,1,4,12,13]) (some [0,1,4,12,13])))
 (.seq (.seq (Rg [0,1,4,12,13] [Mv 142 12,Mv 143 13,Bt 144 .gtr 3 142 143])
 (.cond (T 144) (.exit 4 (some [0,1,13]))
 .skip))
 (.seq (.draw (some [0,1,4,12,13]) 16 [Dr (Mv 145 0) 0 [12,13,14,15],Dr (Mv 146 12) 1 [12,13,14,15],Dr (Mv 147 0) 2 [14,15],Dr (Mv 148 13) 3 [14,15],Dr (Mv 149 0) 4 [6,7,12,13,14,15],Dr (Mv 150 13) 5 [6,7,12,13,14,15],Dr (Ix 151 2 149 150) 6 [7,12,13,14,15],Db (Ld 152 151) 7 151 [12,13,14,15],Dr (Mv 153 0) 8 [10,11,12,13,14,15],Dr (Mv 154 12) 9 [10,11,12,13,14,15],Dr (Ix 155 2 153 154) 10 [11,12,13,14,15],Db (Ld 156 155) 11 155 [12,13,14,15],Dr (Ix 157 2 145 146) 12 [13,14,15],⟨Sr 2 157 152,13,.blk (T 157),[14,15],true,true⟩,Dr (Ix 158 2 147 148) 14 [15],⟨Sr 2 158 156,15,.blk (T 158),[],true,true⟩])
 (.seq (Rg [0,1,4,12,13] [Mv 159 12,Bc 160 .add 3 159 .i64 1,As 12 160])
 (Rg [0,1,4,12,13] [Mv 161 13,Bc 162 .sub 3 161 .i64 1,As 13 162]))))))⟩),(13,⟨some [0,1,4,12,13],some [0,1,4,12,13],.seq (.seq (.draw (some [0,1,4,12,13]) 16 [Dr (Mv 105 12) 0 [2,3,4,5,6,7,8,9,10,11,12,13,14,15],Dr (Mv 106 13) 1 [2,3,4,5,6,7,8,9,10,11,12,13,14,15],Dr (Bt 107 .leq 3 105 106) 2 [3,4,5,6,7,8,9,10,11,12,13,14,15],Dr (Mv 108 107) 3 [4,5,6,7,8,9,10,11,12,13,14,15],⟨Gt 109 108 (.move (T 4)),4,.none,[13,14,15],false,true⟩,⟨Gt 110 108 (.move (T 0)),5,.none,[7,8,13,14,15],false,true⟩,⟨Gt 111 108 (.move (T 12)),6,.none,[7,8,13,14,15],false,true⟩,⟨Ht 112 108 (.ixS 2 (T 110) (T 111)),7,.none,[8,13,14,15],false,true⟩,⟨Ht 113 108 (.load 2 s2 (T 112)),8,.blk (T 112),[13,14,15],false,true⟩,⟨Gt 114 108 (.move (T 0)),9,.none,[11,12,13,14,15],false,true⟩,⟨Gt 115 108 (.move (T 1)),10,.none,[11,12,13,14,15],false,true⟩,⟨Ht 116 108 (.ixS 2 (T 114) (T 115)),11,.none,[12,13,14,15],false,true⟩,⟨Ht 117 108 (.load 2 s2 (T 116)),12,.blk (T 116),[13,14,15],false,true⟩,⟨⟨some 118,some (108,true),.call (T 109) [T 113,T 117] vI⟩,13,.all,[14,15],false,false⟩,⟨Gt 119 108 (.binOp .lss 3 (T 118) (Ci 0) 3),14,.none,[15],false,true⟩,Dr (Ol 120 (.pick (T 108) (T 119) (.const (.bool false)))) 15 []])
 (.cond (T 120) .skip
 (.exit 6 (some [0,1,4,12,13]))))
 (.block 7 (Rg [0,1,4,12,13] [Mv 121 12,Bc 122 .add 3 121 .i64 1,As 12 122]))⟩),(15,⟨some [0,1,4,12,13],some [0,1,4,12,13],.seq (.seq (.draw (some [0,1,4,12,13]) 17 [Dr (Mv 123 12) 0 [2,3,4,5,6,7,8,9,10,11,12,13,14,15,16],Dr (Mv 124 13) 1 [2,3,4,5,6,7,8,9,10,11,12,13,14,15,16],Dr (Bt 125 .leq 3 123 124) 2 [3,4,5,6,7,8,9,10,11,12,13,14,15,16],Dr (Mv 126 125) 3 [4,5,6,7,8,9,10,11,12,13,14,15,16],⟨Gt 127 126 (.move (T 4)),4,.none,[13,14,15,16],false,true⟩,⟨Gt 128 126 (.move (T 0)),5,.none,[7,8,13,14,15,16],false,true⟩,⟨Gt 129 126 (.move (T 13)),6,.none,[7,8,13,14,15,16],false,true⟩,⟨Ht 130 126 (.ixS 2 (T 128) (T 129)),7,.none,[8,13,14,15,16],false,true⟩,⟨Ht 131 126 (.load 2 s2 (T 130)),8,.blk (T 130),[13,14,15,16],false,true⟩,⟨Gt 132 126 (.move (T 0)),9,.none,[11,12,13,14,15,16],false,true⟩,⟨Gt 133 126 (.move (T 1)),10,.none,[11,12,13,14,15,16],false,true⟩,⟨Ht 134 126 (.ixS 2 (T 132) (T 133)),11,.none,[12,13,14,15,16],false,true⟩,⟨Ht 135 126 (.load 2 s2 (T 134)),12,.blk (T 134),[13,14,15,16],false,true⟩,⟨⟨some 136,some (126,true),.call (T 127) [T 131,T 135] vI⟩,13,.all,[14,15,16],false,false⟩,⟨Gt 137 126 (.binOp .lss 3 (T 136) (Ci 0) 3),14,.none,[15,16],false,true⟩,⟨Gt 138 126 (.unOp .not 4 (T 137)),15,.none,[16],false,true⟩,Dr (Ol 139 (.pick (T 126) (T 138) (.const (.bool false)))) 16 []])
 (.cond (T 139) .skip
 (.exit 8 (some [0,1,4,12,13]))))
 (.block 9 (Rg [0,1,4,12,13] [Mv 140 13,Bc 141 .sub 3 140 .i64 1,As 13 141]))⟩)],
 []⟩
theorem r82_ok:resFun (progU ()) hint live 82 Try.f82=some r82:=by kernel_rfl
def r84 : RFun :=
⟨.seq (Rg [0] [Ac 2 0])
 (.seq (.seq (Rg [0,2] [Mv 3 0,Bc 4 .geq 133 3 .u64 4294967296])
 (.cond (T 4) (.seq (Rg [0] [Mv 5 0,Ol 6 (.binOp .shr 133 (T 5) (.const (.int .u64 32)) 122),As 0 6])
 (Rg [0] [Ac 2 32]))
 .skip))
 (.seq (.seq (Rg [0,2] [Mv 7 0,Bc 8 .geq 133 7 .u64 65536])
 (.cond (T 8) (.seq (Rg [0,2] [Mv 9 0,Ol 10 (.binOp .shr 133 (T 9) (.const (.int .u64 16)) 122),As 0 10])
 (Rg [0,2] [Mv 11 2,Bc 12 .add 3 11 .i64 16,As 2 12]))
 .skip))
 (.seq (.seq (Rg [0,2] [Mv 13 0,Bc 14 .geq 133 13 .u64 256])
 (.cond (T 14) (.seq (Rg [0,2] [Mv 15 0,Ol 16 (.binOp .shr 133 (T 15) (.const (.int .u64 8)) 122),As 0 16])
 (Rg [0,2] [Mv 17 2,Bc 18 .add 3 17 .i64 8,As 2 18]))
 .skip))
 (.seq (Rg [0,2] [Mv 19 2,Mv 20 0,Ro 21 (.convI .u8 (T 20)),⟨some 22,none,.op false (.old (.index 9 (.const (.string ⟨#[0,1,2,2,3,3,3,3,4,4,4,4,4,4,4,4,5,5,5,5,5,5,5,5,5,5,5,5,5,5,5,5,6,6,6,6,6,6,6,6,6,6,6,6,6,6,6,6,6,6,6,6,6,6,6,6,6,6,6,6,6,6,6,6,7,7,7,7,7,7,7,7,7,7,7,7,7,7,7,7,7,7,7,7,7,7,7,7,7,7,7,7,7,7,7,7,7,7,7,7,7,7,7,7,7,7,7,7,7,7,7,7,7,7,7,7,7,7,7,7,7,7,7,7,7,7,7,7,8,8,8,8,8,8,8,8,8,8,8,8,8,8,8,8,8,8,8,8,8,8,8,8,8,8,8,8,8,8,8,8,8,8,8,8,8,8,8,8,8,8,8,8,8,8,8,8,8,8,8,8,8,8,8,8,8,8,8,8,8,8,8,8,8,8,8,8,8,8,8,8,8,8,8,8,8,8,8,8,8,8,8,8,8,8,8,8,8,8,8,8,8,8,8,8,8,8,8,8,8,8,8,8,8,8,8,8,8,8,8,8,8,8,8,8,8,8,8,8,8,8,8,8,8,8,8,8]⟩)) (T 21)))⟩,Ro 23 (.convI .i64 (T 22)),Bt 24 .add 3 19 23,As 2 24])
 .ret)))),
 [.tmp 2],
 [],
 []⟩
theorem r84_ok:resFun (progU ()) hint live 84 Try.f84=some r84:=by kernel_rfl
def r85 : RFun :=
⟨.seq (Rg [0,1,2,3,4] [Mv 12 1,As 10 12])
 (.block 0 (.loop 1 (some [0,2,3,4,10]) (some [0,2,3,4,10]))),
 [],
 [(1,⟨some [0,2,3,4,10],some [0,2,3,4,10],.block 1 (.seq (Rg [0,2,3,4,10] [Mv 13 10,Ol 14 (.binOp .mul 3 (Ci 2) (T 13) 3),Bc 15 .add 3 14 .i64 1,As 11 15])
 (.seq (.seq (Rg [0,2,3,4,10,11] [Mv 16 11,Mv 17 2,Bt 18 .geq 3 16 17])
 (.cond (T 18) (.exit 0 (some []))
 .skip))
 (.seq (.seq (.draw (some [0,2,3,4,10,11]) 22 [Dr (Mv 19 11) 0 [1,3,4,5,6,7,8,9,10,11,12,13,14,15,16,17,18,19,20,21],Dr (Bc 20 .add 3 19 .i64 1) 1 [3,4,5,6,7,8,9,10,11,12,13,14,15,16,17,18,19,20,21],Dr (Mv 21 2) 2 [3,4,5,6,7,8,9,10,11,12,13,14,15,16,17,18,19,20,21],Dr (Bt 22 .lss 3 20 21) 3 [4,5,6,7,8,9,10,11,12,13,14,15,16,17,18,19,20,21],Dr (Mv 23 22) 4 [5,6,7,8,9,10,11,12,13,14,15,16,17,18,19,20,21],⟨Gt 24 23 (.move (T 4)),5,.none,[19,20,21],false,true⟩,⟨Gt 25 23 (.move (T 0)),6,.none,[10,11,19,20,21],false,true⟩,⟨Gt 26 23 (.move (T 3)),7,.none,[9,10,11,19,20,21],false,true⟩,⟨Gt 27 23 (.move (T 11)),8,.none,[9,10,11,19,20,21],false,true⟩,⟨Gt 28 23 (.binOp .add 3 (T 26) (T 27) 3),9,.none,[10,11,19,20,21],false,true⟩,⟨Ht 29 23 (.ixS 2 (T 25) (T 28)),10,.none,[11,19,20,21],false,true⟩,⟨Ht 30 23 (.load 2 s2 (T 29)),11,.blk (T 29),[19,20,21],false,true⟩,⟨Gt 31 23 (.move (T 0)),12,.none,[17,18,19,20,21],false,true⟩,⟨Gt 32 23 (.move (T 3)),13,.none,[15,16,17,18,19,20,21],false,true⟩,⟨Gt 33 23 (.move (T 11)),14,.none,[15,16,17,18,19,20,21],false,true⟩,⟨Gt 34 23 (.binOp .add 3 (T 32) (T 33) 3),15,.none,[16,17,18,19,20,21],false,true⟩,⟨Gt 35 23 (.binOp .add 3 (T 34) (Ci 1) 3),16,.none,[17,18,19,20,21],false,true⟩,⟨Ht 36 23 (.ixS 2 (T 31) (T 35)),17,.none,[18,19,20,21],false,true⟩,⟨Ht 37 23 (.load 2 s2 (T 36)),18,.blk (T 36),[19,20,21],false,true⟩,⟨⟨some 38,some (23,true),.call (T 24) [T 30,T 37] vI⟩,19,.all,[20,21],false,false⟩,⟨Gt 39 23 (.binOp .lss 3 (T 38) (Ci 0) 3),20,.none,[21],false,true⟩,Dr (Ol 40 (.pick (T 23) (T 39) (.const (.bool false)))) 21 []])
 (.cond (T 40) (Rg [0,2,3,4,10,11] [Mv 41 11,Bc 42 .add 3 41 .i64 1,As 11 42])
 .skip))
 (.seq (.seq (.draw (some [0,2,3,4,10,11]) 16 [Dr (Mv 43 4) 0 [13,14,15],Dr (Mv 44 0) 1 [5,6,13,14,15],Dr (Mv 45 3) 2 [4,5,6,13,14,15],Dr (Mv 46 10) 3 [4,5,6,13,14,15],Dr (Bt 47 .add 3 45 46) 4 [5,6,13,14,15],Dr (Ix 48 2 44 47) 5 [6,13,14,15],Db (Ld 49 48) 6 48 [13,14,15],Dr (Mv 50 0) 7 [11,12,13,14,15],Dr (Mv 51 3) 8 [10,11,12,13,14,15],Dr (Mv 52 11) 9 [10,11,12,13,14,15],Dr (Bt 53 .add 3 51 52) 10 [11,12,13,14,15],Dr (Ix 54 2 50 53) 11 [12,13,14,15],Db (Ld 55 54) 12 54 [13,14,15],⟨⟨some 56,none,.call (T 43) [T 49,T 55] vI⟩,13,.all,[14,15],false,false⟩,Dr (Bc 57 .lss 3 56 .i64 0) 14 [15],Dr (Ol 58 (.unOp .not 4 (T 57))) 15 []])
 (.cond (T 58) .ret
 .skip))
 (.seq (.draw (some [0,2,3,4,10,11]) 24 [Dr (Mv 59 0) 0 [20,21,22,23],Dr (Mv 60 3) 1 [3,20,21,22,23],Dr (Mv 61 10) 2 [3,20,21,22,23],Dr (Bt 62 .add 3 60 61) 3 [20,21,22,23],Dr (Mv 63 0) 4 [22,23],Dr (Mv 64 3) 5 [7,22,23],Dr (Mv 65 11) 6 [7,22,23],Dr (Bt 66 .add 3 64 65) 7 [22,23],Dr (Mv 67 0) 8 [12,13,20,21,22,23],Dr (Mv 68 3) 9 [11,12,13,20,21,22,23],Dr (Mv 69 11) 10 [11,12,13,20,21,22,23],Dr (Bt 70 .add 3 68 69) 11 [12,13,20,21,22,23],Dr (Ix 71 2 67 70) 12 [13,20,21,22,23],Db (Ld 72 71) 13 71 [20,21,22,23],Dr (Mv 73 0) 14 [18,19,20,21,22,23],Dr (Mv 74 3) 15 [17,18,19,20,21,22,23],Dr (Mv 75 10) 16 [17,18,19,20,21,22,23],Dr (Bt 76 .add 3 74 75) 17 [18,19,20,21,22,23],Dr (Ix 77 2 73 76) 18 [19,20,21,22,23],Db (Ld 78 77) 19 77 [20,21,22,23],Dr (Ix 79 2 59 62) 20 [21,22,23],⟨Sr 2 79 72,21,.blk (T 79),[22,23],true,true⟩,Dr (Ix 80 2 63 66) 22 [23],⟨Sr 2 80 78,23,.blk (T 80),[],true,true⟩])
 (Rg [0,2,3,4,11] [Mv 81 11,As 10 81]))))))⟩)],
 []⟩
theorem r85_ok:resFun (progU ()) hint live 85 Try.f85=some r85:=by kernel_rfl
def r86 : RFun :=
⟨.seq (Rg [0] [Ol 2 (.assign (.const (.int .u64 0)))])
 (.seq (Rg [0] [Mv 3 0,Ro 4 (.convI .u64 (T 3)),Ca 5 73 [T 4] vI,Ol 6 (.binOp .shl 122 (.const (.int .u64 1)) (T 5) 3),As 2 6])
 .ret),
 [.tmp 2],
 [],
 []⟩
theorem r86_ok:resFun (progU ()) hint live 86 Try.f86=some r86:=by kernel_rfl
def r87 : RFun :=
⟨.seq (Rg [0] [Ol 2 (.assign (.const (.int .u64 0)))])
 (.seq (.draw (some [0]) 10 [Dr (Mv 3 0) 0 [1,2,7,8,9],Dr (Ol 4 (.nilCheck (T 3))) 1 [2,7,8,9],Db (Ro 5 (.load1 (.int .u64) (T 4))) 2 4 [7,8,9],Dr (Mv 6 0) 3 [4,5,6,7,8,9],Dr (Ol 7 (.nilCheck (T 6))) 4 [5,6,7,8,9],Db (Ro 8 (.load1 (.int .u64) (T 7))) 5 7 [6,7,8,9],Dr (Ol 9 (.binOp .shl 134 (T 8) (.const (.int .u64 13)) 122)) 6 [7,8,9],Dr (Bt 10 .xor 134 5 9) 7 [8,9],Dr (Ol 11 (.nilCheck (T 3))) 8 [9],⟨Sr 1 11 10,9,.blk (T 11),[],true,true⟩])
 (.seq (.draw (some [0]) 10 [Dr (Mv 12 0) 0 [1,2,7,8,9],Dr (Ol 13 (.nilCheck (T 12))) 1 [2,7,8,9],Db (Ro 14 (.load1 (.int .u64) (T 13))) 2 13 [7,8,9],Dr (Mv 15 0) 3 [4,5,6,7,8,9],Dr (Ol 16 (.nilCheck (T 15))) 4 [5,6,7,8,9],Db (Ro 17 (.load1 (.int .u64) (T 16))) 5 16 [6,7,8,9],Dr (Ol 18 (.binOp .shr 134 (T 17) (.const (.int .u64 7)) 122)) 6 [7,8,9],Dr (Bt 19 .xor 134 14 18) 7 [8,9],Dr (Ol 20 (.nilCheck (T 12))) 8 [9],⟨Sr 1 20 19,9,.blk (T 20),[],true,true⟩])
 (.seq (.draw (some [0]) 10 [Dr (Mv 21 0) 0 [1,2,7,8,9],Dr (Ol 22 (.nilCheck (T 21))) 1 [2,7,8,9],Db (Ro 23 (.load1 (.int .u64) (T 22))) 2 22 [7,8,9],Dr (Mv 24 0) 3 [4,5,6,7,8,9],Dr (Ol 25 (.nilCheck (T 24))) 4 [5,6,7,8,9],Db (Ro 26 (.load1 (.int .u64) (T 25))) 5 25 [6,7,8,9],Dr (Ol 27 (.binOp .shl 134 (T 26) (.const (.int .u64 17)) 122)) 6 [7,8,9],Dr (Bt 28 .xor 134 23 27) 7 [8,9],Dr (Ol 29 (.nilCheck (T 21))) 8 [9],⟨Sr 1 29 28,9,.blk (T 29),[],true,true⟩])
 (.seq (Rg [0] [Mv 30 0,Ol 31 (.nilCheck (T 30)),Ro 32 (.load1 (.int .u64) (T 31)),As 2 32])
 .ret)))),
 [.tmp 2],
 [],
 []⟩
theorem r87_ok:resFun (progU ()) hint live 87 Try.f87=some r87:=by kernel_rfl
def r88 : RFun :=
⟨.seq (Rg [0,1,2,3] [Ac 8 0])
 (.seq (Rg [0,1,2,3] [Mv 9 0,Mv 10 1,Bc 11 .sub 3 10 .i64 1,Mv 12 1,Mv 13 1,Bc 14 .add 3 13 .i64 1,Mv 15 2,Mv 16 3,Ca 17 89 [T 9,T 11,T 12,T 14,T 15,T 16] vI,As 8 17])
 .ret),
 [.tmp 8],
 [],
 []⟩
theorem r88_ok:resFun (progU ()) hint live 88 Try.f88=some r88:=by kernel_rfl
def r89 : RFun :=
⟨.seq (Rg [0,1,2,3,4,5] [Ac 12 0])
 (.seq (Rg [0,1,2,3,4,5] [Mv 14 0,Mv 15 1,Mv 16 2,Mv 17 4,Mv 18 5,Ca 19 90 [T 14,T 15,T 16,T 17,T 18] (some (.tup [.one (.int .i64),.one (.int .i64)])),Mv 13 19,Ex 20 13 0,Ex 21 13 1,As 1 20,As 2 21])
 (.seq (Rg [0,1,2,3,4,5] [Mv 23 0,Mv 24 2,Mv 25 3,Mv 26 4,Mv 27 5,Ca 28 90 [T 23,T 24,T 25,T 26,T 27] (some (.tup [.one (.int .i64),.one (.int .i64)])),Mv 22 28,Ex 29 22 0,Ex 30 22 1,As 2 29,As 3 30])
 (.seq (Rg [0,1,2,4,5] [Mv 32 0,Mv 33 1,Mv 34 2,Mv 35 4,Mv 36 5,Ca 37 90 [T 32,T 33,T 34,T 35,T 36] (some (.tup [.one (.int .i64),.one (.int .i64)])),Mv 31 37,Ex 38 31 0,Ex 39 31 1,As 1 38,As 2 39])
 (.seq (Rg [2] [Mv 40 2,As 12 40])
 .ret)))),
 [.tmp 12],
 [],
 []⟩
theorem r89_ok:resFun (progU ()) hint live 89 Try.f89=some r89:=by kernel_rfl
def r90 : RFun :=
⟨.seq (Rg [0,1,2,3,4] [Ac 10 0,Ac 11 0])
 (.seq (.seq (.draw (some [0,1,2,3,4]) 11 [Dr (Mv 12 4) 0 [9,10],Dr (Mv 13 0) 1 [3,4,9,10],Dr (Mv 14 2) 2 [3,4,9,10],Dr (Ix 15 2 13 14) 3 [4,9,10],Db (Ld 16 15) 4 15 [9,10],Dr (Mv 17 0) 5 [7,8,9,10],Dr (Mv 18 1) 6 [7,8,9,10],Dr (Ix 19 2 17 18) 7 [8,9,10],Db (Ld 20 19) 8 19 [9,10],⟨⟨some 21,none,.call (T 12) [T 16,T 20] vI⟩,9,.all,[10],false,false⟩,Dr (Bc 22 .lss 3 21 .i64 0) 10 []])
 (.cond (T 22) (.seq (Rg [1,2,3] [Mv 23 3,Ol 24 (.nilCheck (T 23)),L1 25 24,Bc 26 .add 3 25 .i64 1,Ol 27 (.nilCheck (T 23)),Sr 1 27 26])
 (.seq (Rg [1,2] [Mv 28 2,Mv 29 1,As 10 28,As 11 29])
 .ret))
 .skip))
 (.seq (Rg [1,2] [Mv 30 1,Mv 31 2,As 10 30,As 11 31])
 .ret)),
 [.tmp 10,.tmp 11],
 [],
 []⟩
theorem r90_ok:resFun (progU ()) hint live 90 Try.f90=some r90:=by kernel_rfl
