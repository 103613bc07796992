import Derived.Test.YtdpbiegfljmhmaaSeat0
import Derived.Test.YtdpbiegfljmhmaaSymS
set_option linter.unusedSimpArgs false
set_option linter.unusedVariables false
namespace Go.Proofs.Ytdpbiegfljmhmaa
open Go.Sim
set_option maxRecDepth 100000
def r98 : RFun :=
⟨.seq (Rg [0,1] [Mv 8 1,Ca 9 56 [T 8] vI,As 4 9])
 (.seq (Rg [0,1,4] [Mv 10 0,Ol 11 (.nilCheck (T 10)),Fa 12 0 11,Ro 13 (.load1 .slice (T 12)),Ro 14 (.lenS (T 13)),Ol 15 (.move (Ci 0))])
 (.block 0 (.loop 2 (some [1,4,13,14,15]) (some [1,4,13,14,15])))),
 [],
 [(2,⟨some [1,4,13,14,15],some [1,4,13,14,15],.seq (Rg [1,4,13,14,15] [Bt 16 .lss 3 15 14])
 (.seq (.cond (T 16) .skip
 (.exit 0 (some [])))
 (.seq (.block 1 (.seq (Rg [1,4,13,14,15] [Ix 17 1 13 15,Ro 18 (.load1 .slice (T 17)),As 6 18])
 (.seq (Rg [1,4,6,13,14,15] [Mv 19 6,Ca 20 56 [T 19] vI,As 7 20])
 (.seq (Rg [1,4,6,7,13,14,15] [Mv 21 7,Mv 22 4,Bt 23 .gtr 3 21 22])
 (.cond (T 23) (.draw (some [1,4,6,7,13,14,15]) 12 [Dr (Mv 24 1) 0 [11],Dr (Mv 25 6) 1 [11],Dr (Mv 26 1) 2 [4,5,10,11],Dr (Mv 27 7) 3 [4,5,10,11],Dr (Ix 28 1 26 27) 4 [5,10,11],Db (L1 29 28) 5 28 [10,11],Dr (Mv 30 6) 6 [8,9,10,11],Dr (Mv 31 7) 7 [8,9,10,11],Dr (Ix 32 1 30 31) 8 [9,10,11],Db (L1 33 32) 9 32 [10,11],⟨Ca 34 68 [T 29,T 33] vI,10,.all,[11],false,false⟩,⟨Ca 35 99 [T 24,T 25,T 34] (some (.tup [])),11,.all,[],false,false⟩])
 .skip)))))
 (Rg [1,4,13,14,15] [Bc 36 .add 3 15 .i64 1,Mv 15 36])))⟩)],
 []⟩
theorem r98_ok:resFun (progU ()) hint live 98 Try.f98=some r98:=by kernel_rfl
def r99 : RFun :=
⟨.seq (Rg [0,1,2] [Mv 7 0,Ro 8 (.lenS (T 7)),Ol 9 (.move (Ci 0))])
 (.block 0 (.loop 1 (some [0,1,2,8,9]) (some [0,1,2,8,9]))),
 [],
 [(1,⟨some [0,1,2,8,9],some [0,1,2,8,9],.seq (Rg [0,1,2,8,9] [Bt 10 .lss 3 9 8])
 (.seq (.cond (T 10) .skip
 (.exit 0 (some [])))
 (.seq (.block 1 (.seq (Rg [0,1,2,8,9] [Mv 11 9,As 6 11])
 (.draw (some [0,1,2,6,8,9]) 13 [Dr (Mv 12 0) 0 [2,3,10,11,12],Dr (Mv 13 6) 1 [2,3,10,11,12],Dr (Ix 14 1 12 13) 2 [3,10,11,12],Db (L1 15 14) 3 14 [10,11,12],Dr (Mv 16 2) 4 [9,10,11,12],Dr (Mv 17 1) 5 [7,8,9,10,11,12],Dr (Mv 18 6) 6 [7,8,9,10,11,12],Dr (Ix 19 1 17 18) 7 [8,9,10,11,12],Db (L1 20 19) 8 19 [9,10,11,12],Dr (Bt 21 .mul 3 16 20) 9 [10,11,12],Dr (Bt 22 .sub 3 15 21) 10 [11,12],Dr (Ix 23 1 12 13) 11 [12],⟨Sr 1 23 22,12,.blk (T 23),[],true,true⟩])))
 (Rg [0,1,2,8,9] [Bc 24 .add 3 9 .i64 1,Mv 9 24])))⟩)],
 []⟩
theorem r99_ok:resFun (progU ()) hint live 99 Try.f99=some r99:=by kernel_rfl
def r100 : RFun :=
⟨.seq (Rg [0,1,2] [Ol 6 (.assign (.const (.slice none 0 0)))])
 (.seq (Rg [0,1,2] [Mv 10 0,Mv 11 1,Ro 12 (.cutS 22 (T 10) (some (T 11)) none none)])
 (.seq (Rg [0,1,2] [Mv 13 2,Ro 14 (.lenS (T 13)),As 7 14])
 (.seq (.seq (Rg [0,1,2,7] [Mv 15 7,Bc 16 .eql 3 15 .i64 0])
 (.cond (T 16) (.seq (Rg [0] [Mv 17 0,As 6 17])
 .ret)
 .skip))
 (.seq (Rg [0,1,2,7] [Mv 18 0,Ro 19 (.lenS (T 18)),As 8 19])
 (.seq (.seq (Rg [0,1,2,7,8] [Mv 20 1,Mv 21 8,Bt 22 .eql 3 20 21])
 (.cond (T 22) (.seq (Rg [0,2] [Mv 23 0,Mv 24 2,⟨some 25,none,.op false (.old (.call ⟨.builtin .append,#[T 23,T 24],#[22,22]⟩))⟩,As 6 25])
 .ret)
 .skip))
 (.seq (.seq (Rg [0,1,2,7,8] [Mv 26 8,Mv 27 7,Bt 28 .add 3 26 27,Mv 29 0,⟨some 30,none,.op false (.old (.call ⟨.builtin .cap,#[T 29],#[22]⟩))⟩,Bt 31 .gtr 3 28 30])
 (.cond (T 31) (.seq (Rg [0,1,2,7,8] [Mv 32 0,Mv 33 1,Ro 34 (.cutS 22 (T 32) none (some (T 33)) none),Mv 35 8,Mv 36 7,Bt 37 .add 3 35 36,Mv 38 1,Bt 39 .sub 3 37 38,⟨some 40,none,.op false (.old (.call ⟨.builtin .append,#[T 34,T 39],#[22,3]⟩))⟩,As 9 40])
 (.seq (Rg [0,1,2,7,9] [Mv 41 9,Mv 42 1,Ro 43 (.cutS 22 (T 41) (some (T 42)) none none),Mv 44 2,⟨some 45,none,.op false (.old (.call ⟨.builtin .copy,#[T 43,T 44],#[22,22]⟩))⟩])
 (.seq (.draw (some [0,1,7,9]) 9 [Dr (Mv 46 9) 0 [4,8],Dr (Mv 47 1) 1 [3,4,8],Dr (Mv 48 7) 2 [3,4,8],Dr (Bt 49 .add 3 47 48) 3 [4,8],Dr (Ro 50 (.cutS 22 (T 46) (some (T 49)) none none)) 4 [8],Dr (Mv 51 0) 5 [7,8],Dr (Mv 52 1) 6 [7,8],Dr (Ro 53 (.cutS 22 (T 51) (some (T 52)) none none)) 7 [8],⟨⟨some 54,none,.op false (.old (.call ⟨.builtin .copy,#[T 50,T 53],#[22,22]⟩))⟩,8,.all,[],false,false⟩])
 (.seq (Rg [9] [Mv 55 9,As 6 55])
 .ret))))
 .skip))
 (.seq (Rg [0,1,2,7,8] [Mv 56 0,Mv 57 8,Mv 58 7,Bt 59 .add 3 57 58,Ro 60 (.cutS 22 (T 56) none (some (T 59)) none),As 0 60])
 (.seq (.seq (Rg [0,1,2,7,8] [Mv 61 2,Mv 62 0,Mv 63 1,Mv 64 7,Bt 65 .add 3 63 64,Ro 66 (.cutS 22 (T 62) (some (T 65)) none none),Ca 67 118 [T 61,T 66] vB,Ol 68 (.unOp .not 4 (T 67))])
 (.cond (T 68) (.seq (.draw (some [0,1,2,7]) 9 [Dr (Mv 69 0) 0 [4,8],Dr (Mv 70 1) 1 [3,4,8],Dr (Mv 71 7) 2 [3,4,8],Dr (Bt 72 .add 3 70 71) 3 [4,8],Dr (Ro 73 (.cutS 22 (T 69) (some (T 72)) none none)) 4 [8],Dr (Mv 74 0) 5 [7,8],Dr (Mv 75 1) 6 [7,8],Dr (Ro 76 (.cutS 22 (T 74) (some (T 75)) none none)) 7 [8],⟨⟨some 77,none,.op false (.old (.call ⟨.builtin .copy,#[T 73,T 76],#[22,22]⟩))⟩,8,.all,[],false,false⟩])
 (.seq (Rg [0,1,2] [Mv 78 0,Mv 79 1,Ro 80 (.cutS 22 (T 78) (some (T 79)) none none),Mv 81 2,⟨some 82,none,.op false (.old (.call ⟨.builtin .copy,#[T 80,T 81],#[22,22]⟩))⟩])
 (.seq (Rg [0] [Mv 83 0,As 6 83])
 .ret)))
 .skip))
 (.seq (Rg [0,1,2,7,8] [Mv 84 0,Mv 85 8,Ro 86 (.cutS 22 (T 84) (some (T 85)) none none),Mv 87 2,⟨some 88,none,.op false (.old (.call ⟨.builtin .copy,#[T 86,T 87],#[22,22]⟩))⟩])
 (.seq (Rg [0,1,7] [Mv 89 0,Mv 90 1,Ro 91 (.cutS 22 (T 89) (some (T 90)) none none),Mv 92 7,Ca 93 119 [T 91,T 92] (some (.tup []))])
 (.seq (Rg [0] [Mv 94 0,As 6 94])
 .ret))))))))))),
 [.tmp 6],
 [],
 []⟩
theorem r100_ok:resFun (progU ()) hint live 100 Try.f100=some r100:=by kernel_rfl
