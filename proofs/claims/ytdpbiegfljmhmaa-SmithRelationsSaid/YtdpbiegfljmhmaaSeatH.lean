import Derived.Test.YtdpbiegfljmhmaaSeat0
import Derived.Test.YtdpbiegfljmhmaaSymS
set_option linter.unusedSimpArgs false
set_option linter.unusedVariables false
namespace Go.Proofs.Ytdpbiegfljmhmaa
open Go.Sim
set_option maxRecDepth 100000
def r110 : RFun :=
⟨.seq (Rg [0] [Ac 2 0])
 (.seq (.seq (Rg [0,2] [Mv 3 0,Bc 4 .geq 69 3 .u64 4294967296])
 (.cond (T 4) (.seq (Rg [0] [Mv 5 0,Ol 6 (.binOp .shr 69 (T 5) (.const (.int .u64 32)) 95),As 0 6])
 (Rg [0] [Ac 2 32]))
 .skip))
 (.seq (.seq (Rg [0,2] [Mv 7 0,Bc 8 .geq 69 7 .u64 65536])
 (.cond (T 8) (.seq (Rg [0,2] [Mv 9 0,Ol 10 (.binOp .shr 69 (T 9) (.const (.int .u64 16)) 95),As 0 10])
 (Rg [0,2] [Mv 11 2,Bc 12 .add 3 11 .i64 16,As 2 12]))
 .skip))
 (.seq (.seq (Rg [0,2] [Mv 13 0,Bc 14 .geq 69 13 .u64 256])
 (.cond (T 14) (.seq (Rg [0,2] [Mv 15 0,Ol 16 (.binOp .shr 69 (T 15) (.const (.int .u64 8)) 95),As 0 16])
 (Rg [0,2] [Mv 17 2,Bc 18 .add 3 17 .i64 8,As 2 18]))
 .skip))
 (.seq (Rg [0,2] [Mv 19 2,Mv 20 0,Ro 21 (.convI .u8 (T 20)),⟨some 22,none,.op false (.old (.index 9 (.const (.string ⟨#[0,1,2,2,3,3,3,3,4,4,4,4,4,4,4,4,5,5,5,5,5,5,5,5,5,5,5,5,5,5,5,5,6,6,6,6,6,6,6,6,6,6,6,6,6,6,6,6,6,6,6,6,6,6,6,6,6,6,6,6,6,6,6,6,7,7,7,7,7,7,7,7,7,7,7,7,7,7,7,7,7,7,7,7,7,7,7,7,7,7,7,7,7,7,7,7,7,7,7,7,7,7,7,7,7,7,7,7,7,7,7,7,7,7,7,7,7,7,7,7,7,7,7,7,7,7,7,7,8,8,8,8,8,8,8,8,8,8,8,8,8,8,8,8,8,8,8,8,8,8,8,8,8,8,8,8,8,8,8,8,8,8,8,8,8,8,8,8,8,8,8,8,8,8,8,8,8,8,8,8,8,8,8,8,8,8,8,8,8,8,8,8,8,8,8,8,8,8,8,8,8,8,8,8,8,8,8,8,8,8,8,8,8,8,8,8,8,8,8,8,8,8,8,8,8,8,8,8,8,8,8,8,8,8,8,8,8,8,8,8,8,8,8,8,8,8,8,8,8,8,8,8,8,8,8,8]⟩)) (T 21)))⟩,Ro 23 (.convI .i64 (T 22)),Bt 24 .add 3 19 23,As 2 24])
 .ret)))),
 [.tmp 2],
 [],
 []⟩
theorem r110_ok:resFun (progU ()) hint live 110 Try.f110=some r110:=by kernel_rfl
def r112 : RFun :=
⟨.seq (Rg [0,1] [Ol 4 (.assign (.const (.int .u64 0))),Ol 5 (.assign (.const (.int .u64 0)))])
 (.seq (Rg [0,1] [Mv 14 0,Bc 15 .and 69 14 .u64 4294967295,As 6 15])
 (.seq (Rg [0,1,6] [Mv 16 0,Ol 17 (.binOp .shr 69 (T 16) (.const (.int .u64 32)) 95),As 7 17])
 (.seq (Rg [0,1,6,7] [Mv 18 1,Bc 19 .and 69 18 .u64 4294967295,As 8 19])
 (.seq (Rg [0,1,6,7,8] [Mv 20 1,Ol 21 (.binOp .shr 69 (T 20) (.const (.int .u64 32)) 95),As 9 21])
 (.seq (Rg [0,1,6,7,8,9] [Mv 22 6,Mv 23 8,Bt 24 .mul 69 22 23,As 10 24])
 (.seq (Rg [0,1,6,7,8,9,10] [Mv 25 7,Mv 26 8,Bt 27 .mul 69 25 26,Mv 28 10,Ol 29 (.binOp .shr 69 (T 28) (.const (.int .u64 32)) 95),Bt 30 .add 69 27 29,As 11 30])
 (.seq (Rg [0,1,6,7,9,11] [Mv 31 11,Bc 32 .and 69 31 .u64 4294967295,As 12 32])
 (.seq (Rg [0,1,6,7,9,11,12] [Mv 33 11,Ol 34 (.binOp .shr 69 (T 33) (.const (.int .u64 32)) 95),As 13 34])
 (.seq (Rg [0,1,6,7,9,12,13] [Mv 35 12,Mv 36 6,Mv 37 9,Bt 38 .mul 69 36 37,Bt 39 .add 69 35 38,As 12 39])
 (.seq (Rg [0,1,7,9,12,13] [Mv 40 7,Mv 41 9,Bt 42 .mul 69 40 41,Mv 43 13,Bt 44 .add 69 42 43,Mv 45 12,Ol 46 (.binOp .shr 69 (T 45) (.const (.int .u64 32)) 95),Bt 47 .add 69 44 46,As 4 47])
 (.seq (Rg [0,1,4] [Mv 48 0,Mv 49 1,Bt 50 .mul 69 48 49,As 5 50])
 .ret))))))))))),
 [.tmp 4,.tmp 5],
 [],
 []⟩
theorem r112_ok:resFun (progU ()) hint live 112 Try.f112=some r112:=by kernel_rfl
def r114 : RFun :=
⟨.seq (Rg [0,1,2,3] [Ac 8 0])
 (.seq (.block 0 (.seq (Rg [0,1,2,3] [Mv 10 0,Mv 11 2,Bt 12 .gtr 69 10 11,Mv 13 12,Gf 14 13 (.move (T 0)),Gf 15 13 (.move (T 2)),Gf 16 13 (.binOp .eql 69 (T 14) (T 15) 69),Gf 17 13 (.move (T 16)),Gt 18 17 (.move (T 1)),Gt 19 17 (.move (T 3)),Gt 20 17 (.binOp .gtr 69 (T 18) (T 19) 69),Gf 21 13 (.pick (T 17) (T 20) (.const (.bool false))),Ol 22 (.pick (T 13) (.const (.bool true)) (T 21)),As 9 22])
 (.cond (T 9) (.seq (Rg [] [Ac 8 1])
 .ret)
 (.seq (Rg [0,1,2,3] [Mv 24 0,Mv 25 2,Bt 26 .eql 69 24 25,Mv 27 26,Gt 28 27 (.move (T 1)),Gt 29 27 (.move (T 3)),Gt 30 27 (.binOp .eql 69 (T 28) (T 29) 69),Ol 31 (.pick (T 27) (T 30) (.const (.bool false))),As 23 31])
 (.cond (T 23) (.seq (Rg [] [Ac 8 0])
 .ret)
 .skip)))))
 (.seq (Rg [] [Ol 8 (.assign (.const (.int .i64 (-1))))])
 .ret)),
 [.tmp 8],
 [],
 []⟩
theorem r114_ok:resFun (progU ()) hint live 114 Try.f114=some r114:=by kernel_rfl
def r116 : RFun :=
⟨.seq (Rg [0,1,2] [Ol 6 (.assign (.const (.int .u64 0)))])
 (.seq (Rg [0,1,2] [Mv 10 0,Mv 11 2,Bt 12 .rem 69 10 11,Mv 13 1,Mv 14 2,Ca 15 117 [T 12,T 13,T 14] (some (.tup [.one (.int .u64),.one (.int .u64)])),Mv 9 15,Ex 16 9 0,Ex 17 9 1,As 7 16,As 8 17])
 (.seq (Rg [8] [Mv 18 8,As 6 18])
 .ret)),
 [.tmp 6],
 [],
 []⟩
theorem r116_ok:resFun (progU ()) hint live 116 Try.f116=some r116:=by kernel_rfl
def r117 : RFun :=
⟨.seq (Rg [0,1,2] [Ol 6 (.assign (.const (.int .u64 0))),Ol 7 (.assign (.const (.int .u64 0)))])
 (.seq (.seq (Rg [0,1,2] [Mv 19 2,Bc 20 .eql 69 19 .u64 0])
 (.cond (T 20) (Rg [0,1,2] [Ro 21 (.load1 .any (.global 0)),⟨none,none,.op false (.old (.panic (T 21)))⟩])
 .skip))
 (.seq (.seq (Rg [0,1,2] [Mv 22 2,Mv 23 0,Bt 24 .leq 69 22 23])
 (.cond (T 24) (Rg [0,1,2] [Ro 25 (.load1 .any (.global 1)),⟨none,none,.op false (.old (.panic (T 25)))⟩])
 .skip))
 (.seq (.seq (Rg [0,1,2] [Mv 26 0,Bc 27 .eql 69 26 .u64 0])
 (.cond (T 27) (.seq (.draw (some [1,2]) 8 [Dr (Mv 28 1) 0 [2,6,7],Dr (Mv 29 2) 1 [2,6,7],Dr (Bt 30 .quo 69 28 29) 2 [6,7],Dr (Mv 31 1) 3 [5,7],Dr (Mv 32 2) 4 [5,7],Dr (Bt 33 .rem 69 31 32) 5 [7],Dr (As 6 30) 6 [7],Dr (As 7 33) 7 []])
 .ret)
 .skip))
 (.seq (Rg [0,1,2] [Mv 34 2,Ca 35 125 [T 34] vI,Ro 36 (.convI .u64 (T 35)),As 8 36])
 (.seq (Rg [0,1,2,8] [Mv 37 2,Mv 38 8,Ol 39 (.binOp .shl 69 (T 37) (T 38) 95),As 2 39])
 (.seq (Rg [0,1,2,8] [Mv 40 2,Ol 41 (.binOp .shr 69 (T 40) (.const (.int .u64 32)) 95),As 9 41])
 (.seq (Rg [0,1,2,8,9] [Mv 42 2,Bc 43 .and 69 42 .u64 4294967295,As 10 43])
 (.seq (Rg [0,1,2,8,9,10] [Mv 44 0,Mv 45 8,Ol 46 (.binOp .shl 69 (T 44) (T 45) 95),Mv 47 1,Mv 48 8,Ol 49 (.binOp .sub 95 (.const (.int .u64 64)) (T 48) 95),Ol 50 (.binOp .shr 69 (T 47) (T 49) 95),Bt 51 .or 69 46 50,As 11 51])
 (.seq (Rg [1,2,8,9,10,11] [Mv 52 1,Mv 53 8,Ol 54 (.binOp .shl 69 (T 52) (T 53) 95),As 12 54])
 (.seq (Rg [2,8,9,10,11,12] [Mv 55 12,Ol 56 (.binOp .shr 69 (T 55) (.const (.int .u64 32)) 95),As 13 56])
 (.seq (Rg [2,8,9,10,11,12,13] [Mv 57 12,Bc 58 .and 69 57 .u64 4294967295,As 14 58])
 (.seq (Rg [2,8,9,10,11,13,14] [Mv 59 11,Mv 60 9,Bt 61 .quo 69 59 60,As 15 61])
 (.seq (Rg [2,8,9,10,11,13,14,15] [Mv 62 11,Mv 63 15,Mv 64 9,Bt 65 .mul 69 63 64,Bt 66 .sub 69 62 65,As 16 66])
 (.seq (.block 0 (.loop 17 none (some [2,8,9,10,11,13,14,15,16])))
 (.seq (Rg [2,8,9,10,11,13,14,15] [Mv 86 11,Bc 87 .mul 69 86 .u64 4294967296,Mv 88 13,Bt 89 .add 69 87 88,Mv 90 15,Mv 91 2,Bt 92 .mul 69 90 91,Bt 93 .sub 69 89 92,As 17 93])
 (.seq (Rg [2,8,9,10,14,15,17] [Mv 94 17,Mv 95 9,Bt 96 .quo 69 94 95,As 18 96])
 (.seq (Rg [2,8,9,10,14,15,17,18] [Mv 97 17,Mv 98 18,Mv 99 9,Bt 100 .mul 69 98 99,Bt 101 .sub 69 97 100,As 16 101])
 (.seq (.block 2 (.loop 24 none (some [2,8,9,10,14,15,16,17,18])))
 (.seq (Rg [2,8,14,15,17,18] [Mv 121 15,Bc 122 .mul 69 121 .u64 4294967296,Mv 123 18,Bt 124 .add 69 122 123,Mv 125 17,Bc 126 .mul 69 125 .u64 4294967296,Mv 127 14,Bt 128 .add 69 126 127,Mv 129 18,Mv 130 2,Bt 131 .mul 69 129 130,Bt 132 .sub 69 128 131,Mv 133 8,Ol 134 (.binOp .shr 69 (T 132) (T 133) 95),As 6 124,As 7 134])
 .ret))))))))))))))))))),
 [.tmp 6,.tmp 7],
 [(17,⟨none,some [2,8,9,10,11,13,14,15,16],.seq (.seq (Rg [2,8,9,10,11,13,14,15,16] [Mv 67 15,Bc 68 .geq 69 67 .u64 4294967296,Mv 69 68,Gf 70 69 (.move (T 15)),Gf 71 69 (.move (T 10)),Gf 72 69 (.binOp .mul 69 (T 70) (T 71) 69),Gf 73 69 (.move (T 16)),Gf 74 69 (.binOp .mul 69 (.const (.int .u64 4294967296)) (T 73) 69),Gf 75 69 (.move (T 13)),Gf 76 69 (.binOp .add 69 (T 74) (T 75) 69),Gf 77 69 (.binOp .gtr 69 (T 72) (T 76) 69),Ol 78 (.pick (T 69) (.const (.bool true)) (T 77))])
 (.cond (T 78) .skip
 (.exit 0 (some [2,8,9,10,11,13,14,15]))))
 (.block 1 (.seq (Rg [2,8,9,10,11,13,14,15,16] [Mv 79 15,Bc 80 .sub 69 79 .u64 1,As 15 80])
 (.seq (Rg [2,8,9,10,11,13,14,15,16] [Mv 81 16,Mv 82 9,Bt 83 .add 69 81 82,As 16 83])
 (.seq (Rg [2,8,9,10,11,13,14,15,16] [Mv 84 16,Bc 85 .geq 69 84 .u64 4294967296])
 (.cond (T 85) (.exit 0 (some [2,8,9,10,11,13,14,15]))
 .skip)))))⟩),(24,⟨none,some [2,8,9,10,14,15,16,17,18],.seq (.seq (Rg [2,8,9,10,14,15,16,17,18] [Mv 102 18,Bc 103 .geq 69 102 .u64 4294967296,Mv 104 103,Gf 105 104 (.move (T 18)),Gf 106 104 (.move (T 10)),Gf 107 104 (.binOp .mul 69 (T 105) (T 106) 69),Gf 108 104 (.move (T 16)),Gf 109 104 (.binOp .mul 69 (.const (.int .u64 4294967296)) (T 108) 69),Gf 110 104 (.move (T 14)),Gf 111 104 (.binOp .add 69 (T 109) (T 110) 69),Gf 112 104 (.binOp .gtr 69 (T 107) (T 111) 69),Ol 113 (.pick (T 104) (.const (.bool true)) (T 112))])
 (.cond (T 113) .skip
 (.exit 2 (some [2,8,14,15,17,18]))))
 (.block 3 (.seq (Rg [2,8,9,10,14,15,16,17,18] [Mv 114 18,Bc 115 .sub 69 114 .u64 1,As 18 115])
 (.seq (Rg [2,8,9,10,14,15,16,17,18] [Mv 116 16,Mv 117 9,Bt 118 .add 69 116 117,As 16 118])
 (.seq (Rg [2,8,9,10,14,15,16,17,18] [Mv 119 16,Bc 120 .geq 69 119 .u64 4294967296])
 (.cond (T 120) (.exit 2 (some [2,8,14,15,17,18]))
 .skip)))))⟩)],
 []⟩
theorem r117_ok:resFun (progU ()) hint live 117 Try.f117=some r117:=by kernel_rfl
def r125 : RFun :=
⟨.seq (Rg [0] [Ac 2 0])
 (.seq (Rg [0] [Mv 3 0,Ca 4 110 [T 3] vI,Ol 5 (.binOp .sub 3 (Ci 64) (T 4) 3),As 2 5])
 .ret),
 [.tmp 2],
 [],
 []⟩
theorem r125_ok:resFun (progU ()) hint live 125 Try.f125=some r125:=by kernel_rfl
