import Derived.Test.YtnokkniofajnhaaSeat0
import Derived.Test.YtnokkniofajnhaaSymS
set_option linter.unusedSimpArgs false
set_option linter.unusedVariables false
namespace Go.Proofs.Ytnokkniofajnhaa
open Go.Sim
set_option maxRecDepth 100000
def r2 : RFun :=
⟨Rg [] [Ca 0 1 [] (some (.tup []))],
 [],
 [],
 []⟩
def r3 : RFun :=
⟨.seq (Rg [0,1] [Bo 3 2 1,Ol 4 (.assign (.const (.bool false)))])
 (.seq (.seq (Rg [0,3] [Mv 14 0,Ca 15 9 [T 14] vB])
 (.cond (T 15) (.seq (Rg [] [Ol 4 (.assign (.const (.bool true)))])
 .ret)
 .skip))
 (.seq (Rg [0,3] [Ro 16 (.buildSlice 4 0 [] []),Mv 17 0,⟨some 18,none,.op false (.old (.call ⟨.builtin .append,#[T 16,T 17],#[22,22]⟩))⟩,As 5 18])
 (.seq (Rg [0,3,5] [Mv 20 5,Ld 21 3,Ca 22 10 [T 20,T 21] (some (.tup [.agg s2,.one (.int .i64)])),Mv 19 22,Ex 23 19 0,Ex 24 19 1,Nw 6 2 z2,Sr 2 6 23,As 7 24])
 (.seq (Rg [0,3,5,6,7] [Mv 26 0,Ld 27 3,Ca 28 11 [T 26,T 27] (some (.tup [.agg s2,.one (.int .i64)])),Mv 25 28,Ex 29 25 0,Ex 30 25 1,Nw 8 2 z2,Sr 2 8 29,As 9 30])
 (.seq (Rg [0,5,6,7,8,9] [Mv 32 5,Ca 33 12 [T 32] (some (.tup [.one .slice,.one (.int .i64)])),Mv 31 33,Ex 34 31 0,Ex 35 31 1,As 10 34,As 11 35])
 (.seq (Rg [0,5,6,7,8,9,10,11] [Mv 37 0,Ca 38 13 [T 37] (some (.tup [.one .slice,.one (.int .i64)])),Mv 36 38,Ex 39 36 0,Ex 40 36 1,As 12 39,As 13 40])
 (.seq (Rg [0,5,6,7,8,9,10,11,12,13] [Mv 41 5,Ca 42 14 [T 41] vI,Mv 43 0,Ca 44 15 [T 43] vI,Bt 45 .eql 3 42 44,Mv 46 45,Ht 47 46 (.load 2 s2 (T 6)),Ht 48 46 (.load 2 s2 (T 8)),Gt 49 46 (.binOp .eql 24 (T 47) (T 48) 24),Ol 50 (.pick (T 46) (T 49) (.const (.bool false))),Mv 51 50,Gt 52 51 (.move (T 7)),Gt 53 51 (.move (T 9)),Gt 54 51 (.binOp .eql 3 (T 52) (T 53) 3),Ol 55 (.pick (T 51) (T 54) (.const (.bool false))),Mv 56 55,Gt 57 56 (.move (T 10)),Gt 58 56 (.move (T 12)),⟨some 59,some (56,true),.call (.func 16) [T 57,T 58] vB⟩,Ol 60 (.pick (T 56) (T 59) (.const (.bool false))),Mv 61 60,Gt 62 61 (.move (T 11)),Gt 63 61 (.move (T 13)),Gt 64 61 (.binOp .eql 3 (T 62) (T 63) 3),Ol 65 (.pick (T 61) (T 64) (.const (.bool false))),Mv 66 65,Gt 67 66 (.move (T 5)),Gt 68 66 (.move (T 0)),⟨some 69,some (66,true),.call (.func 16) [T 67,T 68] vB⟩,Ol 70 (.pick (T 66) (T 69) (.const (.bool false))),As 4 70])
 .ret))))))),
 [.tmp 4],
 [],
 []⟩
def r4 : RFun :=
⟨.seq (Rg [0,1,2,3,4] [Bo 7 5 2,Bo 8 2 3,Bo 9 2 4,Ol 10 (.assign (.const (.bool false)))])
 (.seq (.seq (Rg [0,1,7,8,9] [Mv 23 0,Ca 24 9 [T 23] vB,Mv 25 24,Gf 26 25 (.move (T 1)),⟨some 27,some (25,false),.call (.func 9) [T 26] vB⟩,Ol 28 (.pick (T 25) (.const (.bool true)) (T 27))])
 (.cond (T 28) (.seq (Rg [] [Ol 10 (.assign (.const (.bool true)))])
 .ret)
 .skip))
 (.seq (Rg [0,1,7,8,9] [Mv 30 0,Mv 31 1,Ca 32 17 [T 30,T 31] (some (.tup [.one .slice,.one (.int .i64)])),Mv 29 32,Ex 33 29 0,Ex 34 29 1,As 11 33,As 12 34])
 (.seq (Rg [0,1,7,8,9,11,12] [Mv 36 0,Mv 37 1,Ca 38 18 [T 36,T 37] (some (.tup [.one .slice,.one (.int .i64)])),Mv 35 38,Ex 39 35 0,Ex 40 35 1,As 13 39,As 14 40])
 (.seq (Rg [0,7,8,9,11,12,13,14] [Ro 42 (.load 5 [.int .i64,.int .i64,.int .i64,.int .i64,.int .i64] (T 7)),Ca 43 19 [T 42] (some (.tup [.agg s2,.one (.int .i64)])),Mv 41 43,Ex 44 41 0,Ex 45 41 1,Nw 15 2 z2,Sr 2 15 44,As 16 45])
 (.seq (Rg [0,7,8,9,11,12,13,14,15,16] [Ro 47 (.load 5 [.int .i64,.int .i64,.int .i64,.int .i64,.int .i64] (T 7)),Ca 48 20 [T 47] (some (.tup [.agg s2,.one (.int .i64)])),Mv 46 48,Ex 49 46 0,Ex 50 46 1,Nw 17 2 z2,Sr 2 17 49,As 18 50])
 (.seq (Rg [0,8,9,11,12,13,14,15,16,17,18] [Mv 52 0,Ld 53 8,Ld 54 9,Ca 55 21 [T 52,T 53,T 54] (some (.tup [.agg s2,.one (.int .i64)])),Mv 51 55,Ex 56 51 0,Ex 57 51 1,Nw 19 2 z2,Sr 2 19 56,As 20 57])
 (.seq (Rg [0,8,9,11,12,13,14,15,16,17,18,19,20] [Mv 59 0,Ld 60 8,Ld 61 9,Ca 62 22 [T 59,T 60,T 61] (some (.tup [.agg s2,.one (.int .i64)])),Mv 58 62,Ex 63 58 0,Ex 64 58 1,Nw 21 2 z2,Sr 2 21 63,As 22 64])
 (.seq (Rg [11,12,13,14,15,16,17,18,19,20,21,22] [Mv 65 11,Mv 66 13,Ca 67 16 [T 65,T 66] vB,Mv 68 67,Gt 69 68 (.move (T 12)),Gt 70 68 (.move (T 14)),Gt 71 68 (.binOp .eql 3 (T 69) (T 70) 3),Ol 72 (.pick (T 68) (T 71) (.const (.bool false))),Mv 73 72,Ht 74 73 (.load 2 s2 (T 15)),Ht 75 73 (.load 2 s2 (T 17)),Gt 76 73 (.binOp .eql 24 (T 74) (T 75) 24),Ol 77 (.pick (T 73) (T 76) (.const (.bool false))),Mv 78 77,Gt 79 78 (.move (T 16)),Gt 80 78 (.move (T 18)),Gt 81 78 (.binOp .eql 3 (T 79) (T 80) 3),Ol 82 (.pick (T 78) (T 81) (.const (.bool false))),Mv 83 82,Ht 84 83 (.load 2 s2 (T 19)),Ht 85 83 (.load 2 s2 (T 21)),Gt 86 83 (.binOp .eql 24 (T 84) (T 85) 24),Ol 87 (.pick (T 83) (T 86) (.const (.bool false))),Mv 88 87,Gt 89 88 (.move (T 20)),Gt 90 88 (.move (T 22)),Gt 91 88 (.binOp .eql 3 (T 89) (T 90) 3),Ol 92 (.pick (T 88) (T 91) (.const (.bool false))),As 10 92])
 .ret)))))))),
 [.tmp 10],
 [],
 []⟩
theorem r4_ok : resFun (progU ()) hint live 4 Try.f4 = some r4:=by kernel_rfl
