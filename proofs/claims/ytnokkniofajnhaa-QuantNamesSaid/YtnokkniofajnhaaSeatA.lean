import Derived.Test.YtnokkniofajnhaaSeat0
import Derived.Test.YtnokkniofajnhaaSymS
set_option linter.unusedSimpArgs false
set_option linter.unusedVariables false
namespace Go.Proofs.Ytnokkniofajnhaa
open Go.Sim
set_option maxRecDepth 100000
def r2 : RFun :=
⟨.reg (some []) [Ca 0 1 [] (some (.tup []))],
 [],
 [],
 []⟩
def r3 : RFun :=
⟨.seq (.reg (some [0,1]) [⟨some 3,none,.op true (.box 2 (.tmp 1))⟩,Ol 4 (.assign (.const (.bool false)))])
 (.seq (.seq (.reg (some [0,3]) [Mv 14 0,Ca 15 9 [.tmp 14] (some (.val (.one .bool)))])
 (.cond (.tmp 15) (.seq (.reg (some []) [Ol 4 (.assign (.const (.bool true)))])
 .ret)
 .skip))
 (.seq (.reg (some [0,3]) [Ro 16 (.buildSlice 4 0 [] []),Mv 17 0,⟨some 18,none,.op false (.old (.call ⟨.builtin .append,#[.tmp 16,.tmp 17],#[22,22]⟩))⟩,As 5 18])
 (.seq (.reg (some [0,3,5]) [Mv 20 5,Ld 21 3,Ca 22 10 [.tmp 20,.tmp 21] (some (.tup [.agg [.int .i64,.int .i64],.one (.int .i64)])),Mv 19 22,Ex 23 19 0,Ex 24 19 1,⟨some 6,none,.op true (.new 2 [.int .i64 0,.int .i64 0])⟩,⟨none,none,.op false (.store 2 (.tmp 6) (.tmp 23))⟩,As 7 24])
 (.seq (.reg (some [0,3,5,6,7]) [Mv 26 0,Ld 27 3,Ca 28 11 [.tmp 26,.tmp 27] (some (.tup [.agg [.int .i64,.int .i64],.one (.int .i64)])),Mv 25 28,Ex 29 25 0,Ex 30 25 1,⟨some 8,none,.op true (.new 2 [.int .i64 0,.int .i64 0])⟩,⟨none,none,.op false (.store 2 (.tmp 8) (.tmp 29))⟩,As 9 30])
 (.seq (.reg (some [0,5,6,7,8,9]) [Mv 32 5,Ca 33 12 [.tmp 32] (some (.tup [.one .slice,.one (.int .i64)])),Mv 31 33,Ex 34 31 0,Ex 35 31 1,As 10 34,As 11 35])
 (.seq (.reg (some [0,5,6,7,8,9,10,11]) [Mv 37 0,Ca 38 13 [.tmp 37] (some (.tup [.one .slice,.one (.int .i64)])),Mv 36 38,Ex 39 36 0,Ex 40 36 1,As 12 39,As 13 40])
 (.seq (.reg (some [0,5,6,7,8,9,10,11,12,13]) [Mv 41 5,Ca 42 14 [.tmp 41] (some (.val (.one (.int .i64)))),Mv 43 0,Ca 44 15 [.tmp 43] (some (.val (.one (.int .i64)))),Bt 45 .eql 3 42 44,Mv 46 45,⟨some 47,some (46,true),.op false (.load 2 [.int .i64,.int .i64] (.tmp 6))⟩,⟨some 48,some (46,true),.op false (.load 2 [.int .i64,.int .i64] (.tmp 8))⟩,⟨some 49,some (46,true),.op false (.old (.binOp .eql 24 (.tmp 47) (.tmp 48) 24))⟩,Ol 50 (.pick (.tmp 46) (.tmp 49) (.const (.bool false))),Mv 51 50,⟨some 52,some (51,true),.op false (.old (.move (.tmp 7)))⟩,⟨some 53,some (51,true),.op false (.old (.move (.tmp 9)))⟩,⟨some 54,some (51,true),.op false (.old (.binOp .eql 3 (.tmp 52) (.tmp 53) 3))⟩,Ol 55 (.pick (.tmp 51) (.tmp 54) (.const (.bool false))),Mv 56 55,⟨some 57,some (56,true),.op false (.old (.move (.tmp 10)))⟩,⟨some 58,some (56,true),.op false (.old (.move (.tmp 12)))⟩,⟨some 59,some (56,true),.call (.func 16) [.tmp 57,.tmp 58] (some (.val (.one .bool)))⟩,Ol 60 (.pick (.tmp 56) (.tmp 59) (.const (.bool false))),Mv 61 60,⟨some 62,some (61,true),.op false (.old (.move (.tmp 11)))⟩,⟨some 63,some (61,true),.op false (.old (.move (.tmp 13)))⟩,⟨some 64,some (61,true),.op false (.old (.binOp .eql 3 (.tmp 62) (.tmp 63) 3))⟩,Ol 65 (.pick (.tmp 61) (.tmp 64) (.const (.bool false))),Mv 66 65,⟨some 67,some (66,true),.op false (.old (.move (.tmp 5)))⟩,⟨some 68,some (66,true),.op false (.old (.move (.tmp 0)))⟩,⟨some 69,some (66,true),.call (.func 16) [.tmp 67,.tmp 68] (some (.val (.one .bool)))⟩,Ol 70 (.pick (.tmp 66) (.tmp 69) (.const (.bool false))),As 4 70])
 .ret))))))),
 [.tmp 4],
 [],
 []⟩
def r4 : RFun :=
⟨.seq (.reg (some [0,1,2,3,4]) [⟨some 7,none,.op true (.box 5 (.tmp 2))⟩,⟨some 8,none,.op true (.box 2 (.tmp 3))⟩,⟨some 9,none,.op true (.box 2 (.tmp 4))⟩,Ol 10 (.assign (.const (.bool false)))])
 (.seq (.seq (.reg (some [0,1,7,8,9]) [Mv 23 0,Ca 24 9 [.tmp 23] (some (.val (.one .bool))),Mv 25 24,⟨some 26,some (25,false),.op false (.old (.move (.tmp 1)))⟩,⟨some 27,some (25,false),.call (.func 9) [.tmp 26] (some (.val (.one .bool)))⟩,Ol 28 (.pick (.tmp 25) (.const (.bool true)) (.tmp 27))])
 (.cond (.tmp 28) (.seq (.reg (some []) [Ol 10 (.assign (.const (.bool true)))])
 .ret)
 .skip))
 (.seq (.reg (some [0,1,7,8,9]) [Mv 30 0,Mv 31 1,Ca 32 17 [.tmp 30,.tmp 31] (some (.tup [.one .slice,.one (.int .i64)])),Mv 29 32,Ex 33 29 0,Ex 34 29 1,As 11 33,As 12 34])
 (.seq (.reg (some [0,1,7,8,9,11,12]) [Mv 36 0,Mv 37 1,Ca 38 18 [.tmp 36,.tmp 37] (some (.tup [.one .slice,.one (.int .i64)])),Mv 35 38,Ex 39 35 0,Ex 40 35 1,As 13 39,As 14 40])
 (.seq (.reg (some [0,7,8,9,11,12,13,14]) [Ro 42 (.load 5 [.int .i64,.int .i64,.int .i64,.int .i64,.int .i64] (.tmp 7)),Ca 43 19 [.tmp 42] (some (.tup [.agg [.int .i64,.int .i64],.one (.int .i64)])),Mv 41 43,Ex 44 41 0,Ex 45 41 1,⟨some 15,none,.op true (.new 2 [.int .i64 0,.int .i64 0])⟩,⟨none,none,.op false (.store 2 (.tmp 15) (.tmp 44))⟩,As 16 45])
 (.seq (.reg (some [0,7,8,9,11,12,13,14,15,16]) [Ro 47 (.load 5 [.int .i64,.int .i64,.int .i64,.int .i64,.int .i64] (.tmp 7)),Ca 48 20 [.tmp 47] (some (.tup [.agg [.int .i64,.int .i64],.one (.int .i64)])),Mv 46 48,Ex 49 46 0,Ex 50 46 1,⟨some 17,none,.op true (.new 2 [.int .i64 0,.int .i64 0])⟩,⟨none,none,.op false (.store 2 (.tmp 17) (.tmp 49))⟩,As 18 50])
 (.seq (.reg (some [0,8,9,11,12,13,14,15,16,17,18]) [Mv 52 0,Ld 53 8,Ld 54 9,Ca 55 21 [.tmp 52,.tmp 53,.tmp 54] (some (.tup [.agg [.int .i64,.int .i64],.one (.int .i64)])),Mv 51 55,Ex 56 51 0,Ex 57 51 1,⟨some 19,none,.op true (.new 2 [.int .i64 0,.int .i64 0])⟩,⟨none,none,.op false (.store 2 (.tmp 19) (.tmp 56))⟩,As 20 57])
 (.seq (.reg (some [0,8,9,11,12,13,14,15,16,17,18,19,20]) [Mv 59 0,Ld 60 8,Ld 61 9,Ca 62 22 [.tmp 59,.tmp 60,.tmp 61] (some (.tup [.agg [.int .i64,.int .i64],.one (.int .i64)])),Mv 58 62,Ex 63 58 0,Ex 64 58 1,⟨some 21,none,.op true (.new 2 [.int .i64 0,.int .i64 0])⟩,⟨none,none,.op false (.store 2 (.tmp 21) (.tmp 63))⟩,As 22 64])
 (.seq (.reg (some [11,12,13,14,15,16,17,18,19,20,21,22]) [Mv 65 11,Mv 66 13,Ca 67 16 [.tmp 65,.tmp 66] (some (.val (.one .bool))),Mv 68 67,⟨some 69,some (68,true),.op false (.old (.move (.tmp 12)))⟩,⟨some 70,some (68,true),.op false (.old (.move (.tmp 14)))⟩,⟨some 71,some (68,true),.op false (.old (.binOp .eql 3 (.tmp 69) (.tmp 70) 3))⟩,Ol 72 (.pick (.tmp 68) (.tmp 71) (.const (.bool false))),Mv 73 72,⟨some 74,some (73,true),.op false (.load 2 [.int .i64,.int .i64] (.tmp 15))⟩,⟨some 75,some (73,true),.op false (.load 2 [.int .i64,.int .i64] (.tmp 17))⟩,⟨some 76,some (73,true),.op false (.old (.binOp .eql 24 (.tmp 74) (.tmp 75) 24))⟩,Ol 77 (.pick (.tmp 73) (.tmp 76) (.const (.bool false))),Mv 78 77,⟨some 79,some (78,true),.op false (.old (.move (.tmp 16)))⟩,⟨some 80,some (78,true),.op false (.old (.move (.tmp 18)))⟩,⟨some 81,some (78,true),.op false (.old (.binOp .eql 3 (.tmp 79) (.tmp 80) 3))⟩,Ol 82 (.pick (.tmp 78) (.tmp 81) (.const (.bool false))),Mv 83 82,⟨some 84,some (83,true),.op false (.load 2 [.int .i64,.int .i64] (.tmp 19))⟩,⟨some 85,some (83,true),.op false (.load 2 [.int .i64,.int .i64] (.tmp 21))⟩,⟨some 86,some (83,true),.op false (.old (.binOp .eql 24 (.tmp 84) (.tmp 85) 24))⟩,Ol 87 (.pick (.tmp 83) (.tmp 86) (.const (.bool false))),Mv 88 87,⟨some 89,some (88,true),.op false (.old (.move (.tmp 20)))⟩,⟨some 90,some (88,true),.op false (.old (.move (.tmp 22)))⟩,⟨some 91,some (88,true),.op false (.old (.binOp .eql 3 (.tmp 89) (.tmp 90) 3))⟩,Ol 92 (.pick (.tmp 88) (.tmp 91) (.const (.bool false))),As 10 92])
 .ret)))))))),
 [.tmp 10],
 [],
 []⟩
theorem r4_ok : resFun (progU ()) hint live 4 Try.f4 = some r4:=by kernel_rfl
end Go.Proofs.Ytnokkniofajnhaa
