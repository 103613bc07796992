import Derived.Test.YtnokkniofajnhaaSeat0
import Derived.Test.YtnokkniofajnhaaSymS
set_option linter.unusedSimpArgs false
set_option linter.unusedVariables false
namespace Go.Proofs.Ytnokkniofajnhaa
open Go.Sim
set_option maxRecDepth 100000
def r7 : RFun :=
⟨.seq (.reg (some [0,1,2]) [⟨some 5,none,.op true (.box 2 (.tmp 2))⟩,Ol 6 (.assign (.const (.bool false)))])
 (.seq (.reg (some [0,1,5]) [Ca 22 25 [] (some (.val (.one .bool))),As 7 22])
 (.seq (.seq (.reg (some [0,1,5,7]) [Mv 23 0,Ca 24 26 [.tmp 23] (some (.val (.one .bool))),Ol 25 (.unOp .not 4 (.tmp 24)),Mv 26 25,⟨some 27,some (26,false),.op false (.old (.move (.tmp 1)))⟩,⟨some 28,some (26,false),.call (.func 26) [.tmp 27] (some (.val (.one .bool)))⟩,⟨some 29,some (26,false),.op false (.old (.unOp .not 4 (.tmp 28)))⟩,Ol 30 (.pick (.tmp 26) (.const (.bool true)) (.tmp 29)),Mv 31 30,⟨some 32,some (31,false),.op false (.old (.move (.tmp 7)))⟩,⟨some 33,some (31,false),.op false (.old (.unOp .not 4 (.tmp 32)))⟩,Ol 34 (.pick (.tmp 31) (.const (.bool true)) (.tmp 33))])
 (.cond (.tmp 34) (.seq (.reg (some [7]) [Mv 35 7,As 6 35])
 .ret)
 .skip))
 (.seq (.reg (some [0,1,5,7]) [Mv 37 0,Ld 38 5,Ca 39 10 [.tmp 37,.tmp 38] (some (.tup [.agg [.int .i64,.int .i64],.one (.int .i64)])),Mv 36 39,Ex 40 36 0,Ex 41 36 1,⟨some 8,none,.op true (.new 2 [.int .i64 0,.int .i64 0])⟩,⟨none,none,.op false (.store 2 (.tmp 8) (.tmp 40))⟩,As 9 41])
 (.seq (.reg (some [0,1,5,7,8,9]) [Mv 43 1,Ld 44 8,Ca 45 10 [.tmp 43,.tmp 44] (some (.tup [.agg [.int .i64,.int .i64],.one (.int .i64)])),Mv 42 45,Ex 46 42 0,Ex 47 42 1,⟨some 10,none,.op true (.new 2 [.int .i64 0,.int .i64 0])⟩,⟨none,none,.op false (.store 2 (.tmp 10) (.tmp 46))⟩,As 11 47])
 (.seq (.reg (some [0,1,5,7,9,10,11]) [Mv 49 0,Mv 50 1,Ca 51 17 [.tmp 49,.tmp 50] (some (.tup [.one .slice,.one (.int .i64)])),Mv 48 51,Ex 52 48 0,Ex 53 48 1,As 12 52,As 13 53])
 (.seq (.seq (.reg (some [0,5,7,9,10,11,12,13]) [Mv 54 13,Bc 55 .eql 26 54 .i64 0,Mv 56 55,⟨some 57,some (56,true),.op false (.old (.move (.tmp 9)))⟩,⟨some 58,some (56,true),.op false (.old (.binOp .eql 26 (.tmp 57) (.const (.int .i64 0)) 26))⟩,Ol 59 (.pick (.tmp 56) (.tmp 58) (.const (.bool false))),Mv 60 59,⟨some 61,some (60,true),.op false (.old (.move (.tmp 11)))⟩,⟨some 62,some (60,true),.op false (.old (.binOp .eql 26 (.tmp 61) (.const (.int .i64 0)) 26))⟩,Ol 63 (.pick (.tmp 60) (.tmp 62) (.const (.bool false)))])
 (.cond (.tmp 63) (.seq (.reg (some [0,5,7,9,10,12]) [Mv 65 12,Ld 66 5,Ca 67 10 [.tmp 65,.tmp 66] (some (.tup [.agg [.int .i64,.int .i64],.one (.int .i64)])),Mv 64 67,Ex 68 64 0,Ex 69 64 1,⟨some 14,none,.op true (.new 2 [.int .i64 0,.int .i64 0])⟩,⟨none,none,.op false (.store 2 (.tmp 14) (.tmp 68))⟩,As 15 69])
 (.seq (.reg (some [0,5,7,9,10,12,14,15]) [Mv 70 15,Bc 71 .neq 26 70 .i64 0,Mv 72 71,⟨some 73,some (72,false),.op false (.load 2 [.int .i64,.int .i64] (.tmp 14))⟩,⟨some 74,some (72,false),.op false (.load 2 [.int .i64,.int .i64] (.tmp 10))⟩,⟨some 75,some (72,false),.op false (.old (.binOp .neq 24 (.tmp 73) (.tmp 74) 24))⟩,Ol 76 (.pick (.tmp 72) (.const (.bool true)) (.tmp 75)),Mv 77 76,⟨some 78,some (77,false),.op false (.old (.move (.tmp 12)))⟩,⟨some 79,some (77,false),.call (.func 15) [.tmp 78] (some (.val (.one (.int .i64))))⟩,⟨some 80,some (77,false),.op false (.old (.binOp .neq 3 (.tmp 79) (.const (.int .i64 0)) 3))⟩,Ol 81 (.pick (.tmp 77) (.const (.bool true)) (.tmp 80))])
 (.cond (.tmp 81) (.seq (.reg (some []) [Ol 6 (.assign (.const (.bool false)))])
 .ret)
 .skip)))
 .skip))
 (.seq (.reg (some [0,5,7,9]) [Mv 83 0,Ca 84 12 [.tmp 83] (some (.tup [.one .slice,.one (.int .i64)])),Mv 82 84,Ex 85 82 0,Ex 86 82 1,As 16 85,As 17 86])
 (.seq (.reg (some [0,5,7,9,16,17]) [Mv 88 0,Mv 89 16,Ca 90 17 [.tmp 88,.tmp 89] (some (.tup [.one .slice,.one (.int .i64)])),Mv 87 90,Ex 91 87 0,Ex 92 87 1,As 18 91,As 19 92])
 (.seq (.seq (.reg (some [5,7,9,17,18,19]) [Mv 93 17,Bc 94 .neq 26 93 .i64 0,Mv 95 94,⟨some 96,some (95,false),.op false (.old (.move (.tmp 19)))⟩,⟨some 97,some (95,false),.op false (.old (.binOp .neq 26 (.tmp 96) (.const (.int .i64 0)) 26))⟩,Ol 98 (.pick (.tmp 95) (.const (.bool true)) (.tmp 97)),Mv 99 98,⟨some 100,some (99,false),.op false (.old (.move (.tmp 9)))⟩,⟨some 101,some (99,false),.op false (.old (.binOp .neq 26 (.tmp 100) (.const (.int .i64 0)) 26))⟩,Ol 102 (.pick (.tmp 99) (.const (.bool true)) (.tmp 101))])
 (.cond (.tmp 102) (.seq (.reg (some [7,17,19]) [Mv 103 7,Mv 104 103,⟨some 105,some (104,true),.op false (.old (.move (.tmp 17)))⟩,⟨some 106,some (104,true),.op false (.old (.binOp .eql 26 (.tmp 105) (.const (.int .i64 0)) 26))⟩,Ol 107 (.pick (.tmp 104) (.tmp 106) (.const (.bool false))),Mv 108 107,⟨some 109,some (108,true),.op false (.old (.move (.tmp 19)))⟩,⟨some 110,some (108,true),.op false (.old (.binOp .eql 26 (.tmp 109) (.const (.int .i64 0)) 26))⟩,Ol 111 (.pick (.tmp 108) (.tmp 110) (.const (.bool false))),As 6 111])
 .ret)
 .skip))
 (.seq (.reg (some [5,7,18]) [Mv 113 18,Ld 114 5,Ca 115 10 [.tmp 113,.tmp 114] (some (.tup [.agg [.int .i64,.int .i64],.one (.int .i64)])),Mv 112 115,Ex 116 112 0,Ex 117 112 1,⟨some 20,none,.op true (.new 2 [.int .i64 0,.int .i64 0])⟩,⟨none,none,.op false (.store 2 (.tmp 20) (.tmp 116))⟩,As 21 117])
 (.seq (.reg (some [5,7,20,21]) [Mv 118 7,Mv 119 118,⟨some 120,some (119,true),.op false (.old (.move (.tmp 21)))⟩,⟨some 121,some (119,true),.op false (.old (.binOp .eql 26 (.tmp 120) (.const (.int .i64 0)) 26))⟩,Ol 122 (.pick (.tmp 119) (.tmp 121) (.const (.bool false))),Mv 123 122,⟨some 124,some (123,true),.op false (.load 2 [.int .i64,.int .i64] (.tmp 20))⟩,⟨some 125,some (123,true),.op false (.load 2 [.int .i64,.int .i64] (.tmp 5))⟩,⟨some 126,some (123,true),.op false (.old (.binOp .eql 24 (.tmp 124) (.tmp 125) 24))⟩,Ol 127 (.pick (.tmp 123) (.tmp 126) (.const (.bool false))),As 6 127])
 .ret))))))))))),
 [.tmp 6],
 [],
 []⟩
theorem r7_ok : resFun (progU ()) hint live 7 Try.f7 = some r7:=by kernel_rfl
end Go.Proofs.Ytnokkniofajnhaa
