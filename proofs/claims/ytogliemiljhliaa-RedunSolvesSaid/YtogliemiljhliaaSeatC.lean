import Derived.Test.YtogliemiljhliaaSeat0
import Derived.Test.YtogliemiljhliaaSymS
set_option linter.unusedSimpArgs false
set_option linter.unusedVariables false
namespace Go.Proofs.Ytogliemiljhliaa
open Go.Sim
set_option maxRecDepth 100000
def r27 : RFun :=
⟨.seq (.reg (some [0,1]) [Ol 4 (.assign (.const (.slice none 0 0))),Ol 5 (.assign (.const (.slice none 0 0))),Ac 6 0])
 (.seq (.seq (.reg (some [0,1]) [Mv 14 0,Ca 15 18 [.tmp 14] (some (.val (.one (.int .i64)))),As 7 15])
 (.seq (.reg (some [0,1,7]) [Mv 16 7,Bc 17 .neq 23 16 .i64 0])
 (.cond (.tmp 17) (.seq (.reg (some [7]) [Mv 18 7,Ol 4 (.assign (.const (.slice none 0 0))),Ol 5 (.assign (.const (.slice none 0 0))),As 6 18])
 .ret)
 .skip)))
 (.seq (.seq (.reg (some [0,1]) [Mv 19 1,Ro 20 (.lenS (.tmp 19)),Mv 21 0,Ca 22 44 [.tmp 21] (some (.val (.one .slice))),Ro 23 (.lenS (.tmp 22)),Bt 24 .neq 3 20 23])
 (.cond (.tmp 24) (.seq (.reg (some []) [Ol 4 (.assign (.const (.slice none 0 0))),Ol 5 (.assign (.const (.slice none 0 0))),Ac 6 2])
 .ret)
 .skip))
 (.seq (.seq (.reg (some [0,1]) [Mv 25 1,Ro 26 (.lenS (.tmp 25)),Ol 27 (.move (.const (.int .i64 0)))])
 (.block 0 (.loop 7 none (some [0,1,25,26,27]))))
 (.seq (.reg (some [0,1]) [Mv 38 0,Mv 39 1,Ca 40 45 [.tmp 38,.tmp 39] (some (.val (.agg [.slice,.int .i64,.slice,.int .i64]))),Ro 10 (.new 4 [.slice none 0 0,.int .i64 0,.slice none 0 0,.int .i64 0]),⟨none,none,.op false (.store 4 (.tmp 10) (.tmp 40))⟩])
 (.seq (.seq (.reg (some [0,10]) [Fa 41 0 10,Ro 42 (.load1 .slice (.tmp 41)),Fa 43 2 10,Ro 44 (.load1 .slice (.tmp 43)),Ro 45 (.lenS (.tmp 44)),Ro 46 (.cutS 77 (.tmp 42) (some (.tmp 45)) none none),Ro 47 (.lenS (.tmp 46)),Ol 48 (.move (.const (.int .i64 0)))])
 (.block 2 (.loop 14 none (some [0,10,46,47,48]))))
 (.seq (.reg (some [0,10]) [Fa 59 1 10,L1 60 59,Ca 61 46 [.tmp 10,.tmp 60,.const (.int .i64 1)] (some (.val (.one .slice))),As 13 61])
 (.seq (.draw (some [0,13]) 13 [Dr (Mv 62 13) 0 [3,4,9,10,11,12],Dr (Mv 63 0) 1 [2,3,4,9,10,11,12],Dr (Ro 64 (.lenS (.tmp 63))) 2 [3,4,9,10,11,12],Dr (Ro 65 (.cutS 50 (.tmp 62) none (some (.tmp 64)) none)) 3 [4,9,10,11,12],Dr (Mv 67 13) 5 [8,9,10,11,12],Dr (Mv 68 0) 6 [7,8,9,10,11,12],Dr (Ro 69 (.lenS (.tmp 68))) 7 [8,9,10,11,12],Dr (Ro 70 (.cutS 50 (.tmp 67) (some (.tmp 69)) none none)) 8 [9,10,11,12],⟨Ca 66 47 [.tmp 65] (some (.val (.one .slice))),4,.all,[9,10,11,12],false,false⟩,⟨Ca 71 47 [.tmp 70] (some (.val (.one .slice))),9,.all,[10,11,12],false,false⟩,Dr (As 4 66) 10 [11,12],Dr (As 5 71) 11 [12],Dr (Ac 6 0) 12 []])
 .ret))))))),
 [.tmp 4,.tmp 5,.tmp 6],
 [(7,⟨none,some [0,1,25,26,27],.seq (.reg (some [0,1,25,26,27]) [Bt 28 .lss 3 27 26])
 (.seq (.cond (.tmp 28) .skip
 (.exit 0 (some [0,1])))
 (.seq (.block 1 (.seq (.reg (some [0,1,25,26,27]) [Ix 29 1 25 27,L1 30 29,As 9 30])
 (.seq (.reg (some [0,1,9,25,26,27]) [Mv 31 9,Ol 32 (.binOp .lss 3 (.tmp 31) (.const (.int .i64 (-99))) 3),Mv 33 32,⟨some 34,some (33,false),.op false (.old (.move (.tmp 9)))⟩,⟨some 35,some (33,false),.op false (.old (.binOp .gtr 3 (.tmp 34) (.const (.int .i64 99)) 3))⟩,Ol 36 (.pick (.tmp 33) (.const (.bool true)) (.tmp 35))])
 (.cond (.tmp 36) (.seq (.reg (some []) [Ol 4 (.assign (.const (.slice none 0 0))),Ol 5 (.assign (.const (.slice none 0 0))),Ac 6 2])
 .ret)
 .skip))))
 (.reg (some [0,1,25,26,27]) [Bc 37 .add 3 27 .i64 1,Mv 27 37])))⟩),(14,⟨none,some [0,10,46,47,48],.seq (.reg (some [0,10,46,47,48]) [Bt 49 .lss 3 48 47])
 (.seq (.cond (.tmp 49) .skip
 (.exit 2 (some [0,10])))
 (.seq (.block 3 (.seq (.reg (some [0,10,46,47,48]) [Ix 50 1 46 48,Ro 51 (.load1 .slice (.tmp 50)),As 12 51])
 (.seq (.reg (some [0,10,12,46,47,48]) [Mv 52 12,Fa 53 1 10,L1 54 53,Ix 55 1 52 54,L1 56 55,Bc 57 .neq 2 56 .i64 0])
 (.cond (.tmp 57) (.seq (.reg (some []) [Ol 4 (.assign (.const (.slice none 0 0))),Ol 5 (.assign (.const (.slice none 0 0))),Ac 6 6])
 .ret)
 .skip))))
 (.reg (some [0,10,46,47,48]) [Bc 58 .add 3 48 .i64 1,Mv 48 58])))⟩)],
 []⟩
theorem r27_ok : resFun (progU ()) hint live 27 Try.f27 = some r27:=by kernel_rfl
def r28 : RFun :=
⟨.seq (.reg (some [0,1]) [Ol 4 (.assign (.const (.bool false)))])
 (.seq (.seq (.reg (some [0,1]) [Mv 6 0,Ro 7 (.lenS (.tmp 6)),Mv 8 1,Ro 9 (.lenS (.tmp 8)),Bt 10 .neq 3 7 9])
 (.cond (.tmp 10) (.seq (.reg (some []) [Ol 4 (.assign (.const (.bool false)))])
 .ret)
 .skip))
 (.seq (.seq (.reg (some [0,1]) [Ac 5 0])
 (.block 0 (.loop 4 (some [0,1,5]) (some [0,1,5]))))
 (.seq (.reg (some []) [Ol 4 (.assign (.const (.bool true)))])
 .ret))),
 [.tmp 4],
 [(4,⟨some [0,1,5],some [0,1,5],.seq (.seq (.reg (some [0,1,5]) [Mv 11 5,Mv 12 0,Ro 13 (.lenS (.tmp 12)),Bt 14 .lss 3 11 13])
 (.cond (.tmp 14) .skip
 (.exit 0 (some []))))
 (.seq (.block 1 (.seq (.draw (some [0,1,5]) 9 [Dr (Mv 17 0) 0 [2,3,8],Dr (Mv 18 5) 1 [2,3,8],Dr (Ix 19 2 17 18) 2 [3,8],Db (Ld 20 19) 3 19 [8],Dr (Mv 21 1) 4 [6,7,8],Dr (Mv 22 5) 5 [6,7,8],Dr (Ix 23 2 21 22) 6 [7,8],Db (Ld 24 23) 7 23 [8],Dr (Bt 25 .neq 52 20 24) 8 []])
 (.cond (.tmp 25) (.seq (.reg (some []) [Ol 4 (.assign (.const (.bool false)))])
 .ret)
 .skip)))
 (.reg (some [0,1,5]) [Mv 15 5,Bc 16 .add 3 15 .i64 1,As 5 16]))⟩)],
 []⟩
theorem r28_ok : resFun (progU ()) hint live 28 Try.f28 = some r28:=by kernel_rfl
def r29 : RFun :=
⟨.seq (.reg (some [0,1]) [Ol 4 (.assign (.const (.slice none 0 0))),Ol 5 (.assign (.const (.slice none 0 0))),Ac 6 0])
 (.seq (.seq (.reg (some [0,1]) [Mv 13 0,Ca 14 19 [.tmp 13] (some (.val (.one (.int .i64)))),Bc 15 .neq 3 14 .i64 0])
 (.cond (.tmp 15) (.seq (.reg (some [0]) [Mv 16 0,Ca 17 19 [.tmp 16] (some (.val (.one (.int .i64)))),Ol 4 (.assign (.const (.slice none 0 0))),Ol 5 (.assign (.const (.slice none 0 0))),As 6 17])
 .ret)
 .skip))
 (.seq (.seq (.reg (some [0,1]) [Mv 18 0,Mv 19 1,Ca 20 32 [.tmp 18,.tmp 19] (some (.val (.one .bool))),Ol 21 (.unOp .not 4 (.tmp 20))])
 (.cond (.tmp 21) (.seq (.reg (some []) [Ol 4 (.assign (.const (.slice none 0 0))),Ol 5 (.assign (.const (.slice none 0 0))),Ac 6 2])
 .ret)
 .skip))
 (.seq (.reg (some [0,1]) [Mv 22 0,Ca 23 38 [.tmp 22] (some (.val (.one .slice))),Mv 24 1,Ca 25 49 [.tmp 23,.tmp 24] (some (.val (.one .slice))),Ca 26 48 [.tmp 25] (some (.val (.agg [.slice,.slice]))),⟨some 7,none,.op true (.new 2 [.slice none 0 0,.slice none 0 0])⟩,⟨none,none,.op false (.store 2 (.tmp 7) (.tmp 26))⟩])
 (.seq (.reg (some [0,7]) [Fa 27 0 7,Ro 28 (.load1 .slice (.tmp 27)),Ro 29 (.ixS 1 (.tmp 28) (.const (.int .i64 0))),Ro 30 (.load1 .slice (.tmp 29)),Ro 31 (.lenS (.tmp 30)),Bc 32 .sub 3 31 .i64 1,As 8 32])
 (.seq (.seq (.reg (some [0,7,8]) [Fa 33 1 7,Ro 34 (.load1 .slice (.tmp 33)),Ro 35 (.lenS (.tmp 34)),As 9 35])
 (.block 0 (.loop 8 none (some [0,7,8,9]))))
 (.seq (.reg (some [0,7,8]) [Mv 53 8,Ro 54 (.mkSlice 2 [.int .i64 0,.int .i64 0] (.tmp 53) (.tmp 53)),As 10 54])
 (.seq (.seq (.reg (some [0,7,8,10]) [Ac 11 0])
 (.block 2 (.loop 14 none (some [0,7,8,10,11]))))
 (.seq (.seq (.reg (some [0,7,8,10]) [Ac 12 0])
 (.block 4 (.loop 18 (some [0,7,8,10,12]) (some [0,7,8,10,12]))))
 (.seq (.draw (some [0,10]) 15 [⟨Ro 86 (.buildSlice 2 0 [] []),0,.new false,[5,11,12,13,14],false,true⟩,Dr (Mv 87 10) 1 [4,5,11,12,13,14],Dr (Mv 88 0) 2 [3,4,5,11,12,13,14],Dr (Ro 89 (.lenS (.tmp 88))) 3 [4,5,11,12,13,14],Dr (Ro 90 (.cutS 50 (.tmp 87) none (some (.tmp 89)) none)) 4 [5,11,12,13,14],⟨Ro 92 (.buildSlice 2 0 [] []),6,.new false,[11,12,13,14],false,true⟩,Dr (Mv 93 10) 7 [10,11,12,13,14],Dr (Mv 94 0) 8 [9,10,11,12,13,14],Dr (Ro 95 (.lenS (.tmp 94))) 9 [10,11,12,13,14],Dr (Ro 96 (.cutS 50 (.tmp 93) (some (.tmp 95)) none none)) 10 [11,12,13,14],⟨⟨some 91,none,.op false (.old (.call ⟨.builtin .append,#[.tmp 86,.tmp 90],#[50,50]⟩))⟩,5,.app [.tmp 86,.tmp 90],[11,12,13,14],false,false⟩,⟨⟨some 97,none,.op false (.old (.call ⟨.builtin .append,#[.tmp 92,.tmp 96],#[50,50]⟩))⟩,11,.app [.tmp 92,.tmp 96],[12,13,14],false,false⟩,Dr (As 4 91) 12 [13,14],Dr (As 5 97) 13 [14],Dr (Ac 6 0) 14 []])
 .ret))))))))),
 [.tmp 4,.tmp 5,.tmp 6],
 [(8,⟨none,some [0,7,8,9],.seq (.seq (.reg (some [0,7,8,9]) [Mv 36 9,Fa 37 0 7,Ro 38 (.load1 .slice (.tmp 37)),Ro 39 (.lenS (.tmp 38)),Bt 40 .lss 3 36 39])
 (.cond (.tmp 40) .skip
 (.exit 0 (some [0,7,8]))))
 (.seq (.block 1 (.seq (.reg (some [0,7,8,9]) [Fa 43 0 7,Ro 44 (.load1 .slice (.tmp 43)),Mv 45 9,Ix 46 1 44 45,Ro 47 (.load1 .slice (.tmp 46)),Mv 48 8,Ix 49 2 47 48,Fa 50 0 49,L1 51 50,Bc 52 .neq 2 51 .i64 0])
 (.cond (.tmp 52) (.seq (.reg (some []) [Ol 4 (.assign (.const (.slice none 0 0))),Ol 5 (.assign (.const (.slice none 0 0))),Ac 6 6])
 .ret)
 .skip)))
 (.reg (some [0,7,8,9]) [Mv 41 9,Bc 42 .add 3 41 .i64 1,As 9 42]))⟩),(14,⟨none,some [0,7,8,10,11],.seq (.seq (.reg (some [0,7,8,10,11]) [Mv 55 11,Mv 56 8,Bt 57 .lss 3 55 56])
 (.cond (.tmp 57) .skip
 (.exit 2 (some [0,7,8,10]))))
 (.seq (.block 3 (.reg (some [0,7,8,10,11]) [Mv 60 10,Mv 61 11,Ca 62 41 [.const (.int .i64 0)] (some (.val (.agg [.int .i64,.int .i64]))),Ix 63 2 60 61,⟨none,none,.op false (.store 2 (.tmp 63) (.tmp 62))⟩]))
 (.reg (some [0,7,8,10,11]) [Mv 58 11,Bc 59 .add 3 58 .i64 1,As 11 59]))⟩),(18,⟨some [0,7,8,10,12],some [0,7,8,10,12],.seq (.seq (.reg (some [0,7,8,10,12]) [Mv 64 12,Fa 65 1 7,Ro 66 (.load1 .slice (.tmp 65)),Ro 67 (.lenS (.tmp 66)),Bt 68 .lss 3 64 67])
 (.cond (.tmp 68) .skip
 (.exit 4 (some [0,10]))))
 (.seq (.block 5 (.draw (some [0,7,8,10,12]) 16 [Dr (Mv 71 10) 0 [14,15],Dr (Fa 72 1 7) 1 [2,4,5,14,15],Db (Ro 73 (.load1 .slice (.tmp 72))) 2 72 [4,5,14,15],Dr (Mv 74 12) 3 [4,5,14,15],Dr (Ix 75 1 73 74) 4 [5,14,15],Db (L1 76 75) 5 75 [14,15],Dr (Fa 77 0 7) 6 [7,9,10,12,13,14,15],Db (Ro 78 (.load1 .slice (.tmp 77))) 7 77 [9,10,12,13,14,15],Dr (Mv 79 12) 8 [9,10,12,13,14,15],Dr (Ix 80 1 78 79) 9 [10,12,13,14,15],Db (Ro 81 (.load1 .slice (.tmp 80))) 10 80 [12,13,14,15],Dr (Mv 82 8) 11 [12,13,14,15],Dr (Ix 83 2 81 82) 12 [13,14,15],Db (Ld 84 83) 13 83 [14,15],Dr (Ix 85 2 71 76) 14 [15],⟨⟨none,none,.op false (.store 2 (.tmp 85) (.tmp 84))⟩,15,.blk (.tmp 85),[],true,true⟩]))
 (.reg (some [0,7,8,10,12]) [Mv 69 12,Bc 70 .add 3 69 .i64 1,As 12 70]))⟩)],
 []⟩
theorem r29_ok : resFun (progU ()) hint live 29 Try.f29 = some r29:=by kernel_rfl
def r30 : RFun :=
⟨.seq (.reg (some [0,1,2]) [Ol 6 (.assign (.const (.slice none 0 0))),Ac 7 0])
 (.seq (.seq (.reg (some [0,1,2]) [Mv 16 0,Ca 17 18 [.tmp 16] (some (.val (.one (.int .i64)))),As 8 17])
 (.seq (.reg (some [0,1,2,8]) [Mv 18 8,Bc 19 .neq 23 18 .i64 0])
 (.cond (.tmp 19) (.seq (.reg (some [8]) [Mv 20 8,Ol 6 (.assign (.const (.slice none 0 0))),As 7 20])
 .ret)
 .skip)))
 (.seq (.reg (some [0,1,2]) [Mv 21 0,Ca 22 35 [.tmp 21] (some (.val (.one .slice))),As 9 22])
 (.seq (.seq (.reg (some [0,1,2,9]) [Mv 23 1,Mv 24 0,Ro 25 (.lenS (.tmp 24)),Ca 26 50 [.tmp 23,.tmp 25] (some (.val (.one .bool))),Ol 27 (.unOp .not 4 (.tmp 26)),Mv 28 27,⟨some 29,some (28,false),.op false (.old (.move (.tmp 2)))⟩,⟨some 30,some (28,false),.op false (.old (.move (.tmp 9)))⟩,⟨some 31,some (28,false),.op false (.lenS (.tmp 30))⟩,⟨some 32,some (28,false),.call (.func 50) [.tmp 29,.tmp 31] (some (.val (.one .bool)))⟩,⟨some 33,some (28,false),.op false (.old (.unOp .not 4 (.tmp 32)))⟩,Ol 34 (.pick (.tmp 28) (.const (.bool true)) (.tmp 33))])
 (.cond (.tmp 34) (.seq (.reg (some []) [Ol 6 (.assign (.const (.slice none 0 0))),Ac 7 2])
 .ret)
 .skip))
 (.seq (.reg (some [0,1,2,9]) [Ol 10 (.assign (.const (.slice none 0 0)))])
 (.seq (.seq (.reg (some [0,1,2,9,10]) [Mv 35 0,Ca 36 44 [.tmp 35] (some (.val (.one .slice))),Ro 37 (.lenS (.tmp 36)),Ol 38 (.move (.const (.int .i64 0)))])
 (.block 0 (.loop 9 (some [0,1,2,9,10,36,37,38]) (some [0,1,2,9,10,36,37,38]))))
 (.seq (.reg (some [10]) [Mv 88 10,As 6 88,Ac 7 0])
 .ret)))))),
 [.tmp 6,.tmp 7],
 [(9,⟨some [0,1,2,9,10,36,37,38],some [0,1,2,9,10,36,37,38],.seq (.reg (some [0,1,2,9,10,36,37,38]) [Bt 39 .lss 3 38 37])
 (.seq (.cond (.tmp 39) .skip
 (.exit 0 (some [10])))
 (.seq (.block 1 (.seq (.reg (some [0,1,2,9,10,36,37,38]) [Ix 40 2 36 38,Ld 41 40,⟨some 12,none,.op true (.new 2 [.int .i64 0,.int .i64 0])⟩,⟨none,none,.op false (.store 2 (.tmp 12) (.tmp 41))⟩])
 (.seq (.draw (some [0,1,2,9,10,12,36,37,38]) 17 [Dr (Mv 43 1) 0 [3,4,10,11,12,13,15,16],Dr (Fa 44 0 12) 1 [2,3,4,10,11,12,13,15,16],Db (L1 45 44) 2 44 [3,4,10,11,12,13,15,16],Dr (Ix 46 2 43 45) 3 [4,10,11,12,13,15,16],Db (Ld 47 46) 4 46 [10,11,12,13,15,16],Dr (Mv 48 1) 5 [8,9,10,11,12,13,15,16],Dr (Fa 49 1 12) 6 [7,8,9,10,11,12,13,15,16],Db (L1 50 49) 7 49 [8,9,10,11,12,13,15,16],Dr (Ix 51 2 48 50) 8 [9,10,11,12,13,15,16],Db (Ld 52 51) 9 51 [10,11,12,13,15,16],⟨⟨some 13,none,.op true (.new 2 [.int .i64 0,.int .i64 0])⟩,14,.new true,[15,16],false,true⟩,⟨Ca 53 51 [.tmp 47,.tmp 52] (some (.tup [.agg [.int .i64,.int .i64],.one (.int .i64)])),10,.all,[11,12,13,15,16],false,false⟩,Dr (Mv 42 53) 11 [12,13,15,16],Dr (Ex 54 42 0) 12 [15,16],Dr (Ex 55 42 1) 13 [16],⟨⟨none,none,.op false (.store 2 (.tmp 13) (.tmp 54))⟩,15,.blk (.tmp 13),[16],true,true⟩,Dr (As 14 55) 16 []])
 (.seq (.seq (.reg (some [0,1,2,9,10,12,13,14,36,37,38]) [Mv 56 14,Bc 57 .neq 23 56 .i64 0])
 (.cond (.tmp 57) (.seq (.reg (some [14]) [Mv 58 14,Ol 6 (.assign (.const (.slice none 0 0))),As 7 58])
 .ret)
 .skip))
 (.seq (.draw (some [0,1,2,9,10,12,13,36,37,38]) 24 [Db (Ld 60 13) 0 13 [17,18,19,20,22,23],Dr (Mv 61 2) 1 [15,16,17,18,19,20,22,23],Dr (Mv 62 9) 2 [14,15,16,17,18,19,20,22,23],Dr (Mv 63 0) 3 [6,7,13,14,15,16,17,18,19,20,22,23],Dr (Fa 64 1 12) 4 [5,6,7,13,14,15,16,17,18,19,20,22,23],Db (L1 65 64) 5 64 [6,7,13,14,15,16,17,18,19,20,22,23],Dr (Ix 66 1 63 65) 6 [7,13,14,15,16,17,18,19,20,22,23],Db (L1 67 66) 7 66 [13,14,15,16,17,18,19,20,22,23],Dr (Mv 68 0) 8 [11,12,13,14,15,16,17,18,19,20,22,23],Dr (Fa 69 0 12) 9 [10,11,12,13,14,15,16,17,18,19,20,22,23],Db (L1 70 69) 10 69 [11,12,13,14,15,16,17,18,19,20,22,23],Dr (Ix 71 1 68 70) 11 [12,13,14,15,16,17,18,19,20,22,23],Db (L1 72 71) 12 71 [13,14,15,16,17,18,19,20,22,23],Dr (Bt 73 .sub 3 67 72) 13 [14,15,16,17,18,19,20,22,23],⟨⟨some 15,none,.op true (.new 2 [.int .i64 0,.int .i64 0])⟩,21,.new true,[22,23],false,true⟩,⟨Ca 74 53 [.tmp 62,.tmp 73] (some (.val (.one (.int .i64)))),14,.all,[15,16,17,18,19,20,22,23],false,false⟩,Dr (Ix 75 2 61 74) 15 [16,17,18,19,20,22,23],Db (Ld 76 75) 16 75 [17,18,19,20,22,23],⟨Ca 77 52 [.tmp 60,.tmp 76] (some (.tup [.agg [.int .i64,.int .i64],.one (.int .i64)])),17,.all,[18,19,20,22,23],false,false⟩,Dr (Mv 59 77) 18 [19,20,22,23],Dr (Ex 78 59 0) 19 [22,23],Dr (Ex 79 59 1) 20 [23],⟨⟨none,none,.op false (.store 2 (.tmp 15) (.tmp 78))⟩,22,.blk (.tmp 15),[23],true,true⟩,Dr (As 14 79) 23 []])
 (.seq (.seq (.reg (some [0,1,2,9,10,14,15,36,37,38]) [Mv 80 14,Bc 81 .neq 23 80 .i64 0])
 (.cond (.tmp 81) (.seq (.reg (some [14]) [Mv 82 14,Ol 6 (.assign (.const (.slice none 0 0))),As 7 82])
 .ret)
 .skip))
 (.reg (some [0,1,2,9,10,15,36,37,38]) [Mv 83 10,Ld 84 15,Ro 85 (.buildSlice 2 1 [.int .i64 0,.int .i64 0] [(0,2,(.tmp 84))]),⟨some 86,none,.op false (.old (.call ⟨.builtin .append,#[.tmp 83,.tmp 85],#[50,50]⟩))⟩,As 10 86])))))))
 (.reg (some [0,1,2,9,10,36,37,38]) [Bc 87 .add 3 38 .i64 1,Mv 38 87])))⟩)],
 []⟩
theorem r30_ok : resFun (progU ()) hint live 30 Try.f30 = some r30:=by kernel_rfl
def r31 : RFun :=
⟨.seq (.reg (some [0,1,2]) [Ol 6 (.assign (.const (.slice none 0 0))),Ac 7 0])
 (.seq (.seq (.reg (some [0,1,2]) [Mv 14 0,Ca 15 19 [.tmp 14] (some (.val (.one (.int .i64)))),Bc 16 .neq 3 15 .i64 0])
 (.cond (.tmp 16) (.seq (.reg (some [0]) [Mv 17 0,Ca 18 19 [.tmp 17] (some (.val (.one (.int .i64)))),Ol 6 (.assign (.const (.slice none 0 0))),As 7 18])
 .ret)
 .skip))
 (.seq (.reg (some [0,1,2]) [Mv 19 0,Ca 20 36 [.tmp 19] (some (.val (.one .slice))),As 8 20])
 (.seq (.seq (.reg (some [0,1,2,8]) [Mv 21 1,Ro 22 (.lenS (.tmp 21)),Mv 23 0,Ro 24 (.lenS (.tmp 23)),Bt 25 .neq 3 22 24,Mv 26 25,⟨some 27,some (26,false),.op false (.old (.move (.tmp 2)))⟩,⟨some 28,some (26,false),.op false (.lenS (.tmp 27))⟩,⟨some 29,some (26,false),.op false (.old (.move (.tmp 8)))⟩,⟨some 30,some (26,false),.op false (.lenS (.tmp 29))⟩,⟨some 31,some (26,false),.op false (.old (.binOp .neq 3 (.tmp 28) (.tmp 30) 3))⟩,Ol 32 (.pick (.tmp 26) (.const (.bool true)) (.tmp 31)),Mv 33 32,⟨some 34,some (33,false),.op false (.old (.move (.tmp 1)))⟩,⟨some 35,some (33,false),.call (.func 34) [.tmp 34] (some (.val (.one .bool)))⟩,⟨some 36,some (33,false),.op false (.old (.unOp .not 4 (.tmp 35)))⟩,Ol 37 (.pick (.tmp 33) (.const (.bool true)) (.tmp 36)),Mv 38 37,⟨some 39,some (38,false),.op false (.old (.move (.tmp 2)))⟩,⟨some 40,some (38,false),.call (.func 34) [.tmp 39] (some (.val (.one .bool)))⟩,⟨some 41,some (38,false),.op false (.old (.unOp .not 4 (.tmp 40)))⟩,Ol 42 (.pick (.tmp 38) (.const (.bool true)) (.tmp 41))])
 (.cond (.tmp 42) (.seq (.reg (some []) [Ol 6 (.assign (.const (.slice none 0 0))),Ac 7 2])
 .ret)
 .skip))
 (.seq (.reg (some [0,1,2,8]) [Ol 9 (.assign (.const (.slice none 0 0)))])
 (.seq (.seq (.reg (some [0,1,2,8,9]) [Ac 10 0])
 (.block 0 (.loop 8 (some [0,1,2,8,9,10]) (some [0,1,2,8,9,10]))))
 (.seq (.reg (some [9]) [Mv 92 9,As 6 92,Ac 7 0])
 .ret)))))),
 [.tmp 6,.tmp 7],
 [(8,⟨some [0,1,2,8,9,10],some [0,1,2,8,9,10],.seq (.seq (.reg (some [0,1,2,8,9,10]) [Mv 43 10,Mv 44 0,Ro 45 (.lenS (.tmp 44)),Bt 46 .lss 3 43 45])
 (.cond (.tmp 46) .skip
 (.exit 0 (some [9]))))
 (.seq (.block 1 (.seq (.reg (some [0,1,2,8,9,10]) [Mv 49 10,Bc 50 .add 3 49 .i64 1,As 11 50])
 (.block 2 (.loop 11 (some [0,1,2,8,9,10,11]) (some [0,1,2,8,9,10,11])))))
 (.reg (some [0,1,2,8,9,10]) [Mv 47 10,Bc 48 .add 3 47 .i64 1,As 10 48]))⟩),(11,⟨some [0,1,2,8,9,10,11],some [0,1,2,8,9,10,11],.seq (.seq (.reg (some [0,1,2,8,9,10,11]) [Mv 51 11,Mv 52 0,Ro 53 (.lenS (.tmp 52)),Bt 54 .lss 3 51 53])
 (.cond (.tmp 54) .skip
 (.exit 2 (some [0,1,2,8,9,10]))))
 (.seq (.block 3 (.seq (.draw (some [0,1,2,8,9,10,11]) 15 [Dr (Mv 58 1) 0 [2,3,8,9,10,11,13,14],Dr (Mv 59 10) 1 [2,3,8,9,10,11,13,14],Dr (Ix 60 2 58 59) 2 [3,8,9,10,11,13,14],Db (Ld 61 60) 3 60 [8,9,10,11,13,14],Dr (Mv 62 1) 4 [6,7,8,9,10,11,13,14],Dr (Mv 63 11) 5 [6,7,8,9,10,11,13,14],Dr (Ix 64 2 62 63) 6 [7,8,9,10,11,13,14],Db (Ld 65 64) 7 64 [8,9,10,11,13,14],⟨⟨some 12,none,.op true (.new 2 [.int .i64 0,.int .i64 0])⟩,12,.new true,[13,14],false,true⟩,⟨Ca 66 33 [.tmp 61,.tmp 65] (some (.tup [.agg [.int .i64,.int .i64],.one (.int .i64)])),8,.all,[9,10,11,13,14],false,false⟩,Dr (Mv 57 66) 9 [10,11,13,14],Dr (Ex 67 57 0) 10 [13,14],Dr (Ex 68 57 1) 11 [14],⟨⟨none,none,.op false (.store 2 (.tmp 12) (.tmp 67))⟩,13,.blk (.tmp 12),[14],true,true⟩,Dr (As 13 68) 14 []])
 (.seq (.draw (some [0,1,2,8,9,10,11,12]) 20 [Db (Ld 70 12) 0 12 [15,16,17,18,19],Dr (Mv 71 2) 1 [13,14,15,16,17,18,19],Dr (Mv 72 8) 2 [12,13,14,15,16,17,18,19],Dr (Mv 73 0) 3 [5,6,11,12,13,14,15,16,17,18,19],Dr (Mv 74 11) 4 [5,6,11,12,13,14,15,16,17,18,19],Dr (Ix 75 1 73 74) 5 [6,11,12,13,14,15,16,17,18,19],Db (L1 76 75) 6 75 [11,12,13,14,15,16,17,18,19],Dr (Mv 77 0) 7 [9,10,11,12,13,14,15,16,17,18,19],Dr (Mv 78 10) 8 [9,10,11,12,13,14,15,16,17,18,19],Dr (Ix 79 1 77 78) 9 [10,11,12,13,14,15,16,17,18,19],Db (L1 80 79) 10 79 [11,12,13,14,15,16,17,18,19],Dr (Bt 81 .sub 3 76 80) 11 [12,13,14,15,16,17,18,19],⟨Ca 82 54 [.tmp 72,.tmp 81] (some (.val (.one (.int .i64)))),12,.all,[13,14,15,16,17,18,19],false,false⟩,Dr (Ix 83 2 71 82) 13 [14,15,16,17,18,19],Db (Ld 84 83) 14 83 [15,16,17,18,19],⟨Ca 85 43 [.tmp 70,.tmp 84] (some (.tup [.agg [.int .i64,.int .i64],.one (.int .i64)])),15,.all,[16,17,18,19],false,false⟩,Dr (Mv 69 85) 16 [17,18,19],Dr (Ex 86 69 0) 17 [19],Dr (Ex 87 69 1) 18 [],⟨⟨none,none,.op false (.store 2 (.tmp 12) (.tmp 86))⟩,19,.blk (.tmp 12),[],true,true⟩])
 (.reg (some [0,1,2,8,9,10,11,12]) [Mv 88 9,Ld 89 12,Ro 90 (.buildSlice 2 1 [.int .i64 0,.int .i64 0] [(0,2,(.tmp 89))]),⟨some 91,none,.op false (.old (.call ⟨.builtin .append,#[.tmp 88,.tmp 90],#[50,50]⟩))⟩,As 9 91]))))
 (.reg (some [0,1,2,8,9,10,11]) [Mv 55 11,Bc 56 .add 3 55 .i64 1,As 11 56]))⟩)],
 []⟩
theorem r31_ok : resFun (progU ()) hint live 31 Try.f31 = some r31:=by kernel_rfl
def r32 : RFun :=
⟨.seq (.reg (some [0,1]) [Ol 4 (.assign (.const (.bool false)))])
 (.seq (.seq (.reg (some [0,1]) [Ac 5 0])
 (.block 0 (.loop 2 none (some [0,1,5]))))
 (.seq (.reg (some [0,1]) [Mv 24 1,Ro 25 (.lenS (.tmp 24)),Mv 26 0,Ro 27 (.lenS (.tmp 26)),Mv 28 0,Ro 29 (.lenS (.tmp 28)),Bc 30 .sub 3 29 .i64 1,Bt 31 .mul 3 27 30,Bc 32 .quo 3 31 .i64 2,Bt 33 .eql 3 25 32,As 4 33])
 .ret)),
 [.tmp 4],
 [(2,⟨none,some [0,1,5],.seq (.seq (.reg (some [0,1,5]) [Mv 6 5,Mv 7 1,Ro 8 (.lenS (.tmp 7)),Bt 9 .lss 3 6 8])
 (.cond (.tmp 9) .skip
 (.exit 0 (some [0,1]))))
 (.seq (.block 1 (.seq (.reg (some [0,1,5]) [Mv 12 1,Mv 13 5,Ix 14 1 12 13,L1 15 14,Ol 16 (.binOp .lss 3 (.tmp 15) (.const (.int .i64 (-99))) 3),Mv 17 16,⟨some 18,some (17,false),.op false (.old (.move (.tmp 1)))⟩,⟨some 19,some (17,false),.op false (.old (.move (.tmp 5)))⟩,⟨some 20,some (17,false),.op false (.ixS 1 (.tmp 18) (.tmp 19))⟩,⟨some 21,some (17,false),.op false (.load1 (.int .i64) (.tmp 20))⟩,⟨some 22,some (17,false),.op false (.old (.binOp .gtr 3 (.tmp 21) (.const (.int .i64 99)) 3))⟩,Ol 23 (.pick (.tmp 17) (.const (.bool true)) (.tmp 22))])
 (.cond (.tmp 23) (.seq (.reg (some []) [Ol 4 (.assign (.const (.bool false)))])
 .ret)
 .skip)))
 (.reg (some [0,1,5]) [Mv 10 5,Bc 11 .add 3 10 .i64 1,As 5 11]))⟩)],
 []⟩
theorem r32_ok : resFun (progU ()) hint live 32 Try.f32 = some r32:=by kernel_rfl
def r33 : RFun :=
⟨.seq (.reg (some [0,1]) [⟨some 2,none,.op true (.box 2 (.tmp 0))⟩,⟨some 3,none,.op true (.box 2 (.tmp 1))⟩,⟨some 4,none,.op true (.new 2 [.int .i64 0,.int .i64 0])⟩,Ac 5 0])
 (.seq (.seq (.reg (some [2,3,4]) [Ld 6 2,Ld 7 3,Ca 8 55 [.tmp 6,.tmp 7] (some (.val (.one (.int .i64)))),Bc 9 .neq 3 8 .i64 0])
 (.cond (.tmp 9) (.seq (.reg (some [2,3,4]) [Ro 10 (.build [.int .i64 0,.int .i64 0] []),Ld 11 2,Ld 12 3,Ca 13 55 [.tmp 11,.tmp 12] (some (.val (.one (.int .i64)))),⟨none,none,.op false (.store 2 (.tmp 4) (.tmp 10))⟩,As 5 13])
 .ret)
 .skip))
 (.seq (.draw (some [2,3,4]) 8 [Db (Ld 14 2) 0 2 [3,4,5,6,7],Db (Ld 15 3) 1 3 [2,3,4,5,6,7],⟨Ca 16 56 [.tmp 15] (some (.val (.agg [.int .i64,.int .i64]))),2,.all,[3,4,5,6,7],false,false⟩,⟨Ca 17 43 [.tmp 14,.tmp 16] (some (.tup [.agg [.int .i64,.int .i64],.one (.int .i64)])),3,.all,[4,5,6,7],false,false⟩,Dr (Ex 18 17 0) 4 [6,7],Dr (Ex 19 17 1) 5 [6,7],⟨⟨none,none,.op false (.store 2 (.tmp 4) (.tmp 18))⟩,6,.blk (.tmp 4),[7],true,true⟩,Dr (As 5 19) 7 []])
 .ret)),
 [.agg 4 2 [.int .i64,.int .i64],.tmp 5],
 [],
 []⟩
theorem r33_ok : resFun (progU ()) hint live 33 Try.f33 = some r33:=by kernel_rfl
def r34 : RFun :=
⟨.seq (.reg (some [0]) [Ol 2 (.assign (.const (.bool false)))])
 (.seq (.seq (.reg (some [0]) [Ac 3 0])
 (.block 0 (.loop 2 none (some [0,3]))))
 (.seq (.reg (some []) [Ol 2 (.assign (.const (.bool true)))])
 .ret)),
 [.tmp 2],
 [(2,⟨none,some [0,3],.seq (.seq (.reg (some [0,3]) [Mv 4 3,Mv 5 0,Ro 6 (.lenS (.tmp 5)),Bt 7 .lss 3 4 6])
 (.cond (.tmp 7) .skip
 (.exit 0 (some []))))
 (.seq (.block 1 (.seq (.reg (some [0,3]) [Mv 10 0,Mv 11 3,Ix 12 2 10 11,Ld 13 12,Ca 14 57 [.tmp 13] (some (.val (.one (.int .i64)))),Bc 15 .neq 3 14 .i64 0,Mv 16 15,⟨some 17,some (16,false),.op false (.old (.move (.tmp 0)))⟩,⟨some 18,some (16,false),.op false (.old (.move (.tmp 3)))⟩,⟨some 19,some (16,false),.op false (.ixS 2 (.tmp 17) (.tmp 18))⟩,⟨some 20,some (16,false),.op false (.fieldAddr 1 (.tmp 19))⟩,⟨some 21,some (16,false),.op false (.load1 (.int .i64) (.tmp 20))⟩,⟨some 22,some (16,false),.op false (.old (.binOp .gtr 2 (.tmp 21) (.const (.int .i64 1000)) 2))⟩,Ol 23 (.pick (.tmp 16) (.const (.bool true)) (.tmp 22)),Mv 24 23,⟨some 25,some (24,false),.op false (.old (.move (.tmp 0)))⟩,⟨some 26,some (24,false),.op false (.old (.move (.tmp 3)))⟩,⟨some 27,some (24,false),.op false (.ixS 2 (.tmp 25) (.tmp 26))⟩,⟨some 28,some (24,false),.op false (.fieldAddr 0 (.tmp 27))⟩,⟨some 29,some (24,false),.op false (.load1 (.int .i64) (.tmp 28))⟩,⟨some 30,some (24,false),.op false (.old (.binOp .gtr 2 (.tmp 29) (.const (.int .i64 1000000)) 2))⟩,Ol 31 (.pick (.tmp 24) (.const (.bool true)) (.tmp 30)),Mv 32 31,⟨some 33,some (32,false),.op false (.old (.move (.tmp 0)))⟩,⟨some 34,some (32,false),.op false (.old (.move (.tmp 3)))⟩,⟨some 35,some (32,false),.op false (.ixS 2 (.tmp 33) (.tmp 34))⟩,⟨some 36,some (32,false),.op false (.fieldAddr 0 (.tmp 35))⟩,⟨some 37,some (32,false),.op false (.load1 (.int .i64) (.tmp 36))⟩,⟨some 38,some (32,false),.op false (.old (.binOp .lss 2 (.tmp 37) (.const (.int .i64 (-1000000))) 2))⟩,Ol 39 (.pick (.tmp 32) (.const (.bool true)) (.tmp 38))])
 (.cond (.tmp 39) (.seq (.reg (some []) [Ol 2 (.assign (.const (.bool false)))])
 .ret)
 .skip)))
 (.reg (some [0,3]) [Mv 8 3,Bc 9 .add 3 8 .i64 1,As 3 9]))⟩)],
 []⟩
theorem r34_ok : resFun (progU ()) hint live 34 Try.f34 = some r34:=by kernel_rfl
def r35 : RFun :=
⟨.seq (.reg (some [0]) [Ol 2 (.assign (.const (.slice none 0 0)))])
 (.seq (.reg (some [0]) [Ol 3 (.assign (.const (.slice none 0 0)))])
 (.seq (.seq (.reg (some [0,3]) [Mv 6 0,Ca 7 44 [.tmp 6] (some (.val (.one .slice))),Ro 8 (.lenS (.tmp 7)),Ol 9 (.move (.const (.int .i64 0)))])
 (.block 0 (.loop 3 (some [0,3,7,8,9]) (some [0,3,7,8,9]))))
 (.seq (.reg (some [3]) [Mv 28 3,Ca 29 58 [.tmp 28] (some (.tup []))])
 (.seq (.reg (some [3]) [Mv 30 3,Ca 31 59 [.tmp 30] (some (.val (.one .slice))),As 2 31])
 .ret)))),
 [.tmp 2],
 [(3,⟨some [0,3,7,8,9],some [0,3,7,8,9],.seq (.reg (some [0,3,7,8,9]) [Bt 10 .lss 3 9 8])
 (.seq (.cond (.tmp 10) .skip
 (.exit 0 (some [3])))
 (.seq (.block 1 (.seq (.reg (some [0,3,7,8,9]) [Ix 11 2 7 9,Ld 12 11,⟨some 5,none,.op true (.new 2 [.int .i64 0,.int .i64 0])⟩,⟨none,none,.op false (.store 2 (.tmp 5) (.tmp 12))⟩])
 (.draw (some [0,3,5,7,8,9]) 15 [Dr (Mv 13 3) 0 [13,14],Dr (Mv 14 0) 1 [4,5,11,12,13,14],Dr (Fa 15 1 5) 2 [3,4,5,11,12,13,14],Db (L1 16 15) 3 15 [4,5,11,12,13,14],Dr (Ix 17 1 14 16) 4 [5,11,12,13,14],Db (L1 18 17) 5 17 [11,12,13,14],Dr (Mv 19 0) 6 [9,10,11,12,13,14],Dr (Fa 20 0 5) 7 [8,9,10,11,12,13,14],Db (L1 21 20) 8 20 [9,10,11,12,13,14],Dr (Ix 22 1 19 21) 9 [10,11,12,13,14],Db (L1 23 22) 10 22 [11,12,13,14],Dr (Bt 24 .sub 3 18 23) 11 [12,13,14],⟨Ro 25 (.buildSlice 1 1 [.int .i64 0] [(0,1,(.tmp 24))]),12,.new false,[13,14],false,true⟩,⟨⟨some 26,none,.op false (.old (.call ⟨.builtin .append,#[.tmp 13,.tmp 25],#[22,22]⟩))⟩,13,.app [.tmp 13,.tmp 25],[14],false,false⟩,Dr (As 3 26) 14 []])))
 (.reg (some [0,3,7,8,9]) [Bc 27 .add 3 9 .i64 1,Mv 9 27])))⟩)],
 []⟩
theorem r35_ok : resFun (progU ()) hint live 35 Try.f35 = some r35:=by kernel_rfl
def r36 : RFun :=
⟨.seq (.reg (some [0]) [Ol 2 (.assign (.const (.slice none 0 0)))])
 (.seq (.reg (some [0]) [Ol 3 (.assign (.const (.slice none 0 0)))])
 (.seq (.seq (.reg (some [0,3]) [Ac 4 1])
 (.block 0 (.loop 3 none (some [0,3,4]))))
 (.seq (.reg (some [3]) [Mv 34 3,As 2 34])
 .ret))),
 [.tmp 2],
 [(3,⟨none,some [0,3,4],.seq (.seq (.reg (some [0,3,4]) [Mv 7 4,Bc 8 .leq 3 7 .i64 31])
 (.cond (.tmp 8) .skip
 (.exit 0 (some [3]))))
 (.seq (.block 1 (.seq (.reg (some [0,3,4]) [Ol 5 (.assign (.const (.bool false)))])
 (.seq (.seq (.reg (some [0,3,4,5]) [Ac 6 0])
 (.block 2 (.loop 7 none (some [0,3,4,5,6]))))
 (.seq (.reg (some [0,3,4,5]) [Mv 29 5])
 (.cond (.tmp 29) (.reg (some [0,3,4]) [Mv 30 3,Mv 31 4,Ro 32 (.buildSlice 1 1 [.int .i64 0] [(0,1,(.tmp 31))]),⟨some 33,none,.op false (.old (.call ⟨.builtin .append,#[.tmp 30,.tmp 32],#[22,22]⟩))⟩,As 3 33])
 .skip)))))
 (.reg (some [0,3,4]) [Mv 9 4,Bc 10 .add 3 9 .i64 1,As 4 10]))⟩),(7,⟨none,some [0,3,4,5,6],.seq (.seq (.reg (some [0,3,4,5,6]) [Mv 11 6,Mv 12 0,Ro 13 (.lenS (.tmp 12)),Bt 14 .lss 3 11 13])
 (.cond (.tmp 14) .skip
 (.exit 2 (some [0,3,4,5]))))
 (.seq (.block 3 (.reg (some [0,3,4,5,6]) [Mv 17 5,Mv 18 17,⟨some 19,some (18,false),.op false (.old (.move (.tmp 0)))⟩,⟨some 20,some (18,false),.op false (.old (.move (.tmp 0)))⟩,⟨some 21,some (18,false),.op false (.old (.move (.tmp 6)))⟩,⟨some 22,some (18,false),.op false (.ixS 1 (.tmp 20) (.tmp 21))⟩,⟨some 23,some (18,false),.op false (.load1 (.int .i64) (.tmp 22))⟩,⟨some 24,some (18,false),.op false (.old (.move (.tmp 4)))⟩,⟨some 25,some (18,false),.op false (.old (.binOp .add 3 (.tmp 23) (.tmp 24) 3))⟩,⟨some 26,some (18,false),.call (.func 54) [.tmp 19,.tmp 25] (some (.val (.one (.int .i64))))⟩,⟨some 27,some (18,false),.op false (.old (.binOp .geq 3 (.tmp 26) (.const (.int .i64 0)) 3))⟩,Ol 28 (.pick (.tmp 18) (.const (.bool true)) (.tmp 27)),As 5 28]))
 (.reg (some [0,3,4,5,6]) [Mv 15 6,Bc 16 .add 3 15 .i64 1,As 6 16]))⟩)],
 []⟩
theorem r36_ok : resFun (progU ()) hint live 36 Try.f36 = some r36:=by kernel_rfl
end Go.Proofs.Ytogliemiljhliaa
