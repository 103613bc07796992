/-
  THE RESOLVED FORM OF EACH FUNCTION OF THIS SEAT. (Written by seat2.sh; the kernel looks whether it is right.)
-/
import Derived.Test.YtopppccddnplkaaSeat0
namespace Go.Proofs.Ytopppccddnplkaa
open Go.Sim
set_option maxRecDepth 100000
/-- gosem.cut.init -/
def r2 : RFun :=
⟨(.reg (some []) [⟨(some 0), none, (.call (.func 1) [] (some (.tup [])))⟩]),
 [],
 [],
 []⟩
theorem r2_ok : resFun (progU ()) hint live 2 Try.f2 = some r2 := by kernel_rfl
/-- fringeref44.Great -/
def r11 : RFun :=
⟨(.seq (.reg (some [0]) [⟨(some 2), none, (.op false (.old (.assign (.const (.bool false)))))⟩])
 (.seq (.seq (.reg (some [0]) [⟨(some 3), none, (.op false (.old (.assign (.const (.int .i64 0)))))⟩])
 (.block 0 (.loop 2 none (some [0, 3]))))
 (.seq (.reg (some [0]) [⟨(some 56), none, (.op false (.old (.move (.tmp 0))))⟩, ⟨(some 57), none, (.op false (.lenS (.tmp 56)))⟩, ⟨(some 58), none, (.op false (.old (.binOp .gtr 3 (.tmp 57) (.const (.int .i64 20)) 3)))⟩, ⟨(some 59), none, (.op false (.old (.move (.tmp 58))))⟩, ⟨(some 60), (some (59, true)), (.op false (.old (.move (.tmp 0))))⟩, ⟨(some 61), (some (59, true)), (.op false (.lenS (.tmp 60)))⟩, ⟨(some 62), (some (59, true)), (.op false (.old (.binOp .leq 3 (.tmp 61) (.const (.int .i64 40)) 3)))⟩, ⟨(some 63), none, (.op false (.old (.pick (.tmp 59) (.tmp 62) (.const (.bool false)))))⟩, ⟨(some 64), none, (.op false (.old (.move (.tmp 63))))⟩, ⟨(some 65), (some (64, false)), (.op false (.old (.move (.tmp 0))))⟩, ⟨(some 66), (some (64, false)), (.op false (.lenS (.tmp 65)))⟩, ⟨(some 67), (some (64, false)), (.op false (.old (.binOp .gtr 3 (.tmp 66) (.const (.int .i64 50)) 3)))⟩, ⟨(some 68), none, (.op false (.old (.pick (.tmp 64) (.const (.bool true)) (.tmp 67))))⟩, ⟨(some 2), none, (.op false (.old (.assign (.tmp 68))))⟩])
 .ret))),
 [(.tmp 2)],
 [(2, ⟨none, (some [0, 3]), (.seq (.seq (.reg (some [0, 3]) [⟨(some 5), none, (.op false (.old (.move (.tmp 3))))⟩, ⟨(some 6), none, (.op false (.old (.move (.tmp 0))))⟩, ⟨(some 7), none, (.op false (.lenS (.tmp 6)))⟩, ⟨(some 8), none, (.op false (.old (.binOp .lss 3 (.tmp 5) (.tmp 7) 3)))⟩])
 (.cond (.tmp 8) .skip
 (.exit 0 (some [0]))))
 (.seq (.block 1 (.seq (.seq (.reg (some [0, 3]) [⟨(some 11), none, (.op false (.old (.move (.tmp 0))))⟩, ⟨(some 12), none, (.op false (.old (.move (.tmp 3))))⟩, ⟨(some 13), none, (.op false (.ixS 6 (.tmp 11) (.tmp 12)))⟩, ⟨(some 14), none, (.op false (.fieldAddr 0 (.tmp 13)))⟩, ⟨(some 15), none, (.op false (.load1 .str (.tmp 14)))⟩, ⟨(some 16), none, (.op false (.lenStr (.tmp 15)))⟩, ⟨(some 17), none, (.op false (.old (.binOp .gtr 3 (.tmp 16) (.const (.int .i64 100)) 3)))⟩, ⟨(some 18), none, (.op false (.old (.move (.tmp 17))))⟩, ⟨(some 19), (some (18, false)), (.op false (.old (.move (.tmp 0))))⟩, ⟨(some 20), (some (18, false)), (.op false (.old (.move (.tmp 3))))⟩, ⟨(some 21), (some (18, false)), (.op false (.ixS 6 (.tmp 19) (.tmp 20)))⟩, ⟨(some 22), (some (18, false)), (.op false (.fieldAddr 2 (.tmp 21)))⟩, ⟨(some 23), (some (18, false)), (.op false (.load1 .slice (.tmp 22)))⟩, ⟨(some 24), (some (18, false)), (.op false (.lenS (.tmp 23)))⟩, ⟨(some 25), (some (18, false)), (.op false (.old (.binOp .gtr 3 (.tmp 24) (.const (.int .i64 10)) 3)))⟩, ⟨(some 26), none, (.op false (.old (.pick (.tmp 18) (.const (.bool true)) (.tmp 25))))⟩, ⟨(some 27), none, (.op false (.old (.move (.tmp 26))))⟩, ⟨(some 28), (some (27, false)), (.op false (.old (.move (.tmp 0))))⟩, ⟨(some 29), (some (27, false)), (.op false (.old (.move (.tmp 3))))⟩, ⟨(some 30), (some (27, false)), (.op false (.ixS 6 (.tmp 28) (.tmp 29)))⟩, ⟨(some 31), (some (27, false)), (.op false (.fieldAddr 4 (.tmp 30)))⟩, ⟨(some 32), (some (27, false)), (.op false (.load1 .slice (.tmp 31)))⟩, ⟨(some 33), (some (27, false)), (.op false (.lenS (.tmp 32)))⟩, ⟨(some 34), (some (27, false)), (.op false (.old (.binOp .gtr 3 (.tmp 33) (.const (.int .i64 300)) 3)))⟩, ⟨(some 35), none, (.op false (.old (.pick (.tmp 27) (.const (.bool true)) (.tmp 34))))⟩])
 (.cond (.tmp 35) (.seq (.reg (some []) [⟨(some 2), none, (.op false (.old (.assign (.const (.bool true)))))⟩])
 .ret)
 .skip))
 (.seq (.reg (some [0, 3]) [⟨(some 4), none, (.op false (.old (.assign (.const (.int .i64 0)))))⟩])
 (.block 2 (.loop 7 none (some [0, 3, 4]))))))
 (.reg (some [0, 3]) [⟨(some 9), none, (.op false (.old (.move (.tmp 3))))⟩, ⟨(some 10), none, (.op false (.old (.binOp .add 3 (.tmp 9) (.const (.int .i64 1)) 3)))⟩, ⟨(some 3), none, (.op false (.old (.assign (.tmp 10))))⟩])))⟩), (7, ⟨none, (some [0, 3, 4]), (.seq (.seq (.reg (some [0, 3, 4]) [⟨(some 36), none, (.op false (.old (.move (.tmp 4))))⟩, ⟨(some 37), none, (.op false (.old (.move (.tmp 0))))⟩, ⟨(some 38), none, (.op false (.old (.move (.tmp 3))))⟩, ⟨(some 39), none, (.op false (.ixS 6 (.tmp 37) (.tmp 38)))⟩, ⟨(some 40), none, (.op false (.fieldAddr 2 (.tmp 39)))⟩, ⟨(some 41), none, (.op false (.load1 .slice (.tmp 40)))⟩, ⟨(some 42), none, (.op false (.lenS (.tmp 41)))⟩, ⟨(some 43), none, (.op false (.old (.binOp .lss 3 (.tmp 36) (.tmp 42) 3)))⟩])
 (.cond (.tmp 43) .skip
 (.exit 2 (some [0, 3]))))
 (.seq (.block 3 (.seq (.reg (some [0, 3, 4]) [⟨(some 46), none, (.op false (.old (.move (.tmp 0))))⟩, ⟨(some 47), none, (.op false (.old (.move (.tmp 3))))⟩, ⟨(some 48), none, (.op false (.ixS 6 (.tmp 46) (.tmp 47)))⟩, ⟨(some 49), none, (.op false (.fieldAddr 2 (.tmp 48)))⟩, ⟨(some 50), none, (.op false (.load1 .slice (.tmp 49)))⟩, ⟨(some 51), none, (.op false (.old (.move (.tmp 4))))⟩, ⟨(some 52), none, (.op false (.ixS 1 (.tmp 50) (.tmp 51)))⟩, ⟨(some 53), none, (.op false (.load1 .str (.tmp 52)))⟩, ⟨(some 54), none, (.op false (.lenStr (.tmp 53)))⟩, ⟨(some 55), none, (.op false (.old (.binOp .gtr 3 (.tmp 54) (.const (.int .i64 100)) 3)))⟩])
 (.cond (.tmp 55) (.seq (.reg (some []) [⟨(some 2), none, (.op false (.old (.assign (.const (.bool true)))))⟩])
 .ret)
 .skip)))
 (.reg (some [0, 3, 4]) [⟨(some 44), none, (.op false (.old (.move (.tmp 4))))⟩, ⟨(some 45), none, (.op false (.old (.binOp .add 3 (.tmp 44) (.const (.int .i64 1)) 3)))⟩, ⟨(some 4), none, (.op false (.old (.assign (.tmp 45))))⟩])))⟩)],
 []⟩
theorem r11_ok : resFun (progU ()) hint live 11 Try.f11 = some r11 := by kernel_rfl
/-- fringeref44.Twin -/
def r12 : RFun :=
⟨(.seq (.reg (some [0]) [⟨(some 2), none, (.op false (.old (.assign (.const (.slice none 0 0)))))⟩])
 (.seq (.reg (some [0]) [⟨(some 3), none, (.op false (.old (.assign (.const (.slice none 0 0)))))⟩])
 (.seq (.seq (.reg (some [0, 3]) [⟨(some 4), none, (.op false (.old (.assign (.const (.int .i64 0)))))⟩])
 (.block 0 (.loop 3 (some [0, 3, 4]) (some [0, 3, 4]))))
 (.seq (.reg (some [3]) [⟨(some 36), none, (.op false (.old (.move (.tmp 3))))⟩, ⟨(some 2), none, (.op false (.old (.assign (.tmp 36))))⟩])
 .ret)))),
 [(.tmp 2)],
 [(3, ⟨(some [0, 3, 4]), (some [0, 3, 4]), (.seq (.seq (.reg (some [0, 3, 4]) [⟨(some 6), none, (.op false (.old (.move (.tmp 4))))⟩, ⟨(some 7), none, (.op false (.old (.move (.tmp 0))))⟩, ⟨(some 8), none, (.op false (.lenS (.tmp 7)))⟩, ⟨(some 9), none, (.op false (.old (.binOp .lss 3 (.tmp 6) (.tmp 8) 3)))⟩])
 (.cond (.tmp 9) .skip
 (.exit 0 (some [3]))))
 (.seq (.block 1 (.seq (.reg (some [0, 3, 4]) [⟨(some 12), none, (.op false (.old (.move (.tmp 0))))⟩, ⟨(some 13), none, (.op false (.old (.move (.tmp 4))))⟩, ⟨(some 14), none, (.op false (.ixS 6 (.tmp 12) (.tmp 13)))⟩, ⟨(some 15), none, (.op false (.load 6 [.str, (.int .u8), .slice, (.int .i64), .slice, (.int .i64)] (.tmp 14)))⟩, ⟨(some 5), none, (.op true (.new 6 [(.string ⟨#[]⟩), (.int .u8 0), (.slice none 0 0), (.int .i64 0), (.slice none 0 0), (.int .i64 0)]))⟩, ⟨none, none, (.op false (.store 6 (.tmp 5) (.tmp 15)))⟩])
 (.seq (.reg (some [0, 3, 4, 5]) [⟨(some 16), none, (.op false (.buildSlice 1 0 [] []))⟩, ⟨(some 17), none, (.op false (.old (.move (.tmp 0))))⟩, ⟨(some 18), none, (.op false (.old (.move (.tmp 4))))⟩, ⟨(some 19), none, (.op false (.ixS 6 (.tmp 17) (.tmp 18)))⟩, ⟨(some 20), none, (.op false (.fieldAddr 2 (.tmp 19)))⟩, ⟨(some 21), none, (.op false (.load1 .slice (.tmp 20)))⟩, ⟨(some 22), none, (.op false (.old (.call ⟨.builtin .append, #[(.tmp 16), (.tmp 21)], #[35, 35]⟩)))⟩, ⟨(some 23), none, (.op false (.fieldAddr 2 (.tmp 5)))⟩, ⟨none, none, (.op false (.store 1 (.tmp 23) (.tmp 22)))⟩])
 (.seq (.reg (some [0, 3, 4, 5]) [⟨(some 24), none, (.op false (.buildSlice 1 0 [] []))⟩, ⟨(some 25), none, (.op false (.old (.move (.tmp 0))))⟩, ⟨(some 26), none, (.op false (.old (.move (.tmp 4))))⟩, ⟨(some 27), none, (.op false (.ixS 6 (.tmp 25) (.tmp 26)))⟩, ⟨(some 28), none, (.op false (.fieldAddr 4 (.tmp 27)))⟩, ⟨(some 29), none, (.op false (.load1 .slice (.tmp 28)))⟩, ⟨(some 30), none, (.op false (.old (.call ⟨.builtin .append, #[(.tmp 24), (.tmp 29)], #[23, 23]⟩)))⟩, ⟨(some 31), none, (.op false (.fieldAddr 4 (.tmp 5)))⟩, ⟨none, none, (.op false (.store 1 (.tmp 31) (.tmp 30)))⟩])
 (.reg (some [0, 3, 4, 5]) [⟨(some 32), none, (.op false (.old (.move (.tmp 3))))⟩, ⟨(some 33), none, (.op false (.load 6 [.str, (.int .u8), .slice, (.int .i64), .slice, (.int .i64)] (.tmp 5)))⟩, ⟨(some 34), none, (.op false (.buildSlice 6 1 [(.string ⟨#[]⟩), (.int .u8 0), (.slice none 0 0), (.int .i64 0), (.slice none 0 0), (.int .i64 0)] [(0, 6, (.tmp 33))]))⟩, ⟨(some 35), none, (.op false (.old (.call ⟨.builtin .append, #[(.tmp 32), (.tmp 34)], #[22, 22]⟩)))⟩, ⟨(some 3), none, (.op false (.old (.assign (.tmp 35))))⟩])))))
 (.reg (some [0, 3, 4]) [⟨(some 10), none, (.op false (.old (.move (.tmp 4))))⟩, ⟨(some 11), none, (.op false (.old (.binOp .add 3 (.tmp 10) (.const (.int .i64 1)) 3)))⟩, ⟨(some 4), none, (.op false (.old (.assign (.tmp 11))))⟩])))⟩)],
 []⟩
theorem r12_ok : resFun (progU ()) hint live 12 Try.f12 = some r12 := by kernel_rfl
/-- origin.Make -/
def r13 : RFun :=
⟨(.seq (.reg (some [0, 1]) [⟨(some 4), none, (.op false (.old (.assign (.const (.slice none 0 0)))))⟩, ⟨(some 5), none, (.op false (.old (.assign (.const (.int .i64 0)))))⟩])
 (.seq (.reg (some [0, 1]) [⟨(some 11), none, (.op false (.old (.move (.tmp 0))))⟩, ⟨(some 12), none, (.call (.func 36) [(.tmp 11)] (some (.tup [(.one .any), (.one (.int .i64))])))⟩, ⟨(some 10), none, (.op false (.old (.move (.tmp 12))))⟩, ⟨(some 13), none, (.op false (.old (.extract (.tmp 10) 0)))⟩, ⟨(some 14), none, (.op false (.old (.extract (.tmp 10) 1)))⟩, ⟨(some 6), none, (.op false (.old (.assign (.tmp 13))))⟩, ⟨(some 7), none, (.op false (.old (.assign (.tmp 14))))⟩])
 (.seq (.seq (.reg (some [1, 6, 7]) [⟨(some 15), none, (.op false (.old (.move (.tmp 7))))⟩, ⟨(some 16), none, (.op false (.old (.binOp .neq 26 (.tmp 15) (.const (.int .i64 0)) 26)))⟩])
 (.cond (.tmp 16) (.seq (.reg (some [7]) [⟨(some 17), none, (.op false (.old (.move (.tmp 7))))⟩, ⟨(some 4), none, (.op false (.old (.assign (.const (.slice none 0 0)))))⟩, ⟨(some 5), none, (.op false (.old (.assign (.tmp 17))))⟩])
 .ret)
 .skip))
 (.seq (.reg (some [1, 6]) [⟨(some 19), none, (.op false (.old (.move (.tmp 6))))⟩, ⟨(some 20), none, (.op false (.old (.move (.tmp 1))))⟩, ⟨(some 21), none, (.op false (.old (.lookup 63 (.tmp 19) (.tmp 20) true)))⟩, ⟨(some 18), none, (.op false (.old (.move (.tmp 21))))⟩, ⟨(some 22), none, (.op false (.old (.extract (.tmp 18) 0)))⟩, ⟨(some 23), none, (.op false (.old (.extract (.tmp 18) 1)))⟩, ⟨(some 8), none, (.op false (.old (.assign (.tmp 22))))⟩, ⟨(some 9), none, (.op false (.old (.assign (.tmp 23))))⟩])
 (.seq (.seq (.reg (some [8, 9]) [⟨(some 24), none, (.op false (.old (.move (.tmp 9))))⟩, ⟨(some 25), none, (.op false (.old (.unOp .not 4 (.tmp 24))))⟩])
 (.cond (.tmp 25) (.seq (.reg (some []) [⟨(some 4), none, (.op false (.old (.assign (.const (.slice none 0 0)))))⟩, ⟨(some 5), none, (.op false (.old (.assign (.const (.int .i64 6)))))⟩])
 .ret)
 .skip))
 (.seq (.reg (some [8]) [⟨(some 26), none, (.op false (.old (.move (.tmp 8))))⟩, ⟨(some 4), none, (.op false (.old (.assign (.tmp 26))))⟩, ⟨(some 5), none, (.op false (.old (.assign (.const (.int .i64 0)))))⟩])
 .ret)))))),
 [(.tmp 4), (.tmp 5)],
 [],
 []⟩
theorem r13_ok : resFun (progU ()) hint live 13 Try.f13 = some r13 := by kernel_rfl
/-- fringeref44.Make -/
def r14 : RFun :=
⟨(.seq (.reg (some [0, 1]) [⟨(some 4), none, (.op false (.old (.assign (.const (.slice none 0 0)))))⟩, ⟨(some 5), none, (.op false (.old (.assign (.const (.int .i64 0)))))⟩])
 (.seq (.reg (some [0, 1]) [⟨(some 10), none, (.op false (.old (.move (.tmp 0))))⟩, ⟨(some 11), none, (.call (.func 37) [(.tmp 10)] (some (.tup [(.one .slice), (.one (.int .i64))])))⟩, ⟨(some 9), none, (.op false (.old (.move (.tmp 11))))⟩, ⟨(some 12), none, (.op false (.old (.extract (.tmp 9) 0)))⟩, ⟨(some 13), none, (.op false (.old (.extract (.tmp 9) 1)))⟩, ⟨(some 6), none, (.op false (.old (.assign (.tmp 12))))⟩, ⟨(some 7), none, (.op false (.old (.assign (.tmp 13))))⟩])
 (.seq (.seq (.reg (some [0, 1, 6, 7]) [⟨(some 14), none, (.op false (.old (.move (.tmp 7))))⟩, ⟨(some 15), none, (.op false (.old (.binOp .neq 3 (.tmp 14) (.const (.int .i64 0)) 3)))⟩])
 (.cond (.tmp 15) (.seq (.reg (some [7]) [⟨(some 16), none, (.op false (.old (.move (.tmp 7))))⟩, ⟨(some 4), none, (.op false (.old (.assign (.const (.slice none 0 0)))))⟩, ⟨(some 5), none, (.op false (.old (.assign (.tmp 16))))⟩])
 .ret)
 .skip))
 (.seq (.reg (some [0, 1, 6]) [⟨(some 17), none, (.op false (.old (.move (.tmp 0))))⟩, ⟨(some 18), none, (.op false (.old (.move (.tmp 1))))⟩, ⟨(some 19), none, (.call (.func 32) [(.tmp 17), (.tmp 18)] (some (.val (.one (.int .i64)))))⟩, ⟨(some 8), none, (.op false (.old (.assign (.tmp 19))))⟩])
 (.seq (.seq (.reg (some [6, 8]) [⟨(some 20), none, (.op false (.old (.move (.tmp 8))))⟩, ⟨(some 21), none, (.op false (.old (.binOp .lss 3 (.tmp 20) (.const (.int .i64 0)) 3)))⟩])
 (.cond (.tmp 21) (.seq (.reg (some []) [⟨(some 4), none, (.op false (.old (.assign (.const (.slice none 0 0)))))⟩, ⟨(some 5), none, (.op false (.old (.assign (.const (.int .i64 6)))))⟩])
 .ret)
 .skip))
 (.seq (.reg (some [6, 8]) [⟨(some 22), none, (.op false (.old (.move (.tmp 6))))⟩, ⟨(some 23), none, (.op false (.old (.move (.tmp 8))))⟩, ⟨(some 24), none, (.op false (.ixS 1 (.tmp 22) (.tmp 23)))⟩, ⟨(some 25), none, (.op false (.load1 .slice (.tmp 24)))⟩, ⟨(some 4), none, (.op false (.old (.assign (.tmp 25))))⟩, ⟨(some 5), none, (.op false (.old (.assign (.const (.int .i64 0)))))⟩])
 .ret)))))),
 [(.tmp 4), (.tmp 5)],
 [],
 []⟩
theorem r14_ok : resFun (progU ()) hint live 14 Try.f14 = some r14 := by kernel_rfl
/-- origin.Note -/
def r15 : RFun :=
⟨(.seq (.reg (some [0]) [⟨(some 2), none, (.op false (.old (.assign (.const (.slice none 0 0)))))⟩, ⟨(some 3), none, (.op false (.old (.assign (.const (.int .i64 0)))))⟩])
 (.seq (.reg (some [0]) [⟨(some 10), none, (.op false (.old (.move (.tmp 0))))⟩, ⟨(some 11), none, (.call (.func 36) [(.tmp 10)] (some (.tup [(.one .any), (.one (.int .i64))])))⟩, ⟨(some 9), none, (.op false (.old (.move (.tmp 11))))⟩, ⟨(some 12), none, (.op false (.old (.extract (.tmp 9) 0)))⟩, ⟨(some 13), none, (.op false (.old (.extract (.tmp 9) 1)))⟩, ⟨(some 4), none, (.op false (.old (.assign (.tmp 12))))⟩, ⟨(some 5), none, (.op false (.old (.assign (.tmp 13))))⟩])
 (.seq (.seq (.reg (some [0, 4, 5]) [⟨(some 14), none, (.op false (.old (.move (.tmp 5))))⟩, ⟨(some 15), none, (.op false (.old (.binOp .neq 26 (.tmp 14) (.const (.int .i64 0)) 26)))⟩])
 (.cond (.tmp 15) (.seq (.reg (some [5]) [⟨(some 16), none, (.op false (.old (.move (.tmp 5))))⟩, ⟨(some 2), none, (.op false (.old (.assign (.const (.slice none 0 0)))))⟩, ⟨(some 3), none, (.op false (.old (.assign (.tmp 16))))⟩])
 .ret)
 .skip))
 (.seq (.reg (some [0, 4]) [⟨(some 17), none, (.op false (.old (.move (.tmp 0))))⟩, ⟨(some 18), none, (.op false (.lenS (.tmp 17)))⟩, ⟨(some 19), none, (.op false (.mkSlice 6 [(.string ⟨#[]⟩), (.int .u8 0), (.slice none 0 0), (.int .i64 0), (.slice none 0 0), (.int .i64 0)] (.tmp 18) (.tmp 18)))⟩, ⟨(some 6), none, (.op false (.old (.assign (.tmp 19))))⟩])
 (.seq (.seq (.reg (some [0, 4, 6]) [⟨(some 20), none, (.op false (.old (.move (.tmp 0))))⟩, ⟨(some 21), none, (.op false (.lenS (.tmp 20)))⟩, ⟨(some 22), none, (.op false (.old (.move (.const (.int .i64 0)))))⟩])
 (.block 0 (.loop 6 (some [4, 6, 20, 21, 22]) (some [4, 6, 20, 21, 22]))))
 (.seq (.reg (some [6]) [⟨(some 46), none, (.op false (.old (.move (.tmp 6))))⟩, ⟨(some 2), none, (.op false (.old (.assign (.tmp 46))))⟩, ⟨(some 3), none, (.op false (.old (.assign (.const (.int .i64 0)))))⟩])
 .ret)))))),
 [(.tmp 2), (.tmp 3)],
 [(6, ⟨(some [4, 6, 20, 21, 22]), (some [4, 6, 20, 21, 22]), (.seq (.reg (some [4, 6, 20, 21, 22]) [⟨(some 23), none, (.op false (.old (.binOp .lss 3 (.tmp 22) (.tmp 21) 3)))⟩])
 (.seq (.cond (.tmp 23) .skip
 (.exit 0 (some [6])))
 (.seq (.block 1 (.seq (.reg (some [4, 6, 20, 21, 22]) [⟨(some 24), none, (.op false (.old (.move (.tmp 22))))⟩, ⟨(some 25), none, (.op false (.ixS 6 (.tmp 20) (.tmp 22)))⟩, ⟨(some 26), none, (.op false (.load 6 [.str, (.int .u8), .slice, (.int .i64), .slice, (.int .i64)] (.tmp 25)))⟩, ⟨(some 8), none, (.op true (.new 6 [(.string ⟨#[]⟩), (.int .u8 0), (.slice none 0 0), (.int .i64 0), (.slice none 0 0), (.int .i64 0)]))⟩, ⟨(some 7), none, (.op false (.old (.assign (.tmp 24))))⟩, ⟨none, none, (.op false (.store 6 (.tmp 8) (.tmp 26)))⟩])
 (.seq (.reg (some [4, 6, 7, 8, 20, 21, 22]) [⟨(some 27), none, (.op false (.fieldAddr 2 (.tmp 8)))⟩, ⟨(some 28), none, (.op false (.load1 .slice (.tmp 27)))⟩, ⟨(some 29), none, (.op false (.old (.call ⟨.builtin .append, #[(.const (.slice none 0 0)), (.tmp 28)], #[35, 35]⟩)))⟩, ⟨(some 30), none, (.op false (.fieldAddr 2 (.tmp 8)))⟩, ⟨none, none, (.op false (.store 1 (.tmp 30) (.tmp 29)))⟩])
 (.seq (.reg (some [4, 6, 7, 8, 20, 21, 22]) [⟨(some 31), none, (.op false (.fieldAddr 4 (.tmp 8)))⟩, ⟨(some 32), none, (.op false (.load1 .slice (.tmp 31)))⟩, ⟨(some 33), none, (.op false (.old (.call ⟨.builtin .append, #[(.const (.slice none 0 0)), (.tmp 32)], #[23, 23]⟩)))⟩, ⟨(some 34), none, (.op false (.fieldAddr 4 (.tmp 8)))⟩, ⟨none, none, (.op false (.store 1 (.tmp 34) (.tmp 33)))⟩])
 (.seq (.reg (some [4, 6, 7, 8, 20, 21, 22]) [⟨(some 35), none, (.op false (.old (.move (.tmp 4))))⟩, ⟨(some 36), none, (.op false (.fieldAddr 0 (.tmp 8)))⟩, ⟨(some 37), none, (.op false (.load1 .str (.tmp 36)))⟩, ⟨(some 38), none, (.op false (.old (.lookup 63 (.tmp 35) (.tmp 37) false)))⟩, ⟨(some 39), none, (.call (.func 19) [(.tmp 38)] (some (.val (.one (.int .i64)))))⟩, ⟨(some 40), none, (.op false (.fieldAddr 5 (.tmp 8)))⟩, ⟨none, none, (.op false (.store 1 (.tmp 40) (.tmp 39)))⟩])
 (.reg (some [4, 6, 7, 8, 20, 21, 22]) [⟨(some 41), none, (.op false (.old (.move (.tmp 6))))⟩, ⟨(some 42), none, (.op false (.old (.move (.tmp 7))))⟩, ⟨(some 43), none, (.op false (.load 6 [.str, (.int .u8), .slice, (.int .i64), .slice, (.int .i64)] (.tmp 8)))⟩, ⟨(some 44), none, (.op false (.ixS 6 (.tmp 41) (.tmp 42)))⟩, ⟨none, none, (.op false (.store 6 (.tmp 44) (.tmp 43)))⟩]))))))
 (.reg (some [4, 6, 20, 21, 22]) [⟨(some 45), none, (.op false (.old (.binOp .add 3 (.tmp 22) (.const (.int .i64 1)) 3)))⟩, ⟨(some 22), none, (.op false (.old (.move (.tmp 45))))⟩]))))⟩)],
 []⟩
theorem r15_ok : resFun (progU ()) hint live 15 Try.f15 = some r15 := by kernel_rfl
/-- fringeref44.Note -/
def r16 : RFun :=
⟨(.seq (.reg (some [0]) [⟨(some 2), none, (.op false (.old (.assign (.const (.slice none 0 0)))))⟩, ⟨(some 3), none, (.op false (.old (.assign (.const (.int .i64 0)))))⟩])
 (.seq (.reg (some [0]) [⟨(some 9), none, (.op false (.old (.move (.tmp 0))))⟩, ⟨(some 10), none, (.call (.func 37) [(.tmp 9)] (some (.tup [(.one .slice), (.one (.int .i64))])))⟩, ⟨(some 8), none, (.op false (.old (.move (.tmp 10))))⟩, ⟨(some 11), none, (.op false (.old (.extract (.tmp 8) 0)))⟩, ⟨(some 12), none, (.op false (.old (.extract (.tmp 8) 1)))⟩, ⟨(some 4), none, (.op false (.old (.assign (.tmp 11))))⟩, ⟨(some 5), none, (.op false (.old (.assign (.tmp 12))))⟩])
 (.seq (.seq (.reg (some [0, 4, 5]) [⟨(some 13), none, (.op false (.old (.move (.tmp 5))))⟩, ⟨(some 14), none, (.op false (.old (.binOp .neq 3 (.tmp 13) (.const (.int .i64 0)) 3)))⟩])
 (.cond (.tmp 14) (.seq (.reg (some [5]) [⟨(some 15), none, (.op false (.old (.move (.tmp 5))))⟩, ⟨(some 2), none, (.op false (.old (.assign (.const (.slice none 0 0)))))⟩, ⟨(some 3), none, (.op false (.old (.assign (.tmp 15))))⟩])
 .ret)
 .skip))
 (.seq (.reg (some [0, 4]) [⟨(some 16), none, (.op false (.old (.move (.tmp 0))))⟩, ⟨(some 17), none, (.call (.func 12) [(.tmp 16)] (some (.val (.one .slice))))⟩, ⟨(some 6), none, (.op false (.old (.assign (.tmp 17))))⟩])
 (.seq (.seq (.reg (some [4, 6]) [⟨(some 7), none, (.op false (.old (.assign (.const (.int .i64 0)))))⟩])
 (.block 0 (.loop 6 none (some [4, 6, 7]))))
 (.seq (.reg (some [6]) [⟨(some 33), none, (.op false (.old (.move (.tmp 6))))⟩, ⟨(some 2), none, (.op false (.old (.assign (.tmp 33))))⟩, ⟨(some 3), none, (.op false (.old (.assign (.const (.int .i64 0)))))⟩])
 .ret)))))),
 [(.tmp 2), (.tmp 3)],
 [(6, ⟨none, (some [4, 6, 7]), (.seq (.seq (.reg (some [4, 6, 7]) [⟨(some 18), none, (.op false (.old (.move (.tmp 7))))⟩, ⟨(some 19), none, (.op false (.old (.move (.tmp 6))))⟩, ⟨(some 20), none, (.op false (.lenS (.tmp 19)))⟩, ⟨(some 21), none, (.op false (.old (.binOp .lss 3 (.tmp 18) (.tmp 20) 3)))⟩])
 (.cond (.tmp 21) .skip
 (.exit 0 (some [6]))))
 (.seq (.block 1 (.reg (some [4, 6, 7]) [⟨(some 24), none, (.op false (.old (.move (.tmp 6))))⟩, ⟨(some 25), none, (.op false (.old (.move (.tmp 7))))⟩, ⟨(some 26), none, (.op false (.old (.move (.tmp 4))))⟩, ⟨(some 27), none, (.op false (.old (.move (.tmp 7))))⟩, ⟨(some 28), none, (.op false (.ixS 1 (.tmp 26) (.tmp 27)))⟩, ⟨(some 29), none, (.op false (.load1 .slice (.tmp 28)))⟩, ⟨(some 30), none, (.call (.func 20) [(.tmp 29)] (some (.val (.one (.int .i64)))))⟩, ⟨(some 31), none, (.op false (.ixS 6 (.tmp 24) (.tmp 25)))⟩, ⟨(some 32), none, (.op false (.fieldAddr 5 (.tmp 31)))⟩, ⟨none, none, (.op false (.store 1 (.tmp 32) (.tmp 30)))⟩]))
 (.reg (some [4, 6, 7]) [⟨(some 22), none, (.op false (.old (.move (.tmp 7))))⟩, ⟨(some 23), none, (.op false (.old (.binOp .add 3 (.tmp 22) (.const (.int .i64 1)) 3)))⟩, ⟨(some 7), none, (.op false (.old (.assign (.tmp 23))))⟩])))⟩)],
 []⟩
theorem r16_ok : resFun (progU ()) hint live 16 Try.f16 = some r16 := by kernel_rfl
/-- origin.Verify -/
def r17 : RFun :=
⟨(.seq (.reg (some [0]) [⟨(some 2), none, (.op false (.old (.assign (.const (.slice none 0 0)))))⟩, ⟨(some 3), none, (.op false (.old (.assign (.const (.int .i64 0)))))⟩])
 (.seq (.reg (some [0]) [⟨(some 10), none, (.op false (.old (.move (.tmp 0))))⟩, ⟨(some 11), none, (.call (.func 36) [(.tmp 10)] (some (.tup [(.one .any), (.one (.int .i64))])))⟩, ⟨(some 9), none, (.op false (.old (.move (.tmp 11))))⟩, ⟨(some 12), none, (.op false (.old (.extract (.tmp 9) 0)))⟩, ⟨(some 13), none, (.op false (.old (.extract (.tmp 9) 1)))⟩, ⟨(some 4), none, (.op false (.old (.assign (.tmp 12))))⟩, ⟨(some 5), none, (.op false (.old (.assign (.tmp 13))))⟩])
 (.seq (.seq (.reg (some [0, 4, 5]) [⟨(some 14), none, (.op false (.old (.move (.tmp 5))))⟩, ⟨(some 15), none, (.op false (.old (.binOp .neq 26 (.tmp 14) (.const (.int .i64 0)) 26)))⟩])
 (.cond (.tmp 15) (.seq (.reg (some [5]) [⟨(some 16), none, (.op false (.old (.move (.tmp 5))))⟩, ⟨(some 2), none, (.op false (.old (.assign (.const (.slice none 0 0)))))⟩, ⟨(some 3), none, (.op false (.old (.assign (.tmp 16))))⟩])
 .ret)
 .skip))
 (.seq (.reg (some [0, 4]) [⟨(some 6), none, (.op false (.old (.assign (.const (.slice none 0 0)))))⟩])
 (.seq (.seq (.reg (some [0, 4, 6]) [⟨(some 17), none, (.op false (.old (.move (.tmp 0))))⟩, ⟨(some 18), none, (.op false (.lenS (.tmp 17)))⟩, ⟨(some 19), none, (.op false (.old (.move (.const (.int .i64 0)))))⟩])
 (.block 0 (.loop 6 (some [4, 6, 17, 18, 19]) (some [4, 6, 17, 18, 19]))))
 (.seq (.reg (some [6]) [⟨(some 37), none, (.op false (.old (.move (.tmp 6))))⟩, ⟨(some 2), none, (.op false (.old (.assign (.tmp 37))))⟩, ⟨(some 3), none, (.op false (.old (.assign (.const (.int .i64 0)))))⟩])
 .ret)))))),
 [(.tmp 2), (.tmp 3)],
 [(6, ⟨(some [4, 6, 17, 18, 19]), (some [4, 6, 17, 18, 19]), (.seq (.reg (some [4, 6, 17, 18, 19]) [⟨(some 20), none, (.op false (.old (.binOp .lss 3 (.tmp 19) (.tmp 18) 3)))⟩])
 (.seq (.cond (.tmp 20) .skip
 (.exit 0 (some [6])))
 (.seq (.block 1 (.seq (.reg (some [4, 6, 17, 18, 19]) [⟨(some 21), none, (.op false (.ixS 6 (.tmp 17) (.tmp 19)))⟩, ⟨(some 22), none, (.op false (.load 6 [.str, (.int .u8), .slice, (.int .i64), .slice, (.int .i64)] (.tmp 21)))⟩, ⟨(some 8), none, (.op true (.new 6 [(.string ⟨#[]⟩), (.int .u8 0), (.slice none 0 0), (.int .i64 0), (.slice none 0 0), (.int .i64 0)]))⟩, ⟨none, none, (.op false (.store 6 (.tmp 8) (.tmp 22)))⟩])
 (.seq (.draw (some [4, 6, 8, 17, 18, 19]) 8 [⟨⟨(some 23), none, (.op false (.fieldAddr 5 (.tmp 8)))⟩, 0, .none, [1, 7], false, true⟩, ⟨⟨(some 24), none, (.op false (.load1 (.int .i64) (.tmp 23)))⟩, 1, (.blk (.tmp 23)), [7], false, true⟩, ⟨⟨(some 25), none, (.op false (.old (.move (.tmp 4))))⟩, 2, .none, [5, 6, 7], false, true⟩, ⟨⟨(some 26), none, (.op false (.fieldAddr 0 (.tmp 8)))⟩, 3, .none, [4, 5, 6, 7], false, true⟩, ⟨⟨(some 27), none, (.op false (.load1 .str (.tmp 26)))⟩, 4, (.blk (.tmp 26)), [5, 6, 7], false, true⟩, ⟨⟨(some 28), none, (.op false (.old (.lookup 63 (.tmp 25) (.tmp 27) false)))⟩, 5, .all, [6, 7], false, false⟩, ⟨⟨(some 29), none, (.call (.func 19) [(.tmp 28)] (some (.val (.one (.int .i64)))))⟩, 6, .all, [7], false, false⟩, ⟨⟨(some 30), none, (.op false (.old (.binOp .neq 3 (.tmp 24) (.tmp 29) 3)))⟩, 7, .none, [], false, true⟩])
 (.cond (.tmp 30) (.reg (some [4, 6, 8, 17, 18, 19]) [⟨(some 31), none, (.op false (.old (.move (.tmp 6))))⟩, ⟨(some 32), none, (.op false (.fieldAddr 0 (.tmp 8)))⟩, ⟨(some 33), none, (.op false (.load1 .str (.tmp 32)))⟩, ⟨(some 34), none, (.op false (.buildSlice 1 1 [(.string ⟨#[]⟩)] [(0, 1, (.tmp 33))]))⟩, ⟨(some 35), none, (.op false (.old (.call ⟨.builtin .append, #[(.tmp 31), (.tmp 34)], #[35, 35]⟩)))⟩, ⟨(some 6), none, (.op false (.old (.assign (.tmp 35))))⟩])
 .skip))))
 (.reg (some [4, 6, 17, 18, 19]) [⟨(some 36), none, (.op false (.old (.binOp .add 3 (.tmp 19) (.const (.int .i64 1)) 3)))⟩, ⟨(some 19), none, (.op false (.old (.move (.tmp 36))))⟩]))))⟩)],
 []⟩
theorem r17_ok : resFun (progU ()) hint live 17 Try.f17 = some r17 := by kernel_rfl
/-- fringeref44.Verify -/
def r18 : RFun :=
⟨(.seq (.reg (some [0]) [⟨(some 2), none, (.op false (.old (.assign (.const (.slice none 0 0)))))⟩, ⟨(some 3), none, (.op false (.old (.assign (.const (.int .i64 0)))))⟩])
 (.seq (.reg (some [0]) [⟨(some 9), none, (.op false (.old (.move (.tmp 0))))⟩, ⟨(some 10), none, (.call (.func 37) [(.tmp 9)] (some (.tup [(.one .slice), (.one (.int .i64))])))⟩, ⟨(some 8), none, (.op false (.old (.move (.tmp 10))))⟩, ⟨(some 11), none, (.op false (.old (.extract (.tmp 8) 0)))⟩, ⟨(some 12), none, (.op false (.old (.extract (.tmp 8) 1)))⟩, ⟨(some 4), none, (.op false (.old (.assign (.tmp 11))))⟩, ⟨(some 5), none, (.op false (.old (.assign (.tmp 12))))⟩])
 (.seq (.seq (.reg (some [0, 4, 5]) [⟨(some 13), none, (.op false (.old (.move (.tmp 5))))⟩, ⟨(some 14), none, (.op false (.old (.binOp .neq 3 (.tmp 13) (.const (.int .i64 0)) 3)))⟩])
 (.cond (.tmp 14) (.seq (.reg (some [5]) [⟨(some 15), none, (.op false (.old (.move (.tmp 5))))⟩, ⟨(some 2), none, (.op false (.old (.assign (.const (.slice none 0 0)))))⟩, ⟨(some 3), none, (.op false (.old (.assign (.tmp 15))))⟩])
 .ret)
 .skip))
 (.seq (.reg (some [0, 4]) [⟨(some 6), none, (.op false (.old (.assign (.const (.slice none 0 0)))))⟩])
 (.seq (.seq (.reg (some [0, 4, 6]) [⟨(some 7), none, (.op false (.old (.assign (.const (.int .i64 0)))))⟩])
 (.block 0 (.loop 6 (some [0, 4, 6, 7]) (some [0, 4, 6, 7]))))
 (.seq (.reg (some [6]) [⟨(some 41), none, (.op false (.old (.move (.tmp 6))))⟩, ⟨(some 2), none, (.op false (.old (.assign (.tmp 41))))⟩, ⟨(some 3), none, (.op false (.old (.assign (.const (.int .i64 0)))))⟩])
 .ret)))))),
 [(.tmp 2), (.tmp 3)],
 [(6, ⟨(some [0, 4, 6, 7]), (some [0, 4, 6, 7]), (.seq (.seq (.reg (some [0, 4, 6, 7]) [⟨(some 16), none, (.op false (.old (.move (.tmp 7))))⟩, ⟨(some 17), none, (.op false (.old (.move (.tmp 0))))⟩, ⟨(some 18), none, (.op false (.lenS (.tmp 17)))⟩, ⟨(some 19), none, (.op false (.old (.binOp .lss 3 (.tmp 16) (.tmp 18) 3)))⟩])
 (.cond (.tmp 19) .skip
 (.exit 0 (some [6]))))
 (.seq (.block 1 (.seq (.draw (some [0, 4, 6, 7]) 11 [⟨⟨(some 22), none, (.op false (.old (.move (.tmp 4))))⟩, 0, .none, [2, 3, 4, 10], false, true⟩, ⟨⟨(some 23), none, (.op false (.old (.move (.tmp 7))))⟩, 1, .none, [2, 3, 4, 10], false, true⟩, ⟨⟨(some 24), none, (.op false (.ixS 1 (.tmp 22) (.tmp 23)))⟩, 2, .none, [3, 4, 10], false, true⟩, ⟨⟨(some 25), none, (.op false (.load1 .slice (.tmp 24)))⟩, 3, (.blk (.tmp 24)), [4, 10], false, true⟩, ⟨⟨(some 27), none, (.op false (.old (.move (.tmp 0))))⟩, 5, .none, [7, 8, 9, 10], false, true⟩, ⟨⟨(some 28), none, (.op false (.old (.move (.tmp 7))))⟩, 6, .none, [7, 8, 9, 10], false, true⟩, ⟨⟨(some 29), none, (.op false (.ixS 6 (.tmp 27) (.tmp 28)))⟩, 7, .none, [8, 9, 10], false, true⟩, ⟨⟨(some 30), none, (.op false (.fieldAddr 5 (.tmp 29)))⟩, 8, .none, [9, 10], false, true⟩, ⟨⟨(some 31), none, (.op false (.load1 (.int .i64) (.tmp 30)))⟩, 9, (.blk (.tmp 30)), [10], false, true⟩, ⟨⟨(some 26), none, (.call (.func 20) [(.tmp 25)] (some (.val (.one (.int .i64)))))⟩, 4, .all, [10], false, false⟩, ⟨⟨(some 32), none, (.op false (.old (.binOp .neq 3 (.tmp 26) (.tmp 31) 3)))⟩, 10, .none, [], false, true⟩])
 (.cond (.tmp 32) (.reg (some [0, 4, 6, 7]) [⟨(some 33), none, (.op false (.old (.move (.tmp 6))))⟩, ⟨(some 34), none, (.op false (.old (.move (.tmp 0))))⟩, ⟨(some 35), none, (.op false (.old (.move (.tmp 7))))⟩, ⟨(some 36), none, (.op false (.ixS 6 (.tmp 34) (.tmp 35)))⟩, ⟨(some 37), none, (.op false (.fieldAddr 0 (.tmp 36)))⟩, ⟨(some 38), none, (.op false (.load1 .str (.tmp 37)))⟩, ⟨(some 39), none, (.op false (.buildSlice 1 1 [(.string ⟨#[]⟩)] [(0, 1, (.tmp 38))]))⟩, ⟨(some 40), none, (.op false (.old (.call ⟨.builtin .append, #[(.tmp 33), (.tmp 39)], #[35, 35]⟩)))⟩, ⟨(some 6), none, (.op false (.old (.assign (.tmp 40))))⟩])
 .skip)))
 (.reg (some [0, 4, 6, 7]) [⟨(some 20), none, (.op false (.old (.move (.tmp 7))))⟩, ⟨(some 21), none, (.op false (.old (.binOp .add 3 (.tmp 20) (.const (.int .i64 1)) 3)))⟩, ⟨(some 7), none, (.op false (.old (.assign (.tmp 21))))⟩])))⟩)],
 []⟩
theorem r18_ok : resFun (progU ()) hint live 18 Try.f18 = some r18 := by kernel_rfl
/-- origin.Digest -/
def r19 : RFun :=
⟨(.seq (.reg (some [0]) [⟨(some 2), none, (.op false (.old (.assign (.const (.int .i64 0)))))⟩])
 (.seq (.reg (some [0]) [⟨(some 3), none, (.op false (.old (.assign (.const (.int .i64 0)))))⟩])
 (.seq (.seq (.reg (some [0, 3]) [⟨(some 6), none, (.op false (.old (.move (.tmp 0))))⟩, ⟨(some 7), none, (.op false (.lenS (.tmp 6)))⟩, ⟨(some 8), none, (.op false (.old (.move (.const (.int .i64 0)))))⟩])
 (.block 0 (.loop 3 none (some [3, 6, 7, 8]))))
 (.seq (.reg (some [3]) [⟨(some 20), none, (.op false (.old (.move (.tmp 3))))⟩, ⟨(some 2), none, (.op false (.old (.assign (.tmp 20))))⟩])
 .ret)))),
 [(.tmp 2)],
 [(3, ⟨none, (some [3, 6, 7, 8]), (.seq (.reg (some [3, 6, 7, 8]) [⟨(some 9), none, (.op false (.old (.binOp .lss 3 (.tmp 8) (.tmp 7) 3)))⟩])
 (.seq (.cond (.tmp 9) .skip
 (.exit 0 (some [3])))
 (.seq (.block 1 (.seq (.reg (some [3, 6, 7, 8]) [⟨(some 10), none, (.op false (.ixS 1 (.tmp 6) (.tmp 8)))⟩, ⟨(some 11), none, (.op false (.load1 (.int .u8) (.tmp 10)))⟩, ⟨(some 5), none, (.op false (.old (.assign (.tmp 11))))⟩])
 (.reg (some [3, 5, 6, 7, 8]) [⟨(some 12), none, (.op false (.old (.move (.tmp 3))))⟩, ⟨(some 13), none, (.op false (.old (.binOp .mul 2 (.const (.int .i64 257)) (.tmp 12) 2)))⟩, ⟨(some 14), none, (.op false (.old (.move (.tmp 5))))⟩, ⟨(some 15), none, (.op false (.convI .i64 (.tmp 14)))⟩, ⟨(some 16), none, (.op false (.old (.binOp .add 2 (.tmp 13) (.tmp 15) 2)))⟩, ⟨(some 17), none, (.op false (.old (.binOp .add 2 (.tmp 16) (.const (.int .i64 1)) 2)))⟩, ⟨(some 18), none, (.op false (.old (.binOp .rem 2 (.tmp 17) (.const (.int .i64 1000000007)) 2)))⟩, ⟨(some 3), none, (.op false (.old (.assign (.tmp 18))))⟩])))
 (.reg (some [3, 6, 7, 8]) [⟨(some 19), none, (.op false (.old (.binOp .add 3 (.tmp 8) (.const (.int .i64 1)) 3)))⟩, ⟨(some 8), none, (.op false (.old (.move (.tmp 19))))⟩]))))⟩)],
 []⟩
theorem r19_ok : resFun (progU ()) hint live 19 Try.f19 = some r19 := by kernel_rfl
/-- fringeref44.Digest -/
def r20 : RFun :=
⟨(.seq (.reg (some [0]) [⟨(some 2), none, (.op false (.old (.assign (.const (.int .i64 0)))))⟩])
 (.seq (.reg (some [0]) [⟨(some 3), none, (.op false (.old (.assign (.const (.int .i64 0)))))⟩])
 (.seq (.seq (.reg (some [0, 3]) [⟨(some 4), none, (.op false (.old (.assign (.const (.int .i64 0)))))⟩])
 (.block 0 (.loop 3 none (some [0, 3, 4]))))
 (.seq (.reg (some [3]) [⟨(some 21), none, (.op false (.old (.move (.tmp 3))))⟩, ⟨(some 2), none, (.op false (.old (.assign (.tmp 21))))⟩])
 .ret)))),
 [(.tmp 2)],
 [(3, ⟨none, (some [0, 3, 4]), (.seq (.seq (.reg (some [0, 3, 4]) [⟨(some 5), none, (.op false (.old (.move (.tmp 4))))⟩, ⟨(some 6), none, (.op false (.old (.move (.tmp 0))))⟩, ⟨(some 7), none, (.op false (.lenS (.tmp 6)))⟩, ⟨(some 8), none, (.op false (.old (.binOp .lss 3 (.tmp 5) (.tmp 7) 3)))⟩])
 (.cond (.tmp 8) .skip
 (.exit 0 (some [3]))))
 (.seq (.block 1 (.reg (some [0, 3, 4]) [⟨(some 11), none, (.op false (.old (.move (.tmp 3))))⟩, ⟨(some 12), none, (.op false (.old (.binOp .mul 3 (.const (.int .i64 257)) (.tmp 11) 3)))⟩, ⟨(some 13), none, (.op false (.old (.move (.tmp 0))))⟩, ⟨(some 14), none, (.op false (.old (.move (.tmp 4))))⟩, ⟨(some 15), none, (.op false (.ixS 1 (.tmp 13) (.tmp 14)))⟩, ⟨(some 16), none, (.op false (.load1 (.int .u8) (.tmp 15)))⟩, ⟨(some 17), none, (.op false (.convI .i64 (.tmp 16)))⟩, ⟨(some 18), none, (.op false (.old (.binOp .add 3 (.tmp 12) (.tmp 17) 3)))⟩, ⟨(some 19), none, (.op false (.old (.binOp .add 3 (.tmp 18) (.const (.int .i64 1)) 3)))⟩, ⟨(some 20), none, (.op false (.old (.binOp .rem 3 (.tmp 19) (.const (.int .i64 1000000007)) 3)))⟩, ⟨(some 3), none, (.op false (.old (.assign (.tmp 20))))⟩]))
 (.reg (some [0, 3, 4]) [⟨(some 9), none, (.op false (.old (.move (.tmp 4))))⟩, ⟨(some 10), none, (.op false (.old (.binOp .add 3 (.tmp 9) (.const (.int .i64 1)) 3)))⟩, ⟨(some 4), none, (.op false (.old (.assign (.tmp 10))))⟩])))⟩)],
 []⟩
theorem r20_ok : resFun (progU ()) hint live 20 Try.f20 = some r20 := by kernel_rfl
/-- origin.Check -/
def r21 : RFun :=
⟨(.seq (.reg (some [0]) [⟨(some 2), none, (.op false (.old (.assign (.const (.int .i64 0)))))⟩])
 (.seq (.reg (some [0]) [⟨(some 6), none, (.op false (.old (.move (.tmp 0))))⟩, ⟨(some 7), none, (.call (.func 36) [(.tmp 6)] (some (.tup [(.one .any), (.one (.int .i64))])))⟩, ⟨(some 5), none, (.op false (.old (.move (.tmp 7))))⟩, ⟨(some 8), none, (.op false (.old (.extract (.tmp 5) 0)))⟩, ⟨(some 9), none, (.op false (.old (.extract (.tmp 5) 1)))⟩, ⟨(some 3), none, (.op false (.old (.assign (.tmp 8))))⟩, ⟨(some 4), none, (.op false (.old (.assign (.tmp 9))))⟩])
 (.seq (.reg (some [4]) [⟨(some 10), none, (.op false (.old (.move (.tmp 4))))⟩, ⟨(some 2), none, (.op false (.old (.assign (.tmp 10))))⟩])
 .ret))),
 [(.tmp 2)],
 [],
 []⟩
theorem r21_ok : resFun (progU ()) hint live 21 Try.f21 = some r21 := by kernel_rfl
/-- fringeref44.Check -/
def r22 : RFun :=
⟨(.seq (.reg (some [0]) [⟨(some 2), none, (.op false (.old (.assign (.const (.int .i64 0)))))⟩])
 (.seq (.reg (some [0]) [⟨(some 6), none, (.op false (.old (.move (.tmp 0))))⟩, ⟨(some 7), none, (.call (.func 37) [(.tmp 6)] (some (.tup [(.one .slice), (.one (.int .i64))])))⟩, ⟨(some 5), none, (.op false (.old (.move (.tmp 7))))⟩, ⟨(some 8), none, (.op false (.old (.extract (.tmp 5) 0)))⟩, ⟨(some 9), none, (.op false (.old (.extract (.tmp 5) 1)))⟩, ⟨(some 3), none, (.op false (.old (.assign (.tmp 8))))⟩, ⟨(some 4), none, (.op false (.old (.assign (.tmp 9))))⟩])
 (.seq (.reg (some [4]) [⟨(some 10), none, (.op false (.old (.move (.tmp 4))))⟩, ⟨(some 2), none, (.op false (.old (.assign (.tmp 10))))⟩])
 .ret))),
 [(.tmp 2)],
 [],
 []⟩
theorem r22_ok : resFun (progU ()) hint live 22 Try.f22 = some r22 := by kernel_rfl
/-- fringeref44.Same -/
def r23 : RFun :=
⟨(.seq (.reg (some [0, 1]) [⟨(some 4), none, (.op false (.old (.assign (.const (.bool false)))))⟩])
 (.seq (.seq (.reg (some [0, 1]) [⟨(some 6), none, (.op false (.old (.move (.tmp 0))))⟩, ⟨(some 7), none, (.op false (.lenS (.tmp 6)))⟩, ⟨(some 8), none, (.op false (.old (.move (.tmp 1))))⟩, ⟨(some 9), none, (.op false (.lenS (.tmp 8)))⟩, ⟨(some 10), none, (.op false (.old (.binOp .neq 3 (.tmp 7) (.tmp 9) 3)))⟩])
 (.cond (.tmp 10) (.seq (.reg (some []) [⟨(some 4), none, (.op false (.old (.assign (.const (.bool false)))))⟩])
 .ret)
 .skip))
 (.seq (.seq (.reg (some [0, 1]) [⟨(some 5), none, (.op false (.old (.assign (.const (.int .i64 0)))))⟩])
 (.block 0 (.loop 4 (some [0, 1, 5]) (some [0, 1, 5]))))
 (.seq (.reg (some []) [⟨(some 4), none, (.op false (.old (.assign (.const (.bool true)))))⟩])
 .ret)))),
 [(.tmp 4)],
 [(4, ⟨(some [0, 1, 5]), (some [0, 1, 5]), (.seq (.seq (.reg (some [0, 1, 5]) [⟨(some 11), none, (.op false (.old (.move (.tmp 5))))⟩, ⟨(some 12), none, (.op false (.old (.move (.tmp 0))))⟩, ⟨(some 13), none, (.op false (.lenS (.tmp 12)))⟩, ⟨(some 14), none, (.op false (.old (.binOp .lss 3 (.tmp 11) (.tmp 13) 3)))⟩])
 (.cond (.tmp 14) .skip
 (.exit 0 (some []))))
 (.seq (.block 1 (.seq (.draw (some [0, 1, 5]) 79 [⟨⟨(some 17), none, (.op false (.old (.move (.tmp 0))))⟩, 0, .none, [2, 3, 4, 10, 11, 12, 13, 14, 15, 16, 17, 18, 19, 20, 21, 22, 23, 24, 25, 26, 27, 28, 29, 30, 31, 32, 33, 34, 35, 36, 37, 38, 39, 40, 41, 42, 43, 44, 45, 46, 47, 48, 49, 50, 51, 52, 53, 54, 55, 56, 57, 58, 59, 60, 61, 62, 63, 64, 65, 66, 67, 68, 69, 70, 71, 72, 73, 74, 75, 76, 77, 78], false, true⟩, ⟨⟨(some 18), none, (.op false (.old (.move (.tmp 5))))⟩, 1, .none, [2, 3, 4, 10, 11, 12, 13, 14, 15, 16, 17, 18, 19, 20, 21, 22, 23, 24, 25, 26, 27, 28, 29, 30, 31, 32, 33, 34, 35, 36, 37, 38, 39, 40, 41, 42, 43, 44, 45, 46, 47, 48, 49, 50, 51, 52, 53, 54, 55, 56, 57, 58, 59, 60, 61, 62, 63, 64, 65, 66, 67, 68, 69, 70, 71, 72, 73, 74, 75, 76, 77, 78], false, true⟩, ⟨⟨(some 19), none, (.op false (.ixS 6 (.tmp 17) (.tmp 18)))⟩, 2, .none, [3, 4, 10, 11, 12, 13, 14, 15, 16, 17, 18, 19, 20, 21, 22, 23, 24, 25, 26, 27, 28, 29, 30, 31, 32, 33, 34, 35, 36, 37, 38, 39, 40, 41, 42, 43, 44, 45, 46, 47, 48, 49, 50, 51, 52, 53, 54, 55, 56, 57, 58, 59, 60, 61, 62, 63, 64, 65, 66, 67, 68, 69, 70, 71, 72, 73, 74, 75, 76, 77, 78], false, true⟩, ⟨⟨(some 20), none, (.op false (.fieldAddr 0 (.tmp 19)))⟩, 3, .none, [4, 10, 11, 12, 13, 14, 15, 16, 17, 18, 19, 20, 21, 22, 23, 24, 25, 26, 27, 28, 29, 30, 31, 32, 33, 34, 35, 36, 37, 38, 39, 40, 41, 42, 43, 44, 45, 46, 47, 48, 49, 50, 51, 52, 53, 54, 55, 56, 57, 58, 59, 60, 61, 62, 63, 64, 65, 66, 67, 68, 69, 70, 71, 72, 73, 74, 75, 76, 77, 78], false, true⟩, ⟨⟨(some 21), none, (.op false (.load1 .str (.tmp 20)))⟩, 4, (.blk (.tmp 20)), [10, 11, 12, 13, 14, 15, 16, 17, 18, 19, 20, 21, 22, 23, 24, 25, 26, 27, 28, 29, 30, 31, 32, 33, 34, 35, 36, 37, 38, 39, 40, 41, 42, 43, 44, 45, 46, 47, 48, 49, 50, 51, 52, 53, 54, 55, 56, 57, 58, 59, 60, 61, 62, 63, 64, 65, 66, 67, 68, 69, 70, 71, 72, 73, 74, 75, 76, 77, 78], false, true⟩, ⟨⟨(some 22), none, (.op false (.old (.move (.tmp 1))))⟩, 5, .none, [7, 8, 9, 10, 11, 12, 13, 14, 15, 16, 17, 18, 19, 20, 21, 22, 23, 24, 25, 26, 27, 28, 29, 30, 31, 32, 33, 34, 35, 36, 37, 38, 39, 40, 41, 42, 43, 44, 45, 46, 47, 48, 49, 50, 51, 52, 53, 54, 55, 56, 57, 58, 59, 60, 61, 62, 63, 64, 65, 66, 67, 68, 69, 70, 71, 72, 73, 74, 75, 76, 77, 78], false, true⟩, ⟨⟨(some 23), none, (.op false (.old (.move (.tmp 5))))⟩, 6, .none, [7, 8, 9, 10, 11, 12, 13, 14, 15, 16, 17, 18, 19, 20, 21, 22, 23, 24, 25, 26, 27, 28, 29, 30, 31, 32, 33, 34, 35, 36, 37, 38, 39, 40, 41, 42, 43, 44, 45, 46, 47, 48, 49, 50, 51, 52, 53, 54, 55, 56, 57, 58, 59, 60, 61, 62, 63, 64, 65, 66, 67, 68, 69, 70, 71, 72, 73, 74, 75, 76, 77, 78], false, true⟩, ⟨⟨(some 24), none, (.op false (.ixS 6 (.tmp 22) (.tmp 23)))⟩, 7, .none, [8, 9, 10, 11, 12, 13, 14, 15, 16, 17, 18, 19, 20, 21, 22, 23, 24, 25, 26, 27, 28, 29, 30, 31, 32, 33, 34, 35, 36, 37, 38, 39, 40, 41, 42, 43, 44, 45, 46, 47, 48, 49, 50, 51, 52, 53, 54, 55, 56, 57, 58, 59, 60, 61, 62, 63, 64, 65, 66, 67, 68, 69, 70, 71, 72, 73, 74, 75, 76, 77, 78], false, true⟩, ⟨⟨(some 25), none, (.op false (.fieldAddr 0 (.tmp 24)))⟩, 8, .none, [9, 10, 11, 12, 13, 14, 15, 16, 17, 18, 19, 20, 21, 22, 23, 24, 25, 26, 27, 28, 29, 30, 31, 32, 33, 34, 35, 36, 37, 38, 39, 40, 41, 42, 43, 44, 45, 46, 47, 48, 49, 50, 51, 52, 53, 54, 55, 56, 57, 58, 59, 60, 61, 62, 63, 64, 65, 66, 67, 68, 69, 70, 71, 72, 73, 74, 75, 76, 77, 78], false, true⟩, ⟨⟨(some 26), none, (.op false (.load1 .str (.tmp 25)))⟩, 9, (.blk (.tmp 25)), [10, 11, 12, 13, 14, 15, 16, 17, 18, 19, 20, 21, 22, 23, 24, 25, 26, 27, 28, 29, 30, 31, 32, 33, 34, 35, 36, 37, 38, 39, 40, 41, 42, 43, 44, 45, 46, 47, 48, 49, 50, 51, 52, 53, 54, 55, 56, 57, 58, 59, 60, 61, 62, 63, 64, 65, 66, 67, 68, 69, 70, 71, 72, 73, 74, 75, 76, 77, 78], false, true⟩, ⟨⟨(some 27), none, (.op false (.old (.binOp .neq 9 (.tmp 21) (.tmp 26) 9)))⟩, 10, .none, [11, 12, 13, 14, 15, 16, 17, 18, 19, 20, 21, 22, 23, 24, 25, 26, 27, 28, 29, 30, 31, 32, 33, 34, 35, 36, 37, 38, 39, 40, 41, 42, 43, 44, 45, 46, 47, 48, 49, 50, 51, 52, 53, 54, 55, 56, 57, 58, 59, 60, 61, 62, 63, 64, 65, 66, 67, 68, 69, 70, 71, 72, 73, 74, 75, 76, 77, 78], false, true⟩, ⟨⟨(some 28), none, (.op false (.old (.move (.tmp 27))))⟩, 11, .none, [12, 13, 14, 15, 16, 17, 18, 19, 20, 21, 22, 23, 24, 25, 26, 27, 28, 29, 30, 31, 32, 33, 34, 35, 36, 37, 38, 39, 40, 41, 42, 43, 44, 45, 46, 47, 48, 49, 50, 51, 52, 53, 54, 55, 56, 57, 58, 59, 60, 61, 62, 63, 64, 65, 66, 67, 68, 69, 70, 71, 72, 73, 74, 75, 76, 77, 78], false, true⟩, ⟨⟨(some 29), (some (28, false)), (.op false (.old (.move (.tmp 0))))⟩, 12, .none, [14, 15, 16, 22, 23, 24, 25, 26, 27, 28, 29, 30, 31, 32, 33, 34, 35, 36, 37, 38, 39, 40, 41, 42, 43, 44, 45, 46, 47, 48, 49, 50, 51, 52, 53, 54, 55, 56, 57, 58, 59, 60, 61, 62, 63, 64, 65, 66, 67, 68, 69, 70, 71, 72, 73, 74, 75, 76, 77, 78], false, true⟩, ⟨⟨(some 30), (some (28, false)), (.op false (.old (.move (.tmp 5))))⟩, 13, .none, [14, 15, 16, 22, 23, 24, 25, 26, 27, 28, 29, 30, 31, 32, 33, 34, 35, 36, 37, 38, 39, 40, 41, 42, 43, 44, 45, 46, 47, 48, 49, 50, 51, 52, 53, 54, 55, 56, 57, 58, 59, 60, 61, 62, 63, 64, 65, 66, 67, 68, 69, 70, 71, 72, 73, 74, 75, 76, 77, 78], false, true⟩, ⟨⟨(some 31), (some (28, false)), (.op false (.ixS 6 (.tmp 29) (.tmp 30)))⟩, 14, .none, [15, 16, 22, 23, 24, 25, 26, 27, 28, 29, 30, 31, 32, 33, 34, 35, 36, 37, 38, 39, 40, 41, 42, 43, 44, 45, 46, 47, 48, 49, 50, 51, 52, 53, 54, 55, 56, 57, 58, 59, 60, 61, 62, 63, 64, 65, 66, 67, 68, 69, 70, 71, 72, 73, 74, 75, 76, 77, 78], false, true⟩, ⟨⟨(some 32), (some (28, false)), (.op false (.fieldAddr 1 (.tmp 31)))⟩, 15, .none, [16, 22, 23, 24, 25, 26, 27, 28, 29, 30, 31, 32, 33, 34, 35, 36, 37, 38, 39, 40, 41, 42, 43, 44, 45, 46, 47, 48, 49, 50, 51, 52, 53, 54, 55, 56, 57, 58, 59, 60, 61, 62, 63, 64, 65, 66, 67, 68, 69, 70, 71, 72, 73, 74, 75, 76, 77, 78], false, true⟩, ⟨⟨(some 33), (some (28, false)), (.op false (.load1 (.int .u8) (.tmp 32)))⟩, 16, (.blk (.tmp 32)), [22, 23, 24, 25, 26, 27, 28, 29, 30, 31, 32, 33, 34, 35, 36, 37, 38, 39, 40, 41, 42, 43, 44, 45, 46, 47, 48, 49, 50, 51, 52, 53, 54, 55, 56, 57, 58, 59, 60, 61, 62, 63, 64, 65, 66, 67, 68, 69, 70, 71, 72, 73, 74, 75, 76, 77, 78], false, true⟩, ⟨⟨(some 34), (some (28, false)), (.op false (.old (.move (.tmp 1))))⟩, 17, .none, [19, 20, 21, 22, 23, 24, 25, 26, 27, 28, 29, 30, 31, 32, 33, 34, 35, 36, 37, 38, 39, 40, 41, 42, 43, 44, 45, 46, 47, 48, 49, 50, 51, 52, 53, 54, 55, 56, 57, 58, 59, 60, 61, 62, 63, 64, 65, 66, 67, 68, 69, 70, 71, 72, 73, 74, 75, 76, 77, 78], false, true⟩, ⟨⟨(some 35), (some (28, false)), (.op false (.old (.move (.tmp 5))))⟩, 18, .none, [19, 20, 21, 22, 23, 24, 25, 26, 27, 28, 29, 30, 31, 32, 33, 34, 35, 36, 37, 38, 39, 40, 41, 42, 43, 44, 45, 46, 47, 48, 49, 50, 51, 52, 53, 54, 55, 56, 57, 58, 59, 60, 61, 62, 63, 64, 65, 66, 67, 68, 69, 70, 71, 72, 73, 74, 75, 76, 77, 78], false, true⟩, ⟨⟨(some 36), (some (28, false)), (.op false (.ixS 6 (.tmp 34) (.tmp 35)))⟩, 19, .none, [20, 21, 22, 23, 24, 25, 26, 27, 28, 29, 30, 31, 32, 33, 34, 35, 36, 37, 38, 39, 40, 41, 42, 43, 44, 45, 46, 47, 48, 49, 50, 51, 52, 53, 54, 55, 56, 57, 58, 59, 60, 61, 62, 63, 64, 65, 66, 67, 68, 69, 70, 71, 72, 73, 74, 75, 76, 77, 78], false, true⟩, ⟨⟨(some 37), (some (28, false)), (.op false (.fieldAddr 1 (.tmp 36)))⟩, 20, .none, [21, 22, 23, 24, 25, 26, 27, 28, 29, 30, 31, 32, 33, 34, 35, 36, 37, 38, 39, 40, 41, 42, 43, 44, 45, 46, 47, 48, 49, 50, 51, 52, 53, 54, 55, 56, 57, 58, 59, 60, 61, 62, 63, 64, 65, 66, 67, 68, 69, 70, 71, 72, 73, 74, 75, 76, 77, 78], false, true⟩, ⟨⟨(some 38), (some (28, false)), (.op false (.load1 (.int .u8) (.tmp 37)))⟩, 21, (.blk (.tmp 37)), [22, 23, 24, 25, 26, 27, 28, 29, 30, 31, 32, 33, 34, 35, 36, 37, 38, 39, 40, 41, 42, 43, 44, 45, 46, 47, 48, 49, 50, 51, 52, 53, 54, 55, 56, 57, 58, 59, 60, 61, 62, 63, 64, 65, 66, 67, 68, 69, 70, 71, 72, 73, 74, 75, 76, 77, 78], false, true⟩, ⟨⟨(some 39), (some (28, false)), (.op false (.old (.binOp .neq 5 (.tmp 33) (.tmp 38) 5)))⟩, 22, .none, [23, 24, 25, 26, 27, 28, 29, 30, 31, 32, 33, 34, 35, 36, 37, 38, 39, 40, 41, 42, 43, 44, 45, 46, 47, 48, 49, 50, 51, 52, 53, 54, 55, 56, 57, 58, 59, 60, 61, 62, 63, 64, 65, 66, 67, 68, 69, 70, 71, 72, 73, 74, 75, 76, 77, 78], false, true⟩, ⟨⟨(some 40), none, (.op false (.old (.pick (.tmp 28) (.const (.bool true)) (.tmp 39))))⟩, 23, .none, [24, 25, 26, 27, 28, 29, 30, 31, 32, 33, 34, 35, 36, 37, 38, 39, 40, 41, 42, 43, 44, 45, 46, 47, 48, 49, 50, 51, 52, 53, 54, 55, 56, 57, 58, 59, 60, 61, 62, 63, 64, 65, 66, 67, 68, 69, 70, 71, 72, 73, 74, 75, 76, 77, 78], false, true⟩, ⟨⟨(some 41), none, (.op false (.old (.move (.tmp 40))))⟩, 24, .none, [25, 26, 27, 28, 29, 30, 31, 32, 33, 34, 35, 36, 37, 38, 39, 40, 41, 42, 43, 44, 45, 46, 47, 48, 49, 50, 51, 52, 53, 54, 55, 56, 57, 58, 59, 60, 61, 62, 63, 64, 65, 66, 67, 68, 69, 70, 71, 72, 73, 74, 75, 76, 77, 78], false, true⟩, ⟨⟨(some 42), (some (41, false)), (.op false (.old (.move (.tmp 0))))⟩, 25, .none, [27, 28, 29, 35, 36, 37, 38, 39, 40, 41, 42, 43, 44, 45, 46, 47, 48, 49, 50, 51, 52, 53, 54, 55, 56, 57, 58, 59, 60, 61, 62, 63, 64, 65, 66, 67, 68, 69, 70, 71, 72, 73, 74, 75, 76, 77, 78], false, true⟩, ⟨⟨(some 43), (some (41, false)), (.op false (.old (.move (.tmp 5))))⟩, 26, .none, [27, 28, 29, 35, 36, 37, 38, 39, 40, 41, 42, 43, 44, 45, 46, 47, 48, 49, 50, 51, 52, 53, 54, 55, 56, 57, 58, 59, 60, 61, 62, 63, 64, 65, 66, 67, 68, 69, 70, 71, 72, 73, 74, 75, 76, 77, 78], false, true⟩, ⟨⟨(some 44), (some (41, false)), (.op false (.ixS 6 (.tmp 42) (.tmp 43)))⟩, 27, .none, [28, 29, 35, 36, 37, 38, 39, 40, 41, 42, 43, 44, 45, 46, 47, 48, 49, 50, 51, 52, 53, 54, 55, 56, 57, 58, 59, 60, 61, 62, 63, 64, 65, 66, 67, 68, 69, 70, 71, 72, 73, 74, 75, 76, 77, 78], false, true⟩, ⟨⟨(some 45), (some (41, false)), (.op false (.fieldAddr 3 (.tmp 44)))⟩, 28, .none, [29, 35, 36, 37, 38, 39, 40, 41, 42, 43, 44, 45, 46, 47, 48, 49, 50, 51, 52, 53, 54, 55, 56, 57, 58, 59, 60, 61, 62, 63, 64, 65, 66, 67, 68, 69, 70, 71, 72, 73, 74, 75, 76, 77, 78], false, true⟩, ⟨⟨(some 46), (some (41, false)), (.op false (.load1 (.int .i64) (.tmp 45)))⟩, 29, (.blk (.tmp 45)), [35, 36, 37, 38, 39, 40, 41, 42, 43, 44, 45, 46, 47, 48, 49, 50, 51, 52, 53, 54, 55, 56, 57, 58, 59, 60, 61, 62, 63, 64, 65, 66, 67, 68, 69, 70, 71, 72, 73, 74, 75, 76, 77, 78], false, true⟩, ⟨⟨(some 47), (some (41, false)), (.op false (.old (.move (.tmp 1))))⟩, 30, .none, [32, 33, 34, 35, 36, 37, 38, 39, 40, 41, 42, 43, 44, 45, 46, 47, 48, 49, 50, 51, 52, 53, 54, 55, 56, 57, 58, 59, 60, 61, 62, 63, 64, 65, 66, 67, 68, 69, 70, 71, 72, 73, 74, 75, 76, 77, 78], false, true⟩, ⟨⟨(some 48), (some (41, false)), (.op false (.old (.move (.tmp 5))))⟩, 31, .none, [32, 33, 34, 35, 36, 37, 38, 39, 40, 41, 42, 43, 44, 45, 46, 47, 48, 49, 50, 51, 52, 53, 54, 55, 56, 57, 58, 59, 60, 61, 62, 63, 64, 65, 66, 67, 68, 69, 70, 71, 72, 73, 74, 75, 76, 77, 78], false, true⟩, ⟨⟨(some 49), (some (41, false)), (.op false (.ixS 6 (.tmp 47) (.tmp 48)))⟩, 32, .none, [33, 34, 35, 36, 37, 38, 39, 40, 41, 42, 43, 44, 45, 46, 47, 48, 49, 50, 51, 52, 53, 54, 55, 56, 57, 58, 59, 60, 61, 62, 63, 64, 65, 66, 67, 68, 69, 70, 71, 72, 73, 74, 75, 76, 77, 78], false, true⟩, ⟨⟨(some 50), (some (41, false)), (.op false (.fieldAddr 3 (.tmp 49)))⟩, 33, .none, [34, 35, 36, 37, 38, 39, 40, 41, 42, 43, 44, 45, 46, 47, 48, 49, 50, 51, 52, 53, 54, 55, 56, 57, 58, 59, 60, 61, 62, 63, 64, 65, 66, 67, 68, 69, 70, 71, 72, 73, 74, 75, 76, 77, 78], false, true⟩, ⟨⟨(some 51), (some (41, false)), (.op false (.load1 (.int .i64) (.tmp 50)))⟩, 34, (.blk (.tmp 50)), [35, 36, 37, 38, 39, 40, 41, 42, 43, 44, 45, 46, 47, 48, 49, 50, 51, 52, 53, 54, 55, 56, 57, 58, 59, 60, 61, 62, 63, 64, 65, 66, 67, 68, 69, 70, 71, 72, 73, 74, 75, 76, 77, 78], false, true⟩, ⟨⟨(some 52), (some (41, false)), (.op false (.old (.binOp .neq 3 (.tmp 46) (.tmp 51) 3)))⟩, 35, .none, [36, 37, 38, 39, 40, 41, 42, 43, 44, 45, 46, 47, 48, 49, 50, 51, 52, 53, 54, 55, 56, 57, 58, 59, 60, 61, 62, 63, 64, 65, 66, 67, 68, 69, 70, 71, 72, 73, 74, 75, 76, 77, 78], false, true⟩, ⟨⟨(some 53), none, (.op false (.old (.pick (.tmp 41) (.const (.bool true)) (.tmp 52))))⟩, 36, .none, [37, 38, 39, 40, 41, 42, 43, 44, 45, 46, 47, 48, 49, 50, 51, 52, 53, 54, 55, 56, 57, 58, 59, 60, 61, 62, 63, 64, 65, 66, 67, 68, 69, 70, 71, 72, 73, 74, 75, 76, 77, 78], false, true⟩, ⟨⟨(some 54), none, (.op false (.old (.move (.tmp 53))))⟩, 37, .none, [38, 39, 40, 41, 42, 43, 44, 45, 46, 47, 48, 49, 50, 51, 52, 53, 54, 55, 56, 57, 58, 59, 60, 61, 62, 63, 64, 65, 66, 67, 68, 69, 70, 71, 72, 73, 74, 75, 76, 77, 78], false, true⟩, ⟨⟨(some 55), (some (54, false)), (.op false (.old (.move (.tmp 0))))⟩, 38, .none, [40, 41, 42, 48, 49, 50, 51, 52, 53, 54, 55, 56, 57, 58, 59, 60, 61, 62, 63, 64, 65, 66, 67, 68, 69, 70, 71, 72, 73, 74, 75, 76, 77, 78], false, true⟩, ⟨⟨(some 56), (some (54, false)), (.op false (.old (.move (.tmp 5))))⟩, 39, .none, [40, 41, 42, 48, 49, 50, 51, 52, 53, 54, 55, 56, 57, 58, 59, 60, 61, 62, 63, 64, 65, 66, 67, 68, 69, 70, 71, 72, 73, 74, 75, 76, 77, 78], false, true⟩, ⟨⟨(some 57), (some (54, false)), (.op false (.ixS 6 (.tmp 55) (.tmp 56)))⟩, 40, .none, [41, 42, 48, 49, 50, 51, 52, 53, 54, 55, 56, 57, 58, 59, 60, 61, 62, 63, 64, 65, 66, 67, 68, 69, 70, 71, 72, 73, 74, 75, 76, 77, 78], false, true⟩, ⟨⟨(some 58), (some (54, false)), (.op false (.fieldAddr 5 (.tmp 57)))⟩, 41, .none, [42, 48, 49, 50, 51, 52, 53, 54, 55, 56, 57, 58, 59, 60, 61, 62, 63, 64, 65, 66, 67, 68, 69, 70, 71, 72, 73, 74, 75, 76, 77, 78], false, true⟩, ⟨⟨(some 59), (some (54, false)), (.op false (.load1 (.int .i64) (.tmp 58)))⟩, 42, (.blk (.tmp 58)), [48, 49, 50, 51, 52, 53, 54, 55, 56, 57, 58, 59, 60, 61, 62, 63, 64, 65, 66, 67, 68, 69, 70, 71, 72, 73, 74, 75, 76, 77, 78], false, true⟩, ⟨⟨(some 60), (some (54, false)), (.op false (.old (.move (.tmp 1))))⟩, 43, .none, [45, 46, 47, 48, 49, 50, 51, 52, 53, 54, 55, 56, 57, 58, 59, 60, 61, 62, 63, 64, 65, 66, 67, 68, 69, 70, 71, 72, 73, 74, 75, 76, 77, 78], false, true⟩, ⟨⟨(some 61), (some (54, false)), (.op false (.old (.move (.tmp 5))))⟩, 44, .none, [45, 46, 47, 48, 49, 50, 51, 52, 53, 54, 55, 56, 57, 58, 59, 60, 61, 62, 63, 64, 65, 66, 67, 68, 69, 70, 71, 72, 73, 74, 75, 76, 77, 78], false, true⟩, ⟨⟨(some 62), (some (54, false)), (.op false (.ixS 6 (.tmp 60) (.tmp 61)))⟩, 45, .none, [46, 47, 48, 49, 50, 51, 52, 53, 54, 55, 56, 57, 58, 59, 60, 61, 62, 63, 64, 65, 66, 67, 68, 69, 70, 71, 72, 73, 74, 75, 76, 77, 78], false, true⟩, ⟨⟨(some 63), (some (54, false)), (.op false (.fieldAddr 5 (.tmp 62)))⟩, 46, .none, [47, 48, 49, 50, 51, 52, 53, 54, 55, 56, 57, 58, 59, 60, 61, 62, 63, 64, 65, 66, 67, 68, 69, 70, 71, 72, 73, 74, 75, 76, 77, 78], false, true⟩, ⟨⟨(some 64), (some (54, false)), (.op false (.load1 (.int .i64) (.tmp 63)))⟩, 47, (.blk (.tmp 63)), [48, 49, 50, 51, 52, 53, 54, 55, 56, 57, 58, 59, 60, 61, 62, 63, 64, 65, 66, 67, 68, 69, 70, 71, 72, 73, 74, 75, 76, 77, 78], false, true⟩, ⟨⟨(some 65), (some (54, false)), (.op false (.old (.binOp .neq 3 (.tmp 59) (.tmp 64) 3)))⟩, 48, .none, [49, 50, 51, 52, 53, 54, 55, 56, 57, 58, 59, 60, 61, 62, 63, 64, 65, 66, 67, 68, 69, 70, 71, 72, 73, 74, 75, 76, 77, 78], false, true⟩, ⟨⟨(some 66), none, (.op false (.old (.pick (.tmp 54) (.const (.bool true)) (.tmp 65))))⟩, 49, .none, [50, 51, 52, 53, 54, 55, 56, 57, 58, 59, 60, 61, 62, 63, 64, 65, 66, 67, 68, 69, 70, 71, 72, 73, 74, 75, 76, 77, 78], false, true⟩, ⟨⟨(some 67), none, (.op false (.old (.move (.tmp 66))))⟩, 50, .none, [51, 52, 53, 54, 55, 56, 57, 58, 59, 60, 61, 62, 63, 64, 65, 66, 67, 68, 69, 70, 71, 72, 73, 74, 75, 76, 77, 78], false, true⟩, ⟨⟨(some 68), (some (67, false)), (.op false (.old (.move (.tmp 0))))⟩, 51, .none, [53, 54, 55, 56, 63, 64, 65, 66, 67, 68, 69, 70, 71, 72, 73, 74, 75, 76, 77, 78], false, true⟩, ⟨⟨(some 69), (some (67, false)), (.op false (.old (.move (.tmp 5))))⟩, 52, .none, [53, 54, 55, 56, 63, 64, 65, 66, 67, 68, 69, 70, 71, 72, 73, 74, 75, 76, 77, 78], false, true⟩, ⟨⟨(some 70), (some (67, false)), (.op false (.ixS 6 (.tmp 68) (.tmp 69)))⟩, 53, .none, [54, 55, 56, 63, 64, 65, 66, 67, 68, 69, 70, 71, 72, 73, 74, 75, 76, 77, 78], false, true⟩, ⟨⟨(some 71), (some (67, false)), (.op false (.fieldAddr 4 (.tmp 70)))⟩, 54, .none, [55, 56, 63, 64, 65, 66, 67, 68, 69, 70, 71, 72, 73, 74, 75, 76, 77, 78], false, true⟩, ⟨⟨(some 72), (some (67, false)), (.op false (.load1 .slice (.tmp 71)))⟩, 55, (.blk (.tmp 71)), [56, 63, 64, 65, 66, 67, 68, 69, 70, 71, 72, 73, 74, 75, 76, 77, 78], false, true⟩, ⟨⟨(some 73), (some (67, false)), (.op false (.old (.convert 23 9 (.tmp 72))))⟩, 56, (.cvt (.tmp 72)), [63, 64, 65, 66, 67, 68, 69, 70, 71, 72, 73, 74, 75, 76, 77, 78], false, true⟩, ⟨⟨(some 74), (some (67, false)), (.op false (.old (.move (.tmp 1))))⟩, 57, .none, [59, 60, 61, 62, 63, 64, 65, 66, 67, 68, 69, 70, 71, 72, 73, 74, 75, 76, 77, 78], false, true⟩, ⟨⟨(some 75), (some (67, false)), (.op false (.old (.move (.tmp 5))))⟩, 58, .none, [59, 60, 61, 62, 63, 64, 65, 66, 67, 68, 69, 70, 71, 72, 73, 74, 75, 76, 77, 78], false, true⟩, ⟨⟨(some 76), (some (67, false)), (.op false (.ixS 6 (.tmp 74) (.tmp 75)))⟩, 59, .none, [60, 61, 62, 63, 64, 65, 66, 67, 68, 69, 70, 71, 72, 73, 74, 75, 76, 77, 78], false, true⟩, ⟨⟨(some 77), (some (67, false)), (.op false (.fieldAddr 4 (.tmp 76)))⟩, 60, .none, [61, 62, 63, 64, 65, 66, 67, 68, 69, 70, 71, 72, 73, 74, 75, 76, 77, 78], false, true⟩, ⟨⟨(some 78), (some (67, false)), (.op false (.load1 .slice (.tmp 77)))⟩, 61, (.blk (.tmp 77)), [62, 63, 64, 65, 66, 67, 68, 69, 70, 71, 72, 73, 74, 75, 76, 77, 78], false, true⟩, ⟨⟨(some 79), (some (67, false)), (.op false (.old (.convert 23 9 (.tmp 78))))⟩, 62, (.cvt (.tmp 78)), [63, 64, 65, 66, 67, 68, 69, 70, 71, 72, 73, 74, 75, 76, 77, 78], false, true⟩, ⟨⟨(some 80), (some (67, false)), (.op false (.old (.binOp .neq 9 (.tmp 73) (.tmp 79) 9)))⟩, 63, .none, [64, 65, 66, 67, 68, 69, 70, 71, 72, 73, 74, 75, 76, 77, 78], false, true⟩, ⟨⟨(some 81), none, (.op false (.old (.pick (.tmp 67) (.const (.bool true)) (.tmp 80))))⟩, 64, .none, [65, 66, 67, 68, 69, 70, 71, 72, 73, 74, 75, 76, 77, 78], false, true⟩, ⟨⟨(some 82), none, (.op false (.old (.move (.tmp 81))))⟩, 65, .none, [66, 67, 68, 69, 70, 71, 72, 73, 74, 75, 76, 77, 78], false, true⟩, ⟨⟨(some 83), (some (82, false)), (.op false (.old (.move (.tmp 0))))⟩, 66, .none, [68, 69, 70, 76, 77, 78], false, true⟩, ⟨⟨(some 84), (some (82, false)), (.op false (.old (.move (.tmp 5))))⟩, 67, .none, [68, 69, 70, 76, 77, 78], false, true⟩, ⟨⟨(some 85), (some (82, false)), (.op false (.ixS 6 (.tmp 83) (.tmp 84)))⟩, 68, .none, [69, 70, 76, 77, 78], false, true⟩, ⟨⟨(some 86), (some (82, false)), (.op false (.fieldAddr 2 (.tmp 85)))⟩, 69, .none, [70, 76, 77, 78], false, true⟩, ⟨⟨(some 87), (some (82, false)), (.op false (.load1 .slice (.tmp 86)))⟩, 70, (.blk (.tmp 86)), [76, 77, 78], false, true⟩, ⟨⟨(some 88), (some (82, false)), (.op false (.old (.move (.tmp 1))))⟩, 71, .none, [73, 74, 75, 76, 77, 78], false, true⟩, ⟨⟨(some 89), (some (82, false)), (.op false (.old (.move (.tmp 5))))⟩, 72, .none, [73, 74, 75, 76, 77, 78], false, true⟩, ⟨⟨(some 90), (some (82, false)), (.op false (.ixS 6 (.tmp 88) (.tmp 89)))⟩, 73, .none, [74, 75, 76, 77, 78], false, true⟩, ⟨⟨(some 91), (some (82, false)), (.op false (.fieldAddr 2 (.tmp 90)))⟩, 74, .none, [75, 76, 77, 78], false, true⟩, ⟨⟨(some 92), (some (82, false)), (.op false (.load1 .slice (.tmp 91)))⟩, 75, (.blk (.tmp 91)), [76, 77, 78], false, true⟩, ⟨⟨(some 93), (some (82, false)), (.call (.func 24) [(.tmp 87), (.tmp 92)] (some (.val (.one .bool))))⟩, 76, .all, [77, 78], false, false⟩, ⟨⟨(some 94), (some (82, false)), (.op false (.old (.unOp .not 4 (.tmp 93))))⟩, 77, .none, [78], false, true⟩, ⟨⟨(some 95), none, (.op false (.old (.pick (.tmp 82) (.const (.bool true)) (.tmp 94))))⟩, 78, .none, [], false, true⟩])
 (.cond (.tmp 95) (.seq (.reg (some []) [⟨(some 4), none, (.op false (.old (.assign (.const (.bool false)))))⟩])
 .ret)
 .skip)))
 (.reg (some [0, 1, 5]) [⟨(some 15), none, (.op false (.old (.move (.tmp 5))))⟩, ⟨(some 16), none, (.op false (.old (.binOp .add 3 (.tmp 15) (.const (.int .i64 1)) 3)))⟩, ⟨(some 5), none, (.op false (.old (.assign (.tmp 16))))⟩])))⟩)],
 []⟩
theorem r23_ok : resFun (progU ()) hint live 23 Try.f23 = some r23 := by kernel_rfl
/-- fringeref44.SameNames -/
def r24 : RFun :=
⟨(.seq (.reg (some [0, 1]) [⟨(some 4), none, (.op false (.old (.assign (.const (.bool false)))))⟩])
 (.seq (.seq (.reg (some [0, 1]) [⟨(some 6), none, (.op false (.old (.move (.tmp 0))))⟩, ⟨(some 7), none, (.op false (.lenS (.tmp 6)))⟩, ⟨(some 8), none, (.op false (.old (.move (.tmp 1))))⟩, ⟨(some 9), none, (.op false (.lenS (.tmp 8)))⟩, ⟨(some 10), none, (.op false (.old (.binOp .neq 3 (.tmp 7) (.tmp 9) 3)))⟩])
 (.cond (.tmp 10) (.seq (.reg (some []) [⟨(some 4), none, (.op false (.old (.assign (.const (.bool false)))))⟩])
 .ret)
 .skip))
 (.seq (.seq (.reg (some [0, 1]) [⟨(some 5), none, (.op false (.old (.assign (.const (.int .i64 0)))))⟩])
 (.block 0 (.loop 4 (some [0, 1, 5]) (some [0, 1, 5]))))
 (.seq (.reg (some []) [⟨(some 4), none, (.op false (.old (.assign (.const (.bool true)))))⟩])
 .ret)))),
 [(.tmp 4)],
 [(4, ⟨(some [0, 1, 5]), (some [0, 1, 5]), (.seq (.seq (.reg (some [0, 1, 5]) [⟨(some 11), none, (.op false (.old (.move (.tmp 5))))⟩, ⟨(some 12), none, (.op false (.old (.move (.tmp 0))))⟩, ⟨(some 13), none, (.op false (.lenS (.tmp 12)))⟩, ⟨(some 14), none, (.op false (.old (.binOp .lss 3 (.tmp 11) (.tmp 13) 3)))⟩])
 (.cond (.tmp 14) .skip
 (.exit 0 (some []))))
 (.seq (.block 1 (.seq (.draw (some [0, 1, 5]) 9 [⟨⟨(some 17), none, (.op false (.old (.move (.tmp 0))))⟩, 0, .none, [2, 3, 8], false, true⟩, ⟨⟨(some 18), none, (.op false (.old (.move (.tmp 5))))⟩, 1, .none, [2, 3, 8], false, true⟩, ⟨⟨(some 19), none, (.op false (.ixS 1 (.tmp 17) (.tmp 18)))⟩, 2, .none, [3, 8], false, true⟩, ⟨⟨(some 20), none, (.op false (.load1 .str (.tmp 19)))⟩, 3, (.blk (.tmp 19)), [8], false, true⟩, ⟨⟨(some 21), none, (.op false (.old (.move (.tmp 1))))⟩, 4, .none, [6, 7, 8], false, true⟩, ⟨⟨(some 22), none, (.op false (.old (.move (.tmp 5))))⟩, 5, .none, [6, 7, 8], false, true⟩, ⟨⟨(some 23), none, (.op false (.ixS 1 (.tmp 21) (.tmp 22)))⟩, 6, .none, [7, 8], false, true⟩, ⟨⟨(some 24), none, (.op false (.load1 .str (.tmp 23)))⟩, 7, (.blk (.tmp 23)), [8], false, true⟩, ⟨⟨(some 25), none, (.op false (.old (.binOp .neq 9 (.tmp 20) (.tmp 24) 9)))⟩, 8, .none, [], false, true⟩])
 (.cond (.tmp 25) (.seq (.reg (some []) [⟨(some 4), none, (.op false (.old (.assign (.const (.bool false)))))⟩])
 .ret)
 .skip)))
 (.reg (some [0, 1, 5]) [⟨(some 15), none, (.op false (.old (.move (.tmp 5))))⟩, ⟨(some 16), none, (.op false (.old (.binOp .add 3 (.tmp 15) (.const (.int .i64 1)) 3)))⟩, ⟨(some 5), none, (.op false (.old (.assign (.tmp 16))))⟩])))⟩)],
 []⟩
theorem r24_ok : resFun (progU ()) hint live 24 Try.f24 = some r24 := by kernel_rfl
/-- fringelaw44.long -/
def r25 : RFun :=
⟨(.seq (.reg (some [0]) [⟨(some 2), none, (.op false (.old (.assign (.const (.bool false)))))⟩])
 (.seq (.seq (.reg (some [0]) [⟨(some 3), none, (.op false (.old (.assign (.const (.int .i64 0)))))⟩])
 (.block 0 (.loop 2 none (some [0, 3]))))
 (.seq (.reg (some [0]) [⟨(some 16), none, (.op false (.old (.move (.tmp 0))))⟩, ⟨(some 17), none, (.op false (.lenS (.tmp 16)))⟩, ⟨(some 18), none, (.op false (.old (.binOp .gtr 3 (.tmp 17) (.const (.int .i64 20)) 3)))⟩, ⟨(some 2), none, (.op false (.old (.assign (.tmp 18))))⟩])
 .ret))),
 [(.tmp 2)],
 [(2, ⟨none, (some [0, 3]), (.seq (.seq (.reg (some [0, 3]) [⟨(some 4), none, (.op false (.old (.move (.tmp 3))))⟩, ⟨(some 5), none, (.op false (.old (.move (.tmp 0))))⟩, ⟨(some 6), none, (.op false (.lenS (.tmp 5)))⟩, ⟨(some 7), none, (.op false (.old (.binOp .lss 3 (.tmp 4) (.tmp 6) 3)))⟩])
 (.cond (.tmp 7) .skip
 (.exit 0 (some [0]))))
 (.seq (.block 1 (.seq (.reg (some [0, 3]) [⟨(some 10), none, (.op false (.old (.move (.tmp 0))))⟩, ⟨(some 11), none, (.op false (.old (.move (.tmp 3))))⟩, ⟨(some 12), none, (.op false (.ixS 1 (.tmp 10) (.tmp 11)))⟩, ⟨(some 13), none, (.op false (.load1 .str (.tmp 12)))⟩, ⟨(some 14), none, (.op false (.lenStr (.tmp 13)))⟩, ⟨(some 15), none, (.op false (.old (.binOp .gtr 3 (.tmp 14) (.const (.int .i64 100)) 3)))⟩])
 (.cond (.tmp 15) (.seq (.reg (some []) [⟨(some 2), none, (.op false (.old (.assign (.const (.bool true)))))⟩])
 .ret)
 .skip)))
 (.reg (some [0, 3]) [⟨(some 8), none, (.op false (.old (.move (.tmp 3))))⟩, ⟨(some 9), none, (.op false (.old (.binOp .add 3 (.tmp 8) (.const (.int .i64 1)) 3)))⟩, ⟨(some 3), none, (.op false (.old (.assign (.tmp 9))))⟩])))⟩)],
 []⟩
theorem r25_ok : resFun (progU ()) hint live 25 Try.f25 = some r25 := by kernel_rfl
/-- origin.Needs -/
def r26 : RFun :=
⟨(.seq (.reg (some [0, 1]) [⟨(some 4), none, (.op false (.old (.assign (.const (.slice none 0 0)))))⟩, ⟨(some 5), none, (.op false (.old (.assign (.const (.int .i64 0)))))⟩])
 (.seq (.reg (some [0, 1]) [⟨(some 15), none, (.op false (.old (.move (.tmp 0))))⟩, ⟨(some 16), none, (.call (.func 36) [(.tmp 15)] (some (.tup [(.one .any), (.one (.int .i64))])))⟩, ⟨(some 14), none, (.op false (.old (.move (.tmp 16))))⟩, ⟨(some 17), none, (.op false (.old (.extract (.tmp 14) 0)))⟩, ⟨(some 18), none, (.op false (.old (.extract (.tmp 14) 1)))⟩, ⟨(some 6), none, (.op false (.old (.assign (.tmp 17))))⟩, ⟨(some 7), none, (.op false (.old (.assign (.tmp 18))))⟩])
 (.seq (.seq (.reg (some [0, 1, 6, 7]) [⟨(some 19), none, (.op false (.old (.move (.tmp 7))))⟩, ⟨(some 20), none, (.op false (.old (.binOp .neq 26 (.tmp 19) (.const (.int .i64 0)) 26)))⟩])
 (.cond (.tmp 20) (.seq (.reg (some [7]) [⟨(some 21), none, (.op false (.old (.move (.tmp 7))))⟩, ⟨(some 4), none, (.op false (.old (.assign (.const (.slice none 0 0)))))⟩, ⟨(some 5), none, (.op false (.old (.assign (.tmp 21))))⟩])
 .ret)
 .skip))
 (.seq (.seq (.reg (some [0, 1, 6]) [⟨(some 23), none, (.op false (.old (.move (.tmp 6))))⟩, ⟨(some 24), none, (.op false (.old (.move (.tmp 1))))⟩, ⟨(some 25), none, (.op false (.old (.lookup 63 (.tmp 23) (.tmp 24) true)))⟩, ⟨(some 22), none, (.op false (.old (.move (.tmp 25))))⟩, ⟨(some 26), none, (.op false (.old (.extract (.tmp 22) 0)))⟩, ⟨(some 27), none, (.op false (.old (.extract (.tmp 22) 1)))⟩, ⟨(some 8), none, (.op false (.old (.assign (.tmp 26))))⟩, ⟨(some 9), none, (.op false (.old (.assign (.tmp 27))))⟩])
 (.seq (.reg (some [0, 1, 9]) [⟨(some 28), none, (.op false (.old (.move (.tmp 9))))⟩, ⟨(some 29), none, (.op false (.old (.unOp .not 4 (.tmp 28))))⟩])
 (.cond (.tmp 29) (.seq (.reg (some []) [⟨(some 4), none, (.op false (.old (.assign (.const (.slice none 0 0)))))⟩, ⟨(some 5), none, (.op false (.old (.assign (.const (.int .i64 6)))))⟩])
 .ret)
 .skip)))
 (.seq (.reg (some [0, 1]) [⟨(some 30), none, (.op false (.old (.makeMap 70 none)))⟩, ⟨(some 10), none, (.op false (.old (.assign (.tmp 30))))⟩])
 (.seq (.seq (.reg (some [0, 1, 10]) [⟨(some 31), none, (.op false (.old (.move (.tmp 0))))⟩, ⟨(some 32), none, (.op false (.lenS (.tmp 31)))⟩, ⟨(some 33), none, (.op false (.old (.binOp .sub 3 (.tmp 32) (.const (.int .i64 1)) 3)))⟩, ⟨(some 11), none, (.op false (.old (.assign (.tmp 33))))⟩])
 (.block 0 (.loop 9 none (some [0, 1, 10, 11]))))
 (.seq (.reg (some [0, 10]) [⟨(some 68), none, (.op false (.old (.move (.tmp 0))))⟩, ⟨(some 69), none, (.op false (.old (.move (.tmp 10))))⟩, ⟨(some 70), none, (.call (.func 38) [(.tmp 68), (.tmp 69)] (some (.val (.one .slice))))⟩, ⟨(some 4), none, (.op false (.old (.assign (.tmp 70))))⟩, ⟨(some 5), none, (.op false (.old (.assign (.const (.int .i64 0)))))⟩])
 .ret))))))),
 [(.tmp 4), (.tmp 5)],
 [(9, ⟨none, (some [0, 1, 10, 11]), (.seq (.seq (.reg (some [0, 1, 10, 11]) [⟨(some 34), none, (.op false (.old (.move (.tmp 11))))⟩, ⟨(some 35), none, (.op false (.old (.binOp .geq 3 (.tmp 34) (.const (.int .i64 0)) 3)))⟩])
 (.cond (.tmp 35) .skip
 (.exit 0 (some [0, 10]))))
 (.seq (.block 1 (.seq (.seq (.reg (some [0, 1, 10, 11]) [⟨(some 38), none, (.op false (.old (.move (.tmp 0))))⟩, ⟨(some 39), none, (.op false (.old (.move (.tmp 11))))⟩, ⟨(some 40), none, (.op false (.ixS 6 (.tmp 38) (.tmp 39)))⟩, ⟨(some 41), none, (.op false (.fieldAddr 0 (.tmp 40)))⟩, ⟨(some 42), none, (.op false (.load1 .str (.tmp 41)))⟩, ⟨(some 43), none, (.op false (.old (.move (.tmp 1))))⟩, ⟨(some 44), none, (.op false (.old (.binOp .neq 9 (.tmp 42) (.tmp 43) 9)))⟩, ⟨(some 45), none, (.op false (.old (.move (.tmp 44))))⟩, ⟨(some 46), (some (45, true)), (.op false (.old (.move (.tmp 10))))⟩, ⟨(some 47), (some (45, true)), (.op false (.old (.move (.tmp 0))))⟩, ⟨(some 48), (some (45, true)), (.op false (.old (.move (.tmp 11))))⟩, ⟨(some 49), (some (45, true)), (.op false (.ixS 6 (.tmp 47) (.tmp 48)))⟩, ⟨(some 50), (some (45, true)), (.op false (.fieldAddr 0 (.tmp 49)))⟩, ⟨(some 51), (some (45, true)), (.op false (.load1 .str (.tmp 50)))⟩, ⟨(some 52), (some (45, true)), (.op false (.old (.lookup 70 (.tmp 46) (.tmp 51) false)))⟩, ⟨(some 53), (some (45, true)), (.op false (.old (.unOp .not 4 (.tmp 52))))⟩, ⟨(some 54), none, (.op false (.old (.pick (.tmp 45) (.tmp 53) (.const (.bool false)))))⟩])
 (.cond (.tmp 54) (.exit 1 (some [0, 1, 10, 11]))
 .skip))
 (.seq (.reg (some [0, 1, 10, 11]) [⟨(some 55), none, (.op false (.old (.move (.tmp 0))))⟩, ⟨(some 56), none, (.op false (.old (.move (.tmp 11))))⟩, ⟨(some 57), none, (.op false (.ixS 6 (.tmp 55) (.tmp 56)))⟩, ⟨(some 58), none, (.op false (.fieldAddr 2 (.tmp 57)))⟩, ⟨(some 59), none, (.op false (.load1 .slice (.tmp 58)))⟩, ⟨(some 60), none, (.op false (.lenS (.tmp 59)))⟩, ⟨(some 61), none, (.op false (.old (.move (.const (.int .i64 0)))))⟩])
 (.block 2 (.loop 13 none (some [0, 1, 10, 11, 59, 60, 61]))))))
 (.reg (some [0, 1, 10, 11]) [⟨(some 36), none, (.op false (.old (.move (.tmp 11))))⟩, ⟨(some 37), none, (.op false (.old (.binOp .sub 3 (.tmp 36) (.const (.int .i64 1)) 3)))⟩, ⟨(some 11), none, (.op false (.old (.assign (.tmp 37))))⟩])))⟩), (13, ⟨none, (some [0, 1, 10, 11, 59, 60, 61]), (.seq (.reg (some [0, 1, 10, 11, 59, 60, 61]) [⟨(some 62), none, (.op false (.old (.binOp .lss 3 (.tmp 61) (.tmp 60) 3)))⟩])
 (.seq (.cond (.tmp 62) .skip
 (.exit 2 (some [0, 1, 10, 11])))
 (.seq (.block 3 (.seq (.reg (some [0, 1, 10, 11, 59, 60, 61]) [⟨(some 63), none, (.op false (.ixS 1 (.tmp 59) (.tmp 61)))⟩, ⟨(some 64), none, (.op false (.load1 .str (.tmp 63)))⟩, ⟨(some 13), none, (.op false (.old (.assign (.tmp 64))))⟩])
 (.reg (some [0, 1, 10, 11, 13, 59, 60, 61]) [⟨(some 65), none, (.op false (.old (.move (.tmp 10))))⟩, ⟨(some 66), none, (.op false (.old (.move (.tmp 13))))⟩, ⟨none, none, (.op false (.old (.mapUpdate 70 (.tmp 65) (.tmp 66) (.const (.bool true)))))⟩])))
 (.reg (some [0, 1, 10, 11, 59, 60, 61]) [⟨(some 67), none, (.op false (.old (.binOp .add 3 (.tmp 61) (.const (.int .i64 1)) 3)))⟩, ⟨(some 61), none, (.op false (.old (.move (.tmp 67))))⟩]))))⟩)],
 []⟩
theorem r26_ok : resFun (progU ()) hint live 26 Try.f26 = some r26 := by kernel_rfl
/-- fringeref44.Needs -/
def r27 : RFun :=
⟨(.seq (.reg (some [0, 1]) [⟨(some 4), none, (.op false (.old (.assign (.const (.slice none 0 0)))))⟩, ⟨(some 5), none, (.op false (.old (.assign (.const (.int .i64 0)))))⟩])
 (.seq (.seq (.reg (some [0, 1]) [⟨(some 9), none, (.op false (.old (.move (.tmp 0))))⟩, ⟨(some 10), none, (.call (.func 22) [(.tmp 9)] (some (.val (.one (.int .i64)))))⟩, ⟨(some 6), none, (.op false (.old (.assign (.tmp 10))))⟩])
 (.seq (.reg (some [0, 1, 6]) [⟨(some 11), none, (.op false (.old (.move (.tmp 6))))⟩, ⟨(some 12), none, (.op false (.old (.binOp .neq 3 (.tmp 11) (.const (.int .i64 0)) 3)))⟩])
 (.cond (.tmp 12) (.seq (.reg (some [6]) [⟨(some 13), none, (.op false (.old (.move (.tmp 6))))⟩, ⟨(some 4), none, (.op false (.old (.assign (.const (.slice none 0 0)))))⟩, ⟨(some 5), none, (.op false (.old (.assign (.tmp 13))))⟩])
 .ret)
 .skip)))
 (.seq (.reg (some [0, 1]) [⟨(some 14), none, (.op false (.old (.move (.tmp 0))))⟩, ⟨(some 15), none, (.op false (.old (.move (.tmp 1))))⟩, ⟨(some 16), none, (.call (.func 32) [(.tmp 14), (.tmp 15)] (some (.val (.one (.int .i64)))))⟩, ⟨(some 7), none, (.op false (.old (.assign (.tmp 16))))⟩])
 (.seq (.seq (.reg (some [0, 7]) [⟨(some 17), none, (.op false (.old (.move (.tmp 7))))⟩, ⟨(some 18), none, (.op false (.old (.binOp .lss 3 (.tmp 17) (.const (.int .i64 0)) 3)))⟩])
 (.cond (.tmp 18) (.seq (.reg (some []) [⟨(some 4), none, (.op false (.old (.assign (.const (.slice none 0 0)))))⟩, ⟨(some 5), none, (.op false (.old (.assign (.const (.int .i64 6)))))⟩])
 .ret)
 .skip))
 (.seq (.reg (some [0, 7]) [⟨(some 19), none, (.op false (.old (.move (.tmp 0))))⟩, ⟨(some 20), none, (.op false (.lenS (.tmp 19)))⟩, ⟨(some 21), none, (.op false (.mkSlice 1 [(.bool false)] (.tmp 20) (.tmp 20)))⟩, ⟨(some 8), none, (.op false (.old (.assign (.tmp 21))))⟩])
 (.seq (.reg (some [0, 7, 8]) [⟨(some 22), none, (.op false (.old (.move (.tmp 8))))⟩, ⟨(some 23), none, (.op false (.old (.move (.tmp 7))))⟩, ⟨(some 24), none, (.op false (.ixS 1 (.tmp 22) (.tmp 23)))⟩, ⟨none, none, (.op false (.store 1 (.tmp 24) (.const (.bool true))))⟩])
 (.seq (.reg (some [0, 7, 8]) [⟨(some 25), none, (.op false (.old (.move (.tmp 0))))⟩, ⟨(some 26), none, (.op false (.old (.move (.tmp 8))))⟩, ⟨(some 27), none, (.op false (.old (.move (.tmp 0))))⟩, ⟨(some 28), none, (.op false (.lenS (.tmp 27)))⟩, ⟨(some 29), none, (.op false (.mkSlice 1 [(.bool false)] (.tmp 28) (.tmp 28)))⟩, ⟨(some 30), none, (.call (.func 39) [(.tmp 25), (.tmp 26), (.tmp 29)] (some (.val (.one .slice))))⟩, ⟨(some 8), none, (.op false (.old (.assign (.tmp 30))))⟩])
 (.seq (.reg (some [0, 7, 8]) [⟨(some 31), none, (.op false (.old (.move (.tmp 8))))⟩, ⟨(some 32), none, (.op false (.old (.move (.tmp 7))))⟩, ⟨(some 33), none, (.op false (.ixS 1 (.tmp 31) (.tmp 32)))⟩, ⟨none, none, (.op false (.store 1 (.tmp 33) (.const (.bool false))))⟩])
 (.seq (.reg (some [0, 8]) [⟨(some 34), none, (.op false (.old (.move (.tmp 0))))⟩, ⟨(some 35), none, (.op false (.old (.move (.tmp 8))))⟩, ⟨(some 36), none, (.call (.func 40) [(.tmp 34), (.tmp 35)] (some (.val (.one .slice))))⟩, ⟨(some 4), none, (.op false (.old (.assign (.tmp 36))))⟩, ⟨(some 5), none, (.op false (.old (.assign (.const (.int .i64 0)))))⟩])
 .ret))))))))),
 [(.tmp 4), (.tmp 5)],
 [],
 []⟩
theorem r27_ok : resFun (progU ()) hint live 27 Try.f27 = some r27 := by kernel_rfl
/-- origin.Remake -/
def r28 : RFun :=
⟨(.seq (.reg (some [0, 1, 2]) [⟨(some 6), none, (.op false (.old (.assign (.const (.slice none 0 0)))))⟩, ⟨(some 7), none, (.op false (.old (.assign (.const (.int .i64 0)))))⟩])
 (.seq (.reg (some [0, 1, 2]) [⟨(some 22), none, (.op false (.old (.move (.tmp 0))))⟩, ⟨(some 23), none, (.call (.func 36) [(.tmp 22)] (some (.tup [(.one .any), (.one (.int .i64))])))⟩, ⟨(some 21), none, (.op false (.old (.move (.tmp 23))))⟩, ⟨(some 24), none, (.op false (.old (.extract (.tmp 21) 0)))⟩, ⟨(some 25), none, (.op false (.old (.extract (.tmp 21) 1)))⟩, ⟨(some 8), none, (.op false (.old (.assign (.tmp 24))))⟩, ⟨(some 9), none, (.op false (.old (.assign (.tmp 25))))⟩])
 (.seq (.seq (.reg (some [0, 1, 2, 8, 9]) [⟨(some 26), none, (.op false (.old (.move (.tmp 9))))⟩, ⟨(some 27), none, (.op false (.old (.binOp .neq 26 (.tmp 26) (.const (.int .i64 0)) 26)))⟩])
 (.cond (.tmp 27) (.seq (.reg (some [9]) [⟨(some 28), none, (.op false (.old (.move (.tmp 9))))⟩, ⟨(some 6), none, (.op false (.old (.assign (.const (.slice none 0 0)))))⟩, ⟨(some 7), none, (.op false (.old (.assign (.tmp 28))))⟩])
 .ret)
 .skip))
 (.seq (.seq (.reg (some [0, 1, 2, 8]) [⟨(some 30), none, (.op false (.old (.move (.tmp 8))))⟩, ⟨(some 31), none, (.op false (.old (.move (.tmp 2))))⟩, ⟨(some 32), none, (.op false (.old (.lookup 63 (.tmp 30) (.tmp 31) true)))⟩, ⟨(some 29), none, (.op false (.old (.move (.tmp 32))))⟩, ⟨(some 33), none, (.op false (.old (.extract (.tmp 29) 0)))⟩, ⟨(some 34), none, (.op false (.old (.extract (.tmp 29) 1)))⟩, ⟨(some 10), none, (.op false (.old (.assign (.tmp 33))))⟩, ⟨(some 11), none, (.op false (.old (.assign (.tmp 34))))⟩])
 (.seq (.reg (some [0, 1, 2, 8, 11]) [⟨(some 35), none, (.op false (.old (.move (.tmp 11))))⟩, ⟨(some 36), none, (.op false (.old (.unOp .not 4 (.tmp 35))))⟩])
 (.cond (.tmp 36) (.seq (.reg (some []) [⟨(some 6), none, (.op false (.old (.assign (.const (.slice none 0 0)))))⟩, ⟨(some 7), none, (.op false (.old (.assign (.const (.int .i64 6)))))⟩])
 .ret)
 .skip)))
 (.seq (.reg (some [0, 1, 2, 8]) [⟨(some 37), none, (.op false (.old (.makeMap 70 none)))⟩, ⟨(some 12), none, (.op false (.old (.assign (.tmp 37))))⟩])
 (.seq (.seq (.reg (some [0, 1, 2, 8, 12]) [⟨(some 38), none, (.op false (.old (.move (.tmp 1))))⟩, ⟨(some 39), none, (.op false (.lenS (.tmp 38)))⟩, ⟨(some 40), none, (.op false (.old (.move (.const (.int .i64 0)))))⟩])
 (.block 0 (.loop 9 none (some [0, 2, 8, 12, 38, 39, 40]))))
 (.seq (.reg (some [0, 2, 12]) [⟨(some 55), none, (.op false (.old (.makeMap 70 none)))⟩, ⟨(some 17), none, (.op false (.old (.assign (.tmp 55))))⟩])
 (.seq (.reg (some [0, 2, 12, 17]) [⟨(some 56), none, (.op false (.old (.move (.tmp 17))))⟩, ⟨(some 57), none, (.op false (.old (.move (.tmp 2))))⟩, ⟨(some 58), none, (.op false (.old (.move (.tmp 12))))⟩, ⟨(some 59), none, (.op false (.old (.move (.tmp 2))))⟩, ⟨(some 60), none, (.op false (.old (.lookup 70 (.tmp 58) (.tmp 59) false)))⟩, ⟨(some 61), none, (.op false (.old (.unOp .not 4 (.tmp 60))))⟩, ⟨none, none, (.op false (.old (.mapUpdate 70 (.tmp 56) (.tmp 57) (.tmp 61))))⟩])
 (.seq (.seq (.reg (some [0, 12, 17]) [⟨(some 62), none, (.op false (.old (.move (.tmp 0))))⟩, ⟨(some 63), none, (.op false (.lenS (.tmp 62)))⟩, ⟨(some 64), none, (.op false (.old (.binOp .sub 3 (.tmp 63) (.const (.int .i64 1)) 3)))⟩, ⟨(some 18), none, (.op false (.old (.assign (.tmp 64))))⟩])
 (.block 2 (.loop 19 none (some [0, 12, 17, 18]))))
 (.seq (.reg (some [0, 17]) [⟨(some 100), none, (.op false (.old (.move (.tmp 0))))⟩, ⟨(some 101), none, (.op false (.old (.move (.tmp 17))))⟩, ⟨(some 102), none, (.call (.func 38) [(.tmp 100), (.tmp 101)] (some (.val (.one .slice))))⟩, ⟨(some 6), none, (.op false (.old (.assign (.tmp 102))))⟩, ⟨(some 7), none, (.op false (.old (.assign (.const (.int .i64 0)))))⟩])
 .ret)))))))))),
 [(.tmp 6), (.tmp 7)],
 [(9, ⟨none, (some [0, 2, 8, 12, 38, 39, 40]), (.seq (.reg (some [0, 2, 8, 12, 38, 39, 40]) [⟨(some 41), none, (.op false (.old (.binOp .lss 3 (.tmp 40) (.tmp 39) 3)))⟩])
 (.seq (.cond (.tmp 41) .skip
 (.exit 0 (some [0, 2, 12])))
 (.seq (.block 1 (.seq (.reg (some [0, 2, 8, 12, 38, 39, 40]) [⟨(some 42), none, (.op false (.ixS 1 (.tmp 38) (.tmp 40)))⟩, ⟨(some 43), none, (.op false (.load1 .str (.tmp 42)))⟩, ⟨(some 14), none, (.op false (.old (.assign (.tmp 43))))⟩])
 (.seq (.seq (.reg (some [0, 2, 8, 12, 14, 38, 39, 40]) [⟨(some 45), none, (.op false (.old (.move (.tmp 8))))⟩, ⟨(some 46), none, (.op false (.old (.move (.tmp 14))))⟩, ⟨(some 47), none, (.op false (.old (.lookup 63 (.tmp 45) (.tmp 46) true)))⟩, ⟨(some 44), none, (.op false (.old (.move (.tmp 47))))⟩, ⟨(some 48), none, (.op false (.old (.extract (.tmp 44) 0)))⟩, ⟨(some 49), none, (.op false (.old (.extract (.tmp 44) 1)))⟩, ⟨(some 15), none, (.op false (.old (.assign (.tmp 48))))⟩, ⟨(some 16), none, (.op false (.old (.assign (.tmp 49))))⟩])
 (.seq (.reg (some [0, 2, 8, 12, 14, 16, 38, 39, 40]) [⟨(some 50), none, (.op false (.old (.move (.tmp 16))))⟩, ⟨(some 51), none, (.op false (.old (.unOp .not 4 (.tmp 50))))⟩])
 (.cond (.tmp 51) (.seq (.reg (some []) [⟨(some 6), none, (.op false (.old (.assign (.const (.slice none 0 0)))))⟩, ⟨(some 7), none, (.op false (.old (.assign (.const (.int .i64 6)))))⟩])
 .ret)
 .skip)))
 (.reg (some [0, 2, 8, 12, 14, 38, 39, 40]) [⟨(some 52), none, (.op false (.old (.move (.tmp 12))))⟩, ⟨(some 53), none, (.op false (.old (.move (.tmp 14))))⟩, ⟨none, none, (.op false (.old (.mapUpdate 70 (.tmp 52) (.tmp 53) (.const (.bool true)))))⟩]))))
 (.reg (some [0, 2, 8, 12, 38, 39, 40]) [⟨(some 54), none, (.op false (.old (.binOp .add 3 (.tmp 40) (.const (.int .i64 1)) 3)))⟩, ⟨(some 40), none, (.op false (.old (.move (.tmp 54))))⟩]))))⟩), (19, ⟨none, (some [0, 12, 17, 18]), (.seq (.seq (.reg (some [0, 12, 17, 18]) [⟨(some 65), none, (.op false (.old (.move (.tmp 18))))⟩, ⟨(some 66), none, (.op false (.old (.binOp .geq 3 (.tmp 65) (.const (.int .i64 0)) 3)))⟩])
 (.cond (.tmp 66) .skip
 (.exit 2 (some [0, 17]))))
 (.seq (.block 3 (.seq (.seq (.reg (some [0, 12, 17, 18]) [⟨(some 69), none, (.op false (.old (.move (.tmp 17))))⟩, ⟨(some 70), none, (.op false (.old (.move (.tmp 0))))⟩, ⟨(some 71), none, (.op false (.old (.move (.tmp 18))))⟩, ⟨(some 72), none, (.op false (.ixS 6 (.tmp 70) (.tmp 71)))⟩, ⟨(some 73), none, (.op false (.fieldAddr 0 (.tmp 72)))⟩, ⟨(some 74), none, (.op false (.load1 .str (.tmp 73)))⟩, ⟨(some 75), none, (.op false (.old (.lookup 70 (.tmp 69) (.tmp 74) false)))⟩, ⟨(some 76), none, (.op false (.old (.unOp .not 4 (.tmp 75))))⟩])
 (.cond (.tmp 76) (.exit 3 (some [0, 12, 17, 18]))
 .skip))
 (.seq (.seq (.reg (some [0, 12, 17, 18]) [⟨(some 77), none, (.op false (.old (.move (.tmp 0))))⟩, ⟨(some 78), none, (.op false (.old (.move (.tmp 18))))⟩, ⟨(some 79), none, (.op false (.ixS 6 (.tmp 77) (.tmp 78)))⟩, ⟨(some 80), none, (.op false (.fieldAddr 1 (.tmp 79)))⟩, ⟨(some 81), none, (.op false (.load1 (.int .u8) (.tmp 80)))⟩, ⟨(some 82), none, (.op false (.old (.binOp .eql 5 (.tmp 81) (.const (.int .u8 1)) 5)))⟩])
 (.cond (.tmp 82) (.seq (.reg (some []) [⟨(some 6), none, (.op false (.old (.assign (.const (.slice none 0 0)))))⟩, ⟨(some 7), none, (.op false (.old (.assign (.const (.int .i64 32)))))⟩])
 .ret)
 .skip))
 (.seq (.reg (some [0, 12, 17, 18]) [⟨(some 83), none, (.op false (.old (.move (.tmp 0))))⟩, ⟨(some 84), none, (.op false (.old (.move (.tmp 18))))⟩, ⟨(some 85), none, (.op false (.ixS 6 (.tmp 83) (.tmp 84)))⟩, ⟨(some 86), none, (.op false (.fieldAddr 2 (.tmp 85)))⟩, ⟨(some 87), none, (.op false (.load1 .slice (.tmp 86)))⟩, ⟨(some 88), none, (.op false (.lenS (.tmp 87)))⟩, ⟨(some 89), none, (.op false (.old (.move (.const (.int .i64 0)))))⟩])
 (.block 4 (.loop 25 none (some [0, 12, 17, 18, 87, 88, 89])))))))
 (.reg (some [0, 12, 17, 18]) [⟨(some 67), none, (.op false (.old (.move (.tmp 18))))⟩, ⟨(some 68), none, (.op false (.old (.binOp .sub 3 (.tmp 67) (.const (.int .i64 1)) 3)))⟩, ⟨(some 18), none, (.op false (.old (.assign (.tmp 68))))⟩])))⟩), (25, ⟨none, (some [0, 12, 17, 18, 87, 88, 89]), (.seq (.reg (some [0, 12, 17, 18, 87, 88, 89]) [⟨(some 90), none, (.op false (.old (.binOp .lss 3 (.tmp 89) (.tmp 88) 3)))⟩])
 (.seq (.cond (.tmp 90) .skip
 (.exit 4 (some [0, 12, 17, 18])))
 (.seq (.block 5 (.seq (.reg (some [0, 12, 17, 18, 87, 88, 89]) [⟨(some 91), none, (.op false (.ixS 1 (.tmp 87) (.tmp 89)))⟩, ⟨(some 92), none, (.op false (.load1 .str (.tmp 91)))⟩, ⟨(some 20), none, (.op false (.old (.assign (.tmp 92))))⟩])
 (.reg (some [0, 12, 17, 18, 20, 87, 88, 89]) [⟨(some 93), none, (.op false (.old (.move (.tmp 17))))⟩, ⟨(some 94), none, (.op false (.old (.move (.tmp 20))))⟩, ⟨(some 95), none, (.op false (.old (.move (.tmp 12))))⟩, ⟨(some 96), none, (.op false (.old (.move (.tmp 20))))⟩, ⟨(some 97), none, (.op false (.old (.lookup 70 (.tmp 95) (.tmp 96) false)))⟩, ⟨(some 98), none, (.op false (.old (.unOp .not 4 (.tmp 97))))⟩, ⟨none, none, (.op false (.old (.mapUpdate 70 (.tmp 93) (.tmp 94) (.tmp 98))))⟩])))
 (.reg (some [0, 12, 17, 18, 87, 88, 89]) [⟨(some 99), none, (.op false (.old (.binOp .add 3 (.tmp 89) (.const (.int .i64 1)) 3)))⟩, ⟨(some 89), none, (.op false (.old (.move (.tmp 99))))⟩]))))⟩)],
 []⟩
theorem r28_ok : resFun (progU ()) hint live 28 Try.f28 = some r28 := by kernel_rfl
/-- fringeref44.Remake -/
def r29 : RFun :=
⟨(.seq (.reg (some [0, 1, 2]) [⟨(some 6), none, (.op false (.old (.assign (.const (.slice none 0 0)))))⟩, ⟨(some 7), none, (.op false (.old (.assign (.const (.int .i64 0)))))⟩])
 (.seq (.seq (.reg (some [0, 1, 2]) [⟨(some 15), none, (.op false (.old (.move (.tmp 0))))⟩, ⟨(some 16), none, (.call (.func 22) [(.tmp 15)] (some (.val (.one (.int .i64)))))⟩, ⟨(some 8), none, (.op false (.old (.assign (.tmp 16))))⟩])
 (.seq (.reg (some [0, 1, 2, 8]) [⟨(some 17), none, (.op false (.old (.move (.tmp 8))))⟩, ⟨(some 18), none, (.op false (.old (.binOp .neq 3 (.tmp 17) (.const (.int .i64 0)) 3)))⟩])
 (.cond (.tmp 18) (.seq (.reg (some [8]) [⟨(some 19), none, (.op false (.old (.move (.tmp 8))))⟩, ⟨(some 6), none, (.op false (.old (.assign (.const (.slice none 0 0)))))⟩, ⟨(some 7), none, (.op false (.old (.assign (.tmp 19))))⟩])
 .ret)
 .skip)))
 (.seq (.reg (some [0, 1, 2]) [⟨(some 20), none, (.op false (.old (.move (.tmp 0))))⟩, ⟨(some 21), none, (.op false (.old (.move (.tmp 2))))⟩, ⟨(some 22), none, (.call (.func 32) [(.tmp 20), (.tmp 21)] (some (.val (.one (.int .i64)))))⟩, ⟨(some 9), none, (.op false (.old (.assign (.tmp 22))))⟩])
 (.seq (.seq (.reg (some [0, 1, 9]) [⟨(some 23), none, (.op false (.old (.move (.tmp 9))))⟩, ⟨(some 24), none, (.op false (.old (.binOp .lss 3 (.tmp 23) (.const (.int .i64 0)) 3)))⟩])
 (.cond (.tmp 24) (.seq (.reg (some []) [⟨(some 6), none, (.op false (.old (.assign (.const (.slice none 0 0)))))⟩, ⟨(some 7), none, (.op false (.old (.assign (.const (.int .i64 6)))))⟩])
 .ret)
 .skip))
 (.seq (.draw (some [0, 1, 9]) 8 [⟨⟨(some 25), none, (.op false (.old (.move (.tmp 0))))⟩, 0, .none, [1, 2, 6, 7], false, true⟩, ⟨⟨(some 26), none, (.op false (.lenS (.tmp 25)))⟩, 1, .none, [2, 6, 7], false, true⟩, ⟨⟨(some 27), none, (.op false (.mkSlice 1 [(.bool false)] (.tmp 26) (.tmp 26)))⟩, 2, (.new false), [6, 7], false, true⟩, ⟨⟨(some 28), none, (.op false (.old (.move (.tmp 0))))⟩, 3, .none, [4, 5, 7], false, true⟩, ⟨⟨(some 29), none, (.op false (.lenS (.tmp 28)))⟩, 4, .none, [5, 7], false, true⟩, ⟨⟨(some 30), none, (.op false (.mkSlice 1 [(.bool false)] (.tmp 29) (.tmp 29)))⟩, 5, (.new false), [7], false, true⟩, ⟨⟨(some 10), none, (.op false (.old (.assign (.tmp 27))))⟩, 6, .none, [7], false, true⟩, ⟨⟨(some 11), none, (.op false (.old (.assign (.tmp 30))))⟩, 7, .none, [], false, true⟩])
 (.seq (.seq (.reg (some [0, 1, 9, 10, 11]) [⟨(some 12), none, (.op false (.old (.assign (.const (.int .i64 0)))))⟩])
 (.block 0 (.loop 9 none (some [0, 1, 9, 10, 11, 12]))))
 (.seq (.reg (some [0, 9, 10, 11]) [⟨(some 48), none, (.op false (.old (.move (.tmp 11))))⟩, ⟨(some 49), none, (.op false (.old (.move (.tmp 9))))⟩, ⟨(some 50), none, (.op false (.old (.move (.tmp 10))))⟩, ⟨(some 51), none, (.op false (.old (.move (.tmp 9))))⟩, ⟨(some 52), none, (.op false (.ixS 1 (.tmp 50) (.tmp 51)))⟩, ⟨(some 53), none, (.op false (.load1 .bool (.tmp 52)))⟩, ⟨(some 54), none, (.op false (.old (.unOp .not 4 (.tmp 53))))⟩, ⟨(some 55), none, (.op false (.ixS 1 (.tmp 48) (.tmp 49)))⟩, ⟨none, none, (.op false (.store 1 (.tmp 55) (.tmp 54)))⟩])
 (.seq (.reg (some [0, 10, 11]) [⟨(some 56), none, (.op false (.old (.move (.tmp 0))))⟩, ⟨(some 57), none, (.op false (.old (.move (.tmp 11))))⟩, ⟨(some 58), none, (.op false (.old (.move (.tmp 10))))⟩, ⟨(some 59), none, (.call (.func 39) [(.tmp 56), (.tmp 57), (.tmp 58)] (some (.val (.one .slice))))⟩, ⟨(some 11), none, (.op false (.old (.assign (.tmp 59))))⟩])
 (.seq (.seq (.reg (some [0, 11]) [⟨(some 14), none, (.op false (.old (.assign (.const (.int .i64 0)))))⟩])
 (.block 2 (.loop 18 none (some [0, 11, 14]))))
 (.seq (.reg (some [0, 11]) [⟨(some 78), none, (.op false (.old (.move (.tmp 0))))⟩, ⟨(some 79), none, (.op false (.old (.move (.tmp 11))))⟩, ⟨(some 80), none, (.call (.func 40) [(.tmp 78), (.tmp 79)] (some (.val (.one .slice))))⟩, ⟨(some 6), none, (.op false (.old (.assign (.tmp 80))))⟩, ⟨(some 7), none, (.op false (.old (.assign (.const (.int .i64 0)))))⟩])
 .ret)))))))))),
 [(.tmp 6), (.tmp 7)],
 [(9, ⟨none, (some [0, 1, 9, 10, 11, 12]), (.seq (.seq (.reg (some [0, 1, 9, 10, 11, 12]) [⟨(some 31), none, (.op false (.old (.move (.tmp 12))))⟩, ⟨(some 32), none, (.op false (.old (.move (.tmp 1))))⟩, ⟨(some 33), none, (.op false (.lenS (.tmp 32)))⟩, ⟨(some 34), none, (.op false (.old (.binOp .lss 3 (.tmp 31) (.tmp 33) 3)))⟩])
 (.cond (.tmp 34) .skip
 (.exit 0 (some [0, 9, 10, 11]))))
 (.seq (.block 1 (.seq (.reg (some [0, 1, 9, 10, 11, 12]) [⟨(some 37), none, (.op false (.old (.move (.tmp 0))))⟩, ⟨(some 38), none, (.op false (.old (.move (.tmp 1))))⟩, ⟨(some 39), none, (.op false (.old (.move (.tmp 12))))⟩, ⟨(some 40), none, (.op false (.ixS 1 (.tmp 38) (.tmp 39)))⟩, ⟨(some 41), none, (.op false (.load1 .str (.tmp 40)))⟩, ⟨(some 42), none, (.call (.func 32) [(.tmp 37), (.tmp 41)] (some (.val (.one (.int .i64)))))⟩, ⟨(some 13), none, (.op false (.old (.assign (.tmp 42))))⟩])
 (.seq (.seq (.reg (some [0, 1, 9, 10, 11, 12, 13]) [⟨(some 43), none, (.op false (.old (.move (.tmp 13))))⟩, ⟨(some 44), none, (.op false (.old (.binOp .lss 3 (.tmp 43) (.const (.int .i64 0)) 3)))⟩])
 (.cond (.tmp 44) (.seq (.reg (some []) [⟨(some 6), none, (.op false (.old (.assign (.const (.slice none 0 0)))))⟩, ⟨(some 7), none, (.op false (.old (.assign (.const (.int .i64 6)))))⟩])
 .ret)
 .skip))
 (.reg (some [0, 1, 9, 10, 11, 12, 13]) [⟨(some 45), none, (.op false (.old (.move (.tmp 10))))⟩, ⟨(some 46), none, (.op false (.old (.move (.tmp 13))))⟩, ⟨(some 47), none, (.op false (.ixS 1 (.tmp 45) (.tmp 46)))⟩, ⟨none, none, (.op false (.store 1 (.tmp 47) (.const (.bool true))))⟩]))))
 (.reg (some [0, 1, 9, 10, 11, 12]) [⟨(some 35), none, (.op false (.old (.move (.tmp 12))))⟩, ⟨(some 36), none, (.op false (.old (.binOp .add 3 (.tmp 35) (.const (.int .i64 1)) 3)))⟩, ⟨(some 12), none, (.op false (.old (.assign (.tmp 36))))⟩])))⟩), (18, ⟨none, (some [0, 11, 14]), (.seq (.seq (.reg (some [0, 11, 14]) [⟨(some 60), none, (.op false (.old (.move (.tmp 14))))⟩, ⟨(some 61), none, (.op false (.old (.move (.tmp 0))))⟩, ⟨(some 62), none, (.op false (.lenS (.tmp 61)))⟩, ⟨(some 63), none, (.op false (.old (.binOp .lss 3 (.tmp 60) (.tmp 62) 3)))⟩])
 (.cond (.tmp 63) .skip
 (.exit 2 (some [0, 11]))))
 (.seq (.block 3 (.seq (.reg (some [0, 11, 14]) [⟨(some 66), none, (.op false (.old (.move (.tmp 11))))⟩, ⟨(some 67), none, (.op false (.old (.move (.tmp 14))))⟩, ⟨(some 68), none, (.op false (.ixS 1 (.tmp 66) (.tmp 67)))⟩, ⟨(some 69), none, (.op false (.load1 .bool (.tmp 68)))⟩, ⟨(some 70), none, (.op false (.old (.move (.tmp 69))))⟩, ⟨(some 71), (some (70, true)), (.op false (.old (.move (.tmp 0))))⟩, ⟨(some 72), (some (70, true)), (.op false (.old (.move (.tmp 14))))⟩, ⟨(some 73), (some (70, true)), (.op false (.ixS 6 (.tmp 71) (.tmp 72)))⟩, ⟨(some 74), (some (70, true)), (.op false (.fieldAddr 1 (.tmp 73)))⟩, ⟨(some 75), (some (70, true)), (.op false (.load1 (.int .u8) (.tmp 74)))⟩, ⟨(some 76), (some (70, true)), (.op false (.old (.binOp .eql 5 (.tmp 75) (.const (.int .u8 1)) 5)))⟩, ⟨(some 77), none, (.op false (.old (.pick (.tmp 70) (.tmp 76) (.const (.bool false)))))⟩])
 (.cond (.tmp 77) (.seq (.reg (some []) [⟨(some 6), none, (.op false (.old (.assign (.const (.slice none 0 0)))))⟩, ⟨(some 7), none, (.op false (.old (.assign (.const (.int .i64 32)))))⟩])
 .ret)
 .skip)))
 (.reg (some [0, 11, 14]) [⟨(some 64), none, (.op false (.old (.move (.tmp 14))))⟩, ⟨(some 65), none, (.op false (.old (.binOp .add 3 (.tmp 64) (.const (.int .i64 1)) 3)))⟩, ⟨(some 14), none, (.op false (.old (.assign (.tmp 65))))⟩])))⟩)],
 []⟩
theorem r29_ok : resFun (progU ()) hint live 29 Try.f29 = some r29 := by kernel_rfl
/-- fringelaw44.has -/
def r31 : RFun :=
⟨(.seq (.reg (some [0, 1]) [⟨(some 4), none, (.op false (.old (.assign (.const (.bool false)))))⟩])
 (.seq (.seq (.reg (some [0, 1]) [⟨(some 5), none, (.op false (.old (.assign (.const (.int .i64 0)))))⟩])
 (.block 0 (.loop 2 none (some [0, 1, 5]))))
 (.seq (.reg (some []) [⟨(some 4), none, (.op false (.old (.assign (.const (.bool false)))))⟩])
 .ret))),
 [(.tmp 4)],
 [(2, ⟨none, (some [0, 1, 5]), (.seq (.seq (.reg (some [0, 1, 5]) [⟨(some 6), none, (.op false (.old (.move (.tmp 5))))⟩, ⟨(some 7), none, (.op false (.old (.move (.tmp 0))))⟩, ⟨(some 8), none, (.op false (.lenS (.tmp 7)))⟩, ⟨(some 9), none, (.op false (.old (.binOp .lss 3 (.tmp 6) (.tmp 8) 3)))⟩])
 (.cond (.tmp 9) .skip
 (.exit 0 (some []))))
 (.seq (.block 1 (.seq (.reg (some [0, 1, 5]) [⟨(some 12), none, (.op false (.old (.move (.tmp 0))))⟩, ⟨(some 13), none, (.op false (.old (.move (.tmp 5))))⟩, ⟨(some 14), none, (.op false (.ixS 1 (.tmp 12) (.tmp 13)))⟩, ⟨(some 15), none, (.op false (.load1 .str (.tmp 14)))⟩, ⟨(some 16), none, (.op false (.old (.move (.tmp 1))))⟩, ⟨(some 17), none, (.op false (.old (.binOp .eql 9 (.tmp 15) (.tmp 16) 9)))⟩])
 (.cond (.tmp 17) (.seq (.reg (some []) [⟨(some 4), none, (.op false (.old (.assign (.const (.bool true)))))⟩])
 .ret)
 .skip)))
 (.reg (some [0, 1, 5]) [⟨(some 10), none, (.op false (.old (.move (.tmp 5))))⟩, ⟨(some 11), none, (.op false (.old (.binOp .add 3 (.tmp 10) (.const (.int .i64 1)) 3)))⟩, ⟨(some 5), none, (.op false (.old (.assign (.tmp 11))))⟩])))⟩)],
 []⟩
theorem r31_ok : resFun (progU ()) hint live 31 Try.f31 = some r31 := by kernel_rfl
/-- fringeref44.Index -/
def r32 : RFun :=
⟨(.seq (.reg (some [0, 1]) [⟨(some 4), none, (.op false (.old (.assign (.const (.int .i64 0)))))⟩])
 (.seq (.seq (.reg (some [0, 1]) [⟨(some 5), none, (.op false (.old (.assign (.const (.int .i64 0)))))⟩])
 (.block 0 (.loop 2 none (some [0, 1, 5]))))
 (.seq (.reg (some []) [⟨(some 4), none, (.op false (.old (.assign (.const (.int .i64 (-1))))))⟩])
 .ret))),
 [(.tmp 4)],
 [(2, ⟨none, (some [0, 1, 5]), (.seq (.seq (.reg (some [0, 1, 5]) [⟨(some 6), none, (.op false (.old (.move (.tmp 5))))⟩, ⟨(some 7), none, (.op false (.old (.move (.tmp 0))))⟩, ⟨(some 8), none, (.op false (.lenS (.tmp 7)))⟩, ⟨(some 9), none, (.op false (.old (.binOp .lss 3 (.tmp 6) (.tmp 8) 3)))⟩])
 (.cond (.tmp 9) .skip
 (.exit 0 (some []))))
 (.seq (.block 1 (.seq (.reg (some [0, 1, 5]) [⟨(some 12), none, (.op false (.old (.move (.tmp 0))))⟩, ⟨(some 13), none, (.op false (.old (.move (.tmp 5))))⟩, ⟨(some 14), none, (.op false (.ixS 6 (.tmp 12) (.tmp 13)))⟩, ⟨(some 15), none, (.op false (.fieldAddr 0 (.tmp 14)))⟩, ⟨(some 16), none, (.op false (.load1 .str (.tmp 15)))⟩, ⟨(some 17), none, (.op false (.old (.move (.tmp 1))))⟩, ⟨(some 18), none, (.op false (.old (.binOp .eql 9 (.tmp 16) (.tmp 17) 9)))⟩])
 (.cond (.tmp 18) (.seq (.reg (some [5]) [⟨(some 19), none, (.op false (.old (.move (.tmp 5))))⟩, ⟨(some 4), none, (.op false (.old (.assign (.tmp 19))))⟩])
 .ret)
 .skip)))
 (.reg (some [0, 1, 5]) [⟨(some 10), none, (.op false (.old (.move (.tmp 5))))⟩, ⟨(some 11), none, (.op false (.old (.binOp .add 3 (.tmp 10) (.const (.int .i64 1)) 3)))⟩, ⟨(some 5), none, (.op false (.old (.assign (.tmp 11))))⟩])))⟩)],
 []⟩
theorem r32_ok : resFun (progU ()) hint live 32 Try.f32 = some r32 := by kernel_rfl
/-- origin.products -/
def r36 : RFun :=
⟨(.seq (.reg (some [0]) [⟨(some 2), none, (.op false (.old (.assign (.const (.map none)))))⟩, ⟨(some 3), none, (.op false (.old (.assign (.const (.int .i64 0)))))⟩])
 (.seq (.seq (.reg (some [0]) [⟨(some 14), none, (.op false (.old (.move (.tmp 0))))⟩, ⟨(some 15), none, (.op false (.lenS (.tmp 14)))⟩, ⟨(some 16), none, (.op false (.old (.binOp .gtr 3 (.tmp 15) (.const (.int .i64 40)) 3)))⟩])
 (.cond (.tmp 16) (.seq (.reg (some []) [⟨(some 2), none, (.op false (.old (.assign (.const (.map none)))))⟩, ⟨(some 3), none, (.op false (.old (.assign (.const (.int .i64 4)))))⟩])
 .ret)
 .skip))
 (.seq (.reg (some [0]) [⟨(some 17), none, (.op false (.old (.makeMap 63 none)))⟩, ⟨(some 4), none, (.op false (.new 1 [(.map none)]))⟩, ⟨none, none, (.op false (.store 1 (.tmp 4) (.tmp 17)))⟩])
 (.seq (.seq (.reg (some [0, 4]) [⟨(some 18), none, (.op false (.old (.move (.tmp 0))))⟩, ⟨(some 19), none, (.op false (.lenS (.tmp 18)))⟩, ⟨(some 20), none, (.op false (.old (.move (.const (.int .i64 0)))))⟩])
 (.block 0 (.loop 5 none (some [4, 18, 19, 20]))))
 (.seq (.reg (some [4]) [⟨(some 62), none, (.op false (.load1 .any (.tmp 4)))⟩, ⟨(some 2), none, (.op false (.old (.assign (.tmp 62))))⟩, ⟨(some 3), none, (.op false (.old (.assign (.const (.int .i64 0)))))⟩])
 .ret))))),
 [(.tmp 2), (.tmp 3)],
 [(5, ⟨none, (some [4, 18, 19, 20]), (.seq (.reg (some [4, 18, 19, 20]) [⟨(some 21), none, (.op false (.old (.binOp .lss 3 (.tmp 20) (.tmp 19) 3)))⟩])
 (.seq (.cond (.tmp 21) .skip
 (.exit 0 (some [4])))
 (.seq (.block 1 (.seq (.reg (some [4, 18, 19, 20]) [⟨(some 22), none, (.op false (.ixS 6 (.tmp 18) (.tmp 20)))⟩, ⟨(some 23), none, (.op false (.load 6 [.str, (.int .u8), .slice, (.int .i64), .slice, (.int .i64)] (.tmp 22)))⟩, ⟨(some 6), none, (.op false (.new 6 [(.string ⟨#[]⟩), (.int .u8 0), (.slice none 0 0), (.int .i64 0), (.slice none 0 0), (.int .i64 0)]))⟩, ⟨none, none, (.op false (.store 6 (.tmp 6) (.tmp 23)))⟩])
 (.seq (.seq (.reg (some [4, 6, 18, 19, 20]) [⟨(some 25), none, (.op false (.load1 .any (.tmp 4)))⟩, ⟨(some 26), none, (.op false (.fieldAddr 0 (.tmp 6)))⟩, ⟨(some 27), none, (.op false (.load1 .str (.tmp 26)))⟩, ⟨(some 28), none, (.op false (.old (.lookup 63 (.tmp 25) (.tmp 27) true)))⟩, ⟨(some 24), none, (.op false (.old (.move (.tmp 28))))⟩, ⟨(some 29), none, (.op false (.old (.extract (.tmp 24) 0)))⟩, ⟨(some 30), none, (.op false (.old (.extract (.tmp 24) 1)))⟩, ⟨(some 7), none, (.op false (.old (.assign (.tmp 29))))⟩, ⟨(some 8), none, (.op false (.old (.assign (.tmp 30))))⟩])
 (.seq (.reg (some [4, 6, 8, 18, 19, 20]) [⟨(some 31), none, (.op false (.old (.move (.tmp 8))))⟩])
 (.cond (.tmp 31) (.seq (.reg (some []) [⟨(some 2), none, (.op false (.old (.assign (.const (.map none)))))⟩, ⟨(some 3), none, (.op false (.old (.assign (.const (.int .i64 14)))))⟩])
 .ret)
 .skip)))
 (.seq (.seq (.reg (some [4, 6, 18, 19, 20]) [⟨(some 32), none, (.op false (.fieldAddr 2 (.tmp 6)))⟩, ⟨(some 33), none, (.op false (.load1 .slice (.tmp 32)))⟩, ⟨(some 34), none, (.op false (.lenS (.tmp 33)))⟩, ⟨(some 35), none, (.op false (.old (.move (.const (.int .i64 0)))))⟩])
 (.block 2 (.loop 11 none (some [4, 6, 18, 19, 20, 33, 34, 35]))))
 (.seq (.seq (.reg (some [4, 6, 18, 19, 20]) [⟨(some 48), none, (.op false (.load 6 [.str, (.int .u8), .slice, (.int .i64), .slice, (.int .i64)] (.tmp 6)))⟩, ⟨(some 49), none, (.call (.func 42) [(.tmp 48)] (some (.val (.one .bool))))⟩, ⟨(some 50), none, (.op false (.old (.unOp .not 4 (.tmp 49))))⟩])
 (.cond (.tmp 50) (.seq (.reg (some []) [⟨(some 2), none, (.op false (.old (.assign (.const (.map none)))))⟩, ⟨(some 3), none, (.op false (.old (.assign (.const (.int .i64 8)))))⟩])
 .ret)
 .skip))
 (.seq (.reg (some [4, 6, 18, 19, 20]) [⟨(some 51), none, (.op false (.load 6 [.str, (.int .u8), .slice, (.int .i64), .slice, (.int .i64)] (.tmp 6)))⟩, ⟨(some 52), none, (.op false (.old (.makeFunc (.func 44) #[] #[(.tmp 4), (.tmp 6)])))⟩, ⟨(some 53), none, (.call (.func 43) [(.tmp 51), (.tmp 52)] (some (.val (.one .slice))))⟩, ⟨(some 13), none, (.op false (.old (.assign (.tmp 53))))⟩])
 (.seq (.seq (.reg (some [4, 6, 13, 18, 19, 20]) [⟨(some 54), none, (.op false (.old (.move (.tmp 13))))⟩, ⟨(some 55), none, (.op false (.lenS (.tmp 54)))⟩, ⟨(some 56), none, (.op false (.old (.binOp .gtr 3 (.tmp 55) (.const (.int .i64 1000)) 3)))⟩])
 (.cond (.tmp 56) (.seq (.reg (some []) [⟨(some 2), none, (.op false (.old (.assign (.const (.map none)))))⟩, ⟨(some 3), none, (.op false (.old (.assign (.const (.int .i64 16)))))⟩])
 .ret)
 .skip))
 (.reg (some [4, 6, 13, 18, 19, 20]) [⟨(some 57), none, (.op false (.load1 .any (.tmp 4)))⟩, ⟨(some 58), none, (.op false (.fieldAddr 0 (.tmp 6)))⟩, ⟨(some 59), none, (.op false (.load1 .str (.tmp 58)))⟩, ⟨(some 60), none, (.op false (.old (.move (.tmp 13))))⟩, ⟨none, none, (.op false (.old (.mapUpdate 63 (.tmp 57) (.tmp 59) (.tmp 60))))⟩]))))))))
 (.reg (some [4, 18, 19, 20]) [⟨(some 61), none, (.op false (.old (.binOp .add 3 (.tmp 20) (.const (.int .i64 1)) 3)))⟩, ⟨(some 20), none, (.op false (.old (.move (.tmp 61))))⟩]))))⟩), (11, ⟨none, (some [4, 6, 18, 19, 20, 33, 34, 35]), (.seq (.reg (some [4, 6, 18, 19, 20, 33, 34, 35]) [⟨(some 36), none, (.op false (.old (.binOp .lss 3 (.tmp 35) (.tmp 34) 3)))⟩])
 (.seq (.cond (.tmp 36) .skip
 (.exit 2 (some [4, 6, 18, 19, 20])))
 (.seq (.block 3 (.seq (.reg (some [4, 6, 18, 19, 20, 33, 34, 35]) [⟨(some 37), none, (.op false (.ixS 1 (.tmp 33) (.tmp 35)))⟩, ⟨(some 38), none, (.op false (.load1 .str (.tmp 37)))⟩, ⟨(some 10), none, (.op false (.old (.assign (.tmp 38))))⟩])
 (.seq (.reg (some [4, 6, 10, 18, 19, 20, 33, 34, 35]) [⟨(some 40), none, (.op false (.load1 .any (.tmp 4)))⟩, ⟨(some 41), none, (.op false (.old (.move (.tmp 10))))⟩, ⟨(some 42), none, (.op false (.old (.lookup 63 (.tmp 40) (.tmp 41) true)))⟩, ⟨(some 39), none, (.op false (.old (.move (.tmp 42))))⟩, ⟨(some 43), none, (.op false (.old (.extract (.tmp 39) 0)))⟩, ⟨(some 44), none, (.op false (.old (.extract (.tmp 39) 1)))⟩, ⟨(some 11), none, (.op false (.old (.assign (.tmp 43))))⟩, ⟨(some 12), none, (.op false (.old (.assign (.tmp 44))))⟩])
 (.seq (.reg (some [4, 6, 12, 18, 19, 20, 33, 34, 35]) [⟨(some 45), none, (.op false (.old (.move (.tmp 12))))⟩, ⟨(some 46), none, (.op false (.old (.unOp .not 4 (.tmp 45))))⟩])
 (.cond (.tmp 46) (.seq (.reg (some []) [⟨(some 2), none, (.op false (.old (.assign (.const (.map none)))))⟩, ⟨(some 3), none, (.op false (.old (.assign (.const (.int .i64 6)))))⟩])
 .ret)
 .skip)))))
 (.reg (some [4, 6, 18, 19, 20, 33, 34, 35]) [⟨(some 47), none, (.op false (.old (.binOp .add 3 (.tmp 35) (.const (.int .i64 1)) 3)))⟩, ⟨(some 35), none, (.op false (.old (.move (.tmp 47))))⟩]))))⟩)],
 []⟩
theorem r36_ok : resFun (progU ()) hint live 36 Try.f36 = some r36 := by kernel_rfl
/-- fringeref44.All -/
def r37 : RFun :=
⟨(.seq (.reg (some [0]) [⟨(some 2), none, (.op false (.old (.assign (.const (.slice none 0 0)))))⟩, ⟨(some 3), none, (.op false (.old (.assign (.const (.int .i64 0)))))⟩])
 (.seq (.seq (.reg (some [0]) [⟨(some 8), none, (.op false (.old (.move (.tmp 0))))⟩, ⟨(some 9), none, (.op false (.lenS (.tmp 8)))⟩, ⟨(some 10), none, (.op false (.old (.binOp .gtr 3 (.tmp 9) (.const (.int .i64 40)) 3)))⟩])
 (.cond (.tmp 10) (.seq (.reg (some []) [⟨(some 2), none, (.op false (.old (.assign (.const (.slice none 0 0)))))⟩, ⟨(some 3), none, (.op false (.old (.assign (.const (.int .i64 4)))))⟩])
 .ret)
 .skip))
 (.seq (.reg (some [0]) [⟨(some 4), none, (.op false (.old (.assign (.const (.slice none 0 0)))))⟩])
 (.seq (.seq (.reg (some [0, 4]) [⟨(some 5), none, (.op false (.old (.assign (.const (.int .i64 0)))))⟩])
 (.block 0 (.loop 5 (some [0, 4, 5]) (some [0, 4, 5]))))
 (.seq (.reg (some [4]) [⟨(some 72), none, (.op false (.old (.move (.tmp 4))))⟩, ⟨(some 2), none, (.op false (.old (.assign (.tmp 72))))⟩, ⟨(some 3), none, (.op false (.old (.assign (.const (.int .i64 0)))))⟩])
 .ret))))),
 [(.tmp 2), (.tmp 3)],
 [(5, ⟨(some [0, 4, 5]), (some [0, 4, 5]), (.seq (.seq (.reg (some [0, 4, 5]) [⟨(some 11), none, (.op false (.old (.move (.tmp 5))))⟩, ⟨(some 12), none, (.op false (.old (.move (.tmp 0))))⟩, ⟨(some 13), none, (.op false (.lenS (.tmp 12)))⟩, ⟨(some 14), none, (.op false (.old (.binOp .lss 3 (.tmp 11) (.tmp 13) 3)))⟩])
 (.cond (.tmp 14) .skip
 (.exit 0 (some [4]))))
 (.seq (.block 1 (.seq (.seq (.draw (some [0, 4, 5]) 10 [⟨⟨(some 17), none, (.op false (.old (.move (.tmp 0))))⟩, 0, .none, [2, 8, 9], false, true⟩, ⟨⟨(some 18), none, (.op false (.old (.move (.tmp 5))))⟩, 1, .none, [2, 8, 9], false, true⟩, ⟨⟨(some 19), none, (.op false (.cutS 22 (.tmp 17) none (some (.tmp 18)) none))⟩, 2, .none, [8, 9], false, true⟩, ⟨⟨(some 20), none, (.op false (.old (.move (.tmp 0))))⟩, 3, .none, [5, 6, 7, 8, 9], false, true⟩, ⟨⟨(some 21), none, (.op false (.old (.move (.tmp 5))))⟩, 4, .none, [5, 6, 7, 8, 9], false, true⟩, ⟨⟨(some 22), none, (.op false (.ixS 6 (.tmp 20) (.tmp 21)))⟩, 5, .none, [6, 7, 8, 9], false, true⟩, ⟨⟨(some 23), none, (.op false (.fieldAddr 0 (.tmp 22)))⟩, 6, .none, [7, 8, 9], false, true⟩, ⟨⟨(some 24), none, (.op false (.load1 .str (.tmp 23)))⟩, 7, (.blk (.tmp 23)), [8, 9], false, true⟩, ⟨⟨(some 25), none, (.call (.func 32) [(.tmp 19), (.tmp 24)] (some (.val (.one (.int .i64)))))⟩, 8, .all, [9], false, false⟩, ⟨⟨(some 26), none, (.op false (.old (.binOp .geq 3 (.tmp 25) (.const (.int .i64 0)) 3)))⟩, 9, .none, [], false, true⟩])
 (.cond (.tmp 26) (.seq (.reg (some []) [⟨(some 2), none, (.op false (.old (.assign (.const (.slice none 0 0)))))⟩, ⟨(some 3), none, (.op false (.old (.assign (.const (.int .i64 14)))))⟩])
 .ret)
 .skip))
 (.seq (.seq (.reg (some [0, 4, 5]) [⟨(some 6), none, (.op false (.old (.assign (.const (.int .i64 0)))))⟩])
 (.block 2 (.loop 10 (some [0, 4, 5, 6]) (some [0, 4, 5, 6]))))
 (.seq (.seq (.reg (some [0, 4, 5]) [⟨(some 50), none, (.op false (.old (.move (.tmp 0))))⟩, ⟨(some 51), none, (.op false (.old (.move (.tmp 5))))⟩, ⟨(some 52), none, (.op false (.ixS 6 (.tmp 50) (.tmp 51)))⟩, ⟨(some 53), none, (.op false (.load 6 [.str, (.int .u8), .slice, (.int .i64), .slice, (.int .i64)] (.tmp 52)))⟩, ⟨(some 54), none, (.call (.func 45) [(.tmp 53)] (some (.val (.one .bool))))⟩, ⟨(some 55), none, (.op false (.old (.unOp .not 4 (.tmp 54))))⟩])
 (.cond (.tmp 55) (.seq (.reg (some []) [⟨(some 2), none, (.op false (.old (.assign (.const (.slice none 0 0)))))⟩, ⟨(some 3), none, (.op false (.old (.assign (.const (.int .i64 8)))))⟩])
 .ret)
 .skip))
 (.seq (.draw (some [0, 4, 5]) 10 [⟨⟨(some 56), none, (.op false (.old (.move (.tmp 0))))⟩, 0, .none, [2, 3, 8, 9], false, true⟩, ⟨⟨(some 57), none, (.op false (.old (.move (.tmp 5))))⟩, 1, .none, [2, 3, 8, 9], false, true⟩, ⟨⟨(some 58), none, (.op false (.ixS 6 (.tmp 56) (.tmp 57)))⟩, 2, .none, [3, 8, 9], false, true⟩, ⟨⟨(some 59), none, (.op false (.load 6 [.str, (.int .u8), .slice, (.int .i64), .slice, (.int .i64)] (.tmp 58)))⟩, 3, (.blk (.tmp 58)), [8, 9], false, true⟩, ⟨⟨(some 60), none, (.op false (.old (.move (.tmp 0))))⟩, 4, .none, [6, 8, 9], false, true⟩, ⟨⟨(some 61), none, (.op false (.old (.move (.tmp 5))))⟩, 5, .none, [6, 8, 9], false, true⟩, ⟨⟨(some 62), none, (.op false (.cutS 22 (.tmp 60) none (some (.tmp 61)) none))⟩, 6, .none, [8, 9], false, true⟩, ⟨⟨(some 63), none, (.op false (.old (.move (.tmp 4))))⟩, 7, .none, [8, 9], false, true⟩, ⟨⟨(some 64), none, (.call (.func 46) [(.tmp 59), (.tmp 62), (.tmp 63)] (some (.val (.one .slice))))⟩, 8, .all, [9], false, false⟩, ⟨⟨(some 7), none, (.op false (.old (.assign (.tmp 64))))⟩, 9, .none, [], false, true⟩])
 (.seq (.seq (.reg (some [0, 4, 5, 7]) [⟨(some 65), none, (.op false (.old (.move (.tmp 7))))⟩, ⟨(some 66), none, (.op false (.lenS (.tmp 65)))⟩, ⟨(some 67), none, (.op false (.old (.binOp .gtr 3 (.tmp 66) (.const (.int .i64 1000)) 3)))⟩])
 (.cond (.tmp 67) (.seq (.reg (some []) [⟨(some 2), none, (.op false (.old (.assign (.const (.slice none 0 0)))))⟩, ⟨(some 3), none, (.op false (.old (.assign (.const (.int .i64 16)))))⟩])
 .ret)
 .skip))
 (.reg (some [0, 4, 5, 7]) [⟨(some 68), none, (.op false (.old (.move (.tmp 4))))⟩, ⟨(some 69), none, (.op false (.old (.move (.tmp 7))))⟩, ⟨(some 70), none, (.op false (.buildSlice 1 1 [(.slice none 0 0)] [(0, 1, (.tmp 69))]))⟩, ⟨(some 71), none, (.op false (.old (.call ⟨.builtin .append, #[(.tmp 68), (.tmp 70)], #[67, 67]⟩)))⟩, ⟨(some 4), none, (.op false (.old (.assign (.tmp 71))))⟩])))))))
 (.reg (some [0, 4, 5]) [⟨(some 15), none, (.op false (.old (.move (.tmp 5))))⟩, ⟨(some 16), none, (.op false (.old (.binOp .add 3 (.tmp 15) (.const (.int .i64 1)) 3)))⟩, ⟨(some 5), none, (.op false (.old (.assign (.tmp 16))))⟩])))⟩), (10, ⟨(some [0, 4, 5, 6]), (some [0, 4, 5, 6]), (.seq (.seq (.reg (some [0, 4, 5, 6]) [⟨(some 27), none, (.op false (.old (.move (.tmp 6))))⟩, ⟨(some 28), none, (.op false (.old (.move (.tmp 0))))⟩, ⟨(some 29), none, (.op false (.old (.move (.tmp 5))))⟩, ⟨(some 30), none, (.op false (.ixS 6 (.tmp 28) (.tmp 29)))⟩, ⟨(some 31), none, (.op false (.fieldAddr 2 (.tmp 30)))⟩, ⟨(some 32), none, (.op false (.load1 .slice (.tmp 31)))⟩, ⟨(some 33), none, (.op false (.lenS (.tmp 32)))⟩, ⟨(some 34), none, (.op false (.old (.binOp .lss 3 (.tmp 27) (.tmp 33) 3)))⟩])
 (.cond (.tmp 34) .skip
 (.exit 2 (some [0, 4, 5]))))
 (.seq (.block 3 (.seq (.draw (some [0, 4, 5, 6]) 13 [⟨⟨(some 37), none, (.op false (.old (.move (.tmp 0))))⟩, 0, .none, [2, 11, 12], false, true⟩, ⟨⟨(some 38), none, (.op false (.old (.move (.tmp 5))))⟩, 1, .none, [2, 11, 12], false, true⟩, ⟨⟨(some 39), none, (.op false (.cutS 22 (.tmp 37) none (some (.tmp 38)) none))⟩, 2, .none, [11, 12], false, true⟩, ⟨⟨(some 40), none, (.op false (.old (.move (.tmp 0))))⟩, 3, .none, [5, 6, 7, 9, 10, 11, 12], false, true⟩, ⟨⟨(some 41), none, (.op false (.old (.move (.tmp 5))))⟩, 4, .none, [5, 6, 7, 9, 10, 11, 12], false, true⟩, ⟨⟨(some 42), none, (.op false (.ixS 6 (.tmp 40) (.tmp 41)))⟩, 5, .none, [6, 7, 9, 10, 11, 12], false, true⟩, ⟨⟨(some 43), none, (.op false (.fieldAddr 2 (.tmp 42)))⟩, 6, .none, [7, 9, 10, 11, 12], false, true⟩, ⟨⟨(some 44), none, (.op false (.load1 .slice (.tmp 43)))⟩, 7, (.blk (.tmp 43)), [9, 10, 11, 12], false, true⟩, ⟨⟨(some 45), none, (.op false (.old (.move (.tmp 6))))⟩, 8, .none, [9, 10, 11, 12], false, true⟩, ⟨⟨(some 46), none, (.op false (.ixS 1 (.tmp 44) (.tmp 45)))⟩, 9, .none, [10, 11, 12], false, true⟩, ⟨⟨(some 47), none, (.op false (.load1 .str (.tmp 46)))⟩, 10, (.blk (.tmp 46)), [11, 12], false, true⟩, ⟨⟨(some 48), none, (.call (.func 32) [(.tmp 39), (.tmp 47)] (some (.val (.one (.int .i64)))))⟩, 11, .all, [12], false, false⟩, ⟨⟨(some 49), none, (.op false (.old (.binOp .lss 3 (.tmp 48) (.const (.int .i64 0)) 3)))⟩, 12, .none, [], false, true⟩])
 (.cond (.tmp 49) (.seq (.reg (some []) [⟨(some 2), none, (.op false (.old (.assign (.const (.slice none 0 0)))))⟩, ⟨(some 3), none, (.op false (.old (.assign (.const (.int .i64 6)))))⟩])
 .ret)
 .skip)))
 (.reg (some [0, 4, 5, 6]) [⟨(some 35), none, (.op false (.old (.move (.tmp 6))))⟩, ⟨(some 36), none, (.op false (.old (.binOp .add 3 (.tmp 35) (.const (.int .i64 1)) 3)))⟩, ⟨(some 6), none, (.op false (.old (.assign (.tmp 36))))⟩])))⟩)],
 []⟩
theorem r37_ok : resFun (progU ()) hint live 37 Try.f37 = some r37 := by kernel_rfl
/-- origin.chosen -/
def r38 : RFun :=
⟨(.seq (.reg (some [0, 1]) [⟨(some 4), none, (.op false (.old (.assign (.const (.slice none 0 0)))))⟩])
 (.seq (.reg (some [0, 1]) [⟨(some 5), none, (.op false (.old (.assign (.const (.slice none 0 0)))))⟩])
 (.seq (.seq (.reg (some [0, 1, 5]) [⟨(some 8), none, (.op false (.old (.move (.tmp 0))))⟩, ⟨(some 9), none, (.op false (.lenS (.tmp 8)))⟩, ⟨(some 10), none, (.op false (.old (.move (.const (.int .i64 0)))))⟩])
 (.block 0 (.loop 3 (some [1, 5, 8, 9, 10]) (some [1, 5, 8, 9, 10]))))
 (.seq (.reg (some [5]) [⟨(some 24), none, (.op false (.old (.move (.tmp 5))))⟩, ⟨(some 4), none, (.op false (.old (.assign (.tmp 24))))⟩])
 .ret)))),
 [(.tmp 4)],
 [(3, ⟨(some [1, 5, 8, 9, 10]), (some [1, 5, 8, 9, 10]), (.seq (.reg (some [1, 5, 8, 9, 10]) [⟨(some 11), none, (.op false (.old (.binOp .lss 3 (.tmp 10) (.tmp 9) 3)))⟩])
 (.seq (.cond (.tmp 11) .skip
 (.exit 0 (some [5])))
 (.seq (.block 1 (.seq (.reg (some [1, 5, 8, 9, 10]) [⟨(some 12), none, (.op false (.ixS 6 (.tmp 8) (.tmp 10)))⟩, ⟨(some 13), none, (.op false (.load 6 [.str, (.int .u8), .slice, (.int .i64), .slice, (.int .i64)] (.tmp 12)))⟩, ⟨(some 7), none, (.op true (.new 6 [(.string ⟨#[]⟩), (.int .u8 0), (.slice none 0 0), (.int .i64 0), (.slice none 0 0), (.int .i64 0)]))⟩, ⟨none, none, (.op false (.store 6 (.tmp 7) (.tmp 13)))⟩])
 (.seq (.reg (some [1, 5, 7, 8, 9, 10]) [⟨(some 14), none, (.op false (.old (.move (.tmp 1))))⟩, ⟨(some 15), none, (.op false (.fieldAddr 0 (.tmp 7)))⟩, ⟨(some 16), none, (.op false (.load1 .str (.tmp 15)))⟩, ⟨(some 17), none, (.op false (.old (.lookup 70 (.tmp 14) (.tmp 16) false)))⟩])
 (.cond (.tmp 17) (.reg (some [1, 5, 7, 8, 9, 10]) [⟨(some 18), none, (.op false (.old (.move (.tmp 5))))⟩, ⟨(some 19), none, (.op false (.fieldAddr 0 (.tmp 7)))⟩, ⟨(some 20), none, (.op false (.load1 .str (.tmp 19)))⟩, ⟨(some 21), none, (.op false (.buildSlice 1 1 [(.string ⟨#[]⟩)] [(0, 1, (.tmp 20))]))⟩, ⟨(some 22), none, (.op false (.old (.call ⟨.builtin .append, #[(.tmp 18), (.tmp 21)], #[35, 35]⟩)))⟩, ⟨(some 5), none, (.op false (.old (.assign (.tmp 22))))⟩])
 .skip))))
 (.reg (some [1, 5, 8, 9, 10]) [⟨(some 23), none, (.op false (.old (.binOp .add 3 (.tmp 10) (.const (.int .i64 1)) 3)))⟩, ⟨(some 10), none, (.op false (.old (.move (.tmp 23))))⟩]))))⟩)],
 []⟩
theorem r38_ok : resFun (progU ()) hint live 38 Try.f38 = some r38 := by kernel_rfl
/-- fringeref44.marked -/
def r39 : RFun :=
⟨(.seq (.reg (some [0, 1, 2]) [⟨(some 6), none, (.op false (.old (.assign (.const (.slice none 0 0)))))⟩])
 (.seq (.seq (.reg (some [0, 1, 2]) [⟨(some 10), none, (.op false (.old (.move (.tmp 0))))⟩, ⟨(some 11), none, (.op false (.lenS (.tmp 10)))⟩, ⟨(some 12), none, (.op false (.old (.binOp .sub 3 (.tmp 11) (.const (.int .i64 1)) 3)))⟩, ⟨(some 7), none, (.op false (.old (.assign (.tmp 12))))⟩])
 (.block 0 (.loop 2 none (some [0, 1, 2, 7]))))
 (.seq (.reg (some [1]) [⟨(some 51), none, (.op false (.old (.move (.tmp 1))))⟩, ⟨(some 6), none, (.op false (.old (.assign (.tmp 51))))⟩])
 .ret))),
 [(.tmp 6)],
 [(2, ⟨none, (some [0, 1, 2, 7]), (.seq (.seq (.reg (some [0, 1, 2, 7]) [⟨(some 13), none, (.op false (.old (.move (.tmp 7))))⟩, ⟨(some 14), none, (.op false (.old (.binOp .geq 3 (.tmp 13) (.const (.int .i64 0)) 3)))⟩])
 (.cond (.tmp 14) .skip
 (.exit 0 (some [1]))))
 (.seq (.block 1 (.seq (.reg (some [0, 1, 2, 7]) [⟨(some 8), none, (.op false (.old (.assign (.const (.int .i64 0)))))⟩])
 (.block 2 (.loop 5 none (some [0, 1, 2, 7, 8])))))
 (.reg (some [0, 1, 2, 7]) [⟨(some 15), none, (.op false (.old (.move (.tmp 7))))⟩, ⟨(some 16), none, (.op false (.old (.binOp .sub 3 (.tmp 15) (.const (.int .i64 1)) 3)))⟩, ⟨(some 7), none, (.op false (.old (.assign (.tmp 16))))⟩])))⟩), (5, ⟨none, (some [0, 1, 2, 7, 8]), (.seq (.seq (.reg (some [0, 1, 2, 7, 8]) [⟨(some 17), none, (.op false (.old (.move (.tmp 8))))⟩, ⟨(some 18), none, (.op false (.old (.move (.tmp 0))))⟩, ⟨(some 19), none, (.op false (.old (.move (.tmp 7))))⟩, ⟨(some 20), none, (.op false (.ixS 6 (.tmp 18) (.tmp 19)))⟩, ⟨(some 21), none, (.op false (.fieldAddr 2 (.tmp 20)))⟩, ⟨(some 22), none, (.op false (.load1 .slice (.tmp 21)))⟩, ⟨(some 23), none, (.op false (.lenS (.tmp 22)))⟩, ⟨(some 24), none, (.op false (.old (.binOp .lss 3 (.tmp 17) (.tmp 23) 3)))⟩, ⟨(some 25), none, (.op false (.old (.move (.tmp 24))))⟩, ⟨(some 26), (some (25, true)), (.op false (.old (.move (.tmp 1))))⟩, ⟨(some 27), (some (25, true)), (.op false (.old (.move (.tmp 7))))⟩, ⟨(some 28), (some (25, true)), (.op false (.ixS 1 (.tmp 26) (.tmp 27)))⟩, ⟨(some 29), (some (25, true)), (.op false (.load1 .bool (.tmp 28)))⟩, ⟨(some 30), none, (.op false (.old (.pick (.tmp 25) (.tmp 29) (.const (.bool false)))))⟩])
 (.cond (.tmp 30) .skip
 (.exit 2 (some [0, 1, 2, 7]))))
 (.seq (.block 3 (.seq (.reg (some [0, 1, 2, 7, 8]) [⟨(some 33), none, (.op false (.old (.move (.tmp 0))))⟩, ⟨(some 34), none, (.op false (.old (.move (.tmp 0))))⟩, ⟨(some 35), none, (.op false (.old (.move (.tmp 7))))⟩, ⟨(some 36), none, (.op false (.ixS 6 (.tmp 34) (.tmp 35)))⟩, ⟨(some 37), none, (.op false (.fieldAddr 2 (.tmp 36)))⟩, ⟨(some 38), none, (.op false (.load1 .slice (.tmp 37)))⟩, ⟨(some 39), none, (.op false (.old (.move (.tmp 8))))⟩, ⟨(some 40), none, (.op false (.ixS 1 (.tmp 38) (.tmp 39)))⟩, ⟨(some 41), none, (.op false (.load1 .str (.tmp 40)))⟩, ⟨(some 42), none, (.call (.func 32) [(.tmp 33), (.tmp 41)] (some (.val (.one (.int .i64)))))⟩, ⟨(some 9), none, (.op false (.old (.assign (.tmp 42))))⟩])
 (.seq (.reg (some [0, 1, 2, 7, 8, 9]) [⟨(some 43), none, (.op false (.old (.move (.tmp 2))))⟩, ⟨(some 44), none, (.op false (.old (.move (.tmp 9))))⟩, ⟨(some 45), none, (.op false (.ixS 1 (.tmp 43) (.tmp 44)))⟩, ⟨(some 46), none, (.op false (.load1 .bool (.tmp 45)))⟩, ⟨(some 47), none, (.op false (.old (.unOp .not 4 (.tmp 46))))⟩])
 (.cond (.tmp 47) (.reg (some [0, 1, 2, 7, 8, 9]) [⟨(some 48), none, (.op false (.old (.move (.tmp 1))))⟩, ⟨(some 49), none, (.op false (.old (.move (.tmp 9))))⟩, ⟨(some 50), none, (.op false (.ixS 1 (.tmp 48) (.tmp 49)))⟩, ⟨none, none, (.op false (.store 1 (.tmp 50) (.const (.bool true))))⟩])
 .skip))))
 (.reg (some [0, 1, 2, 7, 8]) [⟨(some 31), none, (.op false (.old (.move (.tmp 8))))⟩, ⟨(some 32), none, (.op false (.old (.binOp .add 3 (.tmp 31) (.const (.int .i64 1)) 3)))⟩, ⟨(some 8), none, (.op false (.old (.assign (.tmp 32))))⟩])))⟩)],
 []⟩
theorem r39_ok : resFun (progU ()) hint live 39 Try.f39 = some r39 := by kernel_rfl
/-- fringeref44.names -/
def r40 : RFun :=
⟨(.seq (.reg (some [0, 1]) [⟨(some 4), none, (.op false (.old (.assign (.const (.slice none 0 0)))))⟩])
 (.seq (.reg (some [0, 1]) [⟨(some 5), none, (.op false (.old (.assign (.const (.slice none 0 0)))))⟩])
 (.seq (.seq (.reg (some [0, 1, 5]) [⟨(some 6), none, (.op false (.old (.assign (.const (.int .i64 0)))))⟩])
 (.block 0 (.loop 3 none (some [0, 1, 5, 6]))))
 (.seq (.reg (some [5]) [⟨(some 25), none, (.op false (.old (.move (.tmp 5))))⟩, ⟨(some 4), none, (.op false (.old (.assign (.tmp 25))))⟩])
 .ret)))),
 [(.tmp 4)],
 [(3, ⟨none, (some [0, 1, 5, 6]), (.seq (.seq (.reg (some [0, 1, 5, 6]) [⟨(some 7), none, (.op false (.old (.move (.tmp 6))))⟩, ⟨(some 8), none, (.op false (.old (.move (.tmp 0))))⟩, ⟨(some 9), none, (.op false (.lenS (.tmp 8)))⟩, ⟨(some 10), none, (.op false (.old (.binOp .lss 3 (.tmp 7) (.tmp 9) 3)))⟩])
 (.cond (.tmp 10) .skip
 (.exit 0 (some [5]))))
 (.seq (.block 1 (.seq (.reg (some [0, 1, 5, 6]) [⟨(some 13), none, (.op false (.old (.move (.tmp 1))))⟩, ⟨(some 14), none, (.op false (.old (.move (.tmp 6))))⟩, ⟨(some 15), none, (.op false (.ixS 1 (.tmp 13) (.tmp 14)))⟩, ⟨(some 16), none, (.op false (.load1 .bool (.tmp 15)))⟩])
 (.cond (.tmp 16) (.reg (some [0, 1, 5, 6]) [⟨(some 17), none, (.op false (.old (.move (.tmp 5))))⟩, ⟨(some 18), none, (.op false (.old (.move (.tmp 0))))⟩, ⟨(some 19), none, (.op false (.old (.move (.tmp 6))))⟩, ⟨(some 20), none, (.op false (.ixS 6 (.tmp 18) (.tmp 19)))⟩, ⟨(some 21), none, (.op false (.fieldAddr 0 (.tmp 20)))⟩, ⟨(some 22), none, (.op false (.load1 .str (.tmp 21)))⟩, ⟨(some 23), none, (.op false (.buildSlice 1 1 [(.string ⟨#[]⟩)] [(0, 1, (.tmp 22))]))⟩, ⟨(some 24), none, (.op false (.old (.call ⟨.builtin .append, #[(.tmp 17), (.tmp 23)], #[35, 35]⟩)))⟩, ⟨(some 5), none, (.op false (.old (.assign (.tmp 24))))⟩])
 .skip)))
 (.reg (some [0, 1, 5, 6]) [⟨(some 11), none, (.op false (.old (.move (.tmp 6))))⟩, ⟨(some 12), none, (.op false (.old (.binOp .add 3 (.tmp 11) (.const (.int .i64 1)) 3)))⟩, ⟨(some 6), none, (.op false (.old (.assign (.tmp 12))))⟩])))⟩)],
 []⟩
theorem r40_ok : resFun (progU ()) hint live 40 Try.f40 = some r40 := by kernel_rfl
/-- origin.isRecord -/
def r42 : RFun :=
⟨(.seq (.reg (some [0]) [⟨(some 1), none, (.op true (.box 6 (.tmp 0)))⟩, ⟨(some 2), none, (.op false (.old (.assign (.const (.bool false)))))⟩])
 (.seq (.seq (.reg (some [1]) [⟨(some 4), none, (.op false (.fieldAddr 0 (.tmp 1)))⟩, ⟨(some 5), none, (.op false (.load1 .str (.tmp 4)))⟩, ⟨(some 6), none, (.call (.func 47) [(.tmp 5)] (some (.val (.one .bool))))⟩, ⟨(some 7), none, (.op false (.old (.unOp .not 4 (.tmp 6))))⟩, ⟨(some 8), none, (.op false (.old (.move (.tmp 7))))⟩, ⟨(some 9), (some (8, false)), (.op false (.fieldAddr 5 (.tmp 1)))⟩, ⟨(some 10), (some (8, false)), (.op false (.load1 (.int .i64) (.tmp 9)))⟩, ⟨(some 11), (some (8, false)), (.op false (.old (.binOp .lss 3 (.tmp 10) (.const (.int .i64 0)) 3)))⟩, ⟨(some 12), none, (.op false (.old (.pick (.tmp 8) (.const (.bool true)) (.tmp 11))))⟩, ⟨(some 13), none, (.op false (.old (.move (.tmp 12))))⟩, ⟨(some 14), (some (13, false)), (.op false (.fieldAddr 5 (.tmp 1)))⟩, ⟨(some 15), (some (13, false)), (.op false (.load1 (.int .i64) (.tmp 14)))⟩, ⟨(some 16), (some (13, false)), (.op false (.old (.binOp .geq 3 (.tmp 15) (.const (.int .i64 1000000007)) 3)))⟩, ⟨(some 17), none, (.op false (.old (.pick (.tmp 13) (.const (.bool true)) (.tmp 16))))⟩])
 (.cond (.tmp 17) (.seq (.reg (some []) [⟨(some 2), none, (.op false (.old (.assign (.const (.bool false)))))⟩])
 .ret)
 .skip))
 (.seq (.seq (.reg (some [1]) [⟨(some 18), none, (.op false (.fieldAddr 1 (.tmp 1)))⟩, ⟨(some 19), none, (.op false (.load1 (.int .u8) (.tmp 18)))⟩, ⟨(some 20), none, (.op false (.old (.binOp .eql 5 (.tmp 19) (.const (.int .u8 1)) 5)))⟩])
 (.cond (.tmp 20) (.seq (.reg (some [1]) [⟨(some 21), none, (.op false (.fieldAddr 2 (.tmp 1)))⟩, ⟨(some 22), none, (.op false (.load1 .slice (.tmp 21)))⟩, ⟨(some 23), none, (.op false (.lenS (.tmp 22)))⟩, ⟨(some 24), none, (.op false (.old (.binOp .eql 3 (.tmp 23) (.const (.int .i64 0)) 3)))⟩, ⟨(some 25), none, (.op false (.old (.move (.tmp 24))))⟩, ⟨(some 26), (some (25, true)), (.op false (.fieldAddr 3 (.tmp 1)))⟩, ⟨(some 27), (some (25, true)), (.op false (.load1 (.int .i64) (.tmp 26)))⟩, ⟨(some 28), (some (25, true)), (.op false (.old (.binOp .eql 3 (.tmp 27) (.const (.int .i64 0)) 3)))⟩, ⟨(some 29), none, (.op false (.old (.pick (.tmp 25) (.tmp 28) (.const (.bool false)))))⟩, ⟨(some 30), none, (.op false (.old (.move (.tmp 29))))⟩, ⟨(some 31), (some (30, true)), (.op false (.fieldAddr 4 (.tmp 1)))⟩, ⟨(some 32), (some (30, true)), (.op false (.load1 .slice (.tmp 31)))⟩, ⟨(some 33), (some (30, true)), (.op false (.lenS (.tmp 32)))⟩, ⟨(some 34), (some (30, true)), (.op false (.old (.binOp .leq 3 (.tmp 33) (.const (.int .i64 256)) 3)))⟩, ⟨(some 35), none, (.op false (.old (.pick (.tmp 30) (.tmp 34) (.const (.bool false)))))⟩, ⟨(some 2), none, (.op false (.old (.assign (.tmp 35))))⟩])
 .ret)
 .skip))
 (.seq (.seq (.reg (some [1]) [⟨(some 36), none, (.op false (.fieldAddr 4 (.tmp 1)))⟩, ⟨(some 37), none, (.op false (.load1 .slice (.tmp 36)))⟩, ⟨(some 38), none, (.op false (.lenS (.tmp 37)))⟩, ⟨(some 39), none, (.op false (.old (.binOp .neq 3 (.tmp 38) (.const (.int .i64 0)) 3)))⟩])
 (.cond (.tmp 39) (.seq (.reg (some []) [⟨(some 2), none, (.op false (.old (.assign (.const (.bool false)))))⟩])
 .ret)
 .skip))
 (.seq (.reg (some [1]) [⟨(some 40), none, (.op false (.fieldAddr 2 (.tmp 1)))⟩, ⟨(some 41), none, (.op false (.load1 .slice (.tmp 40)))⟩, ⟨(some 42), none, (.op false (.lenS (.tmp 41)))⟩, ⟨(some 43), none, (.op false (.old (.binOp .eql 3 (.tmp 42) (.const (.int .i64 1)) 3)))⟩, ⟨(some 3), none, (.op false (.old (.assign (.tmp 43))))⟩])
 (.seq (.seq (.reg (some [1, 3]) [⟨(some 44), none, (.op false (.fieldAddr 1 (.tmp 1)))⟩, ⟨(some 45), none, (.op false (.load1 (.int .u8) (.tmp 44)))⟩])
 (.block 0 (.seq (.reg (some [1, 3, 45]) [⟨(some 47), none, (.op false (.old (.binOp .eql 5 (.tmp 45) (.const (.int .u8 2)) 5)))⟩, ⟨(some 46), none, (.op false (.old (.assign (.tmp 47))))⟩])
 (.cond (.tmp 46) (.seq (.reg (some [1]) [⟨(some 48), none, (.op false (.fieldAddr 2 (.tmp 1)))⟩, ⟨(some 49), none, (.op false (.load1 .slice (.tmp 48)))⟩, ⟨(some 50), none, (.op false (.lenS (.tmp 49)))⟩, ⟨(some 51), none, (.op false (.old (.binOp .geq 3 (.tmp 50) (.const (.int .i64 1)) 3)))⟩, ⟨(some 52), none, (.op false (.old (.move (.tmp 51))))⟩, ⟨(some 53), (some (52, true)), (.op false (.fieldAddr 2 (.tmp 1)))⟩, ⟨(some 54), (some (52, true)), (.op false (.load1 .slice (.tmp 53)))⟩, ⟨(some 55), (some (52, true)), (.op false (.lenS (.tmp 54)))⟩, ⟨(some 56), (some (52, true)), (.op false (.old (.binOp .leq 3 (.tmp 55) (.const (.int .i64 4)) 3)))⟩, ⟨(some 57), none, (.op false (.old (.pick (.tmp 52) (.tmp 56) (.const (.bool false)))))⟩, ⟨(some 58), none, (.op false (.old (.move (.tmp 57))))⟩, ⟨(some 59), (some (58, true)), (.op false (.fieldAddr 3 (.tmp 1)))⟩, ⟨(some 60), (some (58, true)), (.op false (.load1 (.int .i64) (.tmp 59)))⟩, ⟨(some 61), (some (58, true)), (.op false (.old (.binOp .eql 3 (.tmp 60) (.const (.int .i64 0)) 3)))⟩, ⟨(some 62), none, (.op false (.old (.pick (.tmp 58) (.tmp 61) (.const (.bool false)))))⟩, ⟨(some 2), none, (.op false (.old (.assign (.tmp 62))))⟩])
 .ret)
 (.seq (.reg (some [1, 3, 45]) [⟨(some 64), none, (.op false (.old (.binOp .eql 5 (.tmp 45) (.const (.int .u8 3)) 5)))⟩, ⟨(some 63), none, (.op false (.old (.assign (.tmp 64))))⟩])
 (.cond (.tmp 63) (.seq (.reg (some [1, 3]) [⟨(some 65), none, (.op false (.old (.move (.tmp 3))))⟩, ⟨(some 66), none, (.op false (.old (.move (.tmp 65))))⟩, ⟨(some 67), (some (66, true)), (.op false (.fieldAddr 3 (.tmp 1)))⟩, ⟨(some 68), (some (66, true)), (.op false (.load1 (.int .i64) (.tmp 67)))⟩, ⟨(some 69), (some (66, true)), (.op false (.old (.binOp .eql 3 (.tmp 68) (.const (.int .i64 0)) 3)))⟩, ⟨(some 70), none, (.op false (.old (.pick (.tmp 66) (.tmp 69) (.const (.bool false)))))⟩, ⟨(some 2), none, (.op false (.old (.assign (.tmp 70))))⟩])
 .ret)
 (.seq (.reg (some [1, 3, 45]) [⟨(some 72), none, (.op false (.old (.binOp .eql 5 (.tmp 45) (.const (.int .u8 4)) 5)))⟩, ⟨(some 71), none, (.op false (.old (.assign (.tmp 72))))⟩])
 (.cond (.tmp 71) (.seq (.reg (some [1, 3]) [⟨(some 73), none, (.op false (.old (.move (.tmp 3))))⟩, ⟨(some 74), none, (.op false (.old (.move (.tmp 73))))⟩, ⟨(some 75), (some (74, true)), (.op false (.fieldAddr 3 (.tmp 1)))⟩, ⟨(some 76), (some (74, true)), (.op false (.load1 (.int .i64) (.tmp 75)))⟩, ⟨(some 77), (some (74, true)), (.op false (.old (.binOp .geq 3 (.tmp 76) (.const (.int .i64 0)) 3)))⟩, ⟨(some 78), none, (.op false (.old (.pick (.tmp 74) (.tmp 77) (.const (.bool false)))))⟩, ⟨(some 79), none, (.op false (.old (.move (.tmp 78))))⟩, ⟨(some 80), (some (79, true)), (.op false (.fieldAddr 3 (.tmp 1)))⟩, ⟨(some 81), (some (79, true)), (.op false (.load1 (.int .i64) (.tmp 80)))⟩, ⟨(some 82), (some (79, true)), (.op false (.old (.binOp .leq 3 (.tmp 81) (.const (.int .i64 1000)) 3)))⟩, ⟨(some 83), none, (.op false (.old (.pick (.tmp 79) (.tmp 82) (.const (.bool false)))))⟩, ⟨(some 2), none, (.op false (.old (.assign (.tmp 83))))⟩])
 .ret)
 (.seq (.reg (some [1, 3, 45]) [⟨(some 85), none, (.op false (.old (.binOp .eql 5 (.tmp 45) (.const (.int .u8 5)) 5)))⟩, ⟨(some 84), none, (.op false (.old (.assign (.tmp 85))))⟩])
 (.cond (.tmp 84) (.seq (.reg (some [1, 3]) [⟨(some 86), none, (.op false (.old (.move (.tmp 3))))⟩, ⟨(some 87), none, (.op false (.old (.move (.tmp 86))))⟩, ⟨(some 88), (some (87, true)), (.op false (.fieldAddr 3 (.tmp 1)))⟩, ⟨(some 89), (some (87, true)), (.op false (.load1 (.int .i64) (.tmp 88)))⟩, ⟨(some 90), (some (87, true)), (.op false (.old (.binOp .geq 3 (.tmp 89) (.const (.int .i64 0)) 3)))⟩, ⟨(some 91), none, (.op false (.old (.pick (.tmp 87) (.tmp 90) (.const (.bool false)))))⟩, ⟨(some 92), none, (.op false (.old (.move (.tmp 91))))⟩, ⟨(some 93), (some (92, true)), (.op false (.fieldAddr 3 (.tmp 1)))⟩, ⟨(some 94), (some (92, true)), (.op false (.load1 (.int .i64) (.tmp 93)))⟩, ⟨(some 95), (some (92, true)), (.op false (.old (.binOp .leq 3 (.tmp 94) (.const (.int .i64 255)) 3)))⟩, ⟨(some 96), none, (.op false (.old (.pick (.tmp 92) (.tmp 95) (.const (.bool false)))))⟩, ⟨(some 2), none, (.op false (.old (.assign (.tmp 96))))⟩])
 .ret)
 (.seq (.reg (some [1, 3, 45]) [⟨(some 98), none, (.op false (.old (.binOp .eql 5 (.tmp 45) (.const (.int .u8 6)) 5)))⟩, ⟨(some 97), none, (.op false (.old (.assign (.tmp 98))))⟩])
 (.cond (.tmp 97) (.seq (.reg (some [1]) [⟨(some 99), none, (.op false (.fieldAddr 2 (.tmp 1)))⟩, ⟨(some 100), none, (.op false (.load1 .slice (.tmp 99)))⟩, ⟨(some 101), none, (.op false (.lenS (.tmp 100)))⟩, ⟨(some 102), none, (.op false (.old (.binOp .eql 3 (.tmp 101) (.const (.int .i64 2)) 3)))⟩, ⟨(some 103), none, (.op false (.old (.move (.tmp 102))))⟩, ⟨(some 104), (some (103, true)), (.op false (.fieldAddr 3 (.tmp 1)))⟩, ⟨(some 105), (some (103, true)), (.op false (.load1 (.int .i64) (.tmp 104)))⟩, ⟨(some 106), (some (103, true)), (.op false (.old (.binOp .eql 3 (.tmp 105) (.const (.int .i64 0)) 3)))⟩, ⟨(some 107), none, (.op false (.old (.pick (.tmp 103) (.tmp 106) (.const (.bool false)))))⟩, ⟨(some 2), none, (.op false (.old (.assign (.tmp 107))))⟩])
 .ret)
 (.seq (.reg (some [1, 3, 45]) [⟨(some 109), none, (.op false (.old (.binOp .eql 5 (.tmp 45) (.const (.int .u8 7)) 5)))⟩, ⟨(some 108), none, (.op false (.old (.assign (.tmp 109))))⟩])
 (.cond (.tmp 108) (.seq (.reg (some [1, 3]) [⟨(some 110), none, (.op false (.old (.move (.tmp 3))))⟩, ⟨(some 111), none, (.op false (.old (.move (.tmp 110))))⟩, ⟨(some 112), (some (111, true)), (.op false (.fieldAddr 3 (.tmp 1)))⟩, ⟨(some 113), (some (111, true)), (.op false (.load1 (.int .i64) (.tmp 112)))⟩, ⟨(some 114), (some (111, true)), (.op false (.old (.binOp .geq 3 (.tmp 113) (.const (.int .i64 1)) 3)))⟩, ⟨(some 115), none, (.op false (.old (.pick (.tmp 111) (.tmp 114) (.const (.bool false)))))⟩, ⟨(some 116), none, (.op false (.old (.move (.tmp 115))))⟩, ⟨(some 117), (some (116, true)), (.op false (.fieldAddr 3 (.tmp 1)))⟩, ⟨(some 118), (some (116, true)), (.op false (.load1 (.int .i64) (.tmp 117)))⟩, ⟨(some 119), (some (116, true)), (.op false (.old (.binOp .leq 3 (.tmp 118) (.const (.int .i64 1000)) 3)))⟩, ⟨(some 120), none, (.op false (.old (.pick (.tmp 116) (.tmp 119) (.const (.bool false)))))⟩, ⟨(some 2), none, (.op false (.old (.assign (.tmp 120))))⟩])
 .ret)
 .skip))))))))))))))
 (.seq (.reg (some []) [⟨(some 2), none, (.op false (.old (.assign (.const (.bool false)))))⟩])
 .ret))))))),
 [(.tmp 2)],
 [],
 []⟩
theorem r42_ok : resFun (progU ()) hint live 42 Try.f42 = some r42 := by kernel_rfl
/-- origin.made -/
def r43 : RFun :=
⟨(.seq (.reg (some [0, 1]) [⟨(some 2), none, (.op true (.box 6 (.tmp 0)))⟩, ⟨(some 4), none, (.op false (.old (.assign (.const (.slice none 0 0)))))⟩])
 (.seq (.seq (.reg (some [1, 2]) [⟨(some 13), none, (.op false (.fieldAddr 1 (.tmp 2)))⟩, ⟨(some 14), none, (.op false (.load1 (.int .u8) (.tmp 13)))⟩])
 (.block 0 (.seq (.reg (some [1, 2, 14]) [⟨(some 16), none, (.op false (.old (.binOp .eql 5 (.tmp 14) (.const (.int .u8 1)) 5)))⟩, ⟨(some 15), none, (.op false (.old (.assign (.tmp 16))))⟩])
 (.cond (.tmp 15) (.seq (.reg (some [2]) [⟨(some 17), none, (.op false (.fieldAddr 4 (.tmp 2)))⟩, ⟨(some 18), none, (.op false (.load1 .slice (.tmp 17)))⟩, ⟨(some 19), none, (.op false (.buildSlice 1 1 [(.slice none 0 0)] [(0, 1, (.tmp 18))]))⟩, ⟨(some 20), none, (.call (.func 48) [(.tmp 19)] (some (.val (.one .slice))))⟩, ⟨(some 4), none, (.op false (.old (.assign (.tmp 20))))⟩])
 .ret)
 (.seq (.reg (some [1, 2, 14]) [⟨(some 22), none, (.op false (.old (.binOp .eql 5 (.tmp 14) (.const (.int .u8 2)) 5)))⟩, ⟨(some 21), none, (.op false (.old (.assign (.tmp 22))))⟩])
 (.cond (.tmp 21) (.seq (.reg (some [1, 2]) [⟨(some 5), none, (.op false (.old (.assign (.const (.slice none 0 0)))))⟩])
 (.seq (.seq (.reg (some [1, 2, 5]) [⟨(some 23), none, (.op false (.fieldAddr 2 (.tmp 2)))⟩, ⟨(some 24), none, (.op false (.load1 .slice (.tmp 23)))⟩, ⟨(some 25), none, (.op false (.lenS (.tmp 24)))⟩, ⟨(some 26), none, (.op false (.old (.move (.const (.int .i64 0)))))⟩])
 (.block 1 (.loop 7 none (some [1, 5, 25, 26]))))
 (.seq (.reg (some [5]) [⟨(some 36), none, (.op false (.old (.move (.tmp 5))))⟩, ⟨(some 37), none, (.call (.func 48) [(.tmp 36)] (some (.val (.one .slice))))⟩, ⟨(some 4), none, (.op false (.old (.assign (.tmp 37))))⟩])
 .ret)))
 (.seq (.reg (some [1, 2, 14]) [⟨(some 39), none, (.op false (.old (.binOp .eql 5 (.tmp 14) (.const (.int .u8 6)) 5)))⟩, ⟨(some 38), none, (.op false (.old (.assign (.tmp 39))))⟩])
 (.cond (.tmp 38) (.seq (.reg (some [1]) [⟨(some 40), none, (.op false (.old (.move (.tmp 1))))⟩, ⟨(some 41), none, (.call (.tmp 40) [(.const (.int .i64 0))] (some (.val (.one .slice))))⟩, ⟨(some 42), none, (.op false (.old (.move (.tmp 1))))⟩, ⟨(some 43), none, (.call (.tmp 42) [(.const (.int .i64 1))] (some (.val (.one .slice))))⟩, ⟨(some 44), none, (.call (.func 49) [(.tmp 41), (.tmp 43)] (some (.val (.one .slice))))⟩, ⟨(some 4), none, (.op false (.old (.assign (.tmp 44))))⟩])
 .ret)
 .skip))))))))
 (.seq (.reg (some [1, 2]) [⟨(some 45), none, (.op false (.old (.move (.tmp 1))))⟩, ⟨(some 46), none, (.call (.tmp 45) [(.const (.int .i64 0))] (some (.val (.one .slice))))⟩, ⟨(some 47), none, (.op false (.buildSlice 1 1 [(.slice none 0 0)] [(0, 1, (.tmp 46))]))⟩, ⟨(some 48), none, (.call (.func 48) [(.tmp 47)] (some (.val (.one .slice))))⟩, ⟨(some 7), none, (.op false (.old (.assign (.tmp 48))))⟩])
 (.seq (.seq (.reg (some [2, 7]) [⟨(some 49), none, (.op false (.fieldAddr 1 (.tmp 2)))⟩, ⟨(some 50), none, (.op false (.load1 (.int .u8) (.tmp 49)))⟩])
 (.block 3 (.seq (.reg (some [2, 7, 50]) [⟨(some 52), none, (.op false (.old (.binOp .eql 5 (.tmp 50) (.const (.int .u8 3)) 5)))⟩, ⟨(some 51), none, (.op false (.old (.assign (.tmp 52))))⟩])
 (.cond (.tmp 51) (.seq (.reg (some [7]) [⟨(some 53), none, (.op false (.old (.move (.tmp 7))))⟩, ⟨(some 54), none, (.op false (.lenS (.tmp 53)))⟩, ⟨(some 55), none, (.op false (.old (.binOp .sub 3 (.tmp 54) (.const (.int .i64 1)) 3)))⟩, ⟨(some 8), none, (.op false (.old (.assign (.const (.int .i64 0)))))⟩, ⟨(some 9), none, (.op false (.old (.assign (.tmp 55))))⟩])
 (.block 4 (.loop 18 (some [7, 8, 9]) (some [7, 8, 9]))))
 (.seq (.reg (some [2, 7, 50]) [⟨(some 78), none, (.op false (.old (.binOp .eql 5 (.tmp 50) (.const (.int .u8 4)) 5)))⟩, ⟨(some 77), none, (.op false (.old (.assign (.tmp 78))))⟩])
 (.cond (.tmp 77) (.reg (some [2, 7]) [⟨(some 79), none, (.op false (.old (.move (.tmp 7))))⟩, ⟨(some 80), none, (.op false (.fieldAddr 3 (.tmp 2)))⟩, ⟨(some 81), none, (.op false (.load1 (.int .i64) (.tmp 80)))⟩, ⟨(some 82), none, (.op false (.old (.move (.tmp 7))))⟩, ⟨(some 83), none, (.op false (.lenS (.tmp 82)))⟩, ⟨(some 84), none, (.op false (.old (.call ⟨.builtin .min, #[(.tmp 81), (.tmp 83)], #[3, 3]⟩)))⟩, ⟨(some 85), none, (.op false (.cutS 23 (.tmp 79) none (some (.tmp 84)) none))⟩, ⟨(some 7), none, (.op false (.old (.assign (.tmp 85))))⟩])
 (.seq (.reg (some [2, 7, 50]) [⟨(some 87), none, (.op false (.old (.binOp .eql 5 (.tmp 50) (.const (.int .u8 5)) 5)))⟩, ⟨(some 86), none, (.op false (.old (.assign (.tmp 87))))⟩])
 (.cond (.tmp 86) (.seq (.reg (some [2, 7]) [⟨(some 88), none, (.op false (.old (.move (.tmp 7))))⟩, ⟨(some 89), none, (.op false (.lenS (.tmp 88)))⟩, ⟨(some 90), none, (.op false (.old (.move (.const (.int .i64 0)))))⟩])
 (.block 6 (.loop 25 (some [2, 7, 89, 90]) (some [2, 7, 89, 90]))))
 (.seq (.reg (some [2, 7, 50]) [⟨(some 104), none, (.op false (.old (.binOp .eql 5 (.tmp 50) (.const (.int .u8 7)) 5)))⟩, ⟨(some 103), none, (.op false (.old (.assign (.tmp 104))))⟩])
 (.cond (.tmp 103) (.seq (.reg (some [2, 7]) [⟨(some 11), none, (.op false (.old (.assign (.const (.slice none 0 0)))))⟩])
 (.seq (.seq (.reg (some [2, 7, 11]) [⟨(some 12), none, (.op false (.old (.assign (.const (.int .i64 0)))))⟩])
 (.block 8 (.loop 32 none (some [2, 7, 11, 12]))))
 (.reg (some [11]) [⟨(some 120), none, (.op false (.old (.move (.tmp 11))))⟩, ⟨(some 7), none, (.op false (.old (.assign (.tmp 120))))⟩])))
 .skip))))))))))
 (.seq (.reg (some [7]) [⟨(some 121), none, (.op false (.old (.move (.tmp 7))))⟩, ⟨(some 4), none, (.op false (.old (.assign (.tmp 121))))⟩])
 .ret))))),
 [(.tmp 4)],
 [(7, ⟨none, (some [1, 5, 25, 26]), (.seq (.reg (some [1, 5, 25, 26]) [⟨(some 27), none, (.op false (.old (.binOp .lss 3 (.tmp 26) (.tmp 25) 3)))⟩])
 (.seq (.cond (.tmp 27) .skip
 (.exit 1 (some [5])))
 (.seq (.block 2 (.seq (.reg (some [1, 5, 25, 26]) [⟨(some 28), none, (.op false (.old (.move (.tmp 26))))⟩, ⟨(some 6), none, (.op false (.old (.assign (.tmp 28))))⟩])
 (.reg (some [1, 5, 6, 25, 26]) [⟨(some 29), none, (.op false (.old (.move (.tmp 5))))⟩, ⟨(some 30), none, (.op false (.old (.move (.tmp 1))))⟩, ⟨(some 31), none, (.op false (.old (.move (.tmp 6))))⟩, ⟨(some 32), none, (.call (.tmp 30) [(.tmp 31)] (some (.val (.one .slice))))⟩, ⟨(some 33), none, (.op false (.buildSlice 1 1 [(.slice none 0 0)] [(0, 1, (.tmp 32))]))⟩, ⟨(some 34), none, (.op false (.old (.call ⟨.builtin .append, #[(.tmp 29), (.tmp 33)], #[67, 67]⟩)))⟩, ⟨(some 5), none, (.op false (.old (.assign (.tmp 34))))⟩])))
 (.reg (some [1, 5, 25, 26]) [⟨(some 35), none, (.op false (.old (.binOp .add 3 (.tmp 26) (.const (.int .i64 1)) 3)))⟩, ⟨(some 26), none, (.op false (.old (.move (.tmp 35))))⟩]))))⟩), (18, ⟨(some [7, 8, 9]), (some [7, 8, 9]), (.seq (.seq (.reg (some [7, 8, 9]) [⟨(some 56), none, (.op false (.old (.move (.tmp 8))))⟩, ⟨(some 57), none, (.op false (.old (.move (.tmp 9))))⟩, ⟨(some 58), none, (.op false (.old (.binOp .lss 3 (.tmp 56) (.tmp 57) 3)))⟩])
 (.cond (.tmp 58) .skip
 (.exit 4 (some [7]))))
 (.seq (.block 5 (.draw (some [7, 8, 9]) 16 [⟨⟨(some 63), none, (.op false (.old (.move (.tmp 7))))⟩, 0, .none, [12, 13, 14, 15], false, true⟩, ⟨⟨(some 64), none, (.op false (.old (.move (.tmp 8))))⟩, 1, .none, [12, 13, 14, 15], false, true⟩, ⟨⟨(some 65), none, (.op false (.old (.move (.tmp 7))))⟩, 2, .none, [14, 15], false, true⟩, ⟨⟨(some 66), none, (.op false (.old (.move (.tmp 9))))⟩, 3, .none, [14, 15], false, true⟩, ⟨⟨(some 67), none, (.op false (.old (.move (.tmp 7))))⟩, 4, .none, [6, 7, 12, 13, 14, 15], false, true⟩, ⟨⟨(some 68), none, (.op false (.old (.move (.tmp 9))))⟩, 5, .none, [6, 7, 12, 13, 14, 15], false, true⟩, ⟨⟨(some 69), none, (.op false (.ixS 1 (.tmp 67) (.tmp 68)))⟩, 6, .none, [7, 12, 13, 14, 15], false, true⟩, ⟨⟨(some 70), none, (.op false (.load1 (.int .u8) (.tmp 69)))⟩, 7, (.blk (.tmp 69)), [12, 13, 14, 15], false, true⟩, ⟨⟨(some 71), none, (.op false (.old (.move (.tmp 7))))⟩, 8, .none, [10, 11, 12, 13, 14, 15], false, true⟩, ⟨⟨(some 72), none, (.op false (.old (.move (.tmp 8))))⟩, 9, .none, [10, 11, 12, 13, 14, 15], false, true⟩, ⟨⟨(some 73), none, (.op false (.ixS 1 (.tmp 71) (.tmp 72)))⟩, 10, .none, [11, 12, 13, 14, 15], false, true⟩, ⟨⟨(some 74), none, (.op false (.load1 (.int .u8) (.tmp 73)))⟩, 11, (.blk (.tmp 73)), [12, 13, 14, 15], false, true⟩, ⟨⟨(some 75), none, (.op false (.ixS 1 (.tmp 63) (.tmp 64)))⟩, 12, .none, [13, 14, 15], false, true⟩, ⟨⟨none, none, (.op false (.store 1 (.tmp 75) (.tmp 70)))⟩, 13, (.blk (.tmp 75)), [14, 15], true, true⟩, ⟨⟨(some 76), none, (.op false (.ixS 1 (.tmp 65) (.tmp 66)))⟩, 14, .none, [15], false, true⟩, ⟨⟨none, none, (.op false (.store 1 (.tmp 76) (.tmp 74)))⟩, 15, (.blk (.tmp 76)), [], true, true⟩]))
 (.reg (some [7, 8, 9]) [⟨(some 59), none, (.op false (.old (.move (.tmp 8))))⟩, ⟨(some 60), none, (.op false (.old (.binOp .add 3 (.tmp 59) (.const (.int .i64 1)) 3)))⟩, ⟨(some 61), none, (.op false (.old (.move (.tmp 9))))⟩, ⟨(some 62), none, (.op false (.old (.binOp .sub 3 (.tmp 61) (.const (.int .i64 1)) 3)))⟩, ⟨(some 8), none, (.op false (.old (.assign (.tmp 60))))⟩, ⟨(some 9), none, (.op false (.old (.assign (.tmp 62))))⟩])))⟩), (25, ⟨(some [2, 7, 89, 90]), (some [2, 7, 89, 90]), (.seq (.reg (some [2, 7, 89, 90]) [⟨(some 91), none, (.op false (.old (.binOp .lss 3 (.tmp 90) (.tmp 89) 3)))⟩])
 (.seq (.cond (.tmp 91) .skip
 (.exit 6 (some [7])))
 (.seq (.block 7 (.seq (.reg (some [2, 7, 89, 90]) [⟨(some 92), none, (.op false (.old (.move (.tmp 90))))⟩, ⟨(some 10), none, (.op false (.old (.assign (.tmp 92))))⟩])
 (.draw (some [2, 7, 10, 89, 90]) 10 [⟨⟨(some 93), none, (.op false (.old (.move (.tmp 7))))⟩, 0, .none, [2, 3, 7, 8, 9], false, true⟩, ⟨⟨(some 94), none, (.op false (.old (.move (.tmp 10))))⟩, 1, .none, [2, 3, 7, 8, 9], false, true⟩, ⟨⟨(some 95), none, (.op false (.ixS 1 (.tmp 93) (.tmp 94)))⟩, 2, .none, [3, 7, 8, 9], false, true⟩, ⟨⟨(some 96), none, (.op false (.load1 (.int .u8) (.tmp 95)))⟩, 3, (.blk (.tmp 95)), [7, 8, 9], false, true⟩, ⟨⟨(some 97), none, (.op false (.fieldAddr 3 (.tmp 2)))⟩, 4, .none, [5, 6, 7, 8, 9], false, true⟩, ⟨⟨(some 98), none, (.op false (.load1 (.int .i64) (.tmp 97)))⟩, 5, (.blk (.tmp 97)), [6, 7, 8, 9], false, true⟩, ⟨⟨(some 99), none, (.op false (.convI .u8 (.tmp 98)))⟩, 6, (.cvt (.tmp 98)), [7, 8, 9], false, true⟩, ⟨⟨(some 100), none, (.op false (.old (.binOp .add 5 (.tmp 96) (.tmp 99) 5)))⟩, 7, .none, [8, 9], false, true⟩, ⟨⟨(some 101), none, (.op false (.ixS 1 (.tmp 93) (.tmp 94)))⟩, 8, .none, [9], false, true⟩, ⟨⟨none, none, (.op false (.store 1 (.tmp 101) (.tmp 100)))⟩, 9, (.blk (.tmp 101)), [], true, true⟩])))
 (.reg (some [2, 7, 89, 90]) [⟨(some 102), none, (.op false (.old (.binOp .add 3 (.tmp 90) (.const (.int .i64 1)) 3)))⟩, ⟨(some 90), none, (.op false (.old (.move (.tmp 102))))⟩]))))⟩), (32, ⟨none, (some [2, 7, 11, 12]), (.seq (.seq (.reg (some [2, 7, 11, 12]) [⟨(some 105), none, (.op false (.old (.move (.tmp 12))))⟩, ⟨(some 106), none, (.op false (.old (.move (.tmp 7))))⟩, ⟨(some 107), none, (.op false (.lenS (.tmp 106)))⟩, ⟨(some 108), none, (.op false (.old (.binOp .lss 3 (.tmp 105) (.tmp 107) 3)))⟩])
 (.cond (.tmp 108) .skip
 (.exit 8 (some [11]))))
 (.seq (.block 9 (.reg (some [2, 7, 11, 12]) [⟨(some 113), none, (.op false (.old (.move (.tmp 11))))⟩, ⟨(some 114), none, (.op false (.old (.move (.tmp 7))))⟩, ⟨(some 115), none, (.op false (.old (.move (.tmp 12))))⟩, ⟨(some 116), none, (.op false (.ixS 1 (.tmp 114) (.tmp 115)))⟩, ⟨(some 117), none, (.op false (.load1 (.int .u8) (.tmp 116)))⟩, ⟨(some 118), none, (.op false (.buildSlice 1 1 [(.int .u8 0)] [(0, 1, (.tmp 117))]))⟩, ⟨(some 119), none, (.op false (.old (.call ⟨.builtin .append, #[(.tmp 113), (.tmp 118)], #[23, 23]⟩)))⟩, ⟨(some 11), none, (.op false (.old (.assign (.tmp 119))))⟩]))
 (.reg (some [2, 7, 11, 12]) [⟨(some 109), none, (.op false (.old (.move (.tmp 12))))⟩, ⟨(some 110), none, (.op false (.fieldAddr 3 (.tmp 2)))⟩, ⟨(some 111), none, (.op false (.load1 (.int .i64) (.tmp 110)))⟩, ⟨(some 112), none, (.op false (.old (.binOp .add 3 (.tmp 109) (.tmp 111) 3)))⟩, ⟨(some 12), none, (.op false (.old (.assign (.tmp 112))))⟩])))⟩)],
 []⟩
theorem r43_ok : resFun (progU ()) hint live 43 Try.f43 = some r43 := by kernel_rfl
/-- origin.products$1 -/
def r44 : RFun :=
⟨(.seq (.reg (some [0, 1, 2]) [⟨(some 4), none, (.op false (.old (.assign (.const (.slice none 0 0)))))⟩])
 (.seq (.draw (some [0, 1, 2]) 8 [⟨⟨(some 5), none, (.op false (.load1 .any (.tmp 1)))⟩, 0, (.blk (.tmp 1)), [6, 7], false, true⟩, ⟨⟨(some 6), none, (.op false (.fieldAddr 2 (.tmp 2)))⟩, 1, .none, [2, 4, 5, 6, 7], false, true⟩, ⟨⟨(some 7), none, (.op false (.load1 .slice (.tmp 6)))⟩, 2, (.blk (.tmp 6)), [4, 5, 6, 7], false, true⟩, ⟨⟨(some 8), none, (.op false (.old (.move (.tmp 0))))⟩, 3, .none, [4, 5, 6, 7], false, true⟩, ⟨⟨(some 9), none, (.op false (.ixS 1 (.tmp 7) (.tmp 8)))⟩, 4, .none, [5, 6, 7], false, true⟩, ⟨⟨(some 10), none, (.op false (.load1 .str (.tmp 9)))⟩, 5, (.blk (.tmp 9)), [6, 7], false, true⟩, ⟨⟨(some 11), none, (.op false (.old (.lookup 63 (.tmp 5) (.tmp 10) false)))⟩, 6, .all, [7], false, false⟩, ⟨⟨(some 4), none, (.op false (.old (.assign (.tmp 11))))⟩, 7, .none, [], false, true⟩])
 .ret)),
 [(.tmp 4)],
 [],
 []⟩
theorem r44_ok : resFun (progU ()) hint live 44 Try.f44 = some r44 := by kernel_rfl
/-- fringeref44.formed -/
def r45 : RFun :=
⟨(.seq (.reg (some [0]) [⟨(some 1), none, (.op true (.box 6 (.tmp 0)))⟩, ⟨(some 2), none, (.op false (.old (.assign (.const (.bool false)))))⟩])
 (.seq (.reg (some [1]) [⟨(some 3), none, (.op false (.old (.assign (.const (.int .i64 1)))))⟩, ⟨(some 4), none, (.op false (.old (.assign (.const (.int .i64 1)))))⟩, ⟨(some 5), none, (.op false (.old (.assign (.const (.int .i64 0)))))⟩, ⟨(some 6), none, (.op false (.old (.assign (.const (.int .i64 0)))))⟩])
 (.seq (.seq (.reg (some [1, 3, 4, 5, 6]) [⟨(some 7), none, (.op false (.fieldAddr 1 (.tmp 1)))⟩, ⟨(some 8), none, (.op false (.load1 (.int .u8) (.tmp 7)))⟩])
 (.block 0 (.seq (.reg (some [1, 3, 4, 5, 6, 8]) [⟨(some 10), none, (.op false (.old (.binOp .eql 5 (.tmp 8) (.const (.int .u8 1)) 5)))⟩, ⟨(some 9), none, (.op false (.old (.assign (.tmp 10))))⟩])
 (.cond (.tmp 9) (.reg (some [1, 5]) [⟨(some 3), none, (.op false (.old (.assign (.const (.int .i64 0)))))⟩, ⟨(some 4), none, (.op false (.old (.assign (.const (.int .i64 0)))))⟩, ⟨(some 6), none, (.op false (.old (.assign (.const (.int .i64 256)))))⟩])
 (.seq (.reg (some [1, 3, 4, 5, 6, 8]) [⟨(some 12), none, (.op false (.old (.binOp .eql 5 (.tmp 8) (.const (.int .u8 2)) 5)))⟩, ⟨(some 11), none, (.op false (.old (.assign (.tmp 12))))⟩])
 (.cond (.tmp 11) (.reg (some [1, 3, 5, 6]) [⟨(some 4), none, (.op false (.old (.assign (.const (.int .i64 4)))))⟩])
 (.seq (.reg (some [1, 3, 4, 5, 6, 8]) [⟨(some 14), none, (.op false (.old (.binOp .eql 5 (.tmp 8) (.const (.int .u8 3)) 5)))⟩, ⟨(some 13), none, (.op false (.old (.assign (.tmp 14))))⟩])
 (.cond (.tmp 13) .skip
 (.seq (.reg (some [1, 3, 4, 5, 6, 8]) [⟨(some 16), none, (.op false (.old (.binOp .eql 5 (.tmp 8) (.const (.int .u8 4)) 5)))⟩, ⟨(some 15), none, (.op false (.old (.assign (.tmp 16))))⟩])
 (.cond (.tmp 15) (.reg (some [1, 3, 4, 6]) [⟨(some 5), none, (.op false (.old (.assign (.const (.int .i64 1000)))))⟩])
 (.seq (.reg (some [1, 3, 4, 5, 6, 8]) [⟨(some 18), none, (.op false (.old (.binOp .eql 5 (.tmp 8) (.const (.int .u8 5)) 5)))⟩, ⟨(some 17), none, (.op false (.old (.assign (.tmp 18))))⟩])
 (.cond (.tmp 17) (.reg (some [1, 3, 4, 6]) [⟨(some 5), none, (.op false (.old (.assign (.const (.int .i64 255)))))⟩])
 (.seq (.reg (some [1, 3, 4, 5, 6, 8]) [⟨(some 20), none, (.op false (.old (.binOp .eql 5 (.tmp 8) (.const (.int .u8 6)) 5)))⟩, ⟨(some 19), none, (.op false (.old (.assign (.tmp 20))))⟩])
 (.cond (.tmp 19) (.reg (some [1, 5, 6]) [⟨(some 3), none, (.op false (.old (.assign (.const (.int .i64 2)))))⟩, ⟨(some 4), none, (.op false (.old (.assign (.const (.int .i64 2)))))⟩])
 (.seq (.reg (some [1, 3, 4, 6, 8]) [⟨(some 22), none, (.op false (.old (.binOp .eql 5 (.tmp 8) (.const (.int .u8 7)) 5)))⟩, ⟨(some 21), none, (.op false (.old (.assign (.tmp 22))))⟩])
 (.cond (.tmp 21) (.reg (some [1, 3, 4, 6]) [⟨(some 5), none, (.op false (.old (.assign (.const (.int .i64 1000)))))⟩])
 (.seq (.reg (some []) [⟨(some 2), none, (.op false (.old (.assign (.const (.bool false)))))⟩])
 .ret)))))))))))))))))
 (.seq (.seq (.reg (some [1, 3, 4, 5, 6]) [⟨(some 23), none, (.op false (.fieldAddr 1 (.tmp 1)))⟩, ⟨(some 24), none, (.op false (.load1 (.int .u8) (.tmp 23)))⟩, ⟨(some 25), none, (.op false (.old (.binOp .eql 5 (.tmp 24) (.const (.int .u8 7)) 5)))⟩, ⟨(some 26), none, (.op false (.old (.move (.tmp 25))))⟩, ⟨(some 27), (some (26, true)), (.op false (.fieldAddr 3 (.tmp 1)))⟩, ⟨(some 28), (some (26, true)), (.op false (.load1 (.int .i64) (.tmp 27)))⟩, ⟨(some 29), (some (26, true)), (.op false (.old (.binOp .eql 3 (.tmp 28) (.const (.int .i64 0)) 3)))⟩, ⟨(some 30), none, (.op false (.old (.pick (.tmp 26) (.tmp 29) (.const (.bool false)))))⟩])
 (.cond (.tmp 30) (.seq (.reg (some []) [⟨(some 2), none, (.op false (.old (.assign (.const (.bool false)))))⟩])
 .ret)
 .skip))
 (.seq (.reg (some [1, 3, 4, 5, 6]) [⟨(some 31), none, (.op false (.fieldAddr 0 (.tmp 1)))⟩, ⟨(some 32), none, (.op false (.load1 .str (.tmp 31)))⟩, ⟨(some 33), none, (.call (.func 50) [(.tmp 32)] (some (.val (.one .bool))))⟩, ⟨(some 34), none, (.op false (.old (.move (.tmp 33))))⟩, ⟨(some 35), (some (34, true)), (.op false (.fieldAddr 5 (.tmp 1)))⟩, ⟨(some 36), (some (34, true)), (.op false (.load1 (.int .i64) (.tmp 35)))⟩, ⟨(some 37), (some (34, true)), (.op false (.old (.binOp .geq 3 (.tmp 36) (.const (.int .i64 0)) 3)))⟩, ⟨(some 38), none, (.op false (.old (.pick (.tmp 34) (.tmp 37) (.const (.bool false)))))⟩, ⟨(some 39), none, (.op false (.old (.move (.tmp 38))))⟩, ⟨(some 40), (some (39, true)), (.op false (.fieldAddr 5 (.tmp 1)))⟩, ⟨(some 41), (some (39, true)), (.op false (.load1 (.int .i64) (.tmp 40)))⟩, ⟨(some 42), (some (39, true)), (.op false (.old (.binOp .lss 3 (.tmp 41) (.const (.int .i64 1000000007)) 3)))⟩, ⟨(some 43), none, (.op false (.old (.pick (.tmp 39) (.tmp 42) (.const (.bool false)))))⟩, ⟨(some 44), none, (.op false (.old (.move (.tmp 43))))⟩, ⟨(some 45), (some (44, true)), (.op false (.fieldAddr 2 (.tmp 1)))⟩, ⟨(some 46), (some (44, true)), (.op false (.load1 .slice (.tmp 45)))⟩, ⟨(some 47), (some (44, true)), (.op false (.lenS (.tmp 46)))⟩, ⟨(some 48), (some (44, true)), (.op false (.old (.move (.tmp 3))))⟩, ⟨(some 49), (some (44, true)), (.op false (.old (.binOp .geq 3 (.tmp 47) (.tmp 48) 3)))⟩, ⟨(some 50), none, (.op false (.old (.pick (.tmp 44) (.tmp 49) (.const (.bool false)))))⟩, ⟨(some 51), none, (.op false (.old (.move (.tmp 50))))⟩, ⟨(some 52), (some (51, true)), (.op false (.fieldAddr 2 (.tmp 1)))⟩, ⟨(some 53), (some (51, true)), (.op false (.load1 .slice (.tmp 52)))⟩, ⟨(some 54), (some (51, true)), (.op false (.lenS (.tmp 53)))⟩, ⟨(some 55), (some (51, true)), (.op false (.old (.move (.tmp 4))))⟩, ⟨(some 56), (some (51, true)), (.op false (.old (.binOp .leq 3 (.tmp 54) (.tmp 55) 3)))⟩, ⟨(some 57), none, (.op false (.old (.pick (.tmp 51) (.tmp 56) (.const (.bool false)))))⟩, ⟨(some 58), none, (.op false (.old (.move (.tmp 57))))⟩, ⟨(some 59), (some (58, true)), (.op false (.fieldAddr 3 (.tmp 1)))⟩, ⟨(some 60), (some (58, true)), (.op false (.load1 (.int .i64) (.tmp 59)))⟩, ⟨(some 61), (some (58, true)), (.op false (.old (.binOp .geq 3 (.tmp 60) (.const (.int .i64 0)) 3)))⟩, ⟨(some 62), none, (.op false (.old (.pick (.tmp 58) (.tmp 61) (.const (.bool false)))))⟩, ⟨(some 63), none, (.op false (.old (.move (.tmp 62))))⟩, ⟨(some 64), (some (63, true)), (.op false (.fieldAddr 3 (.tmp 1)))⟩, ⟨(some 65), (some (63, true)), (.op false (.load1 (.int .i64) (.tmp 64)))⟩, ⟨(some 66), (some (63, true)), (.op false (.old (.move (.tmp 5))))⟩, ⟨(some 67), (some (63, true)), (.op false (.old (.binOp .leq 3 (.tmp 65) (.tmp 66) 3)))⟩, ⟨(some 68), none, (.op false (.old (.pick (.tmp 63) (.tmp 67) (.const (.bool false)))))⟩, ⟨(some 69), none, (.op false (.old (.move (.tmp 68))))⟩, ⟨(some 70), (some (69, true)), (.op false (.fieldAddr 4 (.tmp 1)))⟩, ⟨(some 71), (some (69, true)), (.op false (.load1 .slice (.tmp 70)))⟩, ⟨(some 72), (some (69, true)), (.op false (.lenS (.tmp 71)))⟩, ⟨(some 73), (some (69, true)), (.op false (.old (.move (.tmp 6))))⟩, ⟨(some 74), (some (69, true)), (.op false (.old (.binOp .leq 3 (.tmp 72) (.tmp 73) 3)))⟩, ⟨(some 75), none, (.op false (.old (.pick (.tmp 69) (.tmp 74) (.const (.bool false)))))⟩, ⟨(some 2), none, (.op false (.old (.assign (.tmp 75))))⟩])
 .ret))))),
 [(.tmp 2)],
 [],
 []⟩
theorem r45_ok : resFun (progU ()) hint live 45 Try.f45 = some r45 := by kernel_rfl
/-- fringeref44.made -/
def r46 : RFun :=
⟨(.seq (.reg (some [0, 1, 2]) [⟨(some 3), none, (.op true (.box 6 (.tmp 0)))⟩, ⟨(some 6), none, (.op false (.old (.assign (.const (.slice none 0 0)))))⟩])
 (.seq (.reg (some [1, 2, 3]) [⟨(some 7), none, (.op false (.old (.assign (.const (.slice none 0 0)))))⟩])
 (.seq (.seq (.reg (some [1, 2, 3, 7]) [⟨(some 8), none, (.op false (.old (.assign (.const (.int .i64 0)))))⟩])
 (.block 0 (.loop 3 none (some [1, 2, 3, 7, 8]))))
 (.seq (.reg (some [3, 7]) [⟨(some 9), none, (.op false (.old (.assign (.const (.slice none 0 0)))))⟩])
 (.seq (.seq (.reg (some [3, 7, 9]) [⟨(some 36), none, (.op false (.fieldAddr 1 (.tmp 3)))⟩, ⟨(some 37), none, (.op false (.load1 (.int .u8) (.tmp 36)))⟩])
 (.block 2 (.seq (.reg (some [3, 7, 9, 37]) [⟨(some 39), none, (.op false (.old (.binOp .eql 5 (.tmp 37) (.const (.int .u8 1)) 5)))⟩, ⟨(some 38), none, (.op false (.old (.assign (.tmp 39))))⟩])
 (.cond (.tmp 38) (.reg (some [3, 9]) [⟨(some 40), none, (.op false (.old (.move (.tmp 9))))⟩, ⟨(some 41), none, (.op false (.fieldAddr 4 (.tmp 3)))⟩, ⟨(some 42), none, (.op false (.load1 .slice (.tmp 41)))⟩, ⟨(some 43), none, (.op false (.old (.call ⟨.builtin .append, #[(.tmp 40), (.tmp 42)], #[23, 23]⟩)))⟩, ⟨(some 9), none, (.op false (.old (.assign (.tmp 43))))⟩])
 (.seq (.reg (some [3, 7, 9, 37]) [⟨(some 45), none, (.op false (.old (.binOp .eql 5 (.tmp 37) (.const (.int .u8 2)) 5)))⟩, ⟨(some 44), none, (.op false (.old (.assign (.tmp 45))))⟩])
 (.cond (.tmp 44) (.seq (.reg (some [7, 9]) [⟨(some 10), none, (.op false (.old (.assign (.const (.int .i64 0)))))⟩])
 (.block 3 (.loop 12 none (some [7, 9, 10]))))
 (.seq (.reg (some [3, 7, 9, 37]) [⟨(some 59), none, (.op false (.old (.binOp .eql 5 (.tmp 37) (.const (.int .u8 3)) 5)))⟩, ⟨(some 58), none, (.op false (.old (.assign (.tmp 59))))⟩])
 (.cond (.tmp 58) (.seq (.reg (some [7, 9]) [⟨(some 60), none, (.op false (.old (.move (.tmp 7))))⟩, ⟨(some 61), none, (.op false (.ixS 1 (.tmp 60) (.const (.int .i64 0))))⟩, ⟨(some 62), none, (.op false (.load1 .slice (.tmp 61)))⟩, ⟨(some 63), none, (.op false (.lenS (.tmp 62)))⟩, ⟨(some 64), none, (.op false (.old (.binOp .sub 3 (.tmp 63) (.const (.int .i64 1)) 3)))⟩, ⟨(some 11), none, (.op false (.old (.assign (.tmp 64))))⟩])
 (.block 5 (.loop 17 none (some [7, 9, 11]))))
 (.seq (.reg (some [3, 7, 9, 37]) [⟨(some 79), none, (.op false (.old (.binOp .eql 5 (.tmp 37) (.const (.int .u8 4)) 5)))⟩, ⟨(some 78), none, (.op false (.old (.assign (.tmp 79))))⟩])
 (.cond (.tmp 78) (.draw (some [3, 7, 9]) 14 [⟨⟨(some 80), none, (.op false (.old (.move (.tmp 9))))⟩, 0, .none, [12, 13], false, true⟩, ⟨⟨(some 81), none, (.op false (.old (.move (.tmp 7))))⟩, 1, .none, [2, 3, 11, 12, 13], false, true⟩, ⟨⟨(some 82), none, (.op false (.ixS 1 (.tmp 81) (.const (.int .i64 0))))⟩, 2, .none, [3, 11, 12, 13], false, true⟩, ⟨⟨(some 83), none, (.op false (.load1 .slice (.tmp 82)))⟩, 3, (.blk (.tmp 82)), [11, 12, 13], false, true⟩, ⟨⟨(some 84), none, (.op false (.fieldAddr 3 (.tmp 3)))⟩, 4, .none, [5, 10, 11, 12, 13], false, true⟩, ⟨⟨(some 85), none, (.op false (.load1 (.int .i64) (.tmp 84)))⟩, 5, (.blk (.tmp 84)), [10, 11, 12, 13], false, true⟩, ⟨⟨(some 86), none, (.op false (.old (.move (.tmp 7))))⟩, 6, .none, [7, 8, 9, 10, 11, 12, 13], false, true⟩, ⟨⟨(some 87), none, (.op false (.ixS 1 (.tmp 86) (.const (.int .i64 0))))⟩, 7, .none, [8, 9, 10, 11, 12, 13], false, true⟩, ⟨⟨(some 88), none, (.op false (.load1 .slice (.tmp 87)))⟩, 8, (.blk (.tmp 87)), [9, 10, 11, 12, 13], false, true⟩, ⟨⟨(some 89), none, (.op false (.lenS (.tmp 88)))⟩, 9, .none, [10, 11, 12, 13], false, true⟩, ⟨⟨(some 90), none, (.op false (.old (.call ⟨.builtin .min, #[(.tmp 85), (.tmp 89)], #[3, 3]⟩)))⟩, 10, .none, [11, 12, 13], false, true⟩, ⟨⟨(some 91), none, (.op false (.cutS 23 (.tmp 83) none (some (.tmp 90)) none))⟩, 11, .none, [12, 13], false, true⟩, ⟨⟨(some 92), none, (.op false (.old (.call ⟨.builtin .append, #[(.tmp 80), (.tmp 91)], #[23, 23]⟩)))⟩, 12, .all, [13], false, false⟩, ⟨⟨(some 9), none, (.op false (.old (.assign (.tmp 92))))⟩, 13, .none, [], false, true⟩])
 (.seq (.reg (some [3, 7, 9, 37]) [⟨(some 94), none, (.op false (.old (.binOp .eql 5 (.tmp 37) (.const (.int .u8 5)) 5)))⟩, ⟨(some 93), none, (.op false (.old (.assign (.tmp 94))))⟩])
 (.cond (.tmp 93) (.seq (.reg (some [3, 7, 9]) [⟨(some 12), none, (.op false (.old (.assign (.const (.int .i64 0)))))⟩])
 (.block 7 (.loop 24 (some [3, 7, 9, 12]) (some [3, 7, 9, 12]))))
 (.seq (.reg (some [3, 7, 9, 37]) [⟨(some 119), none, (.op false (.old (.binOp .eql 5 (.tmp 37) (.const (.int .u8 6)) 5)))⟩, ⟨(some 118), none, (.op false (.old (.assign (.tmp 119))))⟩])
 (.cond (.tmp 118) (.seq (.reg (some [7, 9]) [⟨(some 13), none, (.op false (.old (.assign (.const (.int .i64 0)))))⟩])
 (.block 9 (.loop 29 (some [7, 9, 13]) (some [7, 9, 13]))))
 (.seq (.reg (some [3, 7, 9, 37]) [⟨(some 166), none, (.op false (.old (.binOp .eql 5 (.tmp 37) (.const (.int .u8 7)) 5)))⟩, ⟨(some 165), none, (.op false (.old (.assign (.tmp 166))))⟩])
 (.cond (.tmp 165) (.seq (.reg (some [3, 7, 9]) [⟨(some 15), none, (.op false (.old (.assign (.const (.int .i64 0)))))⟩])
 (.block 11 (.loop 39 none (some [3, 7, 9, 15]))))
 .skip))))))))))))))))
 (.seq (.reg (some [9]) [⟨(some 186), none, (.op false (.old (.move (.tmp 9))))⟩, ⟨(some 6), none, (.op false (.old (.assign (.tmp 186))))⟩])
 .ret)))))),
 [(.tmp 6)],
 [(3, ⟨none, (some [1, 2, 3, 7, 8]), (.seq (.seq (.reg (some [1, 2, 3, 7, 8]) [⟨(some 16), none, (.op false (.old (.move (.tmp 8))))⟩, ⟨(some 17), none, (.op false (.fieldAddr 2 (.tmp 3)))⟩, ⟨(some 18), none, (.op false (.load1 .slice (.tmp 17)))⟩, ⟨(some 19), none, (.op false (.lenS (.tmp 18)))⟩, ⟨(some 20), none, (.op false (.old (.binOp .lss 3 (.tmp 16) (.tmp 19) 3)))⟩])
 (.cond (.tmp 20) .skip
 (.exit 0 (some [3, 7]))))
 (.seq (.block 1 (.reg (some [1, 2, 3, 7, 8]) [⟨(some 23), none, (.op false (.old (.move (.tmp 7))))⟩, ⟨(some 24), none, (.op false (.old (.move (.tmp 2))))⟩, ⟨(some 25), none, (.op false (.old (.move (.tmp 1))))⟩, ⟨(some 26), none, (.op false (.fieldAddr 2 (.tmp 3)))⟩, ⟨(some 27), none, (.op false (.load1 .slice (.tmp 26)))⟩, ⟨(some 28), none, (.op false (.old (.move (.tmp 8))))⟩, ⟨(some 29), none, (.op false (.ixS 1 (.tmp 27) (.tmp 28)))⟩, ⟨(some 30), none, (.op false (.load1 .str (.tmp 29)))⟩, ⟨(some 31), none, (.call (.func 32) [(.tmp 25), (.tmp 30)] (some (.val (.one (.int .i64)))))⟩, ⟨(some 32), none, (.op false (.ixS 1 (.tmp 24) (.tmp 31)))⟩, ⟨(some 33), none, (.op false (.load1 .slice (.tmp 32)))⟩, ⟨(some 34), none, (.op false (.buildSlice 1 1 [(.slice none 0 0)] [(0, 1, (.tmp 33))]))⟩, ⟨(some 35), none, (.op false (.old (.call ⟨.builtin .append, #[(.tmp 23), (.tmp 34)], #[67, 67]⟩)))⟩, ⟨(some 7), none, (.op false (.old (.assign (.tmp 35))))⟩]))
 (.reg (some [1, 2, 3, 7, 8]) [⟨(some 21), none, (.op false (.old (.move (.tmp 8))))⟩, ⟨(some 22), none, (.op false (.old (.binOp .add 3 (.tmp 21) (.const (.int .i64 1)) 3)))⟩, ⟨(some 8), none, (.op false (.old (.assign (.tmp 22))))⟩])))⟩), (12, ⟨none, (some [7, 9, 10]), (.seq (.seq (.reg (some [7, 9, 10]) [⟨(some 46), none, (.op false (.old (.move (.tmp 10))))⟩, ⟨(some 47), none, (.op false (.old (.move (.tmp 7))))⟩, ⟨(some 48), none, (.op false (.lenS (.tmp 47)))⟩, ⟨(some 49), none, (.op false (.old (.binOp .lss 3 (.tmp 46) (.tmp 48) 3)))⟩])
 (.cond (.tmp 49) .skip
 (.exit 3 (some [9]))))
 (.seq (.block 4 (.reg (some [7, 9, 10]) [⟨(some 52), none, (.op false (.old (.move (.tmp 9))))⟩, ⟨(some 53), none, (.op false (.old (.move (.tmp 7))))⟩, ⟨(some 54), none, (.op false (.old (.move (.tmp 10))))⟩, ⟨(some 55), none, (.op false (.ixS 1 (.tmp 53) (.tmp 54)))⟩, ⟨(some 56), none, (.op false (.load1 .slice (.tmp 55)))⟩, ⟨(some 57), none, (.op false (.old (.call ⟨.builtin .append, #[(.tmp 52), (.tmp 56)], #[23, 23]⟩)))⟩, ⟨(some 9), none, (.op false (.old (.assign (.tmp 57))))⟩]))
 (.reg (some [7, 9, 10]) [⟨(some 50), none, (.op false (.old (.move (.tmp 10))))⟩, ⟨(some 51), none, (.op false (.old (.binOp .add 3 (.tmp 50) (.const (.int .i64 1)) 3)))⟩, ⟨(some 10), none, (.op false (.old (.assign (.tmp 51))))⟩])))⟩), (17, ⟨none, (some [7, 9, 11]), (.seq (.seq (.reg (some [7, 9, 11]) [⟨(some 65), none, (.op false (.old (.move (.tmp 11))))⟩, ⟨(some 66), none, (.op false (.old (.binOp .geq 3 (.tmp 65) (.const (.int .i64 0)) 3)))⟩])
 (.cond (.tmp 66) .skip
 (.exit 5 (some [9]))))
 (.seq (.block 6 (.reg (some [7, 9, 11]) [⟨(some 69), none, (.op false (.old (.move (.tmp 9))))⟩, ⟨(some 70), none, (.op false (.old (.move (.tmp 7))))⟩, ⟨(some 71), none, (.op false (.ixS 1 (.tmp 70) (.const (.int .i64 0))))⟩, ⟨(some 72), none, (.op false (.load1 .slice (.tmp 71)))⟩, ⟨(some 73), none, (.op false (.old (.move (.tmp 11))))⟩, ⟨(some 74), none, (.op false (.ixS 1 (.tmp 72) (.tmp 73)))⟩, ⟨(some 75), none, (.op false (.load1 (.int .u8) (.tmp 74)))⟩, ⟨(some 76), none, (.op false (.buildSlice 1 1 [(.int .u8 0)] [(0, 1, (.tmp 75))]))⟩, ⟨(some 77), none, (.op false (.old (.call ⟨.builtin .append, #[(.tmp 69), (.tmp 76)], #[23, 23]⟩)))⟩, ⟨(some 9), none, (.op false (.old (.assign (.tmp 77))))⟩]))
 (.reg (some [7, 9, 11]) [⟨(some 67), none, (.op false (.old (.move (.tmp 11))))⟩, ⟨(some 68), none, (.op false (.old (.binOp .sub 3 (.tmp 67) (.const (.int .i64 1)) 3)))⟩, ⟨(some 11), none, (.op false (.old (.assign (.tmp 68))))⟩])))⟩), (24, ⟨(some [3, 7, 9, 12]), (some [3, 7, 9, 12]), (.seq (.seq (.reg (some [3, 7, 9, 12]) [⟨(some 95), none, (.op false (.old (.move (.tmp 12))))⟩, ⟨(some 96), none, (.op false (.old (.move (.tmp 7))))⟩, ⟨(some 97), none, (.op false (.ixS 1 (.tmp 96) (.const (.int .i64 0))))⟩, ⟨(some 98), none, (.op false (.load1 .slice (.tmp 97)))⟩, ⟨(some 99), none, (.op false (.lenS (.tmp 98)))⟩, ⟨(some 100), none, (.op false (.old (.binOp .lss 3 (.tmp 95) (.tmp 99) 3)))⟩])
 (.cond (.tmp 100) .skip
 (.exit 7 (some [9]))))
 (.seq (.block 8 (.draw (some [3, 7, 9, 12]) 16 [⟨⟨(some 103), none, (.op false (.old (.move (.tmp 9))))⟩, 0, .none, [14, 15], false, true⟩, ⟨⟨(some 104), none, (.op false (.old (.move (.tmp 7))))⟩, 1, .none, [2, 3, 5, 6, 7, 10, 11, 12, 13, 14, 15], false, true⟩, ⟨⟨(some 105), none, (.op false (.ixS 1 (.tmp 104) (.const (.int .i64 0))))⟩, 2, .none, [3, 5, 6, 7, 10, 11, 12, 13, 14, 15], false, true⟩, ⟨⟨(some 106), none, (.op false (.load1 .slice (.tmp 105)))⟩, 3, (.blk (.tmp 105)), [5, 6, 7, 10, 11, 12, 13, 14, 15], false, true⟩, ⟨⟨(some 107), none, (.op false (.old (.move (.tmp 12))))⟩, 4, .none, [5, 6, 7, 10, 11, 12, 13, 14, 15], false, true⟩, ⟨⟨(some 108), none, (.op false (.ixS 1 (.tmp 106) (.tmp 107)))⟩, 5, .none, [6, 7, 10, 11, 12, 13, 14, 15], false, true⟩, ⟨⟨(some 109), none, (.op false (.load1 (.int .u8) (.tmp 108)))⟩, 6, (.blk (.tmp 108)), [7, 10, 11, 12, 13, 14, 15], false, true⟩, ⟨⟨(some 110), none, (.op false (.convI .i64 (.tmp 109)))⟩, 7, (.cvt (.tmp 109)), [10, 11, 12, 13, 14, 15], false, true⟩, ⟨⟨(some 111), none, (.op false (.fieldAddr 3 (.tmp 3)))⟩, 8, .none, [9, 10, 11, 12, 13, 14, 15], false, true⟩, ⟨⟨(some 112), none, (.op false (.load1 (.int .i64) (.tmp 111)))⟩, 9, (.blk (.tmp 111)), [10, 11, 12, 13, 14, 15], false, true⟩, ⟨⟨(some 113), none, (.op false (.old (.binOp .add 3 (.tmp 110) (.tmp 112) 3)))⟩, 10, .none, [11, 12, 13, 14, 15], false, true⟩, ⟨⟨(some 114), none, (.op false (.old (.binOp .rem 3 (.tmp 113) (.const (.int .i64 256)) 3)))⟩, 11, .none, [12, 13, 14, 15], false, true⟩, ⟨⟨(some 115), none, (.op false (.convI .u8 (.tmp 114)))⟩, 12, (.cvt (.tmp 114)), [13, 14, 15], false, true⟩, ⟨⟨(some 116), none, (.op false (.buildSlice 1 1 [(.int .u8 0)] [(0, 1, (.tmp 115))]))⟩, 13, (.new false), [14, 15], false, true⟩, ⟨⟨(some 117), none, (.op false (.old (.call ⟨.builtin .append, #[(.tmp 103), (.tmp 116)], #[23, 23]⟩)))⟩, 14, .all, [15], false, false⟩, ⟨⟨(some 9), none, (.op false (.old (.assign (.tmp 117))))⟩, 15, .none, [], false, true⟩]))
 (.reg (some [3, 7, 9, 12]) [⟨(some 101), none, (.op false (.old (.move (.tmp 12))))⟩, ⟨(some 102), none, (.op false (.old (.binOp .add 3 (.tmp 101) (.const (.int .i64 1)) 3)))⟩, ⟨(some 12), none, (.op false (.old (.assign (.tmp 102))))⟩])))⟩), (29, ⟨(some [7, 9, 13]), (some [7, 9, 13]), (.seq (.seq (.draw (some [7, 9, 13]) 11 [⟨⟨(some 120), none, (.op false (.old (.move (.tmp 13))))⟩, 0, .none, [10], false, true⟩, ⟨⟨(some 121), none, (.op false (.old (.move (.tmp 7))))⟩, 1, .none, [2, 3, 4, 9, 10], false, true⟩, ⟨⟨(some 122), none, (.op false (.ixS 1 (.tmp 121) (.const (.int .i64 0))))⟩, 2, .none, [3, 4, 9, 10], false, true⟩, ⟨⟨(some 123), none, (.op false (.load1 .slice (.tmp 122)))⟩, 3, (.blk (.tmp 122)), [4, 9, 10], false, true⟩, ⟨⟨(some 124), none, (.op false (.lenS (.tmp 123)))⟩, 4, .none, [9, 10], false, true⟩, ⟨⟨(some 125), none, (.op false (.old (.move (.tmp 7))))⟩, 5, .none, [6, 7, 8, 9, 10], false, true⟩, ⟨⟨(some 126), none, (.op false (.ixS 1 (.tmp 125) (.const (.int .i64 1))))⟩, 6, .none, [7, 8, 9, 10], false, true⟩, ⟨⟨(some 127), none, (.op false (.load1 .slice (.tmp 126)))⟩, 7, (.blk (.tmp 126)), [8, 9, 10], false, true⟩, ⟨⟨(some 128), none, (.op false (.lenS (.tmp 127)))⟩, 8, .none, [9, 10], false, true⟩, ⟨⟨(some 129), none, (.op false (.old (.call ⟨.builtin .max, #[(.tmp 124), (.tmp 128)], #[3, 3]⟩)))⟩, 9, .none, [10], false, true⟩, ⟨⟨(some 130), none, (.op false (.old (.binOp .lss 3 (.tmp 120) (.tmp 129) 3)))⟩, 10, .none, [], false, true⟩])
 (.cond (.tmp 130) .skip
 (.exit 9 (some [9]))))
 (.seq (.block 10 (.seq (.reg (some [7, 9, 13]) [⟨(some 14), none, (.op false (.old (.assign (.const (.int .u8 0)))))⟩])
 (.seq (.seq (.reg (some [7, 9, 13, 14]) [⟨(some 133), none, (.op false (.old (.move (.tmp 13))))⟩, ⟨(some 134), none, (.op false (.old (.move (.tmp 7))))⟩, ⟨(some 135), none, (.op false (.ixS 1 (.tmp 134) (.const (.int .i64 0))))⟩, ⟨(some 136), none, (.op false (.load1 .slice (.tmp 135)))⟩, ⟨(some 137), none, (.op false (.lenS (.tmp 136)))⟩, ⟨(some 138), none, (.op false (.old (.binOp .lss 3 (.tmp 133) (.tmp 137) 3)))⟩])
 (.cond (.tmp 138) (.reg (some [7, 9, 13, 14]) [⟨(some 139), none, (.op false (.old (.move (.tmp 14))))⟩, ⟨(some 140), none, (.op false (.old (.move (.tmp 7))))⟩, ⟨(some 141), none, (.op false (.ixS 1 (.tmp 140) (.const (.int .i64 0))))⟩, ⟨(some 142), none, (.op false (.load1 .slice (.tmp 141)))⟩, ⟨(some 143), none, (.op false (.old (.move (.tmp 13))))⟩, ⟨(some 144), none, (.op false (.ixS 1 (.tmp 142) (.tmp 143)))⟩, ⟨(some 145), none, (.op false (.load1 (.int .u8) (.tmp 144)))⟩, ⟨(some 146), none, (.op false (.old (.binOp .xor 5 (.tmp 139) (.tmp 145) 5)))⟩, ⟨(some 14), none, (.op false (.old (.assign (.tmp 146))))⟩])
 .skip))
 (.seq (.seq (.reg (some [7, 9, 13, 14]) [⟨(some 147), none, (.op false (.old (.move (.tmp 13))))⟩, ⟨(some 148), none, (.op false (.old (.move (.tmp 7))))⟩, ⟨(some 149), none, (.op false (.ixS 1 (.tmp 148) (.const (.int .i64 1))))⟩, ⟨(some 150), none, (.op false (.load1 .slice (.tmp 149)))⟩, ⟨(some 151), none, (.op false (.lenS (.tmp 150)))⟩, ⟨(some 152), none, (.op false (.old (.binOp .lss 3 (.tmp 147) (.tmp 151) 3)))⟩])
 (.cond (.tmp 152) (.reg (some [7, 9, 13, 14]) [⟨(some 153), none, (.op false (.old (.move (.tmp 14))))⟩, ⟨(some 154), none, (.op false (.old (.move (.tmp 7))))⟩, ⟨(some 155), none, (.op false (.ixS 1 (.tmp 154) (.const (.int .i64 1))))⟩, ⟨(some 156), none, (.op false (.load1 .slice (.tmp 155)))⟩, ⟨(some 157), none, (.op false (.old (.move (.tmp 13))))⟩, ⟨(some 158), none, (.op false (.ixS 1 (.tmp 156) (.tmp 157)))⟩, ⟨(some 159), none, (.op false (.load1 (.int .u8) (.tmp 158)))⟩, ⟨(some 160), none, (.op false (.old (.binOp .xor 5 (.tmp 153) (.tmp 159) 5)))⟩, ⟨(some 14), none, (.op false (.old (.assign (.tmp 160))))⟩])
 .skip))
 (.reg (some [7, 9, 13, 14]) [⟨(some 161), none, (.op false (.old (.move (.tmp 9))))⟩, ⟨(some 162), none, (.op false (.old (.move (.tmp 14))))⟩, ⟨(some 163), none, (.op false (.buildSlice 1 1 [(.int .u8 0)] [(0, 1, (.tmp 162))]))⟩, ⟨(some 164), none, (.op false (.old (.call ⟨.builtin .append, #[(.tmp 161), (.tmp 163)], #[23, 23]⟩)))⟩, ⟨(some 9), none, (.op false (.old (.assign (.tmp 164))))⟩])))))
 (.reg (some [7, 9, 13]) [⟨(some 131), none, (.op false (.old (.move (.tmp 13))))⟩, ⟨(some 132), none, (.op false (.old (.binOp .add 3 (.tmp 131) (.const (.int .i64 1)) 3)))⟩, ⟨(some 13), none, (.op false (.old (.assign (.tmp 132))))⟩])))⟩), (39, ⟨none, (some [3, 7, 9, 15]), (.seq (.seq (.reg (some [3, 7, 9, 15]) [⟨(some 167), none, (.op false (.old (.move (.tmp 15))))⟩, ⟨(some 168), none, (.op false (.old (.move (.tmp 7))))⟩, ⟨(some 169), none, (.op false (.ixS 1 (.tmp 168) (.const (.int .i64 0))))⟩, ⟨(some 170), none, (.op false (.load1 .slice (.tmp 169)))⟩, ⟨(some 171), none, (.op false (.lenS (.tmp 170)))⟩, ⟨(some 172), none, (.op false (.old (.binOp .lss 3 (.tmp 167) (.tmp 171) 3)))⟩])
 (.cond (.tmp 172) .skip
 (.exit 11 (some [9]))))
 (.seq (.block 12 (.reg (some [3, 7, 9, 15]) [⟨(some 177), none, (.op false (.old (.move (.tmp 9))))⟩, ⟨(some 178), none, (.op false (.old (.move (.tmp 7))))⟩, ⟨(some 179), none, (.op false (.ixS 1 (.tmp 178) (.const (.int .i64 0))))⟩, ⟨(some 180), none, (.op false (.load1 .slice (.tmp 179)))⟩, ⟨(some 181), none, (.op false (.old (.move (.tmp 15))))⟩, ⟨(some 182), none, (.op false (.ixS 1 (.tmp 180) (.tmp 181)))⟩, ⟨(some 183), none, (.op false (.load1 (.int .u8) (.tmp 182)))⟩, ⟨(some 184), none, (.op false (.buildSlice 1 1 [(.int .u8 0)] [(0, 1, (.tmp 183))]))⟩, ⟨(some 185), none, (.op false (.old (.call ⟨.builtin .append, #[(.tmp 177), (.tmp 184)], #[23, 23]⟩)))⟩, ⟨(some 9), none, (.op false (.old (.assign (.tmp 185))))⟩]))
 (.reg (some [3, 7, 9, 15]) [⟨(some 173), none, (.op false (.old (.move (.tmp 15))))⟩, ⟨(some 174), none, (.op false (.fieldAddr 3 (.tmp 3)))⟩, ⟨(some 175), none, (.op false (.load1 (.int .i64) (.tmp 174)))⟩, ⟨(some 176), none, (.op false (.old (.binOp .add 3 (.tmp 173) (.tmp 175) 3)))⟩, ⟨(some 15), none, (.op false (.old (.assign (.tmp 176))))⟩])))⟩)],
 []⟩
theorem r46_ok : resFun (progU ()) hint live 46 Try.f46 = some r46 := by kernel_rfl
/-- origin.isName -/
def r47 : RFun :=
⟨(.seq (.reg (some [0]) [⟨(some 2), none, (.op false (.old (.assign (.const (.bool false)))))⟩])
 (.seq (.seq (.reg (some [0]) [⟨(some 5), none, (.op false (.old (.move (.tmp 0))))⟩, ⟨(some 6), none, (.op false (.lenStr (.tmp 5)))⟩, ⟨(some 7), none, (.op false (.old (.binOp .lss 3 (.tmp 6) (.const (.int .i64 1)) 3)))⟩, ⟨(some 8), none, (.op false (.old (.move (.tmp 7))))⟩, ⟨(some 9), (some (8, false)), (.op false (.old (.move (.tmp 0))))⟩, ⟨(some 10), (some (8, false)), (.op false (.lenStr (.tmp 9)))⟩, ⟨(some 11), (some (8, false)), (.op false (.old (.binOp .gtr 3 (.tmp 10) (.const (.int .i64 40)) 3)))⟩, ⟨(some 12), none, (.op false (.old (.pick (.tmp 8) (.const (.bool true)) (.tmp 11))))⟩, ⟨(some 13), none, (.op false (.old (.move (.tmp 12))))⟩, ⟨(some 14), (some (13, false)), (.op false (.old (.move (.tmp 0))))⟩, ⟨(some 15), (some (13, false)), (.op false (.old (.index 9 (.tmp 14) (.const (.int .i64 0)))))⟩, ⟨(some 16), (some (13, false)), (.op false (.old (.binOp .lss 5 (.tmp 15) (.const (.int .u8 97)) 5)))⟩, ⟨(some 17), none, (.op false (.old (.pick (.tmp 13) (.const (.bool true)) (.tmp 16))))⟩, ⟨(some 18), none, (.op false (.old (.move (.tmp 17))))⟩, ⟨(some 19), (some (18, false)), (.op false (.old (.move (.tmp 0))))⟩, ⟨(some 20), (some (18, false)), (.op false (.old (.index 9 (.tmp 19) (.const (.int .i64 0)))))⟩, ⟨(some 21), (some (18, false)), (.op false (.old (.binOp .gtr 5 (.tmp 20) (.const (.int .u8 122)) 5)))⟩, ⟨(some 22), none, (.op false (.old (.pick (.tmp 18) (.const (.bool true)) (.tmp 21))))⟩])
 (.cond (.tmp 22) (.seq (.reg (some []) [⟨(some 2), none, (.op false (.old (.assign (.const (.bool false)))))⟩])
 .ret)
 .skip))
 (.seq (.seq (.reg (some [0]) [⟨(some 3), none, (.op false (.old (.assign (.const (.int .i64 0)))))⟩])
 (.block 0 (.loop 4 none (some [0, 3]))))
 (.seq (.reg (some []) [⟨(some 2), none, (.op false (.old (.assign (.const (.bool true)))))⟩])
 .ret)))),
 [(.tmp 2)],
 [(4, ⟨none, (some [0, 3]), (.seq (.seq (.reg (some [0, 3]) [⟨(some 23), none, (.op false (.old (.move (.tmp 3))))⟩, ⟨(some 24), none, (.op false (.old (.move (.tmp 0))))⟩, ⟨(some 25), none, (.op false (.lenStr (.tmp 24)))⟩, ⟨(some 26), none, (.op false (.old (.binOp .lss 3 (.tmp 23) (.tmp 25) 3)))⟩])
 (.cond (.tmp 26) .skip
 (.exit 0 (some []))))
 (.seq (.block 1 (.seq (.reg (some [0, 3]) [⟨(some 29), none, (.op false (.old (.move (.tmp 0))))⟩, ⟨(some 30), none, (.op false (.old (.move (.tmp 3))))⟩, ⟨(some 31), none, (.op false (.old (.index 9 (.tmp 29) (.tmp 30))))⟩, ⟨(some 4), none, (.op false (.old (.assign (.tmp 31))))⟩])
 (.seq (.reg (some [0, 3, 4]) [⟨(some 32), none, (.op false (.old (.move (.tmp 4))))⟩, ⟨(some 33), none, (.op false (.old (.binOp .lss 5 (.tmp 32) (.const (.int .u8 97)) 5)))⟩, ⟨(some 34), none, (.op false (.old (.move (.tmp 33))))⟩, ⟨(some 35), (some (34, false)), (.op false (.old (.move (.tmp 4))))⟩, ⟨(some 36), (some (34, false)), (.op false (.old (.binOp .gtr 5 (.tmp 35) (.const (.int .u8 122)) 5)))⟩, ⟨(some 37), none, (.op false (.old (.pick (.tmp 34) (.const (.bool true)) (.tmp 36))))⟩, ⟨(some 38), none, (.op false (.old (.move (.tmp 37))))⟩, ⟨(some 39), (some (38, true)), (.op false (.old (.move (.tmp 4))))⟩, ⟨(some 40), (some (38, true)), (.op false (.old (.binOp .lss 5 (.tmp 39) (.const (.int .u8 48)) 5)))⟩, ⟨(some 41), (some (38, true)), (.op false (.old (.move (.tmp 40))))⟩, ⟨(some 42), (some (41, false)), (.op false (.old (.move (.tmp 4))))⟩, ⟨(some 43), (some (41, false)), (.op false (.old (.binOp .gtr 5 (.tmp 42) (.const (.int .u8 57)) 5)))⟩, ⟨(some 44), (some (38, true)), (.op false (.old (.pick (.tmp 41) (.const (.bool true)) (.tmp 43))))⟩, ⟨(some 45), none, (.op false (.old (.pick (.tmp 38) (.tmp 44) (.const (.bool false)))))⟩, ⟨(some 46), none, (.op false (.old (.move (.tmp 45))))⟩, ⟨(some 47), (some (46, true)), (.op false (.old (.move (.tmp 4))))⟩, ⟨(some 48), (some (46, true)), (.op false (.old (.binOp .neq 5 (.tmp 47) (.const (.int .u8 45)) 5)))⟩, ⟨(some 49), none, (.op false (.old (.pick (.tmp 46) (.tmp 48) (.const (.bool false)))))⟩])
 (.cond (.tmp 49) (.seq (.reg (some []) [⟨(some 2), none, (.op false (.old (.assign (.const (.bool false)))))⟩])
 .ret)
 .skip))))
 (.reg (some [0, 3]) [⟨(some 27), none, (.op false (.old (.move (.tmp 3))))⟩, ⟨(some 28), none, (.op false (.old (.binOp .add 3 (.tmp 27) (.const (.int .i64 1)) 3)))⟩, ⟨(some 3), none, (.op false (.old (.assign (.tmp 28))))⟩])))⟩)],
 []⟩
theorem r47_ok : resFun (progU ()) hint live 47 Try.f47 = some r47 := by kernel_rfl
/-- origin.join -/
def r48 : RFun :=
⟨(.seq (.reg (some [0]) [⟨(some 2), none, (.op false (.old (.assign (.const (.slice none 0 0)))))⟩])
 (.seq (.reg (some [0]) [⟨(some 3), none, (.op false (.old (.assign (.const (.slice none 0 0)))))⟩])
 (.seq (.seq (.reg (some [0, 3]) [⟨(some 6), none, (.op false (.old (.move (.tmp 0))))⟩, ⟨(some 7), none, (.op false (.lenS (.tmp 6)))⟩, ⟨(some 8), none, (.op false (.old (.move (.const (.int .i64 0)))))⟩])
 (.block 0 (.loop 3 none (some [3, 6, 7, 8]))))
 (.seq (.reg (some [3]) [⟨(some 16), none, (.op false (.old (.move (.tmp 3))))⟩, ⟨(some 2), none, (.op false (.old (.assign (.tmp 16))))⟩])
 .ret)))),
 [(.tmp 2)],
 [(3, ⟨none, (some [3, 6, 7, 8]), (.seq (.reg (some [3, 6, 7, 8]) [⟨(some 9), none, (.op false (.old (.binOp .lss 3 (.tmp 8) (.tmp 7) 3)))⟩])
 (.seq (.cond (.tmp 9) .skip
 (.exit 0 (some [3])))
 (.seq (.block 1 (.seq (.reg (some [3, 6, 7, 8]) [⟨(some 10), none, (.op false (.ixS 1 (.tmp 6) (.tmp 8)))⟩, ⟨(some 11), none, (.op false (.load1 .slice (.tmp 10)))⟩, ⟨(some 5), none, (.op false (.old (.assign (.tmp 11))))⟩])
 (.reg (some [3, 5, 6, 7, 8]) [⟨(some 12), none, (.op false (.old (.move (.tmp 3))))⟩, ⟨(some 13), none, (.op false (.old (.move (.tmp 5))))⟩, ⟨(some 14), none, (.op false (.old (.call ⟨.builtin .append, #[(.tmp 12), (.tmp 13)], #[23, 23]⟩)))⟩, ⟨(some 3), none, (.op false (.old (.assign (.tmp 14))))⟩])))
 (.reg (some [3, 6, 7, 8]) [⟨(some 15), none, (.op false (.old (.binOp .add 3 (.tmp 8) (.const (.int .i64 1)) 3)))⟩, ⟨(some 8), none, (.op false (.old (.move (.tmp 15))))⟩]))))⟩)],
 []⟩
theorem r48_ok : resFun (progU ()) hint live 48 Try.f48 = some r48 := by kernel_rfl
/-- origin.mixed -/
def r49 : RFun :=
⟨(.seq (.reg (some [0, 1]) [⟨(some 4), none, (.op false (.old (.assign (.const (.slice none 0 0)))))⟩])
 (.seq (.seq (.reg (some [0, 1]) [⟨(some 8), none, (.op false (.old (.move (.tmp 0))))⟩, ⟨(some 9), none, (.op false (.lenS (.tmp 8)))⟩, ⟨(some 10), none, (.op false (.old (.move (.tmp 1))))⟩, ⟨(some 11), none, (.op false (.lenS (.tmp 10)))⟩, ⟨(some 12), none, (.op false (.old (.binOp .lss 3 (.tmp 9) (.tmp 11) 3)))⟩])
 (.cond (.tmp 12) (.reg (some [0, 1]) [⟨(some 13), none, (.op false (.old (.move (.tmp 1))))⟩, ⟨(some 14), none, (.op false (.old (.move (.tmp 0))))⟩, ⟨(some 0), none, (.op false (.old (.assign (.tmp 13))))⟩, ⟨(some 1), none, (.op false (.old (.assign (.tmp 14))))⟩])
 .skip))
 (.seq (.reg (some [0, 1]) [⟨(some 15), none, (.op false (.old (.move (.tmp 0))))⟩, ⟨(some 16), none, (.op false (.buildSlice 1 1 [(.slice none 0 0)] [(0, 1, (.tmp 15))]))⟩, ⟨(some 17), none, (.call (.func 48) [(.tmp 16)] (some (.val (.one .slice))))⟩, ⟨(some 5), none, (.op false (.old (.assign (.tmp 17))))⟩])
 (.seq (.seq (.reg (some [1, 5]) [⟨(some 18), none, (.op false (.old (.move (.tmp 1))))⟩, ⟨(some 19), none, (.op false (.lenS (.tmp 18)))⟩, ⟨(some 20), none, (.op false (.old (.move (.const (.int .i64 0)))))⟩])
 (.block 0 (.loop 5 none (some [5, 18, 19, 20]))))
 (.seq (.reg (some [5]) [⟨(some 33), none, (.op false (.old (.move (.tmp 5))))⟩, ⟨(some 4), none, (.op false (.old (.assign (.tmp 33))))⟩])
 .ret))))),
 [(.tmp 4)],
 [(5, ⟨none, (some [5, 18, 19, 20]), (.seq (.reg (some [5, 18, 19, 20]) [⟨(some 21), none, (.op false (.old (.binOp .lss 3 (.tmp 20) (.tmp 19) 3)))⟩])
 (.seq (.cond (.tmp 21) .skip
 (.exit 0 (some [5])))
 (.seq (.block 1 (.seq (.reg (some [5, 18, 19, 20]) [⟨(some 22), none, (.op false (.old (.move (.tmp 20))))⟩, ⟨(some 23), none, (.op false (.ixS 1 (.tmp 18) (.tmp 20)))⟩, ⟨(some 24), none, (.op false (.load1 (.int .u8) (.tmp 23)))⟩, ⟨(some 6), none, (.op false (.old (.assign (.tmp 22))))⟩, ⟨(some 7), none, (.op false (.old (.assign (.tmp 24))))⟩])
 (.reg (some [5, 6, 7, 18, 19, 20]) [⟨(some 25), none, (.op false (.old (.move (.tmp 5))))⟩, ⟨(some 26), none, (.op false (.old (.move (.tmp 6))))⟩, ⟨(some 27), none, (.op false (.ixS 1 (.tmp 25) (.tmp 26)))⟩, ⟨(some 28), none, (.op false (.load1 (.int .u8) (.tmp 27)))⟩, ⟨(some 29), none, (.op false (.old (.move (.tmp 7))))⟩, ⟨(some 30), none, (.op false (.old (.binOp .xor 5 (.tmp 28) (.tmp 29) 5)))⟩, ⟨(some 31), none, (.op false (.ixS 1 (.tmp 25) (.tmp 26)))⟩, ⟨none, none, (.op false (.store 1 (.tmp 31) (.tmp 30)))⟩])))
 (.reg (some [5, 18, 19, 20]) [⟨(some 32), none, (.op false (.old (.binOp .add 3 (.tmp 20) (.const (.int .i64 1)) 3)))⟩, ⟨(some 20), none, (.op false (.old (.move (.tmp 32))))⟩]))))⟩)],
 []⟩
theorem r49_ok : resFun (progU ()) hint live 49 Try.f49 = some r49 := by kernel_rfl
/-- fringeref44.Name -/
def r50 : RFun :=
⟨(.seq (.reg (some [0]) [⟨(some 2), none, (.op false (.old (.assign (.const (.bool false)))))⟩])
 (.seq (.seq (.reg (some [0]) [⟨(some 4), none, (.op false (.old (.move (.tmp 0))))⟩, ⟨(some 5), none, (.op false (.lenStr (.tmp 4)))⟩, ⟨(some 6), none, (.op false (.old (.binOp .lss 3 (.tmp 5) (.const (.int .i64 1)) 3)))⟩, ⟨(some 7), none, (.op false (.old (.move (.tmp 6))))⟩, ⟨(some 8), (some (7, false)), (.op false (.old (.move (.tmp 0))))⟩, ⟨(some 9), (some (7, false)), (.op false (.lenStr (.tmp 8)))⟩, ⟨(some 10), (some (7, false)), (.op false (.old (.binOp .gtr 3 (.tmp 9) (.const (.int .i64 40)) 3)))⟩, ⟨(some 11), none, (.op false (.old (.pick (.tmp 7) (.const (.bool true)) (.tmp 10))))⟩, ⟨(some 12), none, (.op false (.old (.move (.tmp 11))))⟩, ⟨(some 13), (some (12, false)), (.op false (.old (.move (.tmp 0))))⟩, ⟨(some 14), (some (12, false)), (.op false (.old (.index 9 (.tmp 13) (.const (.int .i64 0)))))⟩, ⟨(some 15), (some (12, false)), (.op false (.old (.binOp .lss 5 (.tmp 14) (.const (.int .u8 97)) 5)))⟩, ⟨(some 16), none, (.op false (.old (.pick (.tmp 12) (.const (.bool true)) (.tmp 15))))⟩, ⟨(some 17), none, (.op false (.old (.move (.tmp 16))))⟩, ⟨(some 18), (some (17, false)), (.op false (.old (.move (.tmp 0))))⟩, ⟨(some 19), (some (17, false)), (.op false (.old (.index 9 (.tmp 18) (.const (.int .i64 0)))))⟩, ⟨(some 20), (some (17, false)), (.op false (.old (.binOp .gtr 5 (.tmp 19) (.const (.int .u8 122)) 5)))⟩, ⟨(some 21), none, (.op false (.old (.pick (.tmp 17) (.const (.bool true)) (.tmp 20))))⟩])
 (.cond (.tmp 21) (.seq (.reg (some []) [⟨(some 2), none, (.op false (.old (.assign (.const (.bool false)))))⟩])
 .ret)
 .skip))
 (.seq (.seq (.reg (some [0]) [⟨(some 3), none, (.op false (.old (.assign (.const (.int .i64 0)))))⟩])
 (.block 0 (.loop 4 none (some [0, 3]))))
 (.seq (.reg (some []) [⟨(some 2), none, (.op false (.old (.assign (.const (.bool true)))))⟩])
 .ret)))),
 [(.tmp 2)],
 [(4, ⟨none, (some [0, 3]), (.seq (.seq (.reg (some [0, 3]) [⟨(some 22), none, (.op false (.old (.move (.tmp 3))))⟩, ⟨(some 23), none, (.op false (.old (.move (.tmp 0))))⟩, ⟨(some 24), none, (.op false (.lenStr (.tmp 23)))⟩, ⟨(some 25), none, (.op false (.old (.binOp .lss 3 (.tmp 22) (.tmp 24) 3)))⟩])
 (.cond (.tmp 25) .skip
 (.exit 0 (some []))))
 (.seq (.block 1 (.seq (.reg (some [0, 3]) [⟨(some 28), none, (.op false (.old (.move (.tmp 0))))⟩, ⟨(some 29), none, (.op false (.old (.move (.tmp 3))))⟩, ⟨(some 30), none, (.op false (.old (.index 9 (.tmp 28) (.tmp 29))))⟩, ⟨(some 31), none, (.op false (.old (.binOp .neq 5 (.tmp 30) (.const (.int .u8 45)) 5)))⟩, ⟨(some 32), none, (.op false (.old (.move (.tmp 31))))⟩, ⟨(some 33), (some (32, true)), (.op false (.old (.move (.tmp 0))))⟩, ⟨(some 34), (some (32, true)), (.op false (.old (.move (.tmp 3))))⟩, ⟨(some 35), (some (32, true)), (.op false (.old (.index 9 (.tmp 33) (.tmp 34))))⟩, ⟨(some 36), (some (32, true)), (.op false (.old (.binOp .lss 5 (.tmp 35) (.const (.int .u8 97)) 5)))⟩, ⟨(some 37), (some (32, true)), (.op false (.old (.move (.tmp 36))))⟩, ⟨(some 38), (some (37, false)), (.op false (.old (.move (.tmp 0))))⟩, ⟨(some 39), (some (37, false)), (.op false (.old (.move (.tmp 3))))⟩, ⟨(some 40), (some (37, false)), (.op false (.old (.index 9 (.tmp 38) (.tmp 39))))⟩, ⟨(some 41), (some (37, false)), (.op false (.old (.binOp .gtr 5 (.tmp 40) (.const (.int .u8 122)) 5)))⟩, ⟨(some 42), (some (32, true)), (.op false (.old (.pick (.tmp 37) (.const (.bool true)) (.tmp 41))))⟩, ⟨(some 43), none, (.op false (.old (.pick (.tmp 32) (.tmp 42) (.const (.bool false)))))⟩, ⟨(some 44), none, (.op false (.old (.move (.tmp 43))))⟩, ⟨(some 45), (some (44, true)), (.op false (.old (.move (.tmp 0))))⟩, ⟨(some 46), (some (44, true)), (.op false (.old (.move (.tmp 3))))⟩, ⟨(some 47), (some (44, true)), (.op false (.old (.index 9 (.tmp 45) (.tmp 46))))⟩, ⟨(some 48), (some (44, true)), (.op false (.old (.binOp .lss 5 (.tmp 47) (.const (.int .u8 48)) 5)))⟩, ⟨(some 49), (some (44, true)), (.op false (.old (.move (.tmp 48))))⟩, ⟨(some 50), (some (49, false)), (.op false (.old (.move (.tmp 0))))⟩, ⟨(some 51), (some (49, false)), (.op false (.old (.move (.tmp 3))))⟩, ⟨(some 52), (some (49, false)), (.op false (.old (.index 9 (.tmp 50) (.tmp 51))))⟩, ⟨(some 53), (some (49, false)), (.op false (.old (.binOp .gtr 5 (.tmp 52) (.const (.int .u8 57)) 5)))⟩, ⟨(some 54), (some (44, true)), (.op false (.old (.pick (.tmp 49) (.const (.bool true)) (.tmp 53))))⟩, ⟨(some 55), none, (.op false (.old (.pick (.tmp 44) (.tmp 54) (.const (.bool false)))))⟩])
 (.cond (.tmp 55) (.seq (.reg (some []) [⟨(some 2), none, (.op false (.old (.assign (.const (.bool false)))))⟩])
 .ret)
 .skip)))
 (.reg (some [0, 3]) [⟨(some 26), none, (.op false (.old (.move (.tmp 3))))⟩, ⟨(some 27), none, (.op false (.old (.binOp .add 3 (.tmp 26) (.const (.int .i64 1)) 3)))⟩, ⟨(some 3), none, (.op false (.old (.assign (.tmp 27))))⟩])))⟩)],
 []⟩
theorem r50_ok : resFun (progU ()) hint live 50 Try.f50 = some r50 := by kernel_rfl
end Go.Proofs.Ytopppccddnplkaa
