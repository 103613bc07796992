/-
  THE RESOLVED FORM OF EACH FUNCTION OF THIS SEAT. (Written by seat2.sh; the kernel looks whether it is right.)
-/
import Derived.Test.YtogofeppflindaaSeat0
namespace Go.Proofs.Ytogofeppflindaa
open Go.Sim
set_option maxRecDepth 100000
/-- gosem.cut.init -/
def r2 : RFun :=
⟨(.reg (some []) [⟨(some 0), none, (.call (.func 1) [] (some (.tup [])))⟩]),
 [],
 [],
 []⟩
theorem r2_ok : resFun (progU ()) hint live 2 Try.f2 = some r2 := by kernel_rfl
/-- fringeref40.Great -/
def r10 : RFun :=
⟨(.seq (.reg (some [0]) [⟨(some 2), none, (.op false (.old (.assign (.const (.bool false)))))⟩])
 (.seq (.seq (.reg (some [0]) [⟨(some 3), none, (.op false (.old (.assign (.const (.int .i64 0)))))⟩])
 (.block 0 (.loop 2 none (some [0, 3]))))
 (.seq (.reg (some [0]) [⟨(some 16), none, (.op false (.old (.move (.tmp 0))))⟩, ⟨(some 17), none, (.op false (.lenS (.tmp 16)))⟩, ⟨(some 18), none, (.op false (.old (.binOp .gtr 3 (.tmp 17) (.const (.int .i64 20)) 3)))⟩, ⟨(some 2), none, (.op false (.old (.assign (.tmp 18))))⟩])
 .ret))),
 [(.tmp 2)],
 [(2, ⟨none, (some [0, 3]), (.seq (.seq (.reg (some [0, 3]) [⟨(some 4), none, (.op false (.old (.move (.tmp 3))))⟩, ⟨(some 5), none, (.op false (.old (.move (.tmp 0))))⟩, ⟨(some 6), none, (.op false (.lenS (.tmp 5)))⟩, ⟨(some 7), none, (.op false (.old (.binOp .lss 3 (.tmp 4) (.tmp 6) 3)))⟩])
 (.cond (.tmp 7) .skip
 (.exit 0 (some [0]))))
 (.seq (.block 1 (.seq (.reg (some [0, 3]) [⟨(some 10), none, (.op false (.old (.move (.tmp 0))))⟩, ⟨(some 11), none, (.op false (.old (.move (.tmp 3))))⟩, ⟨(some 12), none, (.op false (.ixS 1 (.tmp 10) (.tmp 11)))⟩, ⟨(some 13), none, (.op false (.load1 .slice (.tmp 12)))⟩, ⟨(some 14), none, (.op false (.lenS (.tmp 13)))⟩, ⟨(some 15), none, (.op false (.old (.binOp .gtr 3 (.tmp 14) (.const (.int .i64 20)) 3)))⟩])
 (.cond (.tmp 15) (.seq (.reg (some []) [⟨(some 2), none, (.op false (.old (.assign (.const (.bool true)))))⟩])
 .ret)
 .skip)))
 (.reg (some [0, 3]) [⟨(some 8), none, (.op false (.old (.move (.tmp 3))))⟩, ⟨(some 9), none, (.op false (.old (.binOp .add 3 (.tmp 8) (.const (.int .i64 1)) 3)))⟩, ⟨(some 3), none, (.op false (.old (.assign (.tmp 9))))⟩])))⟩)],
 []⟩
theorem r10_ok : resFun (progU ()) hint live 10 Try.f10 = some r10 := by kernel_rfl
/-- fringeref40.Twin -/
def r11 : RFun :=
⟨(.seq (.reg (some [0]) [⟨(some 2), none, (.op false (.old (.assign (.const (.slice none 0 0)))))⟩])
 (.seq (.reg (some [0]) [⟨(some 3), none, (.op false (.old (.assign (.const (.slice none 0 0)))))⟩])
 (.seq (.seq (.reg (some [0, 3]) [⟨(some 4), none, (.op false (.old (.assign (.const (.int .i64 0)))))⟩])
 (.block 0 (.loop 3 none (some [0, 3, 4]))))
 (.seq (.reg (some [3]) [⟨(some 20), none, (.op false (.old (.move (.tmp 3))))⟩, ⟨(some 2), none, (.op false (.old (.assign (.tmp 20))))⟩])
 .ret)))),
 [(.tmp 2)],
 [(3, ⟨none, (some [0, 3, 4]), (.seq (.seq (.reg (some [0, 3, 4]) [⟨(some 5), none, (.op false (.old (.move (.tmp 4))))⟩, ⟨(some 6), none, (.op false (.old (.move (.tmp 0))))⟩, ⟨(some 7), none, (.op false (.lenS (.tmp 6)))⟩, ⟨(some 8), none, (.op false (.old (.binOp .lss 3 (.tmp 5) (.tmp 7) 3)))⟩])
 (.cond (.tmp 8) .skip
 (.exit 0 (some [3]))))
 (.seq (.block 1 (.reg (some [0, 3, 4]) [⟨(some 11), none, (.op false (.old (.move (.tmp 3))))⟩, ⟨(some 12), none, (.op false (.buildSlice 1 0 [] []))⟩, ⟨(some 13), none, (.op false (.old (.move (.tmp 0))))⟩, ⟨(some 14), none, (.op false (.old (.move (.tmp 4))))⟩, ⟨(some 15), none, (.op false (.ixS 1 (.tmp 13) (.tmp 14)))⟩, ⟨(some 16), none, (.op false (.load1 .slice (.tmp 15)))⟩, ⟨(some 17), none, (.op false (.old (.call ⟨.builtin .append, #[(.tmp 12), (.tmp 16)], #[52, 52]⟩)))⟩, ⟨(some 18), none, (.op false (.buildSlice 1 1 [(.slice none 0 0)] [(0, 1, (.tmp 17))]))⟩, ⟨(some 19), none, (.op false (.old (.call ⟨.builtin .append, #[(.tmp 11), (.tmp 18)], #[22, 22]⟩)))⟩, ⟨(some 3), none, (.op false (.old (.assign (.tmp 19))))⟩]))
 (.reg (some [0, 3, 4]) [⟨(some 9), none, (.op false (.old (.move (.tmp 4))))⟩, ⟨(some 10), none, (.op false (.old (.binOp .add 3 (.tmp 9) (.const (.int .i64 1)) 3)))⟩, ⟨(some 4), none, (.op false (.old (.assign (.tmp 10))))⟩])))⟩)],
 []⟩
theorem r11_ok : resFun (progU ()) hint live 11 Try.f11 = some r11 := by kernel_rfl
/-- clean.Clean -/
def r12 : RFun :=
⟨(.seq (.reg (some [0, 1, 2]) [⟨(some 5), none, (.op false (.box 4 (.tmp 2)))⟩, ⟨(some 6), none, (.op false (.new 1 [(.slice none 0 0)]))⟩, ⟨(some 7), none, (.op false (.new 1 [(.slice none 0 0)]))⟩, ⟨(some 8), none, (.op false (.new 1 [(.int .i64 0)]))⟩])
 (.seq (.seq (.reg (some [0, 1, 5, 6, 7, 8]) [⟨(some 11), none, (.op false (.old (.move (.tmp 0))))⟩, ⟨(some 12), none, (.op false (.old (.move (.tmp 1))))⟩, ⟨(some 13), none, (.op false (.load 4 [(.int .i64), (.int .i64), (.int .i64), (.int .i64)] (.tmp 5)))⟩, ⟨(some 14), none, (.call (.func 16) [(.tmp 11), (.tmp 12), (.tmp 13)] (some (.val (.one (.int .i64)))))⟩, ⟨none, none, (.op false (.store 1 (.tmp 8) (.tmp 14)))⟩])
 (.seq (.reg (some [0, 1, 5, 6, 7, 8]) [⟨(some 15), none, (.op false (.load1 (.int .i64) (.tmp 8)))⟩, ⟨(some 16), none, (.op false (.old (.binOp .neq 28 (.tmp 15) (.const (.int .i64 0)) 28)))⟩])
 (.cond (.tmp 16) (.seq (.draw (some [6, 7, 8]) 4 [⟨⟨(some 17), none, (.op false (.load1 (.int .i64) (.tmp 8)))⟩, 0, (.blk (.tmp 8)), [3], false, true⟩, ⟨⟨none, none, (.op false (.store 1 (.tmp 6) (.const (.slice none 0 0))))⟩, 1, (.blk (.tmp 6)), [2, 3], true, true⟩, ⟨⟨none, none, (.op false (.store 1 (.tmp 7) (.const (.slice none 0 0))))⟩, 2, (.blk (.tmp 7)), [3], true, true⟩, ⟨⟨none, none, (.op false (.store 1 (.tmp 8) (.tmp 17)))⟩, 3, (.blk (.tmp 8)), [], true, true⟩])
 .ret)
 .skip)))
 (.seq (.reg (some [0, 1, 5, 6, 7, 8]) [⟨(some 18), none, (.op false (.old (.move (.tmp 0))))⟩, ⟨(some 19), none, (.call (.func 31) [(.tmp 18)] (some (.val (.one .slice))))⟩, ⟨none, none, (.op false (.store 1 (.tmp 6) (.tmp 19)))⟩])
 (.seq (.seq (.reg (some [1, 5, 6, 7, 8]) [⟨(some 20), none, (.op false (.load1 .slice (.tmp 6)))⟩, ⟨(some 21), none, (.op false (.old (.move (.tmp 1))))⟩, ⟨(some 22), none, (.op false (.load 4 [(.int .i64), (.int .i64), (.int .i64), (.int .i64)] (.tmp 5)))⟩, ⟨(some 23), none, (.call (.func 32) [(.tmp 20), (.tmp 21), (.tmp 22)] (some (.val (.one .any))))⟩])
 (.block 0 (.range 6)))
 (.seq (.draw (some [6, 7, 8]) 5 [⟨⟨(some 32), none, (.op false (.load1 .slice (.tmp 6)))⟩, 0, (.blk (.tmp 6)), [2, 3, 4], false, true⟩, ⟨⟨(some 33), none, (.op false (.load1 .slice (.tmp 7)))⟩, 1, (.blk (.tmp 7)), [3, 4], false, true⟩, ⟨⟨none, none, (.op false (.store 1 (.tmp 6) (.tmp 32)))⟩, 2, (.blk (.tmp 6)), [3, 4], true, true⟩, ⟨⟨none, none, (.op false (.store 1 (.tmp 7) (.tmp 33)))⟩, 3, (.blk (.tmp 7)), [4], true, true⟩, ⟨⟨none, none, (.op false (.store 1 (.tmp 8) (.const (.int .i64 0))))⟩, 4, (.blk (.tmp 8)), [], true, true⟩])
 .ret))))),
 [(.one 6 .slice), (.one 7 .slice), (.one 8 (.int .i64))],
 [],
 [(6, ⟨(.tmp 23), [24, 25], (.seq (.reg (some [6, 7, 8, 24, 25]) [⟨(some 9), none, (.op false (.new 3 [(.int .i64 0), (.int .i64 0), (.int .i64 0)]))⟩, ⟨none, none, (.op false (.store 3 (.tmp 9) (.tmp 24)))⟩])
 (.reg (some [6, 7, 8, 9, 25]) [⟨(some 10), none, (.op false (.old (.assign (.tmp 25))))⟩])), (.block 1 (.seq (.seq (.reg (some [6, 7, 8, 9, 10]) [⟨(some 26), none, (.op false (.old (.move (.tmp 10))))⟩, ⟨(some 27), none, (.op false (.old (.unOp .not 4 (.tmp 26))))⟩])
 (.cond (.tmp 27) (.seq (.reg (some [6, 7, 8]) [⟨none, none, (.op false (.store 1 (.tmp 6) (.const (.slice none 0 0))))⟩, ⟨none, none, (.op false (.store 1 (.tmp 7) (.const (.slice none 0 0))))⟩, ⟨none, none, (.op false (.store 1 (.tmp 8) (.const (.int .i64 16))))⟩])
 .ret)
 .skip))
 (.reg (some [7, 9]) [⟨(some 28), none, (.op false (.load1 .slice (.tmp 7)))⟩, ⟨(some 29), none, (.op false (.load 3 [(.int .i64), (.int .i64), (.int .i64)] (.tmp 9)))⟩, ⟨(some 30), none, (.op false (.buildSlice 3 1 [(.int .i64 0), (.int .i64 0), (.int .i64 0)] [(0, 3, (.tmp 29))]))⟩, ⟨(some 31), none, (.op false (.old (.call ⟨.builtin .append, #[(.tmp 28), (.tmp 30)], #[27, 27]⟩)))⟩, ⟨none, none, (.op false (.store 1 (.tmp 7) (.tmp 31)))⟩])))⟩)]⟩
theorem r12_ok : resFun (progU ()) hint live 12 Try.f12 = some r12 := by kernel_rfl
/-- fringeref40.Clean -/
def r13 : RFun :=
⟨(.seq (.reg (some [0, 1, 2]) [⟨(some 5), none, (.op true (.box 4 (.tmp 2)))⟩, ⟨(some 6), none, (.op false (.old (.assign (.const (.slice none 0 0)))))⟩, ⟨(some 7), none, (.op false (.old (.assign (.const (.slice none 0 0)))))⟩, ⟨(some 8), none, (.op false (.old (.assign (.const (.int .i64 0)))))⟩])
 (.seq (.seq (.reg (some [0, 1, 5]) [⟨(some 16), none, (.op false (.old (.move (.tmp 0))))⟩, ⟨(some 17), none, (.op false (.old (.move (.tmp 1))))⟩, ⟨(some 18), none, (.op false (.load 4 [(.int .i64), (.int .i64), (.int .i64), (.int .i64)] (.tmp 5)))⟩, ⟨(some 19), none, (.call (.func 17) [(.tmp 16), (.tmp 17), (.tmp 18)] (some (.val (.one (.int .i64)))))⟩, ⟨(some 9), none, (.op false (.old (.assign (.tmp 19))))⟩])
 (.seq (.reg (some [0, 1, 5, 9]) [⟨(some 20), none, (.op false (.old (.move (.tmp 9))))⟩, ⟨(some 21), none, (.op false (.old (.binOp .neq 3 (.tmp 20) (.const (.int .i64 0)) 3)))⟩])
 (.cond (.tmp 21) (.seq (.reg (some [9]) [⟨(some 22), none, (.op false (.old (.move (.tmp 9))))⟩, ⟨(some 6), none, (.op false (.old (.assign (.const (.slice none 0 0)))))⟩, ⟨(some 7), none, (.op false (.old (.assign (.const (.slice none 0 0)))))⟩, ⟨(some 8), none, (.op false (.old (.assign (.tmp 22))))⟩])
 .ret)
 .skip)))
 (.seq (.reg (some [0, 1, 5]) [⟨(some 23), none, (.op false (.old (.move (.tmp 0))))⟩, ⟨(some 24), none, (.call (.func 11) [(.tmp 23)] (some (.val (.one .slice))))⟩, ⟨(some 10), none, (.op false (.old (.assign (.tmp 24))))⟩])
 (.seq (.reg (some [1, 5, 10]) [⟨(some 11), none, (.op false (.old (.assign (.const (.slice none 0 0)))))⟩])
 (.seq (.block 0 (.loop 6 (some [1, 5, 10, 11]) (some [1, 5, 10, 11])))
 (.seq (.reg (some [10, 11]) [⟨(some 101), none, (.op false (.old (.move (.tmp 10))))⟩, ⟨(some 102), none, (.op false (.old (.move (.tmp 11))))⟩, ⟨(some 6), none, (.op false (.old (.assign (.tmp 101))))⟩, ⟨(some 7), none, (.op false (.old (.assign (.tmp 102))))⟩, ⟨(some 8), none, (.op false (.old (.assign (.const (.int .i64 0)))))⟩])
 .ret)))))),
 [(.tmp 6), (.tmp 7), (.tmp 8)],
 [(6, ⟨(some [1, 5, 10, 11]), (some [1, 5, 10, 11]), (.seq (.seq (.reg (some [1, 5, 10, 11]) [⟨(some 25), none, (.op false (.old (.move (.tmp 11))))⟩, ⟨(some 26), none, (.op false (.lenS (.tmp 25)))⟩, ⟨(some 27), none, (.op false (.fieldAddr 3 (.tmp 5)))⟩, ⟨(some 28), none, (.op false (.load1 (.int .i64) (.tmp 27)))⟩, ⟨(some 29), none, (.op false (.old (.binOp .lss 3 (.tmp 26) (.tmp 28) 3)))⟩])
 (.cond (.tmp 29) .skip
 (.exit 0 (some [10, 11]))))
 (.block 1 (.seq (.reg (some [1, 5, 10, 11]) [⟨(some 31), none, (.op false (.old (.move (.tmp 10))))⟩, ⟨(some 32), none, (.call (.func 33) [(.tmp 31)] (some (.tup [(.one (.int .i64)), (.one (.int .i64))])))⟩, ⟨(some 30), none, (.op false (.old (.move (.tmp 32))))⟩, ⟨(some 33), none, (.op false (.old (.extract (.tmp 30) 0)))⟩, ⟨(some 34), none, (.op false (.old (.extract (.tmp 30) 1)))⟩, ⟨(some 12), none, (.op false (.old (.assign (.tmp 33))))⟩, ⟨(some 13), none, (.op false (.old (.assign (.tmp 34))))⟩])
 (.seq (.reg (some [1, 5, 10, 11, 12, 13]) [⟨(some 35), none, (.op false (.old (.move (.tmp 10))))⟩, ⟨(some 36), none, (.op false (.old (.move (.tmp 13))))⟩, ⟨(some 37), none, (.op false (.ixS 1 (.tmp 35) (.tmp 36)))⟩, ⟨(some 38), none, (.op false (.load1 .slice (.tmp 37)))⟩, ⟨(some 39), none, (.op false (.old (.move (.tmp 12))))⟩, ⟨(some 40), none, (.op false (.ixS 1 (.tmp 38) (.tmp 39)))⟩, ⟨(some 41), none, (.op false (.load1 (.int .i64) (.tmp 40)))⟩, ⟨(some 14), none, (.op false (.old (.assign (.tmp 41))))⟩])
 (.seq (.seq (.draw (some [1, 5, 10, 11, 12, 13, 14]) 26 [⟨⟨(some 42), none, (.op false (.old (.move (.tmp 14))))⟩, 0, .none, [3, 4, 5, 6, 7, 8, 9, 10, 11, 12, 13, 14, 15, 16, 17, 18, 19, 20, 21, 22, 23, 24, 25], false, true⟩, ⟨⟨(some 43), none, (.op false (.fieldAddr 2 (.tmp 5)))⟩, 1, .none, [2, 3, 4, 5, 6, 7, 8, 9, 10, 11, 12, 13, 14, 15, 16, 17, 18, 19, 20, 21, 22, 23, 24, 25], false, true⟩, ⟨⟨(some 44), none, (.op false (.load1 (.int .i64) (.tmp 43)))⟩, 2, (.blk (.tmp 43)), [3, 4, 5, 6, 7, 8, 9, 10, 11, 12, 13, 14, 15, 16, 17, 18, 19, 20, 21, 22, 23, 24, 25], false, true⟩, ⟨⟨(some 45), none, (.op false (.old (.binOp .lss 3 (.tmp 42) (.tmp 44) 3)))⟩, 3, .none, [4, 5, 6, 7, 8, 9, 10, 11, 12, 13, 14, 15, 16, 17, 18, 19, 20, 21, 22, 23, 24, 25], false, true⟩, ⟨⟨(some 46), none, (.op false (.old (.move (.tmp 45))))⟩, 4, .none, [5, 6, 7, 8, 9, 10, 11, 12, 13, 14, 15, 16, 17, 18, 19, 20, 21, 22, 23, 24, 25], false, true⟩, ⟨⟨(some 47), (some (46, false)), (.op false (.old (.move (.tmp 14))))⟩, 5, .none, [8, 23, 24, 25], false, true⟩, ⟨⟨(some 48), (some (46, false)), (.op false (.fieldAddr 0 (.tmp 5)))⟩, 6, .none, [7, 8, 23, 24, 25], false, true⟩, ⟨⟨(some 49), (some (46, false)), (.op false (.load1 (.int .i64) (.tmp 48)))⟩, 7, (.blk (.tmp 48)), [8, 23, 24, 25], false, true⟩, ⟨⟨(some 50), (some (46, false)), (.op false (.old (.binOp .mul 3 (.tmp 47) (.tmp 49) 3)))⟩, 8, .none, [23, 24, 25], false, true⟩, ⟨⟨(some 51), (some (46, false)), (.op false (.fieldAddr 1 (.tmp 5)))⟩, 9, .none, [10, 22, 23, 24, 25], false, true⟩, ⟨⟨(some 52), (some (46, false)), (.op false (.load1 (.int .i64) (.tmp 51)))⟩, 10, (.blk (.tmp 51)), [22, 23, 24, 25], false, true⟩, ⟨⟨(some 53), (some (46, false)), (.op false (.old (.move (.tmp 1))))⟩, 11, .none, [15, 16, 20, 21, 22, 23, 24, 25], false, true⟩, ⟨⟨(some 54), (some (46, false)), (.op false (.old (.move (.tmp 10))))⟩, 12, .none, [13, 14, 15, 16, 20, 21, 22, 23, 24, 25], false, true⟩, ⟨⟨(some 55), (some (46, false)), (.op false (.lenS (.tmp 54)))⟩, 13, .none, [14, 15, 16, 20, 21, 22, 23, 24, 25], false, true⟩, ⟨⟨(some 56), (some (46, false)), (.op false (.old (.binOp .sub 3 (.tmp 55) (.const (.int .i64 1)) 3)))⟩, 14, .none, [15, 16, 20, 21, 22, 23, 24, 25], false, true⟩, ⟨⟨(some 57), (some (46, false)), (.op false (.ixS 1 (.tmp 53) (.tmp 56)))⟩, 15, .none, [16, 20, 21, 22, 23, 24, 25], false, true⟩, ⟨⟨(some 58), (some (46, false)), (.op false (.load1 .slice (.tmp 57)))⟩, 16, (.blk (.tmp 57)), [20, 21, 22, 23, 24, 25], false, true⟩, ⟨⟨(some 59), (some (46, false)), (.op false (.old (.move (.tmp 10))))⟩, 17, .none, [18, 19, 20, 21, 22, 23, 24, 25], false, true⟩, ⟨⟨(some 60), (some (46, false)), (.op false (.lenS (.tmp 59)))⟩, 18, .none, [19, 20, 21, 22, 23, 24, 25], false, true⟩, ⟨⟨(some 61), (some (46, false)), (.op false (.old (.binOp .sub 3 (.tmp 60) (.const (.int .i64 1)) 3)))⟩, 19, .none, [20, 21, 22, 23, 24, 25], false, true⟩, ⟨⟨(some 62), (some (46, false)), (.op false (.ixS 1 (.tmp 58) (.tmp 61)))⟩, 20, .none, [21, 22, 23, 24, 25], false, true⟩, ⟨⟨(some 63), (some (46, false)), (.op false (.load1 (.int .i64) (.tmp 62)))⟩, 21, (.blk (.tmp 62)), [22, 23, 24, 25], false, true⟩, ⟨⟨(some 64), (some (46, false)), (.op false (.old (.binOp .mul 3 (.tmp 52) (.tmp 63) 3)))⟩, 22, .none, [23, 24, 25], false, true⟩, ⟨⟨(some 65), (some (46, false)), (.op false (.old (.binOp .quo 3 (.tmp 50) (.tmp 64) 3)))⟩, 23, .none, [24, 25], false, true⟩, ⟨⟨(some 66), (some (46, false)), (.op false (.old (.binOp .eql 3 (.tmp 65) (.const (.int .i64 0)) 3)))⟩, 24, .none, [25], false, true⟩, ⟨⟨(some 67), none, (.op false (.old (.pick (.tmp 46) (.const (.bool true)) (.tmp 66))))⟩, 25, .none, [], false, true⟩])
 (.cond (.tmp 67) (.exit 0 (some [10, 11]))
 .skip))
 (.seq (.draw (some [1, 5, 10, 11, 12, 13, 14]) 24 [⟨⟨(some 68), none, (.op false (.old (.move (.tmp 12))))⟩, 0, .none, [21, 23], false, true⟩, ⟨⟨(some 69), none, (.op false (.old (.move (.tmp 13))))⟩, 1, .none, [21, 23], false, true⟩, ⟨⟨(some 70), none, (.op false (.old (.move (.tmp 14))))⟩, 2, .none, [5, 20, 21, 23], false, true⟩, ⟨⟨(some 71), none, (.op false (.fieldAddr 0 (.tmp 5)))⟩, 3, .none, [4, 5, 20, 21, 23], false, true⟩, ⟨⟨(some 72), none, (.op false (.load1 (.int .i64) (.tmp 71)))⟩, 4, (.blk (.tmp 71)), [5, 20, 21, 23], false, true⟩, ⟨⟨(some 73), none, (.op false (.old (.binOp .mul 3 (.tmp 70) (.tmp 72) 3)))⟩, 5, .none, [20, 21, 23], false, true⟩, ⟨⟨(some 74), none, (.op false (.fieldAddr 1 (.tmp 5)))⟩, 6, .none, [7, 19, 20, 21, 23], false, true⟩, ⟨⟨(some 75), none, (.op false (.load1 (.int .i64) (.tmp 74)))⟩, 7, (.blk (.tmp 74)), [19, 20, 21, 23], false, true⟩, ⟨⟨(some 76), none, (.op false (.old (.move (.tmp 1))))⟩, 8, .none, [12, 13, 17, 18, 19, 20, 21, 23], false, true⟩, ⟨⟨(some 77), none, (.op false (.old (.move (.tmp 10))))⟩, 9, .none, [10, 11, 12, 13, 17, 18, 19, 20, 21, 23], false, true⟩, ⟨⟨(some 78), none, (.op false (.lenS (.tmp 77)))⟩, 10, .none, [11, 12, 13, 17, 18, 19, 20, 21, 23], false, true⟩, ⟨⟨(some 79), none, (.op false (.old (.binOp .sub 3 (.tmp 78) (.const (.int .i64 1)) 3)))⟩, 11, .none, [12, 13, 17, 18, 19, 20, 21, 23], false, true⟩, ⟨⟨(some 80), none, (.op false (.ixS 1 (.tmp 76) (.tmp 79)))⟩, 12, .none, [13, 17, 18, 19, 20, 21, 23], false, true⟩, ⟨⟨(some 81), none, (.op false (.load1 .slice (.tmp 80)))⟩, 13, (.blk (.tmp 80)), [17, 18, 19, 20, 21, 23], false, true⟩, ⟨⟨(some 82), none, (.op false (.old (.move (.tmp 10))))⟩, 14, .none, [15, 16, 17, 18, 19, 20, 21, 23], false, true⟩, ⟨⟨(some 83), none, (.op false (.lenS (.tmp 82)))⟩, 15, .none, [16, 17, 18, 19, 20, 21, 23], false, true⟩, ⟨⟨(some 84), none, (.op false (.old (.binOp .sub 3 (.tmp 83) (.const (.int .i64 1)) 3)))⟩, 16, .none, [17, 18, 19, 20, 21, 23], false, true⟩, ⟨⟨(some 85), none, (.op false (.ixS 1 (.tmp 81) (.tmp 84)))⟩, 17, .none, [18, 19, 20, 21, 23], false, true⟩, ⟨⟨(some 86), none, (.op false (.load1 (.int .i64) (.tmp 85)))⟩, 18, (.blk (.tmp 85)), [19, 20, 21, 23], false, true⟩, ⟨⟨(some 87), none, (.op false (.old (.binOp .mul 3 (.tmp 75) (.tmp 86) 3)))⟩, 19, .none, [20, 21, 23], false, true⟩, ⟨⟨(some 88), none, (.op false (.old (.binOp .quo 3 (.tmp 73) (.tmp 87) 3)))⟩, 20, .none, [21, 23], false, true⟩, ⟨⟨(some 89), none, (.op false (.build [(.int .i64 0), (.int .i64 0), (.int .i64 0)] [(0, 1, (.tmp 68)), (1, 1, (.tmp 69)), (2, 1, (.tmp 88))]))⟩, 21, .none, [23], false, true⟩, ⟨⟨(some 15), none, (.op true (.new 3 [(.int .i64 0), (.int .i64 0), (.int .i64 0)]))⟩, 22, (.new true), [23], false, true⟩, ⟨⟨none, none, (.op false (.store 3 (.tmp 15) (.tmp 89)))⟩, 23, (.blk (.tmp 15)), [], true, true⟩])
 (.seq (.reg (some [1, 5, 10, 11, 15]) [⟨(some 90), none, (.op false (.old (.move (.tmp 10))))⟩, ⟨(some 91), none, (.op false (.old (.move (.tmp 1))))⟩, ⟨(some 92), none, (.op false (.load 3 [(.int .i64), (.int .i64), (.int .i64)] (.tmp 15)))⟩, ⟨(some 93), none, (.call (.func 34) [(.tmp 90), (.tmp 91), (.tmp 92)] (some (.tup [])))⟩])
 (.seq (.seq (.reg (some [1, 5, 10, 11, 15]) [⟨(some 94), none, (.op false (.old (.move (.tmp 10))))⟩, ⟨(some 95), none, (.call (.func 27) [(.tmp 94), (.const (.int .i64 1000000000))] (some (.val (.one .bool))))⟩, ⟨(some 96), none, (.op false (.old (.unOp .not 4 (.tmp 95))))⟩])
 (.cond (.tmp 96) (.seq (.reg (some []) [⟨(some 6), none, (.op false (.old (.assign (.const (.slice none 0 0)))))⟩, ⟨(some 7), none, (.op false (.old (.assign (.const (.slice none 0 0)))))⟩, ⟨(some 8), none, (.op false (.old (.assign (.const (.int .i64 16)))))⟩])
 .ret)
 .skip))
 (.reg (some [1, 5, 10, 11, 15]) [⟨(some 97), none, (.op false (.old (.move (.tmp 11))))⟩, ⟨(some 98), none, (.op false (.load 3 [(.int .i64), (.int .i64), (.int .i64)] (.tmp 15)))⟩, ⟨(some 99), none, (.op false (.buildSlice 3 1 [(.int .i64 0), (.int .i64 0), (.int .i64 0)] [(0, 3, (.tmp 98))]))⟩, ⟨(some 100), none, (.op false (.old (.call ⟨.builtin .append, #[(.tmp 97), (.tmp 99)], #[27, 27]⟩)))⟩, ⟨(some 11), none, (.op false (.old (.assign (.tmp 100))))⟩])))))))))⟩)],
 []⟩
theorem r13_ok : resFun (progU ()) hint live 13 Try.f13 = some r13 := by kernel_rfl
/-- clean.Peak -/
def r14 : RFun :=
⟨(.seq (.reg (some [0]) [⟨(some 2), none, (.op false (.old (.assign (.const (.int .i64 0)))))⟩, ⟨(some 3), none, (.op false (.old (.assign (.const (.int .i64 0)))))⟩, ⟨(some 4), none, (.op false (.old (.assign (.const (.int .i64 0)))))⟩, ⟨(some 5), none, (.op false (.old (.assign (.const (.int .i64 0)))))⟩])
 (.seq (.seq (.reg (some [0]) [⟨(some 6), none, (.op false (.old (.move (.tmp 0))))⟩, ⟨(some 7), none, (.call (.func 35) [(.tmp 6), (.const (.int .i64 1000000000))] (some (.val (.one .bool))))⟩, ⟨(some 8), none, (.op false (.old (.unOp .not 4 (.tmp 7))))⟩])
 (.cond (.tmp 8) (.seq (.reg (some []) [⟨(some 2), none, (.op false (.old (.assign (.const (.int .i64 0)))))⟩, ⟨(some 3), none, (.op false (.old (.assign (.const (.int .i64 0)))))⟩, ⟨(some 4), none, (.op false (.old (.assign (.const (.int .i64 0)))))⟩, ⟨(some 5), none, (.op false (.old (.assign (.const (.int .i64 2)))))⟩])
 .ret)
 .skip))
 (.seq (.reg (some [0]) [⟨(some 10), none, (.op false (.old (.move (.tmp 0))))⟩, ⟨(some 11), none, (.call (.func 36) [(.tmp 10)] (some (.tup [(.one (.int .i64)), (.one (.int .i64)), (.one (.int .i64))])))⟩, ⟨(some 9), none, (.op false (.old (.move (.tmp 11))))⟩, ⟨(some 12), none, (.op false (.old (.extract (.tmp 9) 0)))⟩, ⟨(some 13), none, (.op false (.old (.extract (.tmp 9) 1)))⟩, ⟨(some 14), none, (.op false (.old (.extract (.tmp 9) 2)))⟩, ⟨(some 2), none, (.op false (.old (.assign (.tmp 12))))⟩, ⟨(some 3), none, (.op false (.old (.assign (.tmp 13))))⟩, ⟨(some 4), none, (.op false (.old (.assign (.tmp 14))))⟩])
 (.seq (.reg (some [2, 3, 4]) [⟨(some 15), none, (.op false (.old (.move (.tmp 2))))⟩, ⟨(some 16), none, (.op false (.old (.move (.tmp 3))))⟩, ⟨(some 17), none, (.op false (.old (.move (.tmp 4))))⟩, ⟨(some 2), none, (.op false (.old (.assign (.tmp 15))))⟩, ⟨(some 3), none, (.op false (.old (.assign (.tmp 16))))⟩, ⟨(some 4), none, (.op false (.old (.assign (.tmp 17))))⟩, ⟨(some 5), none, (.op false (.old (.assign (.const (.int .i64 0)))))⟩])
 .ret)))),
 [(.tmp 2), (.tmp 3), (.tmp 4), (.tmp 5)],
 [],
 []⟩
theorem r14_ok : resFun (progU ()) hint live 14 Try.f14 = some r14 := by kernel_rfl
/-- fringeref40.Peak -/
def r15 : RFun :=
⟨(.seq (.reg (some [0]) [⟨(some 2), none, (.op false (.old (.assign (.const (.int .i64 0)))))⟩, ⟨(some 3), none, (.op false (.old (.assign (.const (.int .i64 0)))))⟩, ⟨(some 4), none, (.op false (.old (.assign (.const (.int .i64 0)))))⟩, ⟨(some 5), none, (.op false (.old (.assign (.const (.int .i64 0)))))⟩])
 (.seq (.seq (.reg (some [0]) [⟨(some 8), none, (.op false (.old (.move (.tmp 0))))⟩, ⟨(some 9), none, (.call (.func 27) [(.tmp 8), (.const (.int .i64 1000000000))] (some (.val (.one .bool))))⟩, ⟨(some 10), none, (.op false (.old (.unOp .not 4 (.tmp 9))))⟩])
 (.cond (.tmp 10) (.seq (.reg (some []) [⟨(some 2), none, (.op false (.old (.assign (.const (.int .i64 0)))))⟩, ⟨(some 3), none, (.op false (.old (.assign (.const (.int .i64 0)))))⟩, ⟨(some 4), none, (.op false (.old (.assign (.const (.int .i64 0)))))⟩, ⟨(some 5), none, (.op false (.old (.assign (.const (.int .i64 2)))))⟩])
 .ret)
 .skip))
 (.seq (.reg (some [0]) [⟨(some 12), none, (.op false (.old (.move (.tmp 0))))⟩, ⟨(some 13), none, (.call (.func 33) [(.tmp 12)] (some (.tup [(.one (.int .i64)), (.one (.int .i64))])))⟩, ⟨(some 11), none, (.op false (.old (.move (.tmp 13))))⟩, ⟨(some 14), none, (.op false (.old (.extract (.tmp 11) 0)))⟩, ⟨(some 15), none, (.op false (.old (.extract (.tmp 11) 1)))⟩, ⟨(some 6), none, (.op false (.old (.assign (.tmp 14))))⟩, ⟨(some 7), none, (.op false (.old (.assign (.tmp 15))))⟩])
 (.seq (.draw (some [0, 6, 7]) 13 [⟨⟨(some 16), none, (.op false (.old (.move (.tmp 6))))⟩, 0, .none, [9, 10, 11, 12], false, true⟩, ⟨⟨(some 17), none, (.op false (.old (.move (.tmp 7))))⟩, 1, .none, [10, 11, 12], false, true⟩, ⟨⟨(some 18), none, (.op false (.old (.move (.tmp 0))))⟩, 2, .none, [4, 5, 7, 8, 11, 12], false, true⟩, ⟨⟨(some 19), none, (.op false (.old (.move (.tmp 7))))⟩, 3, .none, [4, 5, 7, 8, 11, 12], false, true⟩, ⟨⟨(some 20), none, (.op false (.ixS 1 (.tmp 18) (.tmp 19)))⟩, 4, .none, [5, 7, 8, 11, 12], false, true⟩, ⟨⟨(some 21), none, (.op false (.load1 .slice (.tmp 20)))⟩, 5, (.blk (.tmp 20)), [7, 8, 11, 12], false, true⟩, ⟨⟨(some 22), none, (.op false (.old (.move (.tmp 6))))⟩, 6, .none, [7, 8, 11, 12], false, true⟩, ⟨⟨(some 23), none, (.op false (.ixS 1 (.tmp 21) (.tmp 22)))⟩, 7, .none, [8, 11, 12], false, true⟩, ⟨⟨(some 24), none, (.op false (.load1 (.int .i64) (.tmp 23)))⟩, 8, (.blk (.tmp 23)), [11, 12], false, true⟩, ⟨⟨(some 2), none, (.op false (.old (.assign (.tmp 16))))⟩, 9, .none, [10, 11, 12], false, true⟩, ⟨⟨(some 3), none, (.op false (.old (.assign (.tmp 17))))⟩, 10, .none, [11, 12], false, true⟩, ⟨⟨(some 4), none, (.op false (.old (.assign (.tmp 24))))⟩, 11, .none, [12], false, true⟩, ⟨⟨(some 5), none, (.op false (.old (.assign (.const (.int .i64 0)))))⟩, 12, .none, [], false, true⟩])
 .ret)))),
 [(.tmp 2), (.tmp 3), (.tmp 4), (.tmp 5)],
 [],
 []⟩
theorem r15_ok : resFun (progU ()) hint live 15 Try.f15 = some r15 := by kernel_rfl
/-- clean.Check -/
def r16 : RFun :=
⟨(.seq (.reg (some [0, 1, 2]) [⟨(some 5), none, (.op true (.box 4 (.tmp 2)))⟩, ⟨(some 6), none, (.op false (.old (.assign (.const (.int .i64 0)))))⟩])
 (.seq (.seq (.reg (some [0, 1, 5]) [⟨(some 7), none, (.op false (.old (.move (.tmp 0))))⟩, ⟨(some 8), none, (.call (.func 35) [(.tmp 7), (.const (.int .i64 1000000))] (some (.val (.one .bool))))⟩, ⟨(some 9), none, (.op false (.old (.unOp .not 4 (.tmp 8))))⟩])
 (.cond (.tmp 9) (.seq (.reg (some []) [⟨(some 6), none, (.op false (.old (.assign (.const (.int .i64 2)))))⟩])
 .ret)
 .skip))
 (.seq (.seq (.reg (some [0, 1, 5]) [⟨(some 10), none, (.op false (.old (.move (.tmp 1))))⟩, ⟨(some 11), none, (.op false (.old (.move (.tmp 0))))⟩, ⟨(some 12), none, (.op false (.lenS (.tmp 11)))⟩, ⟨(some 13), none, (.call (.func 37) [(.tmp 10), (.tmp 12)] (some (.val (.one .bool))))⟩, ⟨(some 14), none, (.op false (.old (.unOp .not 4 (.tmp 13))))⟩])
 (.cond (.tmp 14) (.seq (.reg (some []) [⟨(some 6), none, (.op false (.old (.assign (.const (.int .i64 8)))))⟩])
 .ret)
 .skip))
 (.seq (.seq (.reg (some [5]) [⟨(some 15), none, (.op false (.fieldAddr 0 (.tmp 5)))⟩, ⟨(some 16), none, (.op false (.load1 (.int .i64) (.tmp 15)))⟩, ⟨(some 17), none, (.op false (.old (.binOp .lss 3 (.tmp 16) (.const (.int .i64 1)) 3)))⟩, ⟨(some 18), none, (.op false (.old (.move (.tmp 17))))⟩, ⟨(some 19), (some (18, false)), (.op false (.fieldAddr 0 (.tmp 5)))⟩, ⟨(some 20), (some (18, false)), (.op false (.load1 (.int .i64) (.tmp 19)))⟩, ⟨(some 21), (some (18, false)), (.op false (.fieldAddr 1 (.tmp 5)))⟩, ⟨(some 22), (some (18, false)), (.op false (.load1 (.int .i64) (.tmp 21)))⟩, ⟨(some 23), (some (18, false)), (.op false (.old (.binOp .gtr 3 (.tmp 20) (.tmp 22) 3)))⟩, ⟨(some 24), none, (.op false (.old (.pick (.tmp 18) (.const (.bool true)) (.tmp 23))))⟩, ⟨(some 25), none, (.op false (.old (.move (.tmp 24))))⟩, ⟨(some 26), (some (25, false)), (.op false (.fieldAddr 1 (.tmp 5)))⟩, ⟨(some 27), (some (25, false)), (.op false (.load1 (.int .i64) (.tmp 26)))⟩, ⟨(some 28), (some (25, false)), (.op false (.old (.binOp .gtr 3 (.tmp 27) (.const (.int .i64 10)) 3)))⟩, ⟨(some 29), none, (.op false (.old (.pick (.tmp 25) (.const (.bool true)) (.tmp 28))))⟩])
 (.cond (.tmp 29) (.seq (.reg (some []) [⟨(some 6), none, (.op false (.old (.assign (.const (.int .i64 8)))))⟩])
 .ret)
 .skip))
 (.seq (.seq (.reg (some [5]) [⟨(some 30), none, (.op false (.fieldAddr 2 (.tmp 5)))⟩, ⟨(some 31), none, (.op false (.load1 (.int .i64) (.tmp 30)))⟩, ⟨(some 32), none, (.op false (.old (.binOp .lss 3 (.tmp 31) (.const (.int .i64 1)) 3)))⟩, ⟨(some 33), none, (.op false (.old (.move (.tmp 32))))⟩, ⟨(some 34), (some (33, false)), (.op false (.fieldAddr 2 (.tmp 5)))⟩, ⟨(some 35), (some (33, false)), (.op false (.load1 (.int .i64) (.tmp 34)))⟩, ⟨(some 36), (some (33, false)), (.op false (.old (.binOp .gtr 3 (.tmp 35) (.const (.int .i64 1000000)) 3)))⟩, ⟨(some 37), none, (.op false (.old (.pick (.tmp 33) (.const (.bool true)) (.tmp 36))))⟩, ⟨(some 38), none, (.op false (.old (.move (.tmp 37))))⟩, ⟨(some 39), (some (38, false)), (.op false (.fieldAddr 3 (.tmp 5)))⟩, ⟨(some 40), (some (38, false)), (.op false (.load1 (.int .i64) (.tmp 39)))⟩, ⟨(some 41), (some (38, false)), (.op false (.old (.binOp .lss 3 (.tmp 40) (.const (.int .i64 0)) 3)))⟩, ⟨(some 42), none, (.op false (.old (.pick (.tmp 38) (.const (.bool true)) (.tmp 41))))⟩, ⟨(some 43), none, (.op false (.old (.move (.tmp 42))))⟩, ⟨(some 44), (some (43, false)), (.op false (.fieldAddr 3 (.tmp 5)))⟩, ⟨(some 45), (some (43, false)), (.op false (.load1 (.int .i64) (.tmp 44)))⟩, ⟨(some 46), (some (43, false)), (.op false (.old (.binOp .gtr 3 (.tmp 45) (.const (.int .i64 100)) 3)))⟩, ⟨(some 47), none, (.op false (.old (.pick (.tmp 43) (.const (.bool true)) (.tmp 46))))⟩])
 (.cond (.tmp 47) (.seq (.reg (some []) [⟨(some 6), none, (.op false (.old (.assign (.const (.int .i64 8)))))⟩])
 .ret)
 .skip))
 (.seq (.reg (some []) [⟨(some 6), none, (.op false (.old (.assign (.const (.int .i64 0)))))⟩])
 .ret)))))),
 [(.tmp 6)],
 [],
 []⟩
theorem r16_ok : resFun (progU ()) hint live 16 Try.f16 = some r16 := by kernel_rfl
/-- fringeref40.Check -/
def r17 : RFun :=
⟨(.seq (.reg (some [0, 1, 2]) [⟨(some 5), none, (.op true (.box 4 (.tmp 2)))⟩, ⟨(some 6), none, (.op false (.old (.assign (.const (.int .i64 0)))))⟩])
 (.seq (.seq (.reg (some [0, 1, 5]) [⟨(some 7), none, (.op false (.old (.move (.tmp 0))))⟩, ⟨(some 8), none, (.call (.func 27) [(.tmp 7), (.const (.int .i64 1000000))] (some (.val (.one .bool))))⟩, ⟨(some 9), none, (.op false (.old (.unOp .not 4 (.tmp 8))))⟩])
 (.cond (.tmp 9) (.seq (.reg (some []) [⟨(some 6), none, (.op false (.old (.assign (.const (.int .i64 2)))))⟩])
 .ret)
 .skip))
 (.seq (.seq (.reg (some [0, 1, 5]) [⟨(some 10), none, (.op false (.old (.move (.tmp 1))))⟩, ⟨(some 11), none, (.op false (.old (.move (.tmp 0))))⟩, ⟨(some 12), none, (.op false (.lenS (.tmp 11)))⟩, ⟨(some 13), none, (.call (.func 38) [(.tmp 10), (.tmp 12)] (some (.val (.one .bool))))⟩, ⟨(some 14), none, (.op false (.old (.unOp .not 4 (.tmp 13))))⟩, ⟨(some 15), none, (.op false (.old (.move (.tmp 14))))⟩, ⟨(some 16), (some (15, false)), (.op false (.load 4 [(.int .i64), (.int .i64), (.int .i64), (.int .i64)] (.tmp 5)))⟩, ⟨(some 17), (some (15, false)), (.call (.func 39) [(.tmp 16)] (some (.val (.one .bool))))⟩, ⟨(some 18), (some (15, false)), (.op false (.old (.unOp .not 4 (.tmp 17))))⟩, ⟨(some 19), none, (.op false (.old (.pick (.tmp 15) (.const (.bool true)) (.tmp 18))))⟩])
 (.cond (.tmp 19) (.seq (.reg (some []) [⟨(some 6), none, (.op false (.old (.assign (.const (.int .i64 8)))))⟩])
 .ret)
 .skip))
 (.seq (.reg (some []) [⟨(some 6), none, (.op false (.old (.assign (.const (.int .i64 0)))))⟩])
 .ret)))),
 [(.tmp 6)],
 [],
 []⟩
theorem r17_ok : resFun (progU ()) hint live 17 Try.f17 = some r17 := by kernel_rfl
/-- fringeref40.Same -/
def r18 : RFun :=
⟨(.seq (.reg (some [0, 1]) [⟨(some 4), none, (.op false (.old (.assign (.const (.bool false)))))⟩])
 (.seq (.seq (.reg (some [0, 1]) [⟨(some 7), none, (.op false (.old (.move (.tmp 0))))⟩, ⟨(some 8), none, (.op false (.lenS (.tmp 7)))⟩, ⟨(some 9), none, (.op false (.old (.move (.tmp 1))))⟩, ⟨(some 10), none, (.op false (.lenS (.tmp 9)))⟩, ⟨(some 11), none, (.op false (.old (.binOp .neq 3 (.tmp 8) (.tmp 10) 3)))⟩])
 (.cond (.tmp 11) (.seq (.reg (some []) [⟨(some 4), none, (.op false (.old (.assign (.const (.bool false)))))⟩])
 .ret)
 .skip))
 (.seq (.seq (.reg (some [0, 1]) [⟨(some 5), none, (.op false (.old (.assign (.const (.int .i64 0)))))⟩])
 (.block 0 (.loop 4 (some [0, 1, 5]) (some [0, 1, 5]))))
 (.seq (.reg (some []) [⟨(some 4), none, (.op false (.old (.assign (.const (.bool true)))))⟩])
 .ret)))),
 [(.tmp 4)],
 [(4, ⟨(some [0, 1, 5]), (some [0, 1, 5]), (.seq (.seq (.reg (some [0, 1, 5]) [⟨(some 12), none, (.op false (.old (.move (.tmp 5))))⟩, ⟨(some 13), none, (.op false (.old (.move (.tmp 0))))⟩, ⟨(some 14), none, (.op false (.lenS (.tmp 13)))⟩, ⟨(some 15), none, (.op false (.old (.binOp .lss 3 (.tmp 12) (.tmp 14) 3)))⟩])
 (.cond (.tmp 15) .skip
 (.exit 0 (some []))))
 (.seq (.block 1 (.seq (.seq (.draw (some [0, 1, 5]) 11 [⟨⟨(some 18), none, (.op false (.old (.move (.tmp 0))))⟩, 0, .none, [2, 3, 4, 10], false, true⟩, ⟨⟨(some 19), none, (.op false (.old (.move (.tmp 5))))⟩, 1, .none, [2, 3, 4, 10], false, true⟩, ⟨⟨(some 20), none, (.op false (.ixS 1 (.tmp 18) (.tmp 19)))⟩, 2, .none, [3, 4, 10], false, true⟩, ⟨⟨(some 21), none, (.op false (.load1 .slice (.tmp 20)))⟩, 3, (.blk (.tmp 20)), [4, 10], false, true⟩, ⟨⟨(some 22), none, (.op false (.lenS (.tmp 21)))⟩, 4, .none, [10], false, true⟩, ⟨⟨(some 23), none, (.op false (.old (.move (.tmp 1))))⟩, 5, .none, [7, 8, 9, 10], false, true⟩, ⟨⟨(some 24), none, (.op false (.old (.move (.tmp 5))))⟩, 6, .none, [7, 8, 9, 10], false, true⟩, ⟨⟨(some 25), none, (.op false (.ixS 1 (.tmp 23) (.tmp 24)))⟩, 7, .none, [8, 9, 10], false, true⟩, ⟨⟨(some 26), none, (.op false (.load1 .slice (.tmp 25)))⟩, 8, (.blk (.tmp 25)), [9, 10], false, true⟩, ⟨⟨(some 27), none, (.op false (.lenS (.tmp 26)))⟩, 9, .none, [10], false, true⟩, ⟨⟨(some 28), none, (.op false (.old (.binOp .neq 3 (.tmp 22) (.tmp 27) 3)))⟩, 10, .none, [], false, true⟩])
 (.cond (.tmp 28) (.seq (.reg (some []) [⟨(some 4), none, (.op false (.old (.assign (.const (.bool false)))))⟩])
 .ret)
 .skip))
 (.seq (.reg (some [0, 1, 5]) [⟨(some 6), none, (.op false (.old (.assign (.const (.int .i64 0)))))⟩])
 (.block 2 (.loop 9 (some [0, 1, 5, 6]) (some [0, 1, 5, 6]))))))
 (.reg (some [0, 1, 5]) [⟨(some 16), none, (.op false (.old (.move (.tmp 5))))⟩, ⟨(some 17), none, (.op false (.old (.binOp .add 3 (.tmp 16) (.const (.int .i64 1)) 3)))⟩, ⟨(some 5), none, (.op false (.old (.assign (.tmp 17))))⟩])))⟩), (9, ⟨(some [0, 1, 5, 6]), (some [0, 1, 5, 6]), (.seq (.seq (.reg (some [0, 1, 5, 6]) [⟨(some 29), none, (.op false (.old (.move (.tmp 6))))⟩, ⟨(some 30), none, (.op false (.old (.move (.tmp 0))))⟩, ⟨(some 31), none, (.op false (.old (.move (.tmp 5))))⟩, ⟨(some 32), none, (.op false (.ixS 1 (.tmp 30) (.tmp 31)))⟩, ⟨(some 33), none, (.op false (.load1 .slice (.tmp 32)))⟩, ⟨(some 34), none, (.op false (.lenS (.tmp 33)))⟩, ⟨(some 35), none, (.op false (.old (.binOp .lss 3 (.tmp 29) (.tmp 34) 3)))⟩])
 (.cond (.tmp 35) .skip
 (.exit 2 (some [0, 1, 5]))))
 (.seq (.block 3 (.seq (.draw (some [0, 1, 5, 6]) 15 [⟨⟨(some 38), none, (.op false (.old (.move (.tmp 0))))⟩, 0, .none, [2, 3, 5, 6, 14], false, true⟩, ⟨⟨(some 39), none, (.op false (.old (.move (.tmp 5))))⟩, 1, .none, [2, 3, 5, 6, 14], false, true⟩, ⟨⟨(some 40), none, (.op false (.ixS 1 (.tmp 38) (.tmp 39)))⟩, 2, .none, [3, 5, 6, 14], false, true⟩, ⟨⟨(some 41), none, (.op false (.load1 .slice (.tmp 40)))⟩, 3, (.blk (.tmp 40)), [5, 6, 14], false, true⟩, ⟨⟨(some 42), none, (.op false (.old (.move (.tmp 6))))⟩, 4, .none, [5, 6, 14], false, true⟩, ⟨⟨(some 43), none, (.op false (.ixS 1 (.tmp 41) (.tmp 42)))⟩, 5, .none, [6, 14], false, true⟩, ⟨⟨(some 44), none, (.op false (.load1 (.int .i64) (.tmp 43)))⟩, 6, (.blk (.tmp 43)), [14], false, true⟩, ⟨⟨(some 45), none, (.op false (.old (.move (.tmp 1))))⟩, 7, .none, [9, 10, 12, 13, 14], false, true⟩, ⟨⟨(some 46), none, (.op false (.old (.move (.tmp 5))))⟩, 8, .none, [9, 10, 12, 13, 14], false, true⟩, ⟨⟨(some 47), none, (.op false (.ixS 1 (.tmp 45) (.tmp 46)))⟩, 9, .none, [10, 12, 13, 14], false, true⟩, ⟨⟨(some 48), none, (.op false (.load1 .slice (.tmp 47)))⟩, 10, (.blk (.tmp 47)), [12, 13, 14], false, true⟩, ⟨⟨(some 49), none, (.op false (.old (.move (.tmp 6))))⟩, 11, .none, [12, 13, 14], false, true⟩, ⟨⟨(some 50), none, (.op false (.ixS 1 (.tmp 48) (.tmp 49)))⟩, 12, .none, [13, 14], false, true⟩, ⟨⟨(some 51), none, (.op false (.load1 (.int .i64) (.tmp 50)))⟩, 13, (.blk (.tmp 50)), [14], false, true⟩, ⟨⟨(some 52), none, (.op false (.old (.binOp .neq 3 (.tmp 44) (.tmp 51) 3)))⟩, 14, .none, [], false, true⟩])
 (.cond (.tmp 52) (.seq (.reg (some []) [⟨(some 4), none, (.op false (.old (.assign (.const (.bool false)))))⟩])
 .ret)
 .skip)))
 (.reg (some [0, 1, 5, 6]) [⟨(some 36), none, (.op false (.old (.move (.tmp 6))))⟩, ⟨(some 37), none, (.op false (.old (.binOp .add 3 (.tmp 36) (.const (.int .i64 1)) 3)))⟩, ⟨(some 6), none, (.op false (.old (.assign (.tmp 37))))⟩])))⟩)],
 []⟩
theorem r18_ok : resFun (progU ()) hint live 18 Try.f18 = some r18 := by kernel_rfl
/-- fringeref40.SameLog -/
def r19 : RFun :=
⟨(.seq (.reg (some [0, 1]) [⟨(some 4), none, (.op false (.old (.assign (.const (.bool false)))))⟩])
 (.seq (.seq (.reg (some [0, 1]) [⟨(some 6), none, (.op false (.old (.move (.tmp 0))))⟩, ⟨(some 7), none, (.op false (.lenS (.tmp 6)))⟩, ⟨(some 8), none, (.op false (.old (.move (.tmp 1))))⟩, ⟨(some 9), none, (.op false (.lenS (.tmp 8)))⟩, ⟨(some 10), none, (.op false (.old (.binOp .neq 3 (.tmp 7) (.tmp 9) 3)))⟩])
 (.cond (.tmp 10) (.seq (.reg (some []) [⟨(some 4), none, (.op false (.old (.assign (.const (.bool false)))))⟩])
 .ret)
 .skip))
 (.seq (.seq (.reg (some [0, 1]) [⟨(some 5), none, (.op false (.old (.assign (.const (.int .i64 0)))))⟩])
 (.block 0 (.loop 4 (some [0, 1, 5]) (some [0, 1, 5]))))
 (.seq (.reg (some []) [⟨(some 4), none, (.op false (.old (.assign (.const (.bool true)))))⟩])
 .ret)))),
 [(.tmp 4)],
 [(4, ⟨(some [0, 1, 5]), (some [0, 1, 5]), (.seq (.seq (.reg (some [0, 1, 5]) [⟨(some 11), none, (.op false (.old (.move (.tmp 5))))⟩, ⟨(some 12), none, (.op false (.old (.move (.tmp 0))))⟩, ⟨(some 13), none, (.op false (.lenS (.tmp 12)))⟩, ⟨(some 14), none, (.op false (.old (.binOp .lss 3 (.tmp 11) (.tmp 13) 3)))⟩])
 (.cond (.tmp 14) .skip
 (.exit 0 (some []))))
 (.seq (.block 1 (.seq (.draw (some [0, 1, 5]) 9 [⟨⟨(some 17), none, (.op false (.old (.move (.tmp 0))))⟩, 0, .none, [2, 3, 8], false, true⟩, ⟨⟨(some 18), none, (.op false (.old (.move (.tmp 5))))⟩, 1, .none, [2, 3, 8], false, true⟩, ⟨⟨(some 19), none, (.op false (.ixS 3 (.tmp 17) (.tmp 18)))⟩, 2, .none, [3, 8], false, true⟩, ⟨⟨(some 20), none, (.op false (.load 3 [(.int .i64), (.int .i64), (.int .i64)] (.tmp 19)))⟩, 3, (.blk (.tmp 19)), [8], false, true⟩, ⟨⟨(some 21), none, (.op false (.old (.move (.tmp 1))))⟩, 4, .none, [6, 7, 8], false, true⟩, ⟨⟨(some 22), none, (.op false (.old (.move (.tmp 5))))⟩, 5, .none, [6, 7, 8], false, true⟩, ⟨⟨(some 23), none, (.op false (.ixS 3 (.tmp 21) (.tmp 22)))⟩, 6, .none, [7, 8], false, true⟩, ⟨⟨(some 24), none, (.op false (.load 3 [(.int .i64), (.int .i64), (.int .i64)] (.tmp 23)))⟩, 7, (.blk (.tmp 23)), [8], false, true⟩, ⟨⟨(some 25), none, (.op false (.old (.binOp .neq 56 (.tmp 20) (.tmp 24) 56)))⟩, 8, .none, [], false, true⟩])
 (.cond (.tmp 25) (.seq (.reg (some []) [⟨(some 4), none, (.op false (.old (.assign (.const (.bool false)))))⟩])
 .ret)
 .skip)))
 (.reg (some [0, 1, 5]) [⟨(some 15), none, (.op false (.old (.move (.tmp 5))))⟩, ⟨(some 16), none, (.op false (.old (.binOp .add 3 (.tmp 15) (.const (.int .i64 1)) 3)))⟩, ⟨(some 5), none, (.op false (.old (.assign (.tmp 16))))⟩])))⟩)],
 []⟩
theorem r19_ok : resFun (progU ()) hint live 19 Try.f19 = some r19 := by kernel_rfl
/-- clean.Replay -/
def r20 : RFun :=
⟨(.seq (.reg (some [0, 1, 2]) [⟨(some 6), none, (.op false (.old (.assign (.const (.slice none 0 0)))))⟩, ⟨(some 7), none, (.op false (.old (.assign (.const (.int .i64 0)))))⟩])
 (.seq (.seq (.reg (some [0, 1, 2]) [⟨(some 11), none, (.op false (.old (.move (.tmp 0))))⟩, ⟨(some 12), none, (.call (.func 35) [(.tmp 11), (.const (.int .i64 1000000))] (some (.val (.one .bool))))⟩, ⟨(some 13), none, (.op false (.old (.unOp .not 4 (.tmp 12))))⟩])
 (.cond (.tmp 13) (.seq (.reg (some []) [⟨(some 6), none, (.op false (.old (.assign (.const (.slice none 0 0)))))⟩, ⟨(some 7), none, (.op false (.old (.assign (.const (.int .i64 2)))))⟩])
 .ret)
 .skip))
 (.seq (.seq (.reg (some [0, 1, 2]) [⟨(some 14), none, (.op false (.old (.move (.tmp 1))))⟩, ⟨(some 15), none, (.op false (.old (.move (.tmp 0))))⟩, ⟨(some 16), none, (.op false (.lenS (.tmp 15)))⟩, ⟨(some 17), none, (.call (.func 37) [(.tmp 14), (.tmp 16)] (some (.val (.one .bool))))⟩, ⟨(some 18), none, (.op false (.old (.unOp .not 4 (.tmp 17))))⟩, ⟨(some 19), none, (.op false (.old (.move (.tmp 18))))⟩, ⟨(some 20), (some (19, false)), (.op false (.old (.move (.tmp 0))))⟩, ⟨(some 21), (some (19, false)), (.op false (.lenS (.tmp 20)))⟩, ⟨(some 22), (some (19, false)), (.op false (.old (.move (.tmp 2))))⟩, ⟨(some 23), (some (19, false)), (.call (.func 40) [(.tmp 21), (.tmp 22)] (some (.val (.one .bool))))⟩, ⟨(some 24), (some (19, false)), (.op false (.old (.unOp .not 4 (.tmp 23))))⟩, ⟨(some 25), none, (.op false (.old (.pick (.tmp 19) (.const (.bool true)) (.tmp 24))))⟩])
 (.cond (.tmp 25) (.seq (.reg (some []) [⟨(some 6), none, (.op false (.old (.assign (.const (.slice none 0 0)))))⟩, ⟨(some 7), none, (.op false (.old (.assign (.const (.int .i64 8)))))⟩])
 .ret)
 .skip))
 (.seq (.reg (some [0, 1, 2]) [⟨(some 26), none, (.op false (.old (.move (.tmp 0))))⟩, ⟨(some 27), none, (.call (.func 31) [(.tmp 26)] (some (.val (.one .slice))))⟩, ⟨(some 8), none, (.op false (.old (.assign (.tmp 27))))⟩])
 (.seq (.seq (.reg (some [1, 2, 8]) [⟨(some 28), none, (.op false (.old (.move (.tmp 2))))⟩, ⟨(some 29), none, (.op false (.lenS (.tmp 28)))⟩, ⟨(some 30), none, (.op false (.old (.move (.const (.int .i64 0)))))⟩])
 (.block 0 (.loop 7 (some [1, 8, 28, 29, 30]) (some [1, 8, 28, 29, 30]))))
 (.seq (.reg (some [8]) [⟨(some 40), none, (.op false (.old (.move (.tmp 8))))⟩, ⟨(some 6), none, (.op false (.old (.assign (.tmp 40))))⟩, ⟨(some 7), none, (.op false (.old (.assign (.const (.int .i64 0)))))⟩])
 .ret)))))),
 [(.tmp 6), (.tmp 7)],
 [(7, ⟨(some [1, 8, 28, 29, 30]), (some [1, 8, 28, 29, 30]), (.seq (.reg (some [1, 8, 28, 29, 30]) [⟨(some 31), none, (.op false (.old (.binOp .lss 3 (.tmp 30) (.tmp 29) 3)))⟩])
 (.seq (.cond (.tmp 31) .skip
 (.exit 0 (some [8])))
 (.seq (.block 1 (.seq (.reg (some [1, 8, 28, 29, 30]) [⟨(some 32), none, (.op false (.ixS 3 (.tmp 28) (.tmp 30)))⟩, ⟨(some 33), none, (.op false (.load 3 [(.int .i64), (.int .i64), (.int .i64)] (.tmp 32)))⟩, ⟨(some 10), none, (.op true (.new 3 [(.int .i64 0), (.int .i64 0), (.int .i64 0)]))⟩, ⟨none, none, (.op false (.store 3 (.tmp 10) (.tmp 33)))⟩])
 (.seq (.reg (some [1, 8, 10, 28, 29, 30]) [⟨(some 34), none, (.op false (.old (.move (.tmp 8))))⟩, ⟨(some 35), none, (.op false (.old (.move (.tmp 1))))⟩, ⟨(some 36), none, (.op false (.load 3 [(.int .i64), (.int .i64), (.int .i64)] (.tmp 10)))⟩, ⟨(some 37), none, (.call (.func 41) [(.tmp 34), (.tmp 35), (.tmp 36)] (some (.val (.one .bool))))⟩, ⟨(some 38), none, (.op false (.old (.unOp .not 4 (.tmp 37))))⟩])
 (.cond (.tmp 38) (.seq (.reg (some []) [⟨(some 6), none, (.op false (.old (.assign (.const (.slice none 0 0)))))⟩, ⟨(some 7), none, (.op false (.old (.assign (.const (.int .i64 16)))))⟩])
 .ret)
 .skip))))
 (.reg (some [1, 8, 28, 29, 30]) [⟨(some 39), none, (.op false (.old (.binOp .add 3 (.tmp 30) (.const (.int .i64 1)) 3)))⟩, ⟨(some 30), none, (.op false (.old (.move (.tmp 39))))⟩]))))⟩)],
 []⟩
theorem r20_ok : resFun (progU ()) hint live 20 Try.f20 = some r20 := by kernel_rfl
/-- fringeref40.Replay -/
def r21 : RFun :=
⟨(.seq (.reg (some [0, 1, 2]) [⟨(some 6), none, (.op false (.old (.assign (.const (.slice none 0 0)))))⟩, ⟨(some 7), none, (.op false (.old (.assign (.const (.int .i64 0)))))⟩])
 (.seq (.seq (.reg (some [0, 1, 2]) [⟨(some 10), none, (.op false (.old (.move (.tmp 0))))⟩, ⟨(some 11), none, (.call (.func 27) [(.tmp 10), (.const (.int .i64 1000000))] (some (.val (.one .bool))))⟩, ⟨(some 12), none, (.op false (.old (.unOp .not 4 (.tmp 11))))⟩])
 (.cond (.tmp 12) (.seq (.reg (some []) [⟨(some 6), none, (.op false (.old (.assign (.const (.slice none 0 0)))))⟩, ⟨(some 7), none, (.op false (.old (.assign (.const (.int .i64 2)))))⟩])
 .ret)
 .skip))
 (.seq (.seq (.reg (some [0, 1, 2]) [⟨(some 13), none, (.op false (.old (.move (.tmp 1))))⟩, ⟨(some 14), none, (.op false (.old (.move (.tmp 0))))⟩, ⟨(some 15), none, (.op false (.lenS (.tmp 14)))⟩, ⟨(some 16), none, (.call (.func 38) [(.tmp 13), (.tmp 15)] (some (.val (.one .bool))))⟩, ⟨(some 17), none, (.op false (.old (.unOp .not 4 (.tmp 16))))⟩, ⟨(some 18), none, (.op false (.old (.move (.tmp 17))))⟩, ⟨(some 19), (some (18, false)), (.op false (.old (.move (.tmp 0))))⟩, ⟨(some 20), (some (18, false)), (.op false (.lenS (.tmp 19)))⟩, ⟨(some 21), (some (18, false)), (.op false (.old (.move (.tmp 2))))⟩, ⟨(some 22), (some (18, false)), (.call (.func 28) [(.tmp 20), (.tmp 21)] (some (.val (.one .bool))))⟩, ⟨(some 23), (some (18, false)), (.op false (.old (.unOp .not 4 (.tmp 22))))⟩, ⟨(some 24), none, (.op false (.old (.pick (.tmp 18) (.const (.bool true)) (.tmp 23))))⟩])
 (.cond (.tmp 24) (.seq (.reg (some []) [⟨(some 6), none, (.op false (.old (.assign (.const (.slice none 0 0)))))⟩, ⟨(some 7), none, (.op false (.old (.assign (.const (.int .i64 8)))))⟩])
 .ret)
 .skip))
 (.seq (.reg (some [0, 1, 2]) [⟨(some 25), none, (.op false (.old (.move (.tmp 0))))⟩, ⟨(some 26), none, (.call (.func 11) [(.tmp 25)] (some (.val (.one .slice))))⟩, ⟨(some 8), none, (.op false (.old (.assign (.tmp 26))))⟩])
 (.seq (.seq (.reg (some [1, 2, 8]) [⟨(some 9), none, (.op false (.old (.assign (.const (.int .i64 0)))))⟩])
 (.block 0 (.loop 7 none (some [1, 2, 8, 9]))))
 (.seq (.reg (some [8]) [⟨(some 43), none, (.op false (.old (.move (.tmp 8))))⟩, ⟨(some 6), none, (.op false (.old (.assign (.tmp 43))))⟩, ⟨(some 7), none, (.op false (.old (.assign (.const (.int .i64 0)))))⟩])
 .ret)))))),
 [(.tmp 6), (.tmp 7)],
 [(7, ⟨none, (some [1, 2, 8, 9]), (.seq (.seq (.reg (some [1, 2, 8, 9]) [⟨(some 27), none, (.op false (.old (.move (.tmp 9))))⟩, ⟨(some 28), none, (.op false (.old (.move (.tmp 2))))⟩, ⟨(some 29), none, (.op false (.lenS (.tmp 28)))⟩, ⟨(some 30), none, (.op false (.old (.binOp .lss 3 (.tmp 27) (.tmp 29) 3)))⟩])
 (.cond (.tmp 30) .skip
 (.exit 0 (some [8]))))
 (.seq (.block 1 (.seq (.reg (some [1, 2, 8, 9]) [⟨(some 33), none, (.op false (.old (.move (.tmp 8))))⟩, ⟨(some 34), none, (.op false (.old (.move (.tmp 1))))⟩, ⟨(some 35), none, (.op false (.old (.move (.tmp 2))))⟩, ⟨(some 36), none, (.op false (.old (.move (.tmp 9))))⟩, ⟨(some 37), none, (.op false (.ixS 3 (.tmp 35) (.tmp 36)))⟩, ⟨(some 38), none, (.op false (.load 3 [(.int .i64), (.int .i64), (.int .i64)] (.tmp 37)))⟩, ⟨(some 39), none, (.call (.func 34) [(.tmp 33), (.tmp 34), (.tmp 38)] (some (.tup [])))⟩])
 (.seq (.reg (some [1, 2, 8, 9]) [⟨(some 40), none, (.op false (.old (.move (.tmp 8))))⟩, ⟨(some 41), none, (.call (.func 27) [(.tmp 40), (.const (.int .i64 1000000000))] (some (.val (.one .bool))))⟩, ⟨(some 42), none, (.op false (.old (.unOp .not 4 (.tmp 41))))⟩])
 (.cond (.tmp 42) (.seq (.reg (some []) [⟨(some 6), none, (.op false (.old (.assign (.const (.slice none 0 0)))))⟩, ⟨(some 7), none, (.op false (.old (.assign (.const (.int .i64 16)))))⟩])
 .ret)
 .skip))))
 (.reg (some [1, 2, 8, 9]) [⟨(some 31), none, (.op false (.old (.move (.tmp 9))))⟩, ⟨(some 32), none, (.op false (.old (.binOp .add 3 (.tmp 31) (.const (.int .i64 1)) 3)))⟩, ⟨(some 9), none, (.op false (.old (.assign (.tmp 32))))⟩])))⟩)],
 []⟩
theorem r21_ok : resFun (progU ()) hint live 21 Try.f21 = some r21 := by kernel_rfl
/-- clean.Model -/
def r22 : RFun :=
⟨(.seq (.reg (some [0, 1]) [⟨(some 4), none, (.op false (.old (.assign (.const (.slice none 0 0)))))⟩, ⟨(some 5), none, (.op false (.old (.assign (.const (.int .i64 0)))))⟩])
 (.seq (.seq (.reg (some [0, 1]) [⟨(some 9), none, (.op false (.old (.move (.tmp 0))))⟩, ⟨(some 10), none, (.op false (.old (.binOp .lss 3 (.tmp 9) (.const (.int .i64 1)) 3)))⟩, ⟨(some 11), none, (.op false (.old (.move (.tmp 10))))⟩, ⟨(some 12), (some (11, false)), (.op false (.old (.move (.tmp 0))))⟩, ⟨(some 13), (some (11, false)), (.op false (.old (.binOp .gtr 3 (.tmp 12) (.const (.int .i64 8)) 3)))⟩, ⟨(some 14), none, (.op false (.old (.pick (.tmp 11) (.const (.bool true)) (.tmp 13))))⟩])
 (.cond (.tmp 14) (.seq (.reg (some []) [⟨(some 4), none, (.op false (.old (.assign (.const (.slice none 0 0)))))⟩, ⟨(some 5), none, (.op false (.old (.assign (.const (.int .i64 2)))))⟩])
 .ret)
 .skip))
 (.seq (.seq (.reg (some [0, 1]) [⟨(some 15), none, (.op false (.old (.move (.tmp 0))))⟩, ⟨(some 16), none, (.op false (.old (.move (.tmp 1))))⟩, ⟨(some 17), none, (.call (.func 40) [(.tmp 15), (.tmp 16)] (some (.val (.one .bool))))⟩, ⟨(some 18), none, (.op false (.old (.unOp .not 4 (.tmp 17))))⟩])
 (.cond (.tmp 18) (.seq (.reg (some []) [⟨(some 4), none, (.op false (.old (.assign (.const (.slice none 0 0)))))⟩, ⟨(some 5), none, (.op false (.old (.assign (.const (.int .i64 8)))))⟩])
 .ret)
 .skip))
 (.seq (.reg (some [0, 1]) [⟨(some 6), none, (.op false (.new 64 [(.int .i64 0), (.int .i64 0), (.int .i64 0), (.int .i64 0), (.int .i64 0), (.int .i64 0), (.int .i64 0), (.int .i64 0), (.int .i64 0), (.int .i64 0), (.int .i64 0), (.int .i64 0), (.int .i64 0), (.int .i64 0), (.int .i64 0), (.int .i64 0), (.int .i64 0), (.int .i64 0), (.int .i64 0), (.int .i64 0), (.int .i64 0), (.int .i64 0), (.int .i64 0), (.int .i64 0), (.int .i64 0), (.int .i64 0), (.int .i64 0), (.int .i64 0), (.int .i64 0), (.int .i64 0), (.int .i64 0), (.int .i64 0), (.int .i64 0), (.int .i64 0), (.int .i64 0), (.int .i64 0), (.int .i64 0), (.int .i64 0), (.int .i64 0), (.int .i64 0), (.int .i64 0), (.int .i64 0), (.int .i64 0), (.int .i64 0), (.int .i64 0), (.int .i64 0), (.int .i64 0), (.int .i64 0), (.int .i64 0), (.int .i64 0), (.int .i64 0), (.int .i64 0), (.int .i64 0), (.int .i64 0), (.int .i64 0), (.int .i64 0), (.int .i64 0), (.int .i64 0), (.int .i64 0), (.int .i64 0), (.int .i64 0), (.int .i64 0), (.int .i64 0), (.int .i64 0)]))⟩])
 (.seq (.seq (.reg (some [0, 1, 6]) [⟨(some 19), none, (.op false (.old (.move (.tmp 1))))⟩, ⟨(some 20), none, (.op false (.lenS (.tmp 19)))⟩, ⟨(some 21), none, (.op false (.old (.move (.const (.int .i64 0)))))⟩])
 (.block 0 (.loop 7 (some [0, 6, 19, 20, 21]) (some [0, 6, 19, 20, 21]))))
 (.seq (.reg (some [0, 6]) [⟨(some 38), none, (.op false (.old (.move (.tmp 0))))⟩, ⟨(some 39), none, (.op false (.old (.makeFunc (.func 43) #[] #[(.tmp 6)])))⟩, ⟨(some 40), none, (.call (.func 42) [(.tmp 38), (.tmp 39)] (some (.tup [(.one .slice), (.one (.int .i64))])))⟩, ⟨(some 41), none, (.op false (.old (.extract (.tmp 40) 0)))⟩, ⟨(some 42), none, (.op false (.old (.extract (.tmp 40) 1)))⟩, ⟨(some 4), none, (.op false (.old (.assign (.tmp 41))))⟩, ⟨(some 5), none, (.op false (.old (.assign (.tmp 42))))⟩])
 .ret)))))),
 [(.tmp 4), (.tmp 5)],
 [(7, ⟨(some [0, 6, 19, 20, 21]), (some [0, 6, 19, 20, 21]), (.seq (.reg (some [0, 6, 19, 20, 21]) [⟨(some 22), none, (.op false (.old (.binOp .lss 3 (.tmp 21) (.tmp 20) 3)))⟩])
 (.seq (.cond (.tmp 22) .skip
 (.exit 0 (some [0, 6])))
 (.seq (.block 1 (.seq (.reg (some [0, 6, 19, 20, 21]) [⟨(some 23), none, (.op false (.ixS 3 (.tmp 19) (.tmp 21)))⟩, ⟨(some 24), none, (.op false (.load 3 [(.int .i64), (.int .i64), (.int .i64)] (.tmp 23)))⟩, ⟨(some 8), none, (.op true (.new 3 [(.int .i64 0), (.int .i64 0), (.int .i64 0)]))⟩, ⟨none, none, (.op false (.store 3 (.tmp 8) (.tmp 24)))⟩])
 (.draw (some [0, 6, 8, 19, 20, 21]) 13 [⟨⟨(some 25), none, (.op false (.fieldAddr 1 (.tmp 8)))⟩, 0, .none, [1, 4, 5, 6, 9, 10, 11, 12], false, true⟩, ⟨⟨(some 26), none, (.op false (.load1 (.int .i64) (.tmp 25)))⟩, 1, (.blk (.tmp 25)), [4, 5, 6, 9, 10, 11, 12], false, true⟩, ⟨⟨(some 27), none, (.op false (.fieldAddr 0 (.tmp 8)))⟩, 2, .none, [3, 5, 6, 9, 11, 12], false, true⟩, ⟨⟨(some 28), none, (.op false (.load1 (.int .i64) (.tmp 27)))⟩, 3, (.blk (.tmp 27)), [5, 6, 9, 11, 12], false, true⟩, ⟨⟨(some 29), none, (.op false (.ixA 8 8 (.tmp 6) (.tmp 26)))⟩, 4, .none, [5, 6, 9, 11, 12], false, true⟩, ⟨⟨(some 30), none, (.op false (.ixA 8 1 (.tmp 29) (.tmp 28)))⟩, 5, .none, [6, 9, 11, 12], false, true⟩, ⟨⟨(some 31), none, (.op false (.load1 (.int .i64) (.tmp 30)))⟩, 6, (.blk (.tmp 30)), [9, 11, 12], false, true⟩, ⟨⟨(some 32), none, (.op false (.fieldAddr 2 (.tmp 8)))⟩, 7, .none, [8, 9, 11, 12], false, true⟩, ⟨⟨(some 33), none, (.op false (.load1 (.int .i64) (.tmp 32)))⟩, 8, (.blk (.tmp 32)), [9, 11, 12], false, true⟩, ⟨⟨(some 34), none, (.op false (.old (.binOp .add 2 (.tmp 31) (.tmp 33) 2)))⟩, 9, .none, [11, 12], false, true⟩, ⟨⟨(some 35), none, (.op false (.ixA 8 8 (.tmp 6) (.tmp 26)))⟩, 10, .none, [11, 12], false, true⟩, ⟨⟨(some 36), none, (.op false (.ixA 8 1 (.tmp 35) (.tmp 28)))⟩, 11, .none, [12], false, true⟩, ⟨⟨none, none, (.op false (.store 1 (.tmp 36) (.tmp 34)))⟩, 12, (.blk (.tmp 36)), [], true, true⟩])))
 (.reg (some [0, 6, 19, 20, 21]) [⟨(some 37), none, (.op false (.old (.binOp .add 3 (.tmp 21) (.const (.int .i64 1)) 3)))⟩, ⟨(some 21), none, (.op false (.old (.move (.tmp 37))))⟩]))))⟩)],
 []⟩
theorem r22_ok : resFun (progU ()) hint live 22 Try.f22 = some r22 := by kernel_rfl
/-- fringeref40.Model -/
def r23 : RFun :=
⟨(.seq (.reg (some [0, 1]) [⟨(some 4), none, (.op false (.old (.assign (.const (.slice none 0 0)))))⟩, ⟨(some 5), none, (.op false (.old (.assign (.const (.int .i64 0)))))⟩])
 (.seq (.seq (.reg (some [0, 1]) [⟨(some 8), none, (.op false (.old (.move (.tmp 0))))⟩, ⟨(some 9), none, (.op false (.old (.binOp .lss 3 (.tmp 8) (.const (.int .i64 1)) 3)))⟩, ⟨(some 10), none, (.op false (.old (.move (.tmp 9))))⟩, ⟨(some 11), (some (10, false)), (.op false (.old (.move (.tmp 0))))⟩, ⟨(some 12), (some (10, false)), (.op false (.old (.binOp .gtr 3 (.tmp 11) (.const (.int .i64 8)) 3)))⟩, ⟨(some 13), none, (.op false (.old (.pick (.tmp 10) (.const (.bool true)) (.tmp 12))))⟩])
 (.cond (.tmp 13) (.seq (.reg (some []) [⟨(some 4), none, (.op false (.old (.assign (.const (.slice none 0 0)))))⟩, ⟨(some 5), none, (.op false (.old (.assign (.const (.int .i64 2)))))⟩])
 .ret)
 .skip))
 (.seq (.seq (.reg (some [0, 1]) [⟨(some 14), none, (.op false (.old (.move (.tmp 0))))⟩, ⟨(some 15), none, (.op false (.old (.move (.tmp 1))))⟩, ⟨(some 16), none, (.call (.func 28) [(.tmp 14), (.tmp 15)] (some (.val (.one .bool))))⟩, ⟨(some 17), none, (.op false (.old (.unOp .not 4 (.tmp 16))))⟩])
 (.cond (.tmp 17) (.seq (.reg (some []) [⟨(some 4), none, (.op false (.old (.assign (.const (.slice none 0 0)))))⟩, ⟨(some 5), none, (.op false (.old (.assign (.const (.int .i64 8)))))⟩])
 .ret)
 .skip))
 (.seq (.reg (some [0, 1]) [⟨(some 18), none, (.op false (.old (.move (.tmp 0))))⟩, ⟨(some 19), none, (.call (.func 44) [(.tmp 18)] (some (.val (.one .slice))))⟩, ⟨(some 6), none, (.op false (.old (.assign (.tmp 19))))⟩])
 (.seq (.seq (.reg (some [1, 6]) [⟨(some 7), none, (.op false (.old (.assign (.const (.int .i64 0)))))⟩])
 (.block 0 (.loop 7 (some [1, 6, 7]) (some [1, 6, 7]))))
 (.seq (.seq (.reg (some [6]) [⟨(some 48), none, (.op false (.old (.move (.tmp 6))))⟩, ⟨(some 49), none, (.call (.func 27) [(.tmp 48), (.const (.int .i64 1000000000))] (some (.val (.one .bool))))⟩, ⟨(some 50), none, (.op false (.old (.unOp .not 4 (.tmp 49))))⟩])
 (.cond (.tmp 50) (.seq (.reg (some []) [⟨(some 4), none, (.op false (.old (.assign (.const (.slice none 0 0)))))⟩, ⟨(some 5), none, (.op false (.old (.assign (.const (.int .i64 16)))))⟩])
 .ret)
 .skip))
 (.seq (.reg (some [6]) [⟨(some 51), none, (.op false (.old (.move (.tmp 6))))⟩, ⟨(some 4), none, (.op false (.old (.assign (.tmp 51))))⟩, ⟨(some 5), none, (.op false (.old (.assign (.const (.int .i64 0)))))⟩])
 .ret))))))),
 [(.tmp 4), (.tmp 5)],
 [(7, ⟨(some [1, 6, 7]), (some [1, 6, 7]), (.seq (.seq (.reg (some [1, 6, 7]) [⟨(some 20), none, (.op false (.old (.move (.tmp 7))))⟩, ⟨(some 21), none, (.op false (.old (.move (.tmp 1))))⟩, ⟨(some 22), none, (.op false (.lenS (.tmp 21)))⟩, ⟨(some 23), none, (.op false (.old (.binOp .lss 3 (.tmp 20) (.tmp 22) 3)))⟩])
 (.cond (.tmp 23) .skip
 (.exit 0 (some [6]))))
 (.seq (.block 1 (.draw (some [1, 6, 7]) 23 [⟨⟨(some 26), none, (.op false (.old (.move (.tmp 6))))⟩, 0, .none, [6, 7, 13, 14, 20, 21, 22], false, true⟩, ⟨⟨(some 27), none, (.op false (.old (.move (.tmp 1))))⟩, 1, .none, [3, 4, 5, 6, 7, 13, 14, 20, 21, 22], false, true⟩, ⟨⟨(some 28), none, (.op false (.old (.move (.tmp 7))))⟩, 2, .none, [3, 4, 5, 6, 7, 13, 14, 20, 21, 22], false, true⟩, ⟨⟨(some 29), none, (.op false (.ixS 3 (.tmp 27) (.tmp 28)))⟩, 3, .none, [4, 5, 6, 7, 13, 14, 20, 21, 22], false, true⟩, ⟨⟨(some 30), none, (.op false (.fieldAddr 1 (.tmp 29)))⟩, 4, .none, [5, 6, 7, 13, 14, 20, 21, 22], false, true⟩, ⟨⟨(some 31), none, (.op false (.load1 (.int .i64) (.tmp 30)))⟩, 5, (.blk (.tmp 30)), [6, 7, 13, 14, 20, 21, 22], false, true⟩, ⟨⟨(some 32), none, (.op false (.ixS 1 (.tmp 26) (.tmp 31)))⟩, 6, .none, [7, 13, 14, 20, 21, 22], false, true⟩, ⟨⟨(some 33), none, (.op false (.load1 .slice (.tmp 32)))⟩, 7, (.blk (.tmp 32)), [13, 14, 20, 21, 22], false, true⟩, ⟨⟨(some 34), none, (.op false (.old (.move (.tmp 1))))⟩, 8, .none, [10, 11, 12, 13, 14, 20, 21, 22], false, true⟩, ⟨⟨(some 35), none, (.op false (.old (.move (.tmp 7))))⟩, 9, .none, [10, 11, 12, 13, 14, 20, 21, 22], false, true⟩, ⟨⟨(some 36), none, (.op false (.ixS 3 (.tmp 34) (.tmp 35)))⟩, 10, .none, [11, 12, 13, 14, 20, 21, 22], false, true⟩, ⟨⟨(some 37), none, (.op false (.fieldAddr 0 (.tmp 36)))⟩, 11, .none, [12, 13, 14, 20, 21, 22], false, true⟩, ⟨⟨(some 38), none, (.op false (.load1 (.int .i64) (.tmp 37)))⟩, 12, (.blk (.tmp 37)), [13, 14, 20, 21, 22], false, true⟩, ⟨⟨(some 39), none, (.op false (.ixS 1 (.tmp 33) (.tmp 38)))⟩, 13, .none, [14, 20, 21, 22], false, true⟩, ⟨⟨(some 40), none, (.op false (.load1 (.int .i64) (.tmp 39)))⟩, 14, (.blk (.tmp 39)), [20, 21, 22], false, true⟩, ⟨⟨(some 41), none, (.op false (.old (.move (.tmp 1))))⟩, 15, .none, [17, 18, 19, 20, 21, 22], false, true⟩, ⟨⟨(some 42), none, (.op false (.old (.move (.tmp 7))))⟩, 16, .none, [17, 18, 19, 20, 21, 22], false, true⟩, ⟨⟨(some 43), none, (.op false (.ixS 3 (.tmp 41) (.tmp 42)))⟩, 17, .none, [18, 19, 20, 21, 22], false, true⟩, ⟨⟨(some 44), none, (.op false (.fieldAddr 2 (.tmp 43)))⟩, 18, .none, [19, 20, 21, 22], false, true⟩, ⟨⟨(some 45), none, (.op false (.load1 (.int .i64) (.tmp 44)))⟩, 19, (.blk (.tmp 44)), [20, 21, 22], false, true⟩, ⟨⟨(some 46), none, (.op false (.old (.binOp .add 3 (.tmp 40) (.tmp 45) 3)))⟩, 20, .none, [21, 22], false, true⟩, ⟨⟨(some 47), none, (.op false (.ixS 1 (.tmp 33) (.tmp 38)))⟩, 21, .none, [22], false, true⟩, ⟨⟨none, none, (.op false (.store 1 (.tmp 47) (.tmp 46)))⟩, 22, (.blk (.tmp 47)), [], true, true⟩]))
 (.reg (some [1, 6, 7]) [⟨(some 24), none, (.op false (.old (.move (.tmp 7))))⟩, ⟨(some 25), none, (.op false (.old (.binOp .add 3 (.tmp 24) (.const (.int .i64 1)) 3)))⟩, ⟨(some 7), none, (.op false (.old (.assign (.tmp 25))))⟩])))⟩)],
 []⟩
theorem r23_ok : resFun (progU ()) hint live 23 Try.f23 = some r23 := by kernel_rfl
/-- clean.Spread -/
def r24 : RFun :=
⟨(.seq (.reg (some [0, 1]) [⟨(some 2), none, (.op false (.box 1 (.tmp 0)))⟩, ⟨(some 3), none, (.op false (.box 1 (.tmp 1)))⟩, ⟨(some 4), none, (.op false (.old (.assign (.const (.slice none 0 0)))))⟩, ⟨(some 5), none, (.op false (.old (.assign (.const (.int .i64 0)))))⟩])
 (.seq (.seq (.reg (some [2, 3]) [⟨(some 7), none, (.op false (.load1 .slice (.tmp 2)))⟩, ⟨(some 8), none, (.call (.func 35) [(.tmp 7), (.const (.int .i64 1000000000))] (some (.val (.one .bool))))⟩, ⟨(some 9), none, (.op false (.old (.unOp .not 4 (.tmp 8))))⟩])
 (.cond (.tmp 9) (.seq (.reg (some []) [⟨(some 4), none, (.op false (.old (.assign (.const (.slice none 0 0)))))⟩, ⟨(some 5), none, (.op false (.old (.assign (.const (.int .i64 2)))))⟩])
 .ret)
 .skip))
 (.seq (.reg (some [2, 3]) [⟨(some 10), none, (.op false (.load1 .slice (.tmp 2)))⟩, ⟨(some 11), none, (.op false (.lenS (.tmp 10)))⟩, ⟨(some 6), none, (.op false (.new 1 [(.int .i64 0)]))⟩, ⟨none, none, (.op false (.store 1 (.tmp 6) (.tmp 11)))⟩])
 (.seq (.seq (.reg (some [2, 3, 6]) [⟨(some 12), none, (.op false (.load1 .slice (.tmp 3)))⟩, ⟨(some 13), none, (.op false (.load1 (.int .i64) (.tmp 6)))⟩, ⟨(some 14), none, (.call (.func 37) [(.tmp 12), (.tmp 13)] (some (.val (.one .bool))))⟩, ⟨(some 15), none, (.op false (.old (.unOp .not 4 (.tmp 14))))⟩])
 (.cond (.tmp 15) (.seq (.reg (some []) [⟨(some 4), none, (.op false (.old (.assign (.const (.slice none 0 0)))))⟩, ⟨(some 5), none, (.op false (.old (.assign (.const (.int .i64 8)))))⟩])
 .ret)
 .skip))
 (.seq (.reg (some [2, 3, 6]) [⟨(some 16), none, (.op false (.load1 (.int .i64) (.tmp 6)))⟩, ⟨(some 17), none, (.op false (.old (.makeFunc (.func 45) #[] #[(.tmp 2), (.tmp 3), (.tmp 6)])))⟩, ⟨(some 18), none, (.call (.func 42) [(.tmp 16), (.tmp 17)] (some (.tup [(.one .slice), (.one (.int .i64))])))⟩, ⟨(some 19), none, (.op false (.old (.extract (.tmp 18) 0)))⟩, ⟨(some 20), none, (.op false (.old (.extract (.tmp 18) 1)))⟩, ⟨(some 4), none, (.op false (.old (.assign (.tmp 19))))⟩, ⟨(some 5), none, (.op false (.old (.assign (.tmp 20))))⟩])
 .ret))))),
 [(.tmp 4), (.tmp 5)],
 [],
 []⟩
theorem r24_ok : resFun (progU ()) hint live 24 Try.f24 = some r24 := by kernel_rfl
/-- fringeref40.Spread -/
def r25 : RFun :=
⟨(.seq (.reg (some [0, 1]) [⟨(some 4), none, (.op false (.old (.assign (.const (.slice none 0 0)))))⟩, ⟨(some 5), none, (.op false (.old (.assign (.const (.int .i64 0)))))⟩])
 (.seq (.seq (.reg (some [0, 1]) [⟨(some 10), none, (.op false (.old (.move (.tmp 0))))⟩, ⟨(some 11), none, (.call (.func 27) [(.tmp 10), (.const (.int .i64 1000000000))] (some (.val (.one .bool))))⟩, ⟨(some 12), none, (.op false (.old (.unOp .not 4 (.tmp 11))))⟩])
 (.cond (.tmp 12) (.seq (.reg (some []) [⟨(some 4), none, (.op false (.old (.assign (.const (.slice none 0 0)))))⟩, ⟨(some 5), none, (.op false (.old (.assign (.const (.int .i64 2)))))⟩])
 .ret)
 .skip))
 (.seq (.reg (some [0, 1]) [⟨(some 13), none, (.op false (.old (.move (.tmp 0))))⟩, ⟨(some 14), none, (.op false (.lenS (.tmp 13)))⟩, ⟨(some 6), none, (.op false (.old (.assign (.tmp 14))))⟩])
 (.seq (.seq (.reg (some [0, 1, 6]) [⟨(some 15), none, (.op false (.old (.move (.tmp 1))))⟩, ⟨(some 16), none, (.op false (.old (.move (.tmp 6))))⟩, ⟨(some 17), none, (.call (.func 38) [(.tmp 15), (.tmp 16)] (some (.val (.one .bool))))⟩, ⟨(some 18), none, (.op false (.old (.unOp .not 4 (.tmp 17))))⟩])
 (.cond (.tmp 18) (.seq (.reg (some []) [⟨(some 4), none, (.op false (.old (.assign (.const (.slice none 0 0)))))⟩, ⟨(some 5), none, (.op false (.old (.assign (.const (.int .i64 8)))))⟩])
 .ret)
 .skip))
 (.seq (.reg (some [0, 1, 6]) [⟨(some 19), none, (.op false (.old (.move (.tmp 6))))⟩, ⟨(some 20), none, (.call (.func 44) [(.tmp 19)] (some (.val (.one .slice))))⟩, ⟨(some 7), none, (.op false (.old (.assign (.tmp 20))))⟩])
 (.seq (.seq (.reg (some [0, 1, 6, 7]) [⟨(some 8), none, (.op false (.old (.assign (.const (.int .i64 0)))))⟩])
 (.block 0 (.loop 8 none (some [0, 1, 6, 7, 8]))))
 (.seq (.seq (.reg (some [7]) [⟨(some 45), none, (.op false (.old (.move (.tmp 7))))⟩, ⟨(some 46), none, (.call (.func 27) [(.tmp 45), (.const (.int .i64 1000000000))] (some (.val (.one .bool))))⟩, ⟨(some 47), none, (.op false (.old (.unOp .not 4 (.tmp 46))))⟩])
 (.cond (.tmp 47) (.seq (.reg (some []) [⟨(some 4), none, (.op false (.old (.assign (.const (.slice none 0 0)))))⟩, ⟨(some 5), none, (.op false (.old (.assign (.const (.int .i64 16)))))⟩])
 .ret)
 .skip))
 (.seq (.reg (some [7]) [⟨(some 48), none, (.op false (.old (.move (.tmp 7))))⟩, ⟨(some 4), none, (.op false (.old (.assign (.tmp 48))))⟩, ⟨(some 5), none, (.op false (.old (.assign (.const (.int .i64 0)))))⟩])
 .ret)))))))),
 [(.tmp 4), (.tmp 5)],
 [(8, ⟨none, (some [0, 1, 6, 7, 8]), (.seq (.seq (.reg (some [0, 1, 6, 7, 8]) [⟨(some 21), none, (.op false (.old (.move (.tmp 8))))⟩, ⟨(some 22), none, (.op false (.old (.move (.tmp 6))))⟩, ⟨(some 23), none, (.op false (.old (.binOp .lss 3 (.tmp 21) (.tmp 22) 3)))⟩])
 (.cond (.tmp 23) .skip
 (.exit 0 (some [7]))))
 (.seq (.block 1 (.seq (.reg (some [0, 1, 6, 7, 8]) [⟨(some 9), none, (.op false (.old (.assign (.const (.int .i64 0)))))⟩])
 (.block 2 (.loop 11 none (some [0, 1, 6, 7, 8, 9])))))
 (.reg (some [0, 1, 6, 7, 8]) [⟨(some 24), none, (.op false (.old (.move (.tmp 8))))⟩, ⟨(some 25), none, (.op false (.old (.binOp .add 3 (.tmp 24) (.const (.int .i64 1)) 3)))⟩, ⟨(some 8), none, (.op false (.old (.assign (.tmp 25))))⟩])))⟩), (11, ⟨none, (some [0, 1, 6, 7, 8, 9]), (.seq (.seq (.reg (some [0, 1, 6, 7, 8, 9]) [⟨(some 26), none, (.op false (.old (.move (.tmp 9))))⟩, ⟨(some 27), none, (.op false (.old (.move (.tmp 6))))⟩, ⟨(some 28), none, (.op false (.old (.binOp .lss 3 (.tmp 26) (.tmp 27) 3)))⟩])
 (.cond (.tmp 28) .skip
 (.exit 2 (some [0, 1, 6, 7, 8]))))
 (.seq (.block 3 (.reg (some [0, 1, 6, 7, 8, 9]) [⟨(some 31), none, (.op false (.old (.move (.tmp 7))))⟩, ⟨(some 32), none, (.op false (.old (.move (.tmp 1))))⟩, ⟨(some 33), none, (.op false (.old (.move (.tmp 9))))⟩, ⟨(some 34), none, (.op false (.old (.move (.tmp 8))))⟩, ⟨(some 35), none, (.op false (.old (.move (.tmp 0))))⟩, ⟨(some 36), none, (.op false (.old (.move (.tmp 8))))⟩, ⟨(some 37), none, (.op false (.ixS 1 (.tmp 35) (.tmp 36)))⟩, ⟨(some 38), none, (.op false (.load1 .slice (.tmp 37)))⟩, ⟨(some 39), none, (.op false (.old (.move (.tmp 9))))⟩, ⟨(some 40), none, (.op false (.ixS 1 (.tmp 38) (.tmp 39)))⟩, ⟨(some 41), none, (.op false (.load1 (.int .i64) (.tmp 40)))⟩, ⟨(some 42), none, (.op false (.old (.unOp .neg 3 (.tmp 41))))⟩, ⟨(some 43), none, (.op false (.build [(.int .i64 0), (.int .i64 0), (.int .i64 0)] [(0, 1, (.tmp 33)), (1, 1, (.tmp 34)), (2, 1, (.tmp 42))]))⟩, ⟨(some 44), none, (.call (.func 34) [(.tmp 31), (.tmp 32), (.tmp 43)] (some (.tup [])))⟩]))
 (.reg (some [0, 1, 6, 7, 8, 9]) [⟨(some 29), none, (.op false (.old (.move (.tmp 9))))⟩, ⟨(some 30), none, (.op false (.old (.binOp .add 3 (.tmp 29) (.const (.int .i64 1)) 3)))⟩, ⟨(some 9), none, (.op false (.old (.assign (.tmp 30))))⟩])))⟩)],
 []⟩
theorem r25_ok : resFun (progU ()) hint live 25 Try.f25 = some r25 := by kernel_rfl
/-- fringeref40.Image -/
def r27 : RFun :=
⟨(.seq (.reg (some [0, 1]) [⟨(some 4), none, (.op false (.old (.assign (.const (.bool false)))))⟩])
 (.seq (.seq (.reg (some [0, 1]) [⟨(some 7), none, (.op false (.old (.move (.tmp 0))))⟩, ⟨(some 8), none, (.op false (.lenS (.tmp 7)))⟩, ⟨(some 9), none, (.op false (.old (.binOp .lss 3 (.tmp 8) (.const (.int .i64 1)) 3)))⟩, ⟨(some 10), none, (.op false (.old (.move (.tmp 9))))⟩, ⟨(some 11), (some (10, false)), (.op false (.old (.move (.tmp 0))))⟩, ⟨(some 12), (some (10, false)), (.op false (.lenS (.tmp 11)))⟩, ⟨(some 13), (some (10, false)), (.op false (.old (.binOp .gtr 3 (.tmp 12) (.const (.int .i64 8)) 3)))⟩, ⟨(some 14), none, (.op false (.old (.pick (.tmp 10) (.const (.bool true)) (.tmp 13))))⟩])
 (.cond (.tmp 14) (.seq (.reg (some []) [⟨(some 4), none, (.op false (.old (.assign (.const (.bool false)))))⟩])
 .ret)
 .skip))
 (.seq (.seq (.reg (some [0, 1]) [⟨(some 5), none, (.op false (.old (.assign (.const (.int .i64 0)))))⟩])
 (.block 0 (.loop 4 none (some [0, 1, 5]))))
 (.seq (.reg (some []) [⟨(some 4), none, (.op false (.old (.assign (.const (.bool true)))))⟩])
 .ret)))),
 [(.tmp 4)],
 [(4, ⟨none, (some [0, 1, 5]), (.seq (.seq (.reg (some [0, 1, 5]) [⟨(some 15), none, (.op false (.old (.move (.tmp 5))))⟩, ⟨(some 16), none, (.op false (.old (.move (.tmp 0))))⟩, ⟨(some 17), none, (.op false (.lenS (.tmp 16)))⟩, ⟨(some 18), none, (.op false (.old (.binOp .lss 3 (.tmp 15) (.tmp 17) 3)))⟩])
 (.cond (.tmp 18) .skip
 (.exit 0 (some []))))
 (.seq (.block 1 (.seq (.seq (.reg (some [0, 1, 5]) [⟨(some 21), none, (.op false (.old (.move (.tmp 0))))⟩, ⟨(some 22), none, (.op false (.old (.move (.tmp 5))))⟩, ⟨(some 23), none, (.op false (.ixS 1 (.tmp 21) (.tmp 22)))⟩, ⟨(some 24), none, (.op false (.load1 .slice (.tmp 23)))⟩, ⟨(some 25), none, (.op false (.lenS (.tmp 24)))⟩, ⟨(some 26), none, (.op false (.old (.move (.tmp 0))))⟩, ⟨(some 27), none, (.op false (.lenS (.tmp 26)))⟩, ⟨(some 28), none, (.op false (.old (.binOp .neq 3 (.tmp 25) (.tmp 27) 3)))⟩])
 (.cond (.tmp 28) (.seq (.reg (some []) [⟨(some 4), none, (.op false (.old (.assign (.const (.bool false)))))⟩])
 .ret)
 .skip))
 (.seq (.reg (some [0, 1, 5]) [⟨(some 6), none, (.op false (.old (.assign (.const (.int .i64 0)))))⟩])
 (.block 2 (.loop 9 none (some [0, 1, 5, 6]))))))
 (.reg (some [0, 1, 5]) [⟨(some 19), none, (.op false (.old (.move (.tmp 5))))⟩, ⟨(some 20), none, (.op false (.old (.binOp .add 3 (.tmp 19) (.const (.int .i64 1)) 3)))⟩, ⟨(some 5), none, (.op false (.old (.assign (.tmp 20))))⟩])))⟩), (9, ⟨none, (some [0, 1, 5, 6]), (.seq (.seq (.reg (some [0, 1, 5, 6]) [⟨(some 29), none, (.op false (.old (.move (.tmp 6))))⟩, ⟨(some 30), none, (.op false (.old (.move (.tmp 0))))⟩, ⟨(some 31), none, (.op false (.lenS (.tmp 30)))⟩, ⟨(some 32), none, (.op false (.old (.binOp .lss 3 (.tmp 29) (.tmp 31) 3)))⟩])
 (.cond (.tmp 32) .skip
 (.exit 2 (some [0, 1, 5]))))
 (.seq (.block 3 (.seq (.reg (some [0, 1, 5, 6]) [⟨(some 35), none, (.op false (.old (.move (.tmp 0))))⟩, ⟨(some 36), none, (.op false (.old (.move (.tmp 5))))⟩, ⟨(some 37), none, (.op false (.ixS 1 (.tmp 35) (.tmp 36)))⟩, ⟨(some 38), none, (.op false (.load1 .slice (.tmp 37)))⟩, ⟨(some 39), none, (.op false (.old (.move (.tmp 6))))⟩, ⟨(some 40), none, (.op false (.ixS 1 (.tmp 38) (.tmp 39)))⟩, ⟨(some 41), none, (.op false (.load1 (.int .i64) (.tmp 40)))⟩, ⟨(some 42), none, (.op false (.old (.move (.tmp 1))))⟩, ⟨(some 43), none, (.op false (.old (.unOp .neg 3 (.tmp 42))))⟩, ⟨(some 44), none, (.op false (.old (.binOp .lss 3 (.tmp 41) (.tmp 43) 3)))⟩, ⟨(some 45), none, (.op false (.old (.move (.tmp 44))))⟩, ⟨(some 46), (some (45, false)), (.op false (.old (.move (.tmp 0))))⟩, ⟨(some 47), (some (45, false)), (.op false (.old (.move (.tmp 5))))⟩, ⟨(some 48), (some (45, false)), (.op false (.ixS 1 (.tmp 46) (.tmp 47)))⟩, ⟨(some 49), (some (45, false)), (.op false (.load1 .slice (.tmp 48)))⟩, ⟨(some 50), (some (45, false)), (.op false (.old (.move (.tmp 6))))⟩, ⟨(some 51), (some (45, false)), (.op false (.ixS 1 (.tmp 49) (.tmp 50)))⟩, ⟨(some 52), (some (45, false)), (.op false (.load1 (.int .i64) (.tmp 51)))⟩, ⟨(some 53), (some (45, false)), (.op false (.old (.move (.tmp 1))))⟩, ⟨(some 54), (some (45, false)), (.op false (.old (.binOp .gtr 3 (.tmp 52) (.tmp 53) 3)))⟩, ⟨(some 55), none, (.op false (.old (.pick (.tmp 45) (.const (.bool true)) (.tmp 54))))⟩])
 (.cond (.tmp 55) (.seq (.reg (some []) [⟨(some 4), none, (.op false (.old (.assign (.const (.bool false)))))⟩])
 .ret)
 .skip)))
 (.reg (some [0, 1, 5, 6]) [⟨(some 33), none, (.op false (.old (.move (.tmp 6))))⟩, ⟨(some 34), none, (.op false (.old (.binOp .add 3 (.tmp 33) (.const (.int .i64 1)) 3)))⟩, ⟨(some 6), none, (.op false (.old (.assign (.tmp 34))))⟩])))⟩)],
 []⟩
theorem r27_ok : resFun (progU ()) hint live 27 Try.f27 = some r27 := by kernel_rfl
/-- fringeref40.Log -/
def r28 : RFun :=
⟨(.seq (.reg (some [0, 1]) [⟨(some 4), none, (.op false (.old (.assign (.const (.bool false)))))⟩])
 (.seq (.seq (.reg (some [0, 1]) [⟨(some 5), none, (.op false (.old (.assign (.const (.int .i64 0)))))⟩])
 (.block 0 (.loop 2 none (some [0, 1, 5]))))
 (.seq (.reg (some [1]) [⟨(some 60), none, (.op false (.old (.move (.tmp 1))))⟩, ⟨(some 61), none, (.op false (.lenS (.tmp 60)))⟩, ⟨(some 62), none, (.op false (.old (.binOp .leq 3 (.tmp 61) (.const (.int .i64 100)) 3)))⟩, ⟨(some 4), none, (.op false (.old (.assign (.tmp 62))))⟩])
 .ret))),
 [(.tmp 4)],
 [(2, ⟨none, (some [0, 1, 5]), (.seq (.seq (.reg (some [0, 1, 5]) [⟨(some 6), none, (.op false (.old (.move (.tmp 5))))⟩, ⟨(some 7), none, (.op false (.old (.move (.tmp 1))))⟩, ⟨(some 8), none, (.op false (.lenS (.tmp 7)))⟩, ⟨(some 9), none, (.op false (.old (.binOp .lss 3 (.tmp 6) (.tmp 8) 3)))⟩])
 (.cond (.tmp 9) .skip
 (.exit 0 (some [1]))))
 (.seq (.block 1 (.seq (.reg (some [0, 1, 5]) [⟨(some 12), none, (.op false (.old (.move (.tmp 1))))⟩, ⟨(some 13), none, (.op false (.old (.move (.tmp 5))))⟩, ⟨(some 14), none, (.op false (.ixS 3 (.tmp 12) (.tmp 13)))⟩, ⟨(some 15), none, (.op false (.fieldAddr 0 (.tmp 14)))⟩, ⟨(some 16), none, (.op false (.load1 (.int .i64) (.tmp 15)))⟩, ⟨(some 17), none, (.op false (.old (.binOp .lss 3 (.tmp 16) (.const (.int .i64 0)) 3)))⟩, ⟨(some 18), none, (.op false (.old (.move (.tmp 17))))⟩, ⟨(some 19), (some (18, false)), (.op false (.old (.move (.tmp 1))))⟩, ⟨(some 20), (some (18, false)), (.op false (.old (.move (.tmp 5))))⟩, ⟨(some 21), (some (18, false)), (.op false (.ixS 3 (.tmp 19) (.tmp 20)))⟩, ⟨(some 22), (some (18, false)), (.op false (.fieldAddr 0 (.tmp 21)))⟩, ⟨(some 23), (some (18, false)), (.op false (.load1 (.int .i64) (.tmp 22)))⟩, ⟨(some 24), (some (18, false)), (.op false (.old (.move (.tmp 0))))⟩, ⟨(some 25), (some (18, false)), (.op false (.old (.binOp .geq 3 (.tmp 23) (.tmp 24) 3)))⟩, ⟨(some 26), none, (.op false (.old (.pick (.tmp 18) (.const (.bool true)) (.tmp 25))))⟩, ⟨(some 27), none, (.op false (.old (.move (.tmp 26))))⟩, ⟨(some 28), (some (27, false)), (.op false (.old (.move (.tmp 1))))⟩, ⟨(some 29), (some (27, false)), (.op false (.old (.move (.tmp 5))))⟩, ⟨(some 30), (some (27, false)), (.op false (.ixS 3 (.tmp 28) (.tmp 29)))⟩, ⟨(some 31), (some (27, false)), (.op false (.fieldAddr 1 (.tmp 30)))⟩, ⟨(some 32), (some (27, false)), (.op false (.load1 (.int .i64) (.tmp 31)))⟩, ⟨(some 33), (some (27, false)), (.op false (.old (.binOp .lss 3 (.tmp 32) (.const (.int .i64 0)) 3)))⟩, ⟨(some 34), none, (.op false (.old (.pick (.tmp 27) (.const (.bool true)) (.tmp 33))))⟩, ⟨(some 35), none, (.op false (.old (.move (.tmp 34))))⟩, ⟨(some 36), (some (35, false)), (.op false (.old (.move (.tmp 1))))⟩, ⟨(some 37), (some (35, false)), (.op false (.old (.move (.tmp 5))))⟩, ⟨(some 38), (some (35, false)), (.op false (.ixS 3 (.tmp 36) (.tmp 37)))⟩, ⟨(some 39), (some (35, false)), (.op false (.fieldAddr 1 (.tmp 38)))⟩, ⟨(some 40), (some (35, false)), (.op false (.load1 (.int .i64) (.tmp 39)))⟩, ⟨(some 41), (some (35, false)), (.op false (.old (.move (.tmp 0))))⟩, ⟨(some 42), (some (35, false)), (.op false (.old (.binOp .geq 3 (.tmp 40) (.tmp 41) 3)))⟩, ⟨(some 43), none, (.op false (.old (.pick (.tmp 35) (.const (.bool true)) (.tmp 42))))⟩, ⟨(some 44), none, (.op false (.old (.move (.tmp 43))))⟩, ⟨(some 45), (some (44, false)), (.op false (.old (.move (.tmp 1))))⟩, ⟨(some 46), (some (44, false)), (.op false (.old (.move (.tmp 5))))⟩, ⟨(some 47), (some (44, false)), (.op false (.ixS 3 (.tmp 45) (.tmp 46)))⟩, ⟨(some 48), (some (44, false)), (.op false (.fieldAddr 2 (.tmp 47)))⟩, ⟨(some 49), (some (44, false)), (.op false (.load1 (.int .i64) (.tmp 48)))⟩, ⟨(some 50), (some (44, false)), (.op false (.old (.binOp .lss 3 (.tmp 49) (.const (.int .i64 (-1000000000))) 3)))⟩, ⟨(some 51), none, (.op false (.old (.pick (.tmp 44) (.const (.bool true)) (.tmp 50))))⟩, ⟨(some 52), none, (.op false (.old (.move (.tmp 51))))⟩, ⟨(some 53), (some (52, false)), (.op false (.old (.move (.tmp 1))))⟩, ⟨(some 54), (some (52, false)), (.op false (.old (.move (.tmp 5))))⟩, ⟨(some 55), (some (52, false)), (.op false (.ixS 3 (.tmp 53) (.tmp 54)))⟩, ⟨(some 56), (some (52, false)), (.op false (.fieldAddr 2 (.tmp 55)))⟩, ⟨(some 57), (some (52, false)), (.op false (.load1 (.int .i64) (.tmp 56)))⟩, ⟨(some 58), (some (52, false)), (.op false (.old (.binOp .gtr 3 (.tmp 57) (.const (.int .i64 1000000000)) 3)))⟩, ⟨(some 59), none, (.op false (.old (.pick (.tmp 52) (.const (.bool true)) (.tmp 58))))⟩])
 (.cond (.tmp 59) (.seq (.reg (some []) [⟨(some 4), none, (.op false (.old (.assign (.const (.bool false)))))⟩])
 .ret)
 .skip)))
 (.reg (some [0, 1, 5]) [⟨(some 10), none, (.op false (.old (.move (.tmp 5))))⟩, ⟨(some 11), none, (.op false (.old (.binOp .add 3 (.tmp 10) (.const (.int .i64 1)) 3)))⟩, ⟨(some 5), none, (.op false (.old (.assign (.tmp 11))))⟩])))⟩)],
 []⟩
theorem r28_ok : resFun (progU ()) hint live 28 Try.f28 = some r28 := by kernel_rfl
/-- clean.copied[int] -/
def r31 : RFun :=
⟨(.seq (.reg (some [0]) [⟨(some 2), none, (.op false (.old (.assign (.const (.slice none 0 0)))))⟩])
 (.seq (.reg (some [0]) [⟨(some 6), none, (.op false (.old (.move (.tmp 0))))⟩, ⟨(some 7), none, (.op false (.lenS (.tmp 6)))⟩, ⟨(some 8), none, (.op false (.mkSlice 1 [(.slice none 0 0)] (.tmp 7) (.tmp 7)))⟩, ⟨(some 3), none, (.op false (.old (.assign (.tmp 8))))⟩])
 (.seq (.seq (.reg (some [0, 3]) [⟨(some 9), none, (.op false (.old (.move (.tmp 0))))⟩, ⟨(some 10), none, (.op false (.lenS (.tmp 9)))⟩, ⟨(some 11), none, (.op false (.old (.move (.const (.int .i64 0)))))⟩])
 (.block 0 (.loop 3 none (some [3, 9, 10, 11]))))
 (.seq (.reg (some [3]) [⟨(some 29), none, (.op false (.old (.move (.tmp 3))))⟩, ⟨(some 2), none, (.op false (.old (.assign (.tmp 29))))⟩])
 .ret)))),
 [(.tmp 2)],
 [(3, ⟨none, (some [3, 9, 10, 11]), (.seq (.reg (some [3, 9, 10, 11]) [⟨(some 12), none, (.op false (.old (.binOp .lss 3 (.tmp 11) (.tmp 10) 3)))⟩])
 (.seq (.cond (.tmp 12) .skip
 (.exit 0 (some [3])))
 (.seq (.block 1 (.seq (.reg (some [3, 9, 10, 11]) [⟨(some 13), none, (.op false (.old (.move (.tmp 11))))⟩, ⟨(some 14), none, (.op false (.ixS 1 (.tmp 9) (.tmp 11)))⟩, ⟨(some 15), none, (.op false (.load1 .slice (.tmp 14)))⟩, ⟨(some 4), none, (.op false (.old (.assign (.tmp 13))))⟩, ⟨(some 5), none, (.op false (.old (.assign (.tmp 15))))⟩])
 (.seq (.reg (some [3, 4, 5, 9, 10, 11]) [⟨(some 16), none, (.op false (.old (.move (.tmp 3))))⟩, ⟨(some 17), none, (.op false (.old (.move (.tmp 4))))⟩, ⟨(some 18), none, (.op false (.old (.move (.tmp 5))))⟩, ⟨(some 19), none, (.op false (.lenS (.tmp 18)))⟩, ⟨(some 20), none, (.op false (.mkSlice 1 [(.int .i64 0)] (.tmp 19) (.tmp 19)))⟩, ⟨(some 21), none, (.op false (.ixS 1 (.tmp 16) (.tmp 17)))⟩, ⟨none, none, (.op false (.store 1 (.tmp 21) (.tmp 20)))⟩])
 (.reg (some [3, 4, 5, 9, 10, 11]) [⟨(some 22), none, (.op false (.old (.move (.tmp 3))))⟩, ⟨(some 23), none, (.op false (.old (.move (.tmp 4))))⟩, ⟨(some 24), none, (.op false (.ixS 1 (.tmp 22) (.tmp 23)))⟩, ⟨(some 25), none, (.op false (.load1 .slice (.tmp 24)))⟩, ⟨(some 26), none, (.op false (.old (.move (.tmp 5))))⟩, ⟨(some 27), none, (.op false (.old (.call ⟨.builtin .copy, #[(.tmp 25), (.tmp 26)], #[52, 52]⟩)))⟩]))))
 (.reg (some [3, 9, 10, 11]) [⟨(some 28), none, (.op false (.old (.binOp .add 3 (.tmp 11) (.const (.int .i64 1)) 3)))⟩, ⟨(some 11), none, (.op false (.old (.move (.tmp 28))))⟩]))))⟩)],
 []⟩
theorem r31_ok : resFun (progU ()) hint live 31 Try.f31 = some r31 := by kernel_rfl
/-- clean.steps -/
def r32 : RFun :=
⟨(.seq (.reg (some [0, 1, 2]) [⟨(some 3), none, (.op false (.box 1 (.tmp 0)))⟩, ⟨(some 4), none, (.op false (.box 1 (.tmp 1)))⟩, ⟨(some 5), none, (.op false (.box 4 (.tmp 2)))⟩, ⟨(some 6), none, (.op false (.old (.assign (.const .nilFunc))))⟩])
 (.seq (.reg (some [3, 4, 5]) [⟨(some 7), none, (.op false (.old (.makeFunc (.func 46) #[] #[(.tmp 3), (.tmp 4), (.tmp 5)])))⟩, ⟨(some 6), none, (.op false (.old (.assign (.tmp 7))))⟩])
 .ret)),
 [(.tmp 6)],
 [],
 []⟩
theorem r32_ok : resFun (progU ()) hint live 32 Try.f32 = some r32 := by kernel_rfl
/-- fringeref40.peak -/
def r33 : RFun :=
⟨(.seq (.reg (some [0]) [⟨(some 2), none, (.op false (.old (.assign (.const (.int .i64 0)))))⟩, ⟨(some 3), none, (.op false (.old (.assign (.const (.int .i64 0)))))⟩])
 (.seq (.reg (some [0]) [⟨(some 4), none, (.op false (.old (.assign (.const (.int .i64 0)))))⟩, ⟨(some 5), none, (.op false (.old (.assign (.const (.int .i64 0)))))⟩])
 (.seq (.seq (.reg (some [0, 4, 5]) [⟨(some 6), none, (.op false (.old (.assign (.const (.int .i64 0)))))⟩])
 (.block 0 (.loop 3 (some [0, 4, 5, 6]) (some [0, 4, 5, 6]))))
 (.seq (.reg (some [4, 5]) [⟨(some 37), none, (.op false (.old (.move (.tmp 4))))⟩, ⟨(some 38), none, (.op false (.old (.move (.tmp 5))))⟩, ⟨(some 2), none, (.op false (.old (.assign (.tmp 37))))⟩, ⟨(some 3), none, (.op false (.old (.assign (.tmp 38))))⟩])
 .ret)))),
 [(.tmp 2), (.tmp 3)],
 [(3, ⟨(some [0, 4, 5, 6]), (some [0, 4, 5, 6]), (.seq (.seq (.reg (some [0, 4, 5, 6]) [⟨(some 8), none, (.op false (.old (.move (.tmp 6))))⟩, ⟨(some 9), none, (.op false (.old (.move (.tmp 0))))⟩, ⟨(some 10), none, (.op false (.lenS (.tmp 9)))⟩, ⟨(some 11), none, (.op false (.old (.binOp .lss 3 (.tmp 8) (.tmp 10) 3)))⟩])
 (.cond (.tmp 11) .skip
 (.exit 0 (some [4, 5]))))
 (.seq (.block 1 (.seq (.reg (some [0, 4, 5, 6]) [⟨(some 7), none, (.op false (.old (.assign (.const (.int .i64 0)))))⟩])
 (.block 2 (.loop 6 (some [0, 4, 5, 6, 7]) (some [0, 4, 5, 6, 7])))))
 (.reg (some [0, 4, 5, 6]) [⟨(some 12), none, (.op false (.old (.move (.tmp 6))))⟩, ⟨(some 13), none, (.op false (.old (.binOp .add 3 (.tmp 12) (.const (.int .i64 1)) 3)))⟩, ⟨(some 6), none, (.op false (.old (.assign (.tmp 13))))⟩])))⟩), (6, ⟨(some [0, 4, 5, 6, 7]), (some [0, 4, 5, 6, 7]), (.seq (.seq (.reg (some [0, 4, 5, 6, 7]) [⟨(some 14), none, (.op false (.old (.move (.tmp 7))))⟩, ⟨(some 15), none, (.op false (.old (.move (.tmp 0))))⟩, ⟨(some 16), none, (.op false (.lenS (.tmp 15)))⟩, ⟨(some 17), none, (.op false (.old (.binOp .lss 3 (.tmp 14) (.tmp 16) 3)))⟩])
 (.cond (.tmp 17) .skip
 (.exit 2 (some [0, 4, 5, 6]))))
 (.seq (.block 3 (.seq (.draw (some [0, 4, 5, 6, 7]) 15 [⟨⟨(some 20), none, (.op false (.old (.move (.tmp 0))))⟩, 0, .none, [2, 3, 5, 6, 14], false, true⟩, ⟨⟨(some 21), none, (.op false (.old (.move (.tmp 6))))⟩, 1, .none, [2, 3, 5, 6, 14], false, true⟩, ⟨⟨(some 22), none, (.op false (.ixS 1 (.tmp 20) (.tmp 21)))⟩, 2, .none, [3, 5, 6, 14], false, true⟩, ⟨⟨(some 23), none, (.op false (.load1 .slice (.tmp 22)))⟩, 3, (.blk (.tmp 22)), [5, 6, 14], false, true⟩, ⟨⟨(some 24), none, (.op false (.old (.move (.tmp 7))))⟩, 4, .none, [5, 6, 14], false, true⟩, ⟨⟨(some 25), none, (.op false (.ixS 1 (.tmp 23) (.tmp 24)))⟩, 5, .none, [6, 14], false, true⟩, ⟨⟨(some 26), none, (.op false (.load1 (.int .i64) (.tmp 25)))⟩, 6, (.blk (.tmp 25)), [14], false, true⟩, ⟨⟨(some 27), none, (.op false (.old (.move (.tmp 0))))⟩, 7, .none, [9, 10, 12, 13, 14], false, true⟩, ⟨⟨(some 28), none, (.op false (.old (.move (.tmp 5))))⟩, 8, .none, [9, 10, 12, 13, 14], false, true⟩, ⟨⟨(some 29), none, (.op false (.ixS 1 (.tmp 27) (.tmp 28)))⟩, 9, .none, [10, 12, 13, 14], false, true⟩, ⟨⟨(some 30), none, (.op false (.load1 .slice (.tmp 29)))⟩, 10, (.blk (.tmp 29)), [12, 13, 14], false, true⟩, ⟨⟨(some 31), none, (.op false (.old (.move (.tmp 4))))⟩, 11, .none, [12, 13, 14], false, true⟩, ⟨⟨(some 32), none, (.op false (.ixS 1 (.tmp 30) (.tmp 31)))⟩, 12, .none, [13, 14], false, true⟩, ⟨⟨(some 33), none, (.op false (.load1 (.int .i64) (.tmp 32)))⟩, 13, (.blk (.tmp 32)), [14], false, true⟩, ⟨⟨(some 34), none, (.op false (.old (.binOp .gtr 3 (.tmp 26) (.tmp 33) 3)))⟩, 14, .none, [], false, true⟩])
 (.cond (.tmp 34) (.reg (some [0, 6, 7]) [⟨(some 35), none, (.op false (.old (.move (.tmp 7))))⟩, ⟨(some 36), none, (.op false (.old (.move (.tmp 6))))⟩, ⟨(some 4), none, (.op false (.old (.assign (.tmp 35))))⟩, ⟨(some 5), none, (.op false (.old (.assign (.tmp 36))))⟩])
 .skip)))
 (.reg (some [0, 4, 5, 6, 7]) [⟨(some 18), none, (.op false (.old (.move (.tmp 7))))⟩, ⟨(some 19), none, (.op false (.old (.binOp .add 3 (.tmp 18) (.const (.int .i64 1)) 3)))⟩, ⟨(some 7), none, (.op false (.old (.assign (.tmp 19))))⟩])))⟩)],
 []⟩
theorem r33_ok : resFun (progU ()) hint live 33 Try.f33 = some r33 := by kernel_rfl
/-- fringeref40.subtract -/
def r34 : RFun :=
⟨(.seq (.reg (some [0, 1, 2]) [⟨(some 5), none, (.op true (.box 3 (.tmp 2)))⟩])
 (.seq (.reg (some [0, 1, 5]) [⟨(some 9), none, (.op false (.old (.move (.tmp 0))))⟩, ⟨(some 10), none, (.op false (.lenS (.tmp 9)))⟩, ⟨(some 6), none, (.op false (.old (.assign (.tmp 10))))⟩])
 (.seq (.reg (some [0, 1, 5, 6]) [⟨(some 7), none, (.op false (.old (.assign (.const (.int .i64 0)))))⟩])
 (.block 0 (.loop 3 (some [0, 1, 5, 6, 7]) (some [0, 1, 5, 6, 7])))))),
 [],
 [(3, ⟨(some [0, 1, 5, 6, 7]), (some [0, 1, 5, 6, 7]), (.seq (.seq (.reg (some [0, 1, 5, 6, 7]) [⟨(some 11), none, (.op false (.old (.move (.tmp 7))))⟩, ⟨(some 12), none, (.op false (.old (.move (.tmp 6))))⟩, ⟨(some 13), none, (.op false (.old (.binOp .lss 3 (.tmp 11) (.tmp 12) 3)))⟩])
 (.cond (.tmp 13) .skip
 (.exit 0 (some []))))
 (.seq (.block 1 (.seq (.reg (some [0, 1, 5, 6, 7]) [⟨(some 8), none, (.op false (.old (.assign (.const (.int .i64 0)))))⟩])
 (.block 2 (.loop 6 (some [0, 1, 5, 6, 7, 8]) (some [0, 1, 5, 6, 7, 8])))))
 (.reg (some [0, 1, 5, 6, 7]) [⟨(some 14), none, (.op false (.old (.move (.tmp 7))))⟩, ⟨(some 15), none, (.op false (.old (.binOp .add 3 (.tmp 14) (.const (.int .i64 1)) 3)))⟩, ⟨(some 7), none, (.op false (.old (.assign (.tmp 15))))⟩])))⟩), (6, ⟨(some [0, 1, 5, 6, 7, 8]), (some [0, 1, 5, 6, 7, 8]), (.seq (.seq (.reg (some [0, 1, 5, 6, 7, 8]) [⟨(some 16), none, (.op false (.old (.move (.tmp 8))))⟩, ⟨(some 17), none, (.op false (.old (.move (.tmp 6))))⟩, ⟨(some 18), none, (.op false (.old (.binOp .lss 3 (.tmp 16) (.tmp 17) 3)))⟩])
 (.cond (.tmp 18) .skip
 (.exit 2 (some [0, 1, 5, 6, 7]))))
 (.seq (.block 3 (.draw (some [0, 1, 5, 6, 7, 8]) 32 [⟨⟨(some 21), none, (.op false (.old (.move (.tmp 0))))⟩, 0, .none, [2, 3, 5, 6, 29, 30, 31], false, true⟩, ⟨⟨(some 22), none, (.op false (.old (.move (.tmp 7))))⟩, 1, .none, [2, 3, 5, 6, 29, 30, 31], false, true⟩, ⟨⟨(some 23), none, (.op false (.ixS 1 (.tmp 21) (.tmp 22)))⟩, 2, .none, [3, 5, 6, 29, 30, 31], false, true⟩, ⟨⟨(some 24), none, (.op false (.load1 .slice (.tmp 23)))⟩, 3, (.blk (.tmp 23)), [5, 6, 29, 30, 31], false, true⟩, ⟨⟨(some 25), none, (.op false (.old (.move (.tmp 8))))⟩, 4, .none, [5, 6, 29, 30, 31], false, true⟩, ⟨⟨(some 26), none, (.op false (.ixS 1 (.tmp 24) (.tmp 25)))⟩, 5, .none, [6, 29, 30, 31], false, true⟩, ⟨⟨(some 27), none, (.op false (.load1 (.int .i64) (.tmp 26)))⟩, 6, (.blk (.tmp 26)), [29, 30, 31], false, true⟩, ⟨⟨(some 28), none, (.op false (.fieldAddr 2 (.tmp 5)))⟩, 7, .none, [8, 28, 29, 30, 31], false, true⟩, ⟨⟨(some 29), none, (.op false (.load1 (.int .i64) (.tmp 28)))⟩, 8, (.blk (.tmp 28)), [28, 29, 30, 31], false, true⟩, ⟨⟨(some 30), none, (.op false (.old (.move (.tmp 1))))⟩, 9, .none, [17, 18, 26, 27, 28, 29, 30, 31], false, true⟩, ⟨⟨(some 31), none, (.op false (.old (.move (.tmp 7))))⟩, 10, .none, [13, 15, 16, 17, 18, 26, 27, 28, 29, 30, 31], false, true⟩, ⟨⟨(some 32), none, (.op false (.fieldAddr 1 (.tmp 5)))⟩, 11, .none, [12, 13, 15, 16, 17, 18, 26, 27, 28, 29, 30, 31], false, true⟩, ⟨⟨(some 33), none, (.op false (.load1 (.int .i64) (.tmp 32)))⟩, 12, (.blk (.tmp 32)), [13, 15, 16, 17, 18, 26, 27, 28, 29, 30, 31], false, true⟩, ⟨⟨(some 34), none, (.op false (.old (.binOp .sub 3 (.tmp 31) (.tmp 33) 3)))⟩, 13, .none, [15, 16, 17, 18, 26, 27, 28, 29, 30, 31], false, true⟩, ⟨⟨(some 35), none, (.op false (.old (.move (.tmp 6))))⟩, 14, .none, [15, 16, 17, 18, 26, 27, 28, 29, 30, 31], false, true⟩, ⟨⟨(some 36), none, (.op false (.old (.binOp .add 3 (.tmp 34) (.tmp 35) 3)))⟩, 15, .none, [16, 17, 18, 26, 27, 28, 29, 30, 31], false, true⟩, ⟨⟨(some 37), none, (.op false (.old (.binOp .sub 3 (.tmp 36) (.const (.int .i64 1)) 3)))⟩, 16, .none, [17, 18, 26, 27, 28, 29, 30, 31], false, true⟩, ⟨⟨(some 38), none, (.op false (.ixS 1 (.tmp 30) (.tmp 37)))⟩, 17, .none, [18, 26, 27, 28, 29, 30, 31], false, true⟩, ⟨⟨(some 39), none, (.op false (.load1 .slice (.tmp 38)))⟩, 18, (.blk (.tmp 38)), [26, 27, 28, 29, 30, 31], false, true⟩, ⟨⟨(some 40), none, (.op false (.old (.move (.tmp 8))))⟩, 19, .none, [22, 24, 25, 26, 27, 28, 29, 30, 31], false, true⟩, ⟨⟨(some 41), none, (.op false (.fieldAddr 0 (.tmp 5)))⟩, 20, .none, [21, 22, 24, 25, 26, 27, 28, 29, 30, 31], false, true⟩, ⟨⟨(some 42), none, (.op false (.load1 (.int .i64) (.tmp 41)))⟩, 21, (.blk (.tmp 41)), [22, 24, 25, 26, 27, 28, 29, 30, 31], false, true⟩, ⟨⟨(some 43), none, (.op false (.old (.binOp .sub 3 (.tmp 40) (.tmp 42) 3)))⟩, 22, .none, [24, 25, 26, 27, 28, 29, 30, 31], false, true⟩, ⟨⟨(some 44), none, (.op false (.old (.move (.tmp 6))))⟩, 23, .none, [24, 25, 26, 27, 28, 29, 30, 31], false, true⟩, ⟨⟨(some 45), none, (.op false (.old (.binOp .add 3 (.tmp 43) (.tmp 44) 3)))⟩, 24, .none, [25, 26, 27, 28, 29, 30, 31], false, true⟩, ⟨⟨(some 46), none, (.op false (.old (.binOp .sub 3 (.tmp 45) (.const (.int .i64 1)) 3)))⟩, 25, .none, [26, 27, 28, 29, 30, 31], false, true⟩, ⟨⟨(some 47), none, (.op false (.ixS 1 (.tmp 39) (.tmp 46)))⟩, 26, .none, [27, 28, 29, 30, 31], false, true⟩, ⟨⟨(some 48), none, (.op false (.load1 (.int .i64) (.tmp 47)))⟩, 27, (.blk (.tmp 47)), [28, 29, 30, 31], false, true⟩, ⟨⟨(some 49), none, (.op false (.old (.binOp .mul 3 (.tmp 29) (.tmp 48) 3)))⟩, 28, .none, [29, 30, 31], false, true⟩, ⟨⟨(some 50), none, (.op false (.old (.binOp .sub 3 (.tmp 27) (.tmp 49) 3)))⟩, 29, .none, [30, 31], false, true⟩, ⟨⟨(some 51), none, (.op false (.ixS 1 (.tmp 24) (.tmp 25)))⟩, 30, .none, [31], false, true⟩, ⟨⟨none, none, (.op false (.store 1 (.tmp 51) (.tmp 50)))⟩, 31, (.blk (.tmp 51)), [], true, true⟩]))
 (.reg (some [0, 1, 5, 6, 7, 8]) [⟨(some 19), none, (.op false (.old (.move (.tmp 8))))⟩, ⟨(some 20), none, (.op false (.old (.binOp .add 3 (.tmp 19) (.const (.int .i64 1)) 3)))⟩, ⟨(some 8), none, (.op false (.old (.assign (.tmp 20))))⟩])))⟩)],
 []⟩
theorem r34_ok : resFun (progU ()) hint live 34 Try.f34 = some r34 := by kernel_rfl
/-- clean.isImage -/
def r35 : RFun :=
⟨(.seq (.reg (some [0, 1]) [⟨(some 4), none, (.op false (.old (.assign (.const (.bool false)))))⟩])
 (.seq (.reg (some [0, 1]) [⟨(some 6), none, (.op false (.old (.move (.tmp 0))))⟩, ⟨(some 7), none, (.op false (.lenS (.tmp 6)))⟩, ⟨(some 5), none, (.op false (.old (.assign (.tmp 7))))⟩])
 (.seq (.reg (some [0, 1, 5]) [⟨(some 8), none, (.op false (.old (.move (.tmp 5))))⟩, ⟨(some 9), none, (.op false (.old (.binOp .geq 3 (.tmp 8) (.const (.int .i64 1)) 3)))⟩, ⟨(some 10), none, (.op false (.old (.move (.tmp 9))))⟩, ⟨(some 11), (some (10, true)), (.op false (.old (.move (.tmp 5))))⟩, ⟨(some 12), (some (10, true)), (.op false (.old (.binOp .leq 3 (.tmp 11) (.const (.int .i64 8)) 3)))⟩, ⟨(some 13), none, (.op false (.old (.pick (.tmp 10) (.tmp 12) (.const (.bool false)))))⟩, ⟨(some 14), none, (.op false (.old (.move (.tmp 13))))⟩, ⟨(some 15), (some (14, true)), (.op false (.old (.move (.tmp 0))))⟩, ⟨(some 16), (some (14, true)), (.op false (.old (.move (.tmp 5))))⟩, ⟨(some 17), (some (14, true)), (.op false (.old (.move (.tmp 1))))⟩, ⟨(some 18), (some (14, true)), (.call (.func 47) [(.tmp 15), (.tmp 16), (.tmp 17)] (some (.val (.one .bool))))⟩, ⟨(some 19), none, (.op false (.old (.pick (.tmp 14) (.tmp 18) (.const (.bool false)))))⟩, ⟨(some 4), none, (.op false (.old (.assign (.tmp 19))))⟩])
 .ret))),
 [(.tmp 4)],
 [],
 []⟩
theorem r35_ok : resFun (progU ()) hint live 35 Try.f35 = some r35 := by kernel_rfl
/-- clean.brightest -/
def r36 : RFun :=
⟨(.seq (.reg (some [0]) [⟨(some 2), none, (.op false (.old (.assign (.const (.int .i64 0)))))⟩, ⟨(some 3), none, (.op false (.old (.assign (.const (.int .i64 0)))))⟩, ⟨(some 4), none, (.op false (.old (.assign (.const (.int .i64 0)))))⟩])
 (.seq (.reg (some [0, 2, 3]) [⟨(some 9), none, (.op false (.old (.move (.tmp 0))))⟩, ⟨(some 10), none, (.op false (.ixS 1 (.tmp 9) (.const (.int .i64 0))))⟩, ⟨(some 11), none, (.op false (.load1 .slice (.tmp 10)))⟩, ⟨(some 12), none, (.op false (.ixS 1 (.tmp 11) (.const (.int .i64 0))))⟩, ⟨(some 13), none, (.op false (.load1 (.int .i64) (.tmp 12)))⟩, ⟨(some 4), none, (.op false (.old (.assign (.tmp 13))))⟩])
 (.seq (.seq (.reg (some [0, 2, 3, 4]) [⟨(some 14), none, (.op false (.old (.move (.tmp 0))))⟩, ⟨(some 15), none, (.op false (.lenS (.tmp 14)))⟩, ⟨(some 16), none, (.op false (.old (.move (.const (.int .i64 0)))))⟩])
 (.block 0 (.loop 3 none (some [2, 3, 4, 14, 15, 16]))))
 (.seq (.reg (some [2, 3, 4]) [⟨(some 36), none, (.op false (.old (.move (.tmp 2))))⟩, ⟨(some 37), none, (.op false (.old (.move (.tmp 3))))⟩, ⟨(some 38), none, (.op false (.old (.move (.tmp 4))))⟩, ⟨(some 2), none, (.op false (.old (.assign (.tmp 36))))⟩, ⟨(some 3), none, (.op false (.old (.assign (.tmp 37))))⟩, ⟨(some 4), none, (.op false (.old (.assign (.tmp 38))))⟩])
 .ret)))),
 [(.tmp 2), (.tmp 3), (.tmp 4)],
 [(3, ⟨none, (some [2, 3, 4, 14, 15, 16]), (.seq (.reg (some [2, 3, 4, 14, 15, 16]) [⟨(some 17), none, (.op false (.old (.binOp .lss 3 (.tmp 16) (.tmp 15) 3)))⟩])
 (.seq (.cond (.tmp 17) .skip
 (.exit 0 (some [2, 3, 4])))
 (.seq (.block 1 (.seq (.reg (some [2, 3, 4, 14, 15, 16]) [⟨(some 18), none, (.op false (.old (.move (.tmp 16))))⟩, ⟨(some 19), none, (.op false (.ixS 1 (.tmp 14) (.tmp 16)))⟩, ⟨(some 20), none, (.op false (.load1 .slice (.tmp 19)))⟩, ⟨(some 5), none, (.op false (.old (.assign (.tmp 18))))⟩, ⟨(some 6), none, (.op false (.old (.assign (.tmp 20))))⟩])
 (.seq (.reg (some [2, 3, 4, 5, 6, 14, 15, 16]) [⟨(some 21), none, (.op false (.old (.move (.tmp 6))))⟩, ⟨(some 22), none, (.op false (.lenS (.tmp 21)))⟩, ⟨(some 23), none, (.op false (.old (.move (.const (.int .i64 0)))))⟩])
 (.block 2 (.loop 6 none (some [2, 3, 4, 5, 14, 15, 16, 21, 22, 23]))))))
 (.reg (some [2, 3, 4, 14, 15, 16]) [⟨(some 35), none, (.op false (.old (.binOp .add 3 (.tmp 16) (.const (.int .i64 1)) 3)))⟩, ⟨(some 16), none, (.op false (.old (.move (.tmp 35))))⟩]))))⟩), (6, ⟨none, (some [2, 3, 4, 5, 14, 15, 16, 21, 22, 23]), (.seq (.reg (some [2, 3, 4, 5, 14, 15, 16, 21, 22, 23]) [⟨(some 24), none, (.op false (.old (.binOp .lss 3 (.tmp 23) (.tmp 22) 3)))⟩])
 (.seq (.cond (.tmp 24) .skip
 (.exit 2 (some [2, 3, 4, 14, 15, 16])))
 (.seq (.block 3 (.seq (.reg (some [2, 3, 4, 5, 14, 15, 16, 21, 22, 23]) [⟨(some 25), none, (.op false (.old (.move (.tmp 23))))⟩, ⟨(some 26), none, (.op false (.ixS 1 (.tmp 21) (.tmp 23)))⟩, ⟨(some 27), none, (.op false (.load1 (.int .i64) (.tmp 26)))⟩, ⟨(some 7), none, (.op false (.old (.assign (.tmp 25))))⟩, ⟨(some 8), none, (.op false (.old (.assign (.tmp 27))))⟩])
 (.seq (.reg (some [2, 3, 4, 5, 7, 8, 14, 15, 16, 21, 22, 23]) [⟨(some 28), none, (.op false (.old (.move (.tmp 8))))⟩, ⟨(some 29), none, (.op false (.old (.move (.tmp 4))))⟩, ⟨(some 30), none, (.op false (.old (.binOp .gtr 3 (.tmp 28) (.tmp 29) 3)))⟩])
 (.cond (.tmp 30) (.reg (some [5, 7, 8, 14, 15, 16, 21, 22, 23]) [⟨(some 31), none, (.op false (.old (.move (.tmp 7))))⟩, ⟨(some 32), none, (.op false (.old (.move (.tmp 5))))⟩, ⟨(some 33), none, (.op false (.old (.move (.tmp 8))))⟩, ⟨(some 2), none, (.op false (.old (.assign (.tmp 31))))⟩, ⟨(some 3), none, (.op false (.old (.assign (.tmp 32))))⟩, ⟨(some 4), none, (.op false (.old (.assign (.tmp 33))))⟩])
 .skip))))
 (.reg (some [2, 3, 4, 5, 14, 15, 16, 21, 22, 23]) [⟨(some 34), none, (.op false (.old (.binOp .add 3 (.tmp 23) (.const (.int .i64 1)) 3)))⟩, ⟨(some 23), none, (.op false (.old (.move (.tmp 34))))⟩]))))⟩)],
 []⟩
theorem r36_ok : resFun (progU ()) hint live 36 Try.f36 = some r36 := by kernel_rfl
/-- clean.isBeam -/
def r37 : RFun :=
⟨(.seq (.reg (some [0, 1]) [⟨(some 4), none, (.op false (.old (.assign (.const (.bool false)))))⟩])
 (.seq (.reg (some [0, 1]) [⟨(some 5), none, (.op false (.old (.move (.tmp 0))))⟩, ⟨(some 6), none, (.op false (.old (.move (.tmp 1))))⟩, ⟨(some 7), none, (.op false (.old (.binOp .mul 3 (.const (.int .i64 2)) (.tmp 6) 3)))⟩, ⟨(some 8), none, (.op false (.old (.binOp .sub 3 (.tmp 7) (.const (.int .i64 1)) 3)))⟩, ⟨(some 9), none, (.call (.func 47) [(.tmp 5), (.tmp 8), (.const (.int .i64 1000))] (some (.val (.one .bool))))⟩, ⟨(some 10), none, (.op false (.old (.move (.tmp 9))))⟩, ⟨(some 11), (some (10, true)), (.op false (.old (.move (.tmp 0))))⟩, ⟨(some 12), (some (10, true)), (.op false (.old (.move (.tmp 1))))⟩, ⟨(some 13), (some (10, true)), (.op false (.old (.binOp .sub 3 (.tmp 12) (.const (.int .i64 1)) 3)))⟩, ⟨(some 14), (some (10, true)), (.op false (.ixS 1 (.tmp 11) (.tmp 13)))⟩, ⟨(some 15), (some (10, true)), (.op false (.load1 .slice (.tmp 14)))⟩, ⟨(some 16), (some (10, true)), (.op false (.old (.move (.tmp 1))))⟩, ⟨(some 17), (some (10, true)), (.op false (.old (.binOp .sub 3 (.tmp 16) (.const (.int .i64 1)) 3)))⟩, ⟨(some 18), (some (10, true)), (.op false (.ixS 1 (.tmp 15) (.tmp 17)))⟩, ⟨(some 19), (some (10, true)), (.op false (.load1 (.int .i64) (.tmp 18)))⟩, ⟨(some 20), (some (10, true)), (.op false (.old (.binOp .gtr 3 (.tmp 19) (.const (.int .i64 0)) 3)))⟩, ⟨(some 21), none, (.op false (.old (.pick (.tmp 10) (.tmp 20) (.const (.bool false)))))⟩, ⟨(some 4), none, (.op false (.old (.assign (.tmp 21))))⟩])
 .ret)),
 [(.tmp 4)],
 [],
 []⟩
theorem r37_ok : resFun (progU ()) hint live 37 Try.f37 = some r37 := by kernel_rfl
/-- fringeref40.Beam -/
def r38 : RFun :=
⟨(.seq (.reg (some [0, 1]) [⟨(some 4), none, (.op false (.old (.assign (.const (.bool false)))))⟩])
 (.seq (.seq (.reg (some [0, 1]) [⟨(some 7), none, (.op false (.old (.move (.tmp 0))))⟩, ⟨(some 8), none, (.op false (.lenS (.tmp 7)))⟩, ⟨(some 9), none, (.op false (.old (.move (.tmp 1))))⟩, ⟨(some 10), none, (.op false (.old (.binOp .mul 3 (.const (.int .i64 2)) (.tmp 9) 3)))⟩, ⟨(some 11), none, (.op false (.old (.binOp .sub 3 (.tmp 10) (.const (.int .i64 1)) 3)))⟩, ⟨(some 12), none, (.op false (.old (.binOp .neq 3 (.tmp 8) (.tmp 11) 3)))⟩])
 (.cond (.tmp 12) (.seq (.reg (some []) [⟨(some 4), none, (.op false (.old (.assign (.const (.bool false)))))⟩])
 .ret)
 .skip))
 (.seq (.seq (.reg (some [0, 1]) [⟨(some 5), none, (.op false (.old (.assign (.const (.int .i64 0)))))⟩])
 (.block 0 (.loop 4 none (some [0, 1, 5]))))
 (.seq (.reg (some [0, 1]) [⟨(some 52), none, (.op false (.old (.move (.tmp 0))))⟩, ⟨(some 53), none, (.op false (.old (.move (.tmp 1))))⟩, ⟨(some 54), none, (.op false (.old (.binOp .sub 3 (.tmp 53) (.const (.int .i64 1)) 3)))⟩, ⟨(some 55), none, (.op false (.ixS 1 (.tmp 52) (.tmp 54)))⟩, ⟨(some 56), none, (.op false (.load1 .slice (.tmp 55)))⟩, ⟨(some 57), none, (.op false (.old (.move (.tmp 1))))⟩, ⟨(some 58), none, (.op false (.old (.binOp .sub 3 (.tmp 57) (.const (.int .i64 1)) 3)))⟩, ⟨(some 59), none, (.op false (.ixS 1 (.tmp 56) (.tmp 58)))⟩, ⟨(some 60), none, (.op false (.load1 (.int .i64) (.tmp 59)))⟩, ⟨(some 61), none, (.op false (.old (.binOp .gtr 3 (.tmp 60) (.const (.int .i64 0)) 3)))⟩, ⟨(some 4), none, (.op false (.old (.assign (.tmp 61))))⟩])
 .ret)))),
 [(.tmp 4)],
 [(4, ⟨none, (some [0, 1, 5]), (.seq (.seq (.reg (some [0, 1, 5]) [⟨(some 13), none, (.op false (.old (.move (.tmp 5))))⟩, ⟨(some 14), none, (.op false (.old (.move (.tmp 0))))⟩, ⟨(some 15), none, (.op false (.lenS (.tmp 14)))⟩, ⟨(some 16), none, (.op false (.old (.binOp .lss 3 (.tmp 13) (.tmp 15) 3)))⟩])
 (.cond (.tmp 16) .skip
 (.exit 0 (some [0, 1]))))
 (.seq (.block 1 (.seq (.seq (.reg (some [0, 1, 5]) [⟨(some 19), none, (.op false (.old (.move (.tmp 0))))⟩, ⟨(some 20), none, (.op false (.old (.move (.tmp 5))))⟩, ⟨(some 21), none, (.op false (.ixS 1 (.tmp 19) (.tmp 20)))⟩, ⟨(some 22), none, (.op false (.load1 .slice (.tmp 21)))⟩, ⟨(some 23), none, (.op false (.lenS (.tmp 22)))⟩, ⟨(some 24), none, (.op false (.old (.move (.tmp 1))))⟩, ⟨(some 25), none, (.op false (.old (.binOp .mul 3 (.const (.int .i64 2)) (.tmp 24) 3)))⟩, ⟨(some 26), none, (.op false (.old (.binOp .sub 3 (.tmp 25) (.const (.int .i64 1)) 3)))⟩, ⟨(some 27), none, (.op false (.old (.binOp .neq 3 (.tmp 23) (.tmp 26) 3)))⟩])
 (.cond (.tmp 27) (.seq (.reg (some []) [⟨(some 4), none, (.op false (.old (.assign (.const (.bool false)))))⟩])
 .ret)
 .skip))
 (.seq (.reg (some [0, 1, 5]) [⟨(some 6), none, (.op false (.old (.assign (.const (.int .i64 0)))))⟩])
 (.block 2 (.loop 9 none (some [0, 1, 5, 6]))))))
 (.reg (some [0, 1, 5]) [⟨(some 17), none, (.op false (.old (.move (.tmp 5))))⟩, ⟨(some 18), none, (.op false (.old (.binOp .add 3 (.tmp 17) (.const (.int .i64 1)) 3)))⟩, ⟨(some 5), none, (.op false (.old (.assign (.tmp 18))))⟩])))⟩), (9, ⟨none, (some [0, 1, 5, 6]), (.seq (.seq (.reg (some [0, 1, 5, 6]) [⟨(some 28), none, (.op false (.old (.move (.tmp 6))))⟩, ⟨(some 29), none, (.op false (.old (.move (.tmp 0))))⟩, ⟨(some 30), none, (.op false (.lenS (.tmp 29)))⟩, ⟨(some 31), none, (.op false (.old (.binOp .lss 3 (.tmp 28) (.tmp 30) 3)))⟩])
 (.cond (.tmp 31) .skip
 (.exit 2 (some [0, 1, 5]))))
 (.seq (.block 3 (.seq (.reg (some [0, 1, 5, 6]) [⟨(some 34), none, (.op false (.old (.move (.tmp 0))))⟩, ⟨(some 35), none, (.op false (.old (.move (.tmp 5))))⟩, ⟨(some 36), none, (.op false (.ixS 1 (.tmp 34) (.tmp 35)))⟩, ⟨(some 37), none, (.op false (.load1 .slice (.tmp 36)))⟩, ⟨(some 38), none, (.op false (.old (.move (.tmp 6))))⟩, ⟨(some 39), none, (.op false (.ixS 1 (.tmp 37) (.tmp 38)))⟩, ⟨(some 40), none, (.op false (.load1 (.int .i64) (.tmp 39)))⟩, ⟨(some 41), none, (.op false (.old (.binOp .lss 3 (.tmp 40) (.const (.int .i64 (-1000))) 3)))⟩, ⟨(some 42), none, (.op false (.old (.move (.tmp 41))))⟩, ⟨(some 43), (some (42, false)), (.op false (.old (.move (.tmp 0))))⟩, ⟨(some 44), (some (42, false)), (.op false (.old (.move (.tmp 5))))⟩, ⟨(some 45), (some (42, false)), (.op false (.ixS 1 (.tmp 43) (.tmp 44)))⟩, ⟨(some 46), (some (42, false)), (.op false (.load1 .slice (.tmp 45)))⟩, ⟨(some 47), (some (42, false)), (.op false (.old (.move (.tmp 6))))⟩, ⟨(some 48), (some (42, false)), (.op false (.ixS 1 (.tmp 46) (.tmp 47)))⟩, ⟨(some 49), (some (42, false)), (.op false (.load1 (.int .i64) (.tmp 48)))⟩, ⟨(some 50), (some (42, false)), (.op false (.old (.binOp .gtr 3 (.tmp 49) (.const (.int .i64 1000)) 3)))⟩, ⟨(some 51), none, (.op false (.old (.pick (.tmp 42) (.const (.bool true)) (.tmp 50))))⟩])
 (.cond (.tmp 51) (.seq (.reg (some []) [⟨(some 4), none, (.op false (.old (.assign (.const (.bool false)))))⟩])
 .ret)
 .skip)))
 (.reg (some [0, 1, 5, 6]) [⟨(some 32), none, (.op false (.old (.move (.tmp 6))))⟩, ⟨(some 33), none, (.op false (.old (.binOp .add 3 (.tmp 32) (.const (.int .i64 1)) 3)))⟩, ⟨(some 6), none, (.op false (.old (.assign (.tmp 33))))⟩])))⟩)],
 []⟩
theorem r38_ok : resFun (progU ()) hint live 38 Try.f38 = some r38 := by kernel_rfl
/-- fringeref40.Cleaning -/
def r39 : RFun :=
⟨(.seq (.reg (some [0]) [⟨(some 1), none, (.op true (.box 4 (.tmp 0)))⟩, ⟨(some 2), none, (.op false (.old (.assign (.const (.bool false)))))⟩])
 (.seq (.reg (some [1]) [⟨(some 3), none, (.op false (.fieldAddr 0 (.tmp 1)))⟩, ⟨(some 4), none, (.op false (.load1 (.int .i64) (.tmp 3)))⟩, ⟨(some 5), none, (.op false (.old (.binOp .geq 3 (.tmp 4) (.const (.int .i64 1)) 3)))⟩, ⟨(some 6), none, (.op false (.old (.move (.tmp 5))))⟩, ⟨(some 7), (some (6, true)), (.op false (.fieldAddr 0 (.tmp 1)))⟩, ⟨(some 8), (some (6, true)), (.op false (.load1 (.int .i64) (.tmp 7)))⟩, ⟨(some 9), (some (6, true)), (.op false (.fieldAddr 1 (.tmp 1)))⟩, ⟨(some 10), (some (6, true)), (.op false (.load1 (.int .i64) (.tmp 9)))⟩, ⟨(some 11), (some (6, true)), (.op false (.old (.binOp .leq 3 (.tmp 8) (.tmp 10) 3)))⟩, ⟨(some 12), none, (.op false (.old (.pick (.tmp 6) (.tmp 11) (.const (.bool false)))))⟩, ⟨(some 13), none, (.op false (.old (.move (.tmp 12))))⟩, ⟨(some 14), (some (13, true)), (.op false (.fieldAddr 1 (.tmp 1)))⟩, ⟨(some 15), (some (13, true)), (.op false (.load1 (.int .i64) (.tmp 14)))⟩, ⟨(some 16), (some (13, true)), (.op false (.old (.binOp .leq 3 (.tmp 15) (.const (.int .i64 10)) 3)))⟩, ⟨(some 17), none, (.op false (.old (.pick (.tmp 13) (.tmp 16) (.const (.bool false)))))⟩, ⟨(some 18), none, (.op false (.old (.move (.tmp 17))))⟩, ⟨(some 19), (some (18, true)), (.op false (.fieldAddr 2 (.tmp 1)))⟩, ⟨(some 20), (some (18, true)), (.op false (.load1 (.int .i64) (.tmp 19)))⟩, ⟨(some 21), (some (18, true)), (.op false (.old (.binOp .geq 3 (.tmp 20) (.const (.int .i64 1)) 3)))⟩, ⟨(some 22), none, (.op false (.old (.pick (.tmp 18) (.tmp 21) (.const (.bool false)))))⟩, ⟨(some 23), none, (.op false (.old (.move (.tmp 22))))⟩, ⟨(some 24), (some (23, true)), (.op false (.fieldAddr 2 (.tmp 1)))⟩, ⟨(some 25), (some (23, true)), (.op false (.load1 (.int .i64) (.tmp 24)))⟩, ⟨(some 26), (some (23, true)), (.op false (.old (.binOp .leq 3 (.tmp 25) (.const (.int .i64 1000000)) 3)))⟩, ⟨(some 27), none, (.op false (.old (.pick (.tmp 23) (.tmp 26) (.const (.bool false)))))⟩, ⟨(some 28), none, (.op false (.old (.move (.tmp 27))))⟩, ⟨(some 29), (some (28, true)), (.op false (.fieldAddr 3 (.tmp 1)))⟩, ⟨(some 30), (some (28, true)), (.op false (.load1 (.int .i64) (.tmp 29)))⟩, ⟨(some 31), (some (28, true)), (.op false (.old (.binOp .geq 3 (.tmp 30) (.const (.int .i64 0)) 3)))⟩, ⟨(some 32), none, (.op false (.old (.pick (.tmp 28) (.tmp 31) (.const (.bool false)))))⟩, ⟨(some 33), none, (.op false (.old (.move (.tmp 32))))⟩, ⟨(some 34), (some (33, true)), (.op false (.fieldAddr 3 (.tmp 1)))⟩, ⟨(some 35), (some (33, true)), (.op false (.load1 (.int .i64) (.tmp 34)))⟩, ⟨(some 36), (some (33, true)), (.op false (.old (.binOp .leq 3 (.tmp 35) (.const (.int .i64 100)) 3)))⟩, ⟨(some 37), none, (.op false (.old (.pick (.tmp 33) (.tmp 36) (.const (.bool false)))))⟩, ⟨(some 2), none, (.op false (.old (.assign (.tmp 37))))⟩])
 .ret)),
 [(.tmp 2)],
 [],
 []⟩
theorem r39_ok : resFun (progU ()) hint live 39 Try.f39 = some r39 := by kernel_rfl
/-- clean.isLog -/
def r40 : RFun :=
⟨(.seq (.reg (some [0, 1]) [⟨(some 4), none, (.op false (.old (.assign (.const (.bool false)))))⟩])
 (.seq (.seq (.reg (some [0, 1]) [⟨(some 7), none, (.op false (.old (.move (.tmp 1))))⟩, ⟨(some 8), none, (.op false (.lenS (.tmp 7)))⟩, ⟨(some 9), none, (.op false (.old (.binOp .gtr 3 (.tmp 8) (.const (.int .i64 100)) 3)))⟩])
 (.cond (.tmp 9) (.seq (.reg (some []) [⟨(some 4), none, (.op false (.old (.assign (.const (.bool false)))))⟩])
 .ret)
 .skip))
 (.seq (.seq (.reg (some [0, 1]) [⟨(some 10), none, (.op false (.old (.move (.tmp 1))))⟩, ⟨(some 11), none, (.op false (.lenS (.tmp 10)))⟩, ⟨(some 12), none, (.op false (.old (.move (.const (.int .i64 0)))))⟩])
 (.block 0 (.loop 4 (some [0, 10, 11, 12]) (some [0, 10, 11, 12]))))
 (.seq (.reg (some []) [⟨(some 4), none, (.op false (.old (.assign (.const (.bool true)))))⟩])
 .ret)))),
 [(.tmp 4)],
 [(4, ⟨(some [0, 10, 11, 12]), (some [0, 10, 11, 12]), (.seq (.reg (some [0, 10, 11, 12]) [⟨(some 13), none, (.op false (.old (.binOp .lss 3 (.tmp 12) (.tmp 11) 3)))⟩])
 (.seq (.cond (.tmp 13) .skip
 (.exit 0 (some [])))
 (.seq (.block 1 (.seq (.reg (some [0, 10, 11, 12]) [⟨(some 14), none, (.op false (.ixS 3 (.tmp 10) (.tmp 12)))⟩, ⟨(some 15), none, (.op false (.load 3 [(.int .i64), (.int .i64), (.int .i64)] (.tmp 14)))⟩, ⟨(some 6), none, (.op true (.new 3 [(.int .i64 0), (.int .i64 0), (.int .i64 0)]))⟩, ⟨none, none, (.op false (.store 3 (.tmp 6) (.tmp 15)))⟩])
 (.seq (.reg (some [0, 6, 10, 11, 12]) [⟨(some 16), none, (.op false (.fieldAddr 0 (.tmp 6)))⟩, ⟨(some 17), none, (.op false (.load1 (.int .i64) (.tmp 16)))⟩, ⟨(some 18), none, (.op false (.old (.binOp .lss 3 (.tmp 17) (.const (.int .i64 0)) 3)))⟩, ⟨(some 19), none, (.op false (.old (.move (.tmp 18))))⟩, ⟨(some 20), (some (19, false)), (.op false (.fieldAddr 0 (.tmp 6)))⟩, ⟨(some 21), (some (19, false)), (.op false (.load1 (.int .i64) (.tmp 20)))⟩, ⟨(some 22), (some (19, false)), (.op false (.old (.move (.tmp 0))))⟩, ⟨(some 23), (some (19, false)), (.op false (.old (.binOp .geq 3 (.tmp 21) (.tmp 22) 3)))⟩, ⟨(some 24), none, (.op false (.old (.pick (.tmp 19) (.const (.bool true)) (.tmp 23))))⟩, ⟨(some 25), none, (.op false (.old (.move (.tmp 24))))⟩, ⟨(some 26), (some (25, false)), (.op false (.fieldAddr 1 (.tmp 6)))⟩, ⟨(some 27), (some (25, false)), (.op false (.load1 (.int .i64) (.tmp 26)))⟩, ⟨(some 28), (some (25, false)), (.op false (.old (.binOp .lss 3 (.tmp 27) (.const (.int .i64 0)) 3)))⟩, ⟨(some 29), none, (.op false (.old (.pick (.tmp 25) (.const (.bool true)) (.tmp 28))))⟩, ⟨(some 30), none, (.op false (.old (.move (.tmp 29))))⟩, ⟨(some 31), (some (30, false)), (.op false (.fieldAddr 1 (.tmp 6)))⟩, ⟨(some 32), (some (30, false)), (.op false (.load1 (.int .i64) (.tmp 31)))⟩, ⟨(some 33), (some (30, false)), (.op false (.old (.move (.tmp 0))))⟩, ⟨(some 34), (some (30, false)), (.op false (.old (.binOp .geq 3 (.tmp 32) (.tmp 33) 3)))⟩, ⟨(some 35), none, (.op false (.old (.pick (.tmp 30) (.const (.bool true)) (.tmp 34))))⟩, ⟨(some 36), none, (.op false (.old (.move (.tmp 35))))⟩, ⟨(some 37), (some (36, false)), (.op false (.fieldAddr 2 (.tmp 6)))⟩, ⟨(some 38), (some (36, false)), (.op false (.load1 (.int .i64) (.tmp 37)))⟩, ⟨(some 39), (some (36, false)), (.call (.func 48) [(.tmp 38)] (some (.val (.one .bool))))⟩, ⟨(some 40), (some (36, false)), (.op false (.old (.unOp .not 4 (.tmp 39))))⟩, ⟨(some 41), none, (.op false (.old (.pick (.tmp 36) (.const (.bool true)) (.tmp 40))))⟩])
 (.cond (.tmp 41) (.seq (.reg (some []) [⟨(some 4), none, (.op false (.old (.assign (.const (.bool false)))))⟩])
 .ret)
 .skip))))
 (.reg (some [0, 10, 11, 12]) [⟨(some 42), none, (.op false (.old (.binOp .add 3 (.tmp 12) (.const (.int .i64 1)) 3)))⟩, ⟨(some 12), none, (.op false (.old (.move (.tmp 42))))⟩]))))⟩)],
 []⟩
theorem r40_ok : resFun (progU ()) hint live 40 Try.f40 = some r40 := by kernel_rfl
/-- clean.subtract -/
def r41 : RFun :=
⟨(.seq (.reg (some [0, 1, 2]) [⟨(some 5), none, (.op true (.box 3 (.tmp 2)))⟩, ⟨(some 6), none, (.op false (.old (.assign (.const (.bool false)))))⟩])
 (.seq (.reg (some [0, 1, 5]) [⟨(some 13), none, (.op false (.old (.move (.tmp 0))))⟩, ⟨(some 14), none, (.op false (.lenS (.tmp 13)))⟩, ⟨(some 7), none, (.op false (.old (.assign (.tmp 14))))⟩])
 (.seq (.seq (.reg (some [0, 1, 5, 7]) [⟨(some 15), none, (.op false (.old (.move (.tmp 0))))⟩, ⟨(some 16), none, (.op false (.lenS (.tmp 15)))⟩, ⟨(some 17), none, (.op false (.old (.move (.const (.int .i64 0)))))⟩])
 (.block 0 (.loop 3 (some [1, 5, 7, 15, 16, 17]) (some [1, 5, 7, 15, 16, 17]))))
 (.seq (.reg (some []) [⟨(some 6), none, (.op false (.old (.assign (.const (.bool true)))))⟩])
 .ret)))),
 [(.tmp 6)],
 [(3, ⟨(some [1, 5, 7, 15, 16, 17]), (some [1, 5, 7, 15, 16, 17]), (.seq (.reg (some [1, 5, 7, 15, 16, 17]) [⟨(some 18), none, (.op false (.old (.binOp .lss 3 (.tmp 17) (.tmp 16) 3)))⟩])
 (.seq (.cond (.tmp 18) .skip
 (.exit 0 (some [])))
 (.seq (.block 1 (.seq (.reg (some [1, 5, 7, 15, 16, 17]) [⟨(some 19), none, (.op false (.old (.move (.tmp 17))))⟩, ⟨(some 20), none, (.op false (.ixS 1 (.tmp 15) (.tmp 17)))⟩, ⟨(some 21), none, (.op false (.load1 .slice (.tmp 20)))⟩, ⟨(some 8), none, (.op false (.old (.assign (.tmp 19))))⟩, ⟨(some 9), none, (.op false (.old (.assign (.tmp 21))))⟩])
 (.seq (.reg (some [1, 5, 7, 8, 9, 15, 16, 17]) [⟨(some 22), none, (.op false (.old (.move (.tmp 9))))⟩, ⟨(some 23), none, (.op false (.lenS (.tmp 22)))⟩, ⟨(some 24), none, (.op false (.old (.move (.const (.int .i64 0)))))⟩])
 (.block 2 (.loop 6 (some [1, 5, 7, 8, 9, 15, 16, 17, 23, 24]) (some [1, 5, 7, 8, 9, 15, 16, 17, 23, 24]))))))
 (.reg (some [1, 5, 7, 15, 16, 17]) [⟨(some 63), none, (.op false (.old (.binOp .add 3 (.tmp 17) (.const (.int .i64 1)) 3)))⟩, ⟨(some 17), none, (.op false (.old (.move (.tmp 63))))⟩]))))⟩), (6, ⟨(some [1, 5, 7, 8, 9, 15, 16, 17, 23, 24]), (some [1, 5, 7, 8, 9, 15, 16, 17, 23, 24]), (.seq (.reg (some [1, 5, 7, 8, 9, 15, 16, 17, 23, 24]) [⟨(some 25), none, (.op false (.old (.binOp .lss 3 (.tmp 24) (.tmp 23) 3)))⟩])
 (.seq (.cond (.tmp 25) .skip
 (.exit 2 (some [1, 5, 7, 15, 16, 17])))
 (.seq (.block 3 (.seq (.reg (some [1, 5, 7, 8, 9, 15, 16, 17, 23, 24]) [⟨(some 26), none, (.op false (.old (.move (.tmp 24))))⟩, ⟨(some 10), none, (.op false (.old (.assign (.tmp 26))))⟩])
 (.seq (.draw (some [1, 5, 7, 8, 9, 10, 15, 16, 17, 23, 24]) 20 [⟨⟨(some 27), none, (.op false (.old (.move (.tmp 1))))⟩, 0, .none, [8, 9, 17, 18, 19], false, true⟩, ⟨⟨(some 28), none, (.op false (.old (.move (.tmp 8))))⟩, 1, .none, [4, 6, 7, 8, 9, 17, 18, 19], false, true⟩, ⟨⟨(some 29), none, (.op false (.fieldAddr 1 (.tmp 5)))⟩, 2, .none, [3, 4, 6, 7, 8, 9, 17, 18, 19], false, true⟩, ⟨⟨(some 30), none, (.op false (.load1 (.int .i64) (.tmp 29)))⟩, 3, (.blk (.tmp 29)), [4, 6, 7, 8, 9, 17, 18, 19], false, true⟩, ⟨⟨(some 31), none, (.op false (.old (.binOp .sub 3 (.tmp 28) (.tmp 30) 3)))⟩, 4, .none, [6, 7, 8, 9, 17, 18, 19], false, true⟩, ⟨⟨(some 32), none, (.op false (.old (.move (.tmp 7))))⟩, 5, .none, [6, 7, 8, 9, 17, 18, 19], false, true⟩, ⟨⟨(some 33), none, (.op false (.old (.binOp .add 3 (.tmp 31) (.tmp 32) 3)))⟩, 6, .none, [7, 8, 9, 17, 18, 19], false, true⟩, ⟨⟨(some 34), none, (.op false (.old (.binOp .sub 3 (.tmp 33) (.const (.int .i64 1)) 3)))⟩, 7, .none, [8, 9, 17, 18, 19], false, true⟩, ⟨⟨(some 35), none, (.op false (.ixS 1 (.tmp 27) (.tmp 34)))⟩, 8, .none, [9, 17, 18, 19], false, true⟩, ⟨⟨(some 36), none, (.op false (.load1 .slice (.tmp 35)))⟩, 9, (.blk (.tmp 35)), [17, 18, 19], false, true⟩, ⟨⟨(some 37), none, (.op false (.old (.move (.tmp 10))))⟩, 10, .none, [13, 15, 16, 17, 18, 19], false, true⟩, ⟨⟨(some 38), none, (.op false (.fieldAddr 0 (.tmp 5)))⟩, 11, .none, [12, 13, 15, 16, 17, 18, 19], false, true⟩, ⟨⟨(some 39), none, (.op false (.load1 (.int .i64) (.tmp 38)))⟩, 12, (.blk (.tmp 38)), [13, 15, 16, 17, 18, 19], false, true⟩, ⟨⟨(some 40), none, (.op false (.old (.binOp .sub 3 (.tmp 37) (.tmp 39) 3)))⟩, 13, .none, [15, 16, 17, 18, 19], false, true⟩, ⟨⟨(some 41), none, (.op false (.old (.move (.tmp 7))))⟩, 14, .none, [15, 16, 17, 18, 19], false, true⟩, ⟨⟨(some 42), none, (.op false (.old (.binOp .add 3 (.tmp 40) (.tmp 41) 3)))⟩, 15, .none, [16, 17, 18, 19], false, true⟩, ⟨⟨(some 43), none, (.op false (.old (.binOp .sub 3 (.tmp 42) (.const (.int .i64 1)) 3)))⟩, 16, .none, [17, 18, 19], false, true⟩, ⟨⟨(some 44), none, (.op false (.ixS 1 (.tmp 36) (.tmp 43)))⟩, 17, .none, [18, 19], false, true⟩, ⟨⟨(some 45), none, (.op false (.load1 (.int .i64) (.tmp 44)))⟩, 18, (.blk (.tmp 44)), [19], false, true⟩, ⟨⟨(some 11), none, (.op false (.old (.assign (.tmp 45))))⟩, 19, .none, [], false, true⟩])
 (.seq (.draw (some [1, 5, 7, 8, 9, 10, 11, 15, 16, 17, 23, 24]) 10 [⟨⟨(some 46), none, (.op false (.old (.move (.tmp 9))))⟩, 0, .none, [2, 3, 8, 9], false, true⟩, ⟨⟨(some 47), none, (.op false (.old (.move (.tmp 10))))⟩, 1, .none, [2, 3, 8, 9], false, true⟩, ⟨⟨(some 48), none, (.op false (.ixS 1 (.tmp 46) (.tmp 47)))⟩, 2, .none, [3, 8, 9], false, true⟩, ⟨⟨(some 49), none, (.op false (.load1 (.int .i64) (.tmp 48)))⟩, 3, (.blk (.tmp 48)), [8, 9], false, true⟩, ⟨⟨(some 50), none, (.op false (.fieldAddr 2 (.tmp 5)))⟩, 4, .none, [5, 7, 8, 9], false, true⟩, ⟨⟨(some 51), none, (.op false (.load1 (.int .i64) (.tmp 50)))⟩, 5, (.blk (.tmp 50)), [7, 8, 9], false, true⟩, ⟨⟨(some 52), none, (.op false (.old (.move (.tmp 11))))⟩, 6, .none, [7, 8, 9], false, true⟩, ⟨⟨(some 53), none, (.op false (.old (.binOp .mul 2 (.tmp 51) (.tmp 52) 2)))⟩, 7, .none, [8, 9], false, true⟩, ⟨⟨(some 54), none, (.op false (.old (.binOp .sub 2 (.tmp 49) (.tmp 53) 2)))⟩, 8, .none, [9], false, true⟩, ⟨⟨(some 12), none, (.op false (.old (.assign (.tmp 54))))⟩, 9, .none, [], false, true⟩])
 (.seq (.seq (.reg (some [1, 5, 7, 8, 9, 10, 12, 15, 16, 17, 23, 24]) [⟨(some 55), none, (.op false (.old (.move (.tmp 12))))⟩, ⟨(some 56), none, (.call (.func 48) [(.tmp 55)] (some (.val (.one .bool))))⟩, ⟨(some 57), none, (.op false (.old (.unOp .not 4 (.tmp 56))))⟩])
 (.cond (.tmp 57) (.seq (.reg (some []) [⟨(some 6), none, (.op false (.old (.assign (.const (.bool false)))))⟩])
 .ret)
 .skip))
 (.reg (some [1, 5, 7, 8, 9, 10, 12, 15, 16, 17, 23, 24]) [⟨(some 58), none, (.op false (.old (.move (.tmp 9))))⟩, ⟨(some 59), none, (.op false (.old (.move (.tmp 10))))⟩, ⟨(some 60), none, (.op false (.old (.move (.tmp 12))))⟩, ⟨(some 61), none, (.op false (.ixS 1 (.tmp 58) (.tmp 59)))⟩, ⟨none, none, (.op false (.store 1 (.tmp 61) (.tmp 60)))⟩]))))))
 (.reg (some [1, 5, 7, 8, 9, 15, 16, 17, 23, 24]) [⟨(some 62), none, (.op false (.old (.binOp .add 3 (.tmp 24) (.const (.int .i64 1)) 3)))⟩, ⟨(some 24), none, (.op false (.old (.move (.tmp 62))))⟩]))))⟩)],
 []⟩
theorem r41_ok : resFun (progU ()) hint live 41 Try.f41 = some r41 := by kernel_rfl
/-- clean.cells -/
def r42 : RFun :=
⟨(.seq (.reg (some [0, 1]) [⟨(some 4), none, (.op false (.old (.assign (.const (.slice none 0 0)))))⟩, ⟨(some 5), none, (.op false (.old (.assign (.const (.int .i64 0)))))⟩])
 (.seq (.reg (some [0, 1]) [⟨(some 10), none, (.op false (.old (.move (.tmp 0))))⟩, ⟨(some 11), none, (.op false (.mkSlice 1 [(.slice none 0 0)] (.tmp 10) (.tmp 10)))⟩, ⟨(some 6), none, (.op false (.old (.assign (.tmp 11))))⟩])
 (.seq (.seq (.reg (some [0, 1, 6]) [⟨(some 12), none, (.op false (.old (.move (.tmp 6))))⟩, ⟨(some 13), none, (.op false (.lenS (.tmp 12)))⟩, ⟨(some 14), none, (.op false (.old (.move (.const (.int .i64 0)))))⟩])
 (.block 0 (.loop 3 none (some [0, 1, 6, 13, 14]))))
 (.seq (.reg (some [6]) [⟨(some 46), none, (.op false (.old (.move (.tmp 6))))⟩, ⟨(some 4), none, (.op false (.old (.assign (.tmp 46))))⟩, ⟨(some 5), none, (.op false (.old (.assign (.const (.int .i64 0)))))⟩])
 .ret)))),
 [(.tmp 4), (.tmp 5)],
 [(3, ⟨none, (some [0, 1, 6, 13, 14]), (.seq (.reg (some [0, 1, 6, 13, 14]) [⟨(some 15), none, (.op false (.old (.binOp .lss 3 (.tmp 14) (.tmp 13) 3)))⟩])
 (.seq (.cond (.tmp 15) .skip
 (.exit 0 (some [6])))
 (.seq (.block 1 (.seq (.reg (some [0, 1, 6, 13, 14]) [⟨(some 16), none, (.op false (.old (.move (.tmp 14))))⟩, ⟨(some 7), none, (.op false (.old (.assign (.tmp 16))))⟩])
 (.seq (.reg (some [0, 1, 6, 7, 13, 14]) [⟨(some 17), none, (.op false (.old (.move (.tmp 6))))⟩, ⟨(some 18), none, (.op false (.old (.move (.tmp 7))))⟩, ⟨(some 19), none, (.op false (.old (.move (.tmp 0))))⟩, ⟨(some 20), none, (.op false (.mkSlice 1 [(.int .i64 0)] (.tmp 19) (.tmp 19)))⟩, ⟨(some 21), none, (.op false (.ixS 1 (.tmp 17) (.tmp 18)))⟩, ⟨none, none, (.op false (.store 1 (.tmp 21) (.tmp 20)))⟩])
 (.seq (.reg (some [0, 1, 6, 7, 13, 14]) [⟨(some 22), none, (.op false (.old (.move (.tmp 6))))⟩, ⟨(some 23), none, (.op false (.old (.move (.tmp 7))))⟩, ⟨(some 24), none, (.op false (.ixS 1 (.tmp 22) (.tmp 23)))⟩, ⟨(some 25), none, (.op false (.load1 .slice (.tmp 24)))⟩, ⟨(some 26), none, (.op false (.lenS (.tmp 25)))⟩, ⟨(some 27), none, (.op false (.old (.move (.const (.int .i64 0)))))⟩])
 (.block 2 (.loop 7 none (some [0, 1, 6, 7, 13, 14, 26, 27])))))))
 (.reg (some [0, 1, 6, 13, 14]) [⟨(some 45), none, (.op false (.old (.binOp .add 3 (.tmp 14) (.const (.int .i64 1)) 3)))⟩, ⟨(some 14), none, (.op false (.old (.move (.tmp 45))))⟩]))))⟩), (7, ⟨none, (some [0, 1, 6, 7, 13, 14, 26, 27]), (.seq (.reg (some [0, 1, 6, 7, 13, 14, 26, 27]) [⟨(some 28), none, (.op false (.old (.binOp .lss 3 (.tmp 27) (.tmp 26) 3)))⟩])
 (.seq (.cond (.tmp 28) .skip
 (.exit 2 (some [0, 1, 6, 13, 14])))
 (.seq (.block 3 (.seq (.reg (some [0, 1, 6, 7, 13, 14, 26, 27]) [⟨(some 29), none, (.op false (.old (.move (.tmp 27))))⟩, ⟨(some 8), none, (.op false (.old (.assign (.tmp 29))))⟩])
 (.seq (.reg (some [0, 1, 6, 7, 8, 13, 14, 26, 27]) [⟨(some 30), none, (.op false (.old (.move (.tmp 1))))⟩, ⟨(some 31), none, (.op false (.old (.move (.tmp 8))))⟩, ⟨(some 32), none, (.op false (.old (.move (.tmp 7))))⟩, ⟨(some 33), none, (.call (.tmp 30) [(.tmp 31), (.tmp 32)] (some (.val (.one (.int .i64)))))⟩, ⟨(some 9), none, (.op false (.old (.assign (.tmp 33))))⟩])
 (.seq (.seq (.reg (some [0, 1, 6, 7, 8, 9, 13, 14, 26, 27]) [⟨(some 34), none, (.op false (.old (.move (.tmp 9))))⟩, ⟨(some 35), none, (.call (.func 48) [(.tmp 34)] (some (.val (.one .bool))))⟩, ⟨(some 36), none, (.op false (.old (.unOp .not 4 (.tmp 35))))⟩])
 (.cond (.tmp 36) (.seq (.reg (some []) [⟨(some 4), none, (.op false (.old (.assign (.const (.slice none 0 0)))))⟩, ⟨(some 5), none, (.op false (.old (.assign (.const (.int .i64 16)))))⟩])
 .ret)
 .skip))
 (.reg (some [0, 1, 6, 7, 8, 9, 13, 14, 26, 27]) [⟨(some 37), none, (.op false (.old (.move (.tmp 6))))⟩, ⟨(some 38), none, (.op false (.old (.move (.tmp 7))))⟩, ⟨(some 39), none, (.op false (.ixS 1 (.tmp 37) (.tmp 38)))⟩, ⟨(some 40), none, (.op false (.load1 .slice (.tmp 39)))⟩, ⟨(some 41), none, (.op false (.old (.move (.tmp 8))))⟩, ⟨(some 42), none, (.op false (.old (.move (.tmp 9))))⟩, ⟨(some 43), none, (.op false (.ixS 1 (.tmp 40) (.tmp 41)))⟩, ⟨none, none, (.op false (.store 1 (.tmp 43) (.tmp 42)))⟩])))))
 (.reg (some [0, 1, 6, 7, 13, 14, 26, 27]) [⟨(some 44), none, (.op false (.old (.binOp .add 3 (.tmp 27) (.const (.int .i64 1)) 3)))⟩, ⟨(some 27), none, (.op false (.old (.move (.tmp 44))))⟩]))))⟩)],
 []⟩
theorem r42_ok : resFun (progU ()) hint live 42 Try.f42 = some r42 := by kernel_rfl
/-- clean.Model$1 -/
def r43 : RFun :=
⟨(.seq (.reg (some [0, 1, 2]) [⟨(some 5), none, (.op false (.old (.assign (.const (.int .i64 0)))))⟩])
 (.seq (.reg (some [0, 1, 2]) [⟨(some 6), none, (.op false (.old (.move (.tmp 1))))⟩, ⟨(some 7), none, (.op false (.old (.move (.tmp 0))))⟩, ⟨(some 8), none, (.op false (.ixA 8 8 (.tmp 2) (.tmp 6)))⟩, ⟨(some 9), none, (.op false (.ixA 8 1 (.tmp 8) (.tmp 7)))⟩, ⟨(some 10), none, (.op false (.load1 (.int .i64) (.tmp 9)))⟩, ⟨(some 5), none, (.op false (.old (.assign (.tmp 10))))⟩])
 .ret)),
 [(.tmp 5)],
 [],
 []⟩
theorem r43_ok : resFun (progU ()) hint live 43 Try.f43 = some r43 := by kernel_rfl
/-- fringeref40.Blank -/
def r44 : RFun :=
⟨(.seq (.reg (some [0]) [⟨(some 2), none, (.op false (.old (.assign (.const (.slice none 0 0)))))⟩])
 (.seq (.reg (some [0]) [⟨(some 3), none, (.op false (.old (.assign (.const (.slice none 0 0)))))⟩])
 (.seq (.seq (.reg (some [0, 3]) [⟨(some 4), none, (.op false (.old (.assign (.const (.int .i64 0)))))⟩])
 (.block 0 (.loop 3 none (some [0, 3, 4]))))
 (.seq (.reg (some [3]) [⟨(some 15), none, (.op false (.old (.move (.tmp 3))))⟩, ⟨(some 2), none, (.op false (.old (.assign (.tmp 15))))⟩])
 .ret)))),
 [(.tmp 2)],
 [(3, ⟨none, (some [0, 3, 4]), (.seq (.seq (.reg (some [0, 3, 4]) [⟨(some 5), none, (.op false (.old (.move (.tmp 4))))⟩, ⟨(some 6), none, (.op false (.old (.move (.tmp 0))))⟩, ⟨(some 7), none, (.op false (.old (.binOp .lss 3 (.tmp 5) (.tmp 6) 3)))⟩])
 (.cond (.tmp 7) .skip
 (.exit 0 (some [3]))))
 (.seq (.block 1 (.reg (some [0, 3, 4]) [⟨(some 10), none, (.op false (.old (.move (.tmp 3))))⟩, ⟨(some 11), none, (.op false (.old (.move (.tmp 0))))⟩, ⟨(some 12), none, (.op false (.mkSlice 1 [(.int .i64 0)] (.tmp 11) (.tmp 11)))⟩, ⟨(some 13), none, (.op false (.buildSlice 1 1 [(.slice none 0 0)] [(0, 1, (.tmp 12))]))⟩, ⟨(some 14), none, (.op false (.old (.call ⟨.builtin .append, #[(.tmp 10), (.tmp 13)], #[22, 22]⟩)))⟩, ⟨(some 3), none, (.op false (.old (.assign (.tmp 14))))⟩]))
 (.reg (some [0, 3, 4]) [⟨(some 8), none, (.op false (.old (.move (.tmp 4))))⟩, ⟨(some 9), none, (.op false (.old (.binOp .add 3 (.tmp 8) (.const (.int .i64 1)) 3)))⟩, ⟨(some 4), none, (.op false (.old (.assign (.tmp 9))))⟩])))⟩)],
 []⟩
theorem r44_ok : resFun (progU ()) hint live 44 Try.f44 = some r44 := by kernel_rfl
/-- clean.Spread$1 -/
def r45 : RFun :=
⟨(.seq (.reg (some [0, 1, 2, 3, 4]) [⟨(some 7), none, (.op false (.old (.assign (.const (.int .i64 0)))))⟩])
 (.seq (.reg (some [0, 1, 2, 3, 4]) [⟨(some 8), none, (.op false (.old (.assign (.const (.int .i64 0)))))⟩])
 (.seq (.seq (.reg (some [0, 1, 2, 3, 4, 8]) [⟨(some 13), none, (.op false (.load1 .slice (.tmp 2)))⟩, ⟨(some 14), none, (.op false (.lenS (.tmp 13)))⟩, ⟨(some 15), none, (.op false (.old (.move (.const (.int .i64 0)))))⟩])
 (.block 0 (.loop 3 (some [0, 1, 3, 4, 8, 13, 14, 15]) (some [0, 1, 3, 4, 8, 13, 14, 15]))))
 (.seq (.reg (some [8]) [⟨(some 50), none, (.op false (.old (.move (.tmp 8))))⟩, ⟨(some 7), none, (.op false (.old (.assign (.tmp 50))))⟩])
 .ret)))),
 [(.tmp 7)],
 [(3, ⟨(some [0, 1, 3, 4, 8, 13, 14, 15]), (some [0, 1, 3, 4, 8, 13, 14, 15]), (.seq (.reg (some [0, 1, 3, 4, 8, 13, 14, 15]) [⟨(some 16), none, (.op false (.old (.binOp .lss 3 (.tmp 15) (.tmp 14) 3)))⟩])
 (.seq (.cond (.tmp 16) .skip
 (.exit 0 (some [8])))
 (.seq (.block 1 (.seq (.reg (some [0, 1, 3, 4, 8, 13, 14, 15]) [⟨(some 17), none, (.op false (.old (.move (.tmp 15))))⟩, ⟨(some 18), none, (.op false (.ixS 1 (.tmp 13) (.tmp 15)))⟩, ⟨(some 19), none, (.op false (.load1 .slice (.tmp 18)))⟩, ⟨(some 9), none, (.op false (.old (.assign (.tmp 17))))⟩, ⟨(some 10), none, (.op false (.old (.assign (.tmp 19))))⟩])
 (.seq (.reg (some [0, 1, 3, 4, 8, 9, 10, 13, 14, 15]) [⟨(some 20), none, (.op false (.old (.move (.tmp 10))))⟩, ⟨(some 21), none, (.op false (.lenS (.tmp 20)))⟩, ⟨(some 22), none, (.op false (.old (.move (.const (.int .i64 0)))))⟩])
 (.block 2 (.loop 6 (some [0, 1, 3, 4, 8, 9, 13, 14, 15, 20, 21, 22]) (some [0, 1, 3, 4, 8, 9, 13, 14, 15, 20, 21, 22]))))))
 (.reg (some [0, 1, 3, 4, 8, 13, 14, 15]) [⟨(some 49), none, (.op false (.old (.binOp .add 3 (.tmp 15) (.const (.int .i64 1)) 3)))⟩, ⟨(some 15), none, (.op false (.old (.move (.tmp 49))))⟩]))))⟩), (6, ⟨(some [0, 1, 3, 4, 8, 9, 13, 14, 15, 20, 21, 22]), (some [0, 1, 3, 4, 8, 9, 13, 14, 15, 20, 21, 22]), (.seq (.reg (some [0, 1, 3, 4, 8, 9, 13, 14, 15, 20, 21, 22]) [⟨(some 23), none, (.op false (.old (.binOp .lss 3 (.tmp 22) (.tmp 21) 3)))⟩])
 (.seq (.cond (.tmp 23) .skip
 (.exit 2 (some [0, 1, 3, 4, 8, 13, 14, 15])))
 (.seq (.block 3 (.seq (.reg (some [0, 1, 3, 4, 8, 9, 13, 14, 15, 20, 21, 22]) [⟨(some 24), none, (.op false (.old (.move (.tmp 22))))⟩, ⟨(some 25), none, (.op false (.ixS 1 (.tmp 20) (.tmp 22)))⟩, ⟨(some 26), none, (.op false (.load1 (.int .i64) (.tmp 25)))⟩, ⟨(some 11), none, (.op false (.old (.assign (.tmp 24))))⟩, ⟨(some 12), none, (.op false (.old (.assign (.tmp 26))))⟩])
 (.draw (some [0, 1, 3, 4, 8, 9, 11, 12, 13, 14, 15, 20, 21, 22]) 22 [⟨⟨(some 27), none, (.op false (.old (.move (.tmp 8))))⟩, 0, .none, [20, 21], false, true⟩, ⟨⟨(some 28), none, (.op false (.old (.move (.tmp 12))))⟩, 1, .none, [19, 20, 21], false, true⟩, ⟨⟨(some 29), none, (.op false (.load1 .slice (.tmp 3)))⟩, 2, (.blk (.tmp 3)), [9, 10, 17, 18, 19, 20, 21], false, true⟩, ⟨⟨(some 30), none, (.op false (.old (.move (.tmp 1))))⟩, 3, .none, [5, 7, 8, 9, 10, 17, 18, 19, 20, 21], false, true⟩, ⟨⟨(some 31), none, (.op false (.old (.move (.tmp 9))))⟩, 4, .none, [5, 7, 8, 9, 10, 17, 18, 19, 20, 21], false, true⟩, ⟨⟨(some 32), none, (.op false (.old (.binOp .sub 3 (.tmp 30) (.tmp 31) 3)))⟩, 5, .none, [7, 8, 9, 10, 17, 18, 19, 20, 21], false, true⟩, ⟨⟨(some 33), none, (.op false (.load1 (.int .i64) (.tmp 4)))⟩, 6, (.blk (.tmp 4)), [7, 8, 9, 10, 17, 18, 19, 20, 21], false, true⟩, ⟨⟨(some 34), none, (.op false (.old (.binOp .add 3 (.tmp 32) (.tmp 33) 3)))⟩, 7, .none, [8, 9, 10, 17, 18, 19, 20, 21], false, true⟩, ⟨⟨(some 35), none, (.op false (.old (.binOp .sub 3 (.tmp 34) (.const (.int .i64 1)) 3)))⟩, 8, .none, [9, 10, 17, 18, 19, 20, 21], false, true⟩, ⟨⟨(some 36), none, (.op false (.ixS 1 (.tmp 29) (.tmp 35)))⟩, 9, .none, [10, 17, 18, 19, 20, 21], false, true⟩, ⟨⟨(some 37), none, (.op false (.load1 .slice (.tmp 36)))⟩, 10, (.blk (.tmp 36)), [17, 18, 19, 20, 21], false, true⟩, ⟨⟨(some 38), none, (.op false (.old (.move (.tmp 0))))⟩, 11, .none, [13, 15, 16, 17, 18, 19, 20, 21], false, true⟩, ⟨⟨(some 39), none, (.op false (.old (.move (.tmp 11))))⟩, 12, .none, [13, 15, 16, 17, 18, 19, 20, 21], false, true⟩, ⟨⟨(some 40), none, (.op false (.old (.binOp .sub 3 (.tmp 38) (.tmp 39) 3)))⟩, 13, .none, [15, 16, 17, 18, 19, 20, 21], false, true⟩, ⟨⟨(some 41), none, (.op false (.load1 (.int .i64) (.tmp 4)))⟩, 14, (.blk (.tmp 4)), [15, 16, 17, 18, 19, 20, 21], false, true⟩, ⟨⟨(some 42), none, (.op false (.old (.binOp .add 3 (.tmp 40) (.tmp 41) 3)))⟩, 15, .none, [16, 17, 18, 19, 20, 21], false, true⟩, ⟨⟨(some 43), none, (.op false (.old (.binOp .sub 3 (.tmp 42) (.const (.int .i64 1)) 3)))⟩, 16, .none, [17, 18, 19, 20, 21], false, true⟩, ⟨⟨(some 44), none, (.op false (.ixS 1 (.tmp 37) (.tmp 43)))⟩, 17, .none, [18, 19, 20, 21], false, true⟩, ⟨⟨(some 45), none, (.op false (.load1 (.int .i64) (.tmp 44)))⟩, 18, (.blk (.tmp 44)), [19, 20, 21], false, true⟩, ⟨⟨(some 46), none, (.op false (.old (.binOp .mul 2 (.tmp 28) (.tmp 45) 2)))⟩, 19, .none, [20, 21], false, true⟩, ⟨⟨(some 47), none, (.op false (.old (.binOp .add 2 (.tmp 27) (.tmp 46) 2)))⟩, 20, .none, [21], false, true⟩, ⟨⟨(some 8), none, (.op false (.old (.assign (.tmp 47))))⟩, 21, .none, [], false, true⟩])))
 (.reg (some [0, 1, 3, 4, 8, 9, 13, 14, 15, 20, 21, 22]) [⟨(some 48), none, (.op false (.old (.binOp .add 3 (.tmp 22) (.const (.int .i64 1)) 3)))⟩, ⟨(some 22), none, (.op false (.old (.move (.tmp 48))))⟩]))))⟩)],
 []⟩
theorem r45_ok : resFun (progU ()) hint live 45 Try.f45 = some r45 := by kernel_rfl
/-- clean.steps$1 -/
def r46 : RFun :=
⟨(.seq (.reg (some [0, 1, 2, 3]) [⟨(some 12), none, (.op false (.load1 .slice (.tmp 1)))⟩, ⟨(some 13), none, (.op false (.lenS (.tmp 12)))⟩, ⟨(some 5), none, (.op false (.old (.assign (.tmp 13))))⟩])
 (.seq (.reg (some [0, 1, 2, 3, 5]) [⟨(some 14), none, (.op false (.load1 .slice (.tmp 2)))⟩, ⟨(some 15), none, (.op false (.old (.move (.tmp 5))))⟩, ⟨(some 16), none, (.op false (.old (.binOp .sub 3 (.tmp 15) (.const (.int .i64 1)) 3)))⟩, ⟨(some 17), none, (.op false (.ixS 1 (.tmp 14) (.tmp 16)))⟩, ⟨(some 18), none, (.op false (.load1 .slice (.tmp 17)))⟩, ⟨(some 19), none, (.op false (.old (.move (.tmp 5))))⟩, ⟨(some 20), none, (.op false (.old (.binOp .sub 3 (.tmp 19) (.const (.int .i64 1)) 3)))⟩, ⟨(some 21), none, (.op false (.ixS 1 (.tmp 18) (.tmp 20)))⟩, ⟨(some 22), none, (.op false (.load1 (.int .i64) (.tmp 21)))⟩, ⟨(some 6), none, (.op false (.old (.assign (.tmp 22))))⟩])
 (.seq (.reg (some [0, 1, 2, 3, 6]) [⟨(some 23), none, (.op false (.fieldAddr 3 (.tmp 3)))⟩, ⟨(some 24), none, (.op false (.load1 (.int .i64) (.tmp 23)))⟩, ⟨(some 25), none, (.op false (.old (.move (.const (.int .i64 0)))))⟩])
 (.block 0 (.loop 3 (some [0, 1, 2, 3, 6, 24, 25]) (some [0, 1, 2, 3, 6, 24, 25])))))),
 [],
 [(3, ⟨(some [0, 1, 2, 3, 6, 24, 25]), (some [0, 1, 2, 3, 6, 24, 25]), (.seq (.reg (some [0, 1, 2, 3, 6, 24, 25]) [⟨(some 26), none, (.op false (.old (.binOp .lss 3 (.tmp 25) (.tmp 24) 3)))⟩])
 (.seq (.cond (.tmp 26) .skip
 (.exit 0 (some [])))
 (.seq (.block 1 (.seq (.reg (some [0, 1, 2, 3, 6, 24, 25]) [⟨(some 28), none, (.op false (.load1 .slice (.tmp 1)))⟩, ⟨(some 29), none, (.call (.func 36) [(.tmp 28)] (some (.tup [(.one (.int .i64)), (.one (.int .i64)), (.one (.int .i64))])))⟩, ⟨(some 27), none, (.op false (.old (.move (.tmp 29))))⟩, ⟨(some 30), none, (.op false (.old (.extract (.tmp 27) 0)))⟩, ⟨(some 31), none, (.op false (.old (.extract (.tmp 27) 1)))⟩, ⟨(some 32), none, (.op false (.old (.extract (.tmp 27) 2)))⟩, ⟨(some 7), none, (.op false (.old (.assign (.tmp 30))))⟩, ⟨(some 8), none, (.op false (.old (.assign (.tmp 31))))⟩, ⟨(some 9), none, (.op false (.old (.assign (.tmp 32))))⟩])
 (.seq (.seq (.reg (some [0, 1, 2, 3, 6, 7, 8, 9, 24, 25]) [⟨(some 33), none, (.op false (.old (.move (.tmp 9))))⟩, ⟨(some 34), none, (.op false (.fieldAddr 2 (.tmp 3)))⟩, ⟨(some 35), none, (.op false (.load1 (.int .i64) (.tmp 34)))⟩, ⟨(some 36), none, (.op false (.old (.binOp .lss 3 (.tmp 33) (.tmp 35) 3)))⟩])
 (.cond (.tmp 36) .ret
 .skip))
 (.seq (.reg (some [0, 1, 2, 3, 6, 7, 8, 9, 24, 25]) [⟨(some 37), none, (.op false (.old (.move (.tmp 9))))⟩, ⟨(some 38), none, (.op false (.fieldAddr 0 (.tmp 3)))⟩, ⟨(some 39), none, (.op false (.load1 (.int .i64) (.tmp 38)))⟩, ⟨(some 40), none, (.op false (.old (.binOp .mul 2 (.tmp 37) (.tmp 39) 2)))⟩, ⟨(some 41), none, (.op false (.fieldAddr 1 (.tmp 3)))⟩, ⟨(some 42), none, (.op false (.load1 (.int .i64) (.tmp 41)))⟩, ⟨(some 43), none, (.op false (.old (.move (.tmp 6))))⟩, ⟨(some 44), none, (.op false (.old (.binOp .mul 2 (.tmp 42) (.tmp 43) 2)))⟩, ⟨(some 45), none, (.op false (.old (.binOp .quo 2 (.tmp 40) (.tmp 44) 2)))⟩, ⟨(some 10), none, (.op false (.old (.assign (.tmp 45))))⟩])
 (.seq (.seq (.reg (some [0, 1, 2, 3, 6, 7, 8, 10, 24, 25]) [⟨(some 46), none, (.op false (.old (.move (.tmp 10))))⟩, ⟨(some 47), none, (.op false (.old (.binOp .eql 2 (.tmp 46) (.const (.int .i64 0)) 2)))⟩])
 (.cond (.tmp 47) .ret
 .skip))
 (.seq (.reg (some [0, 1, 2, 3, 6, 7, 8, 10, 24, 25]) [⟨(some 48), none, (.op false (.old (.move (.tmp 7))))⟩, ⟨(some 49), none, (.op false (.old (.move (.tmp 8))))⟩, ⟨(some 50), none, (.op false (.old (.move (.tmp 10))))⟩, ⟨(some 51), none, (.op false (.build [(.int .i64 0), (.int .i64 0), (.int .i64 0)] [(0, 1, (.tmp 48)), (1, 1, (.tmp 49)), (2, 1, (.tmp 50))]))⟩, ⟨(some 11), none, (.op true (.new 3 [(.int .i64 0), (.int .i64 0), (.int .i64 0)]))⟩, ⟨none, none, (.op false (.store 3 (.tmp 11) (.tmp 51)))⟩])
 (.seq (.draw (some [0, 1, 2, 3, 6, 11, 24, 25]) 8 [⟨⟨(some 52), none, (.op false (.old (.move (.tmp 0))))⟩, 0, .none, [6, 7], false, true⟩, ⟨⟨(some 53), none, (.op false (.load 3 [(.int .i64), (.int .i64), (.int .i64)] (.tmp 11)))⟩, 1, (.blk (.tmp 11)), [6, 7], false, true⟩, ⟨⟨(some 54), none, (.op false (.load1 .slice (.tmp 1)))⟩, 2, (.blk (.tmp 1)), [5, 6, 7], false, true⟩, ⟨⟨(some 55), none, (.op false (.load1 .slice (.tmp 2)))⟩, 3, (.blk (.tmp 2)), [5, 6, 7], false, true⟩, ⟨⟨(some 56), none, (.op false (.load 3 [(.int .i64), (.int .i64), (.int .i64)] (.tmp 11)))⟩, 4, (.blk (.tmp 11)), [5, 6, 7], false, true⟩, ⟨⟨(some 57), none, (.call (.func 41) [(.tmp 54), (.tmp 55), (.tmp 56)] (some (.val (.one .bool))))⟩, 5, .all, [6, 7], false, false⟩, ⟨⟨(some 58), none, (.call (.tmp 52) [(.tmp 53), (.tmp 57)] (some (.val (.one .bool))))⟩, 6, .all, [7], false, false⟩, ⟨⟨(some 59), none, (.op false (.old (.unOp .not 4 (.tmp 58))))⟩, 7, .none, [], false, true⟩])
 (.cond (.tmp 59) .ret
 .skip))))))))
 (.reg (some [0, 1, 2, 3, 6, 24, 25]) [⟨(some 60), none, (.op false (.old (.binOp .add 3 (.tmp 25) (.const (.int .i64 1)) 3)))⟩, ⟨(some 25), none, (.op false (.old (.move (.tmp 60))))⟩]))))⟩)],
 []⟩
theorem r46_ok : resFun (progU ()) hint live 46 Try.f46 = some r46 := by kernel_rfl
/-- clean.isSquare -/
def r47 : RFun :=
⟨(.seq (.reg (some [0, 1, 2]) [⟨(some 6), none, (.op false (.old (.assign (.const (.bool false)))))⟩])
 (.seq (.seq (.reg (some [0, 1, 2]) [⟨(some 11), none, (.op false (.old (.move (.tmp 0))))⟩, ⟨(some 12), none, (.op false (.lenS (.tmp 11)))⟩, ⟨(some 13), none, (.op false (.old (.move (.tmp 1))))⟩, ⟨(some 14), none, (.op false (.old (.binOp .neq 3 (.tmp 12) (.tmp 13) 3)))⟩])
 (.cond (.tmp 14) (.seq (.reg (some []) [⟨(some 6), none, (.op false (.old (.assign (.const (.bool false)))))⟩])
 .ret)
 .skip))
 (.seq (.seq (.reg (some [0, 1, 2]) [⟨(some 15), none, (.op false (.old (.move (.tmp 0))))⟩, ⟨(some 16), none, (.op false (.lenS (.tmp 15)))⟩, ⟨(some 17), none, (.op false (.old (.move (.const (.int .i64 0)))))⟩])
 (.block 0 (.loop 4 none (some [1, 2, 15, 16, 17]))))
 (.seq (.reg (some []) [⟨(some 6), none, (.op false (.old (.assign (.const (.bool true)))))⟩])
 .ret)))),
 [(.tmp 6)],
 [(4, ⟨none, (some [1, 2, 15, 16, 17]), (.seq (.reg (some [1, 2, 15, 16, 17]) [⟨(some 18), none, (.op false (.old (.binOp .lss 3 (.tmp 17) (.tmp 16) 3)))⟩])
 (.seq (.cond (.tmp 18) .skip
 (.exit 0 (some [])))
 (.seq (.block 1 (.seq (.reg (some [1, 2, 15, 16, 17]) [⟨(some 19), none, (.op false (.ixS 1 (.tmp 15) (.tmp 17)))⟩, ⟨(some 20), none, (.op false (.load1 .slice (.tmp 19)))⟩, ⟨(some 8), none, (.op false (.old (.assign (.tmp 20))))⟩])
 (.seq (.seq (.reg (some [1, 2, 8, 15, 16, 17]) [⟨(some 21), none, (.op false (.old (.move (.tmp 8))))⟩, ⟨(some 22), none, (.op false (.lenS (.tmp 21)))⟩, ⟨(some 23), none, (.op false (.old (.move (.tmp 1))))⟩, ⟨(some 24), none, (.op false (.old (.binOp .neq 3 (.tmp 22) (.tmp 23) 3)))⟩])
 (.cond (.tmp 24) (.seq (.reg (some []) [⟨(some 6), none, (.op false (.old (.assign (.const (.bool false)))))⟩])
 .ret)
 .skip))
 (.seq (.reg (some [1, 2, 8, 15, 16, 17]) [⟨(some 25), none, (.op false (.old (.move (.tmp 8))))⟩, ⟨(some 26), none, (.op false (.lenS (.tmp 25)))⟩, ⟨(some 27), none, (.op false (.old (.move (.const (.int .i64 0)))))⟩])
 (.block 2 (.loop 9 none (some [1, 2, 15, 16, 17, 25, 26, 27])))))))
 (.reg (some [1, 2, 15, 16, 17]) [⟨(some 41), none, (.op false (.old (.binOp .add 3 (.tmp 17) (.const (.int .i64 1)) 3)))⟩, ⟨(some 17), none, (.op false (.old (.move (.tmp 41))))⟩]))))⟩), (9, ⟨none, (some [1, 2, 15, 16, 17, 25, 26, 27]), (.seq (.reg (some [1, 2, 15, 16, 17, 25, 26, 27]) [⟨(some 28), none, (.op false (.old (.binOp .lss 3 (.tmp 27) (.tmp 26) 3)))⟩])
 (.seq (.cond (.tmp 28) .skip
 (.exit 2 (some [1, 2, 15, 16, 17])))
 (.seq (.block 3 (.seq (.reg (some [1, 2, 15, 16, 17, 25, 26, 27]) [⟨(some 29), none, (.op false (.ixS 1 (.tmp 25) (.tmp 27)))⟩, ⟨(some 30), none, (.op false (.load1 (.int .i64) (.tmp 29)))⟩, ⟨(some 10), none, (.op false (.old (.assign (.tmp 30))))⟩])
 (.seq (.reg (some [1, 2, 10, 15, 16, 17, 25, 26, 27]) [⟨(some 31), none, (.op false (.old (.move (.tmp 10))))⟩, ⟨(some 32), none, (.op false (.old (.move (.tmp 2))))⟩, ⟨(some 33), none, (.op false (.old (.unOp .neg 3 (.tmp 32))))⟩, ⟨(some 34), none, (.op false (.old (.binOp .lss 3 (.tmp 31) (.tmp 33) 3)))⟩, ⟨(some 35), none, (.op false (.old (.move (.tmp 34))))⟩, ⟨(some 36), (some (35, false)), (.op false (.old (.move (.tmp 10))))⟩, ⟨(some 37), (some (35, false)), (.op false (.old (.move (.tmp 2))))⟩, ⟨(some 38), (some (35, false)), (.op false (.old (.binOp .gtr 3 (.tmp 36) (.tmp 37) 3)))⟩, ⟨(some 39), none, (.op false (.old (.pick (.tmp 35) (.const (.bool true)) (.tmp 38))))⟩])
 (.cond (.tmp 39) (.seq (.reg (some []) [⟨(some 6), none, (.op false (.old (.assign (.const (.bool false)))))⟩])
 .ret)
 .skip))))
 (.reg (some [1, 2, 15, 16, 17, 25, 26, 27]) [⟨(some 40), none, (.op false (.old (.binOp .add 3 (.tmp 27) (.const (.int .i64 1)) 3)))⟩, ⟨(some 27), none, (.op false (.old (.move (.tmp 40))))⟩]))))⟩)],
 []⟩
theorem r47_ok : resFun (progU ()) hint live 47 Try.f47 = some r47 := by kernel_rfl
/-- clean.inRange -/
def r48 : RFun :=
⟨(.seq (.reg (some [0]) [⟨(some 2), none, (.op false (.old (.assign (.const (.bool false)))))⟩])
 (.seq (.reg (some [0]) [⟨(some 3), none, (.op false (.old (.move (.tmp 0))))⟩, ⟨(some 4), none, (.op false (.old (.binOp .geq 2 (.tmp 3) (.const (.int .i64 (-1000000000))) 2)))⟩, ⟨(some 5), none, (.op false (.old (.move (.tmp 4))))⟩, ⟨(some 6), (some (5, true)), (.op false (.old (.move (.tmp 0))))⟩, ⟨(some 7), (some (5, true)), (.op false (.old (.binOp .leq 2 (.tmp 6) (.const (.int .i64 1000000000)) 2)))⟩, ⟨(some 8), none, (.op false (.old (.pick (.tmp 5) (.tmp 7) (.const (.bool false)))))⟩, ⟨(some 2), none, (.op false (.old (.assign (.tmp 8))))⟩])
 .ret)),
 [(.tmp 2)],
 [],
 []⟩
theorem r48_ok : resFun (progU ()) hint live 48 Try.f48 = some r48 := by kernel_rfl
end Go.Proofs.Ytogofeppflindaa
