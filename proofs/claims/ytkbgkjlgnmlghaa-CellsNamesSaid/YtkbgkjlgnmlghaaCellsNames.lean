/- Proved: the statement CellsNames: the function fringelaw36.CellsNames, called in any world, returns true and leaves what was there as it was. No conditions. -/
import Derived.Test.YtkbgkjlgnmlghaaRows
import Derived.Test.YtkbgkjlgnmlghaaCellsNamesRun
import Derived.WalkKit
import Derived.ProofKit
import Derived.OpenShut
import Derived.ChangeOld
import Derived.Below
namespace Go.Proofs.Ytkbgkjlgnmlghaa.cellsNamesDone
open Go.ChangeShapes Go.WideShapes Go.ChangeAt Go.RowKit Go.Sim
set_option linter.unusedVariables false

theorem own : ownKnob Try.prog.godebug = none := by kernel_rfl
theorem mixed : Try.prog.follows .mixedOrders = true := by kernel_rfl
theorem names : Try.prog.funcs.toList.all (fun fn => !(fn.name == "runtime.NumGoroutine")) = true := by kernel_rfl
theorem named (g : FuncId) (fn : Func) (h : Try.prog.funcs[g]? = some fn) : (fn.name == "runtime.NumGoroutine") = false := by
  have := List.all_eq_true.1 names fn (List.mem_of_getElem? (by simpa using h))
  simpa using this

theorem p76a : Try.f76.body.isNone = true := by kernel_rfl
theorem p76b : Extern.findNext Try.f76 = none := by kernel_rfl
theorem p76c : Extern.find Try.f76 = some add64Entry := by kernel_rfl
theorem q76 : CallOK Try.prog (withFn 76 add64F noPrims) := withFn_ok (add64_ok Try.func76 (named 76 _ Try.func76) p76a p76b p76c) noPrims_ok
theorem p78a : Try.f78.body.isNone = true := by kernel_rfl
theorem p78b : Extern.findNext Try.f78 = none := by kernel_rfl
theorem p78c : Extern.find Try.f78 = some sub64E := by kernel_rfl
theorem q78 : CallOK Try.prog (withFn 78 sub64F (withFn 76 add64F noPrims)) := withFn_ok (sub64_ok Try.func78 (named 78 _ Try.func78) p78a p78b p78c) q76

theorem walk (w : World) : Calls Try.prog 7 #[] w fun e w' => e = .returned (.bool true) ∧ Below w.heap.size w w' :=
  closed_law (execA_ok mixed q78 (withFn_keep (withFn_keep noPrims_keep)) named 20001).2.2.1 Try.func7 (by kernel_rfl) (named 7 _ Try.func7) cellsNamesRun w

set_option maxRecDepth 100000 in
theorem lifted (os : Os) (started : os.Started) (H : Type) (enc : TypeId × Value → H) :
    ReturnsInHanded {} Try.checked os 7 .any (Rows.cellsNamesSpec.pre6 enc Try.prog Try.f7 Rows.cellsNamesRow.domain false) (Rows.cellsNamesSpec.post enc Try.prog Try.f7 false true false false) := by
  refine returnsInHanded_of_change (C := Try.checked) own started (by kernel_rfl) Try.func7
    (ChangeSpec.witness6 (enc := enc) (C := Try.checked) false ⟨#[], #[], []⟩ 8 (by kernel_rfl) (by kernel_rfl) (by kernel_rfl) (by kernel_rfl)) ?_
  intro W base args ds gs before hval0 hW hcnd _
  have hW' := hW
  obtain ⟨p, q, hA0, hV, rfl, hfz, hnd⟩ := hW
  have hA : DataW.TrodAll enc Try.prog W 0 (fun _ => true) true Try.f7.params.toList args.toList ds p := hA0
  rw [Try.params7] at hA
  obtain ⟨hargs, rfl, rfl⟩ := trodAll_nil hA
  obtain rfl : args = #[] := by cases args; simp_all
  obtain ⟨rfl, rfl⟩ := trodVars_none hV
  clear hA0 hval0
  refine (walk W).mono fun e W' ⟨he, bel⟩ => ?_
  subst he
  exact ⟨_, rfl, _, _, _, [], _, [], hW', trodAll_mk1 (shut_bool Try.underlying4 _), trodAll_mk0, rfl, bel.frame _, fun h => by cases h⟩

theorem over : Rows.cellsNamesRow.holds Try.pinned (OpenSpec.ofChange Rows.cellsNamesSpec) :=
  OpenClaim.holds_of_wide 7 Try.f7 rfl rfl rfl rfl rfl rfl rfl ⟨rfl, rfl, rfl, rfl, rfl⟩ rfl rfl rfl rfl rfl (by kernel_rfl) Try.func7 (by kernel_rfl)
    (of_decide_eq_true (by kernel_rfl)) (by unfold Func.isWrapper; first | (rw [if_pos (by decide +kernel)]; kernel_rfl) | (rw [if_neg (by decide +kernel)]; exact ⟨rfl, rfl⟩))
    (fun os started H enc _ => lifted os started H enc)

theorem proved : Rows.CellsNamesSaid := over
end Go.Proofs.Ytkbgkjlgnmlghaa.cellsNamesDone
