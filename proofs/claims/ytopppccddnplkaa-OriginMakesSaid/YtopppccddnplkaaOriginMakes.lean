/- Proved: the statement OriginMakes: the function fringelaw44.OriginMakes, called with any arguments in any world, returns true and leaves what was there as it was. No conditions. -/
import Derived.Test.YtopppccddnplkaaRows
import Derived.Test.YtopppccddnplkaaOLawMakes
import Derived.Test.YtopppccddnplkaaOIn
import Derived.Test.YtopppccddnplkaaAlive
import Derived.WalkKit
import Derived.ProofKit
import Derived.OpenShut
import Derived.ChangeOld
import Derived.ChangeMaps5
import Derived.Below
namespace Go.Proofs.Ytopppccddnplkaa.originMakesDone
open Go.ChangeShapes Go.WideShapes Go.ChangeAt Go.RowKit Go.Sim
set_option linter.unusedVariables false

theorem own : ownKnob Try.prog.godebug = none := by kernel_rfl
theorem laidOut : laidOutB Try.prog = true := by kernel_rfl

set_option maxRecDepth 100000 in
theorem lifted (os : Os) (started : os.Started) (H : Type) (enc : TypeId × Value → H) :
    ReturnsInHanded {} Try.checked os 3 .any (Rows.originMakesSpec.pre6 enc Try.prog Try.f3 Rows.originMakesRow.domain false) (Rows.originMakesSpec.post enc Try.prog Try.f3 false true false false) := by
  refine returnsInHanded_of_change (C := Try.checked) own started (by kernel_rfl) Try.func3
    (ChangeSpec.witness6 (enc := enc) (C := Try.checked) false ⟨#[], #[.slice none 0 0, .string ⟨#[]⟩, .slice none 0 0], []⟩ 8 (by kernel_rfl) (by kernel_rfl) (by kernel_rfl) (by kernel_rfl)) ?_
  intro W base args ds gs before hval0 hW hcnd _
  have hval : ∀ (j : Nat) t v, Try.f3.params[j]? = some t → args[j]? = some v → Value.okWide Try.prog W .any base t v := hval0
  have hW' := hW
  obtain ⟨p, q, hA0, hV, rfl, hfz, hnd⟩ := hW
  have hA : DataW.TrodAll enc Try.prog W 0 (fun _ => true) true Try.f3.params.toList args.toList ds p := hA0
  rw [Try.params3] at hA hval
  obtain ⟨v0, vs0, d0, ds0, p0, q0, hargs, rfl, rfl, h0, r0⟩ := trodAll_cons hA
  obtain ⟨v1, vs1, d1, ds1, p1, q1, rfl, rfl, rfl, h1, r1⟩ := trodAll_cons r0
  obtain ⟨v2, vs2, d2, ds2, p2, q2, rfl, rfl, rfl, h2, r2⟩ := trodAll_cons r1
  obtain ⟨rfl, rfl, rfl⟩ := trodAll_nil r2
  obtain rfl : args = #[v0, v1, v2] := by cases args; simp_all
  obtain ⟨rfl, rfl⟩ := trodVars_none hV
  obtain ⟨h, hR, hlow, hnext, hm⟩ := world_ok W
  have k0 := h0
  have lt0 : ∀ x ∈ p0, x.block < W.heap.size := by obtain ⟨m, hm⟩ := k0; exact DataW.trod_lt m _ _ _ hm
  obtain ⟨fuel0, hf0⟩ := h0
  obtain ⟨a0, m0, c0, l0, rfl, rep0, cap0, ml0, hi0, ok0⟩ := recs_in hnext hm (hval 0 22 v0 rfl rfl) hf0
  obtain ⟨s1, rfl, rfl, rfl, wl1⟩ := ChangeMaps.open_string Try.underlying9 (hval 1 9 v1 rfl rfl) h1
  have k2 := h2
  have lt2 : ∀ x ∈ p2, x.block < W.heap.size := by obtain ⟨m, hm⟩ := k2; exact DataW.trod_lt m _ _ _ hm
  obtain ⟨fuel2, hf2⟩ := h2
  obtain ⟨a2, m2, c2, l2, rfl, rep2, ml2, hi2, ok2⟩ := byts_in hnext hm (hval 2 23 v2 rfl rfl) hf2
  clear hA0 hval0
  have hB : AOK progU hint prims (atomsOf Try.prog hint prims) := ⟨rfl, prims_keep⟩
  have walk : Calls Try.prog 3 #[.slice a0 m0 c0, .string s1, .slice a2 m2 c2] W fun e w' => e = .returned (.bool true) ∧ Below W.heap.size W w' := by
    refine law_calls2 mixed prims_ok prims_keep named Try.func3 (by kernel_rfl) (by decide) hR hlow hnext (args := [.slice a0 m0 c0, .string s1, .slice a2 m2 c2]) (repCs ?_) (makesLaw_ok hB (by omega) hi0 cap0 (by unfold maxLen at ml0; omega) ok0 hi2 ok2 (fun h' he => ⟨rfl, he⟩))
    simp only [List.all_cons, List.all_nil, Bool.and_eq_true, rep0, rep2]
    simp [repC, repV, flat1]
  refine walk.mono fun e W' ⟨he, bel⟩ => ?_
  subst he
  exact ⟨_, rfl, _, _, _, [], _, [], hW', trodAll_mk1 (shut_bool Try.underlying4 _), (trodAll_cons_mk (Below.trod laidOut (by kernel_rfl) (of_decide_eq_true (by kernel_rfl)) k0 bel lt0) (trodAll_cons_mk (ChangeMaps.shut_string Try.underlying9 wl1) (trodAll_cons_mk (Below.trod laidOut (by kernel_rfl) (of_decide_eq_true (by kernel_rfl)) k2 bel lt2) trodAll_mk0))), rfl, bel.frame _, fun h => by cases h⟩

theorem over : Rows.originMakesRow.holds Try.pinned (OpenSpec.ofChange Rows.originMakesSpec) :=
  OpenClaim.holds_of_wide 3 Try.f3 rfl rfl rfl rfl rfl rfl rfl ⟨rfl, rfl, rfl, rfl, rfl⟩ rfl rfl rfl rfl rfl (by kernel_rfl) Try.func3 (by kernel_rfl)
    (of_decide_eq_true (by kernel_rfl)) (by unfold Func.isWrapper; first | (rw [if_pos (by decide +kernel)]; kernel_rfl) | (rw [if_neg (by decide +kernel)]; exact ⟨rfl, rfl⟩))
    (fun os started H enc _ => lifted os started H enc)

theorem proved : Rows.OriginMakesSaid := over
end Go.Proofs.Ytopppccddnplkaa.originMakesDone
