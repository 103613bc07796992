/-
  FROM SYMBOLIC RUNS TO A LAW: the abstract heap of a world; a law's call in the model.
-/
import Derived.Test.YtlpnmdknlfmjaaaSymMem
namespace Go.Sim
open Go.RowKit
set_option linter.unusedVariables false

def isCells (w : World) (b : Nat) : Bool :=
  match w.heap[b]? with
  | some (.cells _ _ _) => true
  | _ => false

/-- A value that stands for itself. -/
def repV (w : World) : Value → Bool
  | .slice (some a) _ c => a.spot.isNone && decide (c < slack) && isCells w a.block
  | .pointer (some a) => a.spot.isNone && isCells w a.block
  | v => flat1 v

def absV (w : World) (v : Value) : Value := if repV w v then v else .chan none

def worldG (w : World) (b : Nat) : Option Loc :=
  match w.heap[b]? with
  | some (.cells cs _ _) => some ⟨b, 0, cs.size, 1⟩
  | _ => none

def absB (w : World) (b : Nat) : Option Blk :=
  match w.heap[b]? with
  | some (.cells cs _ _) => some (.live false 1 (cs.toList.map (absV w)))
  | _ => none

theorem worldG_of {w : World} {b : Nat} (h : isCells w b = true) : ∃ n, worldG w b = some ⟨b, 0, n, 1⟩ := by
  unfold isCells at h
  split at h
  · rename_i cs e fr hb; exact ⟨cs.size, by unfold worldG; rw [hb]⟩
  · cases h

theorem repV_ok {w : World} {v : Value} (h : repV w v = true) : VG (worldG w) v v := by
  unfold repV at h
  split at h
  · rename_i a len c
    simp only [Bool.and_eq_true, decide_eq_true_eq, Option.isNone_iff_eq_none] at h
    obtain ⟨⟨hs, hc⟩, hb⟩ := h
    obtain ⟨n, hg⟩ := worldG_of hb
    have := VG.sliceX (g := worldG w) a _ len c hs hg hc
    obtain ⟨b, o, sp⟩ := a
    simp only at hs
    subst hs
    simpa using this
  · rename_i a
    simp only [Bool.and_eq_true, Option.isNone_iff_eq_none] at h
    obtain ⟨hs, hb⟩ := h
    obtain ⟨n, hg⟩ := worldG_of hb
    have := VG.ptr (g := worldG w) a _ hs hg
    obtain ⟨b, o, sp⟩ := a
    simp only at hs
    subst hs
    simpa using this
  · exact .flat _ h

theorem absV_ok (w : World) (v : Value) : VG (worldG w) (absV w v) v := by
  unfold absV
  split
  · rename_i h; exact repV_ok h
  · exact .junk v

/-- The abstract heap of a world: all is there, nothing may be written. -/
theorem world_ok (w : World) : ∃ h : AHeap, HR ⟨worldG w, fun _ => none⟩ (St0 h) w ∧ h.low = h.next ∧ h.next = w.heap.size ∧ ∀ b, b < w.heap.size → h.m.get b = absB w b := by
  obtain ⟨t, ht⟩ := Tri.exists_get (absB w) w.heap.size
  have hb : ∀ id L, worldG w id = some L → ∃ cs e fr, w.heap[id]? = some (.cells cs e fr) ∧ L = ⟨id, 0, cs.size, 1⟩ := by
    intro id L h
    unfold worldG at h
    split at h
    · rename_i cs e fr hb; exact ⟨cs, e, fr, hb, by simpa using h.symm⟩
    · cases h
  have hlt : ∀ id L, worldG w id = some L → id < w.heap.size := fun id L h => by
    obtain ⟨cs, e, fr, h1, _⟩ := hb id L h
    exact (Array.getElem?_eq_some_iff.1 h1).1
  refine ⟨{ next := w.heap.size, low := w.heap.size, m := t }, ?_, rfl, rfl, fun b h => by simp only []; rw [ht, if_pos h]⟩
  exact
    { gdom := fun id L h => hlt id L h
      gblk := fun id L h => by
        obtain ⟨cs, e, fr, h1, rfl⟩ := hb id L h
        exact ⟨cs, e, fr, h1, rfl⟩
      gcon := fun id L wr es cells h hm => by
        obtain ⟨cs, e, fr, h1, rfl⟩ := hb id L h
        have h2 : t.get id = some (.live wr es cells) := hm
        rw [ht, if_pos (hlt id _ h)] at h2
        unfold absB at h2
        rw [h1] at h2
        simp only [Option.some.injEq, Blk.live.injEq] at h2
        obtain ⟨rfl, rfl, rfl⟩ := h2
        refine ⟨rfl, cs, e, fr, h1, ?_, fun hw => by cases hw⟩
        intro i v hv
        rw [List.getElem?_map] at hv
        cases hc : cs.toList[i]? with
        | none => rw [hc] at hv; cases hv
        | some c =>
          rw [hc] at hv
          simp only [Option.map_some, Option.some.injEq] at hv
          subst hv
          exact ⟨c, by simpa using hc, absV_ok w c⟩
      ginj := fun id id' L L' wr es c wr' es' c' h h' _ _ e => by
        obtain ⟨cs, e1, fr, h1, rfl⟩ := hb id L h
        obtain ⟨cs', e1', fr', h1', rfl⟩ := hb id' L' h'
        exact e
      ldom := (fun t L h => by cases h), lcon := (fun t L h => by cases h), linj := (fun t t' L L' h => by cases h), sep := (fun id t L L' _ h => by cases h) }

/-- A law's call in the model. -/
theorem law_calls {P : Program} {H : Hint} {F : Prims} (hm : P.follows .mixedOrders = true) (hF : CallOK P F) (hFk : CallKeep F) (hname : ∀ (g : FuncId) (fn : Func), P.funcs[g]? = some fn → (fn.name == "runtime.NumGoroutine") = false) {g : FuncId} {fn : Func} (hf : P.funcs[g]? = some fn) (hb : fn.body.isSome = true)
    {w : World} {h : AHeap} (hR : HR ⟨worldG w, fun _ => none⟩ (St0 h) w) (hlow : h.low = h.next) (hnext : h.next = w.heap.size) {args : List Value} (hargs : ∀ v ∈ args, repV w v = true)
    (hw : (atomsOf P H F).call g args h (fun v h' => v = .bool true ∧ Ext h h')) :
    Calls P g args.toArray w fun e w' => e = .returned (.bool true) ∧ Below w.heap.size w w' := by
  obtain ⟨v, h', hr, rfl, hE⟩ := hw.ex
  have hA : VGs (worldG w) args args := ⟨rfl, fun i u v hu hv => by
    rw [hu] at hv; cases hv
    exact repV_ok (hargs u (List.mem_of_getElem? hu))⟩
  have hd := hr.ok hm hF hFk hname hR hA
  refine (hd.calls hf hb (hname g fn hf)).mono ?_
  rintro e w' ⟨c, rfl, G', hv, hG, _⟩
  rw [hv.bool]
  refine ⟨rfl, hG.os, hG.tape, hG.output, hG.size, fun k hk => hG.frame k hk (fun id L hid hLb => ?_) (fun t L h => by cases h)⟩
  have h1 := hE.lowG
  have h2 : h.next ≤ h'.low := by
    rw [hlow] at h1
    have : Nat.min h.next h.next = h.next := Nat.min_self _
    omega
  have h3 : id < h.next := hR.gdom id L hid
  show id < h'.low
  omega

/-! ### What a world's slices hold -/

theorem cells_of_world {w : World} {h : AHeap} (hn : h.next = w.heap.size) (hm : ∀ b, b < w.heap.size → h.m.get b = absB w b) {b o n : Nat} {cells : List Value} (hb : isCells w b = true) (hl : cells.length = n)
    (hc : ∀ i v, cells[i]? = some v → ∃ c, w.cell? ⟨b, o + i, none⟩ = some c ∧ absV w c = v) : Cells h (some ⟨b, o, none⟩) n 1 cells := by
  unfold isCells at hb
  split at hb
  · rename_i cs e fr hcs
    have hlt : b < w.heap.size := (Array.getElem?_eq_some_iff.1 hcs).1
    refine ⟨rfl, by rw [hn]; exact hlt, ?_⟩
    unfold AHeap.readG AHeap.cells?
    simp only []
    rw [hm b hlt]
    unfold absB
    rw [hcs]
    simp only [Nat.mul_one]
    refine readN_some ?_ hl
    apply List.ext_getElem?
    intro i
    rw [List.getElem?_take]
    by_cases hi : i < n
    · rw [if_pos hi, List.getElem?_drop, List.getElem?_map]
      have hv : cells[i]? = some cells[i] := List.getElem?_eq_getElem (by omega)
      obtain ⟨c, h1, h2⟩ := hc i _ hv
      unfold World.cell? at h1
      simp only [hcs] at h1
      rw [hv, ← h2]
      have : cs.toList[o + i]? = some c := by simpa using h1
      rw [this]; rfl
    · rw [if_neg hi]
      exact (List.getElem?_eq_none (by omega)).symm
  · cases hb

end Go.Sim
namespace Go.Sim

theorem okWide_rep {P : Program} {w : World} {r : Reach} {base : Nat} {t e : TypeId} {a : Option Addr} {len cap : Nat} (ht : P.underlying t = some (.slice e)) (h : Value.okWide P w r base t (.slice a len cap)) :
    repV w (.slice a len cap) = true ∧ (a = none → len = 0 ∧ cap = 0) ∧ ∀ x, a = some x → x.spot = none ∧ isCells w x.block = true := by
  simp only [Value.okWide, ht, Cell.okWide, Cell.ok] at h
  cases a with
  | none =>
    have : len = 0 ∧ cap = 0 := by
      cases len <;> cases cap <;> simp_all
    obtain ⟨rfl, rfl⟩ := this
    exact ⟨rfl, fun _ => ⟨rfl, rfl⟩, fun x hx => by cases hx⟩
  | some x =>
    obtain ⟨h1, h2, _, hs, row, cells, hsh, _⟩ := h
    have hc : isCells w x.block = true := by
      unfold isCells
      unfold World.shape? at hsh
      split at hsh
      · rename_i hb; rw [hb]
      · cases hsh
    refine ⟨?_, (fun hx => by cases hx), (fun y hy => by cases hy; exact ⟨hs, hc⟩)⟩
    unfold repV
    simp only [Bool.and_eq_true, decide_eq_true_eq, Option.isNone_iff_eq_none]
    refine ⟨⟨hs, ?_⟩, hc⟩
    have : IntKind.i64.max = 9223372036854775807 := rfl
    unfold slack
    omega

/-- A slice of numbers that came in. -/
theorem ints_of_row {w : World} {h : AHeap} (hn : h.next = w.heap.size) (hm : ∀ b, b < w.heap.size → h.m.get b = absB w b) {k : IntKind} {a : Option Addr} {len cap : Nat} {zs : List Int}
    (hrep : (a = none → len = 0 ∧ cap = 0) ∧ ∀ x, a = some x → x.spot = none ∧ isCells w x.block = true)
    (hr : (a = none ∧ len = 0 ∧ cap = 0 ∧ zs = []) ∨ ∃ x, a = some x ∧ len ≤ cap ∧ zs.length = cap ∧ (∀ i, i < zs.length → w.cell? (x.add i) = some (.int k (zs.getD i 0)))) :
    Ints h k a len (zs.take len) := by
  rcases hr with ⟨rfl, rfl, rfl, rfl⟩ | ⟨x, rfl, hl, hz, hc⟩
  · exact .nil _ _
  · obtain ⟨hs, hb⟩ := hrep.2 x rfl
    obtain ⟨b, o, sp⟩ := x
    simp only at hs hb
    subst hs
    refine ⟨cells_of_world hn hm hb (by simp; omega) ?_⟩
    intro i v hv
    rw [List.getElem?_map, List.getElem?_take] at hv
    by_cases hi : i < len
    · rw [if_pos hi] at hv
      have hiz : i < zs.length := by omega
      rw [List.getElem?_eq_getElem hiz] at hv
      simp only [Option.map_some, Option.some.injEq] at hv
      subst hv
      have := hc i hiz
      have ea : (⟨b, o, none⟩ : Addr).add i = ⟨b, o + i, none⟩ := by
        unfold Addr.add
        split
        · rename_i h0; subst h0; rfl
        · rfl
      rw [ea] at this
      refine ⟨_, this, ?_⟩
      have e2 : zs.getD i 0 = zs[i] := by simp [hiz]
      rw [e2]
      rfl
    · rw [if_neg hi] at hv; cases hv

end Go.Sim
