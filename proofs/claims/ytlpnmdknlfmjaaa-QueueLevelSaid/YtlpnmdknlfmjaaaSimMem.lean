/-
  READING, WRITING AND MAKING MEMORY, in the abstract and in the world, side by side.
-/
import Derived.Test.YtlpnmdknlfmjaaaSimRel
import Derived.Laws.World
namespace Go.Sim

theorem live_of_cells? {h : AHeap} {b : Nat} {cs : List Value} (hc : h.cells? b = some cs) : ∃ wr es, h.m.get b = some (.live wr es cs) := by
  unfold AHeap.cells? at hc
  split at hc
  · rename_i wr es cs' hm; simp at hc; subst hc; exact ⟨wr, es, hm⟩
  · cases hc

/-- The cells that an address leads to. -/
theorem HR.cells {J : Inj} {s : St} {w : World} (h : HR J s w) {a : Addr} {L : Loc} (hL : J.at a = some L) {cells : List Value} (hc : s.cells? a = some cells) :
    ∃ cs e fr, w.heap[L.b]? = some (.cells cs e fr) ∧ CR J.g cells cs L.o := by
  unfold St.cells? at hc
  unfold Inj.at at hL
  cases hs : a.spot with
  | none =>
    simp only [hs] at hc hL
    obtain ⟨wr, es, hm⟩ := live_of_cells? hc
    obtain ⟨_, cs, e, fr, hw, hcr, _⟩ := h.gcon _ _ _ _ _ hL hm
    exact ⟨cs, e, fr, hw, hcr⟩
  | some x =>
    simp only [hs] at hc hL
    cases hb : Nat.blt a.block s.kn with
    | false => rw [hb] at hc; simp at hc
    | true =>
      rw [hb] at hc
      simp only [cond_true] at hc
      obtain ⟨cs, e, hw, hcr⟩ := h.lcon _ _ hL
      exact ⟨cs, e, (0, 0), hw, hcr _ hc⟩

theorem add_none (b o n : Nat) : (⟨b, o, none⟩ : Addr).add n = ⟨b, o + n, none⟩ := by
  unfold Addr.add
  split
  · simp_all
  · rfl

/-- Reading. -/
theorem HR.read {J : Inj} {s : St} {w : World} (h : HR J s w) {a : Addr} {L : Loc} (hL : J.at a = some L) {n : Nat} {l : List Value} (hr : s.read a n = some l) :
    ∃ l', VGs J.g l l' ∧ l'.length = n ∧ ∀ (j : Nat) (v : Value), l'[j]? = some v → w.cell? ((⟨L.b, L.o + a.off, none⟩ : Addr).add j) = some v := by
  unfold St.read at hr
  split at hr
  · rename_i cells hc
    obtain ⟨cs, e, fr, hw, hcr⟩ := h.cells hL hc
    obtain ⟨l', h1, h2, h3⟩ := hcr.read hr
    refine ⟨l', h1, h2, fun j v hv => ?_⟩
    rw [add_none]
    simp only [World.cell?, hw]
    simpa using h3 j v hv
  · cases hr

theorem readG_spec {s : St} {a : Addr} {n : Nat} {l : List Value} (h : s.h.readG a n = some l) : a.spot = none ∧ s.read a n = some l := by
  unfold AHeap.readG at h
  split at h
  · rename_i hs; refine ⟨hs, ?_⟩; unfold St.read St.cells?; rw [hs]; exact h
  · cases h
theorem writeG_spec {s : St} {h' : AHeap} {a : Addr} {l : List Value} (h : s.h.writeG a l = some h') : a.spot = none ∧ s.write a l = some { s with h := h' } := by
  unfold AHeap.writeG at h
  split at h
  · rename_i hs
    refine ⟨hs, ?_⟩
    unfold St.write
    cases hc : l.all cellOK with
    | false => rw [hc] at h; simp at h
    | true => rw [hc] at h; simp only [cond_true] at h ⊢; rw [hs]; simp only [h]
  · cases h

section
variable {P : Program} {w : World} {t : TypeId}
theorem run_und {d : TypeDesc} (h : P.underlying t = some d) : (underlying t).run P w = .ok d w := run_underlying h w
theorem run_isAggB {b : Bool} (h : isAggB P t = some b) : (isAgg t).run P w = .ok b w := by
  unfold isAggB at h
  unfold isAgg
  split at h <;> first | (cases h; done) | (rename_i hu; simp only [Option.some.injEq] at h; subst h; simp only [Sem.run_bind, run_und hu, Result.andThen_ok]; first | rfl | (split <;> first | rfl | simp_all))
theorem run_sizeT {n : Nat} (h : sizeT P t = some n) : (sizeOf t).run P w = .ok n w := by
  unfold sizeT at h
  split at h
  · rename_i i hi; simp only [Option.some.injEq] at h; subst h; simp [sizeOf, typeInfo, hi]
  · cases h
theorem run_infoT {i : TypeInfo} (h : P.info? t = some i) : (typeInfo t).run P w = .ok i w := by simp [typeInfo, h]
theorem zeroT_spec {z : Value} (h : zeroT P t = some z) : Sim.flat z = true ∧ ∃ i, P.info? t = some i ∧ i.zero = some z := by
  unfold zeroT at h
  split at h
  · rename_i i hi
    split at h
    · rename_i z' hz
      cases hf : Sim.flat z' with
      | false => rw [hf] at h; simp at h
      | true => rw [hf] at h; simp at h; subst h; exact ⟨hf, i, hi, hz⟩
    · cases h
  · cases h
theorem run_zeroT {z : Value} (h : zeroT P t = some z) : (zeroValue t).run P w = .ok z w := by
  obtain ⟨_, i, hi, hz⟩ := zeroT_spec h
  simp [zeroValue, run_infoT hi, hz]
theorem bytesT_spec {n : Nat} (h : bytesT P t = some n) : ∃ i, P.info? t = some i ∧ i.bytes = n := by
  unfold bytesT at h
  split at h
  · rename_i i hi; simp at h; exact ⟨i, hi, h⟩
  · cases h
theorem sizeT_spec {n : Nat} (h : sizeT P t = some n) : ∃ i, P.info? t = some i ∧ i.size = n := by
  unfold sizeT at h
  split at h
  · rename_i i hi; simp at h; exact ⟨i, hi, h⟩
  · cases h
end

theorem flat_cells {z : Value} (h : Sim.flat z = true) : z.cells.toList.all flat1 = true ∨ z.cells.toList = [undef] := by
  cases z with
  | agg cs => exact .inl (by simpa [Sim.flat, Value.cells] using h)
  | tuple cs =>
    right
    simp only [Sim.flat, List.isEmpty_iff] at h
    have : cs = #[] := by simpa using h
    simp [Value.cells, undef, this]
  | _ => exact .inl (by simp [Value.cells]; simpa [Sim.flat] using h)

theorem flat_VGs {g : Nat → Option Loc} {z : Value} (h : Sim.flat z = true) : VGs g z.cells.toList z.cells.toList := by
  rcases flat_cells h with h1 | h1
  · exact VGs.flat h1
  · rw [h1]; exact .cons (VG.of_flat (by simp [undef, Sim.flat])) (.nil _)

/-- Loading a variable. -/
theorem loadA_sim {P : Program} {J : Inj} {s : St} {w : World} (h : HR J s w) {t : TypeId} {a : Addr} {L : Loc} (hL : J.at a = some L) {v : Value} (hv : loadA P s t a = some v) :
    ∃ c, (loadVar t ⟨L.b, L.o + a.off, none⟩).run P w = .ok c w ∧ VG J.g v c := by
  unfold loadA at hv
  split at hv
  · rename_i hagg
    split at hv
    · rename_i n hn
      split at hv
      · rename_i l hl
        simp only [Option.some.injEq] at hv
        subst hv
        obtain ⟨l', h1, h2, h3⟩ := h.read hL hl
        refine ⟨.agg l'.toArray, ?_, h1.agg⟩
        have := run_loadCells_list (P := P) w ⟨L.b, L.o + a.off, none⟩ l' h3
        rw [h2] at this
        simp [loadVar, run_isAggB hagg, run_sizeT hn, this]
      · cases hv
    · cases hv
  · rename_i hagg
    split at hv
    · rename_i x r hl
      simp only [Option.some.injEq] at hv
      subst hv
      obtain ⟨l', h1, h2, h3⟩ := h.read hL hl
      obtain ⟨y, l'', rfl, hy, _⟩ := h1.head
      refine ⟨y, ?_, hy⟩
      have := h3 0 y rfl
      rw [add_none, Nat.add_zero] at this
      simp [loadVar, run_isAggB hagg, this]
    · cases hv
  · cases hv

/-- What writing does to the world. -/
theorem HR.put {J : Inj} {s s' : St} {w : World} (h : HR J s w) {a : Addr} {L : Loc} (hL : J.at a = some L) {vs us : List Value} (hs : s.write a vs = some s') (hv : VGs J.g vs us) :
    ∃ cs e, w.heap[L.b]? = some (.cells cs e (0, 0)) ∧ (L.o + a.off + us.length ≤ cs.size ∨ us = []) ∧ (∀ v ∈ us, v.oneCell' = true) ∧
      (L.o + a.off + us.length ≤ cs.size → Good J s w J s' (w.setRow L.b (rowPut cs (L.o + a.off) us))) ∧ (us = [] → Good J s w J s' w) ∧ s'.env = s.env ∧ s'.h.next = s.h.next := by
  unfold St.write at hs
  cases hok : vs.all cellOK with
  | false => rw [hok] at hs; simp at hs
  | true =>
    rw [hok] at hs
    simp only [cond_true] at hs
    have hone : ∀ v ∈ us, v.oneCell' = true := by
      intro v hvm
      obtain ⟨i, hi⟩ := List.mem_iff_getElem?.1 hvm
      have hlt : i < vs.length := by rw [hv.1]; exact (List.getElem?_eq_some_iff.1 hi).1
      simp only [List.all_eq_true] at hok
      exact (hv.2 i vs[i] v (by simp [hlt]) hi).oneCell (hok _ (List.getElem_mem hlt))
    cases hsp : a.spot with
    | none =>
      simp only [hsp] at hs
      simp only [Inj.at, hsp] at hL
      split at hs
      · rename_i h' hw'
        simp only [Option.some.injEq] at hs
        subst hs
        unfold AHeap.write at hw'
        split at hw'
        · rename_i es cells hm
          split at hw'
          · rename_i cells' hsl
            simp only [Option.some.injEq] at hw'
            subst hw'
            obtain ⟨hes, cs, e, fr, hw, hcr, hfr⟩ := h.gcon _ _ _ _ _ hL hm
            obtain rfl := hfr rfl
            obtain ⟨cs', e', fr', hw2, htot⟩ := h.gblk _ _ hL
            rw [hw] at hw2
            obtain ⟨rfl, rfl, rfl⟩ : cs = cs' ∧ e = e' ∧ (0, 0) = fr' := by simpa using hw2
            obtain ⟨hsl1, hsl2⟩ := splice_spec hsl
            have hlow : Nat.min s.h.low a.block ≤ s.h.low := Nat.min_le_left _ _
            have key : ∀ cs1, cs1.size = cs.size → CR J.g cells' cs1 L.o → Good J s w J { s with h := { next := s.h.next, low := Nat.min s.h.low a.block, m := s.h.m.set a.block (.live true es cells') } } (w.setRow L.b cs1) := by
              intro cs1 hsz hcr1
              refine { hr := ?_, mono := fun _ _ h => h, next := Nat.le_refl _, low := hlow, size := by simp, os := rfl, tape := rfl, output := rfl, fresh := (fun id L h1 h2 => by rw [h2] at h1; cases h1), lfresh := fun t L h1 => .inr ⟨t, L, h1, rfl⟩, frame := ?_ }
              · refine { gdom := h.gdom, gblk := ?_, gcon := ?_, ginj := ?_, ldom := h.ldom, lcon := ?_, linj := h.linj, sep := h.sep }
                · intro id L1 h1
                  by_cases hb : L1.b = L.b
                  · obtain ⟨c2, e2, f2, hx, hy⟩ := h.gblk _ _ h1
                    rw [hb, hw] at hx
                    obtain ⟨rfl, rfl, rfl⟩ : cs = c2 ∧ e = e2 ∧ (0, 0) = f2 := by simpa using hx
                    exact ⟨cs1, e, (0, 0), by rw [hb]; exact setRow_heap w L.b cs cs1 e _ hw, by omega⟩
                  · rw [setRow_other w _ _ _ hb]; exact h.gblk _ _ h1
                · intro id L1 wr es1 cells1 h1 h2
                  simp only [Tri.get_set] at h2
                  by_cases hid : a.block = id
                  · subst hid
                    rw [hL] at h1
                    obtain rfl := Option.some.inj h1
                    simp only [if_true, Option.some.injEq, Blk.live.injEq] at h2
                    obtain ⟨rfl, rfl, rfl⟩ := h2
                    exact ⟨hes, cs1, e, (0, 0), setRow_heap w L.b cs cs1 e _ hw, hcr1, fun _ => rfl⟩
                  · simp only [hid, if_false] at h2
                    have hne : L1.b ≠ L.b := fun hb => hid (h.ginj _ _ _ _ _ _ _ _ _ _ hL h1 hm h2 hb.symm)
                    rw [setRow_other w _ _ _ hne]
                    exact h.gcon _ _ _ _ _ h1 h2
                · intro id id' L1 L2 wr es1 c1 wr' es2 c2 h1 h2 h3 h4 hb
                  simp only [Tri.get_set] at h3 h4
                  have l3 : ∃ wr es c, s.h.m.get id = some (.live wr es c) := by
                    by_cases hid : a.block = id
                    · subst hid; exact ⟨_, _, _, hm⟩
                    · simp only [hid, if_false] at h3; exact ⟨_, _, _, h3⟩
                  have l4 : ∃ wr es c, s.h.m.get id' = some (.live wr es c) := by
                    by_cases hid : a.block = id'
                    · subst hid; exact ⟨_, _, _, hm⟩
                    · simp only [hid, if_false] at h4; exact ⟨_, _, _, h4⟩
                  obtain ⟨_, _, _, l3⟩ := l3
                  obtain ⟨_, _, _, l4⟩ := l4
                  exact h.ginj _ _ _ _ _ _ _ _ _ _ h1 h2 l3 l4 hb
                · intro t L1 h1
                  have hne : L1.b ≠ L.b := fun hb => h.sep _ _ _ _ hL h1 hb.symm
                  rw [setRow_other w _ _ _ hne]
                  exact h.lcon _ _ h1
              · intro b hb hg hl
                have : b ≠ L.b := fun e => by
                  have h1 := hg a.block L hL e.symm
                  have h2 : Nat.min s.h.low a.block ≤ a.block := Nat.min_le_right _ _
                  simp only [] at h1
                  omega
                exact setRow_other w _ _ _ this
            refine ⟨cs, e, hw, ?_, hone, ?_, ?_, rfl, rfl⟩
            · cases us with
              | nil => exact .inr rfl
              | cons u us' =>
                left
                have hne : cells ≠ [] := by
                  intro e0; subst e0
                  have h9 := hv.1
                  have h8 : a.off + vs.length ≤ 0 := hsl1
                  simp only [List.length_cons] at h9
                  omega
                have := hcr.size hne
                have := hv.1
                omega
            · intro hz
              exact key _ (rowPut_size hz) (hcr.put hv hsl hz)
            · intro hu
              subst hu
              have hv0 : vs = [] := by have := hv.1; simpa using this
              subst hv0
              have hc' : cells' = cells := by rw [hsl2]; simp
              subst hc'
              have := key cs rfl hcr
              rw [setRow_self w L.b cs e _ hw] at this
              exact this
          · cases hw'
        · cases hw'
      · cases hs
    | some x =>
      simp only [hsp] at hs
      simp only [Inj.at, hsp] at hL
      cases hb : Nat.blt a.block s.kn with
      | false => rw [hb] at hs; simp at hs
      | true =>
        rw [hb] at hs
        simp only [cond_true] at hs
        split at hs
        · rename_i cells hK
          split at hs
          · rename_i cells' hsl
            simp only [Option.some.injEq] at hs
            subst hs
            obtain ⟨cs, e, hw, hcr0⟩ := h.lcon _ _ hL
            have hcr := hcr0 _ hK
            obtain ⟨hsl1, hsl2⟩ := splice_spec hsl
            have key : ∀ cs1, cs1.size = cs.size → CR J.g cells' cs1 L.o → Good J s w J { s with K := s.K.set a.block cells' } (w.setRow L.b cs1) := by
              intro cs1 hsz hcr1
              refine { hr := ?_, mono := fun _ _ h => h, next := Nat.le_refl _, low := Nat.le_refl _, size := by simp, os := rfl, tape := rfl, output := rfl, fresh := (fun id L h1 h2 => by rw [h2] at h1; cases h1), lfresh := fun t L h1 => .inr ⟨t, L, h1, rfl⟩, frame := ?_ }
              · refine { gdom := h.gdom, gblk := ?_, gcon := ?_, ginj := h.ginj, ldom := h.ldom, lcon := ?_, linj := h.linj, sep := h.sep }
                · intro id L1 h1
                  rw [setRow_other w _ _ _ (h.sep _ _ _ _ h1 hL)]; exact h.gblk _ _ h1
                · intro id L1 wr es1 cells1 h1 h2
                  rw [setRow_other w _ _ _ (h.sep _ _ _ _ h1 hL)]; exact h.gcon _ _ _ _ _ h1 h2
                · intro t L1 h1
                  by_cases ht : a.block = t
                  · subst ht
                    rw [hL] at h1
                    obtain rfl := Option.some.inj h1
                    refine ⟨cs1, e, setRow_heap w L.b cs cs1 e _ hw, fun c1 hc1 => ?_⟩
                    simp only [Tri.get_set_eq, Option.some.injEq] at hc1
                    subst hc1
                    exact hcr1
                  · have hne : L1.b ≠ L.b := fun hb => ht (h.linj _ _ _ _ hL h1 hb.symm)
                    rw [setRow_other w _ _ _ hne]
                    obtain ⟨c2, e2, hx, hy⟩ := h.lcon _ _ h1
                    exact ⟨c2, e2, hx, fun c1 hc1 => hy c1 (by rw [Tri.get_set_ne _ _ ht] at hc1; exact hc1)⟩
              · intro b hb hg hl
                exact setRow_other w _ _ _ (fun e => hl _ _ hL e.symm)
            refine ⟨cs, e, hw, ?_, hone, ?_, ?_, rfl, rfl⟩
            · cases us with
              | nil => exact .inr rfl
              | cons u us' =>
                left
                have hne : cells ≠ [] := by
                  intro e0; subst e0
                  have h9 := hv.1
                  have h8 : a.off + vs.length ≤ 0 := hsl1
                  simp only [List.length_cons] at h9
                  omega
                have := hcr.size hne
                have := hv.1
                omega
            · intro hz
              exact key _ (rowPut_size hz) (hcr.put hv hsl hz)
            · intro hu
              subst hu
              have hv0 : vs = [] := by have := hv.1; simpa using this
              subst hv0
              have hc' : cells' = cells := by rw [hsl2]; simp
              subst hc'
              have := key cs rfl hcr
              rw [setRow_self w L.b cs e _ hw] at this
              exact this
          · cases hs
        · cases hs

/-- Writing, as the model runs it. -/
theorem HR.write {P : Program} {J : Inj} {s s' : St} {w : World} (h : HR J s w) {a : Addr} {L : Loc} (hL : J.at a = some L) {vs us : List Value} (hs : s.write a vs = some s') (hv : VGs J.g vs us) :
    ∃ w', (storeCells ⟨L.b, L.o + a.off, none⟩ us).run P w = .ok () w' ∧ Good J s w J s' w' ∧ s'.env = s.env ∧ s'.h.next = s.h.next := by
  obtain ⟨cs, e, hw, hz, hone, hG, hN, he, hn⟩ := h.put hL hs hv
  rcases hz with hz | hz
  · refine ⟨_, ?_, hG hz, he, hn⟩
    have := run_storeCells_at (P := P) L.b (L.o + a.off) e us 0 cs w hw (by simpa using hz) hone
    simpa [rowPut] using this
  · subst hz
    exact ⟨w, by simp [storeCells], hN rfl, he, hn⟩

/-- A new block, at a number that is free. -/
theorem HR.newAt {J : Inj} {s s' : St} {w : World} (h : HR J s w) {id tag : Nat} {loc : Bool} (hI : loc = false → id < s.h.next ∧ J.g id = none) (hT0 : loc = true → tag < s.kn ∧ J.l tag = none) {es : Nat} {cells : List Value} {cs : Array Value} {v : Value} (hs : s.newAt id tag loc es cells = some (v, s')) (hv : CR J.g cells cs 0) (e : TypeId) :
    ∃ J', Good J s w J' s' (w.alloc (.cells cs e)) ∧ (∀ t L, J.l t = some L → J'.l t = some L) ∧ VR J' v (.pointer (some ⟨w.heap.size, 0, none⟩)) ∧ s'.env = s.env ∧ s'.h.next = s.h.next ∧
      (loc = false → v = .pointer (some ⟨id, 0, none⟩) ∧ J'.g id = some ⟨w.heap.size, 0, cs.size, es⟩) ∧ (∀ k L, J'.g k = some L → J.g k = some L ∨ (loc = false ∧ k = id)) ∧ (∀ t L, J'.l t = some L → J.l t = some L ∨ (loc = true ∧ t = tag ∧ v = .pointer (some ⟨tag, 0, some 0⟩))) := by
  unfold St.newAt at hs
  cases hok : cells.all cellOK with
  | false => rw [hok] at hs; simp at hs
  | true =>
    rw [hok] at hs
    simp only [cond_true] at hs
    have hnew : (w.alloc (.cells cs e)).heap[w.heap.size]? = some (.cells cs e (0, 0)) := by show (w.heap.push _)[w.heap.size]? = _; simp
    have hold : ∀ k, k < w.heap.size → (w.alloc (.cells cs e)).heap[k]? = w.heap[k]? := fun k hk => by show (w.heap.push _)[k]? = _; rw [Array.getElem?_push, if_neg (by omega)]
    have hsize : (w.alloc (.cells cs e)).heap.size = w.heap.size + 1 := by show (w.heap.push _).size = _; simp
    cases loc with
    | false =>
      simp only [cond_false, Option.some.injEq, Prod.mk.injEq] at hs
      obtain ⟨rfl, rfl⟩ := hs
      obtain ⟨hid, hJ⟩ := hI rfl
      let L : Loc := ⟨w.heap.size, 0, cs.size, es⟩
      let g' : Nat → Option Loc := fun k => if k = id then some L else J.g k
      have hg' : ∀ k L1, J.g k = some L1 → g' k = some L1 := fun k L1 h1 => by
        have hne : ¬ k = id := fun e => by rw [e, hJ] at h1; cases h1
        simp only [g', hne, if_false, h1]
      have hsplit : ∀ k L1, g' k = some L1 → (k = id ∧ L1 = L) ∨ (k ≠ id ∧ J.g k = some L1) := fun k L1 h1 => by
        by_cases hk : k = id
        · left; simp only [g', hk, if_true, Option.some.injEq] at h1; exact ⟨hk, h1.symm⟩
        · right; simp only [g', hk, if_false] at h1; exact ⟨hk, h1⟩
      refine ⟨⟨g', J.l⟩, ?_, fun t L h => h, ?_, rfl, rfl, fun _ => ⟨rfl, by simp [g', L]⟩, fun k L1 hk => (hsplit k L1 hk).elim (fun q => .inr ⟨rfl, q.1⟩) (fun q => .inl q.2), fun t L h => .inl h⟩
      · refine { hr := ?_, mono := hg', next := Nat.le_refl _, low := Nat.le_refl _, size := by omega, os := rfl, tape := rfl, output := rfl, fresh := ?_, lfresh := fun t L h1 => .inr ⟨t, L, h1, rfl⟩, frame := fun b hb _ _ => hold b hb }
        · refine { gdom := ?_, gblk := ?_, gcon := ?_, ginj := ?_, ldom := h.ldom, lcon := ?_, linj := h.linj, sep := ?_ }
          · intro k L1 h1
            rcases hsplit k L1 h1 with ⟨rfl, _⟩ | ⟨_, h1⟩
            · exact hid
            · exact h.gdom _ _ h1
          · intro k L1 h1
            rcases hsplit k L1 h1 with ⟨rfl, rfl⟩ | ⟨_, h1⟩
            · exact ⟨_, _, _, hnew, by simp [L]⟩
            · rw [hold _ (h.lt h1)]; exact h.gblk _ _ h1
          · intro k L1 wr es1 c1 h1 h2
            simp only [Tri.get_set] at h2
            rcases hsplit k L1 h1 with ⟨rfl, rfl⟩ | ⟨hne, h1⟩
            · simp only [if_true, Option.some.injEq, Blk.live.injEq] at h2
              obtain ⟨rfl, rfl, rfl⟩ := h2
              exact ⟨rfl, _, _, _, hnew, hv.mono hg', fun _ => rfl⟩
            · simp only [Ne.symm hne, if_false] at h2
              obtain ⟨a1, cs9, e1, fr, a2, a3, a4⟩ := h.gcon _ _ _ _ _ h1 h2
              exact ⟨a1, cs9, e1, fr, by rw [hold _ (h.lt h1)]; exact a2, a3.mono hg', a4⟩
          · intro k k' L1 L2 wr es1 c1 wr' es2 c2 h1 h2 h3 h4 hb
            simp only [Tri.get_set] at h3 h4
            rcases hsplit k L1 h1 with ⟨hk1, hk2⟩ | ⟨hne, h1⟩ <;> rcases hsplit k' L2 h2 with ⟨hk3, hk4⟩ | ⟨hne', h2⟩
            · rw [hk1, hk3]
            · have := h.lt h2; rw [hk2] at hb; simp only [L] at hb; omega
            · have := h.lt h1; rw [hk4] at hb; simp only [L] at hb; omega
            · simp only [Ne.symm hne, if_false] at h3
              simp only [Ne.symm hne', if_false] at h4
              exact h.ginj _ _ _ _ _ _ _ _ _ _ h1 h2 h3 h4 hb
          · intro t L1 h1
            obtain ⟨cs9, e1, a1, a2⟩ := h.lcon _ _ h1
            exact ⟨cs9, e1, by rw [hold _ (h.llt h1)]; exact a1, fun c hc => (a2 c hc).mono hg'⟩
          · intro k t L1 L2 h1 h2 hb
            rcases hsplit k L1 h1 with ⟨rfl, rfl⟩ | ⟨_, h1⟩
            · have := h.llt h2; simp only [L] at hb; omega
            · exact h.sep _ _ _ _ h1 h2 hb
        · intro k L1 h1 h2
          rcases hsplit k L1 h1 with ⟨rfl, rfl⟩ | ⟨_, h1⟩
          · exact .inl (Nat.le_refl _)
          · rw [h2] at h1; cases h1
      · have := VG.ptr (g := g') ⟨id, 0, none⟩ L rfl (by simp [g'])
        exact .glob _ _ (by simpa [L] using this)
    | true =>
      simp only [cond_true, Option.some.injEq, Prod.mk.injEq] at hs
      obtain ⟨rfl, rfl⟩ := hs
      obtain ⟨htag, hT⟩ := hT0 rfl
      let L : Loc := ⟨w.heap.size, 0, cs.size, es⟩
      let l' : Nat → Option Loc := fun t => if t = tag then some L else J.l t
      have hl' : ∀ t L1, J.l t = some L1 → l' t = some L1 := fun t L1 h1 => by
        have hne : ¬ t = tag := fun e => by rw [e, hT] at h1; cases h1
        simp only [l', hne, if_false, h1]
      have hsplit : ∀ t L1, l' t = some L1 → (t = tag ∧ L1 = L) ∨ (t ≠ tag ∧ J.l t = some L1) := fun t L1 h1 => by
        by_cases hk : t = tag
        · left; simp only [l', hk, if_true, Option.some.injEq] at h1; exact ⟨hk, h1.symm⟩
        · right; simp only [l', hk, if_false] at h1; exact ⟨hk, h1⟩
      refine ⟨⟨J.g, l'⟩, ?_, hl', ?_, rfl, rfl, (fun h => by cases h), fun k L h => .inl h, fun t L1 ht => (hsplit t L1 ht).elim (fun q => .inr ⟨rfl, q.1, rfl⟩) (fun q => .inl q.2)⟩
      · refine { hr := ?_, mono := fun _ _ h => h, next := Nat.le_refl _, low := Nat.le_refl _, size := by omega, os := rfl, tape := rfl, output := rfl, fresh := (fun id L1 h1 h2 => by rw [h2] at h1; cases h1), lfresh := ?_, frame := fun b hb _ _ => hold b hb }
        · refine { gdom := h.gdom, gblk := ?_, gcon := ?_, ginj := h.ginj, ldom := ?_, lcon := ?_, linj := ?_, sep := ?_ }
          · intro id L1 h1
            rw [hold _ (h.lt h1)]; exact h.gblk _ _ h1
          · intro k L1 wr es1 c1 h1 h2
            rw [hold _ (h.lt h1)]; exact h.gcon _ _ _ _ _ h1 h2
          · intro t L1 h1
            rcases hsplit t L1 h1 with ⟨rfl, _⟩ | ⟨_, h1⟩
            · exact htag
            · exact h.ldom _ _ h1
          · intro t L1 h1
            rcases hsplit t L1 h1 with ⟨rfl, rfl⟩ | ⟨hne, h1⟩
            · refine ⟨_, _, hnew, fun c hc => ?_⟩
              simp only [Tri.get_set_eq, Option.some.injEq] at hc
              subst hc
              exact hv
            · obtain ⟨cs9, e1, a1, a2⟩ := h.lcon _ _ h1
              refine ⟨cs9, e1, by rw [hold _ (h.llt h1)]; exact a1, fun c hc => a2 c ?_⟩
              rw [Tri.get_set_ne _ _ (Ne.symm hne)] at hc
              exact hc
          · intro t t' L1 L2 h1 h2 hb
            rcases hsplit t L1 h1 with ⟨hk1, hk2⟩ | ⟨hne, h1⟩ <;> rcases hsplit t' L2 h2 with ⟨hk3, hk4⟩ | ⟨hne', h2⟩
            · rw [hk1, hk3]
            · have := h.llt h2; rw [hk2] at hb; simp only [L] at hb; omega
            · have := h.llt h1; rw [hk4] at hb; simp only [L] at hb; omega
            · exact h.linj _ _ _ _ h1 h2 hb
          · intro id t L1 L2 h1 h2 hb
            rcases hsplit t L2 h2 with ⟨rfl, rfl⟩ | ⟨_, h2⟩
            · have := h.lt h1; simp only [L] at hb; omega
            · exact h.sep _ _ _ _ h1 h2 hb
        · intro t L1 h1
          rcases hsplit t L1 h1 with ⟨rfl, rfl⟩ | ⟨_, h1⟩
          · exact .inl (Nat.le_refl _)
          · exact .inr ⟨t, L1, h1, rfl⟩
      · have := VR.loc (J := ⟨J.g, l'⟩) ⟨tag, 0, some 0⟩ 0 L rfl (by simp [l'])
        simpa [L] using this

/-- More numbers are kept. -/
theorem Good.keepNos {J : Inj} {s : St} {w : World} (h : HR J s w) (n m : Nat) : Good J s w J { s with kn := s.kn + m, h := { s.h with next := s.h.next + n } } w where
  hr := { gdom := fun id L hL => by have := h.gdom _ _ hL; simp only []; omega, gblk := h.gblk, gcon := h.gcon, ginj := h.ginj,
          ldom := fun t L hL => by have := h.ldom _ _ hL; simp only []; omega, lcon := h.lcon, linj := h.linj, sep := h.sep }
  mono := fun _ _ h => h
  next := by simp
  low := Nat.le_refl _
  size := Nat.le_refl _
  os := rfl
  tape := rfl
  output := rfl
  fresh := (fun id L h1 h2 => by rw [h2] at h1; cases h1)
  lfresh := fun t L h1 => .inr ⟨t, L, h1, rfl⟩
  frame := fun _ _ _ _ => rfl

/-- What a step adds to where blocks lie. -/
def Adds (R : Nat → Prop) (g g' : Nat → Option Loc) : Prop := ∀ k L, g' k = some L → g k = some L ∨ R k
theorem Adds.refl (R : Nat → Prop) (g : Nat → Option Loc) : Adds R g g := fun _ _ h => .inl h
theorem Adds.mono {R R' : Nat → Prop} {g g' : Nat → Option Loc} (h : Adds R g g') (hr : ∀ k, R k → R' k) : Adds R' g g' := fun k L hk => (h k L hk).imp (fun q => q) (hr k)
theorem Adds.trans {R : Nat → Prop} {g g' g'' : Nat → Option Loc} (h : Adds R g g') (k : Adds R g' g'') : Adds R g g'' := fun i L hi => by
  rcases k i L hi with q | q
  · exact h i L q
  · exact .inr q

/-- The numbers that a maker gives. -/
def NewBy (mk : Maker) (k : Nat) : Prop := ∃ es cells s', mk false es cells = some (.pointer (some ⟨k, 0, none⟩), s')
def NewByL (mk : Maker) (t : Nat) : Prop := ∃ es cells s', mk true es cells = some (.pointer (some ⟨t, 0, some 0⟩), s')

/-- What is asked of a maker of blocks. -/
def NewOK (J : Inj) (s : St) (w : World) (mk : Maker) : Prop := ∀ (loc : Bool) (es : Nat) (cells : List Value) (cs : Array Value) (v : Value) (s' : St) (e : TypeId), mk loc es cells = some (v, s') → CR J.g cells cs 0 →
  ∃ J', Good J s w J' s' (w.alloc (.cells cs e)) ∧ (∀ t L, J.l t = some L → J'.l t = some L) ∧ VR J' v (.pointer (some ⟨w.heap.size, 0, none⟩)) ∧ s'.env = s.env ∧
    (loc = false → ∃ id, v = .pointer (some ⟨id, 0, none⟩) ∧ J'.g id = some ⟨w.heap.size, 0, cs.size, es⟩) ∧ Adds (fun k => loc = false ∧ NewBy mk k) J.g J'.g ∧ Adds (fun t => loc = true ∧ NewByL mk t) J.l J'.l

theorem HR.newAtOK {J : Inj} {s : St} {w : World} (h : HR J s w) {id tag : Nat} (hid : id < s.h.next) (hJ : J.g id = none) (htag : tag < s.kn) (hT : J.l tag = none) : NewOK J s w (s.newAt id tag) := by
  intro loc es cells cs v s' e hs hv
  obtain ⟨J', a1, a2, a3, a4, _, a6, a7, a8⟩ := h.newAt (fun _ => ⟨hid, hJ⟩) (fun _ => ⟨htag, hT⟩) hs hv e
  refine ⟨J', a1, a2, a3, a4, fun hl => ⟨id, a6 hl⟩, fun k L hk => (a7 k L hk).imp (fun q => q) ?_, fun t L ht => (a8 t L ht).imp (fun q => q) ?_⟩
  · rintro ⟨hl, rfl⟩
    have := (a6 hl).1
    subst hl; subst this
    exact ⟨rfl, _, _, _, hs⟩
  · rintro ⟨hl, rfl, rfl⟩
    subst hl
    exact ⟨rfl, _, _, _, hs⟩

/-- A new block. -/
theorem HR.new {J : Inj} {s s' : St} {w : World} (h : HR J s w) {loc : Bool} {es : Nat} {cells : List Value} {cs : Array Value} {v : Value} (hs : s.new loc es cells = some (v, s')) (hv : CR J.g cells cs 0) (e : TypeId) :
    ∃ J', Good J s w J' s' (w.alloc (.cells cs e)) ∧ (∀ t L, J.l t = some L → J'.l t = some L) ∧ VR J' v (.pointer (some ⟨w.heap.size, 0, none⟩)) ∧ s'.env = s.env ∧
      (loc = false → v = .pointer (some ⟨s.h.next, 0, none⟩) ∧ J'.g s.h.next = some ⟨w.heap.size, 0, cs.size, es⟩) ∧ (∀ k L, J'.g k = some L → J.g k = some L ∨ (loc = false ∧ k = s.h.next)) ∧ (∀ t L, J'.l t = some L → J.l t = some L ∨ (loc = true ∧ t = s.kn ∧ v = .pointer (some ⟨s.kn, 0, some 0⟩))) := by
  have hJ : J.g s.h.next = none := by
    cases hx : J.g s.h.next with
    | none => rfl
    | some L => have := h.gdom _ _ hx; omega
  have hT : J.l s.kn = none := by
    cases hx : J.l s.kn with
    | none => rfl
    | some L => have := h.ldom _ _ hx; omega
  unfold St.new at hs
  cases hok : cells.all cellOK with
  | false => rw [hok] at hs; simp at hs
  | true =>
    rw [hok] at hs
    simp only [cond_true] at hs
    cases loc with
    | false =>
      simp only [cond_false, Option.some.injEq, Prod.mk.injEq] at hs
      obtain ⟨rfl, rfl⟩ := hs
      have hk := Good.keepNos h 1 0
      obtain ⟨J', a1, a2, a3, a4, a5, a6, a7, a8⟩ := hk.hr.newAt (id := s.h.next) (tag := s.kn) (loc := false) (fun _ => ⟨by simp, hJ⟩) (fun h => by cases h) (es := es) (by unfold St.newAt; rw [hok]; rfl) hv e
      exact ⟨J', hk.trans a1, a2, a3, rfl, a6, a7, a8⟩
    | true =>
      simp only [cond_true, Option.some.injEq, Prod.mk.injEq] at hs
      obtain ⟨rfl, rfl⟩ := hs
      have hk := Good.keepNos h 0 1
      obtain ⟨J', a1, a2, a3, a4, a5, a6, a7, a8⟩ := hk.hr.newAt (id := s.h.next) (tag := s.kn) (loc := true) (fun h => by cases h) (fun _ => ⟨by simp, hT⟩) (es := es) (by unfold St.newAt; rw [hok]; rfl) hv e
      exact ⟨J', hk.trans a1, a2, a3, rfl, (fun h => by cases h), a7, a8⟩

theorem HR.newOK {J : Inj} {s : St} {w : World} (h : HR J s w) : NewOK J s w s.new := by
  intro loc es cells cs v s' e hs hv
  obtain ⟨J', a1, a2, a3, a4, a6, a7, a8⟩ := h.new hs hv e
  refine ⟨J', a1, a2, a3, a4, fun hl => ⟨s.h.next, a6 hl⟩, fun k L hk => (a7 k L hk).imp (fun q => q) ?_, fun t L ht => (a8 t L ht).imp (fun q => q) ?_⟩
  · rintro ⟨hl, rfl⟩
    have := (a6 hl).1
    subst hl; subst this
    exact ⟨rfl, _, _, _, hs⟩
  · rintro ⟨hl, rfl, rfl⟩
    subst hl
    exact ⟨rfl, _, _, _, hs⟩

end Go.Sim
