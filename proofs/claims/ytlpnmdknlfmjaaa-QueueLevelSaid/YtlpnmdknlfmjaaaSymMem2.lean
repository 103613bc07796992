/-
  MORE FACTS ON HEAPS: append leaves other blocks alone.
-/
import Derived.Test.YtlpnmdknlfmjaaaSymMem
namespace Go.Sim
set_option linter.unusedVariables false
set_option linter.unusedSimpArgs false

theorem append_keep {P : Program} {t t2 e es : Nat} (hT : SliceT P t e es) (ht2 : P.underlying t2 = some (.slice e)) {h : AHeap} {a a2 : Option Addr} {n c n2 c2 : Nat} {cells news : List Value} (hp : Apd h es a n c cells) (hs : Cells h a2 n2 es news) (hok : cells.all cellOK = true) (hok2 : news.all cellOK = true) (hn2 : 0 < n2) (hbig : n + n2 ≤ 1000000) :
    ∃ a' c' h', appendH P h [t, t2] [.slice a n c, .slice a2 n2 c2] = some (.slice a' (n + n2) c', h') ∧ Apd h' es a' (n + n2) c' (cells ++ news) ∧ (∀ h0, Ext h0 h → From h0.next a → Ext h0 h' ∧ From h0.next a') ∧ h.next ≤ h'.next ∧ From h.next a' ∧ ∀ i, i < h.next → (∀ ad, a = some ad → ad.block ≠ i) → h'.m.get i = h.m.get i := by
  obtain ⟨by_, hby, hby2⟩ := hT.bytes
  obtain ⟨z, hz, hz2⟩ := hT.zero
  have hnl := hs.length
  have hnews : newsA P h e es false (.slice a2 n2 c2) = some (n2, news) := by
    unfold newsA
    simp only [cond_false]
    cases a2 with
    | none => obtain ⟨rfl, rfl⟩ := hs; omega
    | some ad =>
      obtain ⟨h1, h2, h3⟩ := hs
      simp only [h3]
  unfold appendH
  simp only [hT.und, hT.size, hby, ht2, hz, isIntDesc, hnews]
  rcases hp with ⟨rfl, rfl, rfl, rfl⟩ | ⟨b, rfl, rfl, hb, hl, ho⟩
  · have e1 : capLow 0 = 0 := rfl
    rw [e1, ble_false (by omega)]
    simp only [cond_false]
    rw [ble_true (show 0 + n2 ≤ 1073741824 by omega), ble_true hby2, hok2, hz2, hnl]
    simp only [Bool.and_self, Nat.beq_refl, cond_true]
    refine ⟨_, _, _, rfl, .inr ⟨h.next, rfl, rfl, by simp [AHeap.push], by simp [hnl], ?_⟩, fun h0 e0 f0 => ⟨e0.trans (.push _ _ _), ?_⟩, ?_, ?_, ?_⟩
    · rw [List.nil_append]; exact Own.push _ _ _
    · intro ad had
      cases had
      exact e0.next
    · exact Nat.le_succ _
    · intro ad had
      cases had
      exact Nat.le_refl _
    · intro i hi _
      show (h.m.set h.next _).get i = _
      rw [Tri.get_set_ne _ _ (by omega)]
  · have e1 : capLow (someCap es n) = n := capLow_some (by unfold slack; omega)
    rw [e1, ble_false (by omega)]
    simp only [cond_false]
    rw [ble_true (show n + n2 ≤ 1073741824 by omega), ble_true hby2, hok2, hz2, hnl]
    simp only [Bool.and_self, Nat.beq_refl, cond_true]
    have hr : h.readG ⟨b, 0, none⟩ (n * es) = some cells := by rw [ho.readG (by omega)]; simp [← hl]
    simp only [hr]
    rw [blt_false (someCap_ge es n), hok]
    simp only [cond_false, cond_true]
    rw [show h.m.get b = some (.live true es cells) from ho]
    simp only [Nat.beq_refl, cond_true]
    refine ⟨_, _, _, rfl, .inr ⟨h.next, rfl, rfl, by simp [AHeap.push, AHeap.kill], by simp [hnl, hl, Nat.add_mul], ?_⟩, fun h0 e0 f0 => ⟨?_, ?_⟩, ?_, ?_, ?_⟩
    · exact Own.push (h.kill b) es _
    · exact (e0.kill (f0 _ rfl)).trans (.push _ _ _)
    · intro ad had
      cases had
      exact e0.next
    · exact Nat.le_succ _
    · intro ad had
      cases had
      exact Nat.le_refl _
    · intro i hi hne
      show ((h.m.set b _).set h.next _).get i = _
      rw [Tri.get_set_ne _ _ (by omega), Tri.get_set_ne _ _ (hne _ rfl)]


theorem Own.of_get {h h' : AHeap} {b es : Nat} {cells : List Value} (c : Own h b es cells) (e : h'.m.get b = h.m.get b) : Own h' b es cells := by
  unfold Own at c ⊢; rw [e]; exact c

theorem Apd.of_get {h h' : AHeap} {es : Nat} {a : Option Addr} {n c : Nat} {cells : List Value} (p : Apd h es a n c cells) (hn : h.next ≤ h'.next) (e : ∀ ad, a = some ad → ad.block < h.next → h'.m.get ad.block = h.m.get ad.block) : Apd h' es a n c cells := by
  rcases p with ⟨rfl, rfl, rfl, rfl⟩ | ⟨b, rfl, rfl, hb, hl, ho⟩
  · exact .nil _ _
  · exact .inr ⟨b, rfl, rfl, Nat.lt_of_lt_of_le hb hn, hl, ho.of_get (e _ rfl hb)⟩

theorem Apd.lt {h : AHeap} {es : Nat} {a : Option Addr} {n c : Nat} {cells : List Value} (p : Apd h es a n c cells) : ∀ ad, a = some ad → ad.block < h.next := by
  rcases p with ⟨rfl, rfl, rfl, rfl⟩ | ⟨b, rfl, rfl, hb, hl, ho⟩
  · intro ad h; cases h
  · intro ad h; cases h; exact hb

end Go.Sim
