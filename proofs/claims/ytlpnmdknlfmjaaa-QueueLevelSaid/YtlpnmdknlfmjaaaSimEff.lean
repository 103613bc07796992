/-
  WHAT ONE OPERATION OF A REGION THAT DRAWS DOES: its effect, and on what it hangs.
-/
import Derived.Test.YtlpnmdknlfmjaaaSimKeep
namespace Go.Sim
set_option linter.unusedSimpArgs false

theorem evalA_congr {s s2 : St} (h : s2.env = s.env) : evalA s2 = evalA s := by
  funext x; cases x <;> simp [evalA, h]
theorem evalsA_congr {s s2 : St} (h : s2.env = s.env) : evalsA s2 = evalsA s := by
  funext l
  induction l with
  | nil => rfl
  | cons x l ih => simp only [evalsA, evalA_congr h, ih]
theorem evalParts_congr {s s2 : St} (h : s2.env = s.env) : evalParts s2 = evalParts s := by
  funext l
  induction l with
  | nil => rfl
  | cons x l ih => obtain ⟨i, x⟩ := x; simp only [evalParts, evalA_congr h, ih]
theorem evalOpt_congr {s s2 : St} (h : s2.env = s.env) : evalOpt s2 = evalOpt s := by
  funext x; cases x <;> simp only [evalOpt, evalA_congr h]

inductive Eff where
  | idle
  | setG (b : Nat) (blk : Blk) (lw : Bool)
  | setL (t : Nat) (cs : List Value)

def Eff.apply : Eff → St → St
  | .idle, s => s
  | .setG b blk lw, s => { s with h := { next := s.h.next, low := bif lw then Nat.min s.h.low b else s.h.low, m := s.h.m.set b blk } }
  | .setL t cs, s => { s with K := s.K.set t cs }

def Eff.fits : Eff → FP → Bool → Prop
  | .idle, x, st => (∀ l b, x ≠ .new l b) ∧ st = false
  | .setG b blk lw, x, st => (x = .block false b ∧ st = true ∧ lw = true ∧ ∃ es cs, blk = .live true es cs) ∨ (x = .new false b ∧ st = false ∧ lw = false ∧ ∃ es cs, blk = .live true es cs)
  | .setL t _, x, st => (x = .block true t ∧ st = true) ∨ (x = .new true t ∧ st = false)

theorem newAt_eff {s s' : St} {id tag : Nat} {loc : Bool} {es : Nat} {cells : List Value} {v : Value} (h : s.newAt id tag loc es cells = some (v, s')) :
    (loc = false ∧ s' = (Eff.setG id (.live true es cells) false).apply s ∧ v = .pointer (some ⟨id, 0, none⟩) ∧ ∀ s2 : St, s2.newAt id tag loc es cells = some (v, (Eff.setG id (.live true es cells) false).apply s2)) ∨
    (loc = true ∧ s' = (Eff.setL tag cells).apply s ∧ ∀ s2 : St, s2.newAt id tag loc es cells = some (v, (Eff.setL tag cells).apply s2)) := by
  unfold St.newAt at h
  cases hc : cells.all cellOK with
  | false => rw [hc] at h; simp at h
  | true =>
    rw [hc] at h
    cases loc with
    | false =>
      simp only [cond_true, cond_false, Option.some.injEq, Prod.mk.injEq] at h
      obtain ⟨rfl, rfl⟩ := h
      exact .inl ⟨rfl, rfl, rfl, fun s2 => by unfold St.newAt; rw [hc]; rfl⟩
    | true =>
      simp only [cond_true, Option.some.injEq, Prod.mk.injEq] at h
      obtain ⟨rfl, rfl⟩ := h
      exact .inr ⟨rfl, rfl, fun s2 => by unfold St.newAt; rw [hc]; rfl⟩

/-- Cells alike: reads alike. -/
theorem loadA_congr {P : Program} {s s2 : St} {t : TypeId} {a : Addr} (h : s2.cells? a = s.cells? a) : loadA P s2 t a = loadA P s t a := by
  unfold loadA St.read
  rw [h]

theorem write_eff {s s' : St} {a : Addr} {vs : List Value} (h : s.write a vs = some s') :
    (a.spot = none ∧ ∃ blk es cs, blk = .live true es cs ∧ s' = (Eff.setG a.block blk true).apply s ∧ (∃ es0 cs0, s.h.m.get a.block = some (.live true es0 cs0)) ∧ ∀ s2 : St, s2.h.m.get a.block = s.h.m.get a.block → s2.write a vs = some ((Eff.setG a.block blk true).apply s2)) ∨
    (a.spot.isSome = true ∧ ∃ cs, s' = (Eff.setL a.block cs).apply s ∧ ∀ s2 : St, s2.kn = s.kn → s2.K.get a.block = s.K.get a.block → s2.write a vs = some ((Eff.setL a.block cs).apply s2)) := by
  unfold St.write at h
  cases hok : vs.all cellOK with
  | false => rw [hok] at h; simp at h
  | true =>
    rw [hok] at h
    simp only [cond_true] at h
    cases hsp : a.spot with
    | none =>
      left
      rw [hsp] at h
      simp only [] at h
      split at h
      · rename_i h' hw
        simp only [Option.some.injEq] at h; subst h
        unfold AHeap.write at hw
        split at hw
        · rename_i es cs hm
          split at hw
          · rename_i cs' hsl
            simp only [Option.some.injEq] at hw; subst hw
            refine ⟨rfl, .live true es cs', es, cs', rfl, rfl, ⟨es, cs, hm⟩, fun s2 h2 => ?_⟩
            unfold St.write AHeap.write
            rw [hok, hsp]
            simp only [cond_true, h2, hm, hsl]
            rfl
          · cases hw
        · cases hw
      · cases h
    | some x =>
      right
      rw [hsp] at h
      simp only [] at h
      cases hb : Nat.blt a.block s.kn with
      | false => rw [hb] at h; simp at h
      | true =>
        rw [hb] at h
        simp only [cond_true] at h
        split at h
        · rename_i cs hK
          split at h
          · rename_i cs' hsl
            simp only [Option.some.injEq] at h; subst h
            refine ⟨rfl, cs', rfl, fun s2 h1 h2 => ?_⟩
            unfold St.write
            rw [hok, hsp]
            simp only [cond_true, h1, hb, h2, hK, hsl]
            simp only [Eff.apply, h1]
          · cases h
        · cases h

theorem opA_eff {P : Program} {s s' : St} {id tag : Nat} {loc : Bool} {op : Op} {v : Value} (hA : fpOf op loc id tag s ≠ .all) (h : opA P (s.newAt id tag) loc op s = some (v, s')) :
    ∃ E : Eff, s' = E.apply s ∧ E.fits (fpOf op loc id tag s) (isStore op) ∧
      ∀ s2 : St, s2.env = s.env → s2.kn = s.kn → (∀ b, fpOf op loc id tag s = .block false b → s2.h.m.get b = s.h.m.get b) → (∀ t, fpOf op loc id tag s = .block true t → s2.K.get t = s.K.get t) →
        opA P (s2.newAt id tag) loc op s2 = some (v, E.apply s2) := by
  by_cases hp : pureOp op = true
  · -- pure
    have hfp : fpOf op loc id tag s = .none := by unfold fpOf; rw [hp]; rfl
    have key : s' = s ∧ ∀ s2 : St, s2.env = s.env → opA P (s2.newAt id tag) loc op s2 = some (v, s2) := by
      unfold opA at h
      split at h
      all_goals first | (exfalso; simp [pureOp] at hp; done) | skip
      all_goals repeat' split at h
      all_goals first
        | (cases h; done)
        | (simp only [Option.some.injEq, Prod.mk.injEq] at h
           obtain ⟨rfl, rfl⟩ := h
           exact ⟨rfl, fun s2 he => by simp_all [opA, evalA_congr he, evalsA_congr he, evalParts_congr he, evalOpt_congr he]⟩)
        | (simp only [Bool.cond_eq_ite] at h
           split at h
           · rename_i h1 h2 hcnd
             simp only [Option.some.injEq, Prod.mk.injEq] at h
             obtain ⟨rfl, rfl⟩ := h
             exact ⟨rfl, fun s2 he => by simp only [opA, evalsA_congr he, h1, h2, hcnd, cond_true]⟩
           · cases h)
        | (exfalso; simp [pureOp] at hp; done)
    refine ⟨.idle, key.1, ⟨fun l b => by rw [hfp]; simp, ?_⟩, fun s2 he _ _ _ => key.2 s2 he⟩
    cases op <;> first | rfl | simp [pureOp] at hp
  · have hp' : pureOp op = false := by simpa using hp
    unfold opA at h
    split at h
    all_goals first | (exfalso; simp [pureOp] at hp; done) | skip
    · -- alloc
      rename_i e
      split at h
      · rename_i z n hz hn
        have hfp : fpOf (.alloc e) loc id tag s = bif loc then .new true tag else .new false id := rfl
        rcases newAt_eff h with ⟨rfl, h1, _, h2⟩ | ⟨rfl, h1, h2⟩
        · exact ⟨_, h1, .inr ⟨hfp, rfl, rfl, _, _, rfl⟩, fun s2 _ _ _ _ => by simp only [opA, hz, hn]; exact h2 s2⟩
        · exact ⟨_, h1, .inr ⟨hfp, rfl⟩, fun s2 _ _ _ _ => by simp only [opA, hz, hn]; exact h2 s2⟩
      · cases h
    · -- box
      rename_i e x
      split at h
      · rename_i u n hu hn
        have hfp : fpOf (.box e x) loc id tag s = bif loc then .new true tag else .new false id := rfl
        rcases newAt_eff h with ⟨rfl, h1, _, h2⟩ | ⟨rfl, h1, h2⟩
        · exact ⟨_, h1, .inr ⟨hfp, rfl, rfl, _, _, rfl⟩, fun s2 he _ _ _ => by simp only [opA, evalA_congr he, hu, hn]; exact h2 s2⟩
        · exact ⟨_, h1, .inr ⟨hfp, rfl⟩, fun s2 he _ _ _ => by simp only [opA, evalA_congr he, hu, hn]; exact h2 s2⟩
      · cases h
    · -- buildSlice
      rename_i t len parts
      split at h
      · rename_i l hl
        have hfp : fpOf (.buildSlice t len parts) loc id tag s = .new false id := rfl
        have h9 := h
        unfold buildSliceA at h
        split at h
        · rename_i e hu
          split at h
          · rename_i n z hn hz
            cases hb : (Nat.ble (len * n) 16777216 && Nat.beq z.cells.toList.length n && Nat.ble len 16777216) with
            | false => rw [hb] at h; simp at h
            | true =>
              rw [hb] at h
              simp only [cond_true] at h
              split at h
              · rename_i cs hcs
                split at h
                · rename_i a s1 hnew
                  simp only [Option.some.injEq, Prod.mk.injEq] at h
                  obtain ⟨rfl, rfl⟩ := h
                  rcases newAt_eff hnew with ⟨_, h1, h3, h2⟩ | ⟨q, _⟩
                  · exact ⟨_, h1, .inr ⟨hfp, rfl, rfl, _, _, rfl⟩, fun s2 he _ _ _ => by simp only [opA, evalParts_congr he, hl, buildSliceA, hu, hn, hz, hb, cond_true, hcs, h2 s2]⟩
                  · cases q
                · cases h
              · cases h
          · cases h
        · cases h
      · cases h
    · -- load
      rename_i t x
      split at h
      · rename_i a hu
        split at h
        · rename_i u hv
          simp only [Option.some.injEq, Prod.mk.injEq] at h
          obtain ⟨rfl, rfl⟩ := h
          have hfp : fpOf (.load t x) loc id tag s = .block a.spot.isSome a.block := by simp only [fpOf, pureOp, cond_false, hu]
          refine ⟨.idle, rfl, ⟨fun l b => by rw [hfp]; simp, rfl⟩, fun s2 he hk hb ht => ?_⟩
          have hcells : s2.cells? a = s.cells? a := by
            unfold St.cells?
            cases hsp : a.spot with
            | none =>
              simp only [AHeap.cells?]
              rw [hb a.block (by rw [hfp, hsp]; rfl)]
            | some y =>
              simp only [hk]
              rw [ht a.block (by rw [hfp, hsp]; rfl)]
          simp only [opA, evalA_congr he, hu, loadA_congr hcells, hv]
          rfl
        · cases h
      · cases h
    · -- store
      rename_i t x y
      split at h
      · rename_i a u hx hy
        split at h
        · rename_i s1 hs1
          simp only [Option.some.injEq, Prod.mk.injEq] at h
          obtain ⟨rfl, rfl⟩ := h
          have hfp : fpOf (.store t x y) loc id tag s = .block a.spot.isSome a.block := by simp only [fpOf, pureOp, cond_false, hx]
          unfold storeA at hs1
          split at hs1
          · rename_i n hn
            cases hbq : Nat.beq u.cells.toList.length n with
            | false => rw [hbq] at hs1; simp at hs1
            | true =>
              rw [hbq] at hs1
              simp only [cond_true] at hs1
              rcases write_eff hs1 with ⟨hsp, blk, es, cs, hblk, h1, _, h2⟩ | ⟨hsp, cs, h1, h2⟩
              · refine ⟨_, h1, .inl ⟨by rw [hfp, hsp]; rfl, rfl, rfl, es, cs, hblk⟩, fun s2 he hk hb ht => ?_⟩
                have := h2 s2 (hb a.block (by rw [hfp, hsp]; rfl))
                simp only [opA, evalA_congr he, hx, hy, storeA, hn, hbq, cond_true, this]
              · refine ⟨_, h1, .inl ⟨by rw [hfp, hsp], rfl⟩, fun s2 he hk hb ht => ?_⟩
                have := h2 s2 hk (ht a.block (by rw [hfp, hsp]))
                simp only [opA, evalA_congr he, hx, hy, storeA, hn, hbq, cond_true, this]
          · cases hs1
        · cases h
      · cases h
    · -- makeSlice
      rename_i t l c
      split at h
      · rename_i u1 u2 hu1 hu2
        have hfp : fpOf (.makeSlice t l c) loc id tag s = .new false id := rfl
        unfold makeSliceA at h
        split at h
        · rename_i e k1 l' k2 c' hu
          split at h
          · rename_i n z by_ hn hz hby
            split at h
            · rename_i hcond
              split at h
              · rename_i a s1 hnew
                simp only [Option.some.injEq, Prod.mk.injEq] at h
                obtain ⟨rfl, rfl⟩ := h
                rcases newAt_eff hnew with ⟨_, h1, h3, h2⟩ | ⟨q, _⟩
                · exact ⟨_, h1, .inr ⟨hfp, rfl, rfl, _, _, rfl⟩, fun s2 he _ _ _ => by simp only [opA, evalA_congr he, hu1, hu2, makeSliceA, hu, hn, hz, hby]; rw [if_pos hcond]; simp only [h2 s2]⟩
                · cases q
              · cases h
            · cases h
          · cases h
        · cases h
      · cases h
    · -- builtins
      rename_i b args argTypes
      exfalso
      apply hA
      cases b <;> first | (simp [pureOp] at hp'; done) | rfl
    · cases h

end Go.Sim
