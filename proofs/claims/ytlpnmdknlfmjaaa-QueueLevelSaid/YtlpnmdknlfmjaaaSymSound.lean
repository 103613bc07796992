/-
  THE SYMBOLIC RUNS SERVE: what 'wpS' says of a piece of code, the abstract machine does.
-/
import Derived.Test.YtlpnmdknlfmjaaaSymDefs
namespace Go.Sim
set_option linter.unusedSimpArgs false
set_option linter.unusedVariables false

theorem beq_eq (a b : Nat) : Nat.beq a b = decide (a = b) := by
  cases h : Nat.beq a b with
  | true => simp [Nat.eq_of_beq_eq_true h]
  | false => simp [Nat.ne_of_beq_eq_false h]

theorem condP {b : Bool} {A : Prop} (h : bif b then A else False) : b = true ∧ A := by
  cases b with
  | true => exact ⟨rfl, h⟩
  | false => exact h.elim

theorem E_get {α : Type} (l : List (Nat × α)) (t : Nat) : (E l).get t = lk l t := by
  induction l with
  | nil => rfl
  | cons p l ih =>
    obtain ⟨a, v⟩ := p
    simp only [E, lk, Tri.get_set, beq_eq, ih]
    by_cases h : a = t <;> simp [h]

theorem lk_cons {α : Type} (a : Nat) (v : α) (l : List (Nat × α)) (t : Nat) : lk ((a, v) :: l) t = if a = t then some v else lk l t := by
  simp only [lk, beq_eq]
  by_cases h : a = t <;> simp [h]

theorem lk_pickL {α : Type} (l : List (Nat × α)) : ∀ (ks : List Nat) (t : Nat) (v : α), lk (pickL l ks) t = some v → lk l t = some v
  | [], t, v, h => by cases h
  | k :: ks, t, v, h => by
    simp only [pickL] at h
    split at h
    · rename_i u hu
      rw [lk_cons] at h
      by_cases e : k = t
      · subst e; simp at h; subst h; exact hu
      · rw [if_neg e] at h; exact lk_pickL l ks t v h
    · exact lk_pickL l ks t v h

theorem Le.pruned {s : SS} {t : St} (h : Le s t) (l : Option (List Tmp)) : Le (pruned s l) t := by
  unfold Sim.pruned
  split
  · exact h
  · exact ⟨fun i v hv => h.env i v (lk_pickL _ _ _ _ hv), h.K, h.kn, h.h⟩

/-! ### Some value -/

theorem exS_ex {sv : Sv} {C : Value → Prop} (h : exS sv C) : ∃ v, C v := by
  cases sv <;> simp only [exS] at h
  · obtain ⟨n, h⟩ := h; exact ⟨_, h⟩
  · obtain ⟨n, h⟩ := h; exact ⟨_, h⟩
  · obtain ⟨n, h⟩ := h; exact ⟨_, h⟩
  · obtain ⟨a, n, c, h⟩ := h; exact ⟨_, h⟩
  · obtain ⟨a, n, h⟩ := h; exact ⟨_, h⟩
  · exact h

theorem exL_ex : ∀ {l : List Sv} {C : List Value → Prop}, exL l C → ∃ v, C v
  | [], C, h => ⟨[], h⟩
  | s :: r, C, h => by
    obtain ⟨v, h⟩ := exS_ex h
    obtain ⟨l, h⟩ := exL_ex h
    exact ⟨_, h⟩

theorem exV_ex {P : Unit → Program} {t : TypeId} {C : Value → Prop} (h : exV P t C) : ∃ v, C v := by
  unfold exV at h
  split at h
  · obtain ⟨l, h⟩ := exL_ex h; exact ⟨_, h⟩
  · exact exS_ex h

theorem exVs_ex {P : Unit → Program} : ∀ {l : List TypeId} {C : List Value → Prop}, exVs P l C → ∃ v, C v
  | [], C, h => ⟨[], h⟩
  | s :: r, C, h => by
    obtain ⟨v, h⟩ := exV_ex h
    obtain ⟨l, h⟩ := exVs_ex h
    exact ⟨_, h⟩

theorem seen_ex {P : Unit → Program} {t : TypeId} {v : Value} {C : Value → Prop} (h : seen P t v C) : C v := by
  unfold seen at h
  split at h
  · obtain ⟨l, e, h2⟩ := exVs_ex h; rw [e]; exact h2
  · obtain ⟨l, e, h2⟩ := exV_ex h; rw [e]; exact h2

theorem seenFor_ex {P : Unit → Program} {d : Option Tmp} {t : TypeId} {v : Value} {C : Value → Prop} (h : seenFor P d t v C) : C v := by
  unfold seenFor at h
  split at h
  · exact h
  · exact seen_ex h

/-! ### Operands -/

theorem Le.ev {s : SS} {t : St} (h : Le s t) {x : Operand} {v : Value} (hx : ev s x = some v) : evalA t x = some v := by
  cases x with
  | tmp i => exact h.env i v hx
  | const c => exact hx
  | global g => cases hx
  | func f => exact hx

theorem Le.evs {s : SS} {t : St} (h : Le s t) : ∀ {x : List Operand} {v : List Value}, evs s x = some v → evalsA t x = some v
  | [], v, hx => hx
  | x :: r, v, hx => by
    simp only [Sim.evs] at hx
    split at hx
    · rename_i u hu
      split at hx
      · rename_i l hl
        simp only [evalsA, h.ev hu, h.evs hl]; exact hx
      · cases hx
    · cases hx

theorem Le.evOpt {s : SS} {t : St} (h : Le s t) {x : Option Operand} {v : Option Value} (hx : evOpt s x = some v) : evalOpt t x = some v := by
  cases x with
  | none => exact hx
  | some x =>
    simp only [Sim.evOpt] at hx
    split at hx
    · rename_i u hu
      simp only [evalOpt, h.ev hu]; exact hx
    · cases hx

theorem Le.evParts {s : SS} {t : St} (h : Le s t) : ∀ {x : List (Nat × Operand)} {v : List (Nat × Value)}, evParts s x = some v → Sim.evalParts t x = some v
  | [], v, hx => hx
  | (i, x) :: r, v, hx => by
    simp only [Sim.evParts] at hx
    split at hx
    · rename_i u hu
      split at hx
      · rename_i l hl
        simp only [evalParts, h.ev hu, h.evParts hl]; exact hx
      · cases hx
    · cases hx

/-! ### What is done to a heap beside: nothing; or its mark is lowered -/

structure XOK (X : AHeap → AHeap) : Prop where
  m : ∀ h, (X h).m = h.m
  next : ∀ h, (X h).next = h.next
  write : ∀ h b o vs h2, (X h).write b o vs = some h2 → ∃ h1, h.write b o vs = some h1 ∧ X h1 = h2
  push : ∀ h es cs, X (h.push es cs) = (X h).push es cs
  putAt : ∀ h id es cs, X (h.putAt id es cs) = (X h).putAt id es cs

theorem XOK.id : XOK (fun h => h) := ⟨fun _ => rfl, fun _ => rfl, fun h b o vs h2 e => ⟨h2, e, rfl⟩, fun _ _ _ => rfl, fun _ _ _ _ => rfl⟩

theorem XOK.lowered (L : Nat) : XOK (fun h => h.lowered L) := by
  refine ⟨fun _ => rfl, fun _ => rfl, fun h b o vs h2 e => ?_, fun _ _ _ => rfl, fun _ _ _ _ => rfl⟩
  unfold AHeap.write at e ⊢
  simp only [AHeap.lowered] at e
  split at e
  · rename_i es cs hm
    split at e
    · rename_i cs' hs
      simp only [Option.some.injEq] at e
      refine ⟨_, rfl, ?_⟩
      subst e
      simp [AHeap.lowered, Nat.min_assoc]
    · cases e
  · cases e

def withX (X : AHeap → AHeap) (t : St) : St := { t with h := X t.h }

/-- A maker serves. -/
def MkOK (X : AHeap → AHeap) (mk : SMaker) (m : Maker) (s : SS) : Prop :=
  ∀ loc es cs C, cs.all cellOK = true → mk loc es cs s C → ∃ v t' s', m loc es cs = some (v, t') ∧ Le s' (withX X t') ∧ C v s'

theorem cells?_none (s : St) (b o : Nat) : s.cells? ⟨b, o, none⟩ = s.h.cells? b := rfl

section
variable {X : AHeap → AHeap} {s : SS} {t : St} {P0 : Program} {H0 : Hint} {F0 : Prims}

theorem wpRead_ok (hX : XOK X) (hs : Le s (withX X t)) {a : Addr} {n : Nat} {views : List Sv} {C : List Value → Prop} (h : wpRead (atomsOf P0 H0 F0) s a n views C) : ∃ l, t.read a n = some l ∧ C l := by
  unfold wpRead at h
  split at h
  · rename_i hsp
    obtain ⟨l, hr0, hC⟩ := exL_ex h
    have hr : s.h.readG ⟨a.block, a.off, none⟩ n = some l := hr0
    refine ⟨l, ?_, hC⟩
    unfold AHeap.readG at hr
    simp only [] at hr
    unfold St.read St.cells?
    rw [hsp]
    simp only []
    have e : s.h.cells? a.block = t.h.cells? a.block := by
      rw [← hs.h]; unfold AHeap.cells?; rw [show (withX X t).h.m = t.h.m from hX.m _]
    rw [e] at hr
    exact hr
  · rename_i x hsp
    cases hb : Nat.blt a.block s.kn with
    | false => rw [hb] at h; exact absurd h (by simp)
    | true =>
      rw [hb] at h
      simp only [cond_true] at h
      split at h
      · rename_i cs hcs
        split at h
        · rename_i l hl
          refine ⟨l, ?_, h⟩
          unfold St.read St.cells?
          rw [hsp]
          simp only []
          rw [show t.kn = s.kn from hs.kn, hb, show t.K.get a.block = some cs from hs.K _ _ hcs]
          simp only [cond_true]
          exact hl
        · exact h.elim
      · exact h.elim

theorem wpLoad_ok {P : Unit → Program} (hX : XOK X) (hs : Le s (withX X t)) {a : Addr} {ty : TypeId} {C : Value → Prop} (h : wpLoad P (atomsOf P0 H0 F0) s ty a C) : ∃ v, loadA (P ()) t ty a = some v ∧ C v := by
  unfold wpLoad at h
  unfold loadA
  split at h
  · rename_i hagg
    split at h
    · rename_i n hn
      obtain ⟨l, hr, hC⟩ := wpRead_ok hX hs h
      simp only [hagg, hn, hr]
      exact ⟨_, rfl, hC⟩
    · exact h.elim
  · rename_i hagg
    obtain ⟨l, hr, hC⟩ := wpRead_ok hX hs h
    simp only [hagg, hr]
    split at hC
    · exact ⟨_, rfl, hC⟩
    · exact hC.elim
  · exact h.elim

theorem wpWrite_ok (hX : XOK X) (hs : Le s (withX X t)) {a : Addr} {vs : List Value} {C : SS → Prop} (h : wpWrite (atomsOf P0 H0 F0) s a vs C) : ∃ t' s', t.write a vs = some t' ∧ Le s' (withX X t') ∧ C s' := by
  unfold wpWrite at h
  unfold St.write
  cases hok : vs.all cellOK with
  | false => rw [hok] at h; exact absurd h (by simp)
  | true =>
    rw [hok] at h
    simp only [cond_true] at h ⊢
    split at h
    · rename_i hsp
      obtain ⟨h', hw0, hC⟩ := h
      have hw : s.h.write a.block a.off vs = some h' := hw0
      rw [show s.h = X t.h from hs.h.symm] at hw
      obtain ⟨h1, hw1, rfl⟩ := hX.write _ _ _ _ _ hw
      simp only [hsp, hw1]
      exact ⟨{ t with h := h1 }, { s with h := X h1 }, rfl, ⟨hs.env, hs.K, hs.kn, rfl⟩, hC⟩
    · rename_i x hsp
      cases hb : Nat.blt a.block s.kn with
      | false => rw [hb] at h; exact absurd h (by simp)
      | true =>
        rw [hb] at h
        simp only [cond_true] at h
        split at h
        · rename_i cs hcs
          split at h
          · rename_i cs' hs'
            rw [show t.kn = s.kn from hs.kn, hb, show t.K.get a.block = some cs from hs.K _ _ hcs]
            simp only [hsp, cond_true, hs']
            refine ⟨_, { s with K := (a.block, cs') :: s.K }, rfl, ⟨hs.env, fun i v hv => ?_, rfl, hs.h⟩, h⟩
            rw [lk_cons] at hv
            show (t.K.set a.block cs').get i = some v
            rw [Tri.get_set]
            by_cases e : a.block = i
            · rw [if_pos e] at hv ⊢; exact hv
            · rw [if_neg e] at hv ⊢; exact hs.K _ _ hv
          · exact h.elim
        · exact h.elim

theorem wpStore_ok {P : Unit → Program} (hX : XOK X) (hs : Le s (withX X t)) {a : Addr} {ty : TypeId} {v : Value} {C : SS → Prop} (h : wpStore P (atomsOf P0 H0 F0) s ty a v C) : ∃ t' s', storeA (P ()) t ty a v = some t' ∧ Le s' (withX X t') ∧ C s' := by
  unfold wpStore at h
  unfold storeA
  split at h
  · rename_i n hn
    rw [hn]
    obtain ⟨hb, h⟩ := condP h
    simp only [hb, cond_true]
    exact wpWrite_ok hX hs h
  · exact h.elim

end

theorem kindEq_eq {k k' : IntKind} (h : kindEq k k' = true) : k = k' := of_decide_eq_true h

theorem wpInt_ok {P0 : Program} {H0 : Hint} {F0 : Prims} {P : Unit → Program} {op : BinOp} {ty : TypeId} {k k' : IntKind} {a b : Int} {C : Value → Prop} (h : wpInt (atomsOf P0 H0 F0) op k k' a b C) : ∃ v, binA (P ()) op ty (.int k a) (.int k' b) = some v ∧ C v := by
  unfold wpInt at h
  unfold binA
  simp only []
  split at h
  · obtain ⟨h0, hC⟩ := h
    have h0' : 0 ≤ b := h0
    refine ⟨_, ?_, hC⟩
    simp only [shiftOp]; rw [if_neg (by omega)]; rfl
  · obtain ⟨h0, hC⟩ := h
    have h0' : 0 ≤ b := h0
    refine ⟨_, ?_, hC⟩
    simp only [shiftOp]; rw [if_neg (by omega)]; rfl
  · obtain ⟨hk, h0, hC⟩ := condP h
    have h0' : b ≠ 0 := h0
    refine ⟨_, ?_, hC⟩
    simp only [intOp]; rw [if_pos (kindEq_eq hk), if_neg h0']; rfl
  · obtain ⟨hk, h0, hC⟩ := condP h
    have h0' : b ≠ 0 := h0
    refine ⟨_, ?_, hC⟩
    simp only [intOp]; rw [if_pos (kindEq_eq hk), if_neg h0']; rfl
  all_goals first
    | exact h.elim
    | (obtain ⟨hk, hC⟩ := condP h
       refine ⟨_, ?_, hC⟩
       simp only [intOp]; rw [if_pos (kindEq_eq hk)]; rfl)

theorem wpStr_ok {P0 : Program} {H0 : Hint} {F0 : Prims} {op : BinOp} {a b : ByteArray} {C : Value → Prop} (h : wpStr (atomsOf P0 H0 F0) op a b C) : ∃ v, strOp op a b = some v ∧ C v := by
  unfold wpStr at h
  split at h
  · obtain ⟨h0, hC⟩ := h
    refine ⟨_, ?_, hC⟩
    simp only [strOp]; rw [ble_true h0]; rfl
  all_goals first
    | exact h.elim
    | exact ⟨_, rfl, h⟩

theorem wpBin_ok {H0 : Hint} {F0 : Prims} {P : Unit → Program} {op : BinOp} {ty : TypeId} {x y : Value} {C : Value → Prop} (h : wpBin P (atomsOf (P ()) H0 F0) op ty x y C) : ∃ v, binA (P ()) op ty x y = some v ∧ C v := by
  unfold wpBin at h
  split at h
  · exact wpInt_ok h
  · exact wpStr_ok h
  · rename_i a b
    unfold binA
    simp only []
    split at h
    · rename_i hu
      simp only [hu]
      exact ⟨_, rfl, h⟩
    · rename_i hu
      simp only [hu]
      exact ⟨_, rfl, h⟩
    · exact h.elim
  · rename_i a b
    unfold binA
    simp only [binFall, eqShape, Bool.true_and]
    split at h
    · obtain ⟨h0, r, hr, hC⟩ := h
      refine ⟨_, ?_, hC⟩
      rw [h0]; simp only [Bool.not_false, cond_true, hr]
    · obtain ⟨h0, r, hr, hC⟩ := h
      refine ⟨_, ?_, hC⟩
      rw [h0]; simp only [Bool.not_false, cond_true, hr]; rfl
    · exact h.elim
  · split at h
    · rename_i v hv
      exact ⟨v, hv, h⟩
    · exact h.elim

theorem wpUn_ok {P0 : Program} {H0 : Hint} {F0 : Prims} {op : UnOp} {x : Value} {C : Value → Prop} (h : wpUn (atomsOf P0 H0 F0) op x C) : ∃ v, unA op x = some v ∧ C v := by
  unfold wpUn at h
  split at h
  · exact ⟨_, rfl, h⟩
  · exact ⟨_, rfl, h⟩
  · split at h
    · rename_i v hv; exact ⟨v, hv, h⟩
    · exact h.elim

theorem wpConv_ok {P0 : Program} {H0 : Hint} {F0 : Prims} {P : Unit → Program} {src dst : TypeId} {x : Value} {C : Value → Prop} (h : wpConv P (atomsOf P0 H0 F0) src dst x C) : ∃ v, convA (P ()) src dst x = some v ∧ C v := by
  unfold wpConv at h
  unfold convA
  split at h
  · rename_i h1 h2
    simp only [h1, h2]; exact ⟨_, rfl, h⟩
  · rename_i h1 h2
    simp only [h1, h2]; exact ⟨_, rfl, h⟩
  · exact h.elim

theorem wpLen_ok {P0 : Program} {H0 : Hint} {F0 : Prims} {P : Unit → Program} {ty : TypeId} {x : Value} {C : Value → Prop} (h : wpLen P (atomsOf P0 H0 F0) ty x C) : ∃ v, lenA (P ()) ty x = some v ∧ C v := by
  unfold wpLen at h
  unfold lenA
  split at h
  · rename_i h1
    simp only [h1]; exact ⟨_, rfl, h⟩
  · rename_i h1
    simp only [h1]; exact ⟨_, rfl, h⟩
  · rename_i h1
    simp only [h1]; exact ⟨_, rfl, h⟩
  · rename_i h1
    simp only [h1]
    split at h
    · rename_i h2
      simp only [h2]; exact ⟨_, rfl, h⟩
    · exact h.elim
  · exact h.elim

theorem wpMax_ok {P0 : Program} {H0 : Hint} {F0 : Prims} : ∀ {r : List Value} {x : Value} {C : Value → Prop}, wpFold (atomsOf P0 H0 F0).imax x r C → ∃ v, foldA max2A x r = some v ∧ C v
  | [], x, C, h => by simp only [wpFold] at h; exact ⟨x, rfl, h⟩
  | y :: r, x, C, h => by
    unfold wpFold at h
    split at h
    · rename_i e; cases e
    · rename_i k a k' b r' e
      simp only [List.cons.injEq] at e
      obtain ⟨rfl, rfl⟩ := e
      simp only [foldA, max2A]
      exact wpMax_ok h
    · exact h.elim

theorem wpMin_ok {P0 : Program} {H0 : Hint} {F0 : Prims} : ∀ {r : List Value} {x : Value} {C : Value → Prop}, wpFold (atomsOf P0 H0 F0).imin x r C → ∃ v, foldA min2A x r = some v ∧ C v
  | [], x, C, h => by simp only [wpFold] at h; exact ⟨x, rfl, h⟩
  | y :: r, x, C, h => by
    unfold wpFold at h
    split at h
    · rename_i e; cases e
    · rename_i k a k' b r' e
      simp only [List.cons.injEq] at e
      obtain ⟨rfl, rfl⟩ := e
      simp only [foldA, min2A]
      exact wpMin_ok h
    · exact h.elim

theorem wpSlice_ok {H0 : Hint} {F0 : Prims} {P : Unit → Program} {ty : TypeId} {x : Value} {lo hi mx : Option Value} {C : Value → Prop} (h : wpSlice P (atomsOf (P ()) H0 F0) ty x lo hi mx C) : ∃ v, sliceA (P ()) ty x lo hi mx = some v ∧ C v := by
  unfold wpSlice at h
  split at h
  · split at h
    · obtain ⟨r, hr, hC⟩ := h; exact ⟨_, hr, hC⟩
    · exact h.elim
  · rename_i e a n c hu
    split at h
    · rename_i k j
      obtain ⟨hz0, ⟨h0, h1⟩, hC⟩ := condP h
      obtain ⟨z, hz⟩ := Option.isSome_iff_exists.1 hz0
      refine ⟨_, ?_, hC⟩
      unfold sliceA
      rw [hu]
      simp only [hz, sliceS, boundMx, boundHi, boundLo, bound]
      rw [if_pos ⟨h0, h1⟩]
      simp only []
      rw [ble_true (show j.toNat ≤ capLow c by omega)]
      simp only [cond_true, Option.isSome_none, Bool.or_false, Nat.sub_zero, Nat.zero_mul]
      have hmap : a.map (aadd · 0) = a := by cases a <;> rfl
      by_cases hc : c < slack
      · rw [blt_true hc, capLow_lt hc, hmap]
        simp only [cond_true]
        cases Nat.beq c 0 <;> rfl
      · rw [blt_false (by omega)]
        rfl
    · obtain ⟨a', n', c', hr, hC⟩ := h; exact ⟨_, hr, hC⟩
  · obtain ⟨a', n', c', hr, hC⟩ := h; exact ⟨_, hr, hC⟩
  · exact h.elim

theorem wpIndexAddr_ok {P0 : Program} {H0 : Hint} {F0 : Prims} {P : Unit → Program} {ty : TypeId} {x ix : Value} {C : Value → Prop} (h : wpIndexAddr P (atomsOf P0 H0 F0) ty x ix C) : ∃ v, indexAddrA (P ()) ty x ix = some v ∧ C v := by
  unfold wpIndexAddr at h
  unfold indexAddrA
  split at h
  · rename_i hu
    split at h
    · rename_i n hn
      obtain ⟨⟨h0, h1⟩, hC⟩ := h
      simp only [hu, hn]
      rw [if_pos ⟨h0, h1⟩]
      exact ⟨_, rfl, hC⟩
    · exact h.elim
  · rename_i hu
    split at h
    · rename_i n hn
      obtain ⟨b, o, rfl, ⟨h0, h1⟩, hC⟩ := h
      simp only [hu, hn]
      rw [if_pos ⟨h0, h1⟩]
      exact ⟨_, rfl, hC⟩
    · exact h.elim
  · exact h.elim

theorem wpFieldAddr_ok {P0 : Program} {H0 : Hint} {F0 : Prims} {P : Unit → Program} {ty : TypeId} {x : Value} {f : Nat} {C : Value → Prop} (h : wpFieldAddr P (atomsOf P0 H0 F0) ty x f C) : ∃ v, fieldAddrA (P ()) ty x f = some v ∧ C v := by
  unfold wpFieldAddr at h
  unfold fieldAddrA
  split at h
  · rename_i fs a hu
    split at h
    · rename_i fd hfd
      split at h
      · rename_i n hn
        cases hb : Nat.beq n 0 with
        | true => rw [hb] at h; exact h.elim
        | false =>
          rw [hb] at h
          simp only [hu, hfd, hn, hb, cond_false] at h ⊢
          refine ⟨_, rfl, ?_⟩
          obtain ⟨b, o, sp⟩ := a
          cases sp <;> exact h
      · exact h.elim
    · exact h.elim
  · exact h.elim

theorem wpIndex_ok {H0 : Hint} {F0 : Prims} {P : Unit → Program} {ty : TypeId} {x ix : Value} {C : Value → Prop} (h : wpIndex P (atomsOf (P ()) H0 F0) ty x ix C) : ∃ v, indexA (P ()) ty x ix = some v ∧ C v := by
  unfold wpIndex at h
  unfold indexA
  split at h
  · rename_i hu
    split at h
    · rename_i n hn
      obtain ⟨⟨h0, h1⟩, hC⟩ := h
      obtain ⟨v, hv, hC⟩ := exV_ex hC
      simp only [hu, hn]
      rw [if_pos ⟨h0, h1⟩]
      refine ⟨v, ?_, hC⟩
      have hv' : partA (P ()) _ _ (0 + _) = some v := hv
      rw [Nat.zero_add] at hv'
      exact hv'
    · exact h.elim
  · rename_i hu
    obtain ⟨h0, b, hb, hC⟩ := h
    simp only [hu]
    rw [if_pos h0]
    simp only [hb]
    exact ⟨_, rfl, hC⟩
  · exact h.elim

theorem copies_all {z : List Value} (hz : z.all cellOK = true) : ∀ n, (copies z n).all cellOK = true
  | 0 => rfl
  | n + 1 => by simp only [copies, List.all_append, hz, copies_all hz n, Bool.and_self]

section
variable {P : Unit → Program} {X : AHeap → AHeap} {mk : SMaker} {m : Maker} {s : SS} {t : St} {P0 : Program} {H0 : Hint} {F0 : Prims}

theorem wpMakeSlice_ok (hm : MkOK X mk m s) {ty : TypeId} {l c : Value} {C : Value → SS → Prop} (h : wpMakeSlice P (atomsOf P0 H0 F0) mk ty l c s C) : ∃ v t' s', makeSliceA (P ()) m ty l c = some (v, t') ∧ Le s' (withX X t') ∧ C v s' := by
  unfold wpMakeSlice at h
  unfold makeSliceA
  split at h
  · rename_i hu
    split at h
    · rename_i n z by_ hn hz hby
      obtain ⟨hb, h⟩ := condP h
      simp only [Bool.and_eq_true] at hb
      obtain ⟨⟨hb1, hb2⟩, hb3⟩ := hb
      obtain ⟨⟨h0, h1, h2⟩, hC⟩ := h
      obtain ⟨v, t', s', hv, hl, hC⟩ := hm _ _ _ _ (copies_all hb3 _) hC
      simp only [hu, hn, hz, hby]
      rw [if_pos ⟨h0, h1, h2, Nat.le_of_ble_eq_true hb1, Nat.eq_of_beq_eq_true hb2⟩]
      rw [hv]
      split at hC
      · exact ⟨_, _, _, rfl, hl, hC⟩
      · exact hC.elim
    · exact h.elim
  · exact h.elim

theorem wpBuildSlice_ok (hm : MkOK X mk m s) {ty : TypeId} {len : Nat} {parts : List (Nat × Value)} {C : Value → SS → Prop} (h : wpBuildSlice P mk ty len parts s C) : ∃ v t' s', buildSliceA (P ()) m ty len parts = some (v, t') ∧ Le s' (withX X t') ∧ C v s' := by
  unfold wpBuildSlice at h
  unfold buildSliceA
  split at h
  · rename_i hu
    split at h
    · rename_i n z hn hz
      simp only [hu, hn, hz]
      obtain ⟨hb, h⟩ := condP h
      rw [hb]
      simp only [cond_true]
      split at h
      · rename_i cs hcs
        simp only [hcs]
        obtain ⟨hok, h⟩ := condP h
        obtain ⟨v, t', s', hv, hl, hC⟩ := hm _ _ _ _ hok h
        rw [hv]
        split at hC
        · exact ⟨_, _, _, rfl, hl, hC⟩
        · exact hC.elim
      · exact h.elim
    · exact h.elim
  · exact h.elim

end
end Go.Sim
