/-
  A REGION THAT DRAWS ITS ORDER: whatever order is drawn, it comes to what the abstract machine's one order comes to.
-/
import Derived.Test.YtlpnmdknlfmjaaaSimEff
namespace Go.Sim
set_option linter.unusedSimpArgs false

/-! ### What comes before what -/

theorem after_bits (acc : Array Nat) : ∀ (l : List Edge) (s0 p : Nat), (l.foldl (fun s e => if Region.binds .any e then s ||| 2 ^ e.on ||| acc.getD e.on 0 else s) s0).testBit p = true →
    s0.testBit p = true ∨ ∃ e ∈ l, Region.binds .any e = true ∧ (p = e.on ∨ (acc.getD e.on 0).testBit p = true)
  | [], s0, p, h => .inl h
  | e :: l, s0, p, h => by
    simp only [List.foldl_cons] at h
    rcases after_bits acc l _ p h with h1 | ⟨e', h1, h2, h3⟩
    · by_cases hb : Region.binds .any e = true
      · rw [if_pos hb] at h1
        simp only [Nat.testBit_or, Bool.or_eq_true, Nat.testBit_two_pow, decide_eq_true_eq] at h1
        rcases h1 with (h1 | h1) | h1
        · exact .inl h1
        · exact .inr ⟨e, by simp, hb, .inl h1.symm⟩
        · exact .inr ⟨e, by simp, hb, .inr h1⟩
      · rw [if_neg hb] at h1; exact .inl h1
    · exact .inr ⟨e', by simp [h1], h2, h3⟩

/-- A set that holds with each operation what it waits for. -/
def Closed (ops : Array Oper) (E : Nat → Prop) : Prop := ∀ q o, E q → ops[q]? = some o → ∀ e ∈ o.after.toList, Region.binds .any e = true → E e.on

theorem before_closed {ops : Array Oper} {E : Nat → Prop} (hE : Closed ops E) {p q : Nat} (h : prec (Region.before ops) p q = true) (hq : E q) : E p := by
  have key : ∀ (l : List Oper) (k : Nat) (acc : Array Nat), acc.size = k → (∀ j, l[j]? = ops[k + j]?) → (∀ q p, (acc.getD q 0).testBit p = true → E q → E p) →
      ∀ q p, ((l.foldl (fun (acc : Array Nat) o => acc.push (o.after.foldl (fun s e => if Region.binds .any e then s ||| 2 ^ e.on ||| acc.getD e.on 0 else s) 0)) acc).getD q 0).testBit p = true → E q → E p := by
    intro l
    induction l with
    | nil => intro k acc _ _ h q p hq; exact h q p hq
    | cons o l ih =>
      intro k acc hk hl h
      simp only [List.foldl_cons]
      have ho : ops[k]? = some o := by have := hl 0; simpa using this.symm
      refine ih (k + 1) _ (by simp [hk]) (fun j => by have := hl (j + 1); simpa [Nat.add_assoc, Nat.add_comm 1 j] using this) ?_
      intro q p hb hq
      rcases Nat.lt_trichotomy q acc.size with hlt | heq | hgt
      · have : (acc.push (o.after.foldl (fun s e => if Region.binds .any e then s ||| 2 ^ e.on ||| acc.getD e.on 0 else s) 0)).getD q 0 = acc.getD q 0 := by
          simp [Array.getD, Array.getElem_push, hlt, Nat.lt_succ_of_lt hlt]
        rw [this] at hb
        exact h q p hb hq
      · subst heq
        have : (acc.push (o.after.foldl (fun s e => if Region.binds .any e then s ||| 2 ^ e.on ||| acc.getD e.on 0 else s) 0)).getD acc.size 0 = o.after.foldl (fun s e => if Region.binds .any e then s ||| 2 ^ e.on ||| acc.getD e.on 0 else s) 0 := by
          simp [Array.getD]
        rw [this, ← Array.foldl_toList] at hb
        rcases after_bits acc o.after.toList 0 p hb with h1 | ⟨e, h1, h2, h3⟩
        · simp at h1
        · have he := hE acc.size o hq (by rw [hk]; exact ho) e h1 h2
          rcases h3 with rfl | h3
          · exact he
          · exact h _ _ h3 he
      · have : (acc.push (o.after.foldl (fun s e => if Region.binds .any e then s ||| 2 ^ e.on ||| acc.getD e.on 0 else s) 0)).getD q 0 = 0 := by
          simp [Array.getD, show ¬ q < acc.size + 1 by omega]
        rw [this] at hb
        simp at hb
  refine key ops.toList 0 #[] rfl (fun j => by simp) (fun q p h => by simp at h) q p ?_ hq
  unfold prec Region.before at h
  rw [← Array.foldl_toList] at h
  exact h

theorem pairs_spec {α : Type} {p : α → α → Bool} : ∀ (l : List α), pairs p l = true → ∀ (i k : Nat) (x y : α), i < k → l[i]? = some x → l[k]? = some y → p x y = true
  | [], _, i, k, x, y, _, h1, _ => by simp at h1
  | z :: l, h, i, k, x, y, hik, h1, h2 => by
    simp only [pairs, Bool.and_eq_true, List.all_eq_true] at h
    obtain ⟨k', rfl⟩ : ∃ k', k = k' + 1 := ⟨k - 1, by omega⟩
    simp only [List.getElem?_cons_succ] at h2
    cases i with
    | zero => simp at h1; subst h1; exact h.1 y (List.mem_of_getElem? h2)
    | succ i => simp only [List.getElem?_cons_succ] at h1; exact pairs_spec l h.2 i k' x y (by omega) h1 h2

/-! ### The abstract machine's own way through the region, step by step -/

section
variable (P : Program) (H : Hint) (call : CallT) (f : FuncId) (nt : Nat) (ops : Array Oper) (base kbase : Nat)

def StepD (i : Nat) (o : Oper) (s : St) (v : Value) (x : FP) (wr : Bool) (s' : St) : Prop :=
  (wantedA ops o s = some true ∧ ∃ s1, oneD P H call f (base + i) (kbase + i) o s.fresh = some (v, s1) ∧ putA nt (s1.lowered s.h.low) o.dst v = some s' ∧ x = fpOf o.op (locOf H f o) (base + i) (kbase + i) s ∧ wr = (isStore o.op || Nat.blt s1.h.low s.h.next)) ∨
  (wantedA ops o s = some false ∧ putA nt s o.dst undef = some s' ∧ v = undef ∧ x = .none ∧ wr = false)

theorem opsD_trace : ∀ (l : List Nat) (i : Nat) (s r : St) (fps : List (Nat × FP × Bool)), opsD P H call f nt ops base kbase l i s = some (r, fps) →
    ∃ (S : Nat → St) (V : Nat → Value) (X : Nat → FP) (W : Nat → Bool), S i = s ∧ S (i + l.length) = r ∧ fps.length = l.length ∧
      ∀ j p, l[j]? = some p → ∃ o, ops[p]? = some o ∧ fps[j]? = some (p, X (i + j), W (i + j)) ∧ StepD P H call f nt ops base kbase (i + j) o (S (i + j)) (V (i + j)) (X (i + j)) (W (i + j)) (S (i + j + 1))
  | [], i, s, r, fps, h => by
    simp only [opsD, Option.some.injEq, Prod.mk.injEq] at h
    obtain ⟨rfl, rfl⟩ := h
    exact ⟨fun _ => s, fun _ => undef, fun _ => .none, fun _ => false, rfl, rfl, rfl, fun j p h => by simp at h⟩
  | p :: l, i, s, r, fps, h => by
    simp only [opsD] at h
    have comb : ∀ (o : Oper) (v : Value) (x : FP) (wr : Bool) (s2 : St) (fps' : List (Nat × FP × Bool)), ops[p]? = some o → StepD P H call f nt ops base kbase i o s v x wr s2 → opsD P H call f nt ops base kbase l (i + 1) s2 = some (r, fps') → fps = (p, x, wr) :: fps' →
        ∃ (S : Nat → St) (V : Nat → Value) (X : Nat → FP) (W : Nat → Bool), S i = s ∧ S (i + (p :: l).length) = r ∧ fps.length = (p :: l).length ∧
          ∀ j q, (p :: l)[j]? = some q → ∃ o, ops[q]? = some o ∧ fps[j]? = some (q, X (i + j), W (i + j)) ∧ StepD P H call f nt ops base kbase (i + j) o (S (i + j)) (V (i + j)) (X (i + j)) (W (i + j)) (S (i + j + 1)) := by
      intro o v x wr s2 fps' ho hs hr hf
      subst hf
      obtain ⟨S, V, X, W, e1, e2, e3, e4⟩ := opsD_trace l (i + 1) s2 r fps' hr
      refine ⟨fun k => if k = i then s else S k, fun k => if k = i then v else V k, fun k => if k = i then x else X k, fun k => if k = i then wr else W k, by simp, ?_, by simp [e3], ?_⟩
      · have : ¬ i + (p :: l).length = i := by simp
        simp only [this, if_false]
        rw [← e2]; congr 1; simp; omega
      · intro j q hj
        cases j with
        | zero =>
          simp at hj; subst hj
          refine ⟨o, ho, by simp, ?_⟩
          simp only [Nat.add_zero, if_true, show ¬ i + 1 = i by omega, if_false, e1]
          exact hs
        | succ j =>
          simp only [List.getElem?_cons_succ] at hj
          obtain ⟨o', f1, f2, f3⟩ := e4 j q hj
          have e5 : i + 1 + j = i + (j + 1) := by omega
          rw [e5] at f2 f3
          refine ⟨o', f1, ?_, ?_⟩
          · simp only [List.getElem?_cons_succ, show ¬ i + (j + 1) = i by omega, if_false]; exact f2
          · simp only [show ¬ i + (j + 1) = i by omega, show ¬ i + (j + 1) + 1 = i by omega, if_false]; exact f3
    split at h
    · cases h
    · rename_i o ho
      split at h
      · rename_i hw
        split at h
        · rename_i v s1 h1
          split at h
          · rename_i s2 h2
            split at h
            · rename_i r' fps' h3
              simp only [Option.some.injEq, Prod.mk.injEq] at h
              obtain ⟨rfl, h4⟩ := h
              exact comb o v _ _ s2 fps' ho (.inl ⟨hw, s1, h1, h2, rfl, rfl⟩) h3 h4.symm
            · cases h
          · cases h
        · cases h
      · rename_i hw
        split at h
        · rename_i s2 h2
          split at h
          · rename_i r' fps' h3
            simp only [Option.some.injEq, Prod.mk.injEq] at h
            obtain ⟨rfl, h4⟩ := h
            exact comb o undef .none false s2 fps' ho (.inr ⟨hw, h2, rfl, rfl, rfl⟩) h3 h4.symm
          · cases h
        · cases h
      · cases h
end

/-- An operation at large hangs on its operands and the heap alone. -/
theorem oneD_all {P : Program} {H : Hint} {call : CallT} {f : FuncId} {id tag : Nat} {o : Oper} {s s' : St} {v : Value} (hx : fpOf o.op (locOf H f o) id tag s = .all) (h : oneD P H call f id tag o s = some (v, s')) :
    s' = { s with h := s'.h } ∧ (∀ s3 : St, s3.env = s.env → s3.h = s.h → oneD P H call f id tag o s3 = some (v, { s3 with h := s'.h })) ∧ (CallKeep call → ∀ B, B ≤ s.h.next → KeepB B s.h s'.h) := by
  unfold oneD at h
  split at h
  · rename_i c hc
    have h0 := h
    unfold callOp at h
    split at h
    · rename_i g args hg
      split at h
      · rename_i u h' hr
        simp only [Option.some.injEq, Prod.mk.injEq] at h
        obtain ⟨rfl, rfl⟩ := h
        refine ⟨rfl, fun s3 he hh => ?_, fun hk B hB => callOp_keep hk hB h0⟩
        have e1 : calleeA s3 c = calleeA s c := by unfold calleeA; rw [evalA_congr he, evalsA_congr he]
        unfold oneD
        rw [hc]
        simp only [callOp, e1, hg, hh, hr]
      · cases h
    · cases h
  · rename_i hc
    have hcase : ∀ op, opA P (s.newAt id tag) (locOf H f o) op s = some (v, s') → fpOf op (locOf H f o) id tag s = .all →
        s' = { s with h := s'.h } ∧ (∀ s3 : St, s3.env = s.env → s3.h = s.h → opA P (s3.newAt id tag) (locOf H f o) op s3 = some (v, { s3 with h := s'.h })) ∧ (∀ B, B ≤ s.h.next → KeepB B s.h s'.h) := by
      intro op h hx
      unfold opA at h
      split at h
      all_goals first | (exfalso; simp [fpOf, pureOp] at hx; done) | skip
      · exfalso; revert hx; unfold fpOf; cases locOf H f o <;> simp [pureOp]
      · exfalso; revert hx; unfold fpOf; cases locOf H f o <;> simp [pureOp]
      · rename_i t x
        split at h
        · rename_i a hu; exfalso; simp [fpOf, pureOp, hu] at hx
        · cases h
      · rename_i t x y
        split at h
        · rename_i a u hu _; exfalso; simp [fpOf, pureOp, hu] at hx
        · cases h
      · rename_i b args argTypes
        split at h
        · rename_i l hl
          split at h
          · exfalso; simp [fpOf, pureOp] at hx
          · exfalso; simp [fpOf, pureOp] at hx
          · exfalso; simp [fpOf, pureOp] at hx
          · obtain ⟨h', h1, rfl⟩ := withHeap_spec h
            refine ⟨rfl, fun s3 he hh => ?_, fun B hB => appendH_keep hB h1⟩
            simp only [opA, evalsA_congr he, hl, hh, h1, withHeap]
          · obtain ⟨h', h1, rfl⟩ := withHeap_spec h
            refine ⟨rfl, fun s3 he hh => ?_, fun B hB => copyH_keep h1⟩
            simp only [opA, evalsA_congr he, hl, hh, h1, withHeap]
          · cases h
        · cases h
      · cases h
    obtain ⟨e1, e2, e3⟩ := hcase o.op h hx
    refine ⟨e1, fun s3 he hh => ?_, fun _ => e3⟩
    unfold oneD
    rw [hc]
    exact e2 s3 he hh

theorem oneD_goes {P : Program} {H : Hint} {call : CallT} (hcall : CallOK P call) {f : FuncId} {J : Inj} {s s' : St} {w : World} {a : Act} {id tag : Nat} {o : Oper} {v : Value} (hR : HR J s w) (hM : NewOK J s w (s.newAt id tag)) (hE : EvOK J s a o.op.operands.toList) (h : oneD P H call f id tag o s = some (v, s')) :
    OpGoes P J s w a o v s' (fun k => (newG o.op (locOf H f o) = true ∧ k = id) ∨ s.h.next ≤ k) (fun t => newL o.op (locOf H f o) = true ∧ t = tag) := by
  unfold oneD at h
  split at h
  · rename_i c hc
    intro K Q hK
    exact callOp_goes hcall hR (isCall_spec hc) hE h K Q (fun c w' J' a1 a2 a3 a4 a5 a6 => hK c w' J' a1 a2 a3 a4 (a5.mono (fun _ => .inr)) (a6.mono (fun _ q => q.elim)))
  · intro K Q hK
    refine (opA_sim hR hM hE newAt_ok h).goes K Q (fun c w' J' a1 a2 a3 a4 a5 a6 => hK c w' J' a1 a2 a3 a4 (a5.mono ?_) (a6.mono ?_))
    · rintro k (⟨q, es, cells, s9, h9⟩ | ⟨_, h9⟩)
      · left
        refine ⟨q, ?_⟩
        unfold St.newAt at h9
        simp only [Bool.cond_eq_ite] at h9
        split at h9
        · simp at h9; exact h9.1.symm
        · cases h9
      · exact .inr h9
    · rintro t ⟨q, es, cells, s9, h9⟩
      refine ⟨q, ?_⟩
      unfold St.newAt at h9
      simp only [Bool.cond_eq_ite] at h9
      split at h9
      · simp at h9; exact h9.1.symm
      · cases h9

end Go.Sim
