/-
  MAPS WHOSE KEYS ARE NAMES.
-/
import Derived.Test.YtopppccddnplkaaORMade
namespace Go.Proofs.Ytopppccddnplkaa
open Go.Sim
set_option linter.unusedVariables false
set_option maxRecDepth 100000

def getK : List (Str × Value) → Str → Option Value
  | [], _ => none
  | p :: kv, s => if p.1 = s then some p.2 else getK kv s
def putK : List (Str × Value) → Str → Value → List (Str × Value)
  | [], s, v => [(s, v)]
  | p :: kv, s, v => if p.1 = s then (s, v) :: kv else p :: putK kv s v
def entsK (kv : List (Str × Value)) : List (Value × Value) := kv.map fun p => (.string p.1, p.2)

theorem get_put (kv : List (Str × Value)) (s : Str) (v : Value) (t : Str) : getK (putK kv s v) t = if t = s then some v else getK kv t := by
  induction kv with
  | nil =>
    simp only [putK, getK]
    by_cases e : s = t
    · rw [if_pos e, if_pos e.symm]
    · rw [if_neg e, if_neg (fun q => e q.symm)]
  | cons p kv ih =>
    simp only [putK]
    by_cases e : p.1 = s
    · rw [if_pos e]
      simp only [getK]
      by_cases e2 : s = t
      · rw [if_pos e2, if_pos e2.symm]
      · rw [if_neg e2, if_neg (fun q => e2 q.symm), if_neg (fun q => e2 (by rw [← e]; exact q))]
    · rw [if_neg e]
      simp only [getK]
      by_cases e2 : p.1 = t
      · rw [if_pos e2, if_neg (fun q => e (by rw [e2, q])), if_pos e2]
      · rw [if_neg e2, ih, if_neg e2]

theorem same_str (s t : Str) : Instr.sameNow .string (.string s) (.string t) = some (decide (s = t)) := by
  have : Instr.sameNow .string (.string s) (.string t) = some (s == t) := rfl
  rw [this]
  congr 1
  by_cases e : s = t
  · subst e; simp [beq_str]
  · simp only [e, decide_false]
    cases hb : s == t with
    | false => rfl
    | true => exact absurd ((beq_str _ _).1 hb) e

theorem find_K (kv : List (Str × Value)) (s : Str) : ∀ k, (∃ i v, findA .string (.string s) (entsK kv) k = some (some (k + i, v)) ∧ getK kv s = some v ∧ ∀ w, (entsK kv).set i (.string s, w) = entsK (putK kv s w)) ∨
    (findA .string (.string s) (entsK kv) k = some none ∧ getK kv s = none ∧ ∀ w, entsK kv ++ [(.string s, w)] = entsK (putK kv s w)) := by
  induction kv with
  | nil => intro k; right; exact ⟨rfl, rfl, fun _ => rfl⟩
  | cons p kv ih =>
    intro k
    by_cases e : p.1 = s
    · left
      refine ⟨0, p.2, ?_, by simp only [getK, if_pos e], fun w => ?_⟩
      · show (match Instr.sameNow .string (.string s) (.string p.1) with | some true => _ | some false => _ | none => _) = _
        rw [same_str, decide_eq_true e.symm]
        rfl
      · simp only [putK, if_pos e]
        rfl
    · have hstep : findA .string (.string s) (entsK (p :: kv)) k = findA .string (.string s) (entsK kv) (k + 1) := by
        show (match Instr.sameNow .string (.string s) (.string p.1) with | some true => _ | some false => _ | none => _) = _
        rw [same_str, decide_eq_false (fun q => e q.symm)]
        rfl
      rcases ih (k + 1) with ⟨i, v, h1, h2, h3⟩ | ⟨h1, h2, h3⟩
      · left
        refine ⟨i + 1, v, by rw [hstep, h1]; congr 3; omega, by simp only [getK, if_neg e]; exact h2, fun w => ?_⟩
        simp only [putK, if_neg e]
        show (Value.string p.1, p.2) :: (entsK kv).set i (.string s, w) = _
        rw [h3 w]
        rfl
      · right
        refine ⟨by rw [hstep, h1], by simp only [getK, if_neg e]; exact h2, fun w => ?_⟩
        simp only [putK, if_neg e]
        show (Value.string p.1, p.2) :: (entsK kv ++ [(.string s, w)]) = _
        rw [h3 w]
        rfl

/-- A map, as the function that it is. -/
structure MapS (h : AHeap) (M : Nat) (f : Str → Option Value) : Prop where
  ex : ∃ kv : List (Str × Value), h.m.get M = some (.map (entsK kv)) ∧ ∀ s, getK kv s = f s
theorem MapS.of_get {h h' : AHeap} {M : Nat} {f : Str → Option Value} (p : MapS h M f) (e : h'.m.get M = h.m.get M) : MapS h' M f := by
  obtain ⟨kv, h1, h2⟩ := p.ex
  exact ⟨kv, e.trans h1, h2⟩
theorem MapS.ext {h h' : AHeap} {M : Nat} {f : Str → Option Value} (p : MapS h M f) (e : Ext h h') (hM : M < h.next) : MapS h' M f := p.of_get (e.get M hM)
theorem MapS.new (h : AHeap) : MapS (h.pushB (.map [])) h.next (fun _ => none) := ⟨[], by simp only [AHeap.pushB]; rw [Tri.get_set_eq]; rfl, fun _ => rfl⟩

/-- A type of maps from names. -/
structure MapT (t et : Nat) (z : Value) : Prop where
  und : Try.prog.underlying t = some (.map 9 et)
  zero : zeroT Try.prog et = some z
theorem und9 : Try.prog.underlying 9 = some .string := by kernel_rfl
theorem T63 : MapT 63 23 (.slice none 0 0) := ⟨by kernel_rfl, by kernel_rfl⟩
theorem T70 : MapT 70 4 (.bool false) := ⟨by kernel_rfl, by kernel_rfl⟩

theorem MapS.get {t et : Nat} {z : Value} (hT : MapT t et z) {h : AHeap} {M : Nat} {f : Str → Option Value} (p : MapS h M f) (s : Str) : lookupH Try.prog h t (.map (some M)) (.string s) true = some (.tuple #[(f s).getD z, .bool (f s).isSome], h) := by
  obtain ⟨kv, h1, h2⟩ := p.ex
  unfold lookupH
  simp only [hT.und, und9, hT.zero, entriesA, h1, scalarDesc, isKey, Bool.and_self, cond_true]
  rcases find_K kv s 0 with ⟨i, v, q1, q2, _⟩ | ⟨q1, q2, _⟩
  · rw [q1, ← h2 s, q2]; rfl
  · rw [q1, ← h2 s, q2]; rfl
theorem MapS.put {t et : Nat} {z : Value} (hT : MapT t et z) {h : AHeap} {M : Nat} {f : Str → Option Value} (p : MapS h M f) (s : Str) (v : Value) (hv : noLoc v = true) :
    ∃ h', updateH Try.prog h t (.map (some M)) (.string s) v = some (undef, h') ∧ MapS h' M (fun u => if u = s then some v else f u) ∧ h'.next = h.next ∧ (∀ i, i ≠ M → h'.m.get i = h.m.get i) ∧ (∀ h0, Ext h0 h → h0.next ≤ M → Ext h0 h') := by
  obtain ⟨kv, h1, h2⟩ := p.ex
  have hput : ∃ h', updateH Try.prog h t (.map (some M)) (.string s) v = some (undef, h') ∧ h' = h.putB M (.map (entsK (putK kv s v))) := by
    unfold updateH
    simp only [hT.und, und9, h1, scalarDesc, isKey, Bool.and_self, hv, cond_true]
    rcases find_K kv s 0 with ⟨i, w, q1, q2, q3⟩ | ⟨q1, q2, q3⟩
    · rw [q1]
      simp only [Nat.zero_add, q3 v]
      exact ⟨_, rfl, rfl⟩
    · rw [q1]
      simp only [q3 v]
      exact ⟨_, rfl, rfl⟩
  obtain ⟨h', w1, rfl⟩ := hput
  refine ⟨_, w1, ⟨putK kv s v, by show (h.m.set M _).get M = _; rw [Tri.get_set_eq], fun u => by rw [get_put, h2]⟩, rfl, fun i hi => by show (h.m.set M _).get i = _; rw [Tri.get_set_ne _ _ (by omega)], fun h0 k hb => ?_⟩
  refine ⟨k.next, fun l => ?_, ?_, fun i hi => ?_⟩
  · have := k.low l
    have h2 : Nat.min h.low M ≤ h.low := Nat.min_le_left _ _
    show Nat.min h.low M ≤ h.next
    omega
  · have := k.lowG
    show Nat.min h0.low h0.next ≤ Nat.min h.low M
    have h2 : Nat.min h0.low h0.next ≤ h0.next := Nat.min_le_right _ _
    exact Nat.le_min.2 ⟨this, by omega⟩
  · show (h.m.set M _).get i = _
    rw [Tri.get_set_ne _ _ (by omega)]
    exact k.get i hi
theorem Ext.pushB (h : AHeap) (x : Blk) : Ext h (h.pushB x) :=
  ⟨Nat.le_succ _, fun l => by show h.low ≤ h.next + 1; omega, Nat.min_le_left _ _, fun b hb => by simp only [AHeap.pushB]; rw [Tri.get_set_ne _ _ (by omega)]⟩
theorem _root_.Go.Sim.Own.set1 {h : AHeap} {b es : Nat} {v : Value} (o : Own h b es [v]) (w : Value) : ∃ h', h.write b 0 [w] = some h' ∧ Own h' b es [w] ∧ Wrote h h' b := by
  obtain ⟨h', h1, h2, h3⟩ := o.write (o := 0) (vs := [w]) (by simp)
  exact ⟨h', h1, h2, h3⟩
theorem _root_.Go.Sim.Own.get1 {h : AHeap} {b es : Nat} {v : Value} (o : Own h b es [v]) : h.readG ⟨b, 0, none⟩ 1 = some [v] := o.readG (by simp)

/-- The products of the records so far, by their names. -/
structure PM (h : AHeap) (lo M : Nat) (done : List Rec) (ps : List Bytes) : Prop where
  ex : ∃ f, MapS h M f ∧ ∀ s, (idxOf done s = -1 → f s = none) ∧ (0 ≤ idxOf done s → ∃ a n c, f s = some (.slice a n c) ∧ BMem h lo a n c (bat ps (idxOf done s)))
  lt : M < h.next
theorem PM.ext {h h' : AHeap} {lo M : Nat} {done : List Rec} {ps : List Bytes} (p : PM h lo M done ps) (e : Ext h h') : PM h' lo M done ps := by
  obtain ⟨f, h1, h2⟩ := p.ex
  refine ⟨⟨f, h1.ext e p.lt, fun s => ⟨(h2 s).1, fun q => ?_⟩⟩, Nat.lt_of_lt_of_le p.lt e.next⟩
  obtain ⟨a, n, c, q1, q2⟩ := (h2 s).2 q
  exact ⟨a, n, c, q1, q2.ext e⟩
theorem PM.lower {h : AHeap} {lo lo' M : Nat} {done : List Rec} {ps : List Bytes} (p : PM h lo M done ps) (hl : lo' ≤ lo) : PM h lo' M done ps := by
  obtain ⟨f, h1, h2⟩ := p.ex
  refine ⟨⟨f, h1, fun s => ⟨(h2 s).1, fun q => ?_⟩⟩, p.lt⟩
  obtain ⟨a, n, c, q1, q2⟩ := (h2 s).2 q
  exact ⟨a, n, c, q1, q2.lower hl⟩

variable {call : FuncId → List Value → AHeap → (Value → AHeap → Prop) → Prop}
  {head : FuncId → Nat → Nat → SS → (Exit → SS → Prop) → Prop}
  {arith : BinOp → IntKind → Int → Int → Int}
  {cmp : BinOp → Int → Int → Bool}
  {scmp : BinOp → ByteArray → ByteArray → Bool}
  {bnot : Bool → Bool}
  {bsame : Bool → Bool → Bool}
  {conv : IntKind → Int → Int}
  {neg : IntKind → Int → Int}
  {imax : Int → Int → Int}
  {imin : Int → Int → Int}
  {ofNat : Nat → Int}
  {slen : ByteArray → Int}
  {place : Nat → Int → Nat → Nat}
  {inR : Int → Nat → Prop}
  {nz : Int → Prop}
  {geZ : Int → Prop}
  {rd : AHeap → Nat → Nat → Nat → List Value → Prop}
  {wr : AHeap → Nat → Nat → List Value → AHeap → Prop}
  {push : AHeap → Nat → List Value → AHeap}
  {next : AHeap → Nat}
  {mkOK : Int → Int → Prop}
  {nat : Int → Nat}
  {zeros : List Value → Int → List Value}
  {sadd : ByteArray → ByteArray → (ByteArray → Prop) → Prop}
  {eqAgg : TypeId → Array Value → Array Value → (Bool → Prop) → Prop}
  {cut : Nat → Int → Prop}
  {slc : TypeId → Value → Option Value → Option Value → Option Value → (Option Addr → Nat → Nat → Prop) → Prop}
  {sslc : TypeId → ByteArray → Option Value → Option Value → (ByteArray → Prop) → Prop}
  {strAt : ByteArray → Int → (Int → Prop) → Prop}
  {part : TypeId → Array Value → Nat → Value → Prop}
  {app : List TypeId → List Value → AHeap → (Option Addr → Nat → Nat → AHeap → Prop) → Prop}
  {cpy : List TypeId → List Value → AHeap → (Int → AHeap → Prop) → Prop}
  {putAt : AHeap → Nat → Nat → List Value → AHeap}
  {fresh : AHeap → AHeap}
  {lowered : AHeap → AHeap → AHeap}
  {bump : AHeap → Nat → AHeap}
  {wrote : AHeap → AHeap → Bool}
  {addN : Nat → Nat → Nat}
  {lt : Nat → Nat → Prop}
  {ne : Nat → Nat → Prop}
  {fpAll : Bool → Bool → Bool → Nat → Nat → Prop}
  {brk : (Unit → Prop) → Prop}
  {yn : Nat → Nat}
  {rng : FuncId → Nat → SS → (Exit → SS → Prop) → Prop}
  {mget : TypeId → Value → Value → AHeap → Value → Bool → Prop}
  {mput : TypeId → Value → Value → Value → AHeap → AHeap → Prop}
  {mnew : AHeap → AHeap}
  {bytes : TypeId → TypeId → Option Addr → Nat → AHeap → ByteArray → Prop}
  {clr : List TypeId → List Value → AHeap → AHeap → Prop}
  (hA : AOK progU hint prims ⟨call, head, arith, cmp, scmp, bnot, bsame, conv, neg, imax, imin, ofNat, slen, place, inR, nz, geZ, rd, wr, push, next, mkOK, nat, zeros, sadd, eqAgg, cut, slc, sslc, strAt, part, app, cpy, putAt, fresh, lowered, bump, wrote, addN, lt, ne, fpAll, brk, yn, rng, mget, mput, mnew, bytes, clr⟩)
include hA

theorem e_mget (t : TypeId) (m k : Value) (h : AHeap) (v : Value) (b : Bool) : mget t m k h v b = (lookupH Try.prog h t m k true = some (.tuple #[v, .bool b], h)) := by have := hA.eq; injections; subst_vars; rfl
theorem e_mput (t : TypeId) (m k v : Value) (h h' : AHeap) : mput t m k v h h' = (updateH Try.prog h t m k v = some (undef, h')) := by have := hA.eq; injections; subst_vars; rfl
theorem e_mnew (h : AHeap) : mnew h = h.pushB (.map []) := by have := hA.eq; injections; subst_vars; rfl
theorem mget_ok {h : AHeap} {lo M : Nat} {done : List Rec} {ps : List Bytes} (p : PM h lo M done ps) (s : Str) :
    ∃ a n c b, mget 63 (.map (some M)) (.string s) h (.slice a n c) b ∧ ((b = true ∧ 0 ≤ idxOf done s ∧ BMem h lo a n c (bat ps (idxOf done s))) ∨ (b = false ∧ idxOf done s = -1)) := by
  obtain ⟨f, h1, h2⟩ := p.ex
  have hg := h1.get T63 s
  rcases idx_cases done s with ⟨q, _⟩ | ⟨q, _⟩
  · rw [(h2 s).1 q] at hg
    exact ⟨none, 0, 0, false, by rw [e_mget hA]; exact hg, .inr ⟨rfl, q⟩⟩
  · obtain ⟨a, n, c, w1, w2⟩ := (h2 s).2 q
    rw [w1] at hg
    exact ⟨a, n, c, true, by rw [e_mget hA]; exact hg, .inl ⟨rfl, q, w2⟩⟩

end Go.Proofs.Ytopppccddnplkaa
