/-
  WHAT A PRODUCT NEEDS: the plain laws; sets of names in maps; lists of names (origin.chosen, fringeref44.names, SameNames).
-/
import Derived.Test.YtopppccddnplkaaOAll
namespace Go.Proofs.Ytopppccddnplkaa
open Go.Sim
open Classical
set_option linter.unusedVariables false
set_option maxRecDepth 100000

/-! ### Provenances -/

def dep (l : List Rec) (k j : Int) : Prop := ∃ f ∈ (rat l k).frm, idxOf l f = j

/-- A provenance: names are different, and what a record is made of comes before it. -/
structure Prov (l : List Rec) : Prop where
  self : ∀ i : Int, 0 ≤ i → i < l.length → idxOf l (rat l i).name = i
  down : ∀ i : Int, 0 ≤ i → i < l.length → ∀ f ∈ (rat l i).frm, 0 ≤ idxOf l f ∧ idxOf l f < i

theorem rat_take {l : List Rec} {n : Nat} {i : Int} (h0 : 0 ≤ i) (h1 : i < n) : rat (l.take n) i = rat l i := by
  unfold rat
  rw [List.getD, List.getElem?_take, if_pos (by omega)]
  rfl
theorem idx_take {l : List Rec} {n : Nat} {s : Str} (h : 0 ≤ idxOf (l.take n) s) : idxOf l s = idxOf (l.take n) s := by
  rcases idx_cases (l.take n) s with ⟨q, _⟩ | ⟨q1, q2, q3, q4⟩
  · omega
  · rw [List.length_take] at q2
    refine idx_at q1 (by omega) (by rw [← rat_take (n := n) q1 (by omega)]; exact q3) (fun j j0 j1 => ?_)
    rw [← rat_take (n := n) j0 (by omega)]
    exact q4 j j0 j1

/-- What went well so far. -/
theorem Alls.good {d : List Rec} {ps : List Bytes} {l : List Rec} {e : Int} {o : Option (List Bytes)} (h : Alls d ps l e o) : ∀ qs, o = some qs → ∀ i : Int, d.length ≤ i → i < (d.length : Int) + l.length →
    idxOf ((d ++ l).take i.toNat) (rat (d ++ l) i).name = -1 ∧ (∀ f ∈ (rat (d ++ l) i).frm, 0 ≤ idxOf ((d ++ l).take i.toNat) f) ∧ formP (rat (d ++ l) i) := by
  induction h with
  | nil d ps => intro qs _ i i0 i1; simp at i1; omega
  | twice a => intro qs q; cases q
  | lacks a b => intro qs q; cases q
  | bad a b c => intro qs q; cases q
  | big a b c q => intro qs q; cases q
  | @go d ps r l e o a b c q t ih =>
    intro qs ho i i0 i1
    by_cases ei : i = d.length
    · subst ei
      have h1 : (d ++ r :: l).take ((d.length : Int).toNat) = d := by rw [Int.toNat_natCast, List.take_left' rfl]
      have h2 : rat (d ++ r :: l) d.length = r := by
        unfold rat
        rw [Int.toNat_natCast, List.getD, List.getElem?_append_right (Nat.le_refl _), Nat.sub_self]
        rfl
      rw [h1, h2]
      exact ⟨a, b, c⟩
    · have := ih qs ho i (by simp; omega) (by simp at i1 ⊢; omega)
      rw [List.append_assoc, List.singleton_append] at this
      exact this

theorem AllIs.prov {l : List Rec} {ps : List Bytes} (h : AllIs l 0 (some ps)) : Prov l ∧ (∀ i : Int, 0 ≤ i → i < l.length → formP (rat l i)) ∧ l.length ≤ 40 := by
  rcases h with ⟨_, q, _⟩ | ⟨h40, h⟩
  · cases q
  have g := h.good ps rfl
  simp only [List.nil_append, List.length_nil] at g
  refine ⟨⟨fun i i0 i1 => ?_, fun i i0 i1 f hf => ?_⟩, fun i i0 i1 => (g i (by omega) (by omega)).2.2, h40⟩
  · obtain ⟨q, _⟩ := g i (by omega) (by omega)
    refine idx_at i0 i1 rfl (fun j j0 j1 he => ?_)
    rcases idx_cases (l.take i.toNat) (rat l i).name with ⟨_, w⟩ | ⟨w, _⟩
    · refine w j j0 (by rw [List.length_take]; omega) ?_
      rw [rat_take j0 (by omega)]
      exact he
    · omega
  · obtain ⟨_, q, _⟩ := g i (by omega) (by omega)
    have q0 := q f hf
    have e := idx_take q0
    rcases idx_cases (l.take i.toNat) f with ⟨w, _⟩ | ⟨_, w, _⟩
    · omega
    · rw [List.length_take] at w; omega

/-- What has to be made to have a product. -/
inductive Due (l : List Rec) (had : Int → Prop) (i0 : Int) : Int → Prop
  | base (h : ¬ had i0) : Due l had i0 i0
  | step {k j : Int} (h : Due l had i0 k) (h0 : 0 ≤ k) (h1 : k < l.length) (hd : dep l k j) (hn : ¬ had j) : Due l had i0 j

theorem Due.range {l : List Rec} (hp : Prov l) {had : Int → Prop} {i0 : Int} (h0 : 0 ≤ i0) (h1 : i0 < l.length) {j : Int} (h : Due l had i0 j) : 0 ≤ j ∧ j ≤ i0 ∧ ¬ had j := by
  induction h with
  | base hn => exact ⟨h0, Int.le_refl _, hn⟩
  | step hk k0 k1 hd hn ih =>
    obtain ⟨f, hf, rfl⟩ := hd
    have := hp.down _ k0 k1 f hf
    exact ⟨this.1, by omega, hn⟩

/-- The marks when all records behind i were looked at. -/
def DueA (l : List Rec) (had : Int → Prop) (i0 i j : Int) : Prop := (j = i0 ∧ ¬ had i0) ∨ ∃ k, i < k ∧ k < l.length ∧ Due l had i0 k ∧ dep l k j ∧ ¬ had j

theorem due_here {l : List Rec} (hp : Prov l) {had : Int → Prop} {i0 i : Int} (h0 : 0 ≤ i0) (h1 : i0 < l.length) (i1 : 0 ≤ i) : DueA l had i0 i i ↔ Due l had i0 i := by
  constructor
  · rintro (⟨rfl, q⟩ | ⟨k, k0, k1, kd, d, n⟩)
    · exact .base q
    · exact .step kd (by omega) k1 d n
  · intro h
    cases h with
    | base q => exact .inl ⟨rfl, q⟩
    | @step k _ hk k0 k1 d n =>
      refine .inr ⟨k, ?_, k1, hk, d, n⟩
      obtain ⟨f, hf, e⟩ := d
      have := hp.down k k0 k1 f hf
      omega
theorem due_end {l : List Rec} (hp : Prov l) {had : Int → Prop} {i0 : Int} (h0 : 0 ≤ i0) (h1 : i0 < l.length) (j : Int) : DueA l had i0 (-1) j ↔ Due l had i0 j := by
  constructor
  · rintro (⟨rfl, q⟩ | ⟨k, k0, k1, kd, d, n⟩)
    · exact .base q
    · exact .step kd (by omega) k1 d n
  · intro h
    cases h with
    | base q => exact .inl ⟨rfl, q⟩
    | @step k _ hk k0 k1 d n => exact .inr ⟨k, by omega, k1, hk, d, n⟩
theorem due_start {l : List Rec} {had : Int → Prop} {i0 : Int} (j : Int) : DueA l had i0 ((l.length : Int) - 1) j ↔ (j = i0 ∧ ¬ had i0) := by
  constructor
  · rintro (q | ⟨k, k0, k1, _⟩)
    · exact q
    · omega
  · exact .inl
theorem due_next {l : List Rec} (hp : Prov l) {had : Int → Prop} {i0 i : Int} (h0 : 0 ≤ i0) (h1 : i0 < l.length) (i1 : 0 ≤ i) (i2 : i < l.length) (j : Int) : DueA l had i0 (i - 1) j ↔ DueA l had i0 i j ∨ (Due l had i0 i ∧ dep l i j ∧ ¬ had j) := by
  constructor
  · rintro (q | ⟨k, k0, k1, kd, d, n⟩)
    · exact .inl (.inl q)
    · by_cases e : k = i
      · subst e; exact .inr ⟨kd, d, n⟩
      · exact .inl (.inr ⟨k, by omega, k1, kd, d, n⟩)
  · rintro ((q | ⟨k, k0, k1, kd, d, n⟩) | ⟨kd, d, n⟩)
    · exact .inl q
    · exact .inr ⟨k, by omega, k1, kd, d, n⟩
    · exact .inr ⟨i, by omega, i2, kd, d, n⟩

/-- The names of the records that a property has. -/
noncomputable def outN (l : List Rec) (p : Int → Prop) : Nat → List Str
  | 0 => []
  | i + 1 => if p i then outN l p i ++ [(rat l i).name] else outN l p i
theorem outN_len (l : List Rec) (p : Int → Prop) : ∀ n, (outN l p n).length ≤ n
  | 0 => by simp [outN]
  | n + 1 => by
    have := outN_len l p n
    unfold outN
    split
    · simp; omega
    · omega
theorem outN_cong {l : List Rec} {p q : Int → Prop} : ∀ (n : Nat), (∀ j : Int, 0 ≤ j → j < n → (p j ↔ q j)) → outN l p n = outN l q n
  | 0, _ => rfl
  | n + 1, h => by
    have e := outN_cong (l := l) n (fun j j0 j1 => h j j0 (by omega))
    have hn := h n (by omega) (by omega)
    simp only [outN, e]
    by_cases c : p n
    · rw [if_pos c, if_pos (hn.1 c)]
    · rw [if_neg c, if_neg (fun x => c (hn.2 x))]
theorem outN_yes {l : List Rec} {p : Int → Prop} {i : Int} (h0 : 0 ≤ i) (h : p i) : outN l p (i + 1).toNat = outN l p i.toNat ++ [(rat l i).name] := by
  rw [toNat_succ h0]
  simp only [outN, Int.toNat_of_nonneg h0, if_pos h]
theorem outN_no {l : List Rec} {p : Int → Prop} {i : Int} (h0 : 0 ≤ i) (h : ¬ p i) : outN l p (i + 1).toNat = outN l p i.toNat := by
  rw [toNat_succ h0]
  simp only [outN, Int.toNat_of_nonneg h0, if_neg h]

/-- Names in new memory. -/
structure SOut (h : AHeap) (lo : Nat) (a : Option Addr) (n c : Nat) (l : List Str) : Prop where
  apd : Apd h 1 a n c (l.map .string)
  frm : From lo a
  lt : n < slack
theorem SOut.nil (h : AHeap) (lo : Nat) : SOut h lo none 0 0 [] := ⟨.nil _ _, .none _, by unfold slack; omega⟩
theorem SOut.ext {h h' : AHeap} {lo : Nat} {a : Option Addr} {n c : Nat} {l : List Str} (p : SOut h lo a n c l) (e : Ext h h') : SOut h' lo a n c l := ⟨p.apd.ext e, p.frm, p.lt⟩
theorem SOut.strs {h : AHeap} {lo : Nat} {a : Option Addr} {n c : Nat} {l : List Str} (p : SOut h lo a n c l) : Strs h a n c l := by
  refine .inl ⟨p.apd.cells, fun q => ?_, p.apd.cap p.lt⟩
  rcases p.apd with ⟨_, _, q, _⟩ | ⟨b, q', _⟩
  · exact q
  · rw [q'] at q; cases q
theorem SOut.len {h : AHeap} {lo : Nat} {a : Option Addr} {n c : Nat} {l : List Str} (p : SOut h lo a n c l) : l.length = n := p.strs.len
theorem SOut.one {h h0 : AHeap} {lo : Nat} {a : Option Addr} {n c : Nat} {l : List Str} (p : SOut h lo a n c l) (s : Str) (hbig : n ≤ 100000) (e0 : Ext h0 h) (hlo : h0.next = lo) :
    ∃ a' c' h', appendH Try.prog (h.push 1 [Value.string s]) [35, 35] [.slice a n c, .slice (some ⟨h.next, 0, none⟩) 1 1] = some (.slice a' (n + 1) c', h') ∧ SOut h' lo a' (n + 1) c' (l ++ [s]) ∧ Ext h0 h' := by
  subst hlo
  have e2 : Ext h (h.push 1 [Value.string s]) := .push _ _ _
  have o3 : Own (h.push 1 [Value.string s]) h.next 1 [Value.string s] := Own.push _ _ _
  have hy1 : RowV (h.push 1 [Value.string s]) (some ⟨h.next, 0, none⟩) 1 1 [Value.string s] := .inl ⟨⟨rfl, Nat.lt_succ_self _, by rw [o3.readG (by simp)]; rfl⟩, (fun q => by cases q), by unfold capLow slack; omega⟩
  obtain ⟨a', c', h', q1, q2, q3, q4, q5⟩ := append_row T35 (p.apd.ext e2) hy1 (strs_ok l) rfl (by omega)
  obtain ⟨w1, w2⟩ := q3 h0 (e0.trans e2) p.frm
  exact ⟨a', c', h', q1, ⟨by rw [List.map_append]; exact q2, w2, by unfold slack; omega⟩, w1⟩

/-- A set of names in a map. -/
structure BM (h : AHeap) (M : Nat) (P : Str → Prop) : Prop where
  ex : ∃ f, MapS h M f ∧ ∀ s, (P s → f s = some (.bool true)) ∧ (¬ P s → f s = none ∨ f s = some (.bool false))
  lt : M < h.next
theorem BM.ext {h h' : AHeap} {M : Nat} {P : Str → Prop} (p : BM h M P) (e : Ext h h') : BM h' M P := by
  obtain ⟨f, h1, h2⟩ := p.ex
  exact ⟨⟨f, h1.ext e p.lt, h2⟩, Nat.lt_of_lt_of_le p.lt e.next⟩
theorem BM.cong {h : AHeap} {M : Nat} {P P' : Str → Prop} (p : BM h M P) (e : ∀ s, P s ↔ P' s) : BM h M P' := by
  obtain ⟨f, h1, h2⟩ := p.ex
  exact ⟨⟨f, h1, fun s => ⟨fun q => (h2 s).1 ((e s).2 q), fun q => (h2 s).2 (fun x => q ((e s).1 x))⟩⟩, p.lt⟩
theorem BM.put {h : AHeap} {M : Nat} {P : Str → Prop} (p : BM h M P) (s : Str) (b : Bool) :
    ∃ h', updateH Try.prog h 70 (.map (some M)) (.string s) (.bool b) = some (undef, h') ∧ BM h' M (fun u => (u = s ∧ b = true) ∨ (u ≠ s ∧ P u)) ∧ h'.next = h.next ∧ (∀ i, i ≠ M → h'.m.get i = h.m.get i) ∧ (∀ h0, Ext h0 h → h0.next ≤ M → Ext h0 h') := by
  obtain ⟨f, m1, m2⟩ := p.ex
  obtain ⟨h', w1, w2, w3, w4, w5⟩ := m1.put T70 s (.bool b) rfl
  refine ⟨h', w1, ⟨⟨_, w2, fun u => ?_⟩, by have := p.lt; omega⟩, w3, w4, w5⟩
  by_cases e : u = s
  · rw [if_pos e]
    cases b with
    | true => exact ⟨fun _ => rfl, fun q => absurd (.inl ⟨e, rfl⟩) q⟩
    | false => exact ⟨fun q => q.elim (fun x => by cases x.2) (fun x => absurd e x.1), fun _ => .inr rfl⟩
  · rw [if_neg e]
    exact ⟨fun q => q.elim (fun x => absurd x.1 e) (fun x => (m2 u).1 x.2), fun q => (m2 u).2 (fun x => q (.inr ⟨e, x⟩))⟩

variable {call : FuncId → List Value → AHeap → (Value → AHeap → Prop) → Prop}
  {head : FuncId → Nat → Nat → SS → (Exit → SS → Prop) → Prop}
  {arith : BinOp → IntKind → Int → Int → Int}
  {cmp : BinOp → Int → Int → Bool}
  {scmp : BinOp → ByteArray → ByteArray → Bool}
  {bnot : Bool → Bool}
  {bsame : Bool → Bool → Bool}
  {conv : IntKind → Int → Int}
  {neg : IntKind → Int → Int}
  {imax : Int → Int → Int}
  {imin : Int → Int → Int}
  {ofNat : Nat → Int}
  {slen : ByteArray → Int}
  {place : Nat → Int → Nat → Nat}
  {inR : Int → Nat → Prop}
  {nz : Int → Prop}
  {geZ : Int → Prop}
  {rd : AHeap → Nat → Nat → Nat → List Value → Prop}
  {wr : AHeap → Nat → Nat → List Value → AHeap → Prop}
  {push : AHeap → Nat → List Value → AHeap}
  {next : AHeap → Nat}
  {mkOK : Int → Int → Prop}
  {nat : Int → Nat}
  {zeros : List Value → Int → List Value}
  {sadd : ByteArray → ByteArray → (ByteArray → Prop) → Prop}
  {eqAgg : TypeId → Array Value → Array Value → (Bool → Prop) → Prop}
  {cut : Nat → Int → Prop}
  {slc : TypeId → Value → Option Value → Option Value → Option Value → (Option Addr → Nat → Nat → Prop) → Prop}
  {sslc : TypeId → ByteArray → Option Value → Option Value → (ByteArray → Prop) → Prop}
  {strAt : ByteArray → Int → (Int → Prop) → Prop}
  {part : TypeId → Array Value → Nat → Value → Prop}
  {app : List TypeId → List Value → AHeap → (Option Addr → Nat → Nat → AHeap → Prop) → Prop}
  {cpy : List TypeId → List Value → AHeap → (Int → AHeap → Prop) → Prop}
  {putAt : AHeap → Nat → Nat → List Value → AHeap}
  {fresh : AHeap → AHeap}
  {lowered : AHeap → AHeap → AHeap}
  {bump : AHeap → Nat → AHeap}
  {wrote : AHeap → AHeap → Bool}
  {addN : Nat → Nat → Nat}
  {lt : Nat → Nat → Prop}
  {ne : Nat → Nat → Prop}
  {fpAll : Bool → Bool → Bool → Nat → Nat → Prop}
  {brk : (Unit → Prop) → Prop}
  {yn : Nat → Nat}
  {rng : FuncId → Nat → SS → (Exit → SS → Prop) → Prop}
  {mget : TypeId → Value → Value → AHeap → Value → Bool → Prop}
  {mput : TypeId → Value → Value → Value → AHeap → AHeap → Prop}
  {mnew : AHeap → AHeap}
  {bytes : TypeId → TypeId → Option Addr → Nat → AHeap → ByteArray → Prop}
  {clr : List TypeId → List Value → AHeap → AHeap → Prop}
  (hA : AOK progU hint prims ⟨call, head, arith, cmp, scmp, bnot, bsame, conv, neg, imax, imin, ofNat, slen, place, inR, nz, geZ, rd, wr, push, next, mkOK, nat, zeros, sadd, eqAgg, cut, slc, sslc, strAt, part, app, cpy, putAt, fresh, lowered, bump, wrote, addN, lt, ne, fpAll, brk, yn, rng, mget, mput, mnew, bytes, clr⟩)
include hA

theorem bm_get {h : AHeap} {M : Nat} {P : Str → Prop} (p : BM h M P) (s : Str) : ∃ b r, mget 70 (.map (some M)) (.string s) h (.bool b) r ∧ (b = true ↔ P s) := by
  obtain ⟨f, m1, m2⟩ := p.ex
  have hg := m1.get T70 s
  by_cases q : P s
  · rw [(m2 s).1 q] at hg
    exact ⟨true, true, by rw [e_mget hA]; exact hg, by simp [q]⟩
  · rcases (m2 s).2 q with w | w
    · rw [w] at hg
      exact ⟨false, false, by rw [e_mget hA]; exact hg, by simp [q]⟩
    · rw [w] at hg
      exact ⟨false, true, by rw [e_mget hA]; exact hg, by simp [q]⟩

theorem chosen_loop {h0 : AHeap} (hlow0 : h0.low ≤ h0.next) {al : Option Addr} {nl cl : Nat} {l : List Rec} (hl : Recs h0 al nl l) (hnl : (nl : Int) ≤ 1000) {M : Nat} {P : Str → Prop} (hM : BM h0 M P) {Q : Exit → SS → Prop}
    (h1 : ∀ a n c h' kn K, Ext h0 h' → SOut h' h0.next a n c (outN l (fun j => P (rat l j).name) l.length) → Q (.exit 0) ⟨[(5, .slice a n c)], kn, K, h'⟩) :
    ∀ i : Int, 0 ≤ i → i ≤ nl → ∀ h a n c, Ext h0 h → SOut h h0.next a n c (outN l (fun j => P (rat l j).name) i.toNat) → head 38 3 0 ⟨[(1, .map (some M)), (5, .slice a n c), (8, .slice al nl cl), (9, .int .i64 (ofNat nl)), (10, .int .i64 i)], 0, [], h⟩ Q := by
  have hll := hl.len
  refine countUp (fun i hi0 hin ih h a n c e ho => ?_)
  have hon := ho.len
  have hol := outN_len l (fun j => P (rat l j).name) i.toNat
  refine hA.roundR Try.func38 r38_ok ?_; (try (conv => cbv)); repeat (refine brk_ok hA ?_; (try (conv => cbv)))
  refine br (i < nl) (by rw [e_lss hA, e_ofNat hA]) (fun c1 => ?_) (fun c1 => ?_) <;> (try (conv => cbv)) <;> repeat (refine brk_ok hA ?_; (try (conv => cbv)))
  · obtain ⟨b, o, x, hae, hbn, rel, hrd, _⟩ := (hl.ext e).at hi0 c1
    have hnm := rel.name
    obtain ⟨xnm, xhow, xfa, xfn, xfc, xarg, xda, xdn, xdc, xdg⟩ := x
    simp only [] at hnm
    refine ⟨b, o, hae, in_ok hA hi0 c1, ?_⟩
    ((try (conv => cbv)); repeat (refine brk_ok hA ?_; (try (conv => cbv))))
    refine ⟨xnm, xhow, xfa, xfn, xfc, xarg, xda, xdn, xdc, xdg, rd_ok hA hrd, ?_⟩
    ((try (conv => cbv)); repeat (refine brk_ok hA ?_; (try (conv => cbv))))
    obtain ⟨bb, r, g1, g2⟩ := bm_get hA (hM.ext e) xnm
    rw [hnm] at g2
    refine ⟨bb, r, g1, ?_⟩
    have ha : arith .add .i64 i 1 = i + 1 := add64 hA (by omega) (by omega)
    cases bb with
    | true =>
      ((try (conv => cbv)); repeat (refine brk_ok hA ?_; (try (conv => cbv))))
      rw [e_next hA, e_push hA]
      obtain ⟨a', c', h', q1, q2, q3⟩ := ho.one xnm (by omega) e rfl
      refine app_ok hA q1 ?_
      ((try (conv => cbv)); repeat (refine brk_ok hA ?_; (try (conv => cbv))))
      rw [ha]
      refine ih c1 h' a' (n + 1) c' q3 ?_
      rw [outN_yes hi0 (g2.1 rfl), ← hnm]
      exact q2
    | false =>
      ((try (conv => cbv)); repeat (refine brk_ok hA ?_; (try (conv => cbv))))
      rw [ha]
      refine ih c1 h a n c e ?_
      rw [outN_no hi0 (fun q => by have := g2.2 q; cases this)]
      exact ho
  · have : i.toNat = l.length := by omega
    rw [this] at ho
    exact h1 a n c h _ _ e ho

theorem chosen_ok {h : AHeap} (hlow : h.low ≤ h.next) {al : Option Addr} {nl cl : Nat} {l : List Rec} (hl : Recs h al nl l) (hnl : (nl : Int) ≤ 1000) {M : Nat} {P : Str → Prop} (hM : BM h M P) {Q : Value → AHeap → Prop}
    (hQ : ∀ a n c h', Ext h h' → SOut h' h.next a n c (outN l (fun j => P (rat l j).name) l.length) → Q (.slice a n c) h') : call 38 [.slice al nl cl, .map (some M)] h Q := by
  refine hA.bodyR Try.func38 r38_ok (show prims _ _ _ = none from rfl) hlow ?_; (try (conv => cbv)); repeat (refine brk_ok hA ?_; (try (conv => cbv)))
  refine chosen_loop hA hlow hl hnl hM (fun a n c h' kn K e' ho => ?_) 0 (by omega) (by omega) h none 0 0 (.refl _) (SOut.nil _ _)
  ((try (conv => cbv)); repeat (refine brk_ok hA ?_; (try (conv => cbv))))
  exact hQ a n c h' e' ho

theorem e_strn (a b : Str) : scmp .neq a b = decide (a ≠ b) := by
  have h1 := e_str hA a b
  rw [e_scmp hA] at h1
  rw [e_scmpn hA, h1]
  by_cases e : a = b <;> simp [e]

theorem sames_loop {h0 : AHeap} {a a' : Option Addr} {n c c' : Nat} (hn : (n : Int) ≤ 1000000) {l l' : List Str} (hs : Strs h0 a n c l) (hs' : Strs h0 a' n c' l') {Q : Exit → SS → Prop}
    (h1 : ∀ e kn K h', Ext h0 h' → l = l' → Q (.exit 0) ⟨e, kn, K, h'⟩) (h2 : ∀ e kn K h', Ext h0 h' → l ≠ l' → Q .ret ⟨(4, .bool false) :: e, kn, K, h'⟩) :
    ∀ i : Int, 0 ≤ i → i ≤ n → ∀ h, Ext h0 h → (∀ j : Int, 0 ≤ j → j < i → sat' l j = sat' l' j) → head 24 4 0 ⟨[(0, .slice a n c), (1, .slice a' n c'), (5, .int .i64 i)], 0, [], h⟩ Q := by
  have hl := hs.len
  have hl' := hs'.len
  refine countUp (fun i hi0 hin ih h e hall => ?_)
  refine hA.roundR Try.func24 r24_ok ?_; (try (conv => cbv)); repeat (refine brk_ok hA ?_; (try (conv => cbv)))
  refine br (i < n) (by rw [e_lss hA, e_ofNat hA]) (fun c1 => ?_) (fun c1 => ?_) <;> (try (conv => cbv)) <;> repeat (refine brk_ok hA ?_; (try (conv => cbv)))
  · obtain ⟨h9, hh9⟩ : ∃ z, z = bump h 9 := ⟨_, rfl⟩
    obtain ⟨nh, hnh⟩ : ∃ z, z = next h := ⟨_, rfl⟩
    have e9 : Ext h0 h9 := by rw [hh9, e_bump hA]; exact e.trans (.bump _ _)
    rw [← hh9, ← hnh]
    obtain ⟨b, o, s, hae, hbn, hsv, hrd⟩ := (hs.ext e9).at hi0 c1
    refine ⟨b, o, hae, in_ok hA hi0 c1, ?_⟩
    ((try (conv => cbv)); repeat (refine brk_ok hA ?_; (try (conv => cbv))))
    refine ⟨s, rd_ok hA hrd, ?_⟩
    ((try (conv => cbv)); repeat (refine brk_ok hA ?_; (try (conv => cbv))))
    obtain ⟨b', o', s', hae', hbn', hsv', hrd'⟩ := (hs'.ext e9).at hi0 c1
    refine ⟨b', o', hae', in_ok hA hi0 c1, ?_⟩
    ((try (conv => cbv)); repeat (refine brk_ok hA ?_; (try (conv => cbv))))
    refine ⟨s', rd_ok hA hrd', ?_⟩
    ((try (conv => cbv)); repeat (refine brk_ok hA ?_; (try (conv => cbv))))
    refine br (s ≠ s') (by rw [e_strn hA]) (fun c2 => ?_) (fun c2 => ?_) <;> (try (conv => cbv)) <;> repeat (refine brk_ok hA ?_; (try (conv => cbv)))
    · exact h2 _ _ _ h9 e9 (fun q => c2 (by rw [hsv, hsv', q]))
    · rw [add64 hA (by omega) (by omega)]
      refine ih c1 h9 e9 (fun j j0 j1 => ?_)
      by_cases ej : j = i
      · rw [ej, ← hsv, ← hsv']; exact Decidable.not_not.1 c2
      · exact hall j j0 (by omega)
  · refine h1 _ _ _ h e ?_
    apply List.ext_getElem (by omega)
    intro j j1 j2
    have := hall j (by omega) (by omega)
    unfold sat' at this
    simpa [List.getD, List.getElem?_eq_getElem j1, List.getElem?_eq_getElem j2] using this

theorem sames_ok {h : AHeap} (hlow : h.low ≤ h.next) {a a' : Option Addr} {n n' c c' : Nat} (hn : (n : Int) ≤ 1000000) {l l' : List Str} (hs : Strs h a n c l) (hs' : Strs h a' n' c' l') {Q : Value → AHeap → Prop}
    (hQ : ∀ r h', Ext h h' → (r = true ↔ l = l') → Q (.bool r) h') : call 24 [.slice a n c, .slice a' n' c'] h Q := by
  have hl := hs.len
  have hl' := hs'.len
  refine hA.bodyR Try.func24 r24_ok (show prims _ _ _ = none from rfl) hlow ?_; (try (conv => cbv)); repeat (refine brk_ok hA ?_; (try (conv => cbv)))
  refine br ((n : Int) ≠ n') (by rw [e_neq hA, e_ofNat hA, e_ofNat hA]) (fun c1 => ?_) (fun c1 => ?_) <;> (try (conv => cbv)) <;> repeat (refine brk_ok hA ?_; (try (conv => cbv)))
  · exact hQ _ h (.refl _) (no (fun q => c1 (by subst q; omega)))
  have : n = n' := by omega
  subst this
  refine sames_loop hA hn hs hs' (fun e kn K h' x q => ?_) (fun e kn K h' x q => ?_) 0 (by omega) (by omega) h (.refl _) (fun j h1 h2 => by omega)
  · ((try (conv => cbv)); repeat (refine brk_ok hA ?_; (try (conv => cbv))))
    exact hQ _ h' x (yes q)
  · ((try (conv => cbv)); repeat (refine brk_ok hA ?_; (try (conv => cbv))))
    exact hQ _ h' x (no q)

end Go.Proofs.Ytopppccddnplkaa
