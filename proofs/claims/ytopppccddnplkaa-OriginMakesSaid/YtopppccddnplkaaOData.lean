/-
  RECORDS IN MEMORY, AND AS SUCH.
-/
import Derived.Test.YtopppccddnplkaaONames
import Derived.Test.YtopppccddnplkaaSymD
namespace Go.Proofs.Ytopppccddnplkaa
open Go.Sim
set_option linter.unusedVariables false
set_option maxRecDepth 100000

theorem no {P : Prop} (h : ¬ P) : (false = true) ↔ P := ⟨(fun q => by cases q), fun q => absurd q h⟩
theorem yes {P : Prop} (h : P) : (true = true) ↔ P := ⟨fun _ => h, fun _ => rfl⟩
theorem getD_some {α : Type} (l : List α) (i : Nat) (d : α) (hi : i < l.length) : l[i]? = some (l.getD i d) := by
  simp [List.getD, List.getElem?_eq_getElem hi]

abbrev Str := ByteArray
abbrev Bytes := List Int

structure Rec where
  name : Str
  how : Int
  frm : List Str
  arg : Int
  data : Bytes
  dig : Int
instance : Inhabited Rec := ⟨⟨ByteArray.empty, 0, [], 0, [], 0⟩⟩
def noRec : Rec := ⟨ByteArray.empty, 0, [], 0, [], 0⟩
def rat (l : List Rec) (i : Int) : Rec := l.getD i.toNat noRec
def sat' (l : List Str) (i : Int) : Str := l.getD i.toNat ByteArray.empty

/-- Bytes are bytes. -/
def okB (b : Bytes) : Prop := ∀ x ∈ b, 0 ≤ x ∧ x < 256
def okR (r : Rec) : Prop := okB r.data ∧ 0 ≤ r.how ∧ r.how < 256 ∧ -9223372036854775808 ≤ r.arg ∧ r.arg < 9223372036854775808

/-! ### Rows: lists of values of one cell each -/

def RowV (h : AHeap) (a : Option Addr) (n c : Nat) (vs : List Value) : Prop :=
  (Cells h a n 1 vs ∧ (a = none → c = 0) ∧ n ≤ capLow c) ∨ (a = some ⟨0, 0, some 0⟩ ∧ n = 0 ∧ c = 0 ∧ vs = [])

theorem RowV.len {h : AHeap} {a : Option Addr} {n c : Nat} {vs : List Value} (p : RowV h a n c vs) : vs.length = n := by
  rcases p with ⟨p, _⟩ | ⟨_, rfl, _, rfl⟩
  · have := p.length; omega
  · rfl
theorem RowV.ext {h h' : AHeap} {a : Option Addr} {n c : Nat} {vs : List Value} (p : RowV h a n c vs) (e : Ext h h') : RowV h' a n c vs := by
  rcases p with ⟨p, q⟩ | p
  · exact .inl ⟨p.ext e, q⟩
  · exact .inr p
theorem RowV.cap {h : AHeap} {a : Option Addr} {n c : Nat} {vs : List Value} (p : RowV h a n c vs) : n ≤ capLow c := by
  rcases p with ⟨_, _, p⟩ | ⟨_, rfl, _⟩
  · exact p
  · exact Nat.zero_le _
theorem RowV.at {h : AHeap} {a : Option Addr} {n c : Nat} {vs : List Value} (p : RowV h a n c vs) {i : Int} (h0 : 0 ≤ i) (hi : i < n) : ∃ b o v, a = some ⟨b, o, none⟩ ∧ b < h.next ∧ vs[i.toNat]? = some v ∧ h.readG ⟨b, o + i.toNat * 1, none⟩ 1 = some [v] := by
  rcases p with ⟨p, _⟩ | ⟨_, rfl, _⟩
  · have hl := p.length
    obtain ⟨b, o, h4, h5, h6⟩ := p.at (i := i.toNat) (m := 1) (by omega) (by omega)
    have hv : i.toNat < vs.length := by omega
    refine ⟨b, o, vs[i.toNat], h4, h5, List.getElem?_eq_getElem hv, ?_⟩
    rw [Nat.mul_one, h6, take_one vs i.toNat vs[i.toNat] (List.getElem?_eq_getElem hv)]
  · omega

/-- Names. -/
def Strs (h : AHeap) (a : Option Addr) (n c : Nat) (l : List Str) : Prop := RowV h a n c (l.map .string)
theorem Strs.len {h : AHeap} {a : Option Addr} {n c : Nat} {l : List Str} (p : Strs h a n c l) : l.length = n := by
  have := RowV.len p; simpa using this
theorem Strs.ext {h h' : AHeap} {a : Option Addr} {n c : Nat} {l : List Str} (p : Strs h a n c l) (e : Ext h h') : Strs h' a n c l := RowV.ext p e
theorem Strs.at {h : AHeap} {a : Option Addr} {n c : Nat} {l : List Str} (p : Strs h a n c l) {i : Int} (h0 : 0 ≤ i) (hi : i < n) : ∃ b o s, a = some ⟨b, o, none⟩ ∧ b < h.next ∧ s = sat' l i ∧ h.readG ⟨b, o + i.toNat * 1, none⟩ 1 = some [.string s] := by
  have hl := p.len
  obtain ⟨b, o, v, h1, h2, h3, h4⟩ := RowV.at p h0 hi
  refine ⟨b, o, sat' l i, h1, h2, rfl, ?_⟩
  rw [List.getElem?_map, getD_some l i.toNat ByteArray.empty (by omega)] at h3
  simp only [Option.map_some, Option.some.injEq] at h3
  rw [h4, ← h3]
  rfl
theorem Strs.nil (h : AHeap) : Strs h none 0 0 [] := .inl ⟨⟨rfl, rfl⟩, fun _ => rfl, Nat.zero_le _⟩

/-- Bytes. -/
def Byts (h : AHeap) (a : Option Addr) (n c : Nat) (l : Bytes) : Prop := RowV h a n c (l.map (.int .u8))
theorem Byts.len {h : AHeap} {a : Option Addr} {n c : Nat} {l : Bytes} (p : Byts h a n c l) : l.length = n := by
  have := RowV.len p; simpa using this
theorem Byts.ext {h h' : AHeap} {a : Option Addr} {n c : Nat} {l : Bytes} (p : Byts h a n c l) (e : Ext h h') : Byts h' a n c l := RowV.ext p e
theorem Byts.at {h : AHeap} {a : Option Addr} {n c : Nat} {l : Bytes} (p : Byts h a n c l) {i : Int} (h0 : 0 ≤ i) (hi : i < n) : ∃ b o x, a = some ⟨b, o, none⟩ ∧ b < h.next ∧ x = at' l i ∧ h.readG ⟨b, o + i.toNat * 1, none⟩ 1 = some [.int .u8 x] := by
  have hl := p.len
  obtain ⟨b, o, v, h1, h2, h3, h4⟩ := RowV.at p h0 hi
  refine ⟨b, o, at' l i, h1, h2, rfl, ?_⟩
  rw [List.getElem?_map, getD_some l i.toNat 0 (by omega)] at h3
  simp only [Option.map_some, Option.some.injEq] at h3
  rw [h4, ← h3]
  rfl
theorem Byts.nil (h : AHeap) : Byts h none 0 0 [] := .inl ⟨⟨rfl, rfl⟩, fun _ => rfl, Nat.zero_le _⟩
theorem okB_at {l : Bytes} (h : okB l) {i : Int} (h0 : 0 ≤ i) (h1 : i < l.length) : 0 ≤ at' l i ∧ at' l i < 256 := h _ (at'_mem l h0 h1)

/-! ### Records -/

/-- A record as it lies there. -/
structure RH where
  name : Str
  how : Int
  fa : Option Addr
  fn : Nat
  fc : Nat
  arg : Int
  da : Option Addr
  dn : Nat
  dc : Nat
  dig : Int
def RH.cells (x : RH) : List Value := [.string x.name, .int .u8 x.how, .slice x.fa x.fn x.fc, .int .i64 x.arg, .slice x.da x.dn x.dc, .int .i64 x.dig]
def noRH : RH := ⟨ByteArray.empty, 0, none, 0, 0, 0, none, 0, 0, 0⟩

structure RelR (h : AHeap) (x : RH) (r : Rec) : Prop where
  name : x.name = r.name
  how : x.how = r.how
  arg : x.arg = r.arg
  dig : x.dig = r.dig
  frm : Strs h x.fa x.fn x.fc r.frm
  data : Byts h x.da x.dn x.dc r.data
theorem RelR.ext {h h' : AHeap} {x : RH} {r : Rec} (p : RelR h x r) (e : Ext h h') : RelR h' x r := { p with frm := p.frm.ext e, data := p.data.ext e }

def flatR (l : List RH) : List Value := l.flatMap RH.cells
theorem flatR_len (l : List RH) : (flatR l).length = l.length * 6 := flat_len RH.cells (fun _ => rfl) l
theorem flatR_at (l : List RH) : ∀ (i f m : Nat), i < l.length → f + m ≤ 6 → ((flatR l).drop (i * 6 + f)).take m = ((l.getD i noRH).cells.drop f).take m := by
  induction l with
  | nil => intro i f m hi; simp at hi
  | cons c l ih =>
    intro i f m hi hf
    cases i with
    | zero =>
      show ((c.cells ++ flatR l).drop (0 * 6 + f)).take m = _
      have h6 : c.cells.length = 6 := rfl
      rw [Nat.zero_mul, Nat.zero_add, List.drop_append_of_le_length (by omega), List.take_append_of_le_length (by simp [h6]; omega)]
      rfl
    | succ i =>
      have e : (flatR (c :: l)).drop ((i + 1) * 6 + f) = (flatR l).drop (i * 6 + f) := by
        show (c.cells ++ flatR l).drop ((i + 1) * 6 + f) = _
        have h6 : c.cells.length = 6 := rfl
        rw [show (i + 1) * 6 + f = c.cells.length + (i * 6 + f) by rw [h6]; omega, ← List.drop_drop, List.drop_left]
      rw [e]
      exact ih i f m (by simpa using hi) hf

/-- Records that may be read. -/
structure Recs (h : AHeap) (a : Option Addr) (n : Nat) (l : List Rec) : Prop where
  ex : ∃ xs : List RH, Cells h a n 6 (flatR xs) ∧ xs.length = l.length ∧ ∀ (i : Nat) (x : RH) (r : Rec), xs[i]? = some x → l[i]? = some r → RelR h x r

theorem Recs.len {h : AHeap} {a : Option Addr} {n : Nat} {l : List Rec} (p : Recs h a n l) : l.length = n := by
  obtain ⟨xs, h1, h2, _⟩ := p.ex
  have := h1.length
  rw [flatR_len] at this
  omega
theorem Recs.ext {h h' : AHeap} {a : Option Addr} {n : Nat} {l : List Rec} (p : Recs h a n l) (e : Ext h h') : Recs h' a n l := by
  obtain ⟨xs, h1, h2, h3⟩ := p.ex
  exact ⟨xs, h1.ext e, h2, fun i x r hx hr => (h3 i x r hx hr).ext e⟩

/-- A record is read: whole, or a field. -/
theorem Recs.at {h : AHeap} {a : Option Addr} {n : Nat} {l : List Rec} (p : Recs h a n l) {i : Int} (h0 : 0 ≤ i) (hi : i < n) :
    ∃ b o x, a = some ⟨b, o, none⟩ ∧ b < h.next ∧ RelR h x (rat l i) ∧ h.readG ⟨b, o + i.toNat * 6, none⟩ 6 = some x.cells ∧
      h.readG ⟨b, o + i.toNat * 6 + 0, none⟩ 1 = some [.string x.name] ∧ h.readG ⟨b, o + i.toNat * 6 + 1, none⟩ 1 = some [.int .u8 x.how] ∧ h.readG ⟨b, o + i.toNat * 6 + 2, none⟩ 1 = some [.slice x.fa x.fn x.fc] ∧
      h.readG ⟨b, o + i.toNat * 6 + 3, none⟩ 1 = some [.int .i64 x.arg] ∧ h.readG ⟨b, o + i.toNat * 6 + 4, none⟩ 1 = some [.slice x.da x.dn x.dc] ∧ h.readG ⟨b, o + i.toNat * 6 + 5, none⟩ 1 = some [.int .i64 x.dig] := by
  have hl := p.len
  obtain ⟨xs, h1, h2, h3⟩ := p.ex
  have hx := getD_some xs i.toNat noRH (by omega)
  have hr := getD_some l i.toNat noRec (by omega)
  have rel := h3 _ _ _ hx hr
  obtain ⟨b, o, q1, q2, q3⟩ := h1.at (i := i.toNat * 6) (m := 6) (by omega) (by omega)
  have q3' := flatR_at xs i.toNat 0 6 (by omega) (by omega)
  rw [Nat.add_zero] at q3'
  rw [q3'] at q3
  have part : ∀ k v, k < 6 → (xs.getD i.toNat noRH).cells[k]? = some v → h.readG ⟨b, o + i.toNat * 6 + k, none⟩ 1 = some [v] := by
    intro k v hk hv
    obtain ⟨b', o', h1', _, h3'⟩ := h1.at (i := i.toNat * 6 + k) (m := 1) (by omega) (by omega)
    rw [q1] at h1'
    cases h1'
    rw [Nat.add_assoc, h3', flatR_at xs i.toNat k 1 (by omega) (by omega), take_one _ _ _ hv]
  exact ⟨b, o, xs.getD i.toNat noRH, q1, q2, rel, q3, part 0 _ (by omega) rfl, part 1 _ (by omega) rfl, part 2 _ (by omega) rfl, part 3 _ (by omega) rfl, part 4 _ (by omega) rfl, part 5 _ (by omega) rfl⟩

/-- The first records of some. -/
theorem Recs.take {h : AHeap} {a : Option Addr} {n : Nat} {l : List Rec} (p : Recs h a n l) {j : Nat} (hj : j ≤ n) : Recs h a j (l.take j) := by
  have hl := p.len
  obtain ⟨xs, c, h2, h3⟩ := p.ex
  refine ⟨xs.take j, ?_, by simp; omega, fun i x r hx hr => ?_⟩
  · have hfl : flatR (xs.take j) = (flatR xs).take (j * 6) := by
      have e : flatR xs = flatR (xs.take j) ++ flatR (xs.drop j) := by unfold flatR; rw [← List.flatMap_append, List.take_append_drop]
      rw [e, List.take_left' (by rw [flatR_len]; simp; omega)]
    rw [hfl]
    cases a with
    | none =>
      obtain ⟨rfl, h2⟩ := c
      obtain rfl : j = 0 := by omega
      rw [h2]
      exact ⟨rfl, by simp⟩
    | some ad =>
      obtain ⟨h1, h2', h3'⟩ := c
      refine ⟨h1, h2', ?_⟩
      unfold AHeap.readG at h3' ⊢
      rw [h1] at h3' ⊢
      simp only [] at h3' ⊢
      cases hc : h.cells? ad.block with
      | none => rw [hc] at h3'; cases h3'
      | some cs =>
        rw [hc] at h3'
        simp only [] at h3' ⊢
        obtain ⟨q1, q2⟩ := readN_eq h3'
        refine readN_some ?_ ?_
        · rw [← q1, List.take_take, Nat.min_eq_left (by omega)]
        · rw [List.length_take, flatR_len]; omega
  · rw [List.getElem?_take] at hx hr
    split at hx
    · rename_i hi
      rw [if_pos hi] at hr
      exact h3 i x r hx hr
    · cases hx

/-! ### Where a name is -/

/-- The index of the first record with a name, or -1. -/
def idxOf (l : List Rec) (s : Str) : Int := match l.findIdx? (fun r => r.name == s) with | some i => i | none => -1

theorem beq_str (x y : Str) : (x == y) = true ↔ x = y := by
  cases x with
  | mk x => cases y with
    | mk y =>
      show (x == y) = true ↔ _
      simp

theorem idx_none {l : List Rec} {s : Str} (h : ∀ i : Int, 0 ≤ i → i < l.length → (rat l i).name ≠ s) : idxOf l s = -1 := by
  unfold idxOf
  have : l.findIdx? (fun r => r.name == s) = none := by
    rw [List.findIdx?_eq_none_iff]
    intro x hx
    obtain ⟨i, hi⟩ := List.getElem?_of_mem hx
    have hil : i < l.length := (List.getElem?_eq_some_iff.1 hi).1
    have := h i (by omega) (by omega)
    unfold rat at this
    rw [Int.toNat_natCast, List.getD, hi] at this
    cases hb : x.name == s with
    | false => rfl
    | true => exact absurd ((beq_str _ _).1 hb) this
  rw [this]
theorem idx_at {l : List Rec} {s : Str} {i : Int} (h0 : 0 ≤ i) (h1 : i < l.length) (he : (rat l i).name = s) (h : ∀ j : Int, 0 ≤ j → j < i → (rat l j).name ≠ s) : idxOf l s = i := by
  unfold idxOf
  have : l.findIdx? (fun r => r.name == s) = some i.toNat := by
    rw [List.findIdx?_eq_some_iff_getElem]
    refine ⟨by omega, ?_, fun j hj => ?_⟩
    · rw [beq_str]
      unfold rat at he
      rw [List.getD, List.getElem?_eq_getElem (by omega)] at he
      exact he
    · have := h j (by omega) (by omega)
      unfold rat at this
      rw [Int.toNat_natCast, List.getD, List.getElem?_eq_getElem (by omega)] at this
      intro hb
      exact this ((beq_str _ _).1 hb)
  rw [this]
  simp only []
  omega
theorem idx_cases (l : List Rec) (s : Str) : (idxOf l s = -1 ∧ ∀ i : Int, 0 ≤ i → i < l.length → (rat l i).name ≠ s) ∨ (0 ≤ idxOf l s ∧ idxOf l s < l.length ∧ (rat l (idxOf l s)).name = s ∧ ∀ j : Int, 0 ≤ j → j < idxOf l s → (rat l j).name ≠ s) := by
  cases hf : l.findIdx? (fun r => r.name == s) with
  | none =>
    left
    refine ⟨by unfold idxOf; rw [hf], fun i h0 h1 he => ?_⟩
    rw [List.findIdx?_eq_none_iff] at hf
    have := hf (rat l i) (by unfold rat; rw [List.getD, List.getElem?_eq_getElem (by omega)]; exact List.getElem_mem _)
    rw [he, (beq_str s s).2 rfl] at this
    cases this
  | some k =>
    right
    have hk : idxOf l s = k := by unfold idxOf; rw [hf]
    rw [List.findIdx?_eq_some_iff_getElem] at hf
    obtain ⟨q1, q2, q3⟩ := hf
    rw [hk]
    refine ⟨by omega, by omega, ?_, fun j h0 h1 he => ?_⟩
    · unfold rat
      rw [Int.toNat_natCast, List.getD, List.getElem?_eq_getElem q1]
      exact (beq_str _ _).1 q2
    · have := q3 j.toNat (by omega)
      unfold rat at he
      rw [List.getD, List.getElem?_eq_getElem (by omega)] at he
      exact this ((beq_str _ _).2 he)

variable {call : FuncId → List Value → AHeap → (Value → AHeap → Prop) → Prop}
  {head : FuncId → Nat → Nat → SS → (Exit → SS → Prop) → Prop}
  {arith : BinOp → IntKind → Int → Int → Int}
  {cmp : BinOp → Int → Int → Bool}
  {scmp : BinOp → ByteArray → ByteArray → Bool}
  {bnot : Bool → Bool}
  {bsame : Bool → Bool → Bool}
  {conv : IntKind → Int → Int}
  {neg : IntKind → Int → Int}
  {imax : Int → Int → Int}
  {imin : Int → Int → Int}
  {ofNat : Nat → Int}
  {slen : ByteArray → Int}
  {place : Nat → Int → Nat → Nat}
  {inR : Int → Nat → Prop}
  {nz : Int → Prop}
  {geZ : Int → Prop}
  {rd : AHeap → Nat → Nat → Nat → List Value → Prop}
  {wr : AHeap → Nat → Nat → List Value → AHeap → Prop}
  {push : AHeap → Nat → List Value → AHeap}
  {next : AHeap → Nat}
  {mkOK : Int → Int → Prop}
  {nat : Int → Nat}
  {zeros : List Value → Int → List Value}
  {sadd : ByteArray → ByteArray → (ByteArray → Prop) → Prop}
  {eqAgg : TypeId → Array Value → Array Value → (Bool → Prop) → Prop}
  {cut : Nat → Int → Prop}
  {slc : TypeId → Value → Option Value → Option Value → Option Value → (Option Addr → Nat → Nat → Prop) → Prop}
  {sslc : TypeId → ByteArray → Option Value → Option Value → (ByteArray → Prop) → Prop}
  {strAt : ByteArray → Int → (Int → Prop) → Prop}
  {part : TypeId → Array Value → Nat → Value → Prop}
  {app : List TypeId → List Value → AHeap → (Option Addr → Nat → Nat → AHeap → Prop) → Prop}
  {cpy : List TypeId → List Value → AHeap → (Int → AHeap → Prop) → Prop}
  {putAt : AHeap → Nat → Nat → List Value → AHeap}
  {fresh : AHeap → AHeap}
  {lowered : AHeap → AHeap → AHeap}
  {bump : AHeap → Nat → AHeap}
  {wrote : AHeap → AHeap → Bool}
  {addN : Nat → Nat → Nat}
  {lt : Nat → Nat → Prop}
  {ne : Nat → Nat → Prop}
  {fpAll : Bool → Bool → Bool → Nat → Nat → Prop}
  {brk : (Unit → Prop) → Prop}
  {yn : Nat → Nat}
  {rng : FuncId → Nat → SS → (Exit → SS → Prop) → Prop}
  {mget : TypeId → Value → Value → AHeap → Value → Bool → Prop}
  {mput : TypeId → Value → Value → Value → AHeap → AHeap → Prop}
  {mnew : AHeap → AHeap}
  {bytes : TypeId → TypeId → Option Addr → Nat → AHeap → ByteArray → Prop}
  {clr : List TypeId → List Value → AHeap → AHeap → Prop}
  (hA : AOK progU hint prims ⟨call, head, arith, cmp, scmp, bnot, bsame, conv, neg, imax, imin, ofNat, slen, place, inR, nz, geZ, rd, wr, push, next, mkOK, nat, zeros, sadd, eqAgg, cut, slc, sslc, strAt, part, app, cpy, putAt, fresh, lowered, bump, wrote, addN, lt, ne, fpAll, brk, yn, rng, mget, mput, mnew, bytes, clr⟩)
include hA

theorem e_str (a b : Str) : scmp .eql a b = decide (a = b) := by
  rw [e_scmp hA]
  by_cases h : a = b
  · subst h; simp
  · have : a.toList ≠ b.toList := fun q => h (by
      have h2 : a.data.toList = b.data.toList := by simpa [ByteArray.toList_eq] using q
      cases a; cases b; simp_all)
    simp [h, this]

theorem idx_loop {h : AHeap} {a : Option Addr} {n c : Nat} {l : List Rec} (hs : Recs h a n l) (hn : (n : Int) ≤ 9223372036854775807) {s : Str} {Q : Exit → SS → Prop}
    (h0 : idxOf l s = -1 → ∀ e kn K, Q (.exit 0) ⟨e, kn, K, h⟩) (h1 : ∀ i : Int, i = idxOf l s → ∀ e kn K, Q .ret ⟨(4, .int .i64 i) :: e, kn, K, h⟩) :
    ∀ i : Int, 0 ≤ i → i ≤ n → (∀ j : Int, 0 ≤ j → j < i → (rat l j).name ≠ s) → head 32 2 0 ⟨[(0, .slice a n c), (1, .string s), (5, .int .i64 i)], 0, [], h⟩ Q := by
  have hl := hs.len
  refine countUp (fun i hi0 hin ih hall => ?_)
  refine hA.roundR Try.func32 r32_ok ?_; (try (conv => cbv)); repeat (refine brk_ok hA ?_; (try (conv => cbv)))
  refine br (i < n) (by rw [e_lss hA, e_ofNat hA]) (fun c1 => ?_) (fun c1 => ?_) <;> (try (conv => cbv)) <;> repeat (refine brk_ok hA ?_; (try (conv => cbv)))
  · obtain ⟨b, o, x, hae, hb, rel, _, r0, _⟩ := hs.at hi0 c1
    obtain ⟨nm, hnm⟩ : ∃ v, v = x.name := ⟨_, rfl⟩
    rw [← hnm] at r0
    refine ⟨b, o, hae, in_ok hA hi0 c1, ?_⟩
    ((try (conv => cbv)); repeat (refine brk_ok hA ?_; (try (conv => cbv))))
    refine ⟨nm, rd_fld hA r0, ?_⟩
    ((try (conv => cbv)); repeat (refine brk_ok hA ?_; (try (conv => cbv))))
    have hn2 : nm = (rat l i).name := by rw [hnm]; exact rel.name
    refine br (nm = s) (by rw [e_str hA]) (fun c2 => ?_) (fun c2 => ?_) <;> (try (conv => cbv)) <;> repeat (refine brk_ok hA ?_; (try (conv => cbv)))
    · exact h1 i (idx_at hi0 (by omega) (by rw [← hn2]; exact c2) hall).symm _ _ _
    · rw [add64 hA (by omega) (by omega)]
      refine ih c1 (fun j j0 j1 => ?_)
      by_cases e : j = i
      · rw [e, ← hn2]; exact c2
      · exact hall j j0 (by omega)
  · exact h0 (idx_none (fun j j0 j1 => hall j j0 (by omega))) _ _ _

theorem idx_ok {h : AHeap} (hlow : h.low ≤ h.next) {a : Option Addr} {n c : Nat} {l : List Rec} (hs : Recs h a n l) (hn : (n : Int) ≤ 9223372036854775807) {s : Str} {Q : Value → AHeap → Prop}
    (hQ : ∀ i : Int, i = idxOf l s → Q (.int .i64 i) h) : call 32 [.slice a n c, .string s] h Q := by
  refine hA.bodyR Try.func32 r32_ok (show prims _ _ _ = none from rfl) hlow ?_; (try (conv => cbv)); repeat (refine brk_ok hA ?_; (try (conv => cbv)))
  refine idx_loop hA hs hn (fun q e kn K => ?_) (fun i q e kn K => ?_) 0 (by omega) (by omega) (fun j j0 j1 => by omega)
  · ((try (conv => cbv)); repeat (refine brk_ok hA ?_; (try (conv => cbv))))
    exact hQ _ q.symm
  · ((try (conv => cbv)); repeat (refine brk_ok hA ?_; (try (conv => cbv))))
    exact hQ _ q

end Go.Proofs.Ytopppccddnplkaa
