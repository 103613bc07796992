/-
  RECORDS IN NEW MEMORY; bytes as strings; Same and Twin of the reference.
-/
import Derived.Test.YtopppccddnplkaaOMake
namespace Go.Proofs.Ytopppccddnplkaa
open Go.Sim
open Classical
set_option linter.unusedVariables false
set_option maxRecDepth 100000

theorem T22 : SliceT Try.prog 22 46 6 := ⟨by kernel_rfl, by kernel_rfl, ⟨88, by kernel_rfl, by omega⟩, ⟨.agg #[.string ⟨#[]⟩, .int .u8 0, .slice none 0 0, .int .i64 0, .slice none 0 0, .int .i64 0], by kernel_rfl, rfl⟩⟩

/-! ### Bytes as a string -/

def str (l : Bytes) : Str := ⟨(l.map fun x => UInt8.ofNat x.toNat).toArray⟩
theorem str_inj {l m : Bytes} (hl : okB l) (hm : okB m) (h : str l = str m) : l = m := by
  unfold str at h
  have h1 : l.map (fun x => UInt8.ofNat x.toNat) = m.map (fun x => UInt8.ofNat x.toNat) := by
    injection h with h
    simpa using congrArg Array.toList h
  have hlen : l.length = m.length := by simpa using congrArg List.length h1
  refine List.ext_getElem hlen (fun i i1 i2 => ?_)
  have h2 : (l.map (fun x => UInt8.ofNat x.toNat))[i]? = (m.map (fun x => UInt8.ofNat x.toNat))[i]? := by rw [h1]
  rw [List.getElem?_map, List.getElem?_map, List.getElem?_eq_getElem i1, List.getElem?_eq_getElem i2] at h2
  simp only [Option.map_some, Option.some.injEq] at h2
  have a := hl _ (List.getElem_mem i1)
  have b := hm _ (List.getElem_mem i2)
  have h3 := congrArg UInt8.toNat h2
  simp only [UInt8.toNat_ofNat'] at h3
  rw [Nat.mod_eq_of_lt (by omega), Nat.mod_eq_of_lt (by omega)] at h3
  omega
theorem str_iff {l m : Bytes} (hl : okB l) (hm : okB m) : str l = str m ↔ l = m := ⟨str_inj hl hm, fun h => by rw [h]⟩
theorem bytesOf_map : ∀ l : Bytes, bytesOf (l.map (.int .u8)) = some (l.map fun x => UInt8.ofNat x.toNat) := by
  intro l
  induction l with
  | nil => rfl
  | cons x l ih =>
    simp only [List.map_cons, bytesOf, ih]
theorem conv_byts {h : AHeap} {a : Option Addr} {n c : Nat} {l : Bytes} (p : Byts h a n c l) : convM Try.prog h 23 9 a n = some (.string (str l)) := by
  have h1 : Try.prog.underlying 23 = some (.slice 5) := by kernel_rfl
  have h2 : Try.prog.underlying 9 = some .string := by kernel_rfl
  have h3 : Try.prog.underlying 5 = some (.int .u8) := by kernel_rfl
  unfold convM
  simp only [h1, h2, h3]
  rcases p with ⟨p, _⟩ | ⟨rfl, rfl, _, hl⟩
  · cases a with
    | none =>
      obtain ⟨_, hl⟩ := p
      obtain rfl : l = [] := by simpa using hl
      rfl
    | some ad =>
      obtain ⟨_, _, hr⟩ := p
      rw [Nat.mul_one] at hr
      simp only [hr, bytesOf_map]
      rfl
  · obtain rfl : l = [] := by simpa using hl
    rfl

/-! ### A row of one's own -/

def Mem1 (h : AHeap) (lo : Nat) (a : Option Addr) (n c : Nat) (vs : List Value) : Prop :=
  (a = none ∧ n = 0 ∧ c = 0 ∧ vs = []) ∨ ∃ b, a = some ⟨b, 0, none⟩ ∧ lo ≤ b ∧ b < h.next ∧ Own h b 1 vs ∧ vs.length = n ∧ n ≤ capLow c
theorem Mem1.row {h : AHeap} {lo : Nat} {a : Option Addr} {n c : Nat} {vs : List Value} (p : Mem1 h lo a n c vs) : RowV h a n c vs := by
  rcases p with ⟨rfl, rfl, rfl, rfl⟩ | ⟨b, rfl, hlo, hb, ho, hl, hc⟩
  · exact .inl ⟨⟨rfl, rfl⟩, fun _ => rfl, Nat.zero_le _⟩
  · refine .inl ⟨⟨rfl, hb, ?_⟩, (fun q => by cases q), hc⟩
    rw [ho.readG (by simp; omega), List.drop_zero, List.take_of_length_le (by omega)]
theorem Mem1.ext {h h' : AHeap} {lo : Nat} {a : Option Addr} {n c : Nat} {vs : List Value} (p : Mem1 h lo a n c vs) (e : Ext h h') : Mem1 h' lo a n c vs := by
  rcases p with p | ⟨b, rfl, hlo, hb, ho, hl, hc⟩
  · exact .inl p
  · exact .inr ⟨b, rfl, hlo, Nat.lt_of_lt_of_le hb e.next, ho.ext e hb, hl, hc⟩
theorem Mem1.lower {h : AHeap} {lo lo' : Nat} {a : Option Addr} {n c : Nat} {vs : List Value} (p : Mem1 h lo a n c vs) (hl : lo' ≤ lo) : Mem1 h lo' a n c vs := by
  rcases p with p | ⟨b, rfl, hlo, q⟩
  · exact .inl p
  · exact .inr ⟨b, rfl, by omega, q⟩
theorem Mem1.of_get {h h' : AHeap} {lo : Nat} {a : Option Addr} {n c : Nat} {vs : List Value} (p : Mem1 h lo a n c vs) (hn : h.next ≤ h'.next) (hg : ∀ b, lo ≤ b → b < h.next → Own h b 1 vs → h'.m.get b = h.m.get b) : Mem1 h' lo a n c vs := by
  rcases p with p | ⟨b, rfl, hlo, hb, ho, hl, hc⟩
  · exact .inl p
  · exact .inr ⟨b, rfl, hlo, by omega, ho.of_get (hg b hlo hb ho), hl, hc⟩
theorem Mem1.apd {h : AHeap} {lo : Nat} {a : Option Addr} {n c : Nat} {vs : List Value} (p : Apd h 1 a n c vs) (hf : From lo a) (hn : n < slack) : Mem1 h lo a n c vs := by
  have hcap := p.cap hn
  rcases p with p | ⟨b, rfl, _, hb, hl, ho⟩
  · exact .inl p
  · exact .inr ⟨b, rfl, hf _ rfl, hb, ho, by omega, hcap⟩
theorem Mem1.own2 {h : AHeap} {lo b n c : Nat} {vs : List Value} (p : Own2 h 1 b n c vs) (hf : lo ≤ b) (hn : n < slack) : Mem1 h lo (some ⟨b, 0, none⟩) n c vs := by
  obtain ⟨ho, hb, hl, hc⟩ := p
  refine .inr ⟨b, rfl, hf, hb, ho, by omega, ?_⟩
  rcases hc with ⟨rfl, rfl⟩ | rfl
  · exact Nat.zero_le _
  · unfold capLow someCap
    rw [Nat.mul_add_mod, Nat.mod_eq_of_lt hn]
    exact Nat.le_refl _

/-- Some cells behind an empty block of one's own. -/
theorem append_row2 {t e : Nat} (hT : SliceT Try.prog t e 1) {h : AHeap} {b : Nat} (ho : Own h b 1 []) (hb : b < h.next) {a2 : Option Addr} {n2 c2 : Nat} {news : List Value} (hr : RowV h a2 n2 c2 news) (ok2 : news.all cellOK = true) (hbig : n2 ≤ 1000000) :
    ∃ b' c' h', appendH Try.prog h [t, t] [.slice (some ⟨b, 0, none⟩) 0 0, .slice a2 n2 c2] = some (.slice (some ⟨b', 0, none⟩) n2 c', h') ∧ Own2 h' 1 b' n2 c' news ∧ (∀ h0, Ext h0 h → h0.next ≤ b → Ext h0 h' ∧ h0.next ≤ b') := by
  have hp : Own2 h 1 b 0 0 [] := ⟨ho, hb, rfl, .inl ⟨rfl, rfl⟩⟩
  have main : ∀ (a3 : Option Addr) (c3 : Nat), Cells h a3 n2 1 news → ∃ b' c' h', appendH Try.prog h [t, t] [.slice (some ⟨b, 0, none⟩) 0 0, .slice a3 n2 c3] = some (.slice (some ⟨b', 0, none⟩) n2 c', h') ∧ Own2 h' 1 b' n2 c' news ∧ (∀ h0, Ext h0 h → h0.next ≤ b → Ext h0 h' ∧ h0.next ≤ b') := fun a3 c3 hc => by
    have := append_any hT hT.und hp hc (c2 := c3) rfl ok2 (by omega)
    simpa using this
  rcases hr with ⟨hr, _⟩ | ⟨rfl, rfl, rfl, rfl⟩
  · exact main a2 c2 hr
  · obtain ⟨b', c', h', q1, q2⟩ := main none 0 ⟨rfl, rfl⟩
    refine ⟨b', c', h', ?_, q2⟩
    rw [← q1]
    unfold appendH
    rfl

/-! ### Records -/

structure NRec (h : AHeap) (lo : Nat) (x : RH) (r : Rec) : Prop where
  name : x.name = r.name
  how : x.how = r.how
  arg : x.arg = r.arg
  dig : x.dig = r.dig
  frm : Mem1 h lo x.fa x.fn x.fc (r.frm.map .string)
  data : Mem1 h lo x.da x.dn x.dc (r.data.map (.int .u8))
theorem NRec.rel {h : AHeap} {lo : Nat} {x : RH} {r : Rec} (p : NRec h lo x r) : RelR h x r := ⟨p.name, p.how, p.arg, p.dig, p.frm.row, p.data.row⟩
theorem NRec.ext {h h' : AHeap} {lo : Nat} {x : RH} {r : Rec} (p : NRec h lo x r) (e : Ext h h') : NRec h' lo x r := { p with frm := p.frm.ext e, data := p.data.ext e }
theorem NRec.lower {h : AHeap} {lo lo' : Nat} {x : RH} {r : Rec} (p : NRec h lo x r) (e : lo' ≤ lo) : NRec h lo' x r := { p with frm := p.frm.lower e, data := p.data.lower e }
/-- A block of records was written, or put aside. -/
theorem Mem1.keep {h h' : AHeap} {lo : Nat} {a : Option Addr} {n c : Nat} {vs : List Value} (p : Mem1 h lo a n c vs) {B : Nat} {cs : List Value} (ho : Own h B 6 cs) (hn : h.next ≤ h'.next) (hg : ∀ i, i < h.next → i ≠ B → h'.m.get i = h.m.get i) : Mem1 h' lo a n c vs :=
  p.of_get hn (fun b h1 h2 h3 => hg b h2 (fun q => by
    subst q
    unfold Own at ho h3
    rw [ho] at h3
    cases h3))
theorem NRec.keep {h h' : AHeap} {lo : Nat} {x : RH} {r : Rec} (p : NRec h lo x r) {B : Nat} {cs : List Value} (ho : Own h B 6 cs) (hn : h.next ≤ h'.next) (hg : ∀ i, i < h.next → i ≠ B → h'.m.get i = h.m.get i) : NRec h' lo x r :=
  { p with frm := p.frm.keep ho hn hg, data := p.data.keep ho hn hg }

def NAll (h : AHeap) (lo : Nat) (xs : List RH) (rs : List Rec) : Prop := xs.length = rs.length ∧ ∀ (i : Nat) (x : RH) (r : Rec), xs[i]? = some x → rs[i]? = some r → NRec h lo x r
theorem NAll.ext {h h' : AHeap} {lo : Nat} {xs : List RH} {rs : List Rec} (p : NAll h lo xs rs) (e : Ext h h') : NAll h' lo xs rs := ⟨p.1, fun i x r hx hr => (p.2 i x r hx hr).ext e⟩
theorem NAll.keep {h h' : AHeap} {lo : Nat} {xs : List RH} {rs : List Rec} (p : NAll h lo xs rs) {B : Nat} {cs : List Value} (ho : Own h B 6 cs) (hn : h.next ≤ h'.next) (hg : ∀ i, i < h.next → i ≠ B → h'.m.get i = h.m.get i) : NAll h' lo xs rs := ⟨p.1, fun i x r hx hr => (p.2 i x r hx hr).keep ho hn hg⟩
theorem NAll.add {h : AHeap} {lo : Nat} {xs : List RH} {rs : List Rec} (p : NAll h lo xs rs) {x : RH} {r : Rec} (q : NRec h lo x r) : NAll h lo (xs ++ [x]) (rs ++ [r]) := by
  have hl := p.1
  refine ⟨by simp [p.1], fun i y s hy hs => ?_⟩
  rcases Nat.lt_trichotomy i xs.length with cc | cc | cc
  · rw [List.getElem?_append_left cc] at hy
    rw [List.getElem?_append_left (by omega)] at hs
    exact p.2 i y s hy hs
  · subst cc
    rw [List.getElem?_append_right (Nat.le_refl _), Nat.sub_self] at hy
    rw [hl, List.getElem?_append_right (Nat.le_refl _), Nat.sub_self] at hs
    cases hy; cases hs
    exact q
  · rw [List.getElem?_eq_none (by simp; omega)] at hy
    cases hy

/-- Records in new memory. -/
def NRecs (h : AHeap) (lo : Nat) (a : Option Addr) (n c : Nat) (rs : List Rec) : Prop :=
  ∃ xs, ((a = none ∧ n = 0 ∧ c = 0) ∨ ∃ b, a = some ⟨b, 0, none⟩ ∧ lo ≤ b ∧ b < h.next ∧ Own h b 6 (flatR xs)) ∧ n ≤ capLow c ∧ xs.length = n ∧ NAll h lo xs rs
theorem NRecs.len {h : AHeap} {lo : Nat} {a : Option Addr} {n c : Nat} {rs : List Rec} (p : NRecs h lo a n c rs) : rs.length = n := by
  obtain ⟨xs, _, _, h2, h3⟩ := p
  have := h3.1
  omega
theorem NRecs.recs {h : AHeap} {lo : Nat} {a : Option Addr} {n c : Nat} {rs : List Rec} (p : NRecs h lo a n c rs) : Recs h a n rs := by
  obtain ⟨xs, h1, _, h2, h3, h4⟩ := p
  refine ⟨xs, ?_, h3, fun i x r hx hr => (h4 i x r hx hr).rel⟩
  rcases h1 with ⟨rfl, rfl, _⟩ | ⟨b, rfl, _, hb, ho⟩
  · obtain rfl : xs = [] := List.eq_nil_of_length_eq_zero h2
    exact ⟨rfl, rfl⟩
  · refine ⟨rfl, hb, ?_⟩
    have := flatR_len xs
    rw [ho.readG (by rw [flatR_len]; omega), List.drop_zero, List.take_of_length_le (by omega)]
theorem NRecs.cap {h : AHeap} {lo : Nat} {a : Option Addr} {n c : Nat} {rs : List Rec} (p : NRecs h lo a n c rs) : n ≤ capLow c := by
  obtain ⟨xs, _, h2, _⟩ := p
  exact h2
theorem NRecs.ext {h h' : AHeap} {lo : Nat} {a : Option Addr} {n c : Nat} {rs : List Rec} (p : NRecs h lo a n c rs) (e : Ext h h') : NRecs h' lo a n c rs := by
  obtain ⟨xs, h1, hc, h2, h3⟩ := p
  refine ⟨xs, ?_, hc, h2, h3.ext e⟩
  rcases h1 with q | ⟨b, rfl, hlo, hb, ho⟩
  · exact .inl q
  · exact .inr ⟨b, rfl, hlo, Nat.lt_of_lt_of_le hb e.next, ho.ext e hb⟩
theorem NRecs.nil (h : AHeap) (lo : Nat) : NRecs h lo none 0 0 [] := ⟨[], .inl ⟨rfl, rfl, rfl⟩, Nat.zero_le _, rfl, rfl, fun i x r hx => by simp at hx⟩
theorem NRecs.lower {h : AHeap} {lo lo' : Nat} {a : Option Addr} {n c : Nat} {rs : List Rec} (p : NRecs h lo a n c rs) (e : lo' ≤ lo) : NRecs h lo' a n c rs := by
  obtain ⟨xs, h1, hc, h2, h3, h4⟩ := p
  refine ⟨xs, ?_, hc, h2, h3, fun i x r hx hr => (h4 i x r hx hr).lower e⟩
  rcases h1 with q | ⟨b, rfl, hlo, hb, ho⟩
  · exact .inl q
  · exact .inr ⟨b, rfl, by omega, hb, ho⟩

theorem rec_ext {a b : Rec} (h1 : a.name = b.name) (h2 : a.how = b.how) (h3 : a.frm = b.frm) (h4 : a.arg = b.arg) (h5 : a.data = b.data) (h6 : a.dig = b.dig) : a = b := by
  cases a; cases b; simp_all
theorem list_rat {l m : List Rec} (hl : l.length = m.length) (h : ∀ i : Int, 0 ≤ i → i < l.length → rat l i = rat m i) : l = m := by
  refine List.ext_getElem hl (fun j j1 j2 => ?_)
  have := h j (by omega) (by omega)
  unfold rat at this
  simpa [List.getD, List.getElem?_eq_getElem j1, List.getElem?_eq_getElem j2] using this

theorem flatR_app (xs ys : List RH) : flatR (xs ++ ys) = flatR xs ++ flatR ys := by unfold flatR; rw [List.flatMap_append]
theorem flatR_ok (xs : List RH) : (flatR xs).all cellOK = true := by
  induction xs with
  | nil => rfl
  | cons x xs ih =>
    show (x.cells ++ flatR xs).all cellOK = true
    rw [List.all_append, ih]
    rfl

/-- One record behind others. -/
theorem rec_add {h : AHeap} {lo : Nat} {a : Option Addr} {n c : Nat} {xs : List RH} (hp : Apd h 6 a n c (flatR xs)) {rs : List Rec} (hxs : NAll h lo xs rs) (hf : From lo a) (hn : xs.length = n) {x : RH} {r : Rec} (hx : NRec h lo x r) (hbig : n ≤ 1000) :
    ∃ a' c' h', appendH Try.prog (h.push 6 x.cells) [22, 22] [.slice a n c, .slice (some ⟨h.next, 0, none⟩) 1 1] = some (.slice a' (n + 1) c', h') ∧ Apd h' 6 a' (n + 1) c' (flatR (xs ++ [x])) ∧ NAll h' lo (xs ++ [x]) (rs ++ [r]) ∧ (lo ≤ h.next → From lo a') ∧ (∀ h0, Ext h0 h → h0.next = lo → Ext h0 h') := by
  have e3 : Ext h (h.push 6 x.cells) := .push _ _ _
  have o3 : Own (h.push 6 x.cells) h.next 6 x.cells := Own.push _ _ _
  have hnx : (h.push 6 x.cells).next = h.next + 1 := rfl
  have r3 : Cells (h.push 6 x.cells) (some ⟨h.next, 0, none⟩) 1 6 x.cells := ⟨rfl, Nat.lt_succ_self _, by rw [o3.readG (by simp [RH.cells])]; rfl⟩
  obtain ⟨a', c', h', q1, q2, q3, q4, q5, q6⟩ := append_keep T22 T22.und (hp.ext e3) r3 (c2 := 1) (flatR_ok xs) rfl (by omega) (by omega)
  refine ⟨a', c', h', q1, ?_, ?_, fun hlo ad had => by have := q5 ad had; rw [hnx] at this; omega, fun h0 e0 hl0 => (q3 h0 (e0.trans e3) (by rw [hl0]; exact hf)).1⟩
  · rw [flatR_app]
    have : flatR [x] = x.cells := by simp [flatR]
    rw [this]
    exact q2
  · have hall := (hxs.add hx).ext e3
    rcases hp with ⟨rfl, _, _, _⟩ | ⟨b, rfl, _, hb, _, ho⟩
    · refine ⟨hall.1, fun i y s hy hs => ?_⟩
      have w := hall.2 i y s hy hs
      exact w.keep o3 q4 (fun j hj _ => q6 j hj (fun ad q => by cases q))
    · exact hall.keep (ho.ext e3 hb) q4 (fun j hj hne => q6 j hj (fun ad q => by cases q; exact fun w => hne w.symm))

theorem _root_.Go.Sim.Ext.rd {h h' : AHeap} (e : Ext h h') {b o n : Nat} (hb : b < h.next) {vs : List Value} (hr : h.readG ⟨b, o, none⟩ n = some vs) : h'.readG ⟨b, o, none⟩ n = some vs := by
  unfold AHeap.readG at hr ⊢; rw [e.cells hb]; exact hr

variable {call : FuncId → List Value → AHeap → (Value → AHeap → Prop) → Prop}
  {head : FuncId → Nat → Nat → SS → (Exit → SS → Prop) → Prop}
  {arith : BinOp → IntKind → Int → Int → Int}
  {cmp : BinOp → Int → Int → Bool}
  {scmp : BinOp → ByteArray → ByteArray → Bool}
  {bnot : Bool → Bool}
  {bsame : Bool → Bool → Bool}
  {conv : IntKind → Int → Int}
  {neg : IntKind → Int → Int}
  {imax : Int → Int → Int}
  {imin : Int → Int → Int}
  {ofNat : Nat → Int}
  {slen : ByteArray → Int}
  {place : Nat → Int → Nat → Nat}
  {inR : Int → Nat → Prop}
  {nz : Int → Prop}
  {geZ : Int → Prop}
  {rd : AHeap → Nat → Nat → Nat → List Value → Prop}
  {wr : AHeap → Nat → Nat → List Value → AHeap → Prop}
  {push : AHeap → Nat → List Value → AHeap}
  {next : AHeap → Nat}
  {mkOK : Int → Int → Prop}
  {nat : Int → Nat}
  {zeros : List Value → Int → List Value}
  {sadd : ByteArray → ByteArray → (ByteArray → Prop) → Prop}
  {eqAgg : TypeId → Array Value → Array Value → (Bool → Prop) → Prop}
  {cut : Nat → Int → Prop}
  {slc : TypeId → Value → Option Value → Option Value → Option Value → (Option Addr → Nat → Nat → Prop) → Prop}
  {sslc : TypeId → ByteArray → Option Value → Option Value → (ByteArray → Prop) → Prop}
  {strAt : ByteArray → Int → (Int → Prop) → Prop}
  {part : TypeId → Array Value → Nat → Value → Prop}
  {app : List TypeId → List Value → AHeap → (Option Addr → Nat → Nat → AHeap → Prop) → Prop}
  {cpy : List TypeId → List Value → AHeap → (Int → AHeap → Prop) → Prop}
  {putAt : AHeap → Nat → Nat → List Value → AHeap}
  {fresh : AHeap → AHeap}
  {lowered : AHeap → AHeap → AHeap}
  {bump : AHeap → Nat → AHeap}
  {wrote : AHeap → AHeap → Bool}
  {addN : Nat → Nat → Nat}
  {lt : Nat → Nat → Prop}
  {ne : Nat → Nat → Prop}
  {fpAll : Bool → Bool → Bool → Nat → Nat → Prop}
  {brk : (Unit → Prop) → Prop}
  {yn : Nat → Nat}
  {rng : FuncId → Nat → SS → (Exit → SS → Prop) → Prop}
  {mget : TypeId → Value → Value → AHeap → Value → Bool → Prop}
  {mput : TypeId → Value → Value → Value → AHeap → AHeap → Prop}
  {mnew : AHeap → AHeap}
  {bytes : TypeId → TypeId → Option Addr → Nat → AHeap → ByteArray → Prop}
  {clr : List TypeId → List Value → AHeap → AHeap → Prop}
  (hA : AOK progU hint prims ⟨call, head, arith, cmp, scmp, bnot, bsame, conv, neg, imax, imin, ofNat, slen, place, inR, nz, geZ, rd, wr, push, next, mkOK, nat, zeros, sadd, eqAgg, cut, slc, sslc, strAt, part, app, cpy, putAt, fresh, lowered, bump, wrote, addN, lt, ne, fpAll, brk, yn, rng, mget, mput, mnew, bytes, clr⟩)
include hA

theorem e_bytes (s t : TypeId) (a : Option Addr) (n : Nat) (h : AHeap) (b : ByteArray) : bytes s t a n h b = (convM Try.prog h s t a n = some (.string b)) := by have := hA.eq; injections; subst_vars; rfl
theorem bytes_is {h : AHeap} {a : Option Addr} {n c : Nat} {l : Bytes} (p : Byts h a n c l) : bytes 23 9 a n h (str l) := by rw [e_bytes hA]; exact conv_byts p

omit hA in
theorem RowV.form {h : AHeap} {a : Option Addr} {n c : Nat} {vs : List Value} (p : RowV h a n c vs) : a = none ∨ (∃ b o, a = some ⟨b, o, none⟩ ∧ b < h.next) ∨ a = some ⟨0, 0, some 0⟩ := by
  rcases p with ⟨p, _⟩ | ⟨p, _⟩
  · cases a with
    | none => exact .inl rfl
    | some ad =>
      obtain ⟨b, o, sp⟩ := ad
      obtain ⟨h1, h2, _⟩ := p
      simp only [] at h1 h2
      exact .inr (.inl ⟨b, o, by rw [h1], h2⟩)
  · exact .inr (.inr p)
omit hA in
theorem rat_mem {l : List Rec} {i : Int} (h0 : 0 ≤ i) (h1 : i < l.length) : rat l i ∈ l := by
  unfold rat
  rw [List.getD, List.getElem?_eq_getElem (by omega)]
  exact List.getElem_mem _

theorem twin_loop {h0 : AHeap} {al : Option Addr} {nl cl : Nat} {l : List Rec} (hl : Recs h0 al nl l) (hnl : (nl : Int) ≤ 1000) (hsz : ∀ r ∈ l, r.frm.length ≤ 100000 ∧ r.data.length ≤ 100000) {Q : Exit → SS → Prop}
    (h1 : ∀ a n c h' xs, Ext h0 h' → Apd h' 6 a n c (flatR xs) → NAll h' h0.next xs l → From h0.next a → xs.length = n → Q (.exit 0) ⟨[(3, .slice a n c)], 0, [], h'⟩) :
    ∀ i : Int, 0 ≤ i → i ≤ nl → ∀ h a n c xs, Ext h0 h → Apd h 6 a n c (flatR xs) → NAll h h0.next xs (l.take i.toNat) → From h0.next a → xs.length = n → head 12 3 0 ⟨[(0, .slice al nl cl), (3, .slice a n c), (4, .int .i64 i)], 0, [], h⟩ Q := by
  have hll := hl.len
  refine countUp (fun i hi0 hin ih h a n c xs e hp hxs hf hn => ?_)
  have hxl := hxs.1
  rw [List.length_take] at hxl
  refine hA.roundR Try.func12 r12_ok ?_; (try (conv => cbv)); repeat (refine brk_ok hA ?_; (try (conv => cbv)))
  refine br (i < nl) (by rw [e_lss hA, e_ofNat hA]) (fun c1 => ?_) (fun c1 => ?_) <;> (try (conv => cbv)) <;> repeat (refine brk_ok hA ?_; (try (conv => cbv)))
  · obtain ⟨b, o, x, hae, hbn, rel, hrd, _, _, hr2, _, hr4, _⟩ := (hl.ext e).at hi0 c1
    have hnm := rel.name
    have hhw := rel.how
    have hag := rel.arg
    have hdg := rel.dig
    have hfr := rel.frm
    have hda := rel.data
    obtain ⟨xnm, xhow, xfa, xfn, xfc, xarg, xda, xdn, xdc, xdg⟩ := x
    simp only [] at hnm hhw hag hdg hfr hda hr2 hr4
    refine ⟨b, o, hae, in_ok hA hi0 c1, ?_⟩
    ((try (conv => cbv)); repeat (refine brk_ok hA ?_; (try (conv => cbv))))
    refine ⟨xnm, xhow, xfa, xfn, xfc, xarg, xda, xdn, xdc, xdg, rd_ok hA hrd, ?_⟩
    ((try (conv => cbv)); repeat (refine brk_ok hA ?_; (try (conv => cbv))))
    have hfrl := hfr.len
    have hdal := hda.len
    have hmem : rat l i ∈ l := by
      unfold rat
      rw [List.getD, List.getElem?_eq_getElem (by omega)]
      exact List.getElem_mem _
    obtain ⟨sz1, sz2⟩ := hsz _ hmem
    rw [e_next hA, e_push hA]
    have e1 : Ext h (h.push 1 []) := .push _ _ _
    have o1 : Own (h.push 1 []) h.next 1 [] := Own.push _ _ _
    have n1 : (h.push 1 []).next = h.next + 1 := rfl
    generalize h.push 1 [] = h1 at *
    obtain ⟨b1, hb1⟩ : ∃ v, v = h.next := ⟨_, rfl⟩
    rw [← hb1] at o1 n1 ⊢
    have e01 := e.trans e1
    have hr2' := e1.rd hbn hr2
    refine ⟨b, o, hae, in_ok hA hi0 c1, ?_⟩
    ((try (conv => cbv)); repeat (refine brk_ok hA ?_; (try (conv => cbv))))
    refine ⟨xfa, xfn, xfc, rd_fld hA hr2', ?_⟩
    ((try (conv => cbv)); repeat (refine brk_ok hA ?_; (try (conv => cbv))))
    obtain ⟨b2, c2, h2, q1, q2, q3⟩ := append_row2 T35 o1 (by omega) (hfr.ext e1) (strs_ok _) (by omega)
    refine app_ok hA q1 ?_
    ((try (conv => cbv)); repeat (refine brk_ok hA ?_; (try (conv => cbv))))
    obtain ⟨e2, f2⟩ := q3 h e1 (by omega)
    have e02 := e.trans e2
    have m2 := Mem1.own2 q2 f2 (by unfold slack; omega)
    have nn2 := e2.next
    rw [e_next hA, e_push hA]
    have e3 : Ext h2 (h2.push 1 []) := .push _ _ _
    have o3 : Own (h2.push 1 []) h2.next 1 [] := Own.push _ _ _
    have n3 : (h2.push 1 []).next = h2.next + 1 := rfl
    generalize h2.push 1 [] = h3 at *
    obtain ⟨b3, hb3⟩ : ∃ v, v = h2.next := ⟨_, rfl⟩
    rw [← hb3] at o3 n3 ⊢
    have e23 := e2.trans e3
    refine ⟨b, o, hae, in_ok hA hi0 c1, ?_⟩
    ((try (conv => cbv)); repeat (refine brk_ok hA ?_; (try (conv => cbv))))
    refine ⟨xda, xdn, xdc, rd_fld hA (e23.rd hbn hr4), ?_⟩
    ((try (conv => cbv)); repeat (refine brk_ok hA ?_; (try (conv => cbv))))
    obtain ⟨b4, c4, h4, q4, q5, q6⟩ := append_row2 T23 o3 (by omega) (hda.ext e23) (bytes_ok _) (by omega)
    refine app_ok hA q4 ?_
    ((try (conv => cbv)); repeat (refine brk_ok hA ?_; (try (conv => cbv))))
    obtain ⟨e4, f4⟩ := q6 h2 e3 (by omega)
    have m4 := Mem1.own2 q5 f4 (by unfold slack; omega)
    have nn4 := e4.next
    rw [e_next hA, e_push hA]
    have e04 := e02.trans e4
    have xx : NRec h4 h.next ⟨xnm, xhow, some ⟨b2, 0, none⟩, xfn, c2, xarg, some ⟨b4, 0, none⟩, xdn, c4, xdg⟩ (rat l i) := ⟨hnm, hhw, hag, hdg, m2.ext e4, m4.lower (by omega)⟩
    obtain ⟨a', c', h', w1, w2, w3, w4, w5⟩ := rec_add (hp.ext (e2.trans e4)) (hxs.ext (e2.trans e4)) hf hn (xx.lower e.next) (by omega)
    refine app_ok hA w1 ?_
    ((try (conv => cbv)); repeat (refine brk_ok hA ?_; (try (conv => cbv))))
    rw [add64 hA (by omega) (by omega)]
    have hnx := e04.next
    refine ih c1 h' a' (n + 1) c' _ (w5 h0 e04 rfl) w2 ?_ (w4 (by omega)) (by simp; omega)
    rw [take_rat hi0 (by omega)]
    exact w3
  · have : l.take i.toNat = l := List.take_of_length_le (by omega)
    rw [this] at hxs
    exact h1 a n c h xs e hp hxs hf hn

theorem twin_ok {h : AHeap} (hlow : h.low ≤ h.next) {al : Option Addr} {nl cl : Nat} {l : List Rec} (hl : Recs h al nl l) (hnl : (nl : Int) ≤ 1000) (hsz : ∀ r ∈ l, r.frm.length ≤ 100000 ∧ r.data.length ≤ 100000) {Q : Value → AHeap → Prop}
    (hQ : ∀ a n c h', Ext h h' → NRecs h' h.next a n c l → n = nl → Q (.slice a n c) h') : call 12 [.slice al nl cl] h Q := by
  have hll := hl.len
  refine hA.bodyR Try.func12 r12_ok (show prims _ _ _ = none from rfl) hlow ?_; (try (conv => cbv)); repeat (refine brk_ok hA ?_; (try (conv => cbv)))
  refine twin_loop hA hl hnl hsz (fun a n c h' xs e hp hxs hf hn => ?_) 0 (by omega) (by omega) h none 0 0 [] (.refl _) (.nil _ _) ⟨by simp, fun i x r hx => by simp at hx⟩ (.none _) rfl
  ((try (conv => cbv)); repeat (refine brk_ok hA ?_; (try (conv => cbv))))
  have hxl := hxs.1
  refine hQ a n c h' e ⟨xs, ?_, hp.cap (by unfold slack; omega), hn, hxs⟩ (by omega)
  rcases hp with ⟨rfl, rfl, rfl, _⟩ | ⟨b, rfl, _, hb, _, ho⟩
  · exact .inl ⟨rfl, rfl, rfl⟩
  · exact .inr ⟨b, rfl, hf _ rfl, hb, ho⟩

end Go.Proofs.Ytopppccddnplkaa
