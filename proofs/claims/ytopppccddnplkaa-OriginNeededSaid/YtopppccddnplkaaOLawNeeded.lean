/-
  The law OriginNeeded.
-/
import Derived.Test.YtopppccddnplkaaONeededP
import Derived.Test.YtopppccddnplkaaOLawBase
import Derived.Test.YtopppccddnplkaaSeatL6
namespace Go.Proofs.Ytopppccddnplkaa
open Go.Sim
open Classical
set_option linter.unusedVariables false
set_option maxRecDepth 100000

theorem T57 : SliceT Try.prog 57 35 1 := ⟨by kernel_rfl, by kernel_rfl, ⟨24, by kernel_rfl, by omega⟩, ⟨.slice none 0 0, by kernel_rfl, rfl⟩⟩

noncomputable def needL (l : List Rec) (i : Int) : List Str := outN l (fun x => Due l noHad i x ∧ x ≠ i) l.length
theorem need_is {l : List Rec} {ps : List Bytes} (ha : AllIs l 0 (some ps)) {i : Int} (i0 : 0 ≤ i) (i1 : i < l.length) {e : Int} {r : List Str} (h : NeedIs l (rat l i).name e r) : e = 0 ∧ r = needL l i := by
  have hs := ha.prov.1.self i i0 i1
  rcases h with ⟨w, _⟩ | ⟨_, _, q, _⟩ | ⟨_, _, _, rfl, rfl⟩
  · cases (w.uniq ha).2
  · omega
  · exact ⟨rfl, by unfold needL; rw [hs]⟩
theorem needL_mem {l : List Rec} (hp : Prov l) {i k : Int} (k0 : 0 ≤ k) (k1 : k < l.length) : (rat l k).name ∈ needL l i ↔ (Due l noHad i k ∧ k ≠ i) := by
  unfold needL
  rw [outN_mem]
  constructor
  · rintro ⟨j, j0, j1, d, e⟩
    have h1 := hp.self j j0 j1
    have h2 := hp.self k k0 k1
    rw [e] at h1
    have : j = k := by omega
    subst this
    exact d
  · intro d
    exact ⟨k, k0, k1, d, rfl⟩

/-- Lists of names in a list. -/
def OutS (h : AHeap) (lo : Nat) (a : Option Addr) (n c : Nat) (ps : List (List Str)) : Prop :=
  ∃ hs : List Hd, Apd h 1 a n c (hs.map Hd.val) ∧ From lo a ∧ hs.length = ps.length ∧ ∀ (j : Nat) (x : Hd) (l : List Str), hs[j]? = some x → ps[j]? = some l → SOut h lo x.a x.n x.c l ∧ ∀ ad ad', a = some ad → x.a = some ad' → ad'.block < ad.block
theorem OutS.nil (h : AHeap) (lo : Nat) : OutS h lo none 0 0 [] := ⟨[], .nil _ _, .none _, rfl, fun j x l hx => by simp at hx⟩
theorem OutS.ext {h h' : AHeap} {lo : Nat} {a : Option Addr} {n c : Nat} {ps : List (List Str)} (p : OutS h lo a n c ps) (e : Ext h h') : OutS h' lo a n c ps := by
  obtain ⟨hs, h1, h2, h3, h4⟩ := p
  exact ⟨hs, h1.ext e, h2, h3, fun j x l hx hl => ⟨((h4 j x l hx hl).1).ext e, (h4 j x l hx hl).2⟩⟩
theorem OutS.len {h : AHeap} {lo : Nat} {a : Option Addr} {n c : Nat} {ps : List (List Str)} (p : OutS h lo a n c ps) : ps.length = n := by
  obtain ⟨hs, h1, h2, h3, h4⟩ := p
  have := h1.cells.length
  rw [List.length_map] at this
  omega
theorem OutS.at {h : AHeap} {lo : Nat} {a : Option Addr} {n c : Nat} {ps : List (List Str)} (p : OutS h lo a n c ps) {i : Int} (h0 : 0 ≤ i) (hi : i < n) :
    ∃ b o ra rn rc, a = some ⟨b, o, none⟩ ∧ b < h.next ∧ h.readG ⟨b, o + i.toNat * 1, none⟩ 1 = some [.slice ra rn rc] ∧ SOut h lo ra rn rc (ps.getD i.toNat []) := by
  have hl := p.len
  obtain ⟨hs, h1, h2, h3, h4⟩ := p
  obtain ⟨b, o, q4, q5, q6⟩ := h1.cells.at (i := i.toNat) (m := 1) (by omega) (by omega)
  have hx := getD_some hs i.toNat ⟨none, 0, 0⟩ (by omega)
  have hr := getD_some ps i.toNat [] (by omega)
  refine ⟨b, o, _, _, _, q4, q5, ?_, (h4 _ _ _ hx hr).1⟩
  rw [Nat.mul_one, q6]
  rw [take_one (hs.map Hd.val) i.toNat ((hs.getD i.toNat ⟨none, 0, 0⟩).val) (by rw [List.getElem?_map, hx]; rfl)]
  rfl
theorem SOut.of_get {h h' : AHeap} {lo : Nat} {a : Option Addr} {n c : Nat} {l : List Str} (p : SOut h lo a n c l) (hn : h.next ≤ h'.next) (hg : ∀ ad, a = some ad → ad.block < h.next → h'.m.get ad.block = h.m.get ad.block) : SOut h' lo a n c l :=
  ⟨p.apd.of_get hn hg, p.frm, p.lt⟩
theorem OutS.add {h : AHeap} {lo : Nat} {a : Option Addr} {n c : Nat} {ps : List (List Str)} (p : OutS h lo a n c ps) {pa : Option Addr} {pn pc : Nat} {b : List Str} {lo2 : Nat} (hb2 : SOut h lo2 pa pn pc b) (ha2 : ∀ ad, a = some ad → ad.block < lo2) (hlo2 : lo ≤ lo2) (hn : n ≤ 1000) (hlo : lo ≤ h.next) :
    ∃ a' c' h', appendH Try.prog (h.push 1 [.slice pa pn pc]) [57, 57] [.slice a n c, .slice (some ⟨h.next, 0, none⟩) 1 1] = some (.slice a' (n + 1) c', h') ∧ OutS h' lo a' (n + 1) c' (ps ++ [b]) ∧ SOut h' lo pa pn pc b ∧ (∀ h0, Ext h0 h → h0.next = lo → Ext h0 h') := by
  have hpl := p.len
  have hb := hb2.lower hlo2
  obtain ⟨hs, h1, h2, h3, h4⟩ := p
  have e3 : Ext h (h.push 1 [Value.slice pa pn pc]) := .push _ _ _
  have o3 : Own (h.push 1 [Value.slice pa pn pc]) h.next 1 [Value.slice pa pn pc] := Own.push _ _ _
  have hnx : (h.push 1 [Value.slice pa pn pc]).next = h.next + 1 := rfl
  have r3 : Cells (h.push 1 [Value.slice pa pn pc]) (some ⟨h.next, 0, none⟩) 1 1 [Value.slice pa pn pc] := ⟨rfl, Nat.lt_succ_self _, by rw [o3.readG (by simp)]; rfl⟩
  obtain ⟨a', c', h', q1, q2, q3, q4, q5, q6⟩ := append_keep T57 T57.und (h1.ext e3) r3 (c2 := 1) (hds_ok hs) rfl (by omega) (by omega)
  have hbl := hb.apd.lt
  have hnew : SOut h' lo pa pn pc b := by
    refine (hb.ext e3).of_get (by rw [hnx] at q4 ⊢; exact q4) (fun ad had hlt => ?_)
    refine q6 _ hlt (fun ad2 had2 => ?_)
    have := ha2 ad2 had2
    have := hb2.frm ad had
    omega
  refine ⟨a', c', h', q1, ⟨hs ++ [⟨pa, pn, pc⟩], by rw [List.map_append]; exact q2, fun ad had => by have := q5 ad had; rw [hnx] at this; omega, by simp [h3], fun j x l hx hl => ?_⟩, hnew, fun h0 e0 hl0 => (q3 h0 (e0.trans e3) (by rw [hl0]; exact h2)).1⟩
  rcases Nat.lt_trichotomy j hs.length with cc | cc | cc
  · rw [List.getElem?_append_left cc] at hx
    rw [List.getElem?_append_left (by omega)] at hl
    obtain ⟨w1, w2⟩ := h4 j x l hx hl
    have wl := w1.apd.lt
    refine ⟨(w1.ext e3).of_get (by rw [hnx] at q4 ⊢; exact q4) (fun ad had hlt => q6 _ hlt (fun ad2 had2 => by have := w2 ad2 ad had2 had; omega)), fun ad ad' had had' => ?_⟩
    have := q5 ad had
    have := wl ad' had'
    rw [hnx] at *
    omega
  · subst cc
    rw [List.getElem?_append_right (Nat.le_refl _), Nat.sub_self] at hx
    rw [h3, List.getElem?_append_right (Nat.le_refl _), Nat.sub_self] at hl
    simp only [List.getElem?_cons_zero, Option.some.injEq] at hx hl
    subst hx hl
    refine ⟨hnew, fun ad ad' had had' => ?_⟩
    have := q5 ad had
    have := hbl ad' had'
    rw [hnx] at *
    omega
  · rw [List.getElem?_eq_none (by simp; omega)] at hx
    cases hx

noncomputable def needLs (l : List Rec) (n : Nat) : List (List Str) := (List.range n).map (fun j : Nat => needL l j)
theorem needLs_at {l : List Rec} {n : Nat} {i : Int} (h0 : 0 ≤ i) (h1 : i < n) : (needLs l n).getD i.toNat [] = needL l i := by
  unfold needLs
  rw [List.getD, List.getElem?_map, List.getElem?_range (by omega)]
  simp [Int.toNat_of_nonneg h0]
theorem needLs_succ (l : List Rec) {i : Int} (h0 : 0 ≤ i) : needLs l (i + 1).toNat = needLs l i.toNat ++ [needL l i] := by
  unfold needLs
  rw [toNat_succ h0, List.range_succ, List.map_append]
  simp [Int.toNat_of_nonneg h0]

/-- Whether one of the first products that a product is made of is k, or needs it. -/
def wantP (l : List Rec) (i k : Int) (f : Nat) : Prop := ∃ j : Int, 0 ≤ j ∧ j < f ∧ (idxOf l (sat' (rat l i).frm j) = k ∨ (rat l k).name ∈ needL l (idxOf l (sat' (rat l i).frm j)))

theorem want_iff {l : List Rec} (hp : Prov l) {i k : Int} (i0 : 0 ≤ i) (i1 : i < l.length) (k0 : 0 ≤ k) (k1 : k < l.length) : wantP l i k (rat l i).frm.length ↔ (rat l k).name ∈ needL l i := by
  rw [needL_mem hp k0 k1, need_iff hp i0 i1 k]
  constructor
  · rintro ⟨j, j0, j1, q⟩
    have hm := sat'_mem (r := (rat l i).frm) j0 j1
    refine ⟨_, hm, q.imp id (fun q => ?_)⟩
    exact (needL_mem hp k0 k1).1 q
  · rintro ⟨f, hf, q⟩
    obtain ⟨j, j0, j1, e⟩ := sat'_of_mem hf
    refine ⟨j, j0, j1, ?_⟩
    rw [e]
    exact q.imp id (fun q => (needL_mem hp k0 k1).2 q)

variable {call : FuncId → List Value → AHeap → (Value → AHeap → Prop) → Prop}
  {head : FuncId → Nat → Nat → SS → (Exit → SS → Prop) → Prop}
  {arith : BinOp → IntKind → Int → Int → Int}
  {cmp : BinOp → Int → Int → Bool}
  {scmp : BinOp → ByteArray → ByteArray → Bool}
  {bnot : Bool → Bool}
  {bsame : Bool → Bool → Bool}
  {conv : IntKind → Int → Int}
  {neg : IntKind → Int → Int}
  {imax : Int → Int → Int}
  {imin : Int → Int → Int}
  {ofNat : Nat → Int}
  {slen : ByteArray → Int}
  {place : Nat → Int → Nat → Nat}
  {inR : Int → Nat → Prop}
  {nz : Int → Prop}
  {geZ : Int → Prop}
  {rd : AHeap → Nat → Nat → Nat → List Value → Prop}
  {wr : AHeap → Nat → Nat → List Value → AHeap → Prop}
  {push : AHeap → Nat → List Value → AHeap}
  {next : AHeap → Nat}
  {mkOK : Int → Int → Prop}
  {nat : Int → Nat}
  {zeros : List Value → Int → List Value}
  {sadd : ByteArray → ByteArray → (ByteArray → Prop) → Prop}
  {eqAgg : TypeId → Array Value → Array Value → (Bool → Prop) → Prop}
  {cut : Nat → Int → Prop}
  {slc : TypeId → Value → Option Value → Option Value → Option Value → (Option Addr → Nat → Nat → Prop) → Prop}
  {sslc : TypeId → ByteArray → Option Value → Option Value → (ByteArray → Prop) → Prop}
  {strAt : ByteArray → Int → (Int → Prop) → Prop}
  {part : TypeId → Array Value → Nat → Value → Prop}
  {app : List TypeId → List Value → AHeap → (Option Addr → Nat → Nat → AHeap → Prop) → Prop}
  {cpy : List TypeId → List Value → AHeap → (Int → AHeap → Prop) → Prop}
  {putAt : AHeap → Nat → Nat → List Value → AHeap}
  {fresh : AHeap → AHeap}
  {lowered : AHeap → AHeap → AHeap}
  {bump : AHeap → Nat → AHeap}
  {wrote : AHeap → AHeap → Bool}
  {addN : Nat → Nat → Nat}
  {lt : Nat → Nat → Prop}
  {ne : Nat → Nat → Prop}
  {fpAll : Bool → Bool → Bool → Nat → Nat → Prop}
  {brk : (Unit → Prop) → Prop}
  {yn : Nat → Nat}
  {rng : FuncId → Nat → SS → (Exit → SS → Prop) → Prop}
  {mget : TypeId → Value → Value → AHeap → Value → Bool → Prop}
  {mput : TypeId → Value → Value → Value → AHeap → AHeap → Prop}
  {mnew : AHeap → AHeap}
  {bytes : TypeId → TypeId → Option Addr → Nat → AHeap → ByteArray → Prop}
  {clr : List TypeId → List Value → AHeap → AHeap → Prop}
  (hA : AOK progU hint prims ⟨call, head, arith, cmp, scmp, bnot, bsame, conv, neg, imax, imin, ofNat, slen, place, inR, nz, geZ, rd, wr, push, next, mkOK, nat, zeros, sadd, eqAgg, cut, slc, sslc, strAt, part, app, cpy, putAt, fresh, lowered, bump, wrote, addN, lt, ne, fpAll, brk, yn, rng, mget, mput, mnew, bytes, clr⟩)
include hA

theorem raw_loop {h0 : AHeap} {al : Option Addr} {nl cl : Nat} {l : List Rec} (hl : Recs h0 al nl l) (hnl : (nl : Int) ≤ 40) {Q : Exit → SS → Prop}
    (h1 : ∀ a n c h', Ext h0 h' → SOut h' h0.next a n c (rawN l l.length) → Q (.exit 0) ⟨[(0, .slice al nl cl), (3, .bool true), (4, .slice a n c)], 0, [], h'⟩) :
    ∀ i : Int, 0 ≤ i → i ≤ nl → ∀ h a n c, Ext h0 h → SOut h h0.next a n c (rawN l i.toNat) → head 6 6 0 ⟨[(0, .slice al nl cl), (3, .bool true), (4, .slice a n c), (5, .int .i64 i)], 0, [], h⟩ Q := by
  have hll := hl.len
  refine countUp (fun i hi0 hin ih h a n c e ho => ?_)
  have hon := ho.len
  have hol := outN_len l (fun j => (rat l j).how = 1) i.toNat
  unfold rawN at hon
  refine hA.roundR Try.func6 r6_ok ?_; (try (conv => cbv)); repeat (refine brk_ok hA ?_; (try (conv => cbv)))
  refine br (i < nl) (by rw [e_lss hA, e_ofNat hA]) (fun c1 => ?_) (fun c1 => ?_) <;> (try (conv => cbv)) <;> repeat (refine brk_ok hA ?_; (try (conv => cbv)))
  · obtain ⟨b, o, x, hae, hbn, rel, _, r0, r1, _⟩ := (hl.ext e).at hi0 c1
    obtain ⟨xnm, xhow, xfa, xfn, xfc, xarg, xda, xdn, xdc, xdg⟩ := x
    have hnm : xnm = (rat l i).name := rel.name
    have hhw : xhow = (rat l i).how := rel.how
    simp only [] at r0 r1
    have ha : arith .add .i64 i 1 = i + 1 := add64 hA (by omega) (by omega)
    refine ⟨b, o, hae, in_ok hA hi0 c1, ?_⟩
    ((try (conv => cbv)); repeat (refine brk_ok hA ?_; (try (conv => cbv))))
    refine ⟨xhow, rd_fld hA r1, ?_⟩
    ((try (conv => cbv)); repeat (refine brk_ok hA ?_; (try (conv => cbv))))
    refine br (xhow = 1) (by rw [e_eql hA]) (fun c2 => ?_) (fun c2 => ?_) <;> (try (conv => cbv)) <;> repeat (refine brk_ok hA ?_; (try (conv => cbv)))
    · refine ⟨b, o, hae, in_ok hA hi0 c1, ?_⟩
      ((try (conv => cbv)); repeat (refine brk_ok hA ?_; (try (conv => cbv))))
      refine ⟨xnm, rd_fld hA r0, ?_⟩
      ((try (conv => cbv)); repeat (refine brk_ok hA ?_; (try (conv => cbv))))
      rw [e_next hA, e_push hA]
      obtain ⟨a', c', h', q1, q2, q3⟩ := ho.one xnm (by omega) e rfl
      refine app_ok hA q1 ?_
      ((try (conv => cbv)); repeat (refine brk_ok hA ?_; (try (conv => cbv))))
      rw [ha]
      refine ih c1 h' a' (n + 1) c' q3 ?_
      unfold rawN
      rw [outN_yes hi0 (by rw [← hhw]; exact c2), ← hnm]
      exact q2
    · rw [ha]
      refine ih c1 h a n c e ?_
      unfold rawN
      rw [outN_no hi0 (fun q => c2 (by rw [hhw]; exact q))]
      exact ho
  · have : i.toNat = l.length := by omega
    rw [this] at ho
    exact h1 a n c h e ho

theorem want_loop {h0 : AHeap} (hlow0 : h0.low ≤ h0.next) {al : Option Addr} {nl cl : Nat} {l : List Rec} (hl : Recs h0 al nl l) (hnl : (nl : Int) ≤ 40) (hp : Prov l) {ra : Option Addr} {rn rc : Nat} {na : Option Addr} {nn nc : Nat} {xa : Option Addr} {xn xc : Nat} {i k : Int} (i0 : 0 ≤ i) (i1 : i < nl) (k0 : 0 ≤ k) (k1 : k < nl) (hfl10 : (rat l i).frm.length ≤ 10) {lo : Nat} (hns : OutS h0 lo na nn nc (needLs l (i + 1).toNat)) {Q : Exit → SS → Prop}
    (h1 : ∀ u h', Ext h0 h' → (u = true ↔ wantP l i k (rat l i).frm.length) → Q (.exit 6) ⟨[(0, .slice al nl cl), (3, .bool true), (4, .slice ra rn rc), (6, .slice na nn nc), (7, .int .i64 i), (8, .slice xa xn xc), (10, .int .i64 k), (11, .bool u)], 0, [], h'⟩) :
    ∀ f : Int, 0 ≤ f → f ≤ (rat l i).frm.length → ∀ u h, Ext h0 h → (u = true ↔ wantP l i k f.toNat) →
      head 6 23 0 ⟨[(0, .slice al nl cl), (3, .bool true), (4, .slice ra rn rc), (6, .slice na nn nc), (7, .int .i64 i), (8, .slice xa xn xc), (10, .int .i64 k), (11, .bool u), (12, .int .i64 f)], 0, [], h⟩ Q := by
  have hll := hl.len
  have hnn := hns.len
  have hnl2 : (needLs l (i + 1).toNat).length = (i + 1).toNat := by unfold needLs; simp
  refine countUp (fun f hf0 hfn ih u h e hu => ?_)
  refine hA.roundR Try.func6 r6_ok ?_; (try (conv => cbv)); repeat (refine brk_ok hA ?_; (try (conv => cbv)))
  obtain ⟨b, o, x, hae, hbn, rel, _, _, _, r2, _⟩ := (hl.ext e).at i0 i1
  obtain ⟨xnm, xhow, xfa, xfn, xfc, xarg, xda, xdn, xdc, xdg⟩ := x
  have hfr : Strs h xfa xfn xfc (rat l i).frm := rel.frm
  have hfl := hfr.len
  simp only [] at r2
  refine ⟨b, o, hae, in_ok hA i0 i1, ?_⟩
  ((try (conv => cbv)); repeat (refine brk_ok hA ?_; (try (conv => cbv))))
  refine ⟨xfa, xfn, xfc, rd_fld hA r2, ?_⟩
  ((try (conv => cbv)); repeat (refine brk_ok hA ?_; (try (conv => cbv))))
  refine br (f < xfn) (by rw [e_lss hA, e_ofNat hA]) (fun c1 => ?_) (fun c1 => ?_) <;> (try (conv => cbv)) <;> repeat (refine brk_ok hA ?_; (try (conv => cbv)))
  · have hstep : wantP l i k (f + 1).toNat ↔ wantP l i k f.toNat ∨ (idxOf l (sat' (rat l i).frm f) = k ∨ (rat l k).name ∈ needL l (idxOf l (sat' (rat l i).frm f))) := by
      unfold wantP
      constructor
      · rintro ⟨j, j0, j1, q⟩
        by_cases ej : j = f
        · subst ej; exact .inr q
        · exact .inl ⟨j, j0, by omega, q⟩
      · rintro (⟨j, j0, j1, q⟩ | q)
        · exact ⟨j, j0, by omega, q⟩
        · exact ⟨f, hf0, by omega, q⟩
    refine ⟨b, o, hae, in_ok hA i0 i1, ?_⟩
    ((try (conv => cbv)); repeat (refine brk_ok hA ?_; (try (conv => cbv))))
    refine ⟨xfa, xfn, xfc, rd_fld hA r2, ?_⟩
    ((try (conv => cbv)); repeat (refine brk_ok hA ?_; (try (conv => cbv))))
    obtain ⟨b2, o2, s, hae2, hbn2, hs, hrd2⟩ := hfr.at hf0 c1
    refine ⟨b2, o2, hae2, in_ok hA hf0 c1, ?_⟩
    ((try (conv => cbv)); repeat (refine brk_ok hA ?_; (try (conv => cbv))))
    refine ⟨s, rd_ok hA hrd2, ?_⟩
    ((try (conv => cbv)); repeat (refine brk_ok hA ?_; (try (conv => cbv))))
    have hsm : s ∈ (rat l i).frm := by rw [hs]; exact sat'_mem hf0 (by omega)
    have hdn := hp.down i i0 (by omega) s hsm
    refine idx_ok hA (e.lowOK hlow0) (hl.ext e) (by omega) (fun m hm => ⟨_, rfl, ?_⟩)
    rw [← hm] at hdn
    rw [← hs, ← hm] at hstep
    have ha : arith .add .i64 f 1 = f + 1 := add64 hA (by omega) (by omega)
    cases u with
    | true =>
      ((try (conv => cbv)); repeat (refine brk_ok hA ?_; (try (conv => cbv))))
      obtain ⟨h9, hh9⟩ : ∃ z, z = bump h 24 := ⟨_, rfl⟩
      have e9 : Ext h h9 := by rw [hh9, e_bump hA]; exact .bump _ _
      rw [← hh9]
      rw [ha]
      exact ih (by omega) true h9 (e.trans e9) (yes (hstep.2 (.inl (hu.1 rfl))))
    | false =>
      ((try (conv => cbv)); repeat (refine brk_ok hA ?_; (try (conv => cbv))))
      obtain ⟨h9, hh9⟩ : ∃ z, z = bump h 24 := ⟨_, rfl⟩
      obtain ⟨nh, hnh⟩ : ∃ z, z = next h := ⟨_, rfl⟩
      have e9 : Ext h h9 := by rw [hh9, e_bump hA]; exact .bump _ _
      rw [← hh9, ← hnh]
      have e09 := e.trans e9
      have hu' : ¬ wantP l i k f.toNat := fun q => by have := hu.2 q; cases this
      refine br (m = k) (by rw [e_eql hA]) (fun c2 => ?_) (fun c2 => ?_) <;> (try (conv => cbv)) <;> repeat (refine brk_ok hA ?_; (try (conv => cbv)))
      · rw [ha]
        exact ih (by omega) true h9 e09 (yes (hstep.2 (.inr (.inl c2))))
      · refine br (m < i) (by rw [e_lss hA]) (fun c3 => ?_) (fun c3 => absurd hdn.2 c3) <;> (try (conv => cbv)) <;> repeat (refine brk_ok hA ?_; (try (conv => cbv)))
        obtain ⟨b4, o4, na4, nn4, nc4, hae4, hbn4, hrd4, hso4⟩ := (hns.ext e09).at (i := m) (by omega) (by omega)
        rw [needLs_at (by omega) (by omega)] at hso4
        refine ⟨b4, o4, hae4, in_ok hA (by omega) (by omega), ?_⟩
        ((try (conv => cbv)); repeat (refine brk_ok hA ?_; (try (conv => cbv))))
        refine ⟨na4, nn4, nc4, rd_ok hA hrd4, ?_⟩
        ((try (conv => cbv)); repeat (refine brk_ok hA ?_; (try (conv => cbv))))
        obtain ⟨b5, o5, x5, hae5, hbn5, rel5, _, r5, _⟩ := (hl.ext e09).at k0 k1
        obtain ⟨ynm, yhow, yfa, yfn, yfc, yarg, yda, ydn, ydc, ydg⟩ := x5
        have hnm5 : ynm = (rat l k).name := rel5.name
        simp only [] at r5
        refine ⟨b5, o5, hae5, in_ok hA k0 k1, ?_⟩
        ((try (conv => cbv)); repeat (refine brk_ok hA ?_; (try (conv => cbv))))
        refine ⟨ynm, rd_fld hA r5, ?_⟩
        ((try (conv => cbv)); repeat (refine brk_ok hA ?_; (try (conv => cbv))))
        have fX := ext_fresh hA h9
        have hl4 := hso4.len
        have hl5 := outN_len l (fun x => Due l noHad m x ∧ x ≠ m) l.length
        have hl6 : (needL l m).length ≤ l.length := hl5
        refine has_ok hA (low_fresh hA h9) (hso4.strs.ext fX) (by omega) (fun g hg => ⟨_, rfl, ?_⟩)
        ((try (conv => cbv)); repeat (refine brk_ok hA ?_; (try (conv => cbv))))
        obtain ⟨hM, hhM⟩ : ∃ v, v = lowered h9 (fresh h9) := ⟨_, rfl⟩
        have eM : Ext h0 hM := by rw [hhM]; exact ext_low hA hlow0 e09 (.refl _)
        rw [← hhM, ha]
        refine ih (by omega) g hM eM ?_
        rw [hstep, hnm5] at *
        rw [hg]
        exact ⟨fun q => .inr (.inr q), fun q => q.elim (fun w => absurd w hu') (fun w => w.elim (fun w => absurd w c2) id)⟩
  · have : f.toNat = (rat l i).frm.length := by omega
    rw [this] at hu
    exact h1 u h e hu

theorem all_loop {h0 : AHeap} (hlow0 : h0.low ≤ h0.next) {al : Option Addr} {nl cl : Nat} {l : List Rec} (hl : Recs h0 al nl l) (hnl : (nl : Int) ≤ 40) (hp : Prov l) {ra : Option Addr} {rn rc : Nat} {na : Option Addr} {nn nc : Nat} {xa : Option Addr} {xn xc : Nat} {i : Int} (i0 : 0 ≤ i) (i1 : i < nl) (hfl10 : (rat l i).frm.length ≤ 10) {lo : Nat} (hns : OutS h0 lo na nn nc (needLs l (i + 1).toNat)) (hxs : SOut h0 lo xa xn xc (needL l i)) {Q : Exit → SS → Prop}
    (h1 : ∀ h', Ext h0 h' → Q (.exit 4) ⟨[(0, .slice al nl cl), (3, .bool true), (4, .slice ra rn rc), (6, .slice na nn nc), (7, .int .i64 i), (8, .slice xa xn xc)], 0, [], h'⟩) :
    ∀ k : Int, 0 ≤ k → k ≤ nl → ∀ h, Ext h0 h →
      head 6 19 0 ⟨[(0, .slice al nl cl), (3, .bool true), (4, .slice ra rn rc), (6, .slice na nn nc), (7, .int .i64 i), (8, .slice xa xn xc), (10, .int .i64 k)], 0, [], h⟩ Q := by
  have hll := hl.len
  have hxl := hxs.len
  have hl6 : (needL l i).length ≤ l.length := outN_len l (fun x => Due l noHad i x ∧ x ≠ i) l.length
  refine countUp (fun k hk0 hkn ih h e => ?_)
  refine hA.roundR Try.func6 r6_ok ?_; (try (conv => cbv)); repeat (refine brk_ok hA ?_; (try (conv => cbv)))
  refine br (k < nl) (by rw [e_lss hA, e_ofNat hA]) (fun c1 => ?_) (fun c1 => ?_) <;> (try (conv => cbv)) <;> repeat (refine brk_ok hA ?_; (try (conv => cbv)))
  · refine want_loop hA (e.lowOK hlow0) (hl.ext e) hnl hp i0 i1 hk0 c1 hfl10 (hns.ext e) (fun u h2 e2 hu => ?_) 0 (by omega) (by omega) false h (.refl _) (no (fun ⟨j, j0, j1, _⟩ => by omega))
    have e02 := e.trans e2
    rw [want_iff hp i0 (by omega) hk0 (by omega)] at hu
    ((try (conv => cbv)); repeat (refine brk_ok hA ?_; (try (conv => cbv))))
    obtain ⟨b5, o5, x5, hae5, hbn5, rel5, _, r5, _⟩ := (hl.ext e02).at hk0 c1
    obtain ⟨ynm, yhow, yfa, yfn, yfc, yarg, yda, ydn, ydc, ydg⟩ := x5
    have hnm5 : ynm = (rat l k).name := rel5.name
    simp only [] at r5
    refine ⟨b5, o5, hae5, in_ok hA hk0 c1, ?_⟩
    ((try (conv => cbv)); repeat (refine brk_ok hA ?_; (try (conv => cbv))))
    refine ⟨ynm, rd_fld hA r5, ?_⟩
    ((try (conv => cbv)); repeat (refine brk_ok hA ?_; (try (conv => cbv))))
    refine has_ok hA (e02.lowOK hlow0) (hxs.strs.ext e02) (by omega) (fun g hg => ⟨_, rfl, ?_⟩)
    rw [hnm5] at hg
    ((try (conv => cbv)); repeat (refine brk_ok hA ?_; (try (conv => cbv))))
    have hgu : g = u := by
      cases g <;> cases u <;> simp_all
    have hbs : bnot (bsame g u) = false := by rw [e_bnot hA, e_bsame hA, hgu]; cases u <;> rfl
    rw [hbs]
    ((try (conv => cbv)); repeat (refine brk_ok hA ?_; (try (conv => cbv))))
    rw [add64 hA (by omega) (by omega)]
    exact ih c1 h2 e02
  · exact h1 h e

theorem list_loop {h0 : AHeap} (hlow0 : h0.low ≤ h0.next) {al : Option Addr} {nl cl : Nat} {l : List Rec} (hl : Recs h0 al nl l) (hnl : (nl : Int) ≤ 40) {ra : Option Addr} {rn rc : Nat} {raw : List Str} (hraw : Strs h0 ra rn rc raw) (hrn : (rn : Int) ≤ 40) {na : Option Addr} {nn nc : Nat} {xa : Option Addr} {xn xc : Nat} {i : Int} (i0 : 0 ≤ i) (i1 : i < nl) {xs : List Str} (hxs : Strs h0 xa xn xc xs) (hxn : (xn : Int) ≤ 40) {la : Option Addr} {ln lc : Nat} {ls : List Str} (hls : Strs h0 la ln lc ls) (hln : (ln : Int) ≤ 40) (hall : ∀ s ∈ ls, (s = (rat l i).name ∨ s ∈ xs) ∧ s ∉ raw) {Q : Exit → SS → Prop}
    (h1 : ∀ h', Ext h0 h' → Q (.exit 8) ⟨[(0, .slice al nl cl), (3, .bool true), (4, .slice ra rn rc), (6, .slice na nn nc), (7, .int .i64 i), (14, .slice la ln lc)], 0, [], h'⟩) :
    ∀ k : Int, 0 ≤ k → k ≤ ln → ∀ h, Ext h0 h →
      head 6 33 0 ⟨[(0, .slice al nl cl), (3, .bool true), (4, .slice ra rn rc), (6, .slice na nn nc), (7, .int .i64 i), (8, .slice xa xn xc), (14, .slice la ln lc), (16, .int .i64 k)], 0, [], h⟩ Q := by
  have hll := hl.len
  have hlsl := hls.len
  have bt : bnot true = false := by rw [e_bnot hA]; rfl
  refine countUp (fun k hk0 hkn ih h e => ?_)
  refine hA.roundR Try.func6 r6_ok ?_; (try (conv => cbv)); repeat (refine brk_ok hA ?_; (try (conv => cbv)))
  refine br (k < ln) (by rw [e_lss hA, e_ofNat hA]) (fun c1 => ?_) (fun c1 => ?_) <;> (try (conv => cbv)) <;> repeat (refine brk_ok hA ?_; (try (conv => cbv)))
  · have ha : arith .add .i64 k 1 = k + 1 := add64 hA (by omega) (by omega)
    obtain ⟨h9, hh9⟩ : ∃ z, z = bump h 27 := ⟨_, rfl⟩
    obtain ⟨nh, hnh⟩ : ∃ z, z = next h := ⟨_, rfl⟩
    have e9 : Ext h h9 := by rw [hh9, e_bump hA]; exact .bump _ _
    rw [← hh9, ← hnh]
    have e09 := e.trans e9
    obtain ⟨b, o, s, hae, hbn, hs, hrd⟩ := (hls.ext e09).at hk0 c1
    refine ⟨b, o, hae, in_ok hA hk0 c1, ?_⟩
    ((try (conv => cbv)); repeat (refine brk_ok hA ?_; (try (conv => cbv))))
    refine ⟨s, rd_ok hA hrd, ?_⟩
    ((try (conv => cbv)); repeat (refine brk_ok hA ?_; (try (conv => cbv))))
    have hsm := hall s (by rw [hs]; exact sat'_mem hk0 (by omega))
    obtain ⟨b5, o5, x5, hae5, hbn5, rel5, _, r5, _⟩ := (hl.ext e09).at i0 i1
    obtain ⟨ynm, yhow, yfa, yfn, yfc, yarg, yda, ydn, ydc, ydg⟩ := x5
    have hnm5 : ynm = (rat l i).name := rel5.name
    simp only [] at r5
    refine ⟨b5, o5, hae5, in_ok hA i0 i1, ?_⟩
    ((try (conv => cbv)); repeat (refine brk_ok hA ?_; (try (conv => cbv))))
    refine ⟨ynm, rd_fld hA r5, ?_⟩
    ((try (conv => cbv)); repeat (refine brk_ok hA ?_; (try (conv => cbv))))
    have second : ∀ hX, Ext h0 hX → call 31 [.slice ra rn rc, .string s] (fresh hX) (fun v h' => v = .bool false ∧ h' = fresh hX) := by
      intro hX eX
      have fX := ext_fresh hA hX
      refine has_ok hA (low_fresh hA hX) (hraw.ext (eX.trans fX)) (by omega) (fun g hg => ⟨?_, rfl⟩)
      cases g with
      | false => rfl
      | true => exact absurd (hg.1 rfl) hsm.2
    refine br (s ≠ ynm) (by rw [e_strn hA]) (fun c2 => ?_) (fun c2 => ?_) <;> (try (conv => cbv)) <;> repeat (refine brk_ok hA ?_; (try (conv => cbv)))
    · refine ⟨b, o, hae, in_ok hA hk0 c1, ?_⟩
      ((try (conv => cbv)); repeat (refine brk_ok hA ?_; (try (conv => cbv))))
      refine ⟨s, rd_ok hA hrd, ?_⟩
      ((try (conv => cbv)); repeat (refine brk_ok hA ?_; (try (conv => cbv))))
      have fX := ext_fresh hA h9
      refine has_ok hA (low_fresh hA h9) ((hxs.ext e09).ext fX) (by omega) (fun g hg => ⟨_, rfl, ?_⟩)
      obtain rfl : g = true := hg.2 (hsm.1.resolve_left (by rw [← hnm5]; exact c2))
      obtain ⟨hM, hhM⟩ : ∃ v, v = lowered h9 (fresh h9) := ⟨_, rfl⟩
      have eM : Ext h0 hM := by rw [hhM]; exact ext_low hA hlow0 e09 (.refl _)
      ((try (conv => cbv)); repeat (refine brk_ok hA ?_; (try (conv => cbv))))
      rw [bt, ← hhM]
      ((try (conv => cbv)); repeat (refine brk_ok hA ?_; (try (conv => cbv))))
      obtain ⟨b6, o6, s6, hae6, hbn6, hs6, hrd6⟩ := (hls.ext eM).at hk0 c1
      refine ⟨b6, o6, hae6, in_ok hA hk0 c1, ?_⟩
      ((try (conv => cbv)); repeat (refine brk_ok hA ?_; (try (conv => cbv))))
      refine ⟨s6, rd_ok hA hrd6, ?_⟩
      ((try (conv => cbv)); repeat (refine brk_ok hA ?_; (try (conv => cbv))))
      obtain rfl : s6 = s := by rw [hs6, hs]
      have fM := ext_fresh hA hM
      refine has_ok hA (low_fresh hA hM) ((hraw.ext eM).ext fM) (by omega) (fun g hg => ⟨_, rfl, ?_⟩)
      obtain rfl : g = false := by
        cases g with
        | false => rfl
        | true => exact absurd (hg.1 rfl) hsm.2
      obtain ⟨hN, hhN⟩ : ∃ v, v = lowered hM (fresh hM) := ⟨_, rfl⟩
      have eN : Ext h0 hN := by rw [hhN]; exact ext_low hA hlow0 eM (.refl _)
      ((try (conv => cbv)); repeat (refine brk_ok hA ?_; (try (conv => cbv))))
      rw [← hhN, ha]
      exact ih c1 hN eN
    · refine ⟨b, o, hae, in_ok hA hk0 c1, ?_⟩
      ((try (conv => cbv)); repeat (refine brk_ok hA ?_; (try (conv => cbv))))
      refine ⟨s, rd_ok hA hrd, ?_⟩
      ((try (conv => cbv)); repeat (refine brk_ok hA ?_; (try (conv => cbv))))
      have fX := ext_fresh hA h9
      refine has_ok hA (low_fresh hA h9) ((hraw.ext e09).ext fX) (by omega) (fun g hg => ⟨_, rfl, ?_⟩)
      obtain rfl : g = false := by
        cases g with
        | false => rfl
        | true => exact absurd (hg.1 rfl) hsm.2
      obtain ⟨hM, hhM⟩ : ∃ v, v = lowered h9 (fresh h9) := ⟨_, rfl⟩
      have eM : Ext h0 hM := by rw [hhM]; exact ext_low hA hlow0 e09 (.refl _)
      ((try (conv => cbv)); repeat (refine brk_ok hA ?_; (try (conv => cbv))))
      rw [← hhM, ha]
      exact ih c1 hM eM
  · exact h1 h e

set_option maxHeartbeats 1000000 in
theorem needed_loop {h0 : AHeap} (hlow0 : h0.low ≤ h0.next) {al : Option Addr} {nl cl : Nat} {l : List Rec} (hl : Recs h0 al nl l) (hnl : (nl : Int) ≤ 40) (hok : okL l) {ps : List Bytes} (hall : AllIs l 0 (some ps)) (hsm : ∀ i : Int, 0 ≤ i → i < l.length → smallR (rat l i)) {ra : Option Addr} {rn rc : Nat} (hraw : Strs h0 ra rn rc (rawN l l.length)) {Q : Exit → SS → Prop}
    (h1 : ∀ h', Ext h0 h' → Q (.exit 2) ⟨[(3, .bool true)], 0, [], h'⟩) :
    ∀ i : Int, 0 ≤ i → i ≤ nl → ∀ h na nn nc, Ext h0 h → OutS h h0.next na nn nc (needLs l i.toNat) →
      head 6 12 0 ⟨[(0, .slice al nl cl), (3, .bool true), (4, .slice ra rn rc), (6, .slice na nn nc), (7, .int .i64 i)], 0, [], h⟩ Q := by
  have hll := hl.len
  have hrl := hraw.len
  have hrl2 : (rawN l l.length).length ≤ l.length := outN_len l _ _
  have bt : bnot true = false := by rw [e_bnot hA]; rfl
  obtain ⟨pv, hform, h40⟩ := hall.prov
  refine countUp (fun i hi0 hin ih h na nn nc e hns => ?_)
  have hnn := hns.len
  have hnl2 : (needLs l i.toNat).length = i.toNat := by unfold needLs; simp
  refine hA.roundR Try.func6 r6_ok ?_; (try (conv => cbv)); repeat (refine brk_ok hA ?_; (try (conv => cbv)))
  refine br (i < nl) (by rw [e_lss hA, e_ofNat hA]) (fun c1 => ?_) (fun c1 => ?_) <;> (try (conv => cbv)) <;> repeat (refine brk_ok hA ?_; (try (conv => cbv)))
  · obtain ⟨b, o, x, hae, hbn, rel, _, r0, _⟩ := (hl.ext e).at hi0 c1
    obtain ⟨xnm, xhow, xfa, xfn, xfc, xarg, xda, xdn, xdc, xdg⟩ := x
    have hnm : xnm = (rat l i).name := rel.name
    simp only [] at r0
    refine ⟨b, o, hae, in_ok hA hi0 c1, ?_⟩
    ((try (conv => cbv)); repeat (refine brk_ok hA ?_; (try (conv => cbv))))
    refine ⟨xnm, rd_fld hA r0, ?_⟩
    ((try (conv => cbv)); repeat (refine brk_ok hA ?_; (try (conv => cbv))))
    refine needs_okS hA (e.lowOK hlow0) (hl.ext e) (fun _ => hok) (fun xa xn xc er r h2 e2 hxs hni hx40 => ⟨_, _, _, _, rfl, ?_⟩)
    rw [hnm] at hni
    obtain ⟨rfl, rfl⟩ := need_is hall hi0 (by omega) hni
    ((try (conv => cbv)); repeat (refine brk_ok hA ?_; (try (conv => cbv))))
    refine br (False) (by rw [e_neq hA]; rfl) (fun q => q.elim) (fun _ => ?_) <;> (try (conv => cbv)) <;> repeat (refine brk_ok hA ?_; (try (conv => cbv)))
    rw [e_next hA, e_push hA]
    have e02 := e.trans e2
    have hlt : ∀ ad, na = some ad → ad.block < h.next := by obtain ⟨hs, q, _⟩ := hns; exact q.lt
    obtain ⟨na', nc', h3, q1, q2, q3, q4⟩ := (hns.ext e2).add hxs hlt e.next (by omega) e02.next
    have e03 := q4 h0 e02 rfl
    rw [← needLs_succ l hi0] at q2
    obtain ⟨nn', hnn'⟩ : ∃ v, v = nn + 1 := ⟨_, rfl⟩
    rw [← hnn'] at q1 q2
    refine app_ok hA q1 ?_
    ((try (conv => cbv)); repeat (refine brk_ok hA ?_; (try (conv => cbv))))
    refine all_loop hA (e03.lowOK hlow0) (hl.ext e03) hnl pv hi0 c1 (hsm i hi0 (by omega)).2.1 q2 q3 (fun h4 e4 => ?_) 0 (by omega) (by omega) h3 (.refl _)
    have e04 := e03.trans e4
    ((try (conv => cbv)); repeat (refine brk_ok hA ?_; (try (conv => cbv))))
    obtain ⟨b5, o5, x5, hae5, hbn5, rel5, _, r5, _⟩ := (hl.ext e04).at hi0 c1
    obtain ⟨ynm, yhow, yfa, yfn, yfc, yarg, yda, ydn, ydc, ydg⟩ := x5
    have hnm5 : ynm = (rat l i).name := rel5.name
    simp only [] at r5
    refine ⟨b5, o5, hae5, in_ok hA hi0 c1, ?_⟩
    ((try (conv => cbv)); repeat (refine brk_ok hA ?_; (try (conv => cbv))))
    refine ⟨ynm, rd_fld hA r5, ?_⟩
    ((try (conv => cbv)); repeat (refine brk_ok hA ?_; (try (conv => cbv))))
    refine remake_ok hA (e04.lowOK hlow0) (hl.ext e04) (fun _ => hok) (hraw.ext e04) (by omega) (fun la ln lc er ls h6 e6 hls hri hl40 => ⟨_, _, _, _, rfl, ?_⟩)
    have e06 := e04.trans e6
    have hself := pv.self i hi0 (by omega)
    rw [hnm5] at hri
    unfold RemIs at hri
    rw [hself] at hri
    rcases hri with ⟨w, _⟩ | ⟨_, _, w, _⟩ | ⟨_, _, _, _, ⟨w, _⟩ | ⟨hlost, rfl, hr⟩⟩
    · cases (w.uniq hall).2
    · rcases w with w | ⟨s, sm, sq⟩
      · omega
      · have := raw_known pv s sm; omega
    · exact absurd w (raw_lost pv hi0 (by omega))
    ((try (conv => cbv)); repeat (refine brk_ok hA ?_; (try (conv => cbv))))
    refine br (False) (by rw [e_neq hA]; rfl) (fun q => q.elim) (fun _ => ?_) <;> (try (conv => cbv)) <;> repeat (refine brk_ok hA ?_; (try (conv => cbv)))
    have hxl := hxs.len
    have hlsl := hls.len
    have hpq : ∀ j, Due l (hadI l (rawN l l.length)) i j → (Due l noHad i j ∧ j ≠ i) ∨ j = i := fun j d => by
      by_cases ej : j = i
      · exact .inr ej
      · exact .inl ⟨d.mono, ej⟩
    have hle := outN_le (l := l) hpq l.length
    rw [if_pos (by omega), ← hr] at hle
    have hle2 : ls.length ≤ (needL l i).length + 1 := hle
    rw [e_ofNat hA, e_ofNat hA, add64 hA (by omega) (by omega)]
    refine br (False) (by rw [e_gtr hA]; simp; omega) (fun q => q.elim) (fun _ => ?_) <;> (try (conv => cbv)) <;> repeat (refine brk_ok hA ?_; (try (conv => cbv)))
    have hxs6 : Strs h6 xa xn xc (needL l i) := (q3.ext (e4.trans e6)).strs
    refine list_loop hA (e06.lowOK hlow0) (hl.ext e06) hnl (hraw.ext e06) (by omega) hi0 c1 hxs6 (by omega) hls (by omega) (fun s hs => ?_) (fun h7 e7 => ?_) 0 (by omega) (by omega) h6 (.refl _)
    · rw [hr, outN_mem] at hs
      obtain ⟨j, j0, j1, d, rfl⟩ := hs
      refine ⟨?_, fun w => ?_⟩
      · rcases hpq j d with q | q
        · exact .inr ((needL_mem pv j0 j1).2 q)
        · exact .inl (by rw [q])
      · refine (d.range pv hi0 (by omega)).2.2 ⟨_, w, pv.self j j0 j1⟩
    have e07 := e06.trans e7
    ((try (conv => cbv)); repeat (refine brk_ok hA ?_; (try (conv => cbv))))
    obtain ⟨b8, o8, x8, hae8, hbn8, rel8, _, r80, r8, _⟩ := (hl.ext e07).at hi0 c1
    obtain ⟨znm, zhow, zfa, zfn, zfc, zarg, zda, zdn, zdc, zdg⟩ := x8
    have hnm8 : znm = (rat l i).name := rel8.name
    have hhw8 : zhow = (rat l i).how := rel8.how
    simp only [] at r8 r80
    refine ⟨b8, o8, hae8, in_ok hA hi0 c1, ?_⟩
    ((try (conv => cbv)); repeat (refine brk_ok hA ?_; (try (conv => cbv))))
    refine ⟨zhow, rd_fld hA r8, ?_⟩
    ((try (conv => cbv)); repeat (refine brk_ok hA ?_; (try (conv => cbv))))
    have hend : ∀ h9, Ext h0 h9 → Ext h3 h9 → head 6 12 0 ⟨[(0, .slice al nl cl), (3, .bool true), (4, .slice ra rn rc), (6, .slice na' nn' nc'), (7, .int .i64 (i + 1))], 0, [], h9⟩ Q := fun h9 x y => ih c1 h9 na' nn' nc' x (q2.ext y)
    have e37 := (e4.trans e6).trans e7
    have ha : arith .add .i64 i 1 = i + 1 := add64 hA (by omega) (by omega)
    refine br (zhow ≠ 1) (by rw [e_neq hA]) (fun c2 => ?_) (fun c2 => ?_) <;> (try (conv => cbv)) <;> repeat (refine brk_ok hA ?_; (try (conv => cbv)))
    · refine ⟨b8, o8, hae8, in_ok hA hi0 c1, ?_⟩
      ((try (conv => cbv)); repeat (refine brk_ok hA ?_; (try (conv => cbv))))
      refine ⟨znm, rd_fld hA r80, ?_⟩
      ((try (conv => cbv)); repeat (refine brk_ok hA ?_; (try (conv => cbv))))
      refine has_ok hA (e07.lowOK hlow0) (hls.ext e7) (by omega) (fun g hg => ⟨_, rfl, ?_⟩)
      obtain rfl : g = true := hg.2 (by
        rw [hr, hnm8, outN_mem]
        refine ⟨i, hi0, by omega, .base ?_, rfl⟩
        rintro ⟨s, sm, sq⟩
        unfold rawN at sm
        rw [outN_mem] at sm
        obtain ⟨j, j0, j1, jw, rfl⟩ := sm
        rw [pv.self j j0 j1] at sq
        subst sq
        exact c2 (by rw [hhw8]; exact jw))
      ((try (conv => cbv)); repeat (refine brk_ok hA ?_; (try (conv => cbv))))
      rw [bt]
      ((try (conv => cbv)); repeat (refine brk_ok hA ?_; (try (conv => cbv))))
      rw [ha]
      exact hend h7 e07 e37
    · rw [ha]
      exact hend h7 e07 e37
  · exact h1 h e

theorem neededLaw_ok {h : AHeap} (hlow : h.low ≤ h.next) {al : Option Addr} {nl cl : Nat} {l : List Rec} (hl : Recs h al nl l) (hcap : nl ≤ capLow cl) (hnl : (nl : Int) ≤ 9223372036854775807) (hr : ∀ y ∈ l, okR y) {Q : Value → AHeap → Prop}
    (hQ : ∀ h', Ext h h' → Q (.bool true) h') : call 6 [.slice al nl cl] h Q := by
  have hll := hl.len
  have bt : bnot true = false := by rw [e_bnot hA]; rfl
  refine hA.bodyR Try.func6 r6_ok (show prims _ _ _ = none from rfl) hlow ?_; (try (conv => cbv)); repeat (refine brk_ok hA ?_; (try (conv => cbv)))
  refine alive_ok hA ⟨_, rfl, ?_⟩
  ((try (conv => cbv)); repeat (refine brk_ok hA ?_; (try (conv => cbv))))
  refine great_ok hA hlow hl hnl (fun g hg => ⟨_, rfl, ?_⟩)
  cases g with
  | true =>
    ((try (conv => cbv)); repeat (refine brk_ok hA ?_; (try (conv => cbv))))
    exact hQ h (.refl h)
  | false =>
  have hsm := hg rfl
  have hok := hsm.ok' hr
  have h50 : nl ≤ 50 := by have := hsm.2; omega
  ((try (conv => cbv)); repeat (refine brk_ok hA ?_; (try (conv => cbv))))
  refine rcheck_ok hA hlow hl hcap (fun _ => hok) (fun e o h1 x1 hall => ⟨_, rfl, ?_⟩)
  ((try (conv => cbv)); repeat (refine brk_ok hA ?_; (try (conv => cbv))))
  refine br (e ≠ 0) (by rw [e_neq hA]) (fun c1 => ?_) (fun c1 => ?_) <;> (try (conv => cbv)) <;> repeat (refine brk_ok hA ?_; (try (conv => cbv)))
  · exact hQ h1 x1
  have he0 : e = 0 := by omega
  subst he0
  obtain ⟨ps, rfl⟩ : ∃ ps, o = some ps := by
    cases o with
    | none => exact absurd rfl (hall.zero.1 rfl)
    | some ps => exact ⟨ps, rfl⟩
  obtain ⟨pv, hform, h40⟩ := hall.prov
  rw [bt]
  ((try (conv => cbv)); repeat (refine brk_ok hA ?_; (try (conv => cbv))))
  refine raw_loop hA (hl.ext x1) (by omega) (fun ra rn rc h2 x2 hraw => ?_) 0 (by omega) (by omega) h1 none 0 0 (.refl _) (SOut.nil _ _)
  ((try (conv => cbv)); repeat (refine brk_ok hA ?_; (try (conv => cbv))))
  have x12 := x1.trans x2
  refine needed_loop hA (x12.lowOK hlow) (hl.ext x12) (by omega) hok hall hsm.1 hraw.strs (fun h3 x3 => ?_) 0 (by omega) (by omega) h2 none 0 0 (.refl _) (OutS.nil _ _)
  ((try (conv => cbv)); repeat (refine brk_ok hA ?_; (try (conv => cbv))))
  exact hQ h3 (x12.trans x3)

end Go.Proofs.Ytopppccddnplkaa
