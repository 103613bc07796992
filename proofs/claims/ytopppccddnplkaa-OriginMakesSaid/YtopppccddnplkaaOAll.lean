/-
  ALL PRODUCTS: origin.products, and fringeref44.All.
-/
import Derived.Test.YtopppccddnplkaaOProd
namespace Go.Proofs.Ytopppccddnplkaa
open Go.Sim
set_option linter.unusedVariables false
set_option maxRecDepth 100000

/-- The products so far, in a list. -/
def OutL (h : AHeap) (lo : Nat) (a : Option Addr) (n c : Nat) (ps : List Bytes) : Prop :=
  ∃ hs : List Hd, Apd h 1 a n c (hs.map Hd.val) ∧ From lo a ∧ hs.length = ps.length ∧ ∀ (j : Nat) (x : Hd) (l : Bytes), hs[j]? = some x → ps[j]? = some l → BMem h lo x.a x.n x.c l ∧ ∀ ad ad', a = some ad → x.a = some ad' → ad'.block < ad.block

theorem OutL.nil (h : AHeap) (lo : Nat) : OutL h lo none 0 0 [] := ⟨[], .nil _ _, .none _, rfl, fun j x l hx => by simp at hx⟩
theorem OutL.ext {h h' : AHeap} {lo : Nat} {a : Option Addr} {n c : Nat} {ps : List Bytes} (p : OutL h lo a n c ps) (e : Ext h h') : OutL h' lo a n c ps := by
  obtain ⟨hs, h1, h2, h3, h4⟩ := p
  exact ⟨hs, h1.ext e, h2, h3, fun j x l hx hl => ⟨((h4 j x l hx hl).1).ext e, (h4 j x l hx hl).2⟩⟩
theorem OutL.lists {h : AHeap} {lo : Nat} {a : Option Addr} {n c : Nat} {ps : List Bytes} (p : OutL h lo a n c ps) : Lists h a n ps := by
  obtain ⟨hs, h1, h2, h3, h4⟩ := p
  exact ⟨hs, h1.cells, h3, fun j x l hx hl => ((h4 j x l hx hl).1).byts⟩
theorem OutL.len {h : AHeap} {lo : Nat} {a : Option Addr} {n c : Nat} {ps : List Bytes} (p : OutL h lo a n c ps) : ps.length = n := p.lists.len
theorem BMem.of_get {h h' : AHeap} {lo : Nat} {a : Option Addr} {n c : Nat} {l : Bytes} (p : BMem h lo a n c l) (hn : h.next ≤ h'.next) (hg : ∀ ad, a = some ad → ad.block < h.next → h'.m.get ad.block = h.m.get ad.block) : BMem h' lo a n c l := by
  rcases p with q | ⟨b, more, rfl, hlo, hb, ho, hl, hcap⟩
  · exact .inl q
  · exact .inr ⟨b, more, rfl, hlo, by omega, ho.of_get (hg _ rfl hb), hl, hcap⟩
theorem BMem.lt {h : AHeap} {lo : Nat} {a : Option Addr} {n c : Nat} {l : Bytes} (p : BMem h lo a n c l) : ∀ ad, a = some ad → ad.block < h.next := by
  rcases p with ⟨rfl, _⟩ | ⟨b, more, rfl, hlo, hb, _⟩
  · intro ad had; cases had
  · intro ad had; cases had; exact hb

theorem OutL.add {h : AHeap} {lo : Nat} {a : Option Addr} {n c : Nat} {ps : List Bytes} (p : OutL h lo a n c ps) {pa : Option Addr} {pn pc : Nat} {b : Bytes} {lo2 : Nat} (hb2 : BMem h lo2 pa pn pc b) (ha2 : ∀ ad, a = some ad → ad.block < lo2) (hlo2 : lo ≤ lo2) (hn : n ≤ 1000) (hlo : lo ≤ h.next) :
    ∃ a' c' h', appendH Try.prog (h.push 1 [.slice pa pn pc]) [67, 67] [.slice a n c, .slice (some ⟨h.next, 0, none⟩) 1 1] = some (.slice a' (n + 1) c', h') ∧ OutL h' lo a' (n + 1) c' (ps ++ [b]) ∧ (∀ h0, Ext h0 h → h0.next = lo → Ext h0 h') := by
  have hpl := p.len
  have hb := hb2.lower hlo2
  obtain ⟨hs, h1, h2, h3, h4⟩ := p
  have e3 : Ext h (h.push 1 [Value.slice pa pn pc]) := .push _ _ _
  have o3 : Own (h.push 1 [Value.slice pa pn pc]) h.next 1 [Value.slice pa pn pc] := Own.push _ _ _
  have hnx : (h.push 1 [Value.slice pa pn pc]).next = h.next + 1 := rfl
  have r3 : Cells (h.push 1 [Value.slice pa pn pc]) (some ⟨h.next, 0, none⟩) 1 1 [Value.slice pa pn pc] := ⟨rfl, Nat.lt_succ_self _, by rw [o3.readG (by simp)]; rfl⟩
  obtain ⟨a', c', h', q1, q2, q3, q4, q5, q6⟩ := append_keep T67 T67.und (h1.ext e3) r3 (c2 := 1) (hds_ok hs) rfl (by omega) (by omega)
  have hbl := hb.lt
  refine ⟨a', c', h', q1, ⟨hs ++ [⟨pa, pn, pc⟩], by rw [List.map_append]; exact q2, fun ad had => by have := q5 ad had; rw [hnx] at this; omega, by simp [h3], fun j x l hx hl => ?_⟩, fun h0 e0 hl0 => (q3 h0 (e0.trans e3) (by rw [hl0]; exact h2)).1⟩
  rcases Nat.lt_trichotomy j hs.length with cc | cc | cc
  · rw [List.getElem?_append_left cc] at hx
    rw [List.getElem?_append_left (by omega)] at hl
    obtain ⟨w1, w2⟩ := h4 j x l hx hl
    have wl := w1.lt
    refine ⟨(w1.ext e3).of_get (by rw [hnx] at q4 ⊢; exact q4) (fun ad had hlt => q6 _ hlt (fun ad2 had2 => by have := w2 ad2 ad had2 had; omega)), fun ad ad' had had' => ?_⟩
    have := q5 ad had
    have := wl ad' had'
    rw [hnx] at *
    omega
  · subst cc
    rw [List.getElem?_append_right (Nat.le_refl _), Nat.sub_self] at hx
    rw [h3, List.getElem?_append_right (Nat.le_refl _), Nat.sub_self] at hl
    simp only [List.getElem?_cons_zero, Option.some.injEq] at hx hl
    subst hx hl
    have hal := h1.lt
    refine ⟨(hb.ext e3).of_get (by rw [hnx] at q4 ⊢; exact q4) (fun ad had hlt => ?_), fun ad ad' had had' => ?_⟩
    · refine q6 _ hlt (fun ad2 had2 => ?_)
      have := ha2 ad2 had2
      rcases hb2 with ⟨q, _⟩ | ⟨bb, more, q, w, _⟩
      · rw [q] at had; cases had
      · rw [q] at had; cases had; show ad2.block ≠ bb; omega
    · have := q5 ad had
      have := hbl ad' had'
      rw [hnx] at *
      omega
  · rw [List.getElem?_eq_none (by simp; omega)] at hx
    cases hx

variable {call : FuncId → List Value → AHeap → (Value → AHeap → Prop) → Prop}
  {head : FuncId → Nat → Nat → SS → (Exit → SS → Prop) → Prop}
  {arith : BinOp → IntKind → Int → Int → Int}
  {cmp : BinOp → Int → Int → Bool}
  {scmp : BinOp → ByteArray → ByteArray → Bool}
  {bnot : Bool → Bool}
  {bsame : Bool → Bool → Bool}
  {conv : IntKind → Int → Int}
  {neg : IntKind → Int → Int}
  {imax : Int → Int → Int}
  {imin : Int → Int → Int}
  {ofNat : Nat → Int}
  {slen : ByteArray → Int}
  {place : Nat → Int → Nat → Nat}
  {inR : Int → Nat → Prop}
  {nz : Int → Prop}
  {geZ : Int → Prop}
  {rd : AHeap → Nat → Nat → Nat → List Value → Prop}
  {wr : AHeap → Nat → Nat → List Value → AHeap → Prop}
  {push : AHeap → Nat → List Value → AHeap}
  {next : AHeap → Nat}
  {mkOK : Int → Int → Prop}
  {nat : Int → Nat}
  {zeros : List Value → Int → List Value}
  {sadd : ByteArray → ByteArray → (ByteArray → Prop) → Prop}
  {eqAgg : TypeId → Array Value → Array Value → (Bool → Prop) → Prop}
  {cut : Nat → Int → Prop}
  {slc : TypeId → Value → Option Value → Option Value → Option Value → (Option Addr → Nat → Nat → Prop) → Prop}
  {sslc : TypeId → ByteArray → Option Value → Option Value → (ByteArray → Prop) → Prop}
  {strAt : ByteArray → Int → (Int → Prop) → Prop}
  {part : TypeId → Array Value → Nat → Value → Prop}
  {app : List TypeId → List Value → AHeap → (Option Addr → Nat → Nat → AHeap → Prop) → Prop}
  {cpy : List TypeId → List Value → AHeap → (Int → AHeap → Prop) → Prop}
  {putAt : AHeap → Nat → Nat → List Value → AHeap}
  {fresh : AHeap → AHeap}
  {lowered : AHeap → AHeap → AHeap}
  {bump : AHeap → Nat → AHeap}
  {wrote : AHeap → AHeap → Bool}
  {addN : Nat → Nat → Nat}
  {lt : Nat → Nat → Prop}
  {ne : Nat → Nat → Prop}
  {fpAll : Bool → Bool → Bool → Nat → Nat → Prop}
  {brk : (Unit → Prop) → Prop}
  {yn : Nat → Nat}
  {rng : FuncId → Nat → SS → (Exit → SS → Prop) → Prop}
  {mget : TypeId → Value → Value → AHeap → Value → Bool → Prop}
  {mput : TypeId → Value → Value → Value → AHeap → AHeap → Prop}
  {mnew : AHeap → AHeap}
  {bytes : TypeId → TypeId → Option Addr → Nat → AHeap → ByteArray → Prop}
  {clr : List TypeId → List Value → AHeap → AHeap → Prop}
  (hA : AOK progU hint prims ⟨call, head, arith, cmp, scmp, bnot, bsame, conv, neg, imax, imin, ofNat, slen, place, inR, nz, geZ, rd, wr, push, next, mkOK, nat, zeros, sadd, eqAgg, cut, slc, sslc, strAt, part, app, cpy, putAt, fresh, lowered, bump, wrote, addN, lt, ne, fpAll, brk, yn, rng, mget, mput, mnew, bytes, clr⟩)
include hA

theorem prods_ok {h : AHeap} (hlow : h.low ≤ h.next) {al : Option Addr} {nl cl : Nat} {l : List Rec} (hl : Recs h al nl l) (hok : l.length ≤ 40 → okL l) {Q : Value → AHeap → Prop}
    (h1 : ∀ M ps h', Ext h h' → PM h' h.next M l ps → AllIs l 0 (some ps) → h.next ≤ M → Q (.tuple #[.map (some M), .int .i64 0]) h')
    (h2 : ∀ e h', Ext h h' → AllIs l e none → Q (.tuple #[.map none, .int .i64 e]) h') : call 36 [.slice al nl cl] h Q := by
  have hll := hl.len
  refine hA.bodyR Try.func36 r36_ok (show prims _ _ _ = none from rfl) hlow ?_; (try (conv => cbv)); repeat (refine brk_ok hA ?_; (try (conv => cbv)))
  refine br (40 < (nl : Int)) (by rw [e_gtr hA, e_ofNat hA]) (fun c1 => ?_) (fun c1 => ?_) <;> (try (conv => cbv)) <;> repeat (refine brk_ok hA ?_; (try (conv => cbv)))
  · exact h2 4 h (.refl _) (.inl ⟨by omega, rfl, rfl⟩)
  simp only [e_next hA, e_mnew hA, e_push hA]
  obtain ⟨M, hM⟩ : ∃ v, v = h.next := ⟨_, rfl⟩
  have e1 := Ext.pushB h (.map [])
  have m1 := MapS.new h
  have n1 : (h.pushB (.map [])).next = h.next + 1 := rfl
  generalize h.pushB (.map []) = h1' at *
  rw [← hM] at m1 ⊢
  have e2 := Ext.push h1' 1 [Value.map none]
  have o2 := Own.push h1' 1 [Value.map none]
  have n2 : (h1'.push 1 [Value.map none]).next = h1'.next + 1 := rfl
  obtain ⟨b4, hb4⟩ : ∃ v, v = h1'.next := ⟨_, rfl⟩
  generalize h1'.push 1 [Value.map none] = h2' at *
  rw [← hb4] at o2 ⊢
  obtain ⟨h3, w3, o3, k3⟩ := Own.set1 o2 (.map (some M))
  refine ⟨h3, wr_at hA w3, ?_⟩
  ((try (conv => cbv)); repeat (refine brk_ok hA ?_; (try (conv => cbv))))
  have n3 := k3.next
  have x3 : Ext h h3 := k3.ext (e1.trans e2) (by omega)
  have m3 : MapS h3 M (fun _ => none) := (m1.ext e2 (by omega)).of_get (k3.get M (by omega))
  refine prod_loop hA hlow hl (by omega) (hok (by omega)) (b4 := b4) (M := M) (by omega) (by omega) (by omega) rfl (fun h' ps e' o4 hp ha => ?_) (fun e kn K h' er e' ha => ?_) 0 (by omega) (by omega) h3 [] x3 o3 (by omega) ⟨⟨_, m3, fun s => ⟨fun _ => rfl, fun q => ?_⟩⟩, by omega⟩ rfl (fun b hb => by cases hb) (fun e o ha => by simpa using ha)
  · ((try (conv => cbv)); repeat (refine brk_ok hA ?_; (try (conv => cbv))))
    refine ⟨_, rd_at hA (Own.get1 o4), ?_⟩
    ((try (conv => cbv)); repeat (refine brk_ok hA ?_; (try (conv => cbv))))
    exact h1 M ps h' e' hp (.inr ⟨by omega, ha⟩) (by omega)
  · ((try (conv => cbv)); repeat (refine brk_ok hA ?_; (try (conv => cbv))))
    exact h2 er h' e' (.inr ⟨by omega, ha⟩)
  · rw [idx_none (fun i i0 i1 => by simp at i1; omega)] at q
    omega

theorem rfrom_loop {h0 : AHeap} (hlow0 : h0.low ≤ h0.next) {al : Option Addr} {nl cl : Nat} {l : List Rec} (hl : Recs h0 al nl l) (hnl : (nl : Int) ≤ 40) (hcap : nl ≤ capLow cl) {i : Int} (hi0 : 0 ≤ i) (hi1 : i < nl) {r : Rec} (hr : rat l i = r) (hfn : r.frm.length ≤ 1000) {a4 : Option Addr} {n4 c4 : Nat} {Q : Exit → SS → Prop}
    (h1 : ∀ h', Ext h0 h' → (∀ f ∈ r.frm, 0 ≤ idxOf (l.take i.toNat) f) → Q (.exit 2) ⟨[(0, .slice al nl cl), (4, .slice a4 n4 c4), (5, .int .i64 i)], 10, [], h'⟩)
    (h2 : ∀ e kn K h', Ext h0 h' → (∃ f ∈ r.frm, idxOf (l.take i.toNat) f = -1) → Q .ret ⟨(3, .int .i64 6) :: (2, .slice none 0 0) :: e, kn, K, h'⟩) :
    ∀ k : Int, 0 ≤ k → k ≤ r.frm.length → ∀ h, Ext h0 h → (∀ j : Int, 0 ≤ j → j < k → 0 ≤ idxOf (l.take i.toNat) (sat' r.frm j)) → head 37 10 10 ⟨[(0, .slice al nl cl), (4, .slice a4 n4 c4), (5, .int .i64 i), (6, .int .i64 k)], 10, [], h⟩ Q := by
  have hll := hl.len
  refine countUp (fun k hk0 hkn ih h e hall => ?_)
  refine hA.roundR Try.func37 r37_ok ?_; (try (conv => cbv)); repeat (refine brk_ok hA ?_; (try (conv => cbv)))
  obtain ⟨b, o, x, hae, hbn, rel, _, _, _, r2, _⟩ := (hl.ext e).at hi0 hi1
  rw [hr] at rel
  obtain ⟨xnm, xhow, xfa, xfn, xfc, xarg, xda, xdn, xdc, xdg⟩ := x
  have hfr : Strs h xfa xfn xfc r.frm := rel.frm
  have hfl := hfr.len
  simp only [] at r2
  refine ⟨b, o, hae, in_ok hA hi0 hi1, ?_⟩
  ((try (conv => cbv)); repeat (refine brk_ok hA ?_; (try (conv => cbv))))
  refine ⟨xfa, xfn, xfc, rd_fld hA r2, ?_⟩
  ((try (conv => cbv)); repeat (refine brk_ok hA ?_; (try (conv => cbv))))
  refine br (k < xfn) (by rw [e_lss hA, e_ofNat hA]) (fun c1 => ?_) (fun c1 => ?_) <;> (try (conv => cbv)) <;> repeat (refine brk_ok hA ?_; (try (conv => cbv)))
  · obtain ⟨h9, hh9⟩ : ∃ z, z = bump h 13 := ⟨_, rfl⟩
    obtain ⟨nh, hnh⟩ : ∃ z, z = next h := ⟨_, rfl⟩
    have e9 : Ext h h9 := by rw [hh9, e_bump hA]; exact .bump _ _
    rw [← hh9, ← hnh]
    refine ⟨by rw [e_cut hA]; omega, ?_⟩
    ((try (conv => cbv)); repeat (refine brk_ok hA ?_; (try (conv => cbv))))
    have e09 := e.trans e9
    have hno : nat i = i.toNat := by rw [e_nat hA]
    obtain ⟨ii, hii⟩ : ∃ v, v = i.toNat := ⟨_, rfl⟩
    rw [hno, ← hii]
    obtain ⟨b2, o2, x2, hae2, hbn2, rel2, _, _, _, r22, _⟩ := (hl.ext e09).at hi0 hi1
    rw [hr] at rel2
    obtain ⟨ynm, yhow, yfa, yfn, yfc, yarg, yda, ydn, ydc, ydg⟩ := x2
    have hfr2 : Strs h9 yfa yfn yfc r.frm := rel2.frm
    have hfl2 := hfr2.len
    simp only [] at r22
    refine ⟨b2, o2, hae2, in_ok hA hi0 hi1, ?_⟩
    ((try (conv => cbv)); repeat (refine brk_ok hA ?_; (try (conv => cbv))))
    refine ⟨yfa, yfn, yfc, rd_fld hA r22, ?_⟩
    ((try (conv => cbv)); repeat (refine brk_ok hA ?_; (try (conv => cbv))))
    obtain ⟨b3, o3, s, hae3, hbn3, hs, hrd3⟩ := hfr2.at hk0 (by omega)
    refine ⟨b3, o3, hae3, in_ok hA hk0 (by omega), ?_⟩
    ((try (conv => cbv)); repeat (refine brk_ok hA ?_; (try (conv => cbv))))
    refine ⟨s, rd_ok hA hrd3, ?_⟩
    ((try (conv => cbv)); repeat (refine brk_ok hA ?_; (try (conv => cbv))))
    have fX := ext_fresh hA h9
    refine idx_ok hA (low_fresh hA h9) (((hl.ext e09).ext fX).take (j := ii) (by omega)) (by omega) (fun kk hkk => ⟨_, rfl, ?_⟩)
    ((try (conv => cbv)); repeat (refine brk_ok hA ?_; (try (conv => cbv))))
    obtain ⟨hM, hhM⟩ : ∃ v, v = lowered h9 (fresh h9) := ⟨_, rfl⟩
    have eM : Ext h0 hM := by rw [hhM]; exact ext_low hA hlow0 e09 (.refl _)
    rw [← hhM]
    rw [hii] at hkk
    refine br (kk < 0) (by rw [e_lss hA]) (fun c2 => ?_) (fun c2 => ?_) <;> (try (conv => cbv)) <;> repeat (refine brk_ok hA ?_; (try (conv => cbv)))
    · refine h2 _ _ _ hM eM ⟨s, ?_, ?_⟩
      · rw [hs]
        unfold sat'
        rw [List.getD, List.getElem?_eq_getElem (by omega)]
        exact List.getElem_mem _
      · rcases idx_cases (l.take i.toNat) s with ⟨q, _⟩ | ⟨q, _⟩ <;> omega
    · rw [add64 hA (by omega) (by omega)]
      refine ih (by omega) hM eM (fun j j0 j1 => ?_)
      by_cases ej : j = k
      · rw [ej, ← hs]; omega
      · exact hall j j0 (by omega)
  · refine h1 h e (fun f hf' => ?_)
    obtain ⟨j, hj⟩ := List.getElem?_of_mem hf'
    have hjl : j < r.frm.length := (List.getElem?_eq_some_iff.1 hj).1
    have := hall j (by omega) (by omega)
    unfold sat' at this
    rw [Int.toNat_natCast, List.getD, hj] at this
    exact this

theorem rall_loop {h0 : AHeap} (hlow0 : h0.low ≤ h0.next) {al : Option Addr} {nl cl : Nat} {l : List Rec} (hl : Recs h0 al nl l) (hnl : (nl : Int) ≤ 40) (hcap : nl ≤ capLow cl) (hok : okL l) {Q : Exit → SS → Prop}
    (h1 : ∀ h' a n c ps, Ext h0 h' → OutL h' h0.next a n c ps → Alls [] [] l 0 (some ps) → Q (.exit 0) ⟨[(4, .slice a n c)], 0, [], h'⟩)
    (h2 : ∀ e kn K h' er, Ext h0 h' → Alls [] [] l er none → Q .ret ⟨(3, .int .i64 er) :: (2, .slice none 0 0) :: e, kn, K, h'⟩) :
    ∀ i : Int, 0 ≤ i → i ≤ nl → ∀ h a n c ps, Ext h0 h → OutL h h0.next a n c ps → ps.length = i.toNat → (∀ b ∈ ps, b.length ≤ 1000 ∧ okB b) → (∀ e o, Alls (l.take i.toNat) ps (l.drop i.toNat) e o → Alls [] [] l e o) →
      head 37 5 0 ⟨[(0, .slice al nl cl), (4, .slice a n c), (5, .int .i64 i)], 0, [], h⟩ Q := by
  have hll := hl.len
  refine countUp (fun i hi0 hin ih h a n c ps e ho hpl hps hf => ?_)
  refine hA.roundR Try.func37 r37_ok ?_; (try (conv => cbv)); repeat (refine brk_ok hA ?_; (try (conv => cbv)))
  refine br (i < nl) (by rw [e_lss hA, e_ofNat hA]) (fun c1 => ?_) (fun c1 => ?_) <;> (try (conv => cbv)) <;> repeat (refine brk_ok hA ?_; (try (conv => cbv)))
  · obtain ⟨h9, hh9⟩ : ∃ z, z = bump h 10 := ⟨_, rfl⟩
    obtain ⟨nh, hnh⟩ : ∃ z, z = next h := ⟨_, rfl⟩
    have e9 : Ext h h9 := by rw [hh9, e_bump hA]; exact .bump _ _
    rw [← hh9, ← hnh]
    obtain ⟨ok1, ok2, ok3⟩ := okL_at hok hi0 (by omega : i < l.length)
    have hdr := drop_rat hi0 (by omega : i < l.length)
    have htk := take_rat hi0 (by omega : i < l.length)
    have hdl : (l.take i.toNat).length = i.toNat := by rw [List.length_take]; omega
    refine ⟨by rw [e_cut hA]; omega, ?_⟩
    ((try (conv => cbv)); repeat (refine brk_ok hA ?_; (try (conv => cbv))))
    have e09 := e.trans e9
    have hno : nat i = i.toNat := by rw [e_nat hA]
    obtain ⟨ii, hii⟩ : ∃ v, v = i.toNat := ⟨_, rfl⟩
    rw [hno, ← hii]
    obtain ⟨b2, o2, x2, hae2, hbn2, rel2, _, r20, _⟩ := (hl.ext e09).at hi0 c1
    obtain ⟨r, hrr⟩ : ∃ v, v = rat l i := ⟨_, rfl⟩
    rw [← hrr] at ok1 ok2 ok3 hdr htk rel2
    obtain ⟨ynm, yhow, yfa, yfn, yfc, yarg, yda, ydn, ydc, ydg⟩ := x2
    simp only [] at r20
    have hnm : ynm = r.name := rel2.name
    refine ⟨b2, o2, hae2, in_ok hA hi0 c1, ?_⟩
    ((try (conv => cbv)); repeat (refine brk_ok hA ?_; (try (conv => cbv))))
    refine ⟨ynm, rd_fld hA r20, ?_⟩
    ((try (conv => cbv)); repeat (refine brk_ok hA ?_; (try (conv => cbv))))
    have fX := ext_fresh hA h9
    refine idx_ok hA (low_fresh hA h9) (((hl.ext e09).ext fX).take (j := ii) (by omega)) (by omega) (fun kk hkk => ⟨_, rfl, ?_⟩)
    ((try (conv => cbv)); repeat (refine brk_ok hA ?_; (try (conv => cbv))))
    obtain ⟨hM, hhM⟩ : ∃ v, v = lowered h9 (fresh h9) := ⟨_, rfl⟩
    have eM : Ext h hM := by rw [hhM]; exact ext_low hA (e.lowOK hlow0) e9 (.refl _)
    have e0M := e.trans eM
    rw [← hhM]
    rw [hii, hnm] at hkk
    refine br (0 ≤ kk) (by rw [e_geq hA]) (fun c2 => ?_) (fun c2 => ?_) <;> (try (conv => cbv)) <;> repeat (refine brk_ok hA ?_; (try (conv => cbv)))
    · refine h2 _ _ _ hM 14 e0M (hf _ _ ?_)
      rw [hdr]
      exact .twice (by omega)
    have g2 : idxOf (l.take i.toNat) r.name = -1 := by rcases idx_cases (l.take i.toNat) r.name with ⟨q, _⟩ | ⟨q, _⟩ <;> omega
    refine rfrom_loop hA (e0M.lowOK hlow0) (hl.ext e0M) hnl hcap hi0 c1 hrr.symm ok3 (fun h3 x3' hall => ?_) (fun e9 kn K h3 x3' hlack => ?_) 0 (by omega) (by omega) hM (.refl _) (fun j j0 j1 => by omega)
    rotate_left
    · refine h2 _ _ _ h3 6 (e0M.trans x3') (hf _ _ ?_)
      rw [hdr]
      exact .lacks g2 hlack
    have x3 := e0M.trans x3'
    ((try (conv => cbv)); repeat (refine brk_ok hA ?_; (try (conv => cbv))))
    obtain ⟨b4, o4, x4, hae4, hbn4, rel4, rd4, _⟩ := (hl.ext x3).at hi0 c1
    rw [← hrr] at rel4
    obtain ⟨xnm, xhow, xfa, xfn, xfc, xarg, xda, xdn, xdc, xdg⟩ := x4
    refine ⟨b4, o4, hae4, in_ok hA hi0 c1, ?_⟩
    ((try (conv => cbv)); repeat (refine brk_ok hA ?_; (try (conv => cbv))))
    refine ⟨xnm, xhow, xfa, xfn, xfc, xarg, xda, xdn, xdc, xdg, rd_ok hA rd4, ?_⟩
    ((try (conv => cbv)); repeat (refine brk_ok hA ?_; (try (conv => cbv))))
    refine formed_ok hA (x3.lowOK hlow0) rel4 ok2 (fun bb hbb => ⟨_, rfl, ?_⟩)
    ((try (conv => cbv)); repeat (refine brk_ok hA ?_; (try (conv => cbv))))
    cases bb with
    | false =>
      ((try (conv => cbv)); repeat (refine brk_ok hA ?_; (try (conv => cbv))))
      refine br (True) (by rw [e_bnot hA]; rfl) (fun _ => ?_) (fun q => absurd trivial q) <;> (try (conv => cbv)) <;> repeat (refine brk_ok hA ?_; (try (conv => cbv)))
      refine h2 _ _ _ h3 8 x3 (hf _ _ ?_)
      rw [hdr]
      exact .bad g2 hall (fun q => by have := hbb.2 q; cases this)
    | true =>
    have hform := hbb.1 rfl
    ((try (conv => cbv)); repeat (refine brk_ok hA ?_; (try (conv => cbv))))
    refine br (False) (by rw [e_bnot hA]; rfl) (fun q => q.elim) (fun _ => ?_) <;> (try (conv => cbv)) <;> repeat (refine brk_ok hA ?_; (try (conv => cbv)))
    obtain ⟨h5, hh5⟩ : ∃ z, z = bump h3 10 := ⟨_, rfl⟩
    obtain ⟨nh5, hnh5⟩ : ∃ z, z = next h3 := ⟨_, rfl⟩
    have e5 : Ext h3 h5 := by rw [hh5, e_bump hA]; exact .bump _ _
    rw [← hh5, ← hnh5]
    have x5 := x3.trans e5
    have hx5 := (eM.trans x3').trans e5
    obtain ⟨b6, o6, x6, hae6, hbn6, rel6, rd6, _⟩ := (hl.ext x5).at hi0 c1
    rw [← hrr] at rel6
    obtain ⟨znm, zhow, zfa, zfn, zfc, zarg, zda, zdn, zdc, zdg⟩ := x6
    refine ⟨b6, o6, hae6, in_ok hA hi0 c1, ?_⟩
    ((try (conv => cbv)); repeat (refine brk_ok hA ?_; (try (conv => cbv))))
    refine ⟨znm, zhow, zfa, zfn, zfc, zarg, zda, zdn, zdc, zdg, rd_ok hA rd6, ?_⟩
    ((try (conv => cbv)); repeat (refine brk_ok hA ?_; (try (conv => cbv))))
    refine ⟨by rw [e_cut hA]; omega, ?_⟩
    ((try (conv => cbv)); repeat (refine brk_ok hA ?_; (try (conv => cbv))))
    rw [hno, ← hii]
    have f5 := ext_fresh hA h5
    refine rmade_ok hA (low_fresh hA h5) (rel6.ext f5) hform.2.2.2 ok1 (((hl.ext x5).ext f5).take (j := ii) (by omega)) (by omega) ((ho.ext hx5).ext f5).lists (by rw [hii, hdl]; exact hpl) (by rw [hii]; exact hall) (fun b hb => (hps b hb).1) (fun b hb => (hps b hb).2) (fun pa pn pc h6 e6 hb6 => ⟨_, _, _, rfl, ?_⟩)
    rw [hii] at hb6
    ((try (conv => cbv)); repeat (refine brk_ok hA ?_; (try (conv => cbv))))
    obtain ⟨hL, hhL⟩ : ∃ v, v = lowered h5 h6 := ⟨_, rfl⟩
    have eL : Ext h hL := by rw [hhL]; exact ext_low hA (e.lowOK hlow0) hx5 e6
    have hbL : BOut hL (fresh h5).next pa pn pc (madeS r (insOf (l.take i.toNat) ps r)) := by rw [hhL, e_lowered hA]; exact hb6.low _
    rw [← hhL]
    have hpn := hbL.len
    refine br (1000 < (pn : Int)) (by rw [e_gtr hA, e_ofNat hA]) (fun c3 => ?_) (fun c3 => ?_) <;> (try (conv => cbv)) <;> repeat (refine brk_ok hA ?_; (try (conv => cbv)))
    · refine h2 _ _ _ hL 16 (e.trans eL) (hf _ _ ?_)
      rw [hdr]
      exact .big g2 hall hform (by omega)
    rw [e_next hA, e_push hA]
    have hx5n := (hx5.trans f5).next
    have hen := e.next
    have hon : n = i.toNat := by have := ho.len; omega
    have hout : ∀ ad, a = some ad → ad.block < h.next := by obtain ⟨hs, q, _⟩ := ho; exact q.lt
    obtain ⟨a', c', h7, u1, u2, u3⟩ := (ho.ext eL).add hbL.mem (fun ad had => by have := hout ad had; omega) (by omega) (by omega) (by have := eL.next; omega)
    refine app_ok hA u1 ?_
    ((try (conv => cbv)); repeat (refine brk_ok hA ?_; (try (conv => cbv))))
    rw [add64 hA (by omega) (by omega)]
    have hform2 := hform.2.2.2
    have harg : 0 ≤ r.arg := by unfold kindP at hform2; omega
    have iok := ins_all (P := okB) (l := l.take i.toNat) (r := r) (fun b hb => (hps b hb).2) (fun x hx => by cases hx)
    refine ih c1 h7 a' (n + 1) c' (ps ++ [madeS r (insOf (l.take i.toNat) ps r)]) (u3 h0 (e.trans eL) rfl) u2 (by rw [List.length_append, List.length_singleton]; omega) (fun b hb => ?_) (fun er o ha => hf er o ?_)
    · rcases List.mem_append.1 hb with q | q
      · exact hps b q
      · rw [List.mem_singleton.1 q]
        exact ⟨by omega, made_okB ok1 iok harg⟩
    · rw [hdr]
      rw [htk] at ha
      exact .go g2 hall hform (by omega) ha
  · refine h1 h a n c ps e ho (hf _ _ ?_)
    rw [List.drop_eq_nil_of_le (by omega)]
    exact .nil _ _

theorem rall_ok {h : AHeap} (hlow : h.low ≤ h.next) {al : Option Addr} {nl cl : Nat} {l : List Rec} (hl : Recs h al nl l) (hcap : nl ≤ capLow cl) (hok : l.length ≤ 40 → okL l) {Q : Value → AHeap → Prop}
    (h1 : ∀ a n c ps h', Ext h h' → OutL h' h.next a n c ps → AllIs l 0 (some ps) → Q (.tuple #[.slice a n c, .int .i64 0]) h')
    (h2 : ∀ e h', Ext h h' → AllIs l e none → Q (.tuple #[.slice none 0 0, .int .i64 e]) h') : call 37 [.slice al nl cl] h Q := by
  have hll := hl.len
  refine hA.bodyR Try.func37 r37_ok (show prims _ _ _ = none from rfl) hlow ?_; (try (conv => cbv)); repeat (refine brk_ok hA ?_; (try (conv => cbv)))
  refine br (40 < (nl : Int)) (by rw [e_gtr hA, e_ofNat hA]) (fun c1 => ?_) (fun c1 => ?_) <;> (try (conv => cbv)) <;> repeat (refine brk_ok hA ?_; (try (conv => cbv)))
  · exact h2 4 h (.refl _) (.inl ⟨by omega, rfl, rfl⟩)
  refine rall_loop hA hlow hl (by omega) hcap (hok (by omega)) (fun h' a n c ps e' ho ha => ?_) (fun e kn K h' er e' ha => ?_) 0 (by omega) (by omega) h none 0 0 [] (.refl _) (OutL.nil _ _) rfl (fun b hb => by cases hb) (fun e o ha => by simpa using ha)
  · ((try (conv => cbv)); repeat (refine brk_ok hA ?_; (try (conv => cbv))))
    exact h1 a n c ps h' e' ho (.inr ⟨by omega, ha⟩)
  · ((try (conv => cbv)); repeat (refine brk_ok hA ?_; (try (conv => cbv))))
    exact h2 er h' e' (.inr ⟨by omega, ha⟩)

theorem check_ok {h : AHeap} (hlow : h.low ≤ h.next) {al : Option Addr} {nl cl : Nat} {l : List Rec} (hl : Recs h al nl l) (hok : l.length ≤ 40 → okL l) {Q : Value → AHeap → Prop}
    (hQ : ∀ e o h', Ext h h' → AllIs l e o → Q (.int .i64 e) h') : call 21 [.slice al nl cl] h Q := by
  refine hA.bodyR Try.func21 r21_ok (show prims _ _ _ = none from rfl) hlow ?_; (try (conv => cbv)); repeat (refine brk_ok hA ?_; (try (conv => cbv)))
  refine prods_ok hA hlow hl hok (fun M ps h' e' hp ha hM => ⟨_, _, rfl, ?_⟩) (fun e h' e' ha => ⟨_, _, rfl, ?_⟩)
  · ((try (conv => cbv)); repeat (refine brk_ok hA ?_; (try (conv => cbv))))
    exact hQ _ _ h' e' ha
  · ((try (conv => cbv)); repeat (refine brk_ok hA ?_; (try (conv => cbv))))
    exact hQ _ _ h' e' ha
theorem rcheck_ok {h : AHeap} (hlow : h.low ≤ h.next) {al : Option Addr} {nl cl : Nat} {l : List Rec} (hl : Recs h al nl l) (hcap : nl ≤ capLow cl) (hok : l.length ≤ 40 → okL l) {Q : Value → AHeap → Prop}
    (hQ : ∀ e o h', Ext h h' → AllIs l e o → Q (.int .i64 e) h') : call 22 [.slice al nl cl] h Q := by
  refine hA.bodyR Try.func22 r22_ok (show prims _ _ _ = none from rfl) hlow ?_; (try (conv => cbv)); repeat (refine brk_ok hA ?_; (try (conv => cbv)))
  refine rall_ok hA hlow hl hcap hok (fun a n c ps h' e' ho ha => ⟨_, _, _, _, rfl, ?_⟩) (fun e h' e' ha => ⟨_, _, _, _, rfl, ?_⟩)
  · ((try (conv => cbv)); repeat (refine brk_ok hA ?_; (try (conv => cbv))))
    exact hQ _ _ h' e' ha
  · ((try (conv => cbv)); repeat (refine brk_ok hA ?_; (try (conv => cbv))))
    exact hQ _ _ h' e' ha

end Go.Proofs.Ytopppccddnplkaa
