/-
  THE PRODUCT OF A RECORD, AS THE REFERENCE MAKES IT (fringeref44.made).
-/
import Derived.Test.YtopppccddnplkaaOMade
namespace Go.Proofs.Ytopppccddnplkaa
open Go.Sim
set_option linter.unusedVariables false
set_option maxRecDepth 100000

/-- What a record is made of. -/
def insOf (l : List Rec) (ps : List Bytes) (r : Rec) : List Bytes := r.frm.map fun f => bat ps (idxOf l f)
theorem ins_bat {l : List Rec} {ps : List Bytes} {r : Rec} {i : Int} (h0 : 0 ≤ i) (h1 : i < r.frm.length) : bat (insOf l ps r) i = bat ps (idxOf l (sat' r.frm i)) := by
  unfold insOf bat sat'
  rw [List.getD, List.getElem?_map, getD_some r.frm i.toNat ByteArray.empty (by omega)]
  rfl
theorem ins_len (l : List Rec) (ps : List Bytes) (r : Rec) : (insOf l ps r).length = r.frm.length := by unfold insOf; simp
theorem ins_all {P : Bytes → Prop} {l : List Rec} {ps : List Bytes} {r : Rec} (h : ∀ b ∈ ps, P b) (hn : P []) : ∀ b ∈ insOf l ps r, P b := by
  intro b hb
  obtain ⟨f, _, rfl⟩ := List.mem_map.1 hb
  unfold bat
  by_cases c : (idxOf l f).toNat < ps.length
  · rw [List.getD, List.getElem?_eq_getElem c]; exact h _ (List.getElem_mem _)
  · rw [List.getD, List.getElem?_eq_none (by omega)]; exact hn

theorem drop_rev {b : Bytes} {i : Int} (h0 : 0 < i) (h1 : i ≤ b.length) : (b.drop (i - 1).toNat).reverse = (b.drop i.toNat).reverse ++ [at' b (i - 1)] := by
  have e : b.drop (i - 1).toNat = at' b (i - 1) :: b.drop i.toNat := by
    rw [List.drop_eq_getElem_cons (by omega : (i - 1).toNat < b.length)]
    congr 1
    · unfold at'
      rw [List.getD_eq_getElem?_getD, List.getElem?_eq_getElem (by omega)]
      rfl
    · congr 1; omega
  rw [e, List.reverse_cons]
theorem shift_take {b : Bytes} {k i : Int} (h0 : 0 ≤ i) (h1 : i < b.length) : (shiftS b k).take (i + 1).toNat = (shiftS b k).take i.toNat ++ [(at' b i + k) % 256] := by
  rw [take_succ' _ h0 (by unfold shiftS; simp; omega)]
  unfold shiftS
  rw [at'_map _ b h0 h1]
theorem Ext.bumpPut' (h : AHeap) (n : Nat) {b : Nat} (hb : h.next ≤ b) (es : Nat) (cs : List Value) : Ext h ((h.bump n).putAt b es cs) :=
  ⟨by simp [AHeap.bump, AHeap.putAt], fun l => by simp only [AHeap.bump, AHeap.putAt]; omega, by simp only [AHeap.bump, AHeap.putAt]; exact Nat.min_le_left _ _, fun i hi => by
    simp only [AHeap.bump, AHeap.putAt]; rw [Tri.get_set_ne _ _ (by omega)]⟩
theorem Ext.lower' {h h1 h2 : AHeap} (e : Ext h h2) (e1 : Ext h h1) (hl : h.low ≤ h.next) : Ext h (h2.lowered h1.low) := by
  have a := e.lowG
  have b := e1.lowG
  have c := e.low hl
  refine ⟨e.next, fun _ => ?_, ?_, e.get⟩
  · show Nat.min h1.low h2.low ≤ h2.next
    have : Nat.min h1.low h2.low ≤ h2.low := Nat.min_le_right _ _
    omega
  · show Nat.min h.low h.next ≤ Nat.min h1.low h2.low
    exact Nat.le_min.2 ⟨b, a⟩
theorem RowV.take {h : AHeap} {a : Option Addr} {n c : Nat} {vs : List Value} (p : RowV h a n c vs) {j : Nat} (hj : j ≤ n) : RowV h a j c (vs.take j) := by
  have hl := p.len
  rcases p with ⟨cc, q, k⟩ | ⟨rfl, rfl, rfl, rfl⟩
  · refine .inl ⟨?_, q, by omega⟩
    cases a with
    | none =>
      obtain ⟨rfl, h2⟩ := cc
      obtain rfl : j = 0 := by omega
      rw [h2]
      exact ⟨rfl, by simp⟩
    | some ad =>
      obtain ⟨h1, h2', h3'⟩ := cc
      refine ⟨h1, h2', ?_⟩
      unfold AHeap.readG at h3' ⊢
      rw [h1] at h3' ⊢
      simp only [] at h3' ⊢
      cases hc : h.cells? ad.block with
      | none => rw [hc] at h3'; cases h3'
      | some cs =>
        rw [hc] at h3'
        simp only [] at h3' ⊢
        obtain ⟨q1, q2⟩ := readN_eq h3'
        refine readN_some ?_ ?_
        · rw [← q1, List.take_take, Nat.min_eq_left (by omega), Nat.mul_one]
        · rw [List.length_take]; omega
  · obtain rfl : j = 0 := by omega
    exact .inr ⟨rfl, rfl, rfl, by simp⟩
theorem Byts.take {h : AHeap} {a : Option Addr} {n c : Nat} {l : Bytes} (p : Byts h a n c l) {j : Nat} (hj : j ≤ n) : Byts h a j c (l.take j) := by
  have := RowV.take p hj
  rw [← List.map_take] at this
  exact this

/-- One byte more, by push. -/
theorem BOut.one {h h0 : AHeap} {lo : Nat} {a : Option Addr} {n c : Nat} {l : Bytes} (p : BOut h lo a n c l) (y : Int) (hbig : n ≤ 100000) (e0 : Ext h0 h) (hlo : h0.next = lo) :
    ∃ a' c' h', appendH Try.prog (h.push 1 [Value.int .u8 y]) [23, 23] [.slice a n c, .slice (some ⟨h.next, 0, none⟩) 1 1] = some (.slice a' (n + 1) c', h') ∧ BOut h' lo a' (n + 1) c' (l ++ [y]) ∧ Ext h0 h' := by
  have e2 : Ext h (h.push 1 [Value.int .u8 y]) := .push _ _ _
  have o3 : Own (h.push 1 [Value.int .u8 y]) h.next 1 [Value.int .u8 y] := Own.push _ _ _
  have hy1 : Byts (h.push 1 [Value.int .u8 y]) (some ⟨h.next, 0, none⟩) 1 1 [y] := .inl ⟨⟨rfl, Nat.lt_succ_self _, by rw [o3.readG (by simp)]; rfl⟩, (fun q => by cases q), by unfold capLow slack; omega⟩
  exact (p.ext e2).add hy1 (by omega) (e0.trans e2) hlo

/-- One byte more, wherever it lies. -/
theorem BOut.one' {h h0 F : AHeap} {lo : Nat} {a : Option Addr} {n c : Nat} {l : Bytes} (p : BOut h lo a n c l) {y : Int} (hbig : n ≤ 100000) (e0 : Ext h0 h) (hlo : h0.next = lo) (eF : Ext h F) {bq : Nat} (o : Own F bq 1 [Value.int .u8 y]) (hb : bq < F.next) :
    ∃ a' c' h', appendH Try.prog F [23, 23] [.slice a n c, .slice (some ⟨bq, 0, none⟩) 1 1] = some (.slice a' (n + 1) c', h') ∧ BOut h' lo a' (n + 1) c' (l ++ [y]) ∧ Ext h0 h' := by
  have hy1 : Byts F (some ⟨bq, 0, none⟩) 1 1 [y] := .inl ⟨⟨rfl, hb, by rw [o.readG (by simp)]; rfl⟩, (fun q => by cases q), by unfold capLow slack; omega⟩
  exact (p.ext eF).add hy1 (by omega) (e0.trans eF) hlo
theorem BOut.low {h : AHeap} {lo : Nat} {a : Option Addr} {n c : Nat} {l : Bytes} (p : BOut h lo a n c l) (v : Nat) : BOut (h.lowered v) lo a n c l := ⟨p.apd.of_get (Nat.le_refl _) (fun _ _ _ => rfl), p.frm, p.lt⟩

theorem mix_take {a b : Bytes} {i : Int} (h0 : 0 ≤ i) (h1 : i < max (a.length : Int) (b.length : Int)) : (mixS a b).take (i + 1).toNat = (mixS a b).take i.toNat ++ [bx (at' a i) (at' b i)] := by
  have := mix_len a b
  rw [take_succ' _ h0 (by omega), mix_at h0 h1]

variable {call : FuncId → List Value → AHeap → (Value → AHeap → Prop) → Prop}
  {head : FuncId → Nat → Nat → SS → (Exit → SS → Prop) → Prop}
  {arith : BinOp → IntKind → Int → Int → Int}
  {cmp : BinOp → Int → Int → Bool}
  {scmp : BinOp → ByteArray → ByteArray → Bool}
  {bnot : Bool → Bool}
  {bsame : Bool → Bool → Bool}
  {conv : IntKind → Int → Int}
  {neg : IntKind → Int → Int}
  {imax : Int → Int → Int}
  {imin : Int → Int → Int}
  {ofNat : Nat → Int}
  {slen : ByteArray → Int}
  {place : Nat → Int → Nat → Nat}
  {inR : Int → Nat → Prop}
  {nz : Int → Prop}
  {geZ : Int → Prop}
  {rd : AHeap → Nat → Nat → Nat → List Value → Prop}
  {wr : AHeap → Nat → Nat → List Value → AHeap → Prop}
  {push : AHeap → Nat → List Value → AHeap}
  {next : AHeap → Nat}
  {mkOK : Int → Int → Prop}
  {nat : Int → Nat}
  {zeros : List Value → Int → List Value}
  {sadd : ByteArray → ByteArray → (ByteArray → Prop) → Prop}
  {eqAgg : TypeId → Array Value → Array Value → (Bool → Prop) → Prop}
  {cut : Nat → Int → Prop}
  {slc : TypeId → Value → Option Value → Option Value → Option Value → (Option Addr → Nat → Nat → Prop) → Prop}
  {sslc : TypeId → ByteArray → Option Value → Option Value → (ByteArray → Prop) → Prop}
  {strAt : ByteArray → Int → (Int → Prop) → Prop}
  {part : TypeId → Array Value → Nat → Value → Prop}
  {app : List TypeId → List Value → AHeap → (Option Addr → Nat → Nat → AHeap → Prop) → Prop}
  {cpy : List TypeId → List Value → AHeap → (Int → AHeap → Prop) → Prop}
  {putAt : AHeap → Nat → Nat → List Value → AHeap}
  {fresh : AHeap → AHeap}
  {lowered : AHeap → AHeap → AHeap}
  {bump : AHeap → Nat → AHeap}
  {wrote : AHeap → AHeap → Bool}
  {addN : Nat → Nat → Nat}
  {lt : Nat → Nat → Prop}
  {ne : Nat → Nat → Prop}
  {fpAll : Bool → Bool → Bool → Nat → Nat → Prop}
  {brk : (Unit → Prop) → Prop}
  {yn : Nat → Nat}
  {rng : FuncId → Nat → SS → (Exit → SS → Prop) → Prop}
  {mget : TypeId → Value → Value → AHeap → Value → Bool → Prop}
  {mput : TypeId → Value → Value → Value → AHeap → AHeap → Prop}
  {mnew : AHeap → AHeap}
  {bytes : TypeId → TypeId → Option Addr → Nat → AHeap → ByteArray → Prop}
  {clr : List TypeId → List Value → AHeap → AHeap → Prop}
  (hA : AOK progU hint prims ⟨call, head, arith, cmp, scmp, bnot, bsame, conv, neg, imax, imin, ofNat, slen, place, inR, nz, geZ, rd, wr, push, next, mkOK, nat, zeros, sadd, eqAgg, cut, slc, sslc, strAt, part, app, cpy, putAt, fresh, lowered, bump, wrote, addN, lt, ne, fpAll, brk, yn, rng, mget, mput, mnew, bytes, clr⟩)
include hA

theorem ext_fresh (X : AHeap) : Ext X (fresh X) := by rw [e_fresh hA]; exact .freshed _
theorem low_fresh (X : AHeap) : (fresh X).low ≤ (fresh X).next := by rw [e_fresh hA]; exact freshed_low _
theorem ext_low {h X h' : AHeap} (hl : h.low ≤ h.next) (y : Ext h X) (z : Ext (fresh X) h') : Ext h (lowered X h') := by
  rw [e_lowered hA]
  exact Ext.lower' ((y.trans (ext_fresh hA X)).trans z) y hl

theorem rlists_loop {h0 : AHeap} (hlow0 : h0.low ≤ h0.next) {al : Option Addr} {nl cl : Nat} {l : List Rec} (hl : Recs h0 al nl l) (hnl : (nl : Int) ≤ 1000) {ap : Option Addr} {np cp : Nat} {ps : List Bytes} (hp : Lists h0 ap np ps) (hpl : ps.length = l.length) {x : RH} {r : Rec} (hx : RelR h0 x r) (hfn : (x.fn : Int) ≤ 1000) (hall : ∀ f ∈ r.frm, 0 ≤ idxOf l f) {K : List (Nat × List Value)} (hK : K = [(0, x.cells)]) {Q : Exit → SS → Prop}
    (h1 : ∀ a n c h', Ext h0 h' → Heads h0 h' a n c (insOf l ps r) → Q (.exit 0) ⟨[(3, .pointer (some ⟨0, 0, some 0⟩)), (7, .slice a n c)], 1, K, h'⟩) :
    ∀ i : Int, 0 ≤ i → i ≤ x.fn → ∀ h a n c, Ext h0 h → Heads h0 h a n c ((insOf l ps r).take i.toNat) → (n : Int) = i → head 46 3 1 ⟨[(1, .slice al nl cl), (2, .slice ap np cp), (3, .pointer (some ⟨0, 0, some 0⟩)), (7, .slice a n c), (8, .int .i64 i)], 1, K, h⟩ Q := by
  subst hK
  have hll := hl.len
  have hil := ins_len l ps r
  have hfl := hx.frm.len
  obtain ⟨xnm, xhow, xfa, xfn, xfc, xarg, xda, xdn, xdc, xdg⟩ := x
  have hfr := hx.frm
  simp only [] at hfr hfn hfl h1
  refine countUp (fun i hi0 hin ih h a n c e hh hni => ?_)
  simp only [] at hin
  refine hA.roundR Try.func46 r46_ok ?_; (try (conv => cbv)); repeat (refine brk_ok hA ?_; (try (conv => cbv)))
  refine br (i < xfn) (by rw [e_lss hA, e_ofNat hA]) (fun c1 => ?_) (fun c1 => ?_) <;> (try (conv => cbv)) <;> repeat (refine brk_ok hA ?_; (try (conv => cbv)))
  · obtain ⟨b, o, s, hae, hbn, hs, hrd⟩ := (hfr.ext e).at hi0 c1
    refine ⟨b, o, hae, in_ok hA hi0 c1, ?_⟩
    ((try (conv => cbv)); repeat (refine brk_ok hA ?_; (try (conv => cbv))))
    refine ⟨s, rd_ok hA hrd, ?_⟩
    ((try (conv => cbv)); repeat (refine brk_ok hA ?_; (try (conv => cbv))))
    refine idx_ok hA (e.lowOK hlow0) (hl.ext e) (by omega) (fun k hk => ⟨_, rfl, ?_⟩)
    ((try (conv => cbv)); repeat (refine brk_ok hA ?_; (try (conv => cbv))))
    have hm : sat' r.frm i ∈ r.frm := by
      unfold sat'
      rw [List.getD, List.getElem?_eq_getElem (by omega)]
      exact List.getElem_mem _
    have hk0 : 0 ≤ k := by rw [hk, hs]; exact hall _ hm
    have hk1 : k < l.length := by
      rcases idx_cases l s with ⟨q, _⟩ | ⟨_, q, _⟩ <;> omega
    have hpn := hp.len
    obtain ⟨b2, o2, ra, rn, rc, hae2, hbn2, hrd2, hrow⟩ := hp.at hk0 (by omega)
    have hrd2' : h.readG ⟨b2, o2 + k.toNat * 1, none⟩ 1 = some [.slice ra rn rc] := by
      unfold AHeap.readG AHeap.cells? at hrd2 ⊢
      rw [e.get _ hbn2]
      exact hrd2
    refine ⟨b2, o2, hae2, in_ok hA hk0 (by omega), ?_⟩
    ((try (conv => cbv)); repeat (refine brk_ok hA ?_; (try (conv => cbv))))
    refine ⟨ra, rn, rc, rd_ok hA hrd2', ?_⟩
    ((try (conv => cbv)); repeat (refine brk_ok hA ?_; (try (conv => cbv))))
    rw [e_next hA, e_push hA]
    obtain ⟨hs9, q1, q2, q3, q4⟩ := hh
    have e3 : Ext h (h.push 1 [Value.slice ra rn rc]) := .push _ _ _
    have o3 : Own (h.push 1 [Value.slice ra rn rc]) h.next 1 [Value.slice ra rn rc] := Own.push _ _ _
    have r3 : RowV (h.push 1 [Value.slice ra rn rc]) (some ⟨h.next, 0, none⟩) 1 1 [Value.slice ra rn rc] := .inl ⟨⟨rfl, Nat.lt_succ_self _, by rw [o3.readG (by simp)]; rfl⟩, (fun q => by cases q), by unfold capLow slack; omega⟩
    obtain ⟨a', c', h', w1, w2, w3, w4, w5⟩ := append_row T67 (q1.ext e3) r3 (hds_ok hs9) rfl (by omega)
    obtain ⟨x1, x2⟩ := w3 h0 (e.trans e3) q2
    refine app_ok hA w1 ?_
    ((try (conv => cbv)); repeat (refine brk_ok hA ?_; (try (conv => cbv))))
    rw [add64 hA (by omega) (by omega)]
    refine ih c1 h' a' (n + 1) c' x1 ?_ (by omega)
    rw [take_bat (insOf l ps r) hi0 (by omega), ins_bat hi0 (by omega)]
    refine ⟨hs9 ++ [⟨ra, rn, rc⟩], by rw [List.map_append]; exact w2, x2, by simp [q3], fun j x l' hx hl' => ?_⟩
    rcases Nat.lt_trichotomy j hs9.length with c | c | c
    · rw [List.getElem?_append_left c] at hx
      rw [List.getElem?_append_left (by omega)] at hl'
      exact q4 j x l' hx hl'
    · subst c
      rw [List.getElem?_append_right (Nat.le_refl _), Nat.sub_self] at hx
      rw [q3, List.getElem?_append_right (Nat.le_refl _), Nat.sub_self] at hl'
      simp only [List.getElem?_cons_zero, Option.some.injEq] at hx hl'
      subst hx hl'
      rw [← hs, ← hk]
      exact hrow
    · rw [List.getElem?_eq_none (by simp; omega)] at hx
      cases hx
  · rw [List.take_of_length_le (by omega)] at hh
    exact h1 a n c h e hh

theorem rjoin_loop {h0 : AHeap} {al : Option Addr} {nl cl : Nat} {ls : List Bytes} (hl : Lists h0 al nl ls) (hn : (nl : Int) ≤ 1000) (hsum : ls.flatten.length ≤ 100000) {K : List (Nat × List Value)} {Q : Exit → SS → Prop}
    (h1 : ∀ a n c h', Ext h0 h' → BOut h' h0.next a n c ls.flatten → Q (.exit 3) ⟨[(9, .slice a n c)], 1, K, h'⟩) :
    ∀ i : Int, 0 ≤ i → i ≤ nl → ∀ h a n c, Ext h0 h → BOut h h0.next a n c ((ls.take i.toNat).flatten) → head 46 12 1 ⟨[(7, .slice al nl cl), (9, .slice a n c), (10, .int .i64 i)], 1, K, h⟩ Q := by
  have hll := hl.len
  refine countUp (fun i hi0 hin ih h a n c e hb => ?_)
  refine hA.roundR Try.func46 r46_ok ?_; (try (conv => cbv)); repeat (refine brk_ok hA ?_; (try (conv => cbv)))
  refine br (i < nl) (by rw [e_lss hA, e_ofNat hA]) (fun c1 => ?_) (fun c1 => ?_) <;> (try (conv => cbv)) <;> repeat (refine brk_ok hA ?_; (try (conv => cbv)))
  · obtain ⟨b, o, ra, rn, rc, hae, hbn, hrd, hrow⟩ := (hl.ext e).at hi0 c1
    refine ⟨b, o, hae, in_ok hA hi0 c1, ?_⟩
    ((try (conv => cbv)); repeat (refine brk_ok hA ?_; (try (conv => cbv))))
    refine ⟨ra, rn, rc, rd_ok hA hrd, ?_⟩
    ((try (conv => cbv)); repeat (refine brk_ok hA ?_; (try (conv => cbv))))
    have hft := flat_take ls hi0 (by omega)
    have hln := hb.len
    have hrn := hrow.len
    have hle := flat_le ls (i + 1).toNat
    rw [hft, List.length_append] at hle
    obtain ⟨a', c', h', q1, q2, q3⟩ := hb.add hrow (by omega) e rfl
    obtain ⟨n', hn'⟩ : ∃ v, v = n + rn := ⟨_, rfl⟩
    rw [← hn'] at q1 q2
    refine app_ok hA q1 ?_
    ((try (conv => cbv)); repeat (refine brk_ok hA ?_; (try (conv => cbv))))
    rw [add64 hA (by omega) (by omega)]
    rw [← hft] at q2
    exact ih c1 h' a' n' c' q3 q2
  · rw [List.take_of_length_le (by omega)] at hb
    exact h1 a n c h e hb

theorem rrev_loop {h0 : AHeap} {al : Option Addr} {nl cl : Nat} {ls : List Bytes} (hl : Lists h0 al nl ls) (hn : 1 ≤ (nl : Int)) (hlen : (bat ls 0).length ≤ 100000) {K : List (Nat × List Value)} {Q : Exit → SS → Prop}
    (h1 : ∀ a n c h', Ext h0 h' → BOut h' h0.next a n c (bat ls 0).reverse → Q (.exit 5) ⟨[(9, .slice a n c)], 1, K, h'⟩) :
    ∀ i : Int, 0 ≤ i → i ≤ (bat ls 0).length → ∀ j : Int, j = i - 1 → ∀ h a n c, Ext h0 h → BOut h h0.next a n c ((bat ls 0).drop i.toNat).reverse → head 46 17 1 ⟨[(7, .slice al nl cl), (9, .slice a n c), (11, .int .i64 j)], 1, K, h⟩ Q := by
  refine countDown (fun i hi0 ih hin j hj h a n c e hb => ?_)
  have hbl := hb.len
  rw [List.length_reverse, List.length_drop] at hbl
  refine hA.roundR Try.func46 r46_ok ?_; (try (conv => cbv)); repeat (refine brk_ok hA ?_; (try (conv => cbv)))
  refine br (0 ≤ j) (by rw [e_geq hA]) (fun c1 => ?_) (fun c1 => ?_) <;> (try (conv => cbv)) <;> repeat (refine brk_ok hA ?_; (try (conv => cbv)))
  · obtain ⟨b, o, ra, rn, rc, hae, hbn, hrd, hrow⟩ := (hl.ext e).at (i := 0) (by omega) (by omega)
    have hrn := hrow.len
    obtain ⟨b2, o2, y, hae2, hbn2, hy, hrd2⟩ := hrow.at (i := j) c1 (by omega)
    refine ⟨b, o, hae, in_ok hA (by omega) (by omega), ?_⟩
    ((try (conv => cbv)); repeat (refine brk_ok hA ?_; (try (conv => cbv))))
    refine ⟨ra, rn, rc, rd_ok hA hrd, ?_⟩
    ((try (conv => cbv)); repeat (refine brk_ok hA ?_; (try (conv => cbv))))
    refine ⟨b2, o2, hae2, in_ok hA c1 (by omega), ?_⟩
    ((try (conv => cbv)); repeat (refine brk_ok hA ?_; (try (conv => cbv))))
    refine ⟨y, rd_ok hA hrd2, ?_⟩
    ((try (conv => cbv)); repeat (refine brk_ok hA ?_; (try (conv => cbv))))
    rw [e_next hA, e_push hA]
    obtain ⟨a', c', h', q1, q2, q3⟩ := hb.one y (by omega) e rfl
    refine app_ok hA q1 ?_
    ((try (conv => cbv)); repeat (refine brk_ok hA ?_; (try (conv => cbv))))
    rw [sub64 hA (by omega) (by omega)]
    rw [hy, hj, ← drop_rev (by omega) hin] at q2
    exact ih (by omega) (by omega) _ (by omega) h' a' (n + 1) c' q3 q2
  · have : i = 0 := by omega
    subst this
    exact h1 a n c h e hb

theorem rshift_loop {h0 : AHeap} (hlow0 : h0.low ≤ h0.next) {al : Option Addr} {nl cl : Nat} {ls : List Bytes} (hl : Lists h0 al nl ls) (hn : 1 ≤ (nl : Int)) (hlen : (bat ls 0).length ≤ 100000) (hok : okB (bat ls 0)) {x : RH} (ha0 : 0 ≤ x.arg) (ha1 : x.arg ≤ 255) {K : List (Nat × List Value)} (hK : K = [(0, x.cells)]) {Q : Exit → SS → Prop}
    (h1 : ∀ a n c h' kn K, Ext h0 h' → BOut h' h0.next a n c (shiftS (bat ls 0) x.arg) → Q (.exit 7) ⟨[(9, .slice a n c)], kn, K, h'⟩) :
    ∀ i : Int, 0 ≤ i → i ≤ (bat ls 0).length → ∀ h a n c, Ext h0 h → BOut h h0.next a n c ((shiftS (bat ls 0) x.arg).take i.toNat) → head 46 24 1 ⟨[(3, .pointer (some ⟨0, 0, some 0⟩)), (7, .slice al nl cl), (9, .slice a n c), (12, .int .i64 i)], 1, K, h⟩ Q := by
  subst hK
  obtain ⟨xnm, xhow, xfa, xfn, xfc, xarg, xda, xdn, xdc, xdg⟩ := x
  simp only [] at ha0 ha1 h1
  refine countUp (fun i hi0 hin ih h a n c e hb => ?_)
  simp only [] at hb ih
  have hbl := hb.len
  have hsl : (shiftS (bat ls 0) xarg).length = (bat ls 0).length := by unfold shiftS; simp
  rw [List.length_take] at hbl
  refine hA.roundR Try.func46 r46_ok ?_; (try (conv => cbv)); repeat (refine brk_ok hA ?_; (try (conv => cbv)))
  obtain ⟨b, o, ra, rn, rc, hae, hbn, hrd, hrow⟩ := (hl.ext e).at (i := 0) (by omega) (by omega)
  have hrn := hrow.len
  refine ⟨b, o, hae, in_ok hA (by omega) (by omega), ?_⟩
  ((try (conv => cbv)); repeat (refine brk_ok hA ?_; (try (conv => cbv))))
  refine ⟨ra, rn, rc, rd_ok hA hrd, ?_⟩
  ((try (conv => cbv)); repeat (refine brk_ok hA ?_; (try (conv => cbv))))
  refine br (i < rn) (by rw [e_lss hA, e_ofNat hA]) (fun c1 => ?_) (fun c1 => ?_) <;> (try (conv => cbv)) <;> repeat (refine brk_ok hA ?_; (try (conv => cbv)))
  · obtain ⟨h9, hh9⟩ : ∃ z, z = bump h 16 := ⟨_, rfl⟩
    obtain ⟨nh, hnh⟩ : ∃ z, z = next h := ⟨_, rfl⟩
    have e9 : Ext h h9 := by rw [hh9, e_bump hA]; exact .bump _ _
    rw [← hh9, ← hnh]
    obtain ⟨b3, o3, ra3, rn3, rc3, hae3, hbn3, hrd3, hrow3⟩ := (hl.ext (e.trans e9)).at (i := 0) (by omega) (by omega)
    have hrn3 := hrow3.len
    refine ⟨b3, o3, hae3, in_ok hA (by omega) (by omega), ?_⟩
    ((try (conv => cbv)); repeat (refine brk_ok hA ?_; (try (conv => cbv))))
    refine ⟨ra3, rn3, rc3, rd_ok hA hrd3, ?_⟩
    ((try (conv => cbv)); repeat (refine brk_ok hA ?_; (try (conv => cbv))))
    obtain ⟨b2, o2, y, hae2, hbn2, hy, hrd2⟩ := hrow3.at (i := i) hi0 (by omega)
    have hyb := okB_at hok hi0 (by omega : i < (bat ls 0).length)
    rw [← hy] at hyb
    refine ⟨b2, o2, hae2, in_ok hA hi0 (by omega), ?_⟩
    ((try (conv => cbv)); repeat (refine brk_ok hA ?_; (try (conv => cbv))))
    refine ⟨y, rd_ok hA hrd2, ?_⟩
    ((try (conv => cbv)); repeat (refine brk_ok hA ?_; (try (conv => cbv))))
    obtain ⟨s, hs⟩ : ∃ v, v = y + xarg := ⟨_, rfl⟩
    obtain ⟨z, hz⟩ : ∃ v, v = s % 256 := ⟨_, rfl⟩
    have f1 : conv .i64 y = y := conv64 hA (by omega) (by omega)
    have f2 : arith .add .i64 y xarg = s := by rw [hs]; exact add64 hA (by omega) (by omega)
    have f3 : arith .rem .i64 s 256 = z := by rw [hz]; exact rem64 hA (by omega)
    have f4 : conv .u8 z = z := conv8 hA (by omega) (by omega)
    rw [f1, f2]
    refine ⟨nz_ok hA (by omega), ?_⟩
    ((try (conv => cbv)); repeat (refine brk_ok hA ?_; (try (conv => cbv))))
    rw [f3, f4]
    obtain ⟨bq, hbq⟩ : ∃ v, v = addN nh 13 := ⟨_, rfl⟩
    have hbq' : bq = h.next + 13 := by rw [hbq, hnh, e_addN hA, e_next hA]
    obtain ⟨X, hX⟩ : ∃ v, v = putAt h9 bq 1 [Value.int .u8 z] := ⟨_, rfl⟩
    have oX : Own X bq 1 [Value.int .u8 z] := by rw [hX, e_putAt hA]; exact Own.putAt _ _ _ _
    have eX : Ext h X := by rw [hX, e_putAt hA, hh9, e_bump hA]; exact Ext.bumpPut' h 16 (by omega) 1 _
    have nX : X.next = h.next + 16 := by rw [hX, e_putAt hA, hh9, e_bump hA]; rfl
    rw [← hbq, ← hX]
    have fX := ext_fresh hA X
    have nfX : (fresh X).next = X.next := by rw [e_fresh hA]; rfl
    obtain ⟨a', c', h', q1, q2, q3⟩ := hb.one' (by omega) e rfl (eX.trans fX) (oX.ext fX (by omega)) (by omega)
    refine app_ok hA q1 ?_
    ((try (conv => cbv)); repeat (refine brk_ok hA ?_; (try (conv => cbv))))
    rw [add64 hA (by omega) (by omega)]
    refine ih (by omega) _ a' (n + 1) c' (by rw [e_lowered hA]; exact Ext.lower' q3 (e.trans eX) hlow0) ?_
    rw [shift_take hi0 (by omega), ← hy, ← hs, ← hz, e_lowered hA]
    exact q2.low _
  · have : i = (bat ls 0).length := by omega
    rw [this, List.take_of_length_le (by omega)] at hb
    exact h1 a n c h _ _ e hb

theorem revery_loop {h0 : AHeap} {al : Option Addr} {nl cl : Nat} {ls : List Bytes} (hl : Lists h0 al nl ls) (hn : 1 ≤ (nl : Int)) (hlen : (bat ls 0).length ≤ 100000) {x : RH} (ha0 : 1 ≤ x.arg) (ha1 : x.arg ≤ 1000) {K : List (Nat × List Value)} (hK : K = [(0, x.cells)]) {Q : Exit → SS → Prop}
    (h1 : ∀ a n c h' kn K, Ext h0 h' → BOut h' h0.next a n c (everyS (bat ls 0) x.arg.toNat 0) → Q (.exit 11) ⟨[(9, .slice a n c)], kn, K, h'⟩) :
    ∀ (d : Nat) (i : Int), 0 ≤ i → ((bat ls 0).length : Int) - i ≤ d → i ≤ 200000 → ∀ h a n c l, Ext h0 h → BOut h h0.next a n c l → (n : Int) ≤ i → l ++ everyS (bat ls 0) x.arg.toNat i.toNat = everyS (bat ls 0) x.arg.toNat 0 → head 46 39 1 ⟨[(3, .pointer (some ⟨0, 0, some 0⟩)), (7, .slice al nl cl), (9, .slice a n c), (15, .int .i64 i)], 1, K, h⟩ Q := by
  subst hK
  obtain ⟨xnm, xhow, xfa, xfn, xfc, xarg, xda, xdn, xdc, xdg⟩ := x
  simp only [] at ha0 ha1 h1
  intro d
  induction d with
  | zero =>
    intro i hi0 hid hi2 h a n c l e hm hni hlv
    obtain ⟨b, o, ra, rn, rc, hae, hbn, hrd, hrow⟩ := (hl.ext e).at (i := 0) (by omega) (by omega)
    have hrn := hrow.len
    refine hA.roundR Try.func46 r46_ok ?_; (try (conv => cbv)); repeat (refine brk_ok hA ?_; (try (conv => cbv)))
    refine ⟨b, o, hae, in_ok hA (by omega) (by omega), ?_⟩
    ((try (conv => cbv)); repeat (refine brk_ok hA ?_; (try (conv => cbv))))
    refine ⟨ra, rn, rc, rd_ok hA hrd, ?_⟩
    ((try (conv => cbv)); repeat (refine brk_ok hA ?_; (try (conv => cbv))))
    refine br (i < rn) (by rw [e_lss hA, e_ofNat hA]) (fun c1 => by omega) (fun c1 => ?_) <;> (try (conv => cbv)) <;> repeat (refine brk_ok hA ?_; (try (conv => cbv)))
    simp only [] at hlv
    rw [everyS, dif_neg (by omega), List.append_nil] at hlv
    rw [hlv] at hm
    exact h1 a n c h _ _ e hm
  | succ d ih =>
    intro i hi0 hid hi2 h a n c l e hm hni hlv
    simp only [] at hlv ih
    obtain ⟨b, o, ra, rn, rc, hae, hbn, hrd, hrow⟩ := (hl.ext e).at (i := 0) (by omega) (by omega)
    have hrn := hrow.len
    refine hA.roundR Try.func46 r46_ok ?_; (try (conv => cbv)); repeat (refine brk_ok hA ?_; (try (conv => cbv)))
    refine ⟨b, o, hae, in_ok hA (by omega) (by omega), ?_⟩
    ((try (conv => cbv)); repeat (refine brk_ok hA ?_; (try (conv => cbv))))
    refine ⟨ra, rn, rc, rd_ok hA hrd, ?_⟩
    ((try (conv => cbv)); repeat (refine brk_ok hA ?_; (try (conv => cbv))))
    refine br (i < rn) (by rw [e_lss hA, e_ofNat hA]) (fun c1 => ?_) (fun c1 => ?_) <;> (try (conv => cbv)) <;> repeat (refine brk_ok hA ?_; (try (conv => cbv)))
    · refine ⟨b, o, hae, in_ok hA (by omega) (by omega), ?_⟩
      ((try (conv => cbv)); repeat (refine brk_ok hA ?_; (try (conv => cbv))))
      refine ⟨ra, rn, rc, rd_ok hA hrd, ?_⟩
      ((try (conv => cbv)); repeat (refine brk_ok hA ?_; (try (conv => cbv))))
      obtain ⟨b2, o2, y, hae2, hbn2, hy, hrd2⟩ := hrow.at (i := i) hi0 (by omega)
      refine ⟨b2, o2, hae2, in_ok hA hi0 (by omega), ?_⟩
      ((try (conv => cbv)); repeat (refine brk_ok hA ?_; (try (conv => cbv))))
      refine ⟨y, rd_ok hA hrd2, ?_⟩
      ((try (conv => cbv)); repeat (refine brk_ok hA ?_; (try (conv => cbv))))
      rw [e_next hA, e_push hA]
      obtain ⟨a', c', h', q1, q2, q3⟩ := hm.one y (by omega) e rfl
      refine app_ok hA q1 ?_
      ((try (conv => cbv)); repeat (refine brk_ok hA ?_; (try (conv => cbv))))
      have hya : y = (bat ls 0).getD i.toNat 0 := hy
      rw [everyS, dif_pos (by omega)] at hlv
      rw [add64 hA (by omega) (by omega)]
      refine ih (i + xarg) (by omega) (by omega) (by omega) h' a' (n + 1) c' (l ++ [y]) q3 q2 (by omega) ?_
      have ht : (i + xarg).toNat = i.toNat + xarg.toNat := by omega
      rw [← hlv, hya, ht, List.append_assoc]
      rfl
    · rw [everyS, dif_neg (by omega), List.append_nil] at hlv
      rw [hlv] at hm
      exact h1 a n c h _ _ e hm

theorem rmix_loop {h0 : AHeap} (hlow0 : h0.low ≤ h0.next) {al : Option Addr} {nl cl : Nat} {ls : List Bytes} (hl : Lists h0 al nl ls) (hn : 2 ≤ (nl : Int)) (hlen : (bat ls 0).length ≤ 1000) (hlen1 : (bat ls 1).length ≤ 1000) (hok : okB (bat ls 0)) (hok1 : okB (bat ls 1)) {cs : List Value} {Q : Exit → SS → Prop}
    (h1 : ∀ a n c h' kn K, Ext h0 h' → BOut h' h0.next a n c (mixS (bat ls 0) (bat ls 1)) → Q (.exit 9) ⟨[(9, .slice a n c)], kn, K, h'⟩) :
    ∀ i : Int, 0 ≤ i → i ≤ (mixS (bat ls 0) (bat ls 1)).length → ∀ h a n c, Ext h0 h → BOut h h0.next a n c ((mixS (bat ls 0) (bat ls 1)).take i.toNat) → head 46 29 1 ⟨[(7, .slice al nl cl), (9, .slice a n c), (13, .int .i64 i)], 1, [(0, cs)], h⟩ Q := by
  have hml := mix_len (bat ls 0) (bat ls 1)
  refine countUp (fun i hi0 hin ih h a n c e hb => ?_)
  have hbl := hb.len
  rw [List.length_take] at hbl
  refine hA.roundR Try.func46 r46_ok ?_; (try (conv => cbv)); repeat (refine brk_ok hA ?_; (try (conv => cbv)))
  obtain ⟨h9, hh9⟩ : ∃ z, z = bump h 11 := ⟨_, rfl⟩
  obtain ⟨nh, hnh⟩ : ∃ z, z = next h := ⟨_, rfl⟩
  have e9 : Ext h h9 := by rw [hh9, e_bump hA]; exact .bump _ _
  rw [← hh9, ← hnh]
  have e09 := e.trans e9
  obtain ⟨b, o, ra, rn, rc, hae, hbn, hrd, hrow⟩ := (hl.ext e09).at (i := 0) (by omega) (by omega)
  obtain ⟨b', o', ra', rn', rc', hae', hbn', hrd', hrow'⟩ := (hl.ext e09).at (i := 1) (by omega) (by omega)
  have hrn := hrow.len
  have hrn' := hrow'.len
  refine ⟨b, o, hae, in_ok hA (by omega) (by omega), ?_⟩
  ((try (conv => cbv)); repeat (refine brk_ok hA ?_; (try (conv => cbv))))
  refine ⟨ra, rn, rc, rd_ok hA hrd, ?_⟩
  ((try (conv => cbv)); repeat (refine brk_ok hA ?_; (try (conv => cbv))))
  refine ⟨b', o', hae', in_ok hA (by omega) (by omega), ?_⟩
  ((try (conv => cbv)); repeat (refine brk_ok hA ?_; (try (conv => cbv))))
  refine ⟨ra', rn', rc', rd_ok hA hrd', ?_⟩
  ((try (conv => cbv)); repeat (refine brk_ok hA ?_; (try (conv => cbv))))
  have hmx : imax (ofNat rn) (ofNat rn') = max (rn : Int) rn' := by rw [e_imax hA, e_ofNat hA, e_ofNat hA]; split <;> omega
  refine br (i < max (rn : Int) rn') (by rw [e_lss hA, hmx]) (fun c1 => ?_) (fun c1 => ?_) <;> (try (conv => cbv)) <;> repeat (refine brk_ok hA ?_; (try (conv => cbv)))
  · have hb9 := hb.ext e9
    refine ⟨b, o, hae, in_ok hA (by omega) (by omega), ?_⟩
    ((try (conv => cbv)); repeat (refine brk_ok hA ?_; (try (conv => cbv))))
    refine ⟨ra, rn, rc, rd_ok hA hrd, ?_⟩
    ((try (conv => cbv)); repeat (refine brk_ok hA ?_; (try (conv => cbv))))
    refine br (i < rn) (by rw [e_lss hA, e_ofNat hA]) (fun c2 => ?_) (fun c2 => ?_) <;> (try (conv => cbv)) <;> repeat (refine brk_ok hA ?_; (try (conv => cbv)))
    · refine ⟨b, o, hae, in_ok hA (by omega) (by omega), ?_⟩
      ((try (conv => cbv)); repeat (refine brk_ok hA ?_; (try (conv => cbv))))
      refine ⟨ra, rn, rc, rd_ok hA hrd, ?_⟩
      ((try (conv => cbv)); repeat (refine brk_ok hA ?_; (try (conv => cbv))))
      obtain ⟨b2, o2, y, hae2, hbn2, hy, hrd2⟩ := hrow.at (i := i) hi0 (by omega)
      have hyb := okB_at hok hi0 (by omega : i < (bat ls 0).length)
      rw [← hy] at hyb
      refine ⟨b2, o2, hae2, in_ok hA hi0 (by omega), ?_⟩
      ((try (conv => cbv)); repeat (refine brk_ok hA ?_; (try (conv => cbv))))
      refine ⟨y, rd_ok hA hrd2, ?_⟩
      ((try (conv => cbv)); repeat (refine brk_ok hA ?_; (try (conv => cbv))))
      have f1 : arith .xor .u8 0 y = y := by rw [e_xor hA]; exact bx_zero hyb.1 hyb.2
      rw [f1]
      refine ⟨b', o', hae', in_ok hA (by omega) (by omega), ?_⟩
      ((try (conv => cbv)); repeat (refine brk_ok hA ?_; (try (conv => cbv))))
      refine ⟨ra', rn', rc', rd_ok hA hrd', ?_⟩
      ((try (conv => cbv)); repeat (refine brk_ok hA ?_; (try (conv => cbv))))
      refine br (i < rn') (by rw [e_lss hA, e_ofNat hA]) (fun c3 => ?_) (fun c3 => ?_) <;> (try (conv => cbv)) <;> repeat (refine brk_ok hA ?_; (try (conv => cbv)))
      · refine ⟨b', o', hae', in_ok hA (by omega) (by omega), ?_⟩
        ((try (conv => cbv)); repeat (refine brk_ok hA ?_; (try (conv => cbv))))
        refine ⟨ra', rn', rc', rd_ok hA hrd', ?_⟩
        ((try (conv => cbv)); repeat (refine brk_ok hA ?_; (try (conv => cbv))))
        obtain ⟨b3, o3, w, hae3, hbn3, hw, hrd3⟩ := hrow'.at (i := i) hi0 (by omega)
        refine ⟨b3, o3, hae3, in_ok hA hi0 (by omega), ?_⟩
        ((try (conv => cbv)); repeat (refine brk_ok hA ?_; (try (conv => cbv))))
        refine ⟨w, rd_ok hA hrd3, ?_⟩
        ((try (conv => cbv)); repeat (refine brk_ok hA ?_; (try (conv => cbv))))
        obtain ⟨z, hz⟩ : ∃ v, v = bx y w := ⟨_, rfl⟩
        have f2 : arith .xor .u8 y w = z := by rw [e_xor hA, hz]
        rw [f2]
        have hzz : z = bx (at' (bat ls 0) i) (at' (bat ls 1) i) := by rw [hz, hy, hw]
        rw [e_next hA, e_push hA]
        obtain ⟨a', c', h', q1, q2, q3⟩ := hb9.one z (by omega) e09 rfl
        refine app_ok hA q1 ?_
        ((try (conv => cbv)); repeat (refine brk_ok hA ?_; (try (conv => cbv))))
        rw [add64 hA (by omega) (by omega)]
        rw [hzz, ← mix_take hi0 (by omega)] at q2
        exact ih (by omega) h' a' (n + 1) c' q3 q2
      · obtain ⟨z, hz⟩ : ∃ v, v = y := ⟨_, rfl⟩
        rw [← hz]
        have hzz : z = bx (at' (bat ls 0) i) (at' (bat ls 1) i) := by rw [at'_out (l := bat ls 1) (by omega), bx_comm, hz, ← hy]; exact (bx_zero hyb.1 hyb.2).symm
        rw [e_next hA, e_push hA]
        obtain ⟨a', c', h', q1, q2, q3⟩ := hb9.one z (by omega) e09 rfl
        refine app_ok hA q1 ?_
        ((try (conv => cbv)); repeat (refine brk_ok hA ?_; (try (conv => cbv))))
        rw [add64 hA (by omega) (by omega)]
        rw [hzz, ← mix_take hi0 (by omega)] at q2
        exact ih (by omega) h' a' (n + 1) c' q3 q2
    · refine ⟨b', o', hae', in_ok hA (by omega) (by omega), ?_⟩
      ((try (conv => cbv)); repeat (refine brk_ok hA ?_; (try (conv => cbv))))
      refine ⟨ra', rn', rc', rd_ok hA hrd', ?_⟩
      ((try (conv => cbv)); repeat (refine brk_ok hA ?_; (try (conv => cbv))))
      refine br (i < rn') (by rw [e_lss hA, e_ofNat hA]) (fun c3 => ?_) (fun c3 => by omega) <;> (try (conv => cbv)) <;> repeat (refine brk_ok hA ?_; (try (conv => cbv)))
      refine ⟨b', o', hae', in_ok hA (by omega) (by omega), ?_⟩
      ((try (conv => cbv)); repeat (refine brk_ok hA ?_; (try (conv => cbv))))
      refine ⟨ra', rn', rc', rd_ok hA hrd', ?_⟩
      ((try (conv => cbv)); repeat (refine brk_ok hA ?_; (try (conv => cbv))))
      obtain ⟨b3, o3, w, hae3, hbn3, hw, hrd3⟩ := hrow'.at (i := i) hi0 (by omega)
      refine ⟨b3, o3, hae3, in_ok hA hi0 (by omega), ?_⟩
      ((try (conv => cbv)); repeat (refine brk_ok hA ?_; (try (conv => cbv))))
      refine ⟨w, rd_ok hA hrd3, ?_⟩
      ((try (conv => cbv)); repeat (refine brk_ok hA ?_; (try (conv => cbv))))
      obtain ⟨z, hz⟩ : ∃ v, v = bx 0 w := ⟨_, rfl⟩
      have f2 : arith .xor .u8 0 w = z := by rw [e_xor hA, hz]
      rw [f2]
      have hzz : z = bx (at' (bat ls 0) i) (at' (bat ls 1) i) := by rw [hz, at'_out (l := bat ls 0) (by omega), hw]
      rw [e_next hA, e_push hA]
      obtain ⟨a', c', h', q1, q2, q3⟩ := hb9.one z (by omega) e09 rfl
      refine app_ok hA q1 ?_
      ((try (conv => cbv)); repeat (refine brk_ok hA ?_; (try (conv => cbv))))
      rw [add64 hA (by omega) (by omega)]
      rw [hzz, ← mix_take hi0 (by omega)] at q2
      exact ih (by omega) h' a' (n + 1) c' q3 q2
  · rw [List.take_of_length_le (by omega)] at hb
    rw [hh9, e_bump hA]
    exact h1 a n c _ _ _ (e.trans (.bump _ _)) (hb.ext (.bump _ _))

set_option maxHeartbeats 1000000 in
theorem rmade_ok {h : AHeap} (hlow : h.low ≤ h.next) {x : RH} {r : Rec} (hx : RelR h x r) (hk : kindP r.how r.frm.length r.arg r.data.length) (hor : okR r) {al : Option Addr} {nl cl : Nat} {l : List Rec} (hl : Recs h al nl l) (hnl : (nl : Int) ≤ 1000) {ap : Option Addr} {np cp : Nat} {ps : List Bytes} (hp : Lists h ap np ps) (hpl : ps.length = l.length) (hall : ∀ f ∈ r.frm, 0 ≤ idxOf l f) (h1000 : ∀ b ∈ ps, b.length ≤ 1000) (hokB : ∀ b ∈ ps, okB b) {Q : Value → AHeap → Prop}
    (hQ : ∀ a n c h', Ext h h' → BOut h' h.next a n c (madeS r (insOf l ps r)) → Q (.slice a n c) h') : call 46 [.agg x.cells.toArray, .slice al nl cl, .slice ap np cp] h Q := by
  have i1000 := ins_all (P := fun b => b.length ≤ 1000) (l := l) (r := r) h1000 (by simp)
  have iok := ins_all (P := okB) (l := l) (r := r) hokB (fun x hx => by cases hx)
  have hil := ins_len l ps r
  have hfn := hx.frm.len
  have b0 := bat_len i1000 0
  have b1 := bat_len i1000 1
  have o0 := bat_okB iok 0
  have o1 := bat_okB iok 1
  have hfl := flatten_len i1000
  have hdl := hx.data.len
  have hxh := hx.how
  have hxa := hx.arg
  have hxd := hx.data
  unfold madeS at hQ
  obtain ⟨y, hy⟩ : ∃ y, y = x := ⟨_, rfl⟩
  obtain ⟨nm, how, fa, fn, fc, arg, da, dn, dc, dg⟩ := x
  simp only [] at hfn hdl hxh hxa hxd
  rw [← hxh, ← hxa, hfn, hdl] at hk
  rw [← hxh, ← hxa] at hQ
  rw [hfn] at hil
  have hkf : (fn : Int) ≤ 1000 := by unfold kindP at hk; omega
  refine hA.bodyR Try.func46 r46_ok (show prims _ _ _ = none from rfl) hlow ?_; (try (conv => cbv)); repeat (refine brk_ok hA ?_; (try (conv => cbv)))
  refine rlists_loop hA hlow hl hnl hp hpl hx hkf hall rfl (fun a7 n7 c7 h2 e2 hh2 => ?_) 0 (by omega) (by simp only []; omega) h none 0 0 (.refl _) ⟨[], Apd.nil _ _, From.none _, by simp, fun j x l hx => by simp at hx⟩ rfl
  obtain ⟨hs, w1, w2, w3, w4⟩ := hh2
  have hl2 : Lists h2 a7 n7 (insOf l ps r) := ⟨hs, w1.cells, w3, fun i x l hx hl => (w4 i x l hx hl).ext e2⟩
  have hn7 := hl2.len
  generalize insOf l ps r = ins at *
  have hl20 := e2.lowOK hlow
  have fin : ∀ {a n c : _} {h' : AHeap} {b : Bytes}, Ext h2 h' → BOut h' h2.next a n c b → BOut h' h.next a n c b := fun e' hb => hb.lower e2.next
  ((try (conv => cbv)); repeat (refine brk_ok hA ?_; (try (conv => cbv))))
  refine br (how = 1) (by rw [e_eql hA]) (fun k1 => ?_) (fun k1 => ?_) <;> (try (conv => cbv)) <;> repeat (refine brk_ok hA ?_; (try (conv => cbv)))
  · rw [if_pos k1] at hQ
    obtain ⟨a', c', h', q1, q2, q3⟩ := (BOut.nil h2 h2.next).add (hxd.ext e2) (by unfold kindP at hk; omega) (.refl h2) rfl
    rw [Nat.zero_add] at q1 q2
    rw [List.nil_append] at q2
    refine app_ok hA q1 ?_
    ((try (conv => cbv)); repeat (refine brk_ok hA ?_; (try (conv => cbv))))
    exact hQ _ _ _ h' (e2.trans q3) (fin q3 q2)
  rw [if_neg k1] at hQ
  refine br (how = 2) (by rw [e_eql hA]) (fun k2 => ?_) (fun k2 => ?_) <;> (try (conv => cbv)) <;> repeat (refine brk_ok hA ?_; (try (conv => cbv)))
  · rw [if_pos k2] at hQ
    refine rjoin_loop hA hl2 (by omega) (by unfold kindP at hk; omega) (fun a n c h' e' hb' => ?_) 0 (by omega) (by omega) h2 none 0 0 (.refl _) (by simpa using BOut.nil h2 h2.next)
    ((try (conv => cbv)); repeat (refine brk_ok hA ?_; (try (conv => cbv))))
    exact hQ _ _ _ h' (e2.trans e') (fin e' hb')
  rw [if_neg k2] at hQ
  refine br (how = 3) (by rw [e_eql hA]) (fun k3 => ?_) (fun k3 => ?_) <;> (try (conv => cbv)) <;> repeat (refine brk_ok hA ?_; (try (conv => cbv)))
  · rw [if_neg (by omega), if_pos k3] at hQ
    obtain ⟨b, o, ra, rn, rc, hae, hbn, hrd, hrow⟩ := hl2.at (i := 0) (by omega) (by unfold kindP at hk; omega)
    have hrn := hrow.len
    refine ⟨b, o, hae, in_ok hA (by omega) (by unfold kindP at hk; omega), ?_⟩
    ((try (conv => cbv)); repeat (refine brk_ok hA ?_; (try (conv => cbv))))
    refine ⟨ra, rn, rc, rd_ok hA hrd, ?_⟩
    ((try (conv => cbv)); repeat (refine brk_ok hA ?_; (try (conv => cbv))))
    rw [e_ofNat hA, sub64 hA (by omega) (by omega)]
    obtain ⟨jj, hjj⟩ : ∃ v, v = (rn : Int) - 1 := ⟨_, rfl⟩
    rw [← hjj]
    refine rrev_loop hA hl2 (by unfold kindP at hk; omega) (by omega) (fun a n c h' e' hb' => ?_) (bat ins 0).length (by omega) (by omega) jj (by omega) h2 none 0 0 (.refl _) (by rw [Int.toNat_natCast, List.drop_length]; exact BOut.nil h2 h2.next)
    ((try (conv => cbv)); repeat (refine brk_ok hA ?_; (try (conv => cbv))))
    exact hQ _ _ _ h' (e2.trans e') (fin e' hb')
  rw [if_neg k3] at hQ
  refine br (how = 4) (by rw [e_eql hA]) (fun k4 => ?_) (fun k4 => ?_) <;> (try (conv => cbv)) <;> repeat (refine brk_ok hA ?_; (try (conv => cbv)))
  · rw [if_neg (by omega), if_pos k4] at hQ
    obtain ⟨h9, hh9⟩ : ∃ z, z = bump h2 14 := ⟨_, rfl⟩
    obtain ⟨nh, hnh⟩ : ∃ z, z = next h2 := ⟨_, rfl⟩
    have e9 : Ext h2 h9 := by rw [hh9, e_bump hA]; exact .bump _ _
    rw [← hh9, ← hnh]
    obtain ⟨b, o, ra, rn, rc, hae, hbn, hrd, hrow⟩ := (hl2.ext e9).at (i := 0) (by omega) (by unfold kindP at hk; omega)
    have hrn := hrow.len
    refine ⟨b, o, hae, in_ok hA (by omega) (by unfold kindP at hk; omega), ?_⟩
    ((try (conv => cbv)); repeat (refine brk_ok hA ?_; (try (conv => cbv))))
    refine ⟨ra, rn, rc, rd_ok hA hrd, ?_⟩
    ((try (conv => cbv)); repeat (refine brk_ok hA ?_; (try (conv => cbv))))
    refine ⟨b, o, hae, in_ok hA (by omega) (by unfold kindP at hk; omega), ?_⟩
    ((try (conv => cbv)); repeat (refine brk_ok hA ?_; (try (conv => cbv))))
    refine ⟨ra, rn, rc, rd_ok hA hrd, ?_⟩
    ((try (conv => cbv)); repeat (refine brk_ok hA ?_; (try (conv => cbv))))
    obtain ⟨jj, hjj⟩ : ∃ v, v = imin arg (ofNat rn) := ⟨_, rfl⟩
    have hjj' : jj = if (rn : Int) < arg then (rn : Int) else arg := by rw [hjj, e_imin hA, e_ofNat hA]
    rw [← hjj]
    have hj0 : 0 ≤ jj ∧ jj ≤ rn := by rw [hjj']; unfold kindP at hk; split <;> omega
    have hcap := RowV.cap hrow
    refine ⟨by rw [e_cut hA]; omega, ?_⟩
    ((try (conv => cbv)); repeat (refine brk_ok hA ?_; (try (conv => cbv))))
    have hno : nat jj = jj.toNat := by rw [e_nat hA]
    rw [hno]
    have fX := ext_fresh hA h9
    have hbt := (hrow.take (j := jj.toNat) (by omega)).ext fX
    obtain ⟨a', c', h', q1, q2, q3⟩ := (BOut.nil (fresh h9) h2.next).add hbt (by omega) (e9.trans fX) rfl
    obtain ⟨jn, hjn⟩ : ∃ v, v = jj.toNat := ⟨_, rfl⟩
    rw [Nat.zero_add, ← hjn] at q1 q2
    rw [List.nil_append] at q2
    rw [← hjn]
    refine app_ok hA q1 ?_
    ((try (conv => cbv)); repeat (refine brk_ok hA ?_; (try (conv => cbv))))
    have htk : (bat ins 0).take jn = (bat ins 0).take arg.toNat := by
      rw [hjn, hjj']
      split
      · rw [List.take_of_length_le (by omega), List.take_of_length_le (by omega)]
      · rfl
    rw [htk] at q2
    have e' : Ext h2 (lowered h9 h') := by rw [e_lowered hA]; exact Ext.lower' q3 e9 hl20
    refine hQ _ _ _ _ (e2.trans e') (fin e' ?_)
    rw [e_lowered hA]
    exact q2.low _
  rw [if_neg k4] at hQ
  refine br (how = 5) (by rw [e_eql hA]) (fun k5 => ?_) (fun k5 => ?_) <;> (try (conv => cbv)) <;> repeat (refine brk_ok hA ?_; (try (conv => cbv)))
  · rw [if_neg (by omega), if_pos k5] at hQ
    refine rshift_loop hA hl20 hl2 (by unfold kindP at hk; omega) (by omega) o0 (x := ⟨nm, how, fa, fn, fc, arg, da, dn, dc, dg⟩) (by unfold kindP at hk; simp only []; omega) (by unfold kindP at hk; simp only []; omega) rfl (fun a n c h' kn K e' hb' => ?_) 0 (by omega) (by omega) h2 none 0 0 (.refl _) (by simpa using BOut.nil h2 h2.next)
    ((try (conv => cbv)); repeat (refine brk_ok hA ?_; (try (conv => cbv))))
    exact hQ _ _ _ h' (e2.trans e') (fin e' hb')
  rw [if_neg k5] at hQ
  refine br (how = 6) (by rw [e_eql hA]) (fun k6 => ?_) (fun k6 => ?_) <;> (try (conv => cbv)) <;> repeat (refine brk_ok hA ?_; (try (conv => cbv)))
  · rw [if_pos k6] at hQ
    refine rmix_loop hA hl20 hl2 (by unfold kindP at hk; omega) (by omega) (by omega) o0 o1 (fun a n c h' kn K e' hb' => ?_) 0 (by omega) (by omega) h2 none 0 0 (.refl _) (by simpa using BOut.nil h2 h2.next)
    ((try (conv => cbv)); repeat (refine brk_ok hA ?_; (try (conv => cbv))))
    exact hQ _ _ _ h' (e2.trans e') (fin e' hb')
  rw [if_neg k6] at hQ
  refine br (how = 7) (by rw [e_eql hA]) (fun k7 => ?_) (fun k7 => ?_) <;> (try (conv => cbv)) <;> repeat (refine brk_ok hA ?_; (try (conv => cbv)))
  · refine revery_loop hA hl2 (by unfold kindP at hk; omega) (by omega) (x := ⟨nm, how, fa, fn, fc, arg, da, dn, dc, dg⟩) (by unfold kindP at hk; simp only []; omega) (by unfold kindP at hk; simp only []; omega) rfl (fun a n c h' kn K e' hb' => ?_) (bat ins 0).length 0 (by omega) (by omega) (by omega) h2 none 0 0 [] (.refl _) (BOut.nil _ _) (by omega) rfl
    ((try (conv => cbv)); repeat (refine brk_ok hA ?_; (try (conv => cbv))))
    exact hQ _ _ _ h' (e2.trans e') (fin e' hb')
  · unfold kindP at hk
    omega

end Go.Proofs.Ytopppccddnplkaa
