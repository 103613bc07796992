/-
  COPIES (fringeref40.Twin, clean.copied) AND BLANKS (fringeref40.Blank).
-/
import Derived.Test.YtogofeppflindaaCMem2
namespace Go.Proofs.Ytogofeppflindaa
open Go.Sim
set_option linter.unusedVariables false
set_option maxRecDepth 100000

theorem row_append {h : AHeap} {b : Nat} (ho : Own h b 1 []) (hb : b < h.next) {ra : Option Addr} {rn rc : Nat} {r : List Int} (hr : Row h ra rn rc r) (hbig : rn ≤ 1000000) :
    ∃ b' c' h', appendH Try.prog h [52, 52] [.slice (some ⟨b, 0, none⟩) 0 0, .slice ra rn rc] = some (.slice (some ⟨b', 0, none⟩) rn c', h') ∧ Own h' b' 1 (r.map (.int .i64)) ∧ b' < h'.next ∧ (∀ h0, Ext h0 h → h0.next ≤ b → Ext h0 h' ∧ h0.next ≤ b') := by
  rcases hr with ⟨hr, _⟩ | ⟨rfl, rfl, rfl, rfl⟩
  · exact append_new T52 T52.und ho hb hr.cells (ints_ok _ _) hbig
  · obtain ⟨by_, hby, hby2⟩ := T52.bytes
    obtain ⟨z, hz, hz2⟩ := T52.zero
    have hnews : newsA Try.prog h 3 1 false (.slice (some ⟨0, 0, some 0⟩) 0 0) = some (0, []) := by
      unfold newsA AHeap.readG
      rfl
    obtain ⟨h', hw, ho', hw2⟩ := ho.write (o := 0) (vs := []) (by simp)
    have hwg : h.writeG (aadd ⟨b, 0, none⟩ (0 * 1)) [] = some h' := by
      unfold AHeap.writeG aadd
      simp only [List.all_nil, cond_true, Nat.zero_mul, Nat.add_zero]
      exact hw
    unfold appendH
    simp only [T52.und, T52.size, hby, hz, isIntDesc, hnews]
    have e1 : capLow 0 = 0 := rfl
    rw [e1, ble_true (show 0 + 0 ≤ 0 by omega)]
    simp only [cond_true, hwg]
    exact ⟨b, 0, h', rfl, by simpa using ho', by rw [hw2.next]; exact hb, fun h0 e0 hb0 => ⟨hw2.ext e0 hb0, hb0⟩⟩

theorem row_copy {h : AHeap} {rb rn rc : Nat} {z : List Int} (ho : Own h rb 1 (z.map (.int .i64))) (hz : z.length = rn) {ra : Option Addr} {cc : Nat} {r : List Int} (hr : Ints h .i64 ra rn r) (hne : ra ≠ none) :
    ∃ h', copyH Try.prog h [52, 52] [.slice (some ⟨rb, 0, none⟩) rn rc, .slice ra rn cc] = some (.int .i64 rn, h') ∧ Own h' rb 1 (r.map (.int .i64)) ∧ Wrote h h' rb := by
  have hl := hr.len
  cases ra with
  | none => exact absurd rfl hne
  | some ad =>
    obtain ⟨h1, h2, h3⟩ := hr.cells
    have hmm : Nat.min rn rn = rn := Nat.min_self rn
    have hm : Nat.min rn rn * 1 = rn * 1 := by rw [hmm]
    obtain ⟨h', w1, w2, w3⟩ := ho.write (o := 0) (vs := r.map (.int .i64)) (by simp; omega)
    refine ⟨h', ?_, ?_, w3⟩
    · unfold copyH
      simp only [T52.und, T52.size, hm, h3]
      unfold AHeap.writeG
      simp only [ints_ok, cond_true, w1, hmm]
    · have : (z.map (Value.int .i64)).drop (0 + (r.map (Value.int .i64)).length) = [] := List.drop_eq_nil_of_le (by simp; omega)
      rw [this] at w2
      simpa using w2

theorem take_row {g : Grid} {i : Int} (h0 : 0 ≤ i) (h1 : i < g.length) : g.take (i + 1).toNat = g.take i.toNat ++ [rowAt g i] := by
  have e : (i + 1).toNat = i.toNat + 1 := by omega
  rw [e, List.take_add_one, rowAt_eq h0 h1]
  rfl

theorem toNat_succ {i : Int} (h0 : 0 ≤ i) : (i + 1).toNat = i.toNat + 1 := by omega

variable {call : FuncId → List Value → AHeap → (Value → AHeap → Prop) → Prop}
  {head : FuncId → Nat → Nat → SS → (Exit → SS → Prop) → Prop}
  {arith : BinOp → IntKind → Int → Int → Int}
  {cmp : BinOp → Int → Int → Bool}
  {scmp : BinOp → ByteArray → ByteArray → Bool}
  {bnot : Bool → Bool}
  {bsame : Bool → Bool → Bool}
  {conv : IntKind → Int → Int}
  {neg : IntKind → Int → Int}
  {imax : Int → Int → Int}
  {imin : Int → Int → Int}
  {ofNat : Nat → Int}
  {slen : ByteArray → Int}
  {place : Nat → Int → Nat → Nat}
  {inR : Int → Nat → Prop}
  {nz : Int → Prop}
  {geZ : Int → Prop}
  {rd : AHeap → Nat → Nat → Nat → List Value → Prop}
  {wr : AHeap → Nat → Nat → List Value → AHeap → Prop}
  {push : AHeap → Nat → List Value → AHeap}
  {next : AHeap → Nat}
  {mkOK : Int → Int → Prop}
  {nat : Int → Nat}
  {zeros : List Value → Int → List Value}
  {sadd : ByteArray → ByteArray → (ByteArray → Prop) → Prop}
  {eqAgg : TypeId → Array Value → Array Value → (Bool → Prop) → Prop}
  {cut : Nat → Int → Prop}
  {slc : TypeId → Value → Option Value → Option Value → Option Value → (Option Addr → Nat → Nat → Prop) → Prop}
  {sslc : TypeId → ByteArray → Option Value → Option Value → (ByteArray → Prop) → Prop}
  {strAt : ByteArray → Int → (Int → Prop) → Prop}
  {part : TypeId → Array Value → Nat → Value → Prop}
  {app : List TypeId → List Value → AHeap → (Option Addr → Nat → Nat → AHeap → Prop) → Prop}
  {cpy : List TypeId → List Value → AHeap → (Int → AHeap → Prop) → Prop}
  {putAt : AHeap → Nat → Nat → List Value → AHeap}
  {fresh : AHeap → AHeap}
  {lowered : AHeap → AHeap → AHeap}
  {bump : AHeap → Nat → AHeap}
  {wrote : AHeap → AHeap → Bool}
  {addN : Nat → Nat → Nat}
  {lt : Nat → Nat → Prop}
  {ne : Nat → Nat → Prop}
  {fpAll : Bool → Bool → Bool → Nat → Nat → Prop}
  {brk : (Unit → Prop) → Prop}
  {yn : Nat → Nat}
  {rng : FuncId → Nat → SS → (Exit → SS → Prop) → Prop}
  {mget : TypeId → Value → Value → AHeap → Value → Bool → Prop}
  {mput : TypeId → Value → Value → Value → AHeap → AHeap → Prop}
  {mnew : AHeap → AHeap}
  {bytes : TypeId → TypeId → Option Addr → Nat → AHeap → ByteArray → Prop}
  {clr : List TypeId → List Value → AHeap → AHeap → Prop}
  (hA : AOK progU hint prims ⟨call, head, arith, cmp, scmp, bnot, bsame, conv, neg, imax, imin, ofNat, slen, place, inR, nz, geZ, rd, wr, push, next, mkOK, nat, zeros, sadd, eqAgg, cut, slc, sslc, strAt, part, app, cpy, putAt, fresh, lowered, bump, wrote, addN, lt, ne, fpAll, brk, yn, rng, mget, mput, mnew, bytes, clr⟩)
include hA

theorem app_ok {ts : List TypeId} {l : List Value} {h : AHeap} {C : Option Addr → Nat → Nat → AHeap → Prop} {a : Option Addr} {n c : Nat} {h' : AHeap} (h1 : appendH Try.prog h ts l = some (.slice a n c, h')) (h2 : C a n c h') : app ts l h C := by
  rw [e_app hA]; exact ⟨a, n, c, h', h1, h2⟩
theorem cpy_ok {ts : List TypeId} {l : List Value} {h : AHeap} {C : Int → AHeap → Prop} {n : Int} {h' : AHeap} (h1 : copyH Try.prog h ts l = some (.int .i64 n, h')) (h2 : C n h') : cpy ts l h C := by
  rw [e_cpy hA]; exact ⟨n, h', h1, h2⟩

theorem twin_loop {h0 : AHeap} (hlow0 : h0.low ≤ h0.next) {a : Option Addr} {m c : Nat} {g : Grid} (hg : Img h0 a m g) (hm : (m : Int) ≤ 1000) (hrows : ∀ y : Int, 0 ≤ y → y < m → ((rowAt g y).length : Int) ≤ 1000) {Q : Exit → SS → Prop}
    (hQ : ∀ a' c' bs h', Ext h0 h' → OImg h' h0.next a' m bs g → Q (.exit 0) ⟨[(3, .slice a' m c')], 0, [], h'⟩) :
    ∀ i : Int, 0 ≤ i → i ≤ m → ∀ h a3 c3 bs, Ext h0 h → BImg h h0.next a3 i.toNat c3 bs (g.take i.toNat) → head 11 3 0 ⟨[(0, .slice a m c), (3, .slice a3 i.toNat c3), (4, .int .i64 i)], 0, [], h⟩ Q := by
  have hl := hg.len
  refine countUp (fun i hi0 him ih h a3 c3 bs e hb => ?_)
  obtain ⟨k, hk⟩ : ∃ k, k = i.toNat := ⟨_, rfl⟩
  rw [← hk] at hb ⊢
  refine hA.roundR Try.func11 r11_ok ?_; (try (conv => cbv)); repeat (refine brk_ok hA ?_; (try (conv => cbv)))
  refine br (i < m) (by rw [e_lss hA, e_ofNat hA]) (fun c1 => ?_) (fun c1 => ?_) <;> (try (conv => cbv)) <;> repeat (refine brk_ok hA ?_; (try (conv => cbv)))
  · rw [e_push hA, e_next hA]
    obtain ⟨h1, hh1⟩ : ∃ x, x = h.push 1 [] := ⟨_, rfl⟩
    obtain ⟨b0, hb0⟩ : ∃ x, x = h.next := ⟨_, rfl⟩
    have e1 : Ext h h1 := by rw [hh1]; exact .push _ _ _
    have ho1 : Own h1 b0 1 [] := by rw [hh1, hb0]; exact Own.push _ _ _
    have hb1 : b0 < h1.next := by rw [hh1, hb0]; simp [AHeap.push]
    rw [← hh1, ← hb0]
    obtain ⟨b, o, ra, rn, rc, rfl, hbn, hrd, hrow, hrl⟩ := (hg.ext (e.trans e1)).row hi0 c1
    refine ⟨b, o, rfl, in_ok hA hi0 c1, ?_⟩
    ((try (conv => cbv)); repeat (refine brk_ok hA ?_; (try (conv => cbv))))
    refine ⟨ra, rn, rc, rd_ok hA hrd, ?_⟩
    ((try (conv => cbv)); repeat (refine brk_ok hA ?_; (try (conv => cbv))))
    have hr1 := hrows i hi0 c1
    obtain ⟨rb, rc2, h2, q1, q2, q3, q4⟩ := row_append ho1 hb1 hrow (by omega)
    refine app_ok hA q1 ?_
    ((try (conv => cbv)); repeat (refine brk_ok hA ?_; (try (conv => cbv))))
    rw [e_push hA, e_next hA]
    obtain ⟨e2, hrb⟩ := q4 h e1 (by omega)
    obtain ⟨a4, c4, h3, r1, r2, r3, r4⟩ := hb.add e.next e2 (rc := rc2) hrb q2 q3 (by have := hrow.len; exact this) (by omega)
    refine app_ok hA r1 ?_
    ((try (conv => cbv)); repeat (refine brk_ok hA ?_; (try (conv => cbv))))
    rw [add64 hA (by omega) (by omega)]
    rw [hk, ← take_row hi0 (by omega), ← toNat_succ hi0] at r2
    have := ih c1 h3 a4 c4 _ (r4 h0 e (by omega)) r2
    rw [toNat_succ hi0, ← hk] at this
    exact this
  · have : i = m := by omega
    subst this
    rw [Int.toNat_natCast] at hk
    subst hk
    rw [← hl, List.take_length, hl] at hb
    exact hQ a3 c3 bs h e hb.img

theorem twin_ok {h : AHeap} (hlow : h.low ≤ h.next) {a : Option Addr} {m c : Nat} {g : Grid} (hg : Img h a m g) (hm : (m : Int) ≤ 1000) (hrows : ∀ y : Int, 0 ≤ y → y < m → ((rowAt g y).length : Int) ≤ 1000) {Q : Value → AHeap → Prop}
    (hQ : ∀ a' c' bs h', Ext h h' → OImg h' h.next a' m bs g → Q (.slice a' m c') h') : call 11 [.slice a m c] h Q := by
  refine hA.bodyR Try.func11 r11_ok (show prims _ _ _ = none from rfl) hlow ?_; (try (conv => cbv)); repeat (refine brk_ok hA ?_; (try (conv => cbv)))
  refine twin_loop hA hlow hg hm hrows (fun a' c' bs h' e ho => ?_) 0 (by omega) (by omega) h none 0 [] (.refl _) (by simpa using BImg.nil h h.next)
  ((try (conv => cbv)); repeat (refine brk_ok hA ?_; (try (conv => cbv))))
  exact hQ a' c' bs h' e ho

theorem blank_loop {h0 : AHeap} (hlow0 : h0.low ≤ h0.next) {n : Int} (hn0 : 0 ≤ n) (hn : n ≤ 1000) {Q : Exit → SS → Prop}
    (hQ : ∀ a' c' bs h', Ext h0 h' → OImg h' h0.next a' n.toNat bs (mkG n fun _ _ => 0) → Q (.exit 0) ⟨[(3, .slice a' n.toNat c')], 0, [], h'⟩) :
    ∀ i : Int, 0 ≤ i → i ≤ n.toNat → ∀ h a3 c3 bs, Ext h0 h → BImg h h0.next a3 i.toNat c3 bs ((mkG n fun _ _ => 0).take i.toNat) → head 44 3 0 ⟨[(0, .int .i64 n), (3, .slice a3 i.toNat c3), (4, .int .i64 i)], 0, [], h⟩ Q := by
  have hs : shp (mkG n fun _ _ => 0) n := mkG_shp hn0 _
  have hsl := hs.1
  refine countUp (fun i hi0 him ih h a3 c3 bs e hb => ?_)
  obtain ⟨k, hk⟩ : ∃ k, k = i.toNat := ⟨_, rfl⟩
  rw [← hk] at hb ⊢
  refine hA.roundR Try.func44 r44_ok ?_; (try (conv => cbv)); repeat (refine brk_ok hA ?_; (try (conv => cbv)))
  refine br (i < n) (by rw [e_lss hA]) (fun c1 => ?_) (fun c1 => ?_) <;> (try (conv => cbv)) <;> repeat (refine brk_ok hA ?_; (try (conv => cbv)))
  · refine ⟨mk_ok hA hn0 (Int.le_refl _) (by omega), ?_⟩
    ((try (conv => cbv)); repeat (refine brk_ok hA ?_; (try (conv => cbv))))
    obtain ⟨h1, hh1⟩ : ∃ x, x = h.push 1 ((List.replicate n.toNat (0 : Int)).map (.int .i64)) := ⟨_, rfl⟩
    obtain ⟨b0, hb0⟩ : ∃ x, x = h.next := ⟨_, rfl⟩
    obtain ⟨nn, hnn⟩ : ∃ x, x = nat n := ⟨_, rfl⟩
    have e1 : Ext h h1 := by rw [hh1]; exact .push _ _ _
    have hrw : rowAt (mkG n fun _ _ => 0) i = List.replicate n.toNat 0 := by
      rw [mkG_row n _ hi0 c1]
      apply List.ext_getElem?
      intro j
      by_cases hj : j < n.toNat
      · simp [hj]
      · rw [List.getElem?_eq_none (by simp; omega), List.getElem?_eq_none (by simp; omega)]
    have ho1 : Own h1 b0 1 ((rowAt (mkG n fun _ _ => 0) i).map (.int .i64)) := by rw [hh1, hb0, hrw]; exact Own.push _ _ _
    have hb1 : b0 < h1.next := by rw [hh1, hb0]; simp [AHeap.push]
    have p1 : push h 1 (zeros [.int .i64 0] n) = h1 := by rw [hh1, e_push hA, e_zeros hA, copies_ints]
    have p2 : next h = b0 := by rw [hb0, e_next hA]
    rw [p1, p2, ← hnn, e_next hA, e_push hA]
    obtain ⟨a4, c4, h3, r1, r2, r3, r4⟩ := hb.add e.next e1 (rn := nn) (rc := nn) (by omega) ho1 hb1 (by rw [hrw, hnn, e_nat hA]; simp) (by omega)
    refine app_ok hA r1 ?_
    ((try (conv => cbv)); repeat (refine brk_ok hA ?_; (try (conv => cbv))))
    rw [add64 hA (by omega) (by omega)]
    rw [hk, ← take_row hi0 (by omega), ← toNat_succ hi0] at r2
    have := ih (by omega) h3 a4 c4 _ (r4 h0 e (by omega)) r2
    rw [toNat_succ hi0, ← hk] at this
    exact this
  · have : i = n := by omega
    subst this
    rw [List.take_of_length_le (by omega)] at hb
    rw [hk] at hb ⊢
    exact hQ a3 c3 bs h e hb.img

theorem blank_ok {h : AHeap} (hlow : h.low ≤ h.next) {n : Int} (hn0 : 0 ≤ n) (hn : n ≤ 1000) {Q : Value → AHeap → Prop}
    (hQ : ∀ a' (m : Nat) c' bs h', (m : Int) = n → Ext h h' → OImg h' h.next a' m bs (mkG n fun _ _ => 0) → Q (.slice a' m c') h') : call 44 [.int .i64 n] h Q := by
  refine hA.bodyR Try.func44 r44_ok (show prims _ _ _ = none from rfl) hlow ?_; (try (conv => cbv)); repeat (refine brk_ok hA ?_; (try (conv => cbv)))
  refine blank_loop hA hlow hn0 hn (fun a' c' bs h' e ho => ?_) 0 (by omega) (by omega) h none 0 [] (.refl _) (by simpa using BImg.nil h h.next)
  obtain ⟨m, hm⟩ : ∃ x, x = n.toNat := ⟨_, rfl⟩
  rw [← hm] at ho ⊢
  ((try (conv => cbv)); repeat (refine brk_ok hA ?_; (try (conv => cbv))))
  exact hQ a' m c' bs h' (by omega) e ho

end Go.Proofs.Ytogofeppflindaa
