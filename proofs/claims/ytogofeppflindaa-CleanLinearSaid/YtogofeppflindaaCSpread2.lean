/-
  Spread, of the program.
-/
import Derived.Test.YtogofeppflindaaCSpread
namespace Go.Proofs.Ytogofeppflindaa
open Go.Sim
set_option linter.unusedVariables false
set_option maxRecDepth 100000

variable {call : FuncId → List Value → AHeap → (Value → AHeap → Prop) → Prop}
  {head : FuncId → Nat → Nat → SS → (Exit → SS → Prop) → Prop}
  {arith : BinOp → IntKind → Int → Int → Int}
  {cmp : BinOp → Int → Int → Bool}
  {scmp : BinOp → ByteArray → ByteArray → Bool}
  {bnot : Bool → Bool}
  {bsame : Bool → Bool → Bool}
  {conv : IntKind → Int → Int}
  {neg : IntKind → Int → Int}
  {imax : Int → Int → Int}
  {imin : Int → Int → Int}
  {ofNat : Nat → Int}
  {slen : ByteArray → Int}
  {place : Nat → Int → Nat → Nat}
  {inR : Int → Nat → Prop}
  {nz : Int → Prop}
  {geZ : Int → Prop}
  {rd : AHeap → Nat → Nat → Nat → List Value → Prop}
  {wr : AHeap → Nat → Nat → List Value → AHeap → Prop}
  {push : AHeap → Nat → List Value → AHeap}
  {next : AHeap → Nat}
  {mkOK : Int → Int → Prop}
  {nat : Int → Nat}
  {zeros : List Value → Int → List Value}
  {sadd : ByteArray → ByteArray → (ByteArray → Prop) → Prop}
  {eqAgg : TypeId → Array Value → Array Value → (Bool → Prop) → Prop}
  {cut : Nat → Int → Prop}
  {slc : TypeId → Value → Option Value → Option Value → Option Value → (Option Addr → Nat → Nat → Prop) → Prop}
  {sslc : TypeId → ByteArray → Option Value → Option Value → (ByteArray → Prop) → Prop}
  {strAt : ByteArray → Int → (Int → Prop) → Prop}
  {part : TypeId → Array Value → Nat → Value → Prop}
  {app : List TypeId → List Value → AHeap → (Option Addr → Nat → Nat → AHeap → Prop) → Prop}
  {cpy : List TypeId → List Value → AHeap → (Int → AHeap → Prop) → Prop}
  {putAt : AHeap → Nat → Nat → List Value → AHeap}
  {fresh : AHeap → AHeap}
  {lowered : AHeap → AHeap → AHeap}
  {bump : AHeap → Nat → AHeap}
  {wrote : AHeap → AHeap → Bool}
  {addN : Nat → Nat → Nat}
  {lt : Nat → Nat → Prop}
  {ne : Nat → Nat → Prop}
  {fpAll : Bool → Bool → Bool → Nat → Nat → Prop}
  {brk : (Unit → Prop) → Prop}
  {yn : Nat → Nat}
  {rng : FuncId → Nat → SS → (Exit → SS → Prop) → Prop}
  {mget : TypeId → Value → Value → AHeap → Value → Bool → Prop}
  {mput : TypeId → Value → Value → Value → AHeap → AHeap → Prop}
  {mnew : AHeap → AHeap}
  {bytes : TypeId → TypeId → Option Addr → Nat → AHeap → ByteArray → Prop}
  {clr : List TypeId → List Value → AHeap → AHeap → Prop}
  (hA : AOK progU hint prims ⟨call, head, arith, cmp, scmp, bnot, bsame, conv, neg, imax, imin, ofNat, slen, place, inR, nz, geZ, rd, wr, push, next, mkOK, nat, zeros, sadd, eqAgg, cut, slc, sslc, strAt, part, app, cpy, putAt, fresh, lowered, bump, wrote, addN, lt, ne, fpAll, brk, yn, rng, mget, mput, mnew, bytes, clr⟩)
include hA

theorem spr_inner {h0 : AHeap} (hlow0 : h0.low ≤ h0.next) {ag : Option Addr} {m cg : Nat} {g : Grid} (hg : Img h0 ag m g) {ab : Option Addr} {mb cb : Nat} {bm : Grid} (hb : Img h0 ab mb bm) {n : Int} (hmn : (m : Int) = n) (k : SprOK g bm n) {b2 b3 e2 e3 : Nat} (o2 : Own h0 b2 e2 [.slice ab mb cb]) (hb2 : b2 < h0.next) (o3 : Own h0 b3 e3 [.int .i64 n]) (hb3 : b3 < h0.next)
    {y x : Int} (y0 : 0 ≤ y) (y1 : y < n) (x0 : 0 ≤ x) (x1 : x < n) {v : Int} (v0 : 0 ≤ v) (v1 : v < n) {ra : Option Addr} {rn rc : Nat} (hrow : Row h0 ra rn rc (rowAt g v)) {Q : Exit → SS → Prop}
    (h1 : ∀ h', Ext h0 h' → Q (.exit 2) ⟨[(0, .int .i64 x), (1, .int .i64 y), (3, .pointer (some ⟨b2, 0, none⟩)), (4, .pointer (some ⟨b3, 0, none⟩)), (8, .int .i64 (accS g bm n v n y x)), (13, .slice ag m cg), (14, .int .i64 (ofNat m)), (15, .int .i64 v)], 0, [], h'⟩) :
    ∀ u : Int, 0 ≤ u → u ≤ rn → ∀ h s, Ext h0 h → s = accS g bm n v u y x → head 45 6 0 ⟨[(0, .int .i64 x), (1, .int .i64 y), (3, .pointer (some ⟨b2, 0, none⟩)), (4, .pointer (some ⟨b3, 0, none⟩)), (8, .int .i64 s), (9, .int .i64 v), (13, .slice ag m cg), (14, .int .i64 (ofNat m)), (15, .int .i64 v), (20, .slice ra rn rc), (21, .int .i64 (ofNat rn)), (22, .int .i64 u)], 0, [], h⟩ Q := by
  have n1 := k.n1
  have n8 := k.n8
  have hrl := hrow.len
  have hrl2 := (k.gs.2 v v0 v1).1
  have hbl := hb.len
  have hbs := k.bs.1
  refine countUp (fun u u0 hun ih h s e hs => ?_)
  refine hA.roundR Try.func45 r45_ok ?_; (try (conv => cbv)); repeat (refine brk_ok hA ?_; (try (conv => cbv)))
  refine br (u < rn) (by rw [e_lss hA, e_ofNat hA]) (fun c1 => ?_) (fun c1 => ?_) <;> (try (conv => cbv)) <;> repeat (refine brk_ok hA ?_; (try (conv => cbv)))
  · obtain ⟨b, o, z, rfl, hbn, hz, hrd⟩ := (hrow.ext e).at u0 c1
    refine ⟨b, o, rfl, in_ok hA u0 c1, ?_⟩
    ((try (conv => cbv)); repeat (refine brk_ok hA ?_; (try (conv => cbv))))
    refine ⟨z, rd_ok hA hrd, ?_⟩
    ((try (conv => cbv)); repeat (refine brk_ok hA ?_; (try (conv => cbv))))
    obtain ⟨h9, hh9⟩ : ∃ z, z = bump h 22 := ⟨_, rfl⟩
    have e9 : Ext h0 h9 := by rw [hh9, e_bump hA]; exact e.trans (.bump _ _)
    rw [← hh9]
    have r2 : h9.readG ⟨b2, 0, none⟩ 1 = some [.slice ab mb cb] := (o2.ext e9 hb2).readG (by simp)
    have r3 : h9.readG ⟨b3, 0, none⟩ 1 = some [.int .i64 n] := (o3.ext e9 hb3).readG (by simp)
    refine ⟨ab, mb, cb, rd_at hA r2, ?_⟩
    ((try (conv => cbv)); repeat (refine brk_ok hA ?_; (try (conv => cbv))))
    refine ⟨n, rd_at hA r3, ?_⟩
    ((try (conv => cbv)); repeat (refine brk_ok hA ?_; (try (conv => cbv))))
    have a1 : arith .sub .i64 y v = y - v := sub64 hA (by omega) (by omega)
    have a2 : arith .add .i64 (y - v) n = y - v + n := add64 hA (by omega) (by omega)
    have a3 : arith .sub .i64 (y - v + n) 1 = y - v + n - 1 := sub64 hA (by omega) (by omega)
    rw [a1, a2, a3]
    obtain ⟨b4, o4, ra2, rn2, rc2, rfl, hb4n, hrd4, hrow4, hrl4⟩ := (hb.ext e9).row (i := y - v + n - 1) (by omega) (by omega)
    refine ⟨b4, o4, rfl, in_ok hA (by omega) (by omega), ?_⟩
    ((try (conv => cbv)); repeat (refine brk_ok hA ?_; (try (conv => cbv))))
    refine ⟨ra2, rn2, rc2, rd_ok hA hrd4, ?_⟩
    ((try (conv => cbv)); repeat (refine brk_ok hA ?_; (try (conv => cbv))))
    refine ⟨n, rd_at hA r3, ?_⟩
    ((try (conv => cbv)); repeat (refine brk_ok hA ?_; (try (conv => cbv))))
    have b1 : arith .sub .i64 x u = x - u := sub64 hA (by omega) (by omega)
    have b2' : arith .add .i64 (x - u) n = x - u + n := add64 hA (by omega) (by omega)
    have b3' : arith .sub .i64 (x - u + n) 1 = x - u + n - 1 := sub64 hA (by omega) (by omega)
    rw [b1, b2', b3']
    have hl4 := (k.bs.2 (y - v + n - 1) (by omega) (by omega)).1
    obtain ⟨b5, o5, z5, rfl, hb5n, hz5, hrd5⟩ := hrow4.at (i := x - u + n - 1) (by omega) (by omega)
    refine ⟨b5, o5, rfl, in_ok hA (by omega) (by omega), ?_⟩
    ((try (conv => cbv)); repeat (refine brk_ok hA ?_; (try (conv => cbv))))
    refine ⟨z5, rd_ok hA hrd5, ?_⟩
    ((try (conv => cbv)); repeat (refine brk_ok hA ?_; (try (conv => cbv))))
    have ht := k.term y0 y1 x0 x1 v0 v1 u0 (by omega)
    have ha := k.acc y0 y1 x0 x1 v0 v1 u0 (by omega)
    have hzz : z * z5 = term g bm n y x v u := by rw [hz, hz5]; rfl
    rw [← hzz] at ht
    rw [← hs] at ha
    unfold within at ht ha
    have c1' : arith .mul .i64 z z5 = z * z5 := mul64 hA (by omega) (by omega)
    have c2' : arith .add .i64 s (z * z5) = s + z * z5 := add64 hA (by omega) (by omega)
    obtain ⟨d, hd⟩ : ∃ d, d = s + z * z5 := ⟨_, rfl⟩
    rw [c1', c2', ← hd]
    have hnx : d = accS g bm n v (u + 1) y x := by rw [acc_next u0, hd, hs, hzz]
    ((try (conv => cbv)); repeat (refine brk_ok hA ?_; (try (conv => cbv))))
    rw [add64 hA (by omega) (by omega)]
    exact ih (by omega) h9 d e9 hnx
  · have : u = n := by omega
    subst this
    rw [hs]
    exact h1 h e

theorem spr_outer {h0 : AHeap} (hlow0 : h0.low ≤ h0.next) {ag : Option Addr} {m cg : Nat} {g : Grid} (hg : Img h0 ag m g) {ab : Option Addr} {mb cb : Nat} {bm : Grid} (hb : Img h0 ab mb bm) {n : Int} (hmn : (m : Int) = n) (k : SprOK g bm n) {b2 b3 e2 e3 : Nat} (o2 : Own h0 b2 e2 [.slice ab mb cb]) (hb2 : b2 < h0.next) (o3 : Own h0 b3 e3 [.int .i64 n]) (hb3 : b3 < h0.next)
    {y x : Int} (y0 : 0 ≤ y) (y1 : y < n) (x0 : 0 ≤ x) (x1 : x < n) {Q : Exit → SS → Prop}
    (h1 : ∀ h', Ext h0 h' → Q (.exit 0) ⟨[(8, .int .i64 (convS g bm n y x))], 0, [], h'⟩) :
    ∀ v : Int, 0 ≤ v → v ≤ m → ∀ h s, Ext h0 h → s = accS g bm n v 0 y x → head 45 3 0 ⟨[(0, .int .i64 x), (1, .int .i64 y), (3, .pointer (some ⟨b2, 0, none⟩)), (4, .pointer (some ⟨b3, 0, none⟩)), (8, .int .i64 s), (13, .slice ag m cg), (14, .int .i64 (ofNat m)), (15, .int .i64 v)], 0, [], h⟩ Q := by
  have n1 := k.n1
  have n8 := k.n8
  refine countUp (fun v v0 hvn ih h s e hs => ?_)
  refine hA.roundR Try.func45 r45_ok ?_; (try (conv => cbv)); repeat (refine brk_ok hA ?_; (try (conv => cbv)))
  refine br (v < m) (by rw [e_lss hA, e_ofNat hA]) (fun c1 => ?_) (fun c1 => ?_) <;> (try (conv => cbv)) <;> repeat (refine brk_ok hA ?_; (try (conv => cbv)))
  · obtain ⟨b, o, ra, rn, rc, rfl, hbn, hrd, hrow, hrl⟩ := hg.row v0 c1
    have hrd' := ((hg.ext e).row v0 c1)
    obtain ⟨b', o', ra', rn', rc', hq, hbn', hrd', hrow', hrl'⟩ := hrd'
    cases hq
    refine ⟨b, o, rfl, in_ok hA v0 c1, ?_⟩
    ((try (conv => cbv)); repeat (refine brk_ok hA ?_; (try (conv => cbv))))
    refine ⟨ra', rn', rc', rd_ok hA hrd', ?_⟩
    ((try (conv => cbv)); repeat (refine brk_ok hA ?_; (try (conv => cbv))))
    refine spr_inner hA (h0 := h) (e.lowOK hlow0) (hg.ext e) (hb.ext e) hmn k (o2.ext e hb2) (by have := e.next; omega) (o3.ext e hb3) (by have := e.next; omega) y0 y1 x0 x1 v0 (by omega) hrow' (fun h' e' => ?_) 0 (by omega) (by omega) h s (.refl _) hs
    obtain ⟨d, hd⟩ : ∃ d, d = accS g bm n v n y x := ⟨_, rfl⟩
    rw [← hd]
    ((try (conv => cbv)); repeat (refine brk_ok hA ?_; (try (conv => cbv))))
    rw [add64 hA (by omega) (by omega)]
    exact ih (by omega) h' d (e.trans e') (by rw [hd, acc_line v0])
  · have : v = n := by omega
    subst this
    rw [hs]
    exact h1 h e

theorem spr1_ok {h0 : AHeap} (hlow0 : h0.low ≤ h0.next) {ag : Option Addr} {m cg : Nat} {g : Grid} (hg : Img h0 ag m g) {ab : Option Addr} {mb cb : Nat} {bm : Grid} (hb : Img h0 ab mb bm) {n : Int} (hmn : (m : Int) = n) (k : SprOK g bm n) {b1 b2 b3 e1 e2 e3 : Nat} (o1 : Own h0 b1 e1 [.slice ag m cg]) (hb1 : b1 < h0.next) (o2 : Own h0 b2 e2 [.slice ab mb cb]) (hb2 : b2 < h0.next) (o3 : Own h0 b3 e3 [.int .i64 n]) (hb3 : b3 < h0.next) :
    Gives call h0 45 [.pointer (some ⟨b1, 0, none⟩), .pointer (some ⟨b2, 0, none⟩), .pointer (some ⟨b3, 0, none⟩)] n (convS g bm n) := by
  intro x y h Q x0 x1 y0 y1 e hQ
  have hlow := e.lowOK hlow0
  have r1 : h.readG ⟨b1, 0, none⟩ 1 = some [.slice ag m cg] := (o1.ext e hb1).readG (by simp)
  have hn := e.next
  refine hA.bodyR Try.func45 r45_ok (show prims _ _ _ = none from rfl) hlow ?_; (try (conv => cbv)); repeat (refine brk_ok hA ?_; (try (conv => cbv)))
  refine ⟨ag, m, cg, rd_at hA r1, ?_⟩
  ((try (conv => cbv)); repeat (refine brk_ok hA ?_; (try (conv => cbv))))
  refine spr_outer hA (h0 := h) hlow (hg.ext e) (hb.ext e) hmn k (o2.ext e hb2) (by omega) (o3.ext e hb3) (by omega) y0 y1 x0 x1 (fun h' e' => ?_) 0 (by omega) (by omega) h 0 (.refl _) rfl
  obtain ⟨d, hd⟩ : ∃ d, d = convS g bm n y x := ⟨_, rfl⟩
  have hq := hQ h' e'
  rw [← hd] at hq ⊢
  ((try (conv => cbv)); repeat (refine brk_ok hA ?_; (try (conv => cbv))))
  exact hq

theorem spr_ok {h : AHeap} (hlow : h.low ≤ h.next) {a : Option Addr} {m c : Nat} {img : Grid} (hg : Img h a m img) {ab : Option Addr} {mb cb : Nat} {bm : Grid} (hb : Img h ab mb bm) {Q : Value → AHeap → Prop}
    (hbad : ∀ e h', Ext h h' → SprIs img bm e none → Q (.tuple #[.slice none 0 0, .int .i64 e]) h')
    (hok : ∀ g' a' c' bs h', Ext h h' → OImg h' h.next a' m bs g' → SprIs img bm 0 (some g') → Q (.tuple #[.slice a' m c', .int .i64 0]) h') : call 24 [.slice a m c, .slice ab mb cb] h Q := by
  have hgl := hg.len
  obtain ⟨h1, hh1⟩ : ∃ z, z = h.push 1 [.slice a m c] := ⟨_, rfl⟩
  obtain ⟨h2, hh2⟩ : ∃ z, z = h1.push 1 [.slice ab mb cb] := ⟨_, rfl⟩
  obtain ⟨b1, hb1⟩ : ∃ z, z = h.next := ⟨_, rfl⟩
  obtain ⟨b2, hb2⟩ : ∃ z, z = h1.next := ⟨_, rfl⟩
  have q1 : push h 1 [.slice a m c] = h1 := by rw [e_push hA, hh1]
  have q2 : push h1 1 [.slice ab mb cb] = h2 := by rw [e_push hA, hh2]
  have q3 : next h = b1 := by rw [e_next hA, hb1]
  have q4 : next h1 = b2 := by rw [e_next hA, hb2]
  have x1 : Ext h h1 := by rw [hh1]; exact .push _ _ _
  have x2 : Ext h1 h2 := by rw [hh2]; exact .push _ _ _
  have l1 : b1 < h1.next := by rw [hh1, hb1]; exact Nat.lt_succ_self _
  have l2 : b2 < h2.next := by rw [hh2, hb2]; exact Nat.lt_succ_self _
  have l3 := x2.next
  have o1 : Own h2 b1 1 [.slice a m c] := (show Own h1 b1 1 [.slice a m c] by rw [hh1, hb1]; exact Own.push _ _ _).ext x2 l1
  have o2 : Own h2 b2 1 [.slice ab mb cb] := by rw [hh2, hb2]; exact Own.push _ _ _
  have x3 := x1.trans x2
  have hlow2 := x3.lowOK hlow
  have r1 : h2.readG ⟨b1, 0, none⟩ 1 = some [.slice a m c] := o1.readG (by simp)
  have r2 : h2.readG ⟨b2, 0, none⟩ 1 = some [.slice ab mb cb] := o2.readG (by simp)
  refine hA.bodyR Try.func24 r24_ok (show prims _ _ _ = none from rfl) hlow ?_; (try (conv => cbv)); repeat (refine brk_ok hA ?_; (try (conv => cbv)))
  rw [q1, q2, q3, q4]
  refine ⟨a, m, c, rd_at hA r1, ?_⟩
  ((try (conv => cbv)); repeat (refine brk_ok hA ?_; (try (conv => cbv))))
  refine isImage_ok hA hlow2 (hg.ext x3) (by omega) (by omega) (fun r hr => ⟨_, rfl, ?_⟩)
  ((try (conv => cbv)); repeat (refine brk_ok hA ?_; (try (conv => cbv))))
  cases r with
  | false =>
    ((try (conv => cbv)); repeat (refine brk_ok hA ?_; (try (conv => cbv))))
    refine br (True) (by rw [e_bnot hA]; rfl) (fun _ => ?_) (fun q => absurd trivial q) <;> (try (conv => cbv)) <;> repeat (refine brk_ok hA ?_; (try (conv => cbv)))
    exact hbad _ h2 x3 (.inl ⟨(fun q => by have := hr.2 q; cases this), rfl, rfl⟩)
  | true =>
    have hi := hr.1 rfl
    have hi1 := hi.1
    have hi2 := hi.2.1
    obtain ⟨n, hn⟩ : ∃ n : Int, n = img.length := ⟨_, rfl⟩
    have hmo : ofNat m = n := by rw [e_ofNat hA]; omega
    ((try (conv => cbv)); repeat (refine brk_ok hA ?_; (try (conv => cbv))))
    refine br (False) (by rw [e_bnot hA]; rfl) (fun q => q.elim) (fun _ => ?_) <;> (try (conv => cbv)) <;> repeat (refine brk_ok hA ?_; (try (conv => cbv)))
    rw [← hn] at hi1 hi2
    refine ⟨a, m, c, rd_at hA r1, ?_⟩
    ((try (conv => cbv)); repeat (refine brk_ok hA ?_; (try (conv => cbv))))
    obtain ⟨h3, hh3⟩ : ∃ z, z = h2.push 1 [.int .i64 0] := ⟨_, rfl⟩
    obtain ⟨b3, hb3⟩ : ∃ z, z = h2.next := ⟨_, rfl⟩
    have q5 : push h2 1 [.int .i64 0] = h3 := by rw [e_push hA, hh3]
    have q6 : next h2 = b3 := by rw [e_next hA, hb3]
    have x4 : Ext h2 h3 := by rw [hh3]; exact .push _ _ _
    have l4 : b3 < h3.next := by rw [hh3, hb3]; exact Nat.lt_succ_self _
    have o3 : Own h3 b3 1 (([0] : List Int).map (.int .i64)) := by rw [hh3, hb3]; exact Own.push _ _ _
    obtain ⟨h4, w1, w2, w3⟩ := o3.setInt (i := 0) (by simp) n
    have w2' : Own h4 b3 1 [.int .i64 n] := w2
    have x5 : Ext h2 h4 := w3.ext x4 (by omega)
    have x6 := x3.trans x5
    have l5 : b3 < h4.next := by have := w3.next; omega
    have l6 := x5.next
    have hlow4 := x6.lowOK hlow
    rw [q5, q6, hmo]
    refine ⟨h4, wr_at hA w1, ?_⟩
    ((try (conv => cbv)); repeat (refine brk_ok hA ?_; (try (conv => cbv))))
    have o1' := o1.ext x5 (by omega)
    have o2' := o2.ext x5 (by omega)
    refine ⟨ab, mb, cb, rd_at hA (o2'.readG (by simp)), ?_⟩
    ((try (conv => cbv)); repeat (refine brk_ok hA ?_; (try (conv => cbv))))
    refine ⟨n, rd_at hA (w2'.readG (by simp)), ?_⟩
    ((try (conv => cbv)); repeat (refine brk_ok hA ?_; (try (conv => cbv))))
    refine isBeam_ok hA hlow4 (hb.ext x6) (n := n) (by omega) (by omega) (fun r2 hr2 => ⟨_, rfl, ?_⟩)
    ((try (conv => cbv)); repeat (refine brk_ok hA ?_; (try (conv => cbv))))
    cases r2 with
    | false =>
      ((try (conv => cbv)); repeat (refine brk_ok hA ?_; (try (conv => cbv))))
      refine br (True) (by rw [e_bnot hA]; rfl) (fun _ => ?_) (fun q => absurd trivial q) <;> (try (conv => cbv)) <;> repeat (refine brk_ok hA ?_; (try (conv => cbv)))
      exact hbad _ h4 x6 (.inr (.inl ⟨hi, (fun q => by rw [← hn] at q; have := hr2.2 q; cases this), rfl, rfl⟩))
    | true =>
      have hbe := hr2.1 rfl
      have hsq := hi.2.2
      rw [← hn] at hsq
      have hk : SprOK img bm n := ⟨hi1, hi2, hsq, hbe.1⟩
      have hmn : (m : Int) = n := by omega
      ((try (conv => cbv)); repeat (refine brk_ok hA ?_; (try (conv => cbv))))
      refine br (False) (by rw [e_bnot hA]; rfl) (fun q => q.elim) (fun _ => ?_) <;> (try (conv => cbv)) <;> repeat (refine brk_ok hA ?_; (try (conv => cbv)))
      refine ⟨n, rd_at hA (w2'.readG (by simp)), ?_⟩
      ((try (conv => cbv)); repeat (refine brk_ok hA ?_; (try (conv => cbv))))
      refine cells_ok hA hlow4 (n := n) (by omega) (by omega) (.inr rfl) (spr1_ok hA hlow4 (hg.ext x6) (hb.ext x6) hmn hk o1' (by omega) o2' (by omega) w2' l5) (fun a' m' c' bs h5 hmn' e5 ho5 hall => ⟨_, _, _, _, rfl, ?_⟩) (fun h5 e5 q => ⟨_, _, _, _, rfl, ?_⟩)
      · obtain rfl : m' = m := by omega
        ((try (conv => cbv)); repeat (refine brk_ok hA ?_; (try (conv => cbv))))
        exact hok _ _ _ bs h5 (x6.trans e5) (ho5.lower x6.next) (.inr (.inr (.inr ⟨hi, by rw [← hn]; exact hbe, by rw [← hn]; exact hall, rfl, by rw [← hn]⟩)))
      · ((try (conv => cbv)); repeat (refine brk_ok hA ?_; (try (conv => cbv))))
        exact hbad _ h5 (x6.trans e5) (.inr (.inr (.inl ⟨hi, by rw [← hn]; exact hbe, (fun r => by rw [← hn] at r; obtain ⟨y, x, q1, q2, q3, q4, q5⟩ := q; exact q5 (r y x q1 q2 q3 q4)), rfl, rfl⟩)))

end Go.Proofs.Ytogofeppflindaa
