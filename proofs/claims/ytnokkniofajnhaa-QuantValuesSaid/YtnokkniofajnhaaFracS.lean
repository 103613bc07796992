/-
  fringeref01: numbers of four digits.
-/
import Derived.Test.YtnokkniofajnhaaFracR
namespace Go.Proofs.Ytnokkniofajnhaa
open Go.Sim
set_option linter.unusedVariables false
set_option maxRecDepth 100000

/-- A number's digits. -/
structure Dig4 (N d0 d1 d2 d3 : Int) : Prop where
  eq : N = d0 + 4294967296 * d1 + 18446744073709551616 * d2 + 79228162514264337593543950336 * d3
  r0 : 0 ≤ d0 ∧ d0 < 4294967296
  r1 : 0 ≤ d1 ∧ d1 < 4294967296
  r2 : 0 ≤ d2 ∧ d2 < 4294967296
  r3 : 0 ≤ d3 ∧ d3 < 4294967296

variable {F : Prims}
  {call : FuncId → List Value → AHeap → (Value → AHeap → Prop) → Prop}
  {head : FuncId → Nat → Nat → SS → (Exit → SS → Prop) → Prop}
  {arith : BinOp → IntKind → Int → Int → Int}
  {cmp : BinOp → Int → Int → Bool}
  {scmp : BinOp → ByteArray → ByteArray → Bool}
  {bnot : Bool → Bool}
  {bsame : Bool → Bool → Bool}
  {conv : IntKind → Int → Int}
  {neg : IntKind → Int → Int}
  {imax : Int → Int → Int}
  {imin : Int → Int → Int}
  {ofNat : Nat → Int}
  {slen : ByteArray → Int}
  {place : Nat → Int → Nat → Nat}
  {inR : Int → Nat → Prop}
  {nz : Int → Prop}
  {geZ : Int → Prop}
  {rd : AHeap → Nat → Nat → Nat → List Value → Prop}
  {wr : AHeap → Nat → Nat → List Value → AHeap → Prop}
  {push : AHeap → Nat → List Value → AHeap}
  {next : AHeap → Nat}
  {mkOK : Int → Int → Prop}
  {nat : Int → Nat}
  {zeros : List Value → Int → List Value}
  {sadd : ByteArray → ByteArray → (ByteArray → Prop) → Prop}
  {eqAgg : TypeId → Array Value → Array Value → (Bool → Prop) → Prop}
  {cut : Nat → Int → Prop}
  {slc : TypeId → Value → Option Value → Option Value → Option Value → (Option Addr → Nat → Nat → Prop) → Prop}
  {sslc : TypeId → ByteArray → Option Value → Option Value → (ByteArray → Prop) → Prop}
  {strAt : ByteArray → Int → (Int → Prop) → Prop}
  {part : TypeId → Array Value → Nat → Value → Prop}
  {app : List TypeId → List Value → AHeap → (Option Addr → Nat → Nat → AHeap → Prop) → Prop}
  {cpy : List TypeId → List Value → AHeap → (Int → AHeap → Prop) → Prop}
  {putAt : AHeap → Nat → Nat → List Value → AHeap}
  {fresh : AHeap → AHeap}
  {lowered : AHeap → AHeap → AHeap}
  {bump : AHeap → Nat → AHeap}
  {wrote : AHeap → AHeap → Bool}
  {addN : Nat → Nat → Nat}
  {lt : Nat → Nat → Prop}
  {ne : Nat → Nat → Prop}
  {fpAll : Bool → Bool → Bool → Nat → Nat → Prop}
  {brk : (Unit → Prop) → Prop}
  {yn : Nat → Nat}
  {rng : FuncId → Nat → SS → (Exit → SS → Prop) → Prop}
  {mget : TypeId → Value → Value → AHeap → Value → Bool → Prop}
  {mput : TypeId → Value → Value → Value → AHeap → AHeap → Prop}
  {mnew : AHeap → AHeap}
  {bytes : TypeId → TypeId → Option Addr → Nat → AHeap → ByteArray → Prop}
  {clr : List TypeId → List Value → AHeap → AHeap → Prop}
  (hA : AP F ⟨call, head, arith, cmp, scmp, bnot, bsame, conv, neg, imax, imin, ofNat, slen, place, inR, nz, geZ, rd, wr, push, next, mkOK, nat, zeros, sadd, eqAgg, cut, slc, sslc, strAt, part, app, cpy, putAt, fresh, lowered, bump, wrote, addN, lt, ne, fpAll, brk, yn, rng, mget, mput, mnew, bytes, clr⟩)
include hA

theorem big_ok {h : AHeap} (hlow : h.low ≤ h.next) {n : Int} (hn : u64 n) {Q : Value → AHeap → Prop} (hQ : ∀ a b : Int, a = n % 4294967296 → b = n / 4294967296 → Q (.agg #[.int .u64 a, .int .u64 b, .int .u64 0, .int .u64 0]) h) : call 52 [.int .u64 n] h Q := by
  refine hA.bodyR Try.func52 r52_ok (hA.alike _ _ _ rfl) hlow ?_; (try (conv => cbv)); repeat (refine brk_ok hA ?_; (try (conv => cbv)))
  refine ⟨geZ_ok hA (by omega), ?_⟩
  ((try (conv => cbv)); repeat (refine brk_ok hA ?_; (try (conv => cbv))))
  refine hQ _ _ (mask32 hA hn.1 hn.2) (shr32 hA hn.1)

/-- Three numbers of four digits in memory. -/
structure Tri3 (h0 h : AHeap) (bx by_ bo : Nat) (X Y O : List Int) : Prop where
  ext : Ext h0 h
  ox : Own h bx 4 (X.map (.int .u64))
  oy : Own h by_ 4 (Y.map (.int .u64))
  oo : Own h bo 4 (O.map (.int .u64))
  lx : bx < h.next
  ly : by_ < h.next
  lo : h0.next ≤ bo ∧ bo < h.next
  nx : bx ≠ bo
  ny : by_ ≠ bo
  len : X.length = 4 ∧ Y.length = 4 ∧ O.length = 4
omit hA in
theorem Tri3.more {h0 h h' : AHeap} {bx by_ bo : Nat} {X Y O : List Int} (t : Tri3 h0 h bx by_ bo X Y O) (e : Ext h h') : Tri3 h0 h' bx by_ bo X Y O :=
  ⟨t.ext.trans e, t.ox.ext e t.lx, t.oy.ext e t.ly, t.oo.ext e t.lo.2, Nat.lt_of_lt_of_le t.lx e.next, Nat.lt_of_lt_of_le t.ly e.next, ⟨t.lo.1, Nat.lt_of_lt_of_le t.lo.2 e.next⟩, t.nx, t.ny, t.len⟩
omit hA in
theorem Tri3.put {h0 h : AHeap} {bx by_ bo : Nat} {X Y O : List Int} (t : Tri3 h0 h bx by_ bo X Y O) {i : Nat} (hi : i < 4) (v : Int) : ∃ h', h.write bo i [.int .u64 v] = some h' ∧ Tri3 h0 h' bx by_ bo X Y (O.set i v) := by
  obtain ⟨h', w1, w2, w3⟩ := t.oo.setInt (i := i) (by rw [t.len.2.2]; exact hi) v
  exact ⟨h', w1, w3.ext t.ext t.lo.1, w3.own t.ox t.nx, w3.own t.oy t.ny, w2, by rw [w3.next]; exact t.lx, by rw [w3.next]; exact t.ly, by rw [w3.next]; exact t.lo, t.nx, t.ny, by simpa using t.len⟩

theorem prod_step {h0 h : AHeap} {bx by_ bo : Nat} {X Y O : List Int} (t : Tri3 h0 h bx by_ bo X Y O) {i k c : Int} (i0 : 0 ≤ i) (i1 : i < 2) (k0 : 0 ≤ k) (k1 : k < 2) {K : List Value} {Q : Exit → SS → Prop}
    (hm : arith .mul .u64 (at' X i) (at' Y k) = at' X i * at' Y k) {w : Int} (hw : w = c + (at' O (i + k) + at' X i * at' Y k)) (hw0 : 0 ≤ c) (hw1 : 0 ≤ at' O (i + k) + at' X i * at' Y k) (hw2 : w < 18446744073709551616)
    (hQ : ∀ h', Tri3 h0 h' bx by_ bo X Y (O.set (i + k).toNat (w % 4294967296)) → head 77 8 1 ⟨[(4, .pointer (some ⟨0, 0, some 0⟩)), (5, .pointer (some ⟨bx, 0, none⟩)), (6, .pointer (some ⟨by_, 0, none⟩)), (7, .pointer (some ⟨bo, 0, none⟩)), (8, .int .i64 i), (9, .int .u64 (w / 4294967296)), (10, .int .i64 (k + 1))], 1, [(0, K)], h'⟩ Q) :
    head 77 8 1 ⟨[(4, .pointer (some ⟨0, 0, some 0⟩)), (5, .pointer (some ⟨bx, 0, none⟩)), (6, .pointer (some ⟨by_, 0, none⟩)), (7, .pointer (some ⟨bo, 0, none⟩)), (8, .int .i64 i), (9, .int .u64 c), (10, .int .i64 k)], 1, [(0, K)], h⟩ Q := by
  refine hA.roundR Try.func77 r77_ok ?_; (try (conv => cbv)); repeat (refine brk_ok hA ?_; (try (conv => cbv)))
  refine br (k < 2) (by rw [e_lss hA]) (fun _ => ?_) (fun q => absurd k1 q) <;> (try (conv => cbv)) <;> repeat (refine brk_ok hA ?_; (try (conv => cbv)))
  have eik : arith .add .i64 i k = i + k := add64 hA (by omega) (by omega)
  obtain ⟨j, hj⟩ : ∃ z, z = i + k := ⟨_, rfl⟩
  rw [eik, ← hj]
  rw [← hj] at hw hw1 hQ
  obtain ⟨h9, hh9⟩ : ∃ z, z = bump h 19 := ⟨_, rfl⟩
  have e9 : Ext h h9 := by rw [hh9]; exact ext_bump hA _ _
  have t9 := t.more e9
  rw [← hh9]
  have rdO : ∀ (b : Nat) (l : List Int) (z : Int), Own h9 b 4 (l.map (.int .u64)) → l.length = 4 → 0 ≤ z → z < 4 → rd h9 b (place (addN 0 0) z 1) 1 [.int .u64 (at' l z)] := by
    intro b l z ho hl z0 z1
    rw [e_rd hA, e_place hA, e_addN hA]
    have := ho.getInt (i := z.toNat) (by omega)
    rw [show 0 + 0 + z.toNat * 1 = z.toNat by omega]
    exact this
  have r1 := rdO bo O j t9.oo t9.len.2.2 (by omega) (by omega)
  have r2 := rdO bx X i t9.ox t9.len.1 (by omega) (by omega)
  have r3 := rdO by_ Y k t9.oy t9.len.2.1 (by omega) (by omega)
  have pj : place (addN 0 0) j 1 = j.toNat := by rw [e_place hA, e_addN hA]; omega
  generalize at' O j = o at *
  generalize at' X i = x at *
  generalize at' Y k = y at *
  refine ⟨in_ok hA (by omega) (by omega), ?_⟩
  ((try (conv => cbv)); repeat (refine brk_ok hA ?_; (try (conv => cbv))))
  refine ⟨o, r1, ?_⟩
  ((try (conv => cbv)); repeat (refine brk_ok hA ?_; (try (conv => cbv))))
  refine ⟨in_ok hA i0 (by omega), ?_⟩
  ((try (conv => cbv)); repeat (refine brk_ok hA ?_; (try (conv => cbv))))
  refine ⟨x, r2, ?_⟩
  ((try (conv => cbv)); repeat (refine brk_ok hA ?_; (try (conv => cbv))))
  refine ⟨in_ok hA k0 (by omega), ?_⟩
  ((try (conv => cbv)); repeat (refine brk_ok hA ?_; (try (conv => cbv))))
  refine ⟨y, r3, ?_⟩
  ((try (conv => cbv)); repeat (refine brk_ok hA ?_; (try (conv => cbv))))
  have ea : arith .add .u64 o (x * y) = o + x * y := addU hA hw1 (by omega)
  have eb : arith .add .u64 c (o + x * y) = w := by rw [addU hA (by omega) (by omega), hw]
  rw [hm, ea, eb, eik, ← hj]
  refine ⟨in_ok hA (by omega) (by omega), ?_⟩
  ((try (conv => cbv)); repeat (refine brk_ok hA ?_; (try (conv => cbv))))
  have hw3 : 0 ≤ w := by omega
  rw [mask32 hA hw3 hw2]
  obtain ⟨h', p1, p2⟩ := t9.put (i := j.toNat) (by omega) (w % 4294967296)
  rw [pj]
  obtain ⟨v, hv⟩ : ∃ z, z = w % 4294967296 := ⟨_, rfl⟩
  rw [← hv] at p1 p2 ⊢
  refine ⟨h', wr_at hA p1, ?_⟩
  ((try (conv => cbv)); repeat (refine brk_ok hA ?_; (try (conv => cbv))))
  refine ⟨geZ_ok hA (by omega), ?_⟩
  ((try (conv => cbv)); repeat (refine brk_ok hA ?_; (try (conv => cbv))))
  rw [shr32 hA hw3, add64 hA (by omega) (by omega)]
  exact hQ h' (by rw [← hv]; exact p2)

theorem prod_round {h0 h : AHeap} {bx by_ bo : Nat} {X Y O : List Int} (t : Tri3 h0 h bx by_ bo X Y O) {i : Int} (i0 : 0 ≤ i) (i1 : i < 2) {K : List Value} {Q : Exit → SS → Prop} {w1 w2 v : Int} {O1 O2 O3 : List Int}
    (m1 : arith .mul .u64 (at' X i) (at' Y 0) = at' X i * at' Y 0) (m2 : arith .mul .u64 (at' X i) (at' Y 1) = at' X i * at' Y 1)
    (hw1 : w1 = 0 + (at' O (i + 0) + at' X i * at' Y 0)) (hO1 : O1 = O.set (i + 0).toNat (w1 % 4294967296)) (hw2 : w2 = w1 / 4294967296 + (at' O1 (i + 1) + at' X i * at' Y 1)) (hO2 : O2 = O1.set (i + 1).toNat (w2 % 4294967296)) (hv : v = at' O2 (i + 2) + w2 / 4294967296) (hO3 : O3 = O2.set (i + 2).toNat v)
    (b1 : 0 ≤ at' O (i + 0) + at' X i * at' Y 0) (b2 : w1 < 18446744073709551616) (b3 : 0 ≤ at' O1 (i + 1) + at' X i * at' Y 1) (b4 : w2 < 18446744073709551616) (b5 : 0 ≤ at' O2 (i + 2)) (b6 : v < 18446744073709551616)
    (hQ : ∀ h', Tri3 h0 h' bx by_ bo X Y O3 → head 77 4 1 ⟨[(4, .pointer (some ⟨0, 0, some 0⟩)), (5, .pointer (some ⟨bx, 0, none⟩)), (6, .pointer (some ⟨by_, 0, none⟩)), (7, .pointer (some ⟨bo, 0, none⟩)), (8, .int .i64 (i + 1))], 1, [(0, K)], h'⟩ Q) :
    head 77 4 1 ⟨[(4, .pointer (some ⟨0, 0, some 0⟩)), (5, .pointer (some ⟨bx, 0, none⟩)), (6, .pointer (some ⟨by_, 0, none⟩)), (7, .pointer (some ⟨bo, 0, none⟩)), (8, .int .i64 i)], 1, [(0, K)], h⟩ Q := by
  refine hA.roundR Try.func77 r77_ok ?_; (try (conv => cbv)); repeat (refine brk_ok hA ?_; (try (conv => cbv)))
  refine br (i < 2) (by rw [e_lss hA]) (fun _ => ?_) (fun q => absurd i1 q) <;> (try (conv => cbv)) <;> repeat (refine brk_ok hA ?_; (try (conv => cbv)))
  refine prod_step hA t i0 i1 (k := 0) (c := 0) (by omega) (by omega) m1 hw1 (by omega) b1 b2 (fun h1 t1 => ?_)
  rw [← hO1] at t1
  rw [show (0 : Int) + 1 = 1 from rfl]
  refine prod_step hA t1 i0 i1 (k := 1) (c := w1 / 4294967296) (by omega) (by omega) m2 hw2 (by omega) b3 b4 (fun h2 t2 => ?_)
  rw [← hO2] at t2
  rw [show (1 : Int) + 1 = 2 from rfl]
  obtain ⟨c2, hc2⟩ : ∃ z, z = w2 / 4294967296 := ⟨_, rfl⟩
  rw [← hc2] at hv ⊢
  refine hA.roundR Try.func77 r77_ok ?_; (try (conv => cbv)); repeat (refine brk_ok hA ?_; (try (conv => cbv)))
  refine br (False) (by rw [e_lss hA]; rfl) (fun q => q.elim) (fun _ => ?_) <;> (try (conv => cbv)) <;> repeat (refine brk_ok hA ?_; (try (conv => cbv)))
  have eik : arith .add .i64 i 2 = i + 2 := add64 hA (by omega) (by omega)
  obtain ⟨j, hj⟩ : ∃ z, z = i + 2 := ⟨_, rfl⟩
  rw [eik, ← hj]
  rw [← hj] at hv hO3 b5
  refine ⟨in_ok hA (by omega) (by omega), ?_⟩
  ((try (conv => cbv)); repeat (refine brk_ok hA ?_; (try (conv => cbv))))
  have pj : place (addN 0 0) j 1 = j.toNat := by rw [e_place hA, e_addN hA]; omega
  have r1 : rd h2 bo (place (addN 0 0) j 1) 1 [.int .u64 (at' O2 j)] := by
    rw [pj, e_rd hA]
    exact t2.oo.getInt (i := j.toNat) (by have := t2.len.2.2; omega)
  obtain ⟨o, ho⟩ : ∃ z, z = at' O2 j := ⟨_, rfl⟩
  rw [← ho] at r1 hv b5
  refine ⟨o, r1, ?_⟩
  ((try (conv => cbv)); repeat (refine brk_ok hA ?_; (try (conv => cbv))))
  have hc0 : 0 ≤ c2 := by omega
  rw [addU hA (by omega) (by omega), ← hv]
  refine ⟨in_ok hA (by omega) (by omega), ?_⟩
  ((try (conv => cbv)); repeat (refine brk_ok hA ?_; (try (conv => cbv))))
  obtain ⟨h', p1, p2⟩ := t2.put (i := j.toNat) (by omega) v
  rw [pj]
  refine ⟨h', wr_at hA p1, ?_⟩
  ((try (conv => cbv)); repeat (refine brk_ok hA ?_; (try (conv => cbv))))
  rw [add64 hA (by omega) (by omega)]
  exact hQ h' (by rw [hO3]; exact p2)

theorem product4_ok {h : AHeap} (hlow : h.low ≤ h.next) {x y : Int} (hx : u64 x) (hy : u64 y) {Q : Value → AHeap → Prop}
    (hQ : ∀ d0 d1 d2 d3 h', Dig4 (x * y) d0 d1 d2 d3 → Ext h h' → Q (.agg #[.int .u64 d0, .int .u64 d1, .int .u64 d2, .int .u64 d3]) h') : call 77 [.int .u64 x, .int .u64 y] h Q := by
  refine hA.bodyR Try.func77 r77_ok (hA.alike _ _ _ rfl) hlow ?_; (try (conv => cbv)); repeat (refine brk_ok hA ?_; (try (conv => cbv)))
  refine big_ok hA hlow hx (fun x0 x1 hx0 hx1 => ⟨_, _, _, _, rfl, ?_⟩)
  ((try (conv => cbv)); repeat (refine brk_ok hA ?_; (try (conv => cbv))))
  refine big_ok hA hlow hy (fun y0 y1 hy0 hy1 => ⟨_, _, _, _, rfl, ?_⟩)
  ((try (conv => cbv)); repeat (refine brk_ok hA ?_; (try (conv => cbv))))
  rw [e_next hA, e_push hA, e_next hA, e_push hA]
  have e1 : Ext h (h.push 4 [Value.int .u64 0, Value.int .u64 0, Value.int .u64 0, Value.int .u64 0]) := .push _ _ _
  have o1 : Own (h.push 4 [Value.int .u64 0, Value.int .u64 0, Value.int .u64 0, Value.int .u64 0]) h.next 4 [Value.int .u64 0, Value.int .u64 0, Value.int .u64 0, Value.int .u64 0] := Own.push _ _ _
  have n1 : (h.push 4 [Value.int .u64 0, Value.int .u64 0, Value.int .u64 0, Value.int .u64 0]).next = h.next + 1 := rfl
  generalize h.push 4 [Value.int .u64 0, Value.int .u64 0, Value.int .u64 0, Value.int .u64 0] = h1 at *
  have e2 : Ext h1 (h1.push 4 [Value.int .u64 0, Value.int .u64 0, Value.int .u64 0, Value.int .u64 0]) := .push _ _ _
  have o2 : Own (h1.push 4 [Value.int .u64 0, Value.int .u64 0, Value.int .u64 0, Value.int .u64 0]) h1.next 4 [Value.int .u64 0, Value.int .u64 0, Value.int .u64 0, Value.int .u64 0] := Own.push _ _ _
  have n2 : (h1.push 4 [Value.int .u64 0, Value.int .u64 0, Value.int .u64 0, Value.int .u64 0]).next = h1.next + 1 := rfl
  generalize h1.push 4 [Value.int .u64 0, Value.int .u64 0, Value.int .u64 0, Value.int .u64 0] = h2 at *
  obtain ⟨bx, hbx⟩ : ∃ z, z = h.next := ⟨_, rfl⟩
  obtain ⟨by_, hby⟩ : ∃ z, z = h1.next := ⟨_, rfl⟩
  rw [← hbx] at o1
  rw [← hby] at o2
  rw [← hbx, ← hby]
  have o1' := o1.ext e2 (by omega)
  obtain ⟨h3, w1, p1, q1⟩ := o1'.write (o := 0) (vs := [.int .u64 x0, .int .u64 x1, .int .u64 0, .int .u64 0]) (by simp)
  refine ⟨h3, wr_at hA w1, ?_⟩
  ((try (conv => cbv)); repeat (refine brk_ok hA ?_; (try (conv => cbv))))
  have p2 := q1.own (o2.ext (.refl h2) (by omega)) (by omega : by_ ≠ bx)
  obtain ⟨h4, w2, p3, q2⟩ := p2.write (o := 0) (vs := [.int .u64 y0, .int .u64 y1, .int .u64 0, .int .u64 0]) (by simp)
  refine ⟨h4, wr_at hA w2, ?_⟩
  ((try (conv => cbv)); repeat (refine brk_ok hA ?_; (try (conv => cbv))))
  have p4 := q2.own p1 (by omega : bx ≠ by_)
  have m1 := q1.next
  have m2 := q2.next
  have e4 : Ext h h4 := q2.ext (q1.ext (e1.trans e2) (by omega)) (by omega)
  rw [e_next hA, e_push hA]
  have e5 : Ext h4 (h4.push 4 [Value.int .u64 0, Value.int .u64 0, Value.int .u64 0, Value.int .u64 0]) := .push _ _ _
  have o5 : Own (h4.push 4 [Value.int .u64 0, Value.int .u64 0, Value.int .u64 0, Value.int .u64 0]) h4.next 4 [Value.int .u64 0, Value.int .u64 0, Value.int .u64 0, Value.int .u64 0] := Own.push _ _ _
  have n5 : (h4.push 4 [Value.int .u64 0, Value.int .u64 0, Value.int .u64 0, Value.int .u64 0]).next = h4.next + 1 := rfl
  generalize h4.push 4 [Value.int .u64 0, Value.int .u64 0, Value.int .u64 0, Value.int .u64 0] = h5 at *
  obtain ⟨bo, hbo⟩ : ∃ z, z = h4.next := ⟨_, rfl⟩
  rw [← hbo] at o5
  rw [← hbo]
  obtain ⟨h6, w3, p5, q3⟩ := o5.write (o := 0) (vs := [Value.int .u64 0, Value.int .u64 0, Value.int .u64 0, Value.int .u64 0]) (by simp)
  refine ⟨h6, wr_at hA w3, ?_⟩
  ((try (conv => cbv)); repeat (refine brk_ok hA ?_; (try (conv => cbv))))
  have m3 := q3.next
  have t0 : Tri3 h h6 bx by_ bo [x0, x1, 0, 0] [y0, y1, 0, 0] [0, 0, 0, 0] :=
    ⟨q3.ext (e4.trans e5) (by omega), q3.own (Own.ext p4 e5 (by omega)) (by omega), q3.own (Own.ext p3 e5 (by omega)) (by omega), p5, by omega, by omega, ⟨by omega, by omega⟩, by omega, by omega, rfl, rfl, rfl⟩
  obtain ⟨k1, k2, k3, k4, k5, _⟩ := mul128 hx.1 hx.2 hy.1 hy.2 rfl rfl rfl rfl rfl rfl
  rw [← hx0, ← hy0, ← hx1, ← hy1] at k5
  rw [← hx0, ← hy0] at k1
  rw [← hx1, ← hy0] at k2
  rw [← hx0, ← hy1] at k3
  rw [← hx1, ← hy1] at k4
  obtain ⟨w1, hw1⟩ : ∃ z, z = x0 * y0 := ⟨_, rfl⟩
  obtain ⟨w2, hw2⟩ : ∃ z, z = w1 / 4294967296 + x0 * y1 := ⟨_, rfl⟩
  obtain ⟨w3, hw3⟩ : ∃ z, z = w2 % 4294967296 + x1 * y0 := ⟨_, rfl⟩
  obtain ⟨w4, hw4⟩ : ∃ z, z = w3 / 4294967296 + (w2 / 4294967296 + x1 * y1) := ⟨_, rfl⟩
  have g1 : arith .mul .u64 x0 y0 = x0 * y0 := mulU hA k1.1 (by omega)
  have g2 : arith .mul .u64 x0 y1 = x0 * y1 := mulU hA k3.1 (by omega)
  have g3 : arith .mul .u64 x1 y0 = x1 * y0 := mulU hA k2.1 (by omega)
  have g4 : arith .mul .u64 x1 y1 = x1 * y1 := mulU hA k4.1 (by omega)
  refine prod_round hA t0 (i := 0) (by omega) (by omega) (w1 := w1) (w2 := w2) (v := w2 / 4294967296) (O1 := [w1 % 4294967296, 0, 0, 0]) (O2 := [w1 % 4294967296, w2 % 4294967296, 0, 0]) (O3 := [w1 % 4294967296, w2 % 4294967296, w2 / 4294967296, 0]) g1 g2
    (by show w1 = 0 + (0 + x0 * y0); omega) rfl (by show w2 = w1 / 4294967296 + (0 + x0 * y1); omega) rfl (by show w2 / 4294967296 = 0 + w2 / 4294967296; omega) rfl (by show 0 ≤ 0 + x0 * y0; omega) (by omega) (by show 0 ≤ 0 + x0 * y1; omega) (by omega) (by show (0 : Int) ≤ 0; omega) (by omega) (fun h7 t7 => ?_)
  rw [show (0 : Int) + 1 = 1 from rfl]
  refine prod_round hA t7 (i := 1) (by omega) (by omega) (w1 := w3) (w2 := w4) (v := w4 / 4294967296) (O1 := [w1 % 4294967296, w3 % 4294967296, w2 / 4294967296, 0]) (O2 := [w1 % 4294967296, w3 % 4294967296, w4 % 4294967296, 0]) (O3 := [w1 % 4294967296, w3 % 4294967296, w4 % 4294967296, w4 / 4294967296]) g3 g4
    (by show w3 = 0 + (w2 % 4294967296 + x1 * y0); omega) rfl (by show w4 = w3 / 4294967296 + (w2 / 4294967296 + x1 * y1); omega) rfl (by show w4 / 4294967296 = 0 + w4 / 4294967296; omega) rfl (by show 0 ≤ w2 % 4294967296 + x1 * y0; omega) (by omega) (by show 0 ≤ w2 / 4294967296 + x1 * y1; omega) (by omega) (by show (0 : Int) ≤ 0; omega) (by omega) (fun h8 t8 => ?_)
  rw [show (1 : Int) + 1 = 2 from rfl]
  have hd : Dig4 (x * y) (w1 % 4294967296) (w3 % 4294967296) (w4 % 4294967296) (w4 / 4294967296) := by
    refine ⟨?_, by omega, by omega, by omega, by omega⟩
    rw [k5]
    omega
  obtain ⟨a, ha⟩ : ∃ z, z = w1 % 4294967296 := ⟨_, rfl⟩
  obtain ⟨b, hb⟩ : ∃ z, z = w3 % 4294967296 := ⟨_, rfl⟩
  obtain ⟨c, hc⟩ : ∃ z, z = w4 % 4294967296 := ⟨_, rfl⟩
  obtain ⟨d, hd'⟩ : ∃ z, z = w4 / 4294967296 := ⟨_, rfl⟩
  rw [← ha, ← hb, ← hc, ← hd'] at hd t8
  refine hA.roundR Try.func77 r77_ok ?_; (try (conv => cbv)); repeat (refine brk_ok hA ?_; (try (conv => cbv)))
  refine br (False) (by rw [e_lss hA]; rfl) (fun q => q.elim) (fun _ => ?_) <;> (try (conv => cbv)) <;> repeat (refine brk_ok hA ?_; (try (conv => cbv)))
  have rd4 : h8.readG ⟨bo, 0, none⟩ 4 = some [.int .u64 a, .int .u64 b, .int .u64 c, .int .u64 d] := t8.oo.readG (by simp)
  refine ⟨a, b, c, d, rd_at hA rd4, ?_⟩
  ((try (conv => cbv)); repeat (refine brk_ok hA ?_; (try (conv => cbv))))
  exact hQ a b c d h8 hd t8.ext

end Go.Proofs.Ytnokkniofajnhaa
