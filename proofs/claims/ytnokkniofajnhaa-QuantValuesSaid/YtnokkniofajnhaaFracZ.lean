/-
  fringeref01: sums and differences of numbers of four digits.
-/
import Derived.Test.YtnokkniofajnhaaFracY
namespace Go.Proofs.Ytnokkniofajnhaa
open Go.Sim
set_option linter.unusedVariables false
set_option maxRecDepth 100000

/-- Two numbers of four digits in memory, the first of one's own. -/
structure Duo (h0 h : AHeap) (ba bb : Nat) (A B : List Int) : Prop where
  ext : Ext h0 h
  oa : Own h ba 4 (A.map (.int .u64))
  ob : Own h bb 4 (B.map (.int .u64))
  la : h0.next ≤ ba ∧ ba < h.next
  lb : bb < h.next
  ne : bb ≠ ba
  len : A.length = 4 ∧ B.length = 4
theorem Duo.more {h0 h h' : AHeap} {ba bb : Nat} {A B : List Int} (t : Duo h0 h ba bb A B) (e : Ext h h') : Duo h0 h' ba bb A B :=
  ⟨t.ext.trans e, t.oa.ext e t.la.2, t.ob.ext e t.lb, ⟨t.la.1, Nat.lt_of_lt_of_le t.la.2 e.next⟩, Nat.lt_of_lt_of_le t.lb e.next, t.ne, t.len⟩
theorem Duo.put {h0 h : AHeap} {ba bb : Nat} {A B : List Int} (t : Duo h0 h ba bb A B) {i : Nat} (hi : i < 4) (v : Int) : ∃ h', h.write ba i [.int .u64 v] = some h' ∧ Duo h0 h' ba bb (A.set i v) B := by
  obtain ⟨h', w1, w2, w3⟩ := t.oa.setInt (i := i) (by rw [t.len.1]; exact hi) v
  exact ⟨h', w1, w3.ext t.ext t.la.1, w2, w3.own t.ob t.ne, by rw [w3.next]; exact t.la, by rw [w3.next]; exact t.lb, t.ne, by simpa using t.len⟩


variable {F : Prims}
  {call : FuncId → List Value → AHeap → (Value → AHeap → Prop) → Prop}
  {head : FuncId → Nat → Nat → SS → (Exit → SS → Prop) → Prop}
  {arith : BinOp → IntKind → Int → Int → Int}
  {cmp : BinOp → Int → Int → Bool}
  {scmp : BinOp → ByteArray → ByteArray → Bool}
  {bnot : Bool → Bool}
  {bsame : Bool → Bool → Bool}
  {conv : IntKind → Int → Int}
  {neg : IntKind → Int → Int}
  {imax : Int → Int → Int}
  {imin : Int → Int → Int}
  {ofNat : Nat → Int}
  {slen : ByteArray → Int}
  {place : Nat → Int → Nat → Nat}
  {inR : Int → Nat → Prop}
  {nz : Int → Prop}
  {geZ : Int → Prop}
  {rd : AHeap → Nat → Nat → Nat → List Value → Prop}
  {wr : AHeap → Nat → Nat → List Value → AHeap → Prop}
  {push : AHeap → Nat → List Value → AHeap}
  {next : AHeap → Nat}
  {mkOK : Int → Int → Prop}
  {nat : Int → Nat}
  {zeros : List Value → Int → List Value}
  {sadd : ByteArray → ByteArray → (ByteArray → Prop) → Prop}
  {eqAgg : TypeId → Array Value → Array Value → (Bool → Prop) → Prop}
  {cut : Nat → Int → Prop}
  {slc : TypeId → Value → Option Value → Option Value → Option Value → (Option Addr → Nat → Nat → Prop) → Prop}
  {sslc : TypeId → ByteArray → Option Value → Option Value → (ByteArray → Prop) → Prop}
  {strAt : ByteArray → Int → (Int → Prop) → Prop}
  {part : TypeId → Array Value → Nat → Value → Prop}
  {app : List TypeId → List Value → AHeap → (Option Addr → Nat → Nat → AHeap → Prop) → Prop}
  {cpy : List TypeId → List Value → AHeap → (Int → AHeap → Prop) → Prop}
  {putAt : AHeap → Nat → Nat → List Value → AHeap}
  {fresh : AHeap → AHeap}
  {lowered : AHeap → AHeap → AHeap}
  {bump : AHeap → Nat → AHeap}
  {wrote : AHeap → AHeap → Bool}
  {addN : Nat → Nat → Nat}
  {lt : Nat → Nat → Prop}
  {ne : Nat → Nat → Prop}
  {fpAll : Bool → Bool → Bool → Nat → Nat → Prop}
  {brk : (Unit → Prop) → Prop}
  {yn : Nat → Nat}
  {rng : FuncId → Nat → SS → (Exit → SS → Prop) → Prop}
  {mget : TypeId → Value → Value → AHeap → Value → Bool → Prop}
  {mput : TypeId → Value → Value → Value → AHeap → AHeap → Prop}
  {mnew : AHeap → AHeap}
  {bytes : TypeId → TypeId → Option Addr → Nat → AHeap → ByteArray → Prop}
  {clr : List TypeId → List Value → AHeap → AHeap → Prop}
  (hA : AP F ⟨call, head, arith, cmp, scmp, bnot, bsame, conv, neg, imax, imin, ofNat, slen, place, inR, nz, geZ, rd, wr, push, next, mkOK, nat, zeros, sadd, eqAgg, cut, slc, sslc, strAt, part, app, cpy, putAt, fresh, lowered, bump, wrote, addN, lt, ne, fpAll, brk, yn, rng, mget, mput, mnew, bytes, clr⟩)
include hA

theorem rsum_step {h0 h : AHeap} {ba bb : Nat} {A B : List Int} (t : Duo h0 h ba bb A B) {i c w : Int} (i0 : 0 ≤ i) (i1 : i < 4) {K : List Value} {Q : Exit → SS → Prop}
    (hw : w = c + (at' A i + at' B i)) (c0 : 0 ≤ c) (r0 : 0 ≤ at' A i + at' B i) (w1 : w < 18446744073709551616)
    (hQ : ∀ h', Duo h0 h' ba bb (A.set i.toNat (w % 4294967296)) B → head 86 3 1 ⟨[(2, .pointer (some ⟨ba, 0, none⟩)), (3, .pointer (some ⟨bb, 0, none⟩)), (4, .pointer (some ⟨0, 0, some 0⟩)), (5, .int .u64 (w / 4294967296)), (6, .int .i64 (i + 1))], 1, [(0, K)], h'⟩ Q) :
    head 86 3 1 ⟨[(2, .pointer (some ⟨ba, 0, none⟩)), (3, .pointer (some ⟨bb, 0, none⟩)), (4, .pointer (some ⟨0, 0, some 0⟩)), (5, .int .u64 c), (6, .int .i64 i)], 1, [(0, K)], h⟩ Q := by
  refine hA.roundR Try.func86 r86_ok ?_; (try (conv => cbv)); repeat (refine brk_ok hA ?_; (try (conv => cbv)))
  refine br (i < 4) (by rw [e_lss hA]) (fun _ => ?_) (fun q => absurd i1 q) <;> (try (conv => cbv)) <;> repeat (refine brk_ok hA ?_; (try (conv => cbv)))
  obtain ⟨h9, hh9⟩ : ∃ z, z = bump h 12 := ⟨_, rfl⟩
  have e9 : Ext h h9 := by rw [hh9]; exact ext_bump hA _ _
  have t9 := t.more e9
  rw [← hh9]
  have r1 := rd_dig hA t9.oa t9.len.1 i0 i1
  have r2 := rd_dig hA t9.ob t9.len.2 i0 i1
  have pj : place (addN 0 0) i 1 = i.toNat := by rw [e_place hA, e_addN hA]; omega
  generalize at' A i = x at *
  generalize at' B i = y at *
  have hw3 : 0 ≤ w := by omega
  have ea : arith .add .u64 x y = x + y := addU hA r0 (by omega)
  have eb : arith .add .u64 c (x + y) = w := by rw [addU hA (by omega) (by omega), hw]
  have em := mask32 hA hw3 w1
  obtain ⟨h', p1, p2⟩ := t9.put (i := i.toNat) (by omega) (w % 4294967296)
  have p3 : wr h9 ba (place (addN 0 0) i 1) [.int .u64 (w % 4294967296)] h' := by rw [pj]; exact wr_at hA p1
  rw [← em, ← eb, ← ea] at p3
  ((try (conv => cbv)); repeat ((first | refine brk_ok hA ?_ | refine ⟨in_ok hA (by omega) (by omega), ?_⟩ | refine ⟨nz_ok hA (by omega), ?_⟩ | refine ⟨geZ_ok hA (by omega), ?_⟩ | refine ⟨ne_ok hA (by omega), ?_⟩ | refine ⟨wrote_no hA (by assumption), ?_⟩ | refine ⟨wrote_no hA (.refl _), ?_⟩ | refine ⟨_, ‹rd _ _ _ _ _›, ?_⟩ | refine ⟨_, ‹wr _ _ _ _ _›, ?_⟩); (try (conv => cbv))))
  rw [ea, eb, shr32 hA hw3, add64 hA (by omega) (by omega)]
  exact hQ h' p2

theorem rsum_ok {h : AHeap} (hlow : h.low ≤ h.next) {a0 a1 a2 a3 b0 b1 b2 b3 M N : Int} (hm : Dig4 M a0 a1 a2 a3) (hn : Dig4 N b0 b1 b2 b3) (hs : M + N < 340282366920938463463374607431768211456) {Q : Value → AHeap → Prop}
    (hQ : ∀ d0 d1 d2 d3 h', Dig4 (M + N) d0 d1 d2 d3 → Ext h h' → Q (.agg #[.int .u64 d0, .int .u64 d1, .int .u64 d2, .int .u64 d3]) h') : call 86 [.agg #[.int .u64 a0, .int .u64 a1, .int .u64 a2, .int .u64 a3], .agg #[.int .u64 b0, .int .u64 b1, .int .u64 b2, .int .u64 b3]] h Q := by
  obtain ⟨m1, m2, m3, m4, m5⟩ := hm
  obtain ⟨k1, k2, k3, k4, k5⟩ := hn
  refine hA.bodyR Try.func86 r86_ok (hA.alike _ _ _ rfl) hlow ?_; (try (conv => cbv)); repeat (refine brk_ok hA ?_; (try (conv => cbv)))
  rw [e_next hA, e_push hA, e_next hA, e_push hA]
  have e1 : Ext h (h.push 4 [Value.int .u64 a0, Value.int .u64 a1, Value.int .u64 a2, Value.int .u64 a3]) := .push _ _ _
  have o1 : Own (h.push 4 [Value.int .u64 a0, Value.int .u64 a1, Value.int .u64 a2, Value.int .u64 a3]) h.next 4 [Value.int .u64 a0, Value.int .u64 a1, Value.int .u64 a2, Value.int .u64 a3] := Own.push _ _ _
  have n1 : (h.push 4 [Value.int .u64 a0, Value.int .u64 a1, Value.int .u64 a2, Value.int .u64 a3]).next = h.next + 1 := rfl
  generalize h.push 4 [Value.int .u64 a0, Value.int .u64 a1, Value.int .u64 a2, Value.int .u64 a3] = h1 at *
  have e2 : Ext h1 (h1.push 4 [Value.int .u64 b0, Value.int .u64 b1, Value.int .u64 b2, Value.int .u64 b3]) := .push _ _ _
  have o2 : Own (h1.push 4 [Value.int .u64 b0, Value.int .u64 b1, Value.int .u64 b2, Value.int .u64 b3]) h1.next 4 [Value.int .u64 b0, Value.int .u64 b1, Value.int .u64 b2, Value.int .u64 b3] := Own.push _ _ _
  have n2 : (h1.push 4 [Value.int .u64 b0, Value.int .u64 b1, Value.int .u64 b2, Value.int .u64 b3]).next = h1.next + 1 := rfl
  generalize h1.push 4 [Value.int .u64 b0, Value.int .u64 b1, Value.int .u64 b2, Value.int .u64 b3] = h2 at *
  obtain ⟨ba, hba⟩ : ∃ z, z = h.next := ⟨_, rfl⟩
  obtain ⟨bb, hbb⟩ : ∃ z, z = h1.next := ⟨_, rfl⟩
  rw [← hba] at o1
  rw [← hbb] at o2
  rw [← hba, ← hbb]
  have t0 : Duo h h2 ba bb [a0, a1, a2, a3] [b0, b1, b2, b3] := ⟨e1.trans e2, o1.ext e2 (by omega), o2, ⟨by omega, by omega⟩, by omega, by omega, rfl, rfl⟩
  obtain ⟨w0, hw0⟩ : ∃ z, z = 0 + (a0 + b0) := ⟨_, rfl⟩
  obtain ⟨w1, hw1⟩ : ∃ z, z = w0 / 4294967296 + (a1 + b1) := ⟨_, rfl⟩
  obtain ⟨w2, hw2⟩ : ∃ z, z = w1 / 4294967296 + (a2 + b2) := ⟨_, rfl⟩
  obtain ⟨w3, hw3⟩ : ∃ z, z = w2 / 4294967296 + (a3 + b3) := ⟨_, rfl⟩
  refine rsum_step hA t0 (i := 0) (by omega) (by omega) hw0 (by omega) (by show 0 ≤ a0 + b0; omega) (by omega) (fun h3 t3 => ?_)
  refine rsum_step hA t3 (i := 0 + 1) (by omega) (by omega) hw1 (by omega) (by show 0 ≤ a1 + b1; omega) (by omega) (fun h4 t4 => ?_)
  refine rsum_step hA t4 (i := 0 + 1 + 1) (by omega) (by omega) hw2 (by omega) (by show 0 ≤ a2 + b2; omega) (by omega) (fun h5 t5 => ?_)
  refine rsum_step hA t5 (i := 0 + 1 + 1 + 1) (by omega) (by omega) hw3 (by omega) (by show 0 ≤ a3 + b3; omega) (by omega) (fun h6 t6 => ?_)
  have hd : Dig4 (M + N) (w0 % 4294967296) (w1 % 4294967296) (w2 % 4294967296) (w3 % 4294967296) := ⟨by omega, by omega, by omega, by omega, by omega⟩
  obtain ⟨a, ha⟩ : ∃ z, z = w0 % 4294967296 := ⟨_, rfl⟩
  obtain ⟨b, hb⟩ : ∃ z, z = w1 % 4294967296 := ⟨_, rfl⟩
  obtain ⟨c, hc⟩ : ∃ z, z = w2 % 4294967296 := ⟨_, rfl⟩
  obtain ⟨d, hd'⟩ : ∃ z, z = w3 % 4294967296 := ⟨_, rfl⟩
  rw [← ha, ← hb, ← hc, ← hd'] at hd t6
  obtain ⟨cc, hcc⟩ : ∃ z, z = w3 / 4294967296 := ⟨_, rfl⟩
  rw [← hcc]
  refine hA.roundR Try.func86 r86_ok ?_; (try (conv => cbv)); repeat (refine brk_ok hA ?_; (try (conv => cbv)))
  refine br (False) (by rw [e_lss hA]; rfl) (fun q => q.elim) (fun _ => ?_) <;> (try (conv => cbv)) <;> repeat (refine brk_ok hA ?_; (try (conv => cbv)))
  have rd4 : h6.readG ⟨ba, 0, none⟩ 4 = some [.int .u64 a, .int .u64 b, .int .u64 c, .int .u64 d] := t6.oa.readG (by simp)
  refine ⟨a, b, c, d, rd_at hA rd4, ?_⟩
  ((try (conv => cbv)); repeat (refine brk_ok hA ?_; (try (conv => cbv))))
  exact hQ a b c d h6 hd t6.ext

theorem rest_step {h0 h : AHeap} {ba bb : Nat} {A B : List Int} (t : Duo h0 h ba bb A B) {i c w : Int} (i0 : 0 ≤ i) (i1 : i < 4) {K : List Value} {Q : Exit → SS → Prop}
    (hw : w = at' A i + 4294967296 - at' B i - c) (c0 : 0 ≤ c ∧ c ≤ 1) (r0 : 0 ≤ at' A i ∧ at' A i < 4294967296) (r1 : 0 ≤ at' B i ∧ at' B i < 4294967296)
    (hQ : ∀ h', Duo h0 h' ba bb (A.set i.toNat (w % 4294967296)) B → head 87 3 1 ⟨[(2, .pointer (some ⟨ba, 0, none⟩)), (3, .pointer (some ⟨bb, 0, none⟩)), (4, .pointer (some ⟨0, 0, some 0⟩)), (5, .int .u64 (1 - w / 4294967296)), (6, .int .i64 (i + 1))], 1, [(0, K)], h'⟩ Q) :
    head 87 3 1 ⟨[(2, .pointer (some ⟨ba, 0, none⟩)), (3, .pointer (some ⟨bb, 0, none⟩)), (4, .pointer (some ⟨0, 0, some 0⟩)), (5, .int .u64 c), (6, .int .i64 i)], 1, [(0, K)], h⟩ Q := by
  refine hA.roundR Try.func87 r87_ok ?_; (try (conv => cbv)); repeat (refine brk_ok hA ?_; (try (conv => cbv)))
  refine br (i < 4) (by rw [e_lss hA]) (fun _ => ?_) (fun q => absurd i1 q) <;> (try (conv => cbv)) <;> repeat (refine brk_ok hA ?_; (try (conv => cbv)))
  obtain ⟨h9, hh9⟩ : ∃ z, z = bump h 14 := ⟨_, rfl⟩
  have e9 : Ext h h9 := by rw [hh9]; exact ext_bump hA _ _
  have t9 := t.more e9
  rw [← hh9]
  have g1 := rd_dig hA t9.oa t9.len.1 i0 i1
  have g2 := rd_dig hA t9.ob t9.len.2 i0 i1
  have pj : place (addN 0 0) i 1 = i.toNat := by rw [e_place hA, e_addN hA]; omega
  generalize at' A i = x at *
  generalize at' B i = y at *
  have ea : arith .add .u64 x 4294967295 = x + 4294967295 := addU hA (by omega) (by omega)
  have eb : arith .add .u64 (x + 4294967295) 1 = x + 4294967296 := by rw [addU hA (by omega) (by omega)]; omega
  have ec : arith .sub .u64 (x + 4294967296) y = x + 4294967296 - y := subU hA (by omega) (by omega)
  have ed : arith .sub .u64 (x + 4294967296 - y) c = w := by rw [subU hA (by omega) (by omega), hw]
  have hw3 : 0 ≤ w := by omega
  have em := mask32 hA hw3 (by omega)
  obtain ⟨h', p1, p2⟩ := t9.put (i := i.toNat) (by omega) (w % 4294967296)
  have p3 : wr h9 ba (place (addN 0 0) i 1) [.int .u64 (w % 4294967296)] h' := by rw [pj]; exact wr_at hA p1
  rw [← em, ← ed, ← ec, ← eb, ← ea] at p3
  ((try (conv => cbv)); repeat ((first | refine brk_ok hA ?_ | refine ⟨in_ok hA (by omega) (by omega), ?_⟩ | refine ⟨nz_ok hA (by omega), ?_⟩ | refine ⟨geZ_ok hA (by omega), ?_⟩ | refine ⟨ne_ok hA (by omega), ?_⟩ | refine ⟨wrote_no hA (by assumption), ?_⟩ | refine ⟨wrote_no hA (.refl _), ?_⟩ | refine ⟨_, ‹rd _ _ _ _ _›, ?_⟩ | refine ⟨_, ‹wr _ _ _ _ _›, ?_⟩); (try (conv => cbv))))
  rw [ea, eb, ec, ed, shr32 hA hw3, add64 hA (by omega) (by omega), subU hA (by omega) (by omega)]
  exact hQ h' p2

theorem rest_ok {h : AHeap} (hlow : h.low ≤ h.next) {a0 a1 a2 a3 b0 b1 b2 b3 M N : Int} (hm : Dig4 M a0 a1 a2 a3) (hn : Dig4 N b0 b1 b2 b3) (hs : N ≤ M) {Q : Value → AHeap → Prop}
    (hQ : ∀ d0 d1 d2 d3 h', Dig4 (M - N) d0 d1 d2 d3 → Ext h h' → Q (.agg #[.int .u64 d0, .int .u64 d1, .int .u64 d2, .int .u64 d3]) h') : call 87 [.agg #[.int .u64 a0, .int .u64 a1, .int .u64 a2, .int .u64 a3], .agg #[.int .u64 b0, .int .u64 b1, .int .u64 b2, .int .u64 b3]] h Q := by
  obtain ⟨m1, m2, m3, m4, m5⟩ := hm
  obtain ⟨k1, k2, k3, k4, k5⟩ := hn
  refine hA.bodyR Try.func87 r87_ok (hA.alike _ _ _ rfl) hlow ?_; (try (conv => cbv)); repeat (refine brk_ok hA ?_; (try (conv => cbv)))
  rw [e_next hA, e_push hA, e_next hA, e_push hA]
  have e1 : Ext h (h.push 4 [Value.int .u64 a0, Value.int .u64 a1, Value.int .u64 a2, Value.int .u64 a3]) := .push _ _ _
  have o1 : Own (h.push 4 [Value.int .u64 a0, Value.int .u64 a1, Value.int .u64 a2, Value.int .u64 a3]) h.next 4 [Value.int .u64 a0, Value.int .u64 a1, Value.int .u64 a2, Value.int .u64 a3] := Own.push _ _ _
  have n1 : (h.push 4 [Value.int .u64 a0, Value.int .u64 a1, Value.int .u64 a2, Value.int .u64 a3]).next = h.next + 1 := rfl
  generalize h.push 4 [Value.int .u64 a0, Value.int .u64 a1, Value.int .u64 a2, Value.int .u64 a3] = h1 at *
  have e2 : Ext h1 (h1.push 4 [Value.int .u64 b0, Value.int .u64 b1, Value.int .u64 b2, Value.int .u64 b3]) := .push _ _ _
  have o2 : Own (h1.push 4 [Value.int .u64 b0, Value.int .u64 b1, Value.int .u64 b2, Value.int .u64 b3]) h1.next 4 [Value.int .u64 b0, Value.int .u64 b1, Value.int .u64 b2, Value.int .u64 b3] := Own.push _ _ _
  have n2 : (h1.push 4 [Value.int .u64 b0, Value.int .u64 b1, Value.int .u64 b2, Value.int .u64 b3]).next = h1.next + 1 := rfl
  generalize h1.push 4 [Value.int .u64 b0, Value.int .u64 b1, Value.int .u64 b2, Value.int .u64 b3] = h2 at *
  obtain ⟨ba, hba⟩ : ∃ z, z = h.next := ⟨_, rfl⟩
  obtain ⟨bb, hbb⟩ : ∃ z, z = h1.next := ⟨_, rfl⟩
  rw [← hba] at o1
  rw [← hbb] at o2
  rw [← hba, ← hbb]
  have t0 : Duo h h2 ba bb [a0, a1, a2, a3] [b0, b1, b2, b3] := ⟨e1.trans e2, o1.ext e2 (by omega), o2, ⟨by omega, by omega⟩, by omega, by omega, rfl, rfl⟩
  obtain ⟨w0, hw0⟩ : ∃ z, z = a0 + 4294967296 - b0 - 0 := ⟨_, rfl⟩
  obtain ⟨w1, hw1⟩ : ∃ z, z = a1 + 4294967296 - b1 - (1 - w0 / 4294967296) := ⟨_, rfl⟩
  obtain ⟨w2, hw2⟩ : ∃ z, z = a2 + 4294967296 - b2 - (1 - w1 / 4294967296) := ⟨_, rfl⟩
  obtain ⟨w3, hw3⟩ : ∃ z, z = a3 + 4294967296 - b3 - (1 - w2 / 4294967296) := ⟨_, rfl⟩
  refine rest_step hA t0 (i := 0) (by omega) (by omega) hw0 (by omega) m2 k2 (fun h3 t3 => ?_)
  refine rest_step hA t3 (i := 0 + 1) (by omega) (by omega) hw1 (by omega) m3 k3 (fun h4 t4 => ?_)
  refine rest_step hA t4 (i := 0 + 1 + 1) (by omega) (by omega) hw2 (by omega) m4 k4 (fun h5 t5 => ?_)
  refine rest_step hA t5 (i := 0 + 1 + 1 + 1) (by omega) (by omega) hw3 (by omega) m5 k5 (fun h6 t6 => ?_)
  have hd : Dig4 (M - N) (w0 % 4294967296) (w1 % 4294967296) (w2 % 4294967296) (w3 % 4294967296) := ⟨by omega, by omega, by omega, by omega, by omega⟩
  obtain ⟨a, ha⟩ : ∃ z, z = w0 % 4294967296 := ⟨_, rfl⟩
  obtain ⟨b, hb⟩ : ∃ z, z = w1 % 4294967296 := ⟨_, rfl⟩
  obtain ⟨c, hc⟩ : ∃ z, z = w2 % 4294967296 := ⟨_, rfl⟩
  obtain ⟨d, hd'⟩ : ∃ z, z = w3 % 4294967296 := ⟨_, rfl⟩
  rw [← ha, ← hb, ← hc, ← hd'] at hd t6
  obtain ⟨cc, hcc⟩ : ∃ z, z = 1 - w3 / 4294967296 := ⟨_, rfl⟩
  rw [← hcc]
  refine hA.roundR Try.func87 r87_ok ?_; (try (conv => cbv)); repeat (refine brk_ok hA ?_; (try (conv => cbv)))
  refine br (False) (by rw [e_lss hA]; rfl) (fun q => q.elim) (fun _ => ?_) <;> (try (conv => cbv)) <;> repeat (refine brk_ok hA ?_; (try (conv => cbv)))
  have rd4 : h6.readG ⟨ba, 0, none⟩ 4 = some [.int .u64 a, .int .u64 b, .int .u64 c, .int .u64 d] := t6.oa.readG (by simp)
  refine ⟨a, b, c, d, rd_at hA rd4, ?_⟩
  ((try (conv => cbv)); repeat (refine brk_ok hA ?_; (try (conv => cbv))))
  exact hQ a b c d h6 hd t6.ext

end Go.Proofs.Ytnokkniofajnhaa
