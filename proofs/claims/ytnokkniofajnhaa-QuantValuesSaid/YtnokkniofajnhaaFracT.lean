/-
  fringeref01: comparing.
-/
import Derived.Test.YtnokkniofajnhaaFracS
namespace Go.Proofs.Ytnokkniofajnhaa
open Go.Sim
set_option linter.unusedVariables false
set_option maxRecDepth 100000

theorem no {P : Prop} (h : ¬ P) : (false = true) ↔ P := ⟨(fun q => by cases q), fun q => absurd q h⟩

variable {F : Prims}
  {call : FuncId → List Value → AHeap → (Value → AHeap → Prop) → Prop}
  {head : FuncId → Nat → Nat → SS → (Exit → SS → Prop) → Prop}
  {arith : BinOp → IntKind → Int → Int → Int}
  {cmp : BinOp → Int → Int → Bool}
  {scmp : BinOp → ByteArray → ByteArray → Bool}
  {bnot : Bool → Bool}
  {bsame : Bool → Bool → Bool}
  {conv : IntKind → Int → Int}
  {neg : IntKind → Int → Int}
  {imax : Int → Int → Int}
  {imin : Int → Int → Int}
  {ofNat : Nat → Int}
  {slen : ByteArray → Int}
  {place : Nat → Int → Nat → Nat}
  {inR : Int → Nat → Prop}
  {nz : Int → Prop}
  {geZ : Int → Prop}
  {rd : AHeap → Nat → Nat → Nat → List Value → Prop}
  {wr : AHeap → Nat → Nat → List Value → AHeap → Prop}
  {push : AHeap → Nat → List Value → AHeap}
  {next : AHeap → Nat}
  {mkOK : Int → Int → Prop}
  {nat : Int → Nat}
  {zeros : List Value → Int → List Value}
  {sadd : ByteArray → ByteArray → (ByteArray → Prop) → Prop}
  {eqAgg : TypeId → Array Value → Array Value → (Bool → Prop) → Prop}
  {cut : Nat → Int → Prop}
  {slc : TypeId → Value → Option Value → Option Value → Option Value → (Option Addr → Nat → Nat → Prop) → Prop}
  {sslc : TypeId → ByteArray → Option Value → Option Value → (ByteArray → Prop) → Prop}
  {strAt : ByteArray → Int → (Int → Prop) → Prop}
  {part : TypeId → Array Value → Nat → Value → Prop}
  {app : List TypeId → List Value → AHeap → (Option Addr → Nat → Nat → AHeap → Prop) → Prop}
  {cpy : List TypeId → List Value → AHeap → (Int → AHeap → Prop) → Prop}
  {putAt : AHeap → Nat → Nat → List Value → AHeap}
  {fresh : AHeap → AHeap}
  {lowered : AHeap → AHeap → AHeap}
  {bump : AHeap → Nat → AHeap}
  {wrote : AHeap → AHeap → Bool}
  {addN : Nat → Nat → Nat}
  {lt : Nat → Nat → Prop}
  {ne : Nat → Nat → Prop}
  {fpAll : Bool → Bool → Bool → Nat → Nat → Prop}
  {brk : (Unit → Prop) → Prop}
  {yn : Nat → Nat}
  {rng : FuncId → Nat → SS → (Exit → SS → Prop) → Prop}
  {mget : TypeId → Value → Value → AHeap → Value → Bool → Prop}
  {mput : TypeId → Value → Value → Value → AHeap → AHeap → Prop}
  {mnew : AHeap → AHeap}
  {bytes : TypeId → TypeId → Option Addr → Nat → AHeap → ByteArray → Prop}
  {clr : List TypeId → List Value → AHeap → AHeap → Prop}
  (hA : AP F ⟨call, head, arith, cmp, scmp, bnot, bsame, conv, neg, imax, imin, ofNat, slen, place, inR, nz, geZ, rd, wr, push, next, mkOK, nat, zeros, sadd, eqAgg, cut, slc, sslc, strAt, part, app, cpy, putAt, fresh, lowered, bump, wrote, addN, lt, ne, fpAll, brk, yn, rng, mget, mput, mnew, bytes, clr⟩)
include hA

theorem rd_dig {h : AHeap} {b : Nat} {l : List Int} {z : Int} (ho : Own h b 4 (l.map (.int .u64))) (hl : l.length = 4) (z0 : 0 ≤ z) (z1 : z < 4) : rd h b (place (addN 0 0) z 1) 1 [.int .u64 (at' l z)] := by
  rw [e_rd hA, e_place hA, e_addN hA]
  have := ho.getInt (i := z.toNat) (by omega)
  rw [show 0 + 0 + z.toNat * 1 = z.toNat by omega]
  exact this

theorem below_step {h : AHeap} {ba bb : Nat} {A B : List Int} (oa : Own h ba 4 (A.map (.int .u64))) (ob : Own h bb 4 (B.map (.int .u64))) (la : ba < h.next) (lb : bb < h.next) (hl : A.length = 4) (hk : B.length = 4) {i : Int} (i0 : 0 ≤ i) (i1 : i < 4) {Q : Exit → SS → Prop}
    (h1 : at' A i ≠ at' B i → ∀ e kn K h', Ext h h' → Q .ret ⟨(4, .bool (cmp .lss (at' A i) (at' B i))) :: e, kn, K, h'⟩)
    (h2 : at' A i = at' B i → ∀ h', Ext h h' → head 78 2 0 ⟨[(2, .pointer (some ⟨ba, 0, none⟩)), (3, .pointer (some ⟨bb, 0, none⟩)), (5, .int .i64 (i - 1))], 0, [], h'⟩ Q) :
    head 78 2 0 ⟨[(2, .pointer (some ⟨ba, 0, none⟩)), (3, .pointer (some ⟨bb, 0, none⟩)), (5, .int .i64 i)], 0, [], h⟩ Q := by
  refine hA.roundR Try.func78 r78_ok ?_; (try (conv => cbv)); repeat (refine brk_ok hA ?_; (try (conv => cbv)))
  refine br (0 ≤ i) (by rw [e_geq hA]) (fun _ => ?_) (fun q => absurd i0 q) <;> (try (conv => cbv)) <;> repeat (refine brk_ok hA ?_; (try (conv => cbv)))
  obtain ⟨h9, hh9⟩ : ∃ z, z = bump h 9 := ⟨_, rfl⟩
  have e9 : Ext h h9 := by rw [hh9]; exact ext_bump hA _ _
  rw [← hh9]
  have r1 := rd_dig hA (oa.ext e9 la) hl i0 i1
  have r2 := rd_dig hA (ob.ext e9 lb) hk i0 i1
  obtain ⟨x, hx⟩ : ∃ z, z = at' A i := ⟨_, rfl⟩
  obtain ⟨y, hy⟩ : ∃ z, z = at' B i := ⟨_, rfl⟩
  rw [← hx] at r1 h1 h2
  rw [← hy] at r2 h1 h2
  refine ⟨in_ok hA i0 (by omega), ?_⟩
  ((try (conv => cbv)); repeat (refine brk_ok hA ?_; (try (conv => cbv))))
  refine ⟨x, r1, ?_⟩
  ((try (conv => cbv)); repeat (refine brk_ok hA ?_; (try (conv => cbv))))
  refine ⟨in_ok hA i0 (by omega), ?_⟩
  ((try (conv => cbv)); repeat (refine brk_ok hA ?_; (try (conv => cbv))))
  refine ⟨y, r2, ?_⟩
  ((try (conv => cbv)); repeat (refine brk_ok hA ?_; (try (conv => cbv))))
  refine br (x ≠ y) (by rw [e_neq hA]) (fun c => ?_) (fun c => ?_) <;> (try (conv => cbv)) <;> repeat (refine brk_ok hA ?_; (try (conv => cbv)))
  · obtain ⟨h10, hh10⟩ : ∃ z, z = bump h9 10 := ⟨_, rfl⟩
    have e10 : Ext h9 h10 := by rw [hh10]; exact ext_bump hA _ _
    rw [← hh10]
    have r3 := rd_dig hA (oa.ext (e9.trans e10) la) hl i0 i1
    have r4 := rd_dig hA (ob.ext (e9.trans e10) lb) hk i0 i1
    rw [← hx] at r3
    rw [← hy] at r4
    refine ⟨in_ok hA i0 (by omega), ?_⟩
    ((try (conv => cbv)); repeat (refine brk_ok hA ?_; (try (conv => cbv))))
    refine ⟨x, r3, ?_⟩
    ((try (conv => cbv)); repeat (refine brk_ok hA ?_; (try (conv => cbv))))
    refine ⟨in_ok hA i0 (by omega), ?_⟩
    ((try (conv => cbv)); repeat (refine brk_ok hA ?_; (try (conv => cbv))))
    refine ⟨y, r4, ?_⟩
    ((try (conv => cbv)); repeat (refine brk_ok hA ?_; (try (conv => cbv))))
    exact h1 c _ _ _ h10 (e9.trans e10)
  · rw [sub64 hA (by omega) (by omega)]
    exact h2 (by omega) h9 e9

theorem below_ok {h : AHeap} (hlow : h.low ≤ h.next) {a0 a1 a2 a3 b0 b1 b2 b3 M N : Int} (hm : Dig4 M a0 a1 a2 a3) (hn : Dig4 N b0 b1 b2 b3) {Q : Value → AHeap → Prop}
    (hQ : ∀ (r : Bool) h', (r = true ↔ M < N) → Ext h h' → Q (.bool r) h') : call 78 [.agg #[.int .u64 a0, .int .u64 a1, .int .u64 a2, .int .u64 a3], .agg #[.int .u64 b0, .int .u64 b1, .int .u64 b2, .int .u64 b3]] h Q := by
  refine hA.bodyR Try.func78 r78_ok (hA.alike _ _ _ rfl) hlow ?_; (try (conv => cbv)); repeat (refine brk_ok hA ?_; (try (conv => cbv)))
  rw [e_next hA, e_push hA, e_next hA, e_push hA]
  have e1 : Ext h (h.push 4 [Value.int .u64 a0, Value.int .u64 a1, Value.int .u64 a2, Value.int .u64 a3]) := .push _ _ _
  have o1 : Own (h.push 4 [Value.int .u64 a0, Value.int .u64 a1, Value.int .u64 a2, Value.int .u64 a3]) h.next 4 [Value.int .u64 a0, Value.int .u64 a1, Value.int .u64 a2, Value.int .u64 a3] := Own.push _ _ _
  have n1 : (h.push 4 [Value.int .u64 a0, Value.int .u64 a1, Value.int .u64 a2, Value.int .u64 a3]).next = h.next + 1 := rfl
  generalize h.push 4 [Value.int .u64 a0, Value.int .u64 a1, Value.int .u64 a2, Value.int .u64 a3] = h1 at *
  have e2 : Ext h1 (h1.push 4 [Value.int .u64 b0, Value.int .u64 b1, Value.int .u64 b2, Value.int .u64 b3]) := .push _ _ _
  have o2 : Own (h1.push 4 [Value.int .u64 b0, Value.int .u64 b1, Value.int .u64 b2, Value.int .u64 b3]) h1.next 4 [Value.int .u64 b0, Value.int .u64 b1, Value.int .u64 b2, Value.int .u64 b3] := Own.push _ _ _
  have n2 : (h1.push 4 [Value.int .u64 b0, Value.int .u64 b1, Value.int .u64 b2, Value.int .u64 b3]).next = h1.next + 1 := rfl
  generalize h1.push 4 [Value.int .u64 b0, Value.int .u64 b1, Value.int .u64 b2, Value.int .u64 b3] = h2 at *
  have e02 := e1.trans e2
  have oa : Own h2 h.next 4 ([a0, a1, a2, a3].map (.int .u64)) := o1.ext e2 (by omega)
  have ob : Own h2 h1.next 4 ([b0, b1, b2, b3].map (.int .u64)) := o2
  obtain ⟨m1, m2, m3, m4, m5⟩ := hm
  obtain ⟨k1, k2, k3, k4, k5⟩ := hn
  have res : ∀ (i : Int) (x y : Int), (M < N ↔ x < y) → ∀ h', Ext h2 h' → Q (.bool (cmp .lss x y)) h' := fun i x y hxy h' x' => hQ _ _ (by rw [e_lss hA, decide_eq_true_iff]; exact hxy.symm) (e02.trans x')
  refine below_step hA oa ob (by omega) (by omega) rfl rfl (i := 3) (by omega) (by omega) (fun c e kn K h' x' => ?_) (fun c3 h3 x3 => ?_)
  · ((try (conv => cbv)); repeat (refine brk_ok hA ?_; (try (conv => cbv))))
    exact res 3 a3 b3 (by have c' : a3 ≠ b3 := c; omega) h' x'
  have c3' : a3 = b3 := c3
  refine below_step hA (oa.ext x3 (by omega)) (ob.ext x3 (by omega)) (by have := x3.next; omega) (by have := x3.next; omega) rfl rfl (i := 3 - 1) (by omega) (by omega) (fun c e kn K h' x' => ?_) (fun c2 h4 x4 => ?_)
  · ((try (conv => cbv)); repeat (refine brk_ok hA ?_; (try (conv => cbv))))
    exact res 2 a2 b2 (by have c' : a2 ≠ b2 := c; omega) h' (x3.trans x')
  have c2' : a2 = b2 := c2
  have x34 := x3.trans x4
  refine below_step hA (oa.ext x34 (by omega)) (ob.ext x34 (by omega)) (by have := x34.next; omega) (by have := x34.next; omega) rfl rfl (i := 3 - 1 - 1) (by omega) (by omega) (fun c e kn K h' x' => ?_) (fun c1 h5 x5 => ?_)
  · ((try (conv => cbv)); repeat (refine brk_ok hA ?_; (try (conv => cbv))))
    exact res 1 a1 b1 (by have c' : a1 ≠ b1 := c; omega) h' (x34.trans x')
  have c1' : a1 = b1 := c1
  have x35 := x34.trans x5
  refine below_step hA (oa.ext x35 (by omega)) (ob.ext x35 (by omega)) (by have := x35.next; omega) (by have := x35.next; omega) rfl rfl (i := 3 - 1 - 1 - 1) (by omega) (by omega) (fun c e kn K h' x' => ?_) (fun c0 h6 x6 => ?_)
  · ((try (conv => cbv)); repeat (refine brk_ok hA ?_; (try (conv => cbv))))
    exact res 0 a0 b0 (by have c' : a0 ≠ b0 := c; omega) h' (x35.trans x')
  have c0' : a0 = b0 := c0
  refine hA.roundR Try.func78 r78_ok ?_; (try (conv => cbv)); repeat (refine brk_ok hA ?_; (try (conv => cbv)))
  refine br (False) (by rw [e_geq hA]; rfl) (fun q => q.elim) (fun _ => ?_) <;> (try (conv => cbv)) <;> repeat (refine brk_ok hA ?_; (try (conv => cbv)))
  exact hQ false h6 (no (by omega)) (e02.trans (x35.trans x6))

end Go.Proofs.Ytnokkniofajnhaa
