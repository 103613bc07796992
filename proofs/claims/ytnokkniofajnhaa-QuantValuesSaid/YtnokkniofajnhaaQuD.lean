/-
  Corrections as they lie in memory; small fractions.
-/
import Derived.Test.YtnokkniofajnhaaSymRows
import Derived.Test.YtnokkniofajnhaaFracV
import Derived.Test.YtnokkniofajnhaaFracK
import Derived.Test.YtnokkniofajnhaaQuP
namespace Go.Proofs.Ytnokkniofajnhaa
open Go.Sim
set_option linter.unusedVariables false
set_option maxRecDepth 100000

structure Kr where
  xn : Int
  xd : Int
  yn : Int
  yd : Int
instance : Inhabited Kr := ⟨⟨0, 0, 0, 0⟩⟩
def Kr.cells (k : Kr) : List Value := [.int .i64 k.xn, .int .i64 k.xd, .int .i64 k.yn, .int .i64 k.yd]
def Kr.i64 (k : Kr) : Prop := Proofs.Ytnokkniofajnhaa.i64 k.xn ∧ Proofs.Ytnokkniofajnhaa.i64 k.xd ∧ Proofs.Ytnokkniofajnhaa.i64 k.yn ∧ Proofs.Ytnokkniofajnhaa.i64 k.yd
abbrev Ks (h : AHeap) (a : Option Addr) (n : Nat) (l : List Kr) : Prop := Rows Kr.cells 4 h a n l
def allI64 (l : List Kr) : Prop := ∀ i : Int, 0 ≤ i → i < l.length → (gt l i).i64

theorem ks_at {h : AHeap} {a : Option Addr} {n : Nat} {l : List Kr} (p : Ks h a n l) (q : allI64 l) {i : Int} (h0 : 0 ≤ i) (hi : i < n) :
    ∃ b o x y z w, a = some ⟨b, o, none⟩ ∧ b < h.next ∧ gt l i = ⟨x, y, z, w⟩ ∧ i64 x ∧ i64 y ∧ i64 z ∧ i64 w ∧ h.readG ⟨b, o + i.toNat * 4, none⟩ 4 = some [.int .i64 x, .int .i64 y, .int .i64 z, .int .i64 w] ∧
      h.readG ⟨b, o + i.toNat * 4 + 0, none⟩ 2 = some [.int .i64 x, .int .i64 y] ∧ h.readG ⟨b, o + i.toNat * 4 + 2, none⟩ 2 = some [.int .i64 z, .int .i64 w] := by
  have hl := p.len
  obtain ⟨b, o, h1, h2, h3⟩ := p.at h0 hi
  obtain ⟨q1, q2, q3, q4⟩ := q i h0 (by omega)
  exact ⟨b, o, (gt l i).xn, (gt l i).xd, (gt l i).yn, (gt l i).yd, h1, h2, rfl, q1, q2, q3, q4, h3 0 4 (by omega) (by omega), h3 0 2 (by omega) (by omega), h3 2 2 (by omega) (by omega)⟩

theorem ks_in {h : AHeap} {b o n : Nat} {l : List Kr} (p : Ks h (some ⟨b, o, none⟩) n l) (q : allI64 l) {i : Int} (h0 : 0 ≤ i) (hi : i < n) :
    b < h.next ∧ ∃ x y z w, gt l i = ⟨x, y, z, w⟩ ∧ i64 x ∧ i64 y ∧ i64 z ∧ i64 w ∧ h.readG ⟨b, o + i.toNat * 4, none⟩ 4 = some [.int .i64 x, .int .i64 y, .int .i64 z, .int .i64 w] ∧
      h.readG ⟨b, o + i.toNat * 4 + 0, none⟩ 2 = some [.int .i64 x, .int .i64 y] ∧ h.readG ⟨b, o + i.toNat * 4 + 2, none⟩ 2 = some [.int .i64 z, .int .i64 w] := by
  obtain ⟨b', o', x, y, z, w, e, h2, h3⟩ := ks_at p q h0 hi
  cases e
  exact ⟨h2, x, y, z, w, h3⟩
theorem ks_some {h : AHeap} {a : Option Addr} {n : Nat} {l : List Kr} (p : Ks h a n l) (hn : 0 < n) : ∃ b o, a = some ⟨b, o, none⟩ := by
  obtain ⟨b, o, h1, _⟩ := p.at (i := 0) (by omega) (by omega)
  exact ⟨b, o, h1⟩

/-- A valid fraction whose numbers are at most this great. -/
def smallF (m n d : Int) : Prop := okF n d ∧ -m ≤ n ∧ n ≤ m ∧ d ≤ m
def rq (n d : Int) : Rat := (n : Rat) / (d : Rat)
theorem okF.is {n d : Int} (h : okF n d) : isF n d (rq n d) := by
  obtain ⟨q, hq⟩ := h
  have := hq.val
  unfold rq
  rw [← this]
  exact hq
theorem isF.rq {n d : Int} {q : Rat} (h : isF n d q) : rq n d = q := h.val.symm

variable {F : Prims}
  {call : FuncId → List Value → AHeap → (Value → AHeap → Prop) → Prop}
  {head : FuncId → Nat → Nat → SS → (Exit → SS → Prop) → Prop}
  {arith : BinOp → IntKind → Int → Int → Int}
  {cmp : BinOp → Int → Int → Bool}
  {scmp : BinOp → ByteArray → ByteArray → Bool}
  {bnot : Bool → Bool}
  {bsame : Bool → Bool → Bool}
  {conv : IntKind → Int → Int}
  {neg : IntKind → Int → Int}
  {imax : Int → Int → Int}
  {imin : Int → Int → Int}
  {ofNat : Nat → Int}
  {slen : ByteArray → Int}
  {place : Nat → Int → Nat → Nat}
  {inR : Int → Nat → Prop}
  {nz : Int → Prop}
  {geZ : Int → Prop}
  {rd : AHeap → Nat → Nat → Nat → List Value → Prop}
  {wr : AHeap → Nat → Nat → List Value → AHeap → Prop}
  {push : AHeap → Nat → List Value → AHeap}
  {next : AHeap → Nat}
  {mkOK : Int → Int → Prop}
  {nat : Int → Nat}
  {zeros : List Value → Int → List Value}
  {sadd : ByteArray → ByteArray → (ByteArray → Prop) → Prop}
  {eqAgg : TypeId → Array Value → Array Value → (Bool → Prop) → Prop}
  {cut : Nat → Int → Prop}
  {slc : TypeId → Value → Option Value → Option Value → Option Value → (Option Addr → Nat → Nat → Prop) → Prop}
  {sslc : TypeId → ByteArray → Option Value → Option Value → (ByteArray → Prop) → Prop}
  {strAt : ByteArray → Int → (Int → Prop) → Prop}
  {part : TypeId → Array Value → Nat → Value → Prop}
  {app : List TypeId → List Value → AHeap → (Option Addr → Nat → Nat → AHeap → Prop) → Prop}
  {cpy : List TypeId → List Value → AHeap → (Int → AHeap → Prop) → Prop}
  {putAt : AHeap → Nat → Nat → List Value → AHeap}
  {fresh : AHeap → AHeap}
  {lowered : AHeap → AHeap → AHeap}
  {bump : AHeap → Nat → AHeap}
  {wrote : AHeap → AHeap → Bool}
  {addN : Nat → Nat → Nat}
  {lt : Nat → Nat → Prop}
  {ne : Nat → Nat → Prop}
  {fpAll : Bool → Bool → Bool → Nat → Nat → Prop}
  {brk : (Unit → Prop) → Prop}
  {yn : Nat → Nat}
  {rng : FuncId → Nat → SS → (Exit → SS → Prop) → Prop}
  {mget : TypeId → Value → Value → AHeap → Value → Bool → Prop}
  {mput : TypeId → Value → Value → Value → AHeap → AHeap → Prop}
  {mnew : AHeap → AHeap}
  {bytes : TypeId → TypeId → Option Addr → Nat → AHeap → ByteArray → Prop}
  {clr : List TypeId → List Value → AHeap → AHeap → Prop}
  (hA : AP F ⟨call, head, arith, cmp, scmp, bnot, bsame, conv, neg, imax, imin, ofNat, slen, place, inR, nz, geZ, rd, wr, push, next, mkOK, nat, zeros, sadd, eqAgg, cut, slc, sslc, strAt, part, app, cpy, putAt, fresh, lowered, bump, wrote, addN, lt, ne, fpAll, brk, yn, rng, mget, mput, mnew, bytes, clr⟩)
include hA

theorem small_ok' {h : AHeap} (hlow : h.low ≤ h.next) {n d m : Int} (hn : i64 n) (hd : i64 d) (hm : 0 ≤ m ∧ m ≤ 1000000) {Q : Value → AHeap → Prop}
    (hQ : ∀ (r : Bool) h', (r = true ↔ smallF m n d) → Ext h h' → Q (.bool r) h') : call 33 [.agg #[.int .i64 n, .int .i64 d], .int .i64 m] h Q := by
  refine hA.bodyR Try.func33 r33_ok (hA.alike _ _ _ rfl) hlow ?_; (try (conv => cbv)); repeat (refine brk_ok hA ?_; (try (conv => cbv)))
  refine check_ok hA hlow hn hd (fun e h1 k1 x1 => ⟨_, rfl, ?_⟩)
  ((try (conv => cbv)); repeat (refine brk_ok hA ?_; (try (conv => cbv))))
  have em : neg .i64 m = -m := by rw [e_neg hA, wrap64 (by omega) (by omega)]; omega
  have no : (¬ smallF m n d) → ∀ h', Ext h h' → Q (.bool false) h' := fun w h' x => hQ false h' ⟨(fun q => by cases q), fun q => absurd q w⟩ x
  refine br (e = 0) (by rw [e_eql hA]) (fun c1 => ?_) (fun c1 => ?_) <;> (try (conv => cbv)) <;> repeat (refine brk_ok hA ?_; (try (conv => cbv)))
  rotate_left
  · exact no (fun w => by rcases k1 with ⟨q, _⟩ | ⟨_, q⟩; exact c1 q; exact q w.1) _ x1
  have hok : okF n d := by rcases k1 with ⟨_, q⟩ | ⟨q, _⟩; exact q; omega
  rw [em]
  refine br (-m ≤ n) (by rw [e_geq hA]) (fun c2 => ?_) (fun c2 => ?_) <;> (try (conv => cbv)) <;> repeat (refine brk_ok hA ?_; (try (conv => cbv)))
  rotate_left
  · exact no (fun w => c2 w.2.1) _ x1
  refine br (n ≤ m) (by rw [e_leq hA]) (fun c3 => ?_) (fun c3 => ?_) <;> (try (conv => cbv)) <;> repeat (refine brk_ok hA ?_; (try (conv => cbv)))
  rotate_left
  · exact no (fun w => c3 w.2.2.1) _ x1
  refine hQ _ _ ?_ x1
  rw [e_leq hA, decide_eq_true_iff]
  exact ⟨fun c4 => ⟨hok, c2, c3, c4⟩, fun w => w.2.2.2⟩

theorem fits_ok {h : AHeap} (hlow : h.low ≤ h.next) {n d m : Int} (hn : i64 n) (hd : i64 d) (hm : 0 ≤ m ∧ m ≤ 1000000) {Q : Value → AHeap → Prop}
    (hQ : ∀ (r : Bool) h', (r = true ↔ smallF m n d) → Ext h h' → Q (.bool r) h') : call 29 [.agg #[.int .i64 n, .int .i64 d], .int .i64 m] h Q := by
  refine hA.bodyR Try.func29 r29_ok (hA.alike _ _ _ rfl) hlow ?_; (try (conv => cbv)); repeat (refine brk_ok hA ?_; (try (conv => cbv)))
  refine rcheck_ok hA hlow hn hd (fun e h1 k1 x1 => ⟨_, rfl, ?_⟩)
  ((try (conv => cbv)); repeat (refine brk_ok hA ?_; (try (conv => cbv))))
  have em : neg .i64 m = -m := by rw [e_neg hA, wrap64 (by omega) (by omega)]; omega
  have no : (¬ smallF m n d) → ∀ h', Ext h h' → Q (.bool false) h' := fun w h' x => hQ false h' ⟨(fun q => by cases q), fun q => absurd q w⟩ x
  refine br (e = 0) (by rw [e_eql hA]) (fun c1 => ?_) (fun c1 => ?_) <;> (try (conv => cbv)) <;> repeat (refine brk_ok hA ?_; (try (conv => cbv)))
  rotate_left
  · exact no (fun w => by rcases k1 with ⟨q, _⟩ | ⟨_, q⟩; exact c1 q; exact q w.1) _ x1
  have hok : okF n d := by rcases k1 with ⟨_, q⟩ | ⟨q, _⟩; exact q; omega
  rw [em]
  refine br (-m ≤ n) (by rw [e_leq hA]) (fun c2 => ?_) (fun c2 => ?_) <;> (try (conv => cbv)) <;> repeat (refine brk_ok hA ?_; (try (conv => cbv)))
  rotate_left
  · exact no (fun w => c2 w.2.1) _ x1
  refine br (n ≤ m) (by rw [e_leq hA]) (fun c3 => ?_) (fun c3 => ?_) <;> (try (conv => cbv)) <;> repeat (refine brk_ok hA ?_; (try (conv => cbv)))
  rotate_left
  · exact no (fun w => c3 w.2.2.1) _ x1
  refine hQ _ _ ?_ x1
  rw [e_leq hA, decide_eq_true_iff]
  exact ⟨fun c4 => ⟨hok, c2, c3, c4⟩, fun w => w.2.2.2⟩

omit hA in
theorem cmpIs_of {n d m e c r : Int} {p q : Rat} (hp : isF n d p) (hq : isF m e q) (k : CmpIs n d m e c r) : c = cmpF p q ∧ r = 0 := by
  rcases k with ⟨w, _⟩ | ⟨p', q', hp', hq', k1, k2⟩
  · exact absurd ⟨⟨p, hp⟩, ⟨q, hq⟩⟩ w
  · obtain rfl := hp.uniq hp'
    obtain rfl := hq.uniq hq'
    exact ⟨k1, k2⟩

theorem qorder_ok {h : AHeap} (hlow : h.low ≤ h.next) {n d m e : Int} {p q : Rat} (hp : isF n d p) (hq : isF m e q) {Q : Value → AHeap → Prop}
    (hQ : ∀ (c : Int) h', c = cmpF p q → Ext h h' → Q (.int .i64 c) h') : call 34 [.agg #[.int .i64 n, .int .i64 d], .agg #[.int .i64 m, .int .i64 e]] h Q := by
  refine hA.bodyR Try.func34 r34_ok (hA.alike _ _ _ rfl) hlow ?_; (try (conv => cbv)); repeat (refine brk_ok hA ?_; (try (conv => cbv)))
  refine cmp_ok hA hlow hp.i64n hp.i64d hq.i64n hq.i64d (fun c r h1 k x => ⟨_, _, rfl, ?_⟩)
  ((try (conv => cbv)); repeat (refine brk_ok hA ?_; (try (conv => cbv))))
  exact hQ c h1 (cmpIs_of hp hq k).1 x

theorem qless_ok {h : AHeap} (hlow : h.low ≤ h.next) {n d m e : Int} {p q : Rat} (hp : isF n d p) (hq : isF m e q) {Q : Value → AHeap → Prop}
    (hQ : ∀ (r : Bool) h', (r = true ↔ p < q) → Ext h h' → Q (.bool r) h') : call 27 [.agg #[.int .i64 n, .int .i64 d], .agg #[.int .i64 m, .int .i64 e]] h Q := by
  refine hA.bodyR Try.func27 r27_ok (hA.alike _ _ _ rfl) hlow ?_; (try (conv => cbv)); repeat (refine brk_ok hA ?_; (try (conv => cbv)))
  refine rcmp_ok hA hlow hp.i64n hp.i64d hq.i64n hq.i64d (fun c r h1 k x => ⟨_, _, rfl, ?_⟩)
  ((try (conv => cbv)); repeat (refine brk_ok hA ?_; (try (conv => cbv))))
  refine hQ _ h1 ?_ x
  rw [e_lss hA, decide_eq_true_iff, (cmpIs_of hp hq k).1]
  exact cmpF_lt

end Go.Proofs.Ytnokkniofajnhaa
