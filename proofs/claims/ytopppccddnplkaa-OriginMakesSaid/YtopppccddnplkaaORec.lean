/-
  WHICH RECORDS ARE VALID (origin.isRecord, fringeref44.formed); DIGESTS (origin.Digest, fringeref44.Digest).
-/
import Derived.Test.YtopppccddnplkaaOData
namespace Go.Proofs.Ytopppccddnplkaa
open Go.Sim
set_option linter.unusedVariables false
set_option maxRecDepth 100000

/-- What a kind of records has. -/
def kindP (how fn arg dn : Int) : Prop :=
  (how = 1 ∧ fn = 0 ∧ arg = 0 ∧ dn ≤ 256) ∨ (how = 2 ∧ 1 ≤ fn ∧ fn ≤ 4 ∧ arg = 0 ∧ dn = 0) ∨ (how = 3 ∧ fn = 1 ∧ arg = 0 ∧ dn = 0) ∨ (how = 4 ∧ fn = 1 ∧ 0 ≤ arg ∧ arg ≤ 1000 ∧ dn = 0) ∨
    (how = 5 ∧ fn = 1 ∧ 0 ≤ arg ∧ arg ≤ 255 ∧ dn = 0) ∨ (how = 6 ∧ fn = 2 ∧ arg = 0 ∧ dn = 0) ∨ (how = 7 ∧ fn = 1 ∧ 1 ≤ arg ∧ arg ≤ 1000 ∧ dn = 0)
def formP (r : Rec) : Prop := nameP r.name ∧ 0 ≤ r.dig ∧ r.dig < 1000000007 ∧ kindP r.how r.frm.length r.arg r.data.length

/-- The digest. -/
def digS : Bytes → Int → Int
  | [], d => d
  | c :: b, d => digS b ((257 * d + c + 1) % 1000000007)
def dig (b : Bytes) : Int := digS b 0

theorem digS_drop (b : Bytes) {i : Int} (d : Int) (h0 : 0 ≤ i) (h1 : i < b.length) : digS (b.drop i.toNat) d = digS (b.drop (i + 1).toNat) ((257 * d + at' b i + 1) % 1000000007) := by
  have e : b.drop i.toNat = at' b i :: b.drop (i + 1).toNat := by
    rw [show (i + 1).toNat = i.toNat + 1 by omega, List.drop_eq_getElem_cons (by omega : i.toNat < b.length)]
    congr 1
    unfold at'
    rw [List.getD_eq_getElem?_getD, List.getElem?_eq_getElem (by omega)]
    rfl
  rw [e]
  rfl

variable {call : FuncId → List Value → AHeap → (Value → AHeap → Prop) → Prop}
  {head : FuncId → Nat → Nat → SS → (Exit → SS → Prop) → Prop}
  {arith : BinOp → IntKind → Int → Int → Int}
  {cmp : BinOp → Int → Int → Bool}
  {scmp : BinOp → ByteArray → ByteArray → Bool}
  {bnot : Bool → Bool}
  {bsame : Bool → Bool → Bool}
  {conv : IntKind → Int → Int}
  {neg : IntKind → Int → Int}
  {imax : Int → Int → Int}
  {imin : Int → Int → Int}
  {ofNat : Nat → Int}
  {slen : ByteArray → Int}
  {place : Nat → Int → Nat → Nat}
  {inR : Int → Nat → Prop}
  {nz : Int → Prop}
  {geZ : Int → Prop}
  {rd : AHeap → Nat → Nat → Nat → List Value → Prop}
  {wr : AHeap → Nat → Nat → List Value → AHeap → Prop}
  {push : AHeap → Nat → List Value → AHeap}
  {next : AHeap → Nat}
  {mkOK : Int → Int → Prop}
  {nat : Int → Nat}
  {zeros : List Value → Int → List Value}
  {sadd : ByteArray → ByteArray → (ByteArray → Prop) → Prop}
  {eqAgg : TypeId → Array Value → Array Value → (Bool → Prop) → Prop}
  {cut : Nat → Int → Prop}
  {slc : TypeId → Value → Option Value → Option Value → Option Value → (Option Addr → Nat → Nat → Prop) → Prop}
  {sslc : TypeId → ByteArray → Option Value → Option Value → (ByteArray → Prop) → Prop}
  {strAt : ByteArray → Int → (Int → Prop) → Prop}
  {part : TypeId → Array Value → Nat → Value → Prop}
  {app : List TypeId → List Value → AHeap → (Option Addr → Nat → Nat → AHeap → Prop) → Prop}
  {cpy : List TypeId → List Value → AHeap → (Int → AHeap → Prop) → Prop}
  {putAt : AHeap → Nat → Nat → List Value → AHeap}
  {fresh : AHeap → AHeap}
  {lowered : AHeap → AHeap → AHeap}
  {bump : AHeap → Nat → AHeap}
  {wrote : AHeap → AHeap → Bool}
  {addN : Nat → Nat → Nat}
  {lt : Nat → Nat → Prop}
  {ne : Nat → Nat → Prop}
  {fpAll : Bool → Bool → Bool → Nat → Nat → Prop}
  {brk : (Unit → Prop) → Prop}
  {yn : Nat → Nat}
  {rng : FuncId → Nat → SS → (Exit → SS → Prop) → Prop}
  {mget : TypeId → Value → Value → AHeap → Value → Bool → Prop}
  {mput : TypeId → Value → Value → Value → AHeap → AHeap → Prop}
  {mnew : AHeap → AHeap}
  {bytes : TypeId → TypeId → Option Addr → Nat → AHeap → ByteArray → Prop}
  {clr : List TypeId → List Value → AHeap → AHeap → Prop}
  (hA : AOK progU hint prims ⟨call, head, arith, cmp, scmp, bnot, bsame, conv, neg, imax, imin, ofNat, slen, place, inR, nz, geZ, rd, wr, push, next, mkOK, nat, zeros, sadd, eqAgg, cut, slc, sslc, strAt, part, app, cpy, putAt, fresh, lowered, bump, wrote, addN, lt, ne, fpAll, brk, yn, rng, mget, mput, mnew, bytes, clr⟩)
include hA


theorem isRec_ok {h : AHeap} (hlow : h.low ≤ h.next) {x : RH} {r : Rec} (hx : RelR h x r) (hsz : r.name.size ≤ 1000000) {Q : Value → AHeap → Prop} (hQ : ∀ b : Bool, (b = true ↔ formP r) → Q (.bool b) h) : call 42 [.agg x.cells.toArray] h Q := by
  obtain ⟨nm, how, fa, fn, fc, arg, da, dn, dc, dg⟩ := x
  obtain ⟨rname, rhow, rfrm, rarg, rdata, rdig⟩ := r
  obtain ⟨q1, q2, q3, q4, q5, q6⟩ := hx
  simp only [] at q1 q2 q3 q4 q5 q6 hsz
  subst q1 q2 q3 q4
  have lf := q5.len
  have ld := q6.len
  have bt : bnot true = false := by rw [e_bnot hA]; rfl
  have bf : bnot false = true := by rw [e_bnot hA]; rfl
  unfold formP at hQ
  simp only [] at hQ
  rw [lf, ld] at hQ
  refine hA.bodyR Try.func42 r42_ok (show prims _ _ _ = none from rfl) hlow ?_; (try (conv => cbv)); repeat (refine brk_ok hA ?_; (try (conv => cbv)))
  refine isName_ok hA hlow hsz (fun r hr => ⟨_, rfl, ?_⟩)
  ((try (conv => cbv)); repeat (refine brk_ok hA ?_; (try (conv => cbv))))
  cases r with
  | false =>
    rw [bf]
    ((try (conv => cbv)); repeat (refine brk_ok hA ?_; (try (conv => cbv))))
    exact hQ _ (no (fun q => by have := hr.2 q.1; cases this))
  | true =>
  have hn := hr.1 rfl
  rw [bt]
  ((try (conv => cbv)); repeat (refine brk_ok hA ?_; (try (conv => cbv))))
  refine br (dg < 0) (by rw [e_lss hA]) (fun c1 => ?_) (fun c1 => ?_) <;> (try (conv => cbv)) <;> repeat (refine brk_ok hA ?_; (try (conv => cbv)))
  · exact hQ _ (no (fun q => by have := q.2.1; omega))
  refine br (1000000007 ≤ dg) (by rw [e_geq hA]) (fun c2 => ?_) (fun c2 => ?_) <;> (try (conv => cbv)) <;> repeat (refine brk_ok hA ?_; (try (conv => cbv)))
  · exact hQ _ (no (fun q => by have := q.2.2.1; omega))
  have ans : ∀ {b : Bool} (p : Prop) [Decidable p], b = decide p → (p ↔ kindP how fn arg dn) → Q (.bool b) h := by
    intro b p _ hb hp
    refine hQ _ ?_
    rw [hb, decide_eq_true_eq, hp]
    exact ⟨fun k => ⟨hn, by omega, by omega, k⟩, fun k => k.2.2.2⟩
  unfold kindP at ans
  refine br (how = 1) (by rw [e_eql hA]) (fun k1 => ?_) (fun k1 => ?_) <;> (try (conv => cbv)) <;> repeat (refine brk_ok hA ?_; (try (conv => cbv)))
  · refine br ((fn : Int) = 0) (by rw [e_eql hA, e_ofNat hA]) (fun c3 => ?_) (fun c3 => ?_) <;> (try (conv => cbv)) <;> repeat (refine brk_ok hA ?_; (try (conv => cbv)))
    rotate_left
    · exact hQ _ (no (fun q => by have := q.2.2.2; unfold kindP at this; omega))
    refine br (arg = 0) (by rw [e_eql hA]) (fun c4 => ?_) (fun c4 => ?_) <;> (try (conv => cbv)) <;> repeat (refine brk_ok hA ?_; (try (conv => cbv)))
    rotate_left
    · exact hQ _ (no (fun q => by have := q.2.2.2; unfold kindP at this; omega))
    exact ans ((dn : Int) ≤ 256) (by rw [e_leq hA, e_ofNat hA]) (by omega)
  refine br ((dn : Int) ≠ 0) (by rw [e_neq hA, e_ofNat hA]) (fun c3 => ?_) (fun c3 => ?_) <;> (try (conv => cbv)) <;> repeat (refine brk_ok hA ?_; (try (conv => cbv)))
  · exact hQ _ (no (fun q => by have := q.2.2.2; unfold kindP at this; omega))
  refine br (how = 2) (by rw [e_eql hA]) (fun k2 => ?_) (fun k2 => ?_) <;> (try (conv => cbv)) <;> repeat (refine brk_ok hA ?_; (try (conv => cbv)))
  · refine br (1 ≤ (fn : Int)) (by rw [e_geq hA, e_ofNat hA]) (fun c4 => ?_) (fun c4 => ?_) <;> (try (conv => cbv)) <;> repeat (refine brk_ok hA ?_; (try (conv => cbv)))
    rotate_left
    · exact hQ _ (no (fun q => by have := q.2.2.2; unfold kindP at this; omega))
    refine br ((fn : Int) ≤ 4) (by rw [e_leq hA, e_ofNat hA]) (fun c5 => ?_) (fun c5 => ?_) <;> (try (conv => cbv)) <;> repeat (refine brk_ok hA ?_; (try (conv => cbv)))
    rotate_left
    · exact hQ _ (no (fun q => by have := q.2.2.2; unfold kindP at this; omega))
    exact ans (arg = 0) (by rw [e_eql hA]) (by omega)
  refine br (how = 3) (by rw [e_eql hA]) (fun k3 => ?_) (fun k3 => ?_) <;> (try (conv => cbv)) <;> repeat (refine brk_ok hA ?_; (try (conv => cbv)))
  · refine br ((fn : Int) = 1) (by rw [e_eql hA, e_ofNat hA]) (fun c4 => ?_) (fun c4 => ?_) <;> (try (conv => cbv)) <;> repeat (refine brk_ok hA ?_; (try (conv => cbv)))
    rotate_left
    · exact hQ _ (no (fun q => by have := q.2.2.2; unfold kindP at this; omega))
    exact ans (arg = 0) (by rw [e_eql hA]) (by omega)
  refine br (how = 4) (by rw [e_eql hA]) (fun k4 => ?_) (fun k4 => ?_) <;> (try (conv => cbv)) <;> repeat (refine brk_ok hA ?_; (try (conv => cbv)))
  · refine br ((fn : Int) = 1) (by rw [e_eql hA, e_ofNat hA]) (fun c4 => ?_) (fun c4 => ?_) <;> (try (conv => cbv)) <;> repeat (refine brk_ok hA ?_; (try (conv => cbv)))
    rotate_left
    · exact hQ _ (no (fun q => by have := q.2.2.2; unfold kindP at this; omega))
    refine br (0 ≤ arg) (by rw [e_geq hA]) (fun c5 => ?_) (fun c5 => ?_) <;> (try (conv => cbv)) <;> repeat (refine brk_ok hA ?_; (try (conv => cbv)))
    rotate_left
    · exact hQ _ (no (fun q => by have := q.2.2.2; unfold kindP at this; omega))
    exact ans (arg ≤ 1000) (by rw [e_leq hA]) (by omega)
  refine br (how = 5) (by rw [e_eql hA]) (fun k5 => ?_) (fun k5 => ?_) <;> (try (conv => cbv)) <;> repeat (refine brk_ok hA ?_; (try (conv => cbv)))
  · refine br ((fn : Int) = 1) (by rw [e_eql hA, e_ofNat hA]) (fun c4 => ?_) (fun c4 => ?_) <;> (try (conv => cbv)) <;> repeat (refine brk_ok hA ?_; (try (conv => cbv)))
    rotate_left
    · exact hQ _ (no (fun q => by have := q.2.2.2; unfold kindP at this; omega))
    refine br (0 ≤ arg) (by rw [e_geq hA]) (fun c5 => ?_) (fun c5 => ?_) <;> (try (conv => cbv)) <;> repeat (refine brk_ok hA ?_; (try (conv => cbv)))
    rotate_left
    · exact hQ _ (no (fun q => by have := q.2.2.2; unfold kindP at this; omega))
    exact ans (arg ≤ 255) (by rw [e_leq hA]) (by omega)
  refine br (how = 6) (by rw [e_eql hA]) (fun k6 => ?_) (fun k6 => ?_) <;> (try (conv => cbv)) <;> repeat (refine brk_ok hA ?_; (try (conv => cbv)))
  · refine br ((fn : Int) = 2) (by rw [e_eql hA, e_ofNat hA]) (fun c4 => ?_) (fun c4 => ?_) <;> (try (conv => cbv)) <;> repeat (refine brk_ok hA ?_; (try (conv => cbv)))
    rotate_left
    · exact hQ _ (no (fun q => by have := q.2.2.2; unfold kindP at this; omega))
    exact ans (arg = 0) (by rw [e_eql hA]) (by omega)
  refine br (how = 7) (by rw [e_eql hA]) (fun k7 => ?_) (fun k7 => ?_) <;> (try (conv => cbv)) <;> repeat (refine brk_ok hA ?_; (try (conv => cbv)))
  · refine br ((fn : Int) = 1) (by rw [e_eql hA, e_ofNat hA]) (fun c4 => ?_) (fun c4 => ?_) <;> (try (conv => cbv)) <;> repeat (refine brk_ok hA ?_; (try (conv => cbv)))
    rotate_left
    · exact hQ _ (no (fun q => by have := q.2.2.2; unfold kindP at this; omega))
    refine br (1 ≤ arg) (by rw [e_geq hA]) (fun c5 => ?_) (fun c5 => ?_) <;> (try (conv => cbv)) <;> repeat (refine brk_ok hA ?_; (try (conv => cbv)))
    rotate_left
    · exact hQ _ (no (fun q => by have := q.2.2.2; unfold kindP at this; omega))
    exact ans (arg ≤ 1000) (by rw [e_leq hA]) (by omega)
  exact hQ _ (no (fun q => by have := q.2.2.2; unfold kindP at this; omega))

theorem dig_loop {h : AHeap} {a : Option Addr} {n c : Nat} {l : Bytes} (hs : Byts h a n c l) (hb : okB l) (hn : (n : Int) ≤ 1000000) {Q : Exit → SS → Prop}
    (h1 : ∀ d : Int, d = dig l → Q (.exit 0) ⟨[(3, .int .i64 d)], 0, [], h⟩) :
    ∀ i : Int, 0 ≤ i → i ≤ n → ∀ d : Int, 0 ≤ d → d < 1000000007 → digS (l.drop i.toNat) d = dig l → head 19 3 0 ⟨[(3, .int .i64 d), (6, .slice a n c), (7, .int .i64 (ofNat n)), (8, .int .i64 i)], 0, [], h⟩ Q := by
  have hl := hs.len
  refine countUp (fun i hi0 hin ih d d0 d1 hd => ?_)
  refine hA.roundR Try.func19 r19_ok ?_; (try (conv => cbv)); repeat (refine brk_ok hA ?_; (try (conv => cbv)))
  refine br (i < n) (by rw [e_lss hA, e_ofNat hA]) (fun c1 => ?_) (fun c1 => ?_) <;> (try (conv => cbv)) <;> repeat (refine brk_ok hA ?_; (try (conv => cbv)))
  · obtain ⟨b, o, x, hae, hbn, hx, hrd⟩ := hs.at hi0 c1
    have hxb := okB_at hb hi0 (by omega : i < l.length)
    rw [← hx] at hxb
    refine ⟨b, o, hae, in_ok hA hi0 c1, ?_⟩
    ((try (conv => cbv)); repeat (refine brk_ok hA ?_; (try (conv => cbv))))
    refine ⟨x, rd_ok hA hrd, ?_⟩
    ((try (conv => cbv)); repeat (refine brk_ok hA ?_; (try (conv => cbv))))
    obtain ⟨m1, hm1⟩ : ∃ v, v = 257 * d := ⟨_, rfl⟩
    obtain ⟨m2, hm2⟩ : ∃ v, v = m1 + x := ⟨_, rfl⟩
    obtain ⟨m3, hm3⟩ : ∃ v, v = m2 + 1 := ⟨_, rfl⟩
    obtain ⟨m4, hm4⟩ : ∃ v, v = m3 % 1000000007 := ⟨_, rfl⟩
    have e1 : arith .mul .i64 257 d = m1 := by rw [hm1]; exact mul64 hA (by omega) (by omega)
    have e2 : conv .i64 x = x := conv64 hA (by omega) (by omega)
    have e3 : arith .add .i64 m1 x = m2 := by rw [hm2]; exact add64 hA (by omega) (by omega)
    have e4 : arith .add .i64 m2 1 = m3 := by rw [hm3]; exact add64 hA (by omega) (by omega)
    have e5 : arith .rem .i64 m3 1000000007 = m4 := by rw [hm4]; exact rem64 hA (by omega)
    rw [e1, e2, e3, e4]
    refine ⟨nz_ok hA (by omega), ?_⟩
    ((try (conv => cbv)); repeat (refine brk_ok hA ?_; (try (conv => cbv))))
    rw [e5, add64 hA (by omega) (by omega)]
    refine ih c1 m4 (by omega) (by omega) ?_
    rw [← hd, digS_drop l d hi0 (by omega), ← hx, hm4, hm3, hm2, hm1]
  · refine h1 d ?_
    rw [List.drop_eq_nil_of_le (by omega)] at hd
    exact hd

theorem dig_ok {h : AHeap} (hlow : h.low ≤ h.next) {a : Option Addr} {n c : Nat} {l : Bytes} (hs : Byts h a n c l) (hb : okB l) (hn : (n : Int) ≤ 1000000) {Q : Value → AHeap → Prop}
    (hQ : ∀ d : Int, d = dig l → Q (.int .i64 d) h) : call 19 [.slice a n c] h Q := by
  refine hA.bodyR Try.func19 r19_ok (show prims _ _ _ = none from rfl) hlow ?_; (try (conv => cbv)); repeat (refine brk_ok hA ?_; (try (conv => cbv)))
  refine dig_loop hA hs hb hn (fun d hd => ?_) 0 (by omega) (by omega) 0 (by omega) (by omega) rfl
  ((try (conv => cbv)); repeat (refine brk_ok hA ?_; (try (conv => cbv))))
  exact hQ d hd

theorem rdig_loop {h : AHeap} {a : Option Addr} {n c : Nat} {l : Bytes} (hs : Byts h a n c l) (hb : okB l) (hn : (n : Int) ≤ 1000000) {Q : Exit → SS → Prop}
    (h1 : ∀ d : Int, d = dig l → Q (.exit 0) ⟨[(3, .int .i64 d)], 0, [], h⟩) :
    ∀ i : Int, 0 ≤ i → i ≤ n → ∀ d : Int, 0 ≤ d → d < 1000000007 → digS (l.drop i.toNat) d = dig l → head 20 3 0 ⟨[(0, .slice a n c), (3, .int .i64 d), (4, .int .i64 i)], 0, [], h⟩ Q := by
  have hl := hs.len
  refine countUp (fun i hi0 hin ih d d0 d1 hd => ?_)
  refine hA.roundR Try.func20 r20_ok ?_; (try (conv => cbv)); repeat (refine brk_ok hA ?_; (try (conv => cbv)))
  refine br (i < n) (by rw [e_lss hA, e_ofNat hA]) (fun c1 => ?_) (fun c1 => ?_) <;> (try (conv => cbv)) <;> repeat (refine brk_ok hA ?_; (try (conv => cbv)))
  · obtain ⟨b, o, x, hae, hbn, hx, hrd⟩ := hs.at hi0 c1
    have hxb := okB_at hb hi0 (by omega : i < l.length)
    rw [← hx] at hxb
    refine ⟨b, o, hae, in_ok hA hi0 c1, ?_⟩
    ((try (conv => cbv)); repeat (refine brk_ok hA ?_; (try (conv => cbv))))
    refine ⟨x, rd_ok hA hrd, ?_⟩
    ((try (conv => cbv)); repeat (refine brk_ok hA ?_; (try (conv => cbv))))
    obtain ⟨m1, hm1⟩ : ∃ v, v = 257 * d := ⟨_, rfl⟩
    obtain ⟨m2, hm2⟩ : ∃ v, v = m1 + x := ⟨_, rfl⟩
    obtain ⟨m3, hm3⟩ : ∃ v, v = m2 + 1 := ⟨_, rfl⟩
    obtain ⟨m4, hm4⟩ : ∃ v, v = m3 % 1000000007 := ⟨_, rfl⟩
    have e1 : arith .mul .i64 257 d = m1 := by rw [hm1]; exact mul64 hA (by omega) (by omega)
    have e2 : conv .i64 x = x := conv64 hA (by omega) (by omega)
    have e3 : arith .add .i64 m1 x = m2 := by rw [hm2]; exact add64 hA (by omega) (by omega)
    have e4 : arith .add .i64 m2 1 = m3 := by rw [hm3]; exact add64 hA (by omega) (by omega)
    have e5 : arith .rem .i64 m3 1000000007 = m4 := by rw [hm4]; exact rem64 hA (by omega)
    rw [e1, e2, e3, e4]
    refine ⟨nz_ok hA (by omega), ?_⟩
    ((try (conv => cbv)); repeat (refine brk_ok hA ?_; (try (conv => cbv))))
    rw [e5, add64 hA (by omega) (by omega)]
    refine ih c1 m4 (by omega) (by omega) ?_
    rw [← hd, digS_drop l d hi0 (by omega), ← hx, hm4, hm3, hm2, hm1]
  · refine h1 d ?_
    rw [List.drop_eq_nil_of_le (by omega)] at hd
    exact hd
theorem rdig_ok {h : AHeap} (hlow : h.low ≤ h.next) {a : Option Addr} {n c : Nat} {l : Bytes} (hs : Byts h a n c l) (hb : okB l) (hn : (n : Int) ≤ 1000000) {Q : Value → AHeap → Prop}
    (hQ : ∀ d : Int, d = dig l → Q (.int .i64 d) h) : call 20 [.slice a n c] h Q := by
  refine hA.bodyR Try.func20 r20_ok (show prims _ _ _ = none from rfl) hlow ?_; (try (conv => cbv)); repeat (refine brk_ok hA ?_; (try (conv => cbv)))
  refine rdig_loop hA hs hb hn (fun d hd => ?_) 0 (by omega) (by omega) 0 (by omega) (by omega) rfl
  ((try (conv => cbv)); repeat (refine brk_ok hA ?_; (try (conv => cbv))))
  exact hQ d hd


set_option maxHeartbeats 4000000 in
theorem formed_ok {h : AHeap} (hlow : h.low ≤ h.next) {x : RH} {r : Rec} (hx : RelR h x r) (hsz : r.name.size ≤ 1000000) {Q : Value → AHeap → Prop} (hQ : ∀ b : Bool, (b = true ↔ formP r) → Q (.bool b) h) : call 45 [.agg x.cells.toArray] h Q := by
  obtain ⟨nm, how, fa, fn, fc, arg, da, dn, dc, dg⟩ := x
  obtain ⟨rname, rhow, rfrm, rarg, rdata, rdig⟩ := r
  obtain ⟨q1, q2, q3, q4, q5, q6⟩ := hx
  simp only [] at q1 q2 q3 q4 q5 q6 hsz
  subst q1 q2 q3 q4
  have lf := q5.len
  have ld := q6.len
  unfold formP at hQ
  simp only [] at hQ
  rw [lf, ld] at hQ
  refine hA.bodyR Try.func45 r45_ok (show prims _ _ _ = none from rfl) hlow ?_; (try (conv => cbv)); repeat (refine brk_ok hA ?_; (try (conv => cbv)))
  refine br (how = 1) (by rw [e_eql hA]) (fun k1 => ?_) (fun k1 => ?_) <;> (try (conv => cbv)) <;> repeat (refine brk_ok hA ?_; (try (conv => cbv)))
  · refine br (how = 7) (by rw [e_eql hA]) (fun k => by omega) (fun k => ?_) <;> (try (conv => cbv)) <;> repeat (refine brk_ok hA ?_; (try (conv => cbv)))
    refine rName_ok hA hlow hsz (fun r hr => ⟨_, rfl, ?_⟩)
    ((try (conv => cbv)); repeat (refine brk_ok hA ?_; (try (conv => cbv))))
    cases r with
    | false =>
      ((try (conv => cbv)); repeat (refine brk_ok hA ?_; (try (conv => cbv))))
      exact hQ _ (no (fun q => by have := hr.2 q.1; cases this))
    | true =>
    have hn := hr.1 rfl
    ((try (conv => cbv)); repeat (refine brk_ok hA ?_; (try (conv => cbv))))
    refine br (0 ≤ dg) (by rw [e_geq hA]) (fun c1 => ?_) (fun c1 => ?_) <;> (try (conv => cbv)) <;> repeat (refine brk_ok hA ?_; (try (conv => cbv)))
    rotate_left
    · exact hQ _ (no (fun q => by have := q.2.1; omega))
    refine br (dg < 1000000007) (by rw [e_lss hA]) (fun c2 => ?_) (fun c2 => ?_) <;> (try (conv => cbv)) <;> repeat (refine brk_ok hA ?_; (try (conv => cbv)))
    rotate_left
    · exact hQ _ (no (fun q => by have := q.2.2.1; omega))
    have ans : ∀ {b : Bool} (p : Prop) [Decidable p], b = decide p → (p ↔ kindP how fn arg dn) → Q (.bool b) h := by
      intro b p _ hb hp
      refine hQ _ ?_
      rw [hb, decide_eq_true_eq, hp]
      exact ⟨fun k => ⟨hn, by omega, by omega, k⟩, fun k => k.2.2.2⟩
    unfold kindP at ans
    refine brB (fun c3 => ?_) (fun c3 => ?_)
    rotate_left
    · rw [e_geq hA, e_ofNat hA, decide_eq_false_iff_not] at c3
      exact hQ _ (no (fun q => by have := q.2.2.2; unfold kindP at this; omega))
    rw [e_geq hA, e_ofNat hA, decide_eq_true_eq] at c3
    ((try (conv => cbv)); repeat (refine brk_ok hA ?_; (try (conv => cbv))))
    refine brB (fun c4 => ?_) (fun c4 => ?_)
    rotate_left
    · rw [e_leq hA, e_ofNat hA, decide_eq_false_iff_not] at c4
      exact hQ _ (no (fun q => by have := q.2.2.2; unfold kindP at this; omega))
    rw [e_leq hA, e_ofNat hA, decide_eq_true_eq] at c4
    ((try (conv => cbv)); repeat (refine brk_ok hA ?_; (try (conv => cbv))))
    refine br (0 ≤ arg) (by rw [e_geq hA]) (fun c5 => ?_) (fun c5 => ?_) <;> (try (conv => cbv)) <;> repeat (refine brk_ok hA ?_; (try (conv => cbv)))
    rotate_left
    · exact hQ _ (no (fun q => by have := q.2.2.2; unfold kindP at this; omega))
    refine brB (fun c6 => ?_) (fun c6 => ?_)
    rotate_left
    · rw [e_leq hA, decide_eq_false_iff_not] at c6
      exact hQ _ (no (fun q => by have := q.2.2.2; unfold kindP at this; omega))
    rw [e_leq hA, decide_eq_true_eq] at c6
    ((try (conv => cbv)); repeat (refine brk_ok hA ?_; (try (conv => cbv))))
    exact ans _ (by rw [e_leq hA, e_ofNat hA]) (by omega)
  refine br (how = 2) (by rw [e_eql hA]) (fun k2 => ?_) (fun k2 => ?_) <;> (try (conv => cbv)) <;> repeat (refine brk_ok hA ?_; (try (conv => cbv)))
  · refine br (how = 7) (by rw [e_eql hA]) (fun k => by omega) (fun k => ?_) <;> (try (conv => cbv)) <;> repeat (refine brk_ok hA ?_; (try (conv => cbv)))
    refine rName_ok hA hlow hsz (fun r hr => ⟨_, rfl, ?_⟩)
    ((try (conv => cbv)); repeat (refine brk_ok hA ?_; (try (conv => cbv))))
    cases r with
    | false =>
      ((try (conv => cbv)); repeat (refine brk_ok hA ?_; (try (conv => cbv))))
      exact hQ _ (no (fun q => by have := hr.2 q.1; cases this))
    | true =>
    have hn := hr.1 rfl
    ((try (conv => cbv)); repeat (refine brk_ok hA ?_; (try (conv => cbv))))
    refine br (0 ≤ dg) (by rw [e_geq hA]) (fun c1 => ?_) (fun c1 => ?_) <;> (try (conv => cbv)) <;> repeat (refine brk_ok hA ?_; (try (conv => cbv)))
    rotate_left
    · exact hQ _ (no (fun q => by have := q.2.1; omega))
    refine br (dg < 1000000007) (by rw [e_lss hA]) (fun c2 => ?_) (fun c2 => ?_) <;> (try (conv => cbv)) <;> repeat (refine brk_ok hA ?_; (try (conv => cbv)))
    rotate_left
    · exact hQ _ (no (fun q => by have := q.2.2.1; omega))
    have ans : ∀ {b : Bool} (p : Prop) [Decidable p], b = decide p → (p ↔ kindP how fn arg dn) → Q (.bool b) h := by
      intro b p _ hb hp
      refine hQ _ ?_
      rw [hb, decide_eq_true_eq, hp]
      exact ⟨fun k => ⟨hn, by omega, by omega, k⟩, fun k => k.2.2.2⟩
    unfold kindP at ans
    refine brB (fun c3 => ?_) (fun c3 => ?_)
    rotate_left
    · rw [e_geq hA, e_ofNat hA, decide_eq_false_iff_not] at c3
      exact hQ _ (no (fun q => by have := q.2.2.2; unfold kindP at this; omega))
    rw [e_geq hA, e_ofNat hA, decide_eq_true_eq] at c3
    ((try (conv => cbv)); repeat (refine brk_ok hA ?_; (try (conv => cbv))))
    refine brB (fun c4 => ?_) (fun c4 => ?_)
    rotate_left
    · rw [e_leq hA, e_ofNat hA, decide_eq_false_iff_not] at c4
      exact hQ _ (no (fun q => by have := q.2.2.2; unfold kindP at this; omega))
    rw [e_leq hA, e_ofNat hA, decide_eq_true_eq] at c4
    ((try (conv => cbv)); repeat (refine brk_ok hA ?_; (try (conv => cbv))))
    refine br (0 ≤ arg) (by rw [e_geq hA]) (fun c5 => ?_) (fun c5 => ?_) <;> (try (conv => cbv)) <;> repeat (refine brk_ok hA ?_; (try (conv => cbv)))
    rotate_left
    · exact hQ _ (no (fun q => by have := q.2.2.2; unfold kindP at this; omega))
    refine brB (fun c6 => ?_) (fun c6 => ?_)
    rotate_left
    · rw [e_leq hA, decide_eq_false_iff_not] at c6
      exact hQ _ (no (fun q => by have := q.2.2.2; unfold kindP at this; omega))
    rw [e_leq hA, decide_eq_true_eq] at c6
    ((try (conv => cbv)); repeat (refine brk_ok hA ?_; (try (conv => cbv))))
    exact ans _ (by rw [e_leq hA, e_ofNat hA]) (by omega)
  refine br (how = 3) (by rw [e_eql hA]) (fun k3 => ?_) (fun k3 => ?_) <;> (try (conv => cbv)) <;> repeat (refine brk_ok hA ?_; (try (conv => cbv)))
  · refine br (how = 7) (by rw [e_eql hA]) (fun k => by omega) (fun k => ?_) <;> (try (conv => cbv)) <;> repeat (refine brk_ok hA ?_; (try (conv => cbv)))
    refine rName_ok hA hlow hsz (fun r hr => ⟨_, rfl, ?_⟩)
    ((try (conv => cbv)); repeat (refine brk_ok hA ?_; (try (conv => cbv))))
    cases r with
    | false =>
      ((try (conv => cbv)); repeat (refine brk_ok hA ?_; (try (conv => cbv))))
      exact hQ _ (no (fun q => by have := hr.2 q.1; cases this))
    | true =>
    have hn := hr.1 rfl
    ((try (conv => cbv)); repeat (refine brk_ok hA ?_; (try (conv => cbv))))
    refine br (0 ≤ dg) (by rw [e_geq hA]) (fun c1 => ?_) (fun c1 => ?_) <;> (try (conv => cbv)) <;> repeat (refine brk_ok hA ?_; (try (conv => cbv)))
    rotate_left
    · exact hQ _ (no (fun q => by have := q.2.1; omega))
    refine br (dg < 1000000007) (by rw [e_lss hA]) (fun c2 => ?_) (fun c2 => ?_) <;> (try (conv => cbv)) <;> repeat (refine brk_ok hA ?_; (try (conv => cbv)))
    rotate_left
    · exact hQ _ (no (fun q => by have := q.2.2.1; omega))
    have ans : ∀ {b : Bool} (p : Prop) [Decidable p], b = decide p → (p ↔ kindP how fn arg dn) → Q (.bool b) h := by
      intro b p _ hb hp
      refine hQ _ ?_
      rw [hb, decide_eq_true_eq, hp]
      exact ⟨fun k => ⟨hn, by omega, by omega, k⟩, fun k => k.2.2.2⟩
    unfold kindP at ans
    refine brB (fun c3 => ?_) (fun c3 => ?_)
    rotate_left
    · rw [e_geq hA, e_ofNat hA, decide_eq_false_iff_not] at c3
      exact hQ _ (no (fun q => by have := q.2.2.2; unfold kindP at this; omega))
    rw [e_geq hA, e_ofNat hA, decide_eq_true_eq] at c3
    ((try (conv => cbv)); repeat (refine brk_ok hA ?_; (try (conv => cbv))))
    refine brB (fun c4 => ?_) (fun c4 => ?_)
    rotate_left
    · rw [e_leq hA, e_ofNat hA, decide_eq_false_iff_not] at c4
      exact hQ _ (no (fun q => by have := q.2.2.2; unfold kindP at this; omega))
    rw [e_leq hA, e_ofNat hA, decide_eq_true_eq] at c4
    ((try (conv => cbv)); repeat (refine brk_ok hA ?_; (try (conv => cbv))))
    refine br (0 ≤ arg) (by rw [e_geq hA]) (fun c5 => ?_) (fun c5 => ?_) <;> (try (conv => cbv)) <;> repeat (refine brk_ok hA ?_; (try (conv => cbv)))
    rotate_left
    · exact hQ _ (no (fun q => by have := q.2.2.2; unfold kindP at this; omega))
    refine brB (fun c6 => ?_) (fun c6 => ?_)
    rotate_left
    · rw [e_leq hA, decide_eq_false_iff_not] at c6
      exact hQ _ (no (fun q => by have := q.2.2.2; unfold kindP at this; omega))
    rw [e_leq hA, decide_eq_true_eq] at c6
    ((try (conv => cbv)); repeat (refine brk_ok hA ?_; (try (conv => cbv))))
    exact ans _ (by rw [e_leq hA, e_ofNat hA]) (by omega)
  refine br (how = 4) (by rw [e_eql hA]) (fun k4 => ?_) (fun k4 => ?_) <;> (try (conv => cbv)) <;> repeat (refine brk_ok hA ?_; (try (conv => cbv)))
  · refine br (how = 7) (by rw [e_eql hA]) (fun k => by omega) (fun k => ?_) <;> (try (conv => cbv)) <;> repeat (refine brk_ok hA ?_; (try (conv => cbv)))
    refine rName_ok hA hlow hsz (fun r hr => ⟨_, rfl, ?_⟩)
    ((try (conv => cbv)); repeat (refine brk_ok hA ?_; (try (conv => cbv))))
    cases r with
    | false =>
      ((try (conv => cbv)); repeat (refine brk_ok hA ?_; (try (conv => cbv))))
      exact hQ _ (no (fun q => by have := hr.2 q.1; cases this))
    | true =>
    have hn := hr.1 rfl
    ((try (conv => cbv)); repeat (refine brk_ok hA ?_; (try (conv => cbv))))
    refine br (0 ≤ dg) (by rw [e_geq hA]) (fun c1 => ?_) (fun c1 => ?_) <;> (try (conv => cbv)) <;> repeat (refine brk_ok hA ?_; (try (conv => cbv)))
    rotate_left
    · exact hQ _ (no (fun q => by have := q.2.1; omega))
    refine br (dg < 1000000007) (by rw [e_lss hA]) (fun c2 => ?_) (fun c2 => ?_) <;> (try (conv => cbv)) <;> repeat (refine brk_ok hA ?_; (try (conv => cbv)))
    rotate_left
    · exact hQ _ (no (fun q => by have := q.2.2.1; omega))
    have ans : ∀ {b : Bool} (p : Prop) [Decidable p], b = decide p → (p ↔ kindP how fn arg dn) → Q (.bool b) h := by
      intro b p _ hb hp
      refine hQ _ ?_
      rw [hb, decide_eq_true_eq, hp]
      exact ⟨fun k => ⟨hn, by omega, by omega, k⟩, fun k => k.2.2.2⟩
    unfold kindP at ans
    refine brB (fun c3 => ?_) (fun c3 => ?_)
    rotate_left
    · rw [e_geq hA, e_ofNat hA, decide_eq_false_iff_not] at c3
      exact hQ _ (no (fun q => by have := q.2.2.2; unfold kindP at this; omega))
    rw [e_geq hA, e_ofNat hA, decide_eq_true_eq] at c3
    ((try (conv => cbv)); repeat (refine brk_ok hA ?_; (try (conv => cbv))))
    refine brB (fun c4 => ?_) (fun c4 => ?_)
    rotate_left
    · rw [e_leq hA, e_ofNat hA, decide_eq_false_iff_not] at c4
      exact hQ _ (no (fun q => by have := q.2.2.2; unfold kindP at this; omega))
    rw [e_leq hA, e_ofNat hA, decide_eq_true_eq] at c4
    ((try (conv => cbv)); repeat (refine brk_ok hA ?_; (try (conv => cbv))))
    refine br (0 ≤ arg) (by rw [e_geq hA]) (fun c5 => ?_) (fun c5 => ?_) <;> (try (conv => cbv)) <;> repeat (refine brk_ok hA ?_; (try (conv => cbv)))
    rotate_left
    · exact hQ _ (no (fun q => by have := q.2.2.2; unfold kindP at this; omega))
    refine brB (fun c6 => ?_) (fun c6 => ?_)
    rotate_left
    · rw [e_leq hA, decide_eq_false_iff_not] at c6
      exact hQ _ (no (fun q => by have := q.2.2.2; unfold kindP at this; omega))
    rw [e_leq hA, decide_eq_true_eq] at c6
    ((try (conv => cbv)); repeat (refine brk_ok hA ?_; (try (conv => cbv))))
    exact ans _ (by rw [e_leq hA, e_ofNat hA]) (by omega)
  refine br (how = 5) (by rw [e_eql hA]) (fun k5 => ?_) (fun k5 => ?_) <;> (try (conv => cbv)) <;> repeat (refine brk_ok hA ?_; (try (conv => cbv)))
  · refine br (how = 7) (by rw [e_eql hA]) (fun k => by omega) (fun k => ?_) <;> (try (conv => cbv)) <;> repeat (refine brk_ok hA ?_; (try (conv => cbv)))
    refine rName_ok hA hlow hsz (fun r hr => ⟨_, rfl, ?_⟩)
    ((try (conv => cbv)); repeat (refine brk_ok hA ?_; (try (conv => cbv))))
    cases r with
    | false =>
      ((try (conv => cbv)); repeat (refine brk_ok hA ?_; (try (conv => cbv))))
      exact hQ _ (no (fun q => by have := hr.2 q.1; cases this))
    | true =>
    have hn := hr.1 rfl
    ((try (conv => cbv)); repeat (refine brk_ok hA ?_; (try (conv => cbv))))
    refine br (0 ≤ dg) (by rw [e_geq hA]) (fun c1 => ?_) (fun c1 => ?_) <;> (try (conv => cbv)) <;> repeat (refine brk_ok hA ?_; (try (conv => cbv)))
    rotate_left
    · exact hQ _ (no (fun q => by have := q.2.1; omega))
    refine br (dg < 1000000007) (by rw [e_lss hA]) (fun c2 => ?_) (fun c2 => ?_) <;> (try (conv => cbv)) <;> repeat (refine brk_ok hA ?_; (try (conv => cbv)))
    rotate_left
    · exact hQ _ (no (fun q => by have := q.2.2.1; omega))
    have ans : ∀ {b : Bool} (p : Prop) [Decidable p], b = decide p → (p ↔ kindP how fn arg dn) → Q (.bool b) h := by
      intro b p _ hb hp
      refine hQ _ ?_
      rw [hb, decide_eq_true_eq, hp]
      exact ⟨fun k => ⟨hn, by omega, by omega, k⟩, fun k => k.2.2.2⟩
    unfold kindP at ans
    refine brB (fun c3 => ?_) (fun c3 => ?_)
    rotate_left
    · rw [e_geq hA, e_ofNat hA, decide_eq_false_iff_not] at c3
      exact hQ _ (no (fun q => by have := q.2.2.2; unfold kindP at this; omega))
    rw [e_geq hA, e_ofNat hA, decide_eq_true_eq] at c3
    ((try (conv => cbv)); repeat (refine brk_ok hA ?_; (try (conv => cbv))))
    refine brB (fun c4 => ?_) (fun c4 => ?_)
    rotate_left
    · rw [e_leq hA, e_ofNat hA, decide_eq_false_iff_not] at c4
      exact hQ _ (no (fun q => by have := q.2.2.2; unfold kindP at this; omega))
    rw [e_leq hA, e_ofNat hA, decide_eq_true_eq] at c4
    ((try (conv => cbv)); repeat (refine brk_ok hA ?_; (try (conv => cbv))))
    refine br (0 ≤ arg) (by rw [e_geq hA]) (fun c5 => ?_) (fun c5 => ?_) <;> (try (conv => cbv)) <;> repeat (refine brk_ok hA ?_; (try (conv => cbv)))
    rotate_left
    · exact hQ _ (no (fun q => by have := q.2.2.2; unfold kindP at this; omega))
    refine brB (fun c6 => ?_) (fun c6 => ?_)
    rotate_left
    · rw [e_leq hA, decide_eq_false_iff_not] at c6
      exact hQ _ (no (fun q => by have := q.2.2.2; unfold kindP at this; omega))
    rw [e_leq hA, decide_eq_true_eq] at c6
    ((try (conv => cbv)); repeat (refine brk_ok hA ?_; (try (conv => cbv))))
    exact ans _ (by rw [e_leq hA, e_ofNat hA]) (by omega)
  refine br (how = 6) (by rw [e_eql hA]) (fun k6 => ?_) (fun k6 => ?_) <;> (try (conv => cbv)) <;> repeat (refine brk_ok hA ?_; (try (conv => cbv)))
  · refine br (how = 7) (by rw [e_eql hA]) (fun k => by omega) (fun k => ?_) <;> (try (conv => cbv)) <;> repeat (refine brk_ok hA ?_; (try (conv => cbv)))
    refine rName_ok hA hlow hsz (fun r hr => ⟨_, rfl, ?_⟩)
    ((try (conv => cbv)); repeat (refine brk_ok hA ?_; (try (conv => cbv))))
    cases r with
    | false =>
      ((try (conv => cbv)); repeat (refine brk_ok hA ?_; (try (conv => cbv))))
      exact hQ _ (no (fun q => by have := hr.2 q.1; cases this))
    | true =>
    have hn := hr.1 rfl
    ((try (conv => cbv)); repeat (refine brk_ok hA ?_; (try (conv => cbv))))
    refine br (0 ≤ dg) (by rw [e_geq hA]) (fun c1 => ?_) (fun c1 => ?_) <;> (try (conv => cbv)) <;> repeat (refine brk_ok hA ?_; (try (conv => cbv)))
    rotate_left
    · exact hQ _ (no (fun q => by have := q.2.1; omega))
    refine br (dg < 1000000007) (by rw [e_lss hA]) (fun c2 => ?_) (fun c2 => ?_) <;> (try (conv => cbv)) <;> repeat (refine brk_ok hA ?_; (try (conv => cbv)))
    rotate_left
    · exact hQ _ (no (fun q => by have := q.2.2.1; omega))
    have ans : ∀ {b : Bool} (p : Prop) [Decidable p], b = decide p → (p ↔ kindP how fn arg dn) → Q (.bool b) h := by
      intro b p _ hb hp
      refine hQ _ ?_
      rw [hb, decide_eq_true_eq, hp]
      exact ⟨fun k => ⟨hn, by omega, by omega, k⟩, fun k => k.2.2.2⟩
    unfold kindP at ans
    refine brB (fun c3 => ?_) (fun c3 => ?_)
    rotate_left
    · rw [e_geq hA, e_ofNat hA, decide_eq_false_iff_not] at c3
      exact hQ _ (no (fun q => by have := q.2.2.2; unfold kindP at this; omega))
    rw [e_geq hA, e_ofNat hA, decide_eq_true_eq] at c3
    ((try (conv => cbv)); repeat (refine brk_ok hA ?_; (try (conv => cbv))))
    refine brB (fun c4 => ?_) (fun c4 => ?_)
    rotate_left
    · rw [e_leq hA, e_ofNat hA, decide_eq_false_iff_not] at c4
      exact hQ _ (no (fun q => by have := q.2.2.2; unfold kindP at this; omega))
    rw [e_leq hA, e_ofNat hA, decide_eq_true_eq] at c4
    ((try (conv => cbv)); repeat (refine brk_ok hA ?_; (try (conv => cbv))))
    refine br (0 ≤ arg) (by rw [e_geq hA]) (fun c5 => ?_) (fun c5 => ?_) <;> (try (conv => cbv)) <;> repeat (refine brk_ok hA ?_; (try (conv => cbv)))
    rotate_left
    · exact hQ _ (no (fun q => by have := q.2.2.2; unfold kindP at this; omega))
    refine brB (fun c6 => ?_) (fun c6 => ?_)
    rotate_left
    · rw [e_leq hA, decide_eq_false_iff_not] at c6
      exact hQ _ (no (fun q => by have := q.2.2.2; unfold kindP at this; omega))
    rw [e_leq hA, decide_eq_true_eq] at c6
    ((try (conv => cbv)); repeat (refine brk_ok hA ?_; (try (conv => cbv))))
    exact ans _ (by rw [e_leq hA, e_ofNat hA]) (by omega)
  refine br (how = 7) (by rw [e_eql hA]) (fun k7 => ?_) (fun k7 => ?_) <;> (try (conv => cbv)) <;> repeat (refine brk_ok hA ?_; (try (conv => cbv)))
  · refine br (how = 7) (by rw [e_eql hA]) (fun k => ?_) (fun k => by omega) <;> (try (conv => cbv)) <;> repeat (refine brk_ok hA ?_; (try (conv => cbv)))
    refine br (arg = 0) (by rw [e_eql hA]) (fun c0 => ?_) (fun c0 => ?_) <;> (try (conv => cbv)) <;> repeat (refine brk_ok hA ?_; (try (conv => cbv)))
    · exact hQ _ (no (fun q => by have := q.2.2.2; unfold kindP at this; omega))
    refine rName_ok hA hlow hsz (fun r hr => ⟨_, rfl, ?_⟩)
    ((try (conv => cbv)); repeat (refine brk_ok hA ?_; (try (conv => cbv))))
    cases r with
    | false =>
      ((try (conv => cbv)); repeat (refine brk_ok hA ?_; (try (conv => cbv))))
      exact hQ _ (no (fun q => by have := hr.2 q.1; cases this))
    | true =>
    have hn := hr.1 rfl
    ((try (conv => cbv)); repeat (refine brk_ok hA ?_; (try (conv => cbv))))
    refine br (0 ≤ dg) (by rw [e_geq hA]) (fun c1 => ?_) (fun c1 => ?_) <;> (try (conv => cbv)) <;> repeat (refine brk_ok hA ?_; (try (conv => cbv)))
    rotate_left
    · exact hQ _ (no (fun q => by have := q.2.1; omega))
    refine br (dg < 1000000007) (by rw [e_lss hA]) (fun c2 => ?_) (fun c2 => ?_) <;> (try (conv => cbv)) <;> repeat (refine brk_ok hA ?_; (try (conv => cbv)))
    rotate_left
    · exact hQ _ (no (fun q => by have := q.2.2.1; omega))
    have ans : ∀ {b : Bool} (p : Prop) [Decidable p], b = decide p → (p ↔ kindP how fn arg dn) → Q (.bool b) h := by
      intro b p _ hb hp
      refine hQ _ ?_
      rw [hb, decide_eq_true_eq, hp]
      exact ⟨fun k => ⟨hn, by omega, by omega, k⟩, fun k => k.2.2.2⟩
    unfold kindP at ans
    refine brB (fun c3 => ?_) (fun c3 => ?_)
    rotate_left
    · rw [e_geq hA, e_ofNat hA, decide_eq_false_iff_not] at c3
      exact hQ _ (no (fun q => by have := q.2.2.2; unfold kindP at this; omega))
    rw [e_geq hA, e_ofNat hA, decide_eq_true_eq] at c3
    ((try (conv => cbv)); repeat (refine brk_ok hA ?_; (try (conv => cbv))))
    refine brB (fun c4 => ?_) (fun c4 => ?_)
    rotate_left
    · rw [e_leq hA, e_ofNat hA, decide_eq_false_iff_not] at c4
      exact hQ _ (no (fun q => by have := q.2.2.2; unfold kindP at this; omega))
    rw [e_leq hA, e_ofNat hA, decide_eq_true_eq] at c4
    ((try (conv => cbv)); repeat (refine brk_ok hA ?_; (try (conv => cbv))))
    refine br (0 ≤ arg) (by rw [e_geq hA]) (fun c5 => ?_) (fun c5 => ?_) <;> (try (conv => cbv)) <;> repeat (refine brk_ok hA ?_; (try (conv => cbv)))
    rotate_left
    · exact hQ _ (no (fun q => by have := q.2.2.2; unfold kindP at this; omega))
    refine brB (fun c6 => ?_) (fun c6 => ?_)
    rotate_left
    · rw [e_leq hA, decide_eq_false_iff_not] at c6
      exact hQ _ (no (fun q => by have := q.2.2.2; unfold kindP at this; omega))
    rw [e_leq hA, decide_eq_true_eq] at c6
    ((try (conv => cbv)); repeat (refine brk_ok hA ?_; (try (conv => cbv))))
    exact ans _ (by rw [e_leq hA, e_ofNat hA]) (by omega)
  exact hQ _ (no (fun q => by have := q.2.2.2; unfold kindP at this; omega))

end Go.Proofs.Ytopppccddnplkaa
