/-
  Model, of the program.
-/
import Derived.Test.YtogofeppflindaaCModel
namespace Go.Proofs.Ytogofeppflindaa
open Go.Sim
set_option linter.unusedVariables false
set_option maxRecDepth 100000

/-- Eight rows of eight cells, one behind the other. -/
def mkF (s : Int → Int → Int) : List Int := (List.range 64).map fun (k : Nat) => s ((k / 8 : Nat) : Int) ((k % 8 : Nat) : Int)

theorem mkF_len (s : Int → Int → Int) : (mkF s).length = 64 := by unfold mkF; simp
theorem mkF_at (s : Int → Int → Int) {y x : Int} (y0 : 0 ≤ y) (y1 : y < 8) (x0 : 0 ≤ x) (x1 : x < 8) : (mkF s).getD (0 + y.toNat * 8 + x.toNat * 1) 0 = s y x := by
  unfold mkF
  rw [List.getD_eq_getElem?_getD, List.getElem?_map, List.getElem?_range (by omega)]
  simp only [Option.map_some, Option.getD_some]
  congr 1 <;> omega
theorem mkF_set (s : Int → Int → Int) {p : Comp} (x0 : 0 ≤ p.x) (x1 : p.x < 8) (y0 : 0 ≤ p.y) (y1 : p.y < 8) : (mkF s).set (0 + p.y.toNat * 8 + p.x.toNat * 1) (s p.y p.x + p.f) = mkF (addP s p) := by
  apply List.ext_getElem?
  intro k
  unfold mkF addP
  by_cases hk : k < 64
  · rw [List.getElem?_set, List.getElem?_map, List.getElem?_map, List.getElem?_range hk]
    simp only [Option.map_some, List.length_map, List.length_range]
    by_cases q : 0 + p.y.toNat * 8 + p.x.toNat * 1 = k
    · rw [if_pos q, if_pos (by omega), if_pos (by omega)]
      have h1 : ((k / 8 : Nat) : Int) = p.y := by omega
      have h2 : ((k % 8 : Nat) : Int) = p.x := by omega
      rw [h1, h2]
    · rw [if_neg q, if_neg (by omega)]
  · rw [List.getElem?_eq_none (by simp; omega), List.getElem?_eq_none (by simp; omega)]

variable {call : FuncId → List Value → AHeap → (Value → AHeap → Prop) → Prop}
  {head : FuncId → Nat → Nat → SS → (Exit → SS → Prop) → Prop}
  {arith : BinOp → IntKind → Int → Int → Int}
  {cmp : BinOp → Int → Int → Bool}
  {scmp : BinOp → ByteArray → ByteArray → Bool}
  {bnot : Bool → Bool}
  {bsame : Bool → Bool → Bool}
  {conv : IntKind → Int → Int}
  {neg : IntKind → Int → Int}
  {imax : Int → Int → Int}
  {imin : Int → Int → Int}
  {ofNat : Nat → Int}
  {slen : ByteArray → Int}
  {place : Nat → Int → Nat → Nat}
  {inR : Int → Nat → Prop}
  {nz : Int → Prop}
  {geZ : Int → Prop}
  {rd : AHeap → Nat → Nat → Nat → List Value → Prop}
  {wr : AHeap → Nat → Nat → List Value → AHeap → Prop}
  {push : AHeap → Nat → List Value → AHeap}
  {next : AHeap → Nat}
  {mkOK : Int → Int → Prop}
  {nat : Int → Nat}
  {zeros : List Value → Int → List Value}
  {sadd : ByteArray → ByteArray → (ByteArray → Prop) → Prop}
  {eqAgg : TypeId → Array Value → Array Value → (Bool → Prop) → Prop}
  {cut : Nat → Int → Prop}
  {slc : TypeId → Value → Option Value → Option Value → Option Value → (Option Addr → Nat → Nat → Prop) → Prop}
  {sslc : TypeId → ByteArray → Option Value → Option Value → (ByteArray → Prop) → Prop}
  {strAt : ByteArray → Int → (Int → Prop) → Prop}
  {part : TypeId → Array Value → Nat → Value → Prop}
  {app : List TypeId → List Value → AHeap → (Option Addr → Nat → Nat → AHeap → Prop) → Prop}
  {cpy : List TypeId → List Value → AHeap → (Int → AHeap → Prop) → Prop}
  {putAt : AHeap → Nat → Nat → List Value → AHeap}
  {fresh : AHeap → AHeap}
  {lowered : AHeap → AHeap → AHeap}
  {bump : AHeap → Nat → AHeap}
  {wrote : AHeap → AHeap → Bool}
  {addN : Nat → Nat → Nat}
  {lt : Nat → Nat → Prop}
  {ne : Nat → Nat → Prop}
  {fpAll : Bool → Bool → Bool → Nat → Nat → Prop}
  {brk : (Unit → Prop) → Prop}
  {yn : Nat → Nat}
  {rng : FuncId → Nat → SS → (Exit → SS → Prop) → Prop}
  {mget : TypeId → Value → Value → AHeap → Value → Bool → Prop}
  {mput : TypeId → Value → Value → Value → AHeap → AHeap → Prop}
  {mnew : AHeap → AHeap}
  {bytes : TypeId → TypeId → Option Addr → Nat → AHeap → ByteArray → Prop}
  {clr : List TypeId → List Value → AHeap → AHeap → Prop}
  (hA : AOK progU hint prims ⟨call, head, arith, cmp, scmp, bnot, bsame, conv, neg, imax, imin, ofNat, slen, place, inR, nz, geZ, rd, wr, push, next, mkOK, nat, zeros, sadd, eqAgg, cut, slc, sslc, strAt, part, app, cpy, putAt, fresh, lowered, bump, wrote, addN, lt, ne, fpAll, brk, yn, rng, mget, mput, mnew, bytes, clr⟩)
include hA

theorem mod1_ok {h0 : AHeap} (hlow0 : h0.low ≤ h0.next) {b es : Nat} {s : Int → Int → Int} (ho : Own h0 b es ((mkF s).map (.int .i64))) (hb : b < h0.next) {n : Int} (n8 : n ≤ 8) : Gives call h0 43 [.pointer (some ⟨b, 0, none⟩)] n s := by
  intro x y h Q x0 x1 y0 y1 e hQ
  have ho1 := ho.ext e hb
  have hlow := e.lowOK hlow0
  have hx : h.readG ⟨b, 0 + y.toNat * 8 + x.toNat * 1, none⟩ 1 = some [.int .i64 (s y x)] := by
    rw [ho1.getInt (by rw [mkF_len]; omega), mkF_at s y0 (by omega) x0 (by omega)]
  obtain ⟨d, hd⟩ : ∃ d, d = s y x := ⟨_, rfl⟩
  have hq := hQ h (.refl _)
  rw [← hd] at hx hq
  refine hA.bodyR Try.func43 r43_ok (show prims _ _ _ = none from rfl) hlow ?_; (try (conv => cbv)); repeat (refine brk_ok hA ?_; (try (conv => cbv)))
  refine ⟨in_ok hA y0 (by omega), ?_⟩
  ((try (conv => cbv)); repeat (refine brk_ok hA ?_; (try (conv => cbv))))
  refine ⟨in_ok hA x0 (by omega), ?_⟩
  ((try (conv => cbv)); repeat (refine brk_ok hA ?_; (try (conv => cbv))))
  have hx' : rd h b (place (place 0 y 8) x 1) 1 [.int .i64 d] := by rw [e_rd hA, e_place hA, e_place hA]; exact hx
  refine ⟨d, hx', ?_⟩
  ((try (conv => cbv)); repeat (refine brk_ok hA ?_; (try (conv => cbv))))
  exact hq

theorem mod_loop {h0 : AHeap} (hlow0 : h0.low ≤ h0.next) {al : Option Addr} {ml cl : Nat} {l : List Comp} (hl : Log h0 al ml l) (hml : (ml : Int) ≤ 1000) {n : Int} (n1 : 1 ≤ n) (n8 : n ≤ 8) (hlog : logP n l) {b : Nat} (hb : h0.next ≤ b) {Q : Exit → SS → Prop}
    (h1 : ∀ h', Ext h0 h' → Own h' b 64 ((mkF (sums l l.length)).map (.int .i64)) → b < h'.next → Q (.exit 0) ⟨[(0, .int .i64 n), (6, .pointer (some ⟨b, 0, none⟩))], 0, [], h'⟩) :
    ∀ i : Int, 0 ≤ i → i ≤ ml → ∀ h, Ext h0 h → Own h b 64 ((mkF (sums l i.toNat)).map (.int .i64)) → b < h.next → head 22 7 0 ⟨[(0, .int .i64 n), (6, .pointer (some ⟨b, 0, none⟩)), (19, .slice al ml cl), (20, .int .i64 (ofNat ml)), (21, .int .i64 i)], 0, [], h⟩ Q := by
  have hll := hl.len
  refine countUp (fun i hi0 hin ih h e ho hbn => ?_)
  refine hA.roundR Try.func22 r22_ok ?_; (try (conv => cbv)); repeat (refine brk_ok hA ?_; (try (conv => cbv)))
  refine br (i < ml) (by rw [e_lss hA, e_ofNat hA]) (fun c1 => ?_) (fun c1 => ?_) <;> (try (conv => cbv)) <;> repeat (refine brk_ok hA ?_; (try (conv => cbv)))
  · obtain ⟨b1, o, x, y, f, rfl, hbn1, hca, hrd, _, _, _⟩ := (hl.ext e).at hi0 c1
    have hp : compP n ⟨x, y, f⟩ := by rw [← hca]; exact hlog.2 i hi0 (by omega)
    obtain ⟨p1, p2, p3, p4, p5⟩ := hp
    simp only [] at p1 p2 p3 p4 p5
    refine ⟨b1, o, rfl, in_ok hA hi0 c1, ?_⟩
    ((try (conv => cbv)); repeat (refine brk_ok hA ?_; (try (conv => cbv))))
    refine ⟨x, y, f, rd_ok hA hrd, ?_⟩
    ((try (conv => cbv)); repeat (refine brk_ok hA ?_; (try (conv => cbv))))
    obtain ⟨h9, hh9⟩ : ∃ z, z = bump h 13 := ⟨_, rfl⟩
    have e9 : Ext h h9 := by rw [hh9, e_bump hA]; exact .bump _ _
    have ho9 := ho.ext e9 hbn
    rw [← hh9]
    refine ⟨in_ok hA p3 (by omega), ?_⟩
    ((try (conv => cbv)); repeat (refine brk_ok hA ?_; (try (conv => cbv))))
    refine ⟨in_ok hA p1 (by omega), ?_⟩
    ((try (conv => cbv)); repeat (refine brk_ok hA ?_; (try (conv => cbv))))
    obtain ⟨x0, hx0⟩ : ∃ z, z = sums l i.toNat y x := ⟨_, rfl⟩
    have hx : h9.readG ⟨b, 0 + y.toNat * 8 + x.toNat * 1, none⟩ 1 = some [.int .i64 x0] := by
      rw [ho9.getInt (by rw [mkF_len]; omega), mkF_at _ p3 (by omega) p1 (by omega), hx0]
    have hx' : rd h9 b (place (place 0 y 8) x 1) 1 [.int .i64 x0] := by rw [e_rd hA, e_place hA, e_place hA]; exact hx
    refine ⟨x0, hx', ?_⟩
    ((try (conv => cbv)); repeat (refine brk_ok hA ?_; (try (conv => cbv))))
    have hsm := sums_small hlog i.toNat (by omega) y x
    rw [← hx0] at hsm
    unfold within at p5
    have a1 : arith .add .i64 x0 f = x0 + f := add64 hA (by omega) (by omega)
    obtain ⟨d, hd⟩ : ∃ d, d = x0 + f := ⟨_, rfl⟩
    rw [a1, ← hd]
    refine ⟨in_ok hA p3 (by omega), ?_⟩
    ((try (conv => cbv)); repeat (refine brk_ok hA ?_; (try (conv => cbv))))
    refine ⟨in_ok hA p1 (by omega), ?_⟩
    ((try (conv => cbv)); repeat (refine brk_ok hA ?_; (try (conv => cbv))))
    obtain ⟨h2, w1, w2, w3⟩ := ho9.setInt (i := 0 + y.toNat * 8 + x.toNat * 1) (by rw [mkF_len]; omega) d
    have w1' : wr h9 b (place (place 0 y 8) x 1) [.int .i64 d] h2 := by rw [e_wr hA, e_place hA, e_place hA]; exact w1
    refine ⟨h2, w1', ?_⟩
    have hadd := mkF_set (sums l i.toNat) (p := ⟨x, y, f⟩) p1 (by simp only []; omega) p3 (by simp only []; omega)
    simp only [] at hadd
    rw [hd, hx0, hadd, ← hca, ← sums_succ l hi0] at w2
    ((try (conv => cbv)); repeat (refine brk_ok hA ?_; (try (conv => cbv))))
    rw [add64 hA (by omega) (by omega)]
    exact ih (by omega) h2 (w3.ext (e.trans e9) (by omega)) w2 (by have := w3.next; have := e9.next; omega)
  · have : i.toNat = l.length := by omega
    rw [this] at ho
    exact h1 h e ho hbn

theorem mod_ok {h : AHeap} (hlow : h.low ≤ h.next) {n : Int} {al : Option Addr} {ml cl : Nat} {l : List Comp} (hl : Log h al ml l) (hml : (ml : Int) ≤ 1000) {Q : Value → AHeap → Prop}
    (hbad : ∀ e h', Ext h h' → ModIs n l e none → Q (.tuple #[.slice none 0 0, .int .i64 e]) h')
    (hok : ∀ g' a' (m : Nat) c' bs h', (m : Int) = n → Ext h h' → OImg h' h.next a' m bs g' → ModIs n l 0 (some g') → Q (.tuple #[.slice a' m c', .int .i64 0]) h') : call 22 [.int .i64 n, .slice al ml cl] h Q := by
  refine hA.bodyR Try.func22 r22_ok (show prims _ _ _ = none from rfl) hlow ?_; (try (conv => cbv)); repeat (refine brk_ok hA ?_; (try (conv => cbv)))
  refine br (n < 1) (by rw [e_lss hA]) (fun c1 => ?_) (fun c1 => ?_) <;> (try (conv => cbv)) <;> repeat (refine brk_ok hA ?_; (try (conv => cbv)))
  · exact hbad _ h (.refl _) (.inl ⟨fun q => by omega, rfl, rfl⟩)
  refine br (8 < n) (by rw [e_gtr hA]) (fun c2 => ?_) (fun c2 => ?_) <;> (try (conv => cbv)) <;> repeat (refine brk_ok hA ?_; (try (conv => cbv)))
  · exact hbad _ h (.refl _) (.inl ⟨fun q => by omega, rfl, rfl⟩)
  refine isLog_ok hA hlow hl (n := n) (fun r hr => ⟨_, rfl, ?_⟩)
  ((try (conv => cbv)); repeat (refine brk_ok hA ?_; (try (conv => cbv))))
  cases r with
  | false =>
    ((try (conv => cbv)); repeat (refine brk_ok hA ?_; (try (conv => cbv))))
    refine br (True) (by rw [e_bnot hA]; rfl) (fun _ => ?_) (fun q => absurd trivial q) <;> (try (conv => cbv)) <;> repeat (refine brk_ok hA ?_; (try (conv => cbv)))
    exact hbad _ h (.refl _) (.inr (.inl ⟨by omega, by omega, (fun q => by have := hr.2 q; cases this), rfl, rfl⟩))
  | true =>
    have hl1 := hr.1 rfl
    ((try (conv => cbv)); repeat (refine brk_ok hA ?_; (try (conv => cbv))))
    refine br (False) (by rw [e_bnot hA]; rfl) (fun q => q.elim) (fun _ => ?_) <;> (try (conv => cbv)) <;> repeat (refine brk_ok hA ?_; (try (conv => cbv)))
    obtain ⟨h1, hh1⟩ : ∃ z, z = h.push 64 ((mkF (sums l 0)).map (.int .i64)) := ⟨_, rfl⟩
    obtain ⟨b0, hb0⟩ : ∃ x, x = h.next := ⟨_, rfl⟩
    have p2 : next h = b0 := by rw [hb0, e_next hA]
    rw [p2, e_push hA]
    refine mod_loop hA hlow hl hml (n := n) (by omega) (by omega) hl1 (by omega) (fun h' e' ho' hb' => ?_) 0 (by omega) (by omega) _ (.push _ _ _) (by rw [hb0]; exact Own.push _ _ _) (by rw [hb0]; exact Nat.lt_succ_self _)
    ((try (conv => cbv)); repeat (refine brk_ok hA ?_; (try (conv => cbv))))
    refine cells_ok hA (e'.lowOK hlow) (n := n) (by omega) (by omega) (.inl rfl) (mod1_ok hA (e'.lowOK hlow) ho' hb' (by omega)) (fun a' m c' bs h2 hmn e2 ho2 hall => ⟨_, _, _, _, rfl, ?_⟩) (fun h2 e2 q => ⟨_, _, _, _, rfl, ?_⟩)
    · ((try (conv => cbv)); repeat (refine brk_ok hA ?_; (try (conv => cbv))))
      exact hok _ _ _ _ bs h2 hmn (e'.trans e2) (ho2.lower e'.next) (.inr (.inr (.inr ⟨by omega, by omega, hl1, hall, rfl, rfl⟩)))
    · ((try (conv => cbv)); repeat (refine brk_ok hA ?_; (try (conv => cbv))))
      exact hbad _ h2 (e'.trans e2) (.inr (.inr (.inl ⟨by omega, by omega, hl1, (fun r => by obtain ⟨y, x, q1, q2, q3, q4, q5⟩ := q; exact q5 (r y x q1 q2 q3 q4)), rfl, rfl⟩)))

end Go.Proofs.Ytogofeppflindaa
