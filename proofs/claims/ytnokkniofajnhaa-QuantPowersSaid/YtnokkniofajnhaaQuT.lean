/-
  quant.Power, lag.Check of one lag, quant.Correct, given.
-/
import Derived.Test.YtnokkniofajnhaaQuV
import Derived.Test.YtnokkniofajnhaaQuS
namespace Go.Proofs.Ytnokkniofajnhaa
open Go.Sim
set_option linter.unusedVariables false
set_option maxRecDepth 100000

variable {F : Prims} {call head arith cmp scmp bnot bsame conv neg imax imin ofNat slen place inR nz geZ rd wr push next mkOK nat zeros sadd eqAgg cut slc sslc strAt part app cpy putAt fresh lowered bump wrote addN lt ne fpAll brk yn rng mget mput mnew bytes clr} (hA : AP F ⟨call, head, arith, cmp, scmp, bnot, bsame, conv, neg, imax, imin, ofNat, slen, place, inR, nz, geZ, rd, wr, push, next, mkOK, nat, zeros, sadd, eqAgg, cut, slc, sslc, strAt, part, app, cpy, putAt, fresh, lowered, bump, wrote, addN, lt, ne, fpAll, brk, yn, rng, mget, mput, mnew, bytes, clr⟩)
include hA

theorem of_ok {h : AHeap} (hlow : h.low ≤ h.next) {n d : Int} {Q : Value → AHeap → Prop} (hQ : Q (.agg #[.int .i64 n, .int .i64 d]) h) : call 23 [.int .i64 n, .int .i64 d] h Q := by
  refine hA.bodyR Try.func23 r23_ok (hA.alike _ _ _ rfl) hlow ?_; (try (conv => cbv)); repeat (refine brk_ok hA ?_; (try (conv => cbv)))
  exact hQ

theorem power_ok {h : AHeap} (hlow : h.low ≤ h.next) {c0 c1 c2 c3 c4 : Int} (h0 : 0 ≤ c0) (h1 : 0 ≤ c1) (h2 : 0 ≤ c2) (h3 : 0 ≤ c3) (h4 : 0 ≤ c4) (hs : c0 + c1 + c2 + c3 + c4 ≤ 256) {Q : Value → AHeap → Prop}
    (hQ : ∀ a b e h', (c1 + c2 + c3 + c4 = 0 ∧ a = 0 ∧ b = 0 ∧ e = 18) ∨ (c1 + c2 + c3 + c4 ≠ 0 ∧ outF (((9 * (c1 + c4) + c2 + c3 : Int) : Rat) / ((c1 + c2 + c3 + c4 : Int) : Rat)) a b e) → Ext h h' → Q (.tuple #[.agg #[.int .i64 a, .int .i64 b], .int .i64 e]) h') :
    call 19 [.agg #[.int .i64 c0, .int .i64 c1, .int .i64 c2, .int .i64 c3, .int .i64 c4]] h Q := by
  refine hA.bodyR Try.func19 r19_ok (hA.alike _ _ _ rfl) hlow ?_; (try (conv => cbv)); repeat (refine brk_ok hA ?_; (try (conv => cbv)))
  rw [e_next hA, e_push hA]
  have e1 : Ext h (h.push 5 [Value.int .i64 c0, Value.int .i64 c1, Value.int .i64 c2, Value.int .i64 c3, Value.int .i64 c4]) := .push _ _ _
  have o1 : Own (h.push 5 [Value.int .i64 c0, Value.int .i64 c1, Value.int .i64 c2, Value.int .i64 c3, Value.int .i64 c4]) h.next 5 ([c0, c1, c2, c3, c4].map (.int .i64)) := Own.push _ _ _
  generalize h.push 5 [Value.int .i64 c0, Value.int .i64 c1, Value.int .i64 c2, Value.int .i64 c3, Value.int .i64 c4] = h1 at *
  obtain ⟨b, hb⟩ : ∃ z, z = h.next := ⟨_, rfl⟩
  rw [← hb] at o1 ⊢
  have l1 := e1.lowOK hlow
  have rd5 : rd h1 b 0 5 [.int .i64 c0, .int .i64 c1, .int .i64 c2, .int .i64 c3, .int .i64 c4] := rd_at hA (o1.readG (o := 0) (n := 5) (by simp))
  refine ⟨c0, c1, c2, c3, c4, rd5, ?_⟩
  ((try (conv => cbv)); repeat (refine brk_ok hA ?_; (try (conv => cbv))))
  have pt : ∀ (i : Nat) (v : Int), [c0, c1, c2, c3, c4][i]? = some v → part 3 #[.int .i64 c0, .int .i64 c1, .int .i64 c2, .int .i64 c3, .int .i64 c4] (place 0 i 1) (.int .i64 v) := fun i v hv => by
    rw [e_part hA, e_place hA]
    unfold partA
    rw [show isAggB Try.prog 3 = some false by kernel_rfl]
    show ([c0, c1, c2, c3, c4].map (Value.int .i64))[0 + (i : Int).toNat * 1]? = _
    rw [show 0 + (i : Int).toNat * 1 = i by omega, List.getElem?_map, hv]
    rfl
  refine hA.roundR Try.func19 r19_ok ?_; (try (conv => cbv)); repeat (refine brk_ok hA ?_; (try (conv => cbv)))
  refine br True (by rw [e_lss hA]; rfl) (fun _ => ?_) (fun q => absurd trivial q) <;> (try (conv => cbv)) <;> repeat (refine brk_ok hA ?_; (try (conv => cbv)))
  refine ⟨in_ok hA (by omega) (by omega), ?_⟩
  ((try (conv => cbv)); repeat (refine brk_ok hA ?_; (try (conv => cbv))))
  refine ⟨c0, pt 0 c0 rfl, ?_⟩
  ((try (conv => cbv)); repeat (refine brk_ok hA ?_; (try (conv => cbv))))
  refine br (c0 < 0) (by rw [e_lss hA]) (fun q => by omega) (fun _ => ?_) <;> (try (conv => cbv)) <;> repeat (refine brk_ok hA ?_; (try (conv => cbv)))
  refine br (256 < c0) (by rw [e_gtr hA]) (fun q => by omega) (fun _ => ?_) <;> (try (conv => cbv)) <;> repeat (refine brk_ok hA ?_; (try (conv => cbv)))
  obtain ⟨s0, hs0⟩ : ∃ z, z = 0 + c0 := ⟨_, rfl⟩
  rw [show arith .add .i64 0 c0 = s0 by rw [hs0]; exact add64 hA (by omega) (by omega), show arith .add .i64 0 1 = 1 by rw [add64 hA (by omega) (by omega)]; rfl]
  refine hA.roundR Try.func19 r19_ok ?_; (try (conv => cbv)); repeat (refine brk_ok hA ?_; (try (conv => cbv)))
  refine br True (by rw [e_lss hA]; rfl) (fun _ => ?_) (fun q => absurd trivial q) <;> (try (conv => cbv)) <;> repeat (refine brk_ok hA ?_; (try (conv => cbv)))
  refine ⟨in_ok hA (by omega) (by omega), ?_⟩
  ((try (conv => cbv)); repeat (refine brk_ok hA ?_; (try (conv => cbv))))
  refine ⟨c1, pt 1 c1 rfl, ?_⟩
  ((try (conv => cbv)); repeat (refine brk_ok hA ?_; (try (conv => cbv))))
  refine br (c1 < 0) (by rw [e_lss hA]) (fun q => by omega) (fun _ => ?_) <;> (try (conv => cbv)) <;> repeat (refine brk_ok hA ?_; (try (conv => cbv)))
  refine br (256 < c1) (by rw [e_gtr hA]) (fun q => by omega) (fun _ => ?_) <;> (try (conv => cbv)) <;> repeat (refine brk_ok hA ?_; (try (conv => cbv)))
  obtain ⟨s1, hs1⟩ : ∃ z, z = s0 + c1 := ⟨_, rfl⟩
  rw [show arith .add .i64 s0 c1 = s1 by rw [hs1]; exact add64 hA (by omega) (by omega), show arith .add .i64 1 1 = 2 by rw [add64 hA (by omega) (by omega)]; rfl]
  refine hA.roundR Try.func19 r19_ok ?_; (try (conv => cbv)); repeat (refine brk_ok hA ?_; (try (conv => cbv)))
  refine br True (by rw [e_lss hA]; rfl) (fun _ => ?_) (fun q => absurd trivial q) <;> (try (conv => cbv)) <;> repeat (refine brk_ok hA ?_; (try (conv => cbv)))
  refine ⟨in_ok hA (by omega) (by omega), ?_⟩
  ((try (conv => cbv)); repeat (refine brk_ok hA ?_; (try (conv => cbv))))
  refine ⟨c2, pt 2 c2 rfl, ?_⟩
  ((try (conv => cbv)); repeat (refine brk_ok hA ?_; (try (conv => cbv))))
  refine br (c2 < 0) (by rw [e_lss hA]) (fun q => by omega) (fun _ => ?_) <;> (try (conv => cbv)) <;> repeat (refine brk_ok hA ?_; (try (conv => cbv)))
  refine br (256 < c2) (by rw [e_gtr hA]) (fun q => by omega) (fun _ => ?_) <;> (try (conv => cbv)) <;> repeat (refine brk_ok hA ?_; (try (conv => cbv)))
  obtain ⟨s2, hs2⟩ : ∃ z, z = s1 + c2 := ⟨_, rfl⟩
  rw [show arith .add .i64 s1 c2 = s2 by rw [hs2]; exact add64 hA (by omega) (by omega), show arith .add .i64 2 1 = 3 by rw [add64 hA (by omega) (by omega)]; rfl]
  refine hA.roundR Try.func19 r19_ok ?_; (try (conv => cbv)); repeat (refine brk_ok hA ?_; (try (conv => cbv)))
  refine br True (by rw [e_lss hA]; rfl) (fun _ => ?_) (fun q => absurd trivial q) <;> (try (conv => cbv)) <;> repeat (refine brk_ok hA ?_; (try (conv => cbv)))
  refine ⟨in_ok hA (by omega) (by omega), ?_⟩
  ((try (conv => cbv)); repeat (refine brk_ok hA ?_; (try (conv => cbv))))
  refine ⟨c3, pt 3 c3 rfl, ?_⟩
  ((try (conv => cbv)); repeat (refine brk_ok hA ?_; (try (conv => cbv))))
  refine br (c3 < 0) (by rw [e_lss hA]) (fun q => by omega) (fun _ => ?_) <;> (try (conv => cbv)) <;> repeat (refine brk_ok hA ?_; (try (conv => cbv)))
  refine br (256 < c3) (by rw [e_gtr hA]) (fun q => by omega) (fun _ => ?_) <;> (try (conv => cbv)) <;> repeat (refine brk_ok hA ?_; (try (conv => cbv)))
  obtain ⟨s3, hs3⟩ : ∃ z, z = s2 + c3 := ⟨_, rfl⟩
  rw [show arith .add .i64 s2 c3 = s3 by rw [hs3]; exact add64 hA (by omega) (by omega), show arith .add .i64 3 1 = 4 by rw [add64 hA (by omega) (by omega)]; rfl]
  refine hA.roundR Try.func19 r19_ok ?_; (try (conv => cbv)); repeat (refine brk_ok hA ?_; (try (conv => cbv)))
  refine br True (by rw [e_lss hA]; rfl) (fun _ => ?_) (fun q => absurd trivial q) <;> (try (conv => cbv)) <;> repeat (refine brk_ok hA ?_; (try (conv => cbv)))
  refine ⟨in_ok hA (by omega) (by omega), ?_⟩
  ((try (conv => cbv)); repeat (refine brk_ok hA ?_; (try (conv => cbv))))
  refine ⟨c4, pt 4 c4 rfl, ?_⟩
  ((try (conv => cbv)); repeat (refine brk_ok hA ?_; (try (conv => cbv))))
  refine br (c4 < 0) (by rw [e_lss hA]) (fun q => by omega) (fun _ => ?_) <;> (try (conv => cbv)) <;> repeat (refine brk_ok hA ?_; (try (conv => cbv)))
  refine br (256 < c4) (by rw [e_gtr hA]) (fun q => by omega) (fun _ => ?_) <;> (try (conv => cbv)) <;> repeat (refine brk_ok hA ?_; (try (conv => cbv)))
  obtain ⟨s4, hs4⟩ : ∃ z, z = s3 + c4 := ⟨_, rfl⟩
  rw [show arith .add .i64 s3 c4 = s4 by rw [hs4]; exact add64 hA (by omega) (by omega), show arith .add .i64 4 1 = 5 by rw [add64 hA (by omega) (by omega)]; rfl]
  refine hA.roundR Try.func19 r19_ok ?_; (try (conv => cbv)); repeat (refine brk_ok hA ?_; (try (conv => cbv)))
  refine br False (by rw [e_lss hA]; rfl) (fun q => q.elim) (fun _ => ?_) <;> (try (conv => cbv)) <;> repeat (refine brk_ok hA ?_; (try (conv => cbv)))
  refine br (256 < s4) (by rw [e_gtr hA]) (fun q => by omega) (fun _ => ?_) <;> (try (conv => cbv)) <;> repeat (refine brk_ok hA ?_; (try (conv => cbv)))
  have rd1 : ∀ (i : Nat) (v : Int), [c0, c1, c2, c3, c4][i]? = some v → rd h1 b (place 0 i 1) 1 [.int .i64 v] := fun i v hv => by
    rw [e_rd hA, e_place hA, show 0 + (i : Int).toNat * 1 = i by omega]
    have hi : i < 5 := by
      have := (List.getElem?_eq_some_iff.1 hv).1
      simpa using this
    rw [o1.getInt (by simpa using hi), List.getD_eq_getElem?_getD, hv]
    rfl
  have q0 := rd1 0 c0 rfl
  have q1 := rd1 1 c1 rfl
  have q2 := rd1 2 c2 rfl
  have q3 := rd1 3 c3 rfl
  have q4 := rd1 4 c4 rfl
  ((try (conv => cbv)); repeat ((first | refine brk_ok hA ?_ | refine ⟨in_ok hA (by omega) (by omega), ?_⟩ | refine ⟨_, _, rfl, in_ok hA (by omega) (by omega), ?_⟩ | refine ⟨nz_ok hA (by omega), ?_⟩ | refine ⟨geZ_ok hA (by omega), ?_⟩ | refine ⟨ne_ok hA (by omega), ?_⟩ | refine ⟨wrote_no hA (by assumption), ?_⟩ | refine ⟨wrote_no hA (.refl _), ?_⟩ | refine ⟨_, ‹rd _ _ _ _ _›, ?_⟩ | refine ⟨_, _, ‹rd _ _ _ _ _›, ?_⟩ | refine ⟨_, _, _, _, ‹rd _ _ _ _ _›, ?_⟩ | refine ⟨_, ‹wr _ _ _ _ _›, ?_⟩); (try (conv => cbv))))
  obtain ⟨th, hth⟩ : ∃ z, z = c1 + c2 + c3 + c4 := ⟨_, rfl⟩
  obtain ⟨sq, hsq⟩ : ∃ z, z = 9 * (c1 + c4) + c2 + c3 := ⟨_, rfl⟩
  rw [← hth, ← hsq] at hQ
  rw [show arith .sub .i64 s4 c0 = th by rw [sub64 hA (by omega) (by omega)]; omega]
  refine br (th = 0) (by rw [e_eql hA]) (fun q => ?_) (fun q => ?_) <;> (try (conv => cbv)) <;> repeat (refine brk_ok hA ?_; (try (conv => cbv)))
  · exact hQ _ _ _ _ (.inl ⟨q, rfl, rfl, rfl⟩) e1
  ((try (conv => cbv)); repeat ((first | refine brk_ok hA ?_ | refine ⟨in_ok hA (by omega) (by omega), ?_⟩ | refine ⟨_, _, rfl, in_ok hA (by omega) (by omega), ?_⟩ | refine ⟨nz_ok hA (by omega), ?_⟩ | refine ⟨geZ_ok hA (by omega), ?_⟩ | refine ⟨ne_ok hA (by omega), ?_⟩ | refine ⟨wrote_no hA (by assumption), ?_⟩ | refine ⟨wrote_no hA (.refl _), ?_⟩ | refine ⟨_, ‹rd _ _ _ _ _›, ?_⟩ | refine ⟨_, _, ‹rd _ _ _ _ _›, ?_⟩ | refine ⟨_, _, _, _, ‹rd _ _ _ _ _›, ?_⟩ | refine ⟨_, ‹wr _ _ _ _ _›, ?_⟩); (try (conv => cbv))))
  have f1 : arith .add .i64 c1 c4 = c1 + c4 := add64 hA (by omega) (by omega)
  have f2 : arith .mul .i64 9 (c1 + c4) = 9 * (c1 + c4) := mul64 hA (by omega) (by omega)
  have f3 : arith .add .i64 (9 * (c1 + c4)) c2 = 9 * (c1 + c4) + c2 := add64 hA (by omega) (by omega)
  have f4 : arith .add .i64 (9 * (c1 + c4) + c2) c3 = sq := by rw [hsq]; exact add64 hA (by omega) (by omega)
  rw [f1, f2, f3, f4]
  refine make_ok hA l1 (by unfold i64; omega) (by unfold i64; omega) (fun a' b' e' k h2 x2 => ⟨_, _, _, rfl, ?_⟩)
  ((try (conv => cbv)); repeat (refine brk_ok hA ?_; (try (conv => cbv))))
  refine hQ _ _ _ _ (.inr ⟨q, ?_⟩) (e1.trans x2)
  rcases k with ⟨w, _⟩ | ⟨_, k⟩
  · exact absurd w q
  · exact k

theorem given_ok {h : AHeap} (hlow : h.low ≤ h.next) {Q : Value → AHeap → Prop} (hQ : ∀ a c h', Ks h' a 3 [⟨0, 1, 0, 1⟩, ⟨1, 2, 1, 3⟩, ⟨1, 1, 1, 1⟩] → Ext h h' → Q (.slice a 3 c) h') : call 24 [] h Q := by
  refine hA.bodyR Try.func24 r24_ok (hA.alike _ _ _ rfl) hlow ?_; (try (conv => cbv)); repeat (refine brk_ok hA ?_; (try (conv => cbv)))
  refine of_ok hA hlow ⟨_, _, rfl, ?_⟩
  ((try (conv => cbv)); repeat (refine brk_ok hA ?_; (try (conv => cbv))))
  refine of_ok hA hlow ⟨_, _, rfl, ?_⟩
  ((try (conv => cbv)); repeat (refine brk_ok hA ?_; (try (conv => cbv))))
  refine of_ok hA hlow ⟨_, _, rfl, ?_⟩
  ((try (conv => cbv)); repeat (refine brk_ok hA ?_; (try (conv => cbv))))
  refine of_ok hA hlow ⟨_, _, rfl, ?_⟩
  ((try (conv => cbv)); repeat (refine brk_ok hA ?_; (try (conv => cbv))))
  refine of_ok hA hlow ⟨_, _, rfl, ?_⟩
  ((try (conv => cbv)); repeat (refine brk_ok hA ?_; (try (conv => cbv))))
  refine of_ok hA hlow ⟨_, _, rfl, ?_⟩
  ((try (conv => cbv)); repeat (refine brk_ok hA ?_; (try (conv => cbv))))
  rw [e_next hA, e_push hA]
  have e1 := Ext.push h 4 ([⟨0, 1, 0, 1⟩, ⟨1, 2, 1, 3⟩, ⟨1, 1, 1, 1⟩].flatMap Kr.cells)
  have o1 := Own.push h 4 ([⟨0, 1, 0, 1⟩, ⟨1, 2, 1, 3⟩, ⟨1, 1, 1, 1⟩].flatMap Kr.cells)
  exact hQ _ _ _ (Own.rows o1 kr_len (by omega) (by simp [AHeap.push])) e1

theorem lag_ok {h : AHeap} (hlow : h.low ≤ h.next) {b c : Nat} {s n : Int} (n0 : 0 ≤ n) (n1 : n ≤ 256) (s0 : -9 * n ≤ s) (s1 : s ≤ 9 * n) (hp : (s - n) % 2 = 0) (ho : Own h b 2 [.int .i64 s, .int .i64 n]) {Q : Value → AHeap → Prop}
    (hQ : Q (.int .i64 0) h) : call 42 [.slice (some ⟨b, 0, none⟩) 1 c] h Q := by
  refine hA.bodyR Try.func42 r42_ok (hA.alike _ _ _ rfl) hlow ?_; (try (conv => cbv)); repeat (refine brk_ok hA ?_; (try (conv => cbv)))
  have e1 : ofNat 1 = 1 := e_ofNat hA 1
  have e2 : arith .rem .i64 1 2 = 1 := by rw [rem64 hA (by omega)]; rfl
  rw [e1]
  refine br False (by rw [e_gtr hA]; rfl) (fun q => q.elim) (fun _ => ?_) <;> (try (conv => cbv)) <;> repeat (refine brk_ok hA ?_; (try (conv => cbv)))
  rw [e1]
  ((try (conv => cbv)); repeat ((first | refine brk_ok hA ?_ | refine ⟨in_ok hA (by omega) (by omega), ?_⟩ | refine ⟨_, _, rfl, in_ok hA (by omega) (by omega), ?_⟩ | refine ⟨nz_ok hA (by omega), ?_⟩ | refine ⟨geZ_ok hA (by omega), ?_⟩ | refine ⟨ne_ok hA (by omega), ?_⟩ | refine ⟨wrote_no hA (by assumption), ?_⟩ | refine ⟨wrote_no hA (.refl _), ?_⟩ | refine ⟨_, ‹rd _ _ _ _ _›, ?_⟩ | refine ⟨_, _, ‹rd _ _ _ _ _›, ?_⟩ | refine ⟨_, _, _, _, ‹rd _ _ _ _ _›, ?_⟩ | refine ⟨_, ‹wr _ _ _ _ _›, ?_⟩); (try (conv => cbv))))
  rw [e2]
  refine br False (by rw [e_eql hA]; rfl) (fun q => q.elim) (fun _ => ?_) <;> (try (conv => cbv)) <;> repeat (refine brk_ok hA ?_; (try (conv => cbv)))
  rw [e1]
  refine hA.roundR Try.func42 r42_ok ?_; (try (conv => cbv)); repeat (refine brk_ok hA ?_; (try (conv => cbv)))
  refine br True (by rw [e_lss hA]; rfl) (fun _ => ?_) (fun q => absurd trivial q) <;> (try (conv => cbv)) <;> repeat (refine brk_ok hA ?_; (try (conv => cbv)))
  have r1 : rd h b (place 0 0 2) 2 [.int .i64 s, .int .i64 n] := by rw [e_rd hA, e_place hA]; exact ho.readG (o := 0) (n := 2) (by simp)
  ((try (conv => cbv)); repeat ((first | refine brk_ok hA ?_ | refine ⟨in_ok hA (by omega) (by omega), ?_⟩ | refine ⟨_, _, rfl, in_ok hA (by omega) (by omega), ?_⟩ | refine ⟨nz_ok hA (by omega), ?_⟩ | refine ⟨geZ_ok hA (by omega), ?_⟩ | refine ⟨ne_ok hA (by omega), ?_⟩ | refine ⟨wrote_no hA (by assumption), ?_⟩ | refine ⟨wrote_no hA (.refl _), ?_⟩ | refine ⟨_, ‹rd _ _ _ _ _›, ?_⟩ | refine ⟨_, _, ‹rd _ _ _ _ _›, ?_⟩ | refine ⟨_, _, _, _, ‹rd _ _ _ _ _›, ?_⟩ | refine ⟨_, ‹wr _ _ _ _ _›, ?_⟩); (try (conv => cbv))))
  refine br (n < 0) (by rw [e_lss hA]) (fun q => by omega) (fun _ => ?_) <;> (try (conv => cbv)) <;> repeat (refine brk_ok hA ?_; (try (conv => cbv)))
  refine br (256 < n) (by rw [e_gtr hA]) (fun q => by omega) (fun _ => ?_) <;> (try (conv => cbv)) <;> repeat (refine brk_ok hA ?_; (try (conv => cbv)))
  have e3 : arith .mul .i64 (-9) n = -9 * n := mul64 hA (by omega) (by omega)
  have e4 : arith .mul .i64 9 n = 9 * n := mul64 hA (by omega) (by omega)
  obtain ⟨sn, hsn⟩ : ∃ z, z = s - n := ⟨_, rfl⟩
  rw [← hsn] at hp
  have e5 : arith .sub .i64 s n = sn := by rw [hsn]; exact sub64 hA (by omega) (by omega)
  have e6 : arith .rem .i64 sn 2 = 0 := by
    rw [e_rem hA]
    exact Int.tmod_eq_zero_of_dvd (Int.dvd_of_emod_eq_zero hp)
  rw [e3]
  refine br (s < -9 * n) (by rw [e_lss hA]) (fun q => by omega) (fun _ => ?_) <;> (try (conv => cbv)) <;> repeat (refine brk_ok hA ?_; (try (conv => cbv)))
  rw [e4]
  refine br (9 * n < s) (by rw [e_gtr hA]) (fun q => by omega) (fun _ => ?_) <;> (try (conv => cbv)) <;> repeat (refine brk_ok hA ?_; (try (conv => cbv)))
  rw [e5]
  ((try (conv => cbv)); repeat ((first | refine brk_ok hA ?_ | refine ⟨in_ok hA (by omega) (by omega), ?_⟩ | refine ⟨_, _, rfl, in_ok hA (by omega) (by omega), ?_⟩ | refine ⟨nz_ok hA (by omega), ?_⟩ | refine ⟨geZ_ok hA (by omega), ?_⟩ | refine ⟨ne_ok hA (by omega), ?_⟩ | refine ⟨wrote_no hA (by assumption), ?_⟩ | refine ⟨wrote_no hA (.refl _), ?_⟩ | refine ⟨_, ‹rd _ _ _ _ _›, ?_⟩ | refine ⟨_, _, ‹rd _ _ _ _ _›, ?_⟩ | refine ⟨_, _, _, _, ‹rd _ _ _ _ _›, ?_⟩ | refine ⟨_, ‹wr _ _ _ _ _›, ?_⟩); (try (conv => cbv))))
  rw [e6]
  refine br False (by rw [e_neq hA]; rfl) (fun q => q.elim) (fun _ => ?_) <;> (try (conv => cbv)) <;> repeat (refine brk_ok hA ?_; (try (conv => cbv)))
  rw [show arith .add .i64 0 1 = 1 by rw [add64 hA (by omega) (by omega)]; rfl]
  refine hA.roundR Try.func42 r42_ok ?_; (try (conv => cbv)); repeat (refine brk_ok hA ?_; (try (conv => cbv)))
  refine br False (by rw [e_lss hA]; rfl) (fun q => q.elim) (fun _ => ?_) <;> (try (conv => cbv)) <;> repeat (refine brk_ok hA ?_; (try (conv => cbv)))
  exact hQ

theorem correct_ok {h : AHeap} (hlow : h.low ≤ h.next) {a : Option Addr} {n c : Nat} {l : List Kr} (hl : Ks h a n l) (hi : allI64 l) (g : GoodL l) {s k pn pd : Int} {p : Rat} (k0 : 0 < k) (k1 : k ≤ 256) (s0 : k ≤ s) (s1 : s ≤ 9 * k) (hpar : (s - k) % 2 = 0) (hp : isF pn pd p) (hpq : p = (s : Rat) / (k : Rat)) {Q : Value → AHeap → Prop}
    (hQ : ∀ u v e h', ValIs l 1 1 u v e → Ext h h' → Q (.tuple #[.agg #[.int .i64 u, .int .i64 v], .int .i64 e]) h') : call 21 [.slice a n c, .agg #[.int .i64 s, .int .i64 k], .agg #[.int .i64 pn, .int .i64 pd]] h Q := by
  have hpos : 0 < p := by
    rw [hpq, Rat.div_def]
    exact Rat.mul_pos (by have := Rat.intCast_pos.2 (show 0 < s by omega); exact this) (Rat.inv_pos.2 (Rat.intCast_pos.2 k0))
  have hpn : 0 < pn := by rw [hp.1]; exact (num_pos p).2 hpos
  refine hA.bodyR Try.func21 r21_ok (hA.alike _ _ _ rfl) hlow ?_; (try (conv => cbv)); repeat (refine brk_ok hA ?_; (try (conv => cbv)))
  refine qcheck_ok hA hlow hl hi (fun e1 h1 k1' x1 => ⟨_, rfl, ?_⟩)
  obtain rfl : e1 = 0 := k1'.good.2 g
  have l1 := x1.lowOK hlow
  ((try (conv => cbv)); repeat (refine brk_ok hA ?_; (try (conv => cbv))))
  refine br False (by rw [e_neq hA]; rfl) (fun q => q.elim) (fun _ => ?_) <;> (try (conv => cbv)) <;> repeat (refine brk_ok hA ?_; (try (conv => cbv)))
  rw [e_next hA, e_push hA]
  have e2 : Ext h1 (h1.push 2 [Value.int .i64 s, Value.int .i64 k]) := .push _ _ _
  have o2 : Own (h1.push 2 [Value.int .i64 s, Value.int .i64 k]) h1.next 2 [Value.int .i64 s, Value.int .i64 k] := Own.push _ _ _
  generalize h1.push 2 [Value.int .i64 s, Value.int .i64 k] = h2 at *
  have y2 := x1.trans e2
  have l2 := y2.lowOK hlow
  refine lag_ok hA l2 (by omega) k1 (by omega) s1 hpar o2 ⟨_, rfl, ?_⟩
  ((try (conv => cbv)); repeat (refine brk_ok hA ?_; (try (conv => cbv))))
  refine br False (by rw [e_neq hA]; rfl) (fun q => q.elim) (fun _ => ?_) <;> (try (conv => cbv)) <;> repeat (refine brk_ok hA ?_; (try (conv => cbv)))
  refine check_ok hA l2 hp.i64n hp.i64d (fun e3 h3 k3 x3 => ⟨_, rfl, ?_⟩)
  obtain rfl : e3 = 0 := by
    rcases k3 with ⟨q, _⟩ | ⟨_, q⟩
    · exact q
    · exact absurd ⟨p, hp⟩ q
  have y3 := y2.trans x3
  have l3 := y3.lowOK hlow
  ((try (conv => cbv)); repeat (refine brk_ok hA ?_; (try (conv => cbv))))
  refine br False (by rw [e_neq hA]; rfl) (fun q => q.elim) (fun _ => ?_) <;> (try (conv => cbv)) <;> repeat (refine brk_ok hA ?_; (try (conv => cbv)))
  refine br (pn ≤ 0) (by rw [e_leq hA]) (fun q => by omega) (fun _ => ?_) <;> (try (conv => cbv)) <;> repeat (refine brk_ok hA ?_; (try (conv => cbv)))
  refine br (k = 0) (by rw [e_eql hA]) (fun q => by omega) (fun _ => ?_) <;> (try (conv => cbv)) <;> repeat (refine brk_ok hA ?_; (try (conv => cbv)))
  refine make_ok hA l3 (by unfold i64; omega) (by unfold i64; omega) (fun m1 m2 e4 k4 h4 x4 => ⟨_, _, _, rfl, ?_⟩)
  have y4 := y3.trans x4
  have l4 := y4.lowOK hlow
  have hm : isF m1 m2 p ∧ e4 = 0 := by
    rcases k4 with ⟨q, _⟩ | ⟨_, k4⟩
    · omega
    · rw [← hpq] at k4
      rcases k4 with ⟨q, r1, r2, r3⟩ | ⟨q, _⟩
      · exact ⟨⟨r1, r2, q⟩, r3⟩
      · exact absurd hp.2.2 q
  obtain ⟨hm1, rfl⟩ := hm
  ((try (conv => cbv)); repeat (refine brk_ok hA ?_; (try (conv => cbv))))
  refine br False (by rw [e_neq hA]; rfl) (fun q => q.elim) (fun _ => ?_) <;> (try (conv => cbv)) <;> repeat (refine brk_ok hA ?_; (try (conv => cbv)))
  refine div_ok hA l4 hm1.i64n hm1.i64d hp.i64n hp.i64d (fun u1 u2 e5 k5 h5 x5 => ⟨_, _, _, rfl, ?_⟩)
  have y5 := y4.trans x5
  have l5 := y5.lowOK hlow
  have hne : p ≠ 0 := fun w => by rw [w] at hpos; exact absurd hpos Rat.lt_irrefl
  have one : p / p = 1 := by grind
  have hf1 : fits (1 : Rat) := ⟨by decide, by decide, by decide⟩
  obtain ⟨hu, rfl⟩ := divIs_of hm1 hp hne (by rw [one]; exact hf1) k5
  rw [one] at hu
  obtain rfl : u1 = 1 := hu.1
  obtain rfl : u2 = 1 := hu.2.1
  ((try (conv => cbv)); repeat (refine brk_ok hA ?_; (try (conv => cbv))))
  refine br False (by rw [e_neq hA]; rfl) (fun q => q.elim) (fun _ => ?_) <;> (try (conv => cbv)) <;> repeat (refine brk_ok hA ?_; (try (conv => cbv)))
  refine value_ok hA l5 (hl.ext y5) hi hu.i64n hu.i64d (fun u v e6 h6 k6 x6 => ⟨_, _, _, rfl, ?_⟩)
  ((try (conv => cbv)); repeat (refine brk_ok hA ?_; (try (conv => cbv))))
  exact hQ u v e6 h6 k6 (y5.trans x6)

end Go.Proofs.Ytnokkniofajnhaa
