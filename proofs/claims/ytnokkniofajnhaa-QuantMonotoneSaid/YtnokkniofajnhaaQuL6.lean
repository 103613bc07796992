/-
  QuantMonotone: the law's function returns true.
-/
import Derived.Test.YtnokkniofajnhaaQuV
import Derived.Test.YtnokkniofajnhaaSeatL6
namespace Go.Proofs.Ytnokkniofajnhaa
open Go.Sim
set_option linter.unusedVariables false
set_option maxRecDepth 100000


variable {F : Prims} {call head arith cmp scmp bnot bsame conv neg imax imin ofNat slen place inR nz geZ rd wr push next mkOK nat zeros sadd eqAgg cut slc sslc strAt part app cpy putAt fresh lowered bump wrote addN lt ne fpAll brk yn rng mget mput mnew bytes clr} (hA : AP F ⟨call, head, arith, cmp, scmp, bnot, bsame, conv, neg, imax, imin, ofNat, slen, place, inR, nz, geZ, rd, wr, push, next, mkOK, nat, zeros, sadd, eqAgg, cut, slc, sslc, strAt, part, app, cpy, putAt, fresh, lowered, bump, wrote, addN, lt, ne, fpAll, brk, yn, rng, mget, mput, mnew, bytes, clr⟩)
include hA

theorem fit_ok {h : AHeap} (hlow : h.low ≤ h.next) {a : Option Addr} {n c : Nat} {l : List Kr} (hl : Ks h a n l) (hi : allI64 l) {Q : Value → AHeap → Prop} (hQ : ∀ (r : Bool) h', (r = true ↔ GoodL l) → Ext h h' → Q (.bool r) h') : call 26 [.slice a n c] h Q := by
  have hlen := hl.len
  refine hA.bodyR Try.func26 r26_ok (hA.alike _ _ _ rfl) hlow ?_; (try (conv => cbv)); repeat (refine brk_ok hA ?_; (try (conv => cbv)))
  refine long_ok hA hlow (fun r hr => ⟨_, rfl, ?_⟩)
  ((try (conv => cbv)); repeat (refine brk_ok hA ?_; (try (conv => cbv))))
  refine br (r = false) (by rw [e_bnot hA]; cases r <;> rfl) (fun c1 => ?_) (fun c1 => ?_) <;> (try (conv => cbv)) <;> repeat (refine brk_ok hA ?_; (try (conv => cbv)))
  rotate_left
  · refine hQ false h ⟨(fun q => by cases q), fun g => ?_⟩ (.refl h)
    have := g.most
    have : 60 < n := hr.1 (by cases r with | true => rfl | false => exact absurd rfl c1)
    omega
  refine rqcheck_ok hA hlow hl hi (fun e h1 k1 x1 => ⟨_, rfl, ?_⟩)
  ((try (conv => cbv)); repeat (refine brk_ok hA ?_; (try (conv => cbv))))
  refine hQ _ h1 ?_ x1
  rw [e_eql hA, decide_eq_true_iff]
  exact k1.good

theorem mono_loop (hF : ∀ h, F 25 [] h = some (.bool true, h)) {h0 : AHeap} (hlow : h0.low ≤ h0.next) {b o n c : Nat} {l : List Kr} (hl : Ks h0 (some ⟨b, o, none⟩) n l) (hi : allI64 l) (g : GoodL l) {K1 K2 : List Value} {Q : Exit → SS → Prop}
    (hQ : ∀ h', Ext h0 h' → Q (.exit 0) ⟨[(0, .slice (some ⟨b, o, none⟩) n c), (4, .pointer (some ⟨0, 0, some 0⟩)), (5, .pointer (some ⟨1, 0, some 0⟩)), (7, .bool true)], 2, [(0, K1), (1, K2)], h'⟩) :
    ∀ (m : Nat) (i : Int) (h : AHeap), (n - i).toNat ≤ m → 0 ≤ i → i ≤ n → Ext h0 h →
      head 6 5 2 ⟨[(0, .slice (some ⟨b, o, none⟩) n c), (4, .pointer (some ⟨0, 0, some 0⟩)), (5, .pointer (some ⟨1, 0, some 0⟩)), (7, .bool true), (8, .int .i64 i)], 2, [(0, K1), (1, K2)], h⟩ Q := by
  have hlen := hl.len
  have g2 := g.most
  intro m
  induction m with
  | zero =>
    intro i h hm i0 i1 he
    refine hA.roundR Try.func6 r6_ok ?_; (try (conv => cbv)); repeat (refine brk_ok hA ?_; (try (conv => cbv)))
    refine br (i < n) (by rw [e_lss hA, e_ofNat hA]) (fun c1 => by omega) (fun c1 => ?_) <;> (try (conv => cbv)) <;> repeat (refine brk_ok hA ?_; (try (conv => cbv)))
    exact hQ h he
  | succ m ih =>
  intro i h hm i0 i1 he
  by_cases ci : i < n
  rotate_left
  · refine hA.roundR Try.func6 r6_ok ?_; (try (conv => cbv)); repeat (refine brk_ok hA ?_; (try (conv => cbv)))
    refine br (i < n) (by rw [e_lss hA, e_ofNat hA]) (fun c1 => absurd c1 ci) (fun c1 => ?_) <;> (try (conv => cbv)) <;> repeat (refine brk_ok hA ?_; (try (conv => cbv)))
    exact hQ h he
  have lh := he.lowOK hlow
  obtain ⟨_, a1, a2, a3, a4, hg, w1, w2, w3, w4, _, r1, _⟩ := ks_in (hl.ext he) hi (i := i) i0 ci
  have r2 := rd_fld hA r1
  refine hA.roundR Try.func6 r6_ok ?_; (try (conv => cbv)); repeat (refine brk_ok hA ?_; (try (conv => cbv)))
  refine br (i < n) (by rw [e_lss hA, e_ofNat hA]) (fun c1 => ?_) (fun c1 => absurd ci c1) <;> (try (conv => cbv)) <;> repeat (refine brk_ok hA ?_; (try (conv => cbv)))
  ((try (conv => cbv)); repeat ((first | refine brk_ok hA ?_ | refine ⟨in_ok hA (by omega) (by omega), ?_⟩ | refine ⟨_, _, rfl, in_ok hA (by omega) (by omega), ?_⟩ | refine ⟨nz_ok hA (by omega), ?_⟩ | refine ⟨geZ_ok hA (by omega), ?_⟩ | refine ⟨ne_ok hA (by omega), ?_⟩ | refine ⟨wrote_no hA (by assumption), ?_⟩ | refine ⟨wrote_no hA (.refl _), ?_⟩ | refine ⟨_, ‹rd _ _ _ _ _›, ?_⟩ | refine ⟨_, _, ‹rd _ _ _ _ _›, ?_⟩ | refine ⟨_, _, _, _, ‹rd _ _ _ _ _›, ?_⟩ | refine ⟨_, ‹wr _ _ _ _ _›, ?_⟩); (try (conv => cbv))))
  refine value_ok hA lh (hl.ext he) hi w1 w2 (fun u v e h1 k1 x1 => ⟨_, _, _, rfl, ?_⟩)
  have e1 := he.trans x1
  have l1 := e1.lowOK hlow
  have hk := ValIs.knot g i0 (by omega) (u := u) (v := v) (e := e) (by rw [hg]; exact k1)
  rw [hg] at hk
  obtain ⟨rfl, rfl, rfl⟩ : e = 0 ∧ u = a3 ∧ v = a4 := hk
  ((try (conv => cbv)); repeat (refine brk_ok hA ?_; (try (conv => cbv))))
  obtain ⟨h9, hh9⟩ : ∃ z, z = bump h1 11 := ⟨_, rfl⟩
  have e9 : Ext h0 h9 := by rw [hh9]; exact e1.trans (ext_bump hA _ _)
  rw [← hh9]
  obtain ⟨_, p1, p2, p3, p4, hp, _, _, _, _, _, _, q1⟩ := ks_in (hl.ext e9) hi (i := i) i0 ci
  rw [hg] at hp
  cases hp
  have q2 := rd_fld hA q1
  refine br False (by rw [e_neq hA]; rfl) (fun q => q.elim) (fun _ => ?_) <;> (try (conv => cbv)) <;> repeat (refine brk_ok hA ?_; (try (conv => cbv)))
  ((try (conv => cbv)); repeat ((first | refine brk_ok hA ?_ | refine ⟨in_ok hA (by omega) (by omega), ?_⟩ | refine ⟨_, _, rfl, in_ok hA (by omega) (by omega), ?_⟩ | refine ⟨nz_ok hA (by omega), ?_⟩ | refine ⟨geZ_ok hA (by omega), ?_⟩ | refine ⟨ne_ok hA (by omega), ?_⟩ | refine ⟨wrote_no hA (by assumption), ?_⟩ | refine ⟨wrote_no hA (.refl _), ?_⟩ | refine ⟨_, ‹rd _ _ _ _ _›, ?_⟩ | refine ⟨_, _, ‹rd _ _ _ _ _›, ?_⟩ | refine ⟨_, _, _, _, ‹rd _ _ _ _ _›, ?_⟩ | refine ⟨_, ‹wr _ _ _ _ _›, ?_⟩); (try (conv => cbv))))
  obtain ⟨r, hr1, hr2⟩ := eqF u v u v
  rw [e_eqAgg hA]
  refine ⟨guardF, r, hr1, ?_⟩
  obtain rfl : r = true := hr2.2 ⟨rfl, rfl⟩
  ((try (conv => cbv)); repeat (refine brk_ok hA ?_; (try (conv => cbv))))
  rw [show bnot true = false by rw [e_bnot hA]; rfl]
  ((try (conv => cbv)); repeat (refine brk_ok hA ?_; (try (conv => cbv))))
  rw [add64 hA (by omega) (by omega)]
  exact ih (i + 1) h9 (by omega) (by omega) (by omega) e9

theorem mono_ok (hF : ∀ h, F 25 [] h = some (.bool true, h)) {h : AHeap} (hlow : h.low ≤ h.next) {a : Option Addr} {n c : Nat} {l : List Kr} (hl : Ks h a n l) (hi : allI64 l) {xn xd yn yd : Int} (hxn : i64 xn) (hxd : i64 xd) (hyn : i64 yn) (hyd : i64 yd) {Q : Value → AHeap → Prop}
    (hQ : ∀ h', Ext h h' → Q (.bool true) h') : call 6 [.slice a n c, .agg #[.int .i64 xn, .int .i64 xd], .agg #[.int .i64 yn, .int .i64 yd]] h Q := by
  have hlen := hl.len
  refine hA.bodyR Try.func6 r6_ok (hA.alike _ _ _ rfl) hlow ?_; (try (conv => cbv)); repeat (refine brk_ok hA ?_; (try (conv => cbv)))
  refine hA.prim (hF h) ⟨_, rfl, ?_⟩
  ((try (conv => cbv)); repeat (refine brk_ok hA ?_; (try (conv => cbv))))
  refine fit_ok hA hlow hl hi (fun r h1 hr x1 => ⟨_, rfl, ?_⟩)
  have l1 := x1.lowOK hlow
  ((try (conv => cbv)); repeat (refine brk_ok hA ?_; (try (conv => cbv))))
  refine br (r = false) (by rw [e_bnot hA]; cases r <;> rfl) (fun c1 => ?_) (fun c1 => ?_) <;> (try (conv => cbv)) <;> repeat (refine brk_ok hA ?_; (try (conv => cbv)))
  · exact hQ h1 x1
  have g : GoodL l := hr.1 (by cases r with | true => rfl | false => exact absurd rfl c1)
  have g1 := g.two
  have g2 := g.most
  have bt : bnot true = false := by rw [e_bnot hA]; rfl
  rw [bt]
  ((try (conv => cbv)); repeat (refine brk_ok hA ?_; (try (conv => cbv))))
  obtain ⟨b, o, rfl⟩ := ks_some hl (by omega)
  refine mono_loop hA hF l1 (hl.ext x1) hi g (fun h2 x2 => ?_) n 0 h1 (by omega) (by omega) (by omega) (.refl h1)
  have y2 := x1.trans x2
  have l2 := y2.lowOK hlow
  ((try (conv => cbv)); repeat (refine brk_ok hA ?_; (try (conv => cbv))))
  refine value_ok hA l2 (hl.ext y2) hi hxn hxd (fun u1 v1 e1 h3 k1 x3 => ⟨_, _, _, rfl, ?_⟩)
  have y3 := y2.trans x3
  have l3 := y3.lowOK hlow
  ((try (conv => cbv)); repeat (refine brk_ok hA ?_; (try (conv => cbv))))
  refine value_ok hA l3 (hl.ext y3) hi hyn hyd (fun u2 v2 e2 h4 k2 x4 => ⟨_, _, _, rfl, ?_⟩)
  have y4 := y3.trans x4
  have l4 := y4.lowOK hlow
  ((try (conv => cbv)); repeat (refine brk_ok hA ?_; (try (conv => cbv))))
  refine br (e1 ≠ 0) (by rw [e_neq hA]) (fun c2 => ?_) (fun c2 => ?_) <;> (try (conv => cbv)) <;> repeat (refine brk_ok hA ?_; (try (conv => cbv)))
  · exact hQ h4 y4
  obtain rfl : e1 = 0 := by omega
  obtain ⟨sx, qa, ha, va⟩ := k1.some g
  obtain ⟨h9, hh9⟩ : ∃ z, z = bump h4 20 := ⟨_, rfl⟩
  have e9 : Ext h h9 := by rw [hh9]; exact y4.trans (ext_bump hA _ _)
  have l9 := e9.lowOK hlow
  rw [← hh9]
  refine br (e2 = 0) (by rw [e_eql hA]) (fun c3 => ?_) (fun c3 => ?_) <;> (try (conv => cbv)) <;> repeat (refine brk_ok hA ?_; (try (conv => cbv)))
  rotate_left
  · have eT := e9
    have lT := eT.lowOK hlow
    refine inverse_ok hA lT (hl.ext eT) hi (fun a5 n5 c5 e5 h5 k5 s5 x5 => ⟨_, _, _, _, rfl, ?_⟩)
    obtain rfl : e5 = 0 := k5.good.2 g
    replace s5 : Ks h5 a5 n5 (turnR l) := s5
    have y5 := eT.trans x5
    have l5 := y5.lowOK hlow
    ((try (conv => cbv)); repeat (refine brk_ok hA ?_; (try (conv => cbv))))
    refine inverse_ok hA l5 s5 hi.turn (fun a6 n6 c6 e6 h6 k6 s6 x6 => ⟨_, _, _, _, rfl, ?_⟩)
    obtain rfl : e6 = 0 := k6.good.2 g.turn
    replace s6 : Ks h6 a6 n6 (turnR (turnR l)) := s6
    rw [turnR_turnR] at s6
    have y6 := y5.trans x6
    have l6 := y6.lowOK hlow
    ((try (conv => cbv)); repeat (refine brk_ok hA ?_; (try (conv => cbv))))
    refine br False (by rw [e_neq hA]; rfl) (fun q => q.elim) (fun _ => ?_) <;> (try (conv => cbv)) <;> repeat (refine brk_ok hA ?_; (try (conv => cbv)))
    refine br False (by rw [e_neq hA]; rfl) (fun q => q.elim) (fun _ => ?_) <;> (try (conv => cbv)) <;> repeat (refine brk_ok hA ?_; (try (conv => cbv)))
    refine same_ok hA l6 s6 hi (hl.ext y6) hi (by have := s6.len; omega) (fun r7 h7 k7 x7 => ⟨_, rfl, ?_⟩)
    have y7 := y6.trans x7
    have l7 := y7.lowOK hlow
    obtain rfl : r7 = true := k7.2 rfl
    ((try (conv => cbv)); repeat (refine brk_ok hA ?_; (try (conv => cbv))))
    rw [bt]
    ((try (conv => cbv)); repeat (refine brk_ok hA ?_; (try (conv => cbv))))
    refine rcheck_ok hA l7 ha.i64n ha.i64d (fun e8 h8 k8 x8 => ⟨_, rfl, ?_⟩)
    have y8 := y7.trans x8
    have l8 := y8.lowOK hlow
    obtain rfl : e8 = 0 := by
      rcases k8 with ⟨q, _⟩ | ⟨_, q⟩
      · exact q
      · exact absurd ⟨qa, ha⟩ q
    ((try (conv => cbv)); repeat (refine brk_ok hA ?_; (try (conv => cbv))))
    refine br False (by rw [e_neq hA]; rfl) (fun q => q.elim) (fun _ => ?_) <;> (try (conv => cbv)) <;> repeat (refine brk_ok hA ?_; (try (conv => cbv)))
    refine value_ok hA l8 (s5.ext (x6.trans (x7.trans x8))) hi.turn ha.i64n ha.i64d (fun u9 v9 e10 h10 k10 x10 => ⟨_, _, _, rfl, ?_⟩)
    have y10 := y8.trans x10
    have l10 := y10.lowOK hlow
    have bk := k1.back g k10
    ((try (conv => cbv)); repeat (refine brk_ok hA ?_; (try (conv => cbv))))
    refine br (e10 = 0) (by rw [e_eql hA]) (fun c10 => ?_) (fun c10 => ?_) <;> (try (conv => cbv)) <;> repeat (refine brk_ok hA ?_; (try (conv => cbv)))
    · obtain ⟨rfl, rfl⟩ : u9 = xn ∧ v9 = xd := by
        rcases bk with ⟨_, q⟩ | ⟨q, _⟩
        · exact q
        · omega
      obtain ⟨r, hr1, hr2⟩ := eqF u9 v9 u9 v9
      rw [e_eqAgg hA]
      refine ⟨guardF, r, hr1, ?_⟩
      obtain rfl : r = true := hr2.2 ⟨rfl, rfl⟩
      ((try (conv => cbv)); repeat (refine brk_ok hA ?_; (try (conv => cbv))))
      exact hQ h10 y10
    · obtain ⟨rfl, ns⟩ : e10 = 16 ∧ ¬ smallF 10000 u1 v1 := by
        rcases bk with ⟨q, _⟩ | q
        · exact absurd q c10
        · exact q
      refine br True (by rw [e_eql hA]; rfl) (fun _ => ?_) (fun q => absurd trivial q) <;> (try (conv => cbv)) <;> repeat (refine brk_ok hA ?_; (try (conv => cbv)))
      refine fits_ok hA l10 ha.i64n ha.i64d (by omega) (fun r11 h11 k11 x11 => ⟨_, rfl, ?_⟩)
      obtain rfl : r11 = false := by
        cases r11 with
        | true => exact absurd (k11.1 rfl) ns
        | false => rfl
      ((try (conv => cbv)); repeat (refine brk_ok hA ?_; (try (conv => cbv))))
      rw [show bnot false = true by rw [e_bnot hA]; rfl]
      exact hQ h11 (y10.trans x11)
  obtain rfl : e2 = 0 := c3
  obtain ⟨sy, qb, hb, vb⟩ := k2.some g
  obtain ⟨i1, i2⟩ := ValQ.iff g.corr va vb
  have hx := sx.1.is
  have hy := sy.1.is
  refine qless_ok hA (low_fresh hA h9) hx hy (fun r1 h10 hr1 x10 => ⟨_, rfl, ?_⟩)
  ((try (conv => cbv)); repeat (refine brk_ok hA ?_; (try (conv => cbv))))
  obtain ⟨h11, hh11⟩ : ∃ z, z = lowered h9 h10 := ⟨_, rfl⟩
  have e11 : Ext h h11 := by rw [hh11]; exact ext_low hA hlow e9 x10
  have l11 := e11.lowOK hlow
  rw [← hh11]
  refine qless_ok hA (low_fresh hA h11) ha hb (fun r2 h12 hr2 x12 => ⟨_, rfl, ?_⟩)
  ((try (conv => cbv)); repeat (refine brk_ok hA ?_; (try (conv => cbv))))
  obtain ⟨h13, hh13⟩ : ∃ z, z = lowered h11 h12 := ⟨_, rfl⟩
  have eT : Ext h h13 := by rw [hh13]; exact ext_low hA hlow e11 x12
  rw [← hh13]
  obtain rfl : r1 = r2 := by
    rw [Bool.eq_iff_iff, hr1, hr2]; exact i1
  have ss : ∀ x : Bool, bnot (bsame x x) = false := fun x => by rw [e_bnot hA, e_bsame hA]; cases x <;> rfl
  rw [ss]
  ((try (conv => cbv)); repeat (refine brk_ok hA ?_; (try (conv => cbv))))
  obtain ⟨b1, hb1, hb1'⟩ := eqF xn xd yn yd
  obtain ⟨b2, hb2, hb2'⟩ := eqF u1 v1 u2 v2
  have same : ∀ {n d m e : Int} {p q : Rat}, isF n d p → isF m e q → ((n = m ∧ d = e) ↔ p = q) := fun hp hq => by
    constructor
    · rintro ⟨rfl, rfl⟩; exact hp.uniq hq
    · rintro rfl; exact ⟨hp.1.trans hq.1.symm, hp.2.1.trans hq.2.1.symm⟩
  obtain rfl : b1 = b2 := by
    rw [Bool.eq_iff_iff, hb1', hb2', same hx hy, same ha hb]; exact i2
  rw [e_eqAgg hA]
  refine ⟨guardF, b1, hb1, ?_⟩
  ((try (conv => cbv)); repeat (refine brk_ok hA ?_; (try (conv => cbv))))
  rw [e_eqAgg hA]
  refine ⟨guardF, b1, hb2, ?_⟩
  ((try (conv => cbv)); repeat (refine brk_ok hA ?_; (try (conv => cbv))))
  rw [ss]
  ((try (conv => cbv)); repeat (refine brk_ok hA ?_; (try (conv => cbv))))
  have lT := eT.lowOK hlow
  refine inverse_ok hA lT (hl.ext eT) hi (fun a5 n5 c5 e5 h5 k5 s5 x5 => ⟨_, _, _, _, rfl, ?_⟩)
  obtain rfl : e5 = 0 := k5.good.2 g
  replace s5 : Ks h5 a5 n5 (turnR l) := s5
  have y5 := eT.trans x5
  have l5 := y5.lowOK hlow
  ((try (conv => cbv)); repeat (refine brk_ok hA ?_; (try (conv => cbv))))
  refine inverse_ok hA l5 s5 hi.turn (fun a6 n6 c6 e6 h6 k6 s6 x6 => ⟨_, _, _, _, rfl, ?_⟩)
  obtain rfl : e6 = 0 := k6.good.2 g.turn
  replace s6 : Ks h6 a6 n6 (turnR (turnR l)) := s6
  rw [turnR_turnR] at s6
  have y6 := y5.trans x6
  have l6 := y6.lowOK hlow
  ((try (conv => cbv)); repeat (refine brk_ok hA ?_; (try (conv => cbv))))
  refine br False (by rw [e_neq hA]; rfl) (fun q => q.elim) (fun _ => ?_) <;> (try (conv => cbv)) <;> repeat (refine brk_ok hA ?_; (try (conv => cbv)))
  refine br False (by rw [e_neq hA]; rfl) (fun q => q.elim) (fun _ => ?_) <;> (try (conv => cbv)) <;> repeat (refine brk_ok hA ?_; (try (conv => cbv)))
  refine same_ok hA l6 s6 hi (hl.ext y6) hi (by have := s6.len; omega) (fun r7 h7 k7 x7 => ⟨_, rfl, ?_⟩)
  have y7 := y6.trans x7
  have l7 := y7.lowOK hlow
  obtain rfl : r7 = true := k7.2 rfl
  ((try (conv => cbv)); repeat (refine brk_ok hA ?_; (try (conv => cbv))))
  rw [bt]
  ((try (conv => cbv)); repeat (refine brk_ok hA ?_; (try (conv => cbv))))
  refine rcheck_ok hA l7 ha.i64n ha.i64d (fun e8 h8 k8 x8 => ⟨_, rfl, ?_⟩)
  have y8 := y7.trans x8
  have l8 := y8.lowOK hlow
  obtain rfl : e8 = 0 := by
    rcases k8 with ⟨q, _⟩ | ⟨_, q⟩
    · exact q
    · exact absurd ⟨qa, ha⟩ q
  ((try (conv => cbv)); repeat (refine brk_ok hA ?_; (try (conv => cbv))))
  refine br False (by rw [e_neq hA]; rfl) (fun q => q.elim) (fun _ => ?_) <;> (try (conv => cbv)) <;> repeat (refine brk_ok hA ?_; (try (conv => cbv)))
  refine value_ok hA l8 (s5.ext (x6.trans (x7.trans x8))) hi.turn ha.i64n ha.i64d (fun u9 v9 e10 h10 k10 x10 => ⟨_, _, _, rfl, ?_⟩)
  have y10 := y8.trans x10
  have l10 := y10.lowOK hlow
  have bk := k1.back g k10
  ((try (conv => cbv)); repeat (refine brk_ok hA ?_; (try (conv => cbv))))
  refine br (e10 = 0) (by rw [e_eql hA]) (fun c10 => ?_) (fun c10 => ?_) <;> (try (conv => cbv)) <;> repeat (refine brk_ok hA ?_; (try (conv => cbv)))
  · obtain ⟨rfl, rfl⟩ : u9 = xn ∧ v9 = xd := by
      rcases bk with ⟨_, q⟩ | ⟨q, _⟩
      · exact q
      · omega
    obtain ⟨r, hr1, hr2⟩ := eqF u9 v9 u9 v9
    rw [e_eqAgg hA]
    refine ⟨guardF, r, hr1, ?_⟩
    obtain rfl : r = true := hr2.2 ⟨rfl, rfl⟩
    ((try (conv => cbv)); repeat (refine brk_ok hA ?_; (try (conv => cbv))))
    exact hQ h10 y10
  · obtain ⟨rfl, ns⟩ : e10 = 16 ∧ ¬ smallF 10000 u1 v1 := by
      rcases bk with ⟨q, _⟩ | q
      · exact absurd q c10
      · exact q
    refine br True (by rw [e_eql hA]; rfl) (fun _ => ?_) (fun q => absurd trivial q) <;> (try (conv => cbv)) <;> repeat (refine brk_ok hA ?_; (try (conv => cbv)))
    refine fits_ok hA l10 ha.i64n ha.i64d (by omega) (fun r11 h11 k11 x11 => ⟨_, rfl, ?_⟩)
    obtain rfl : r11 = false := by
      cases r11 with
      | true => exact absurd (k11.1 rfl) ns
      | false => rfl
    ((try (conv => cbv)); repeat (refine brk_ok hA ?_; (try (conv => cbv))))
    rw [show bnot false = true by rw [e_bnot hA]; rfl]
    exact hQ h11 (y10.trans x11)

end Go.Proofs.Ytnokkniofajnhaa
