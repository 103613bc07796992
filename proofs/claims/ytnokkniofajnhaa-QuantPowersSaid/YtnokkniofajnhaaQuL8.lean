/-
  QuantPowers: the law's function returns true.
-/
import Derived.Test.YtnokkniofajnhaaQuT
import Derived.Test.YtnokkniofajnhaaSeatL8
namespace Go.Proofs.Ytnokkniofajnhaa
open Go.Sim
set_option linter.unusedVariables false
set_option maxRecDepth 100000

def sqS : List Int → Int
  | [] => 0
  | x :: l => x * x + sqS l
def nzS : List Int → Int
  | [] => 0
  | x :: l => (if x ≠ 0 then 1 else 0) + nzS l
theorem sqS_append (l : List Int) (x : Int) : sqS (l ++ [x]) = sqS l + x * x := by
  induction l with
  | nil => simp [sqS]
  | cons y l ih => simp only [List.cons_append, sqS, ih]; omega
theorem nzS_append (l : List Int) (x : Int) : nzS (l ++ [x]) = nzS l + if x ≠ 0 then 1 else 0 := by
  induction l with
  | nil => simp [nzS]
  | cons y l ih => simp only [List.cons_append, nzS, ih]; omega
theorem good_cases {x : Int} (h : good x = true) : x = 0 ∨ x = -3 ∨ x = -1 ∨ x = 1 ∨ x = 3 := by
  unfold good digitF at h
  by_cases h0 : x = 0; · exact .inl h0
  by_cases h1 : x = -3; · exact .inr (.inl h1)
  by_cases h2 : x = -1; · exact .inr (.inr (.inl h2))
  by_cases h3 : x = 1; · exact .inr (.inr (.inr (.inl h3)))
  by_cases h4 : x = 3; · exact .inr (.inr (.inr (.inr h4)))
  rw [if_neg h0, if_neg h1, if_neg h2, if_neg h3, if_neg h4] at h
  simp at h
theorem cnt_sums (l : List Int) (h : l.all good = true) : sqS l = 9 * (cntF 1 l + cntF 4 l) + cntF 2 l + cntF 3 l ∧ nzS l = cntF 1 l + cntF 2 l + cntF 3 l + cntF 4 l ∧ (l.length : Int) = cntF 0 l + cntF 1 l + cntF 2 l + cntF 3 l + cntF 4 l := by
  induction l with
  | nil => exact ⟨rfl, rfl, rfl⟩
  | cons x l ih =>
    rw [List.all_cons, Bool.and_eq_true] at h
    obtain ⟨h1, h2, h3⟩ := ih h.2
    have c : ∀ d, cntF d (x :: l) = cntF d l + if digitF x = d then 1 else 0 := fun d => by
      unfold cntF; rw [List.countP_cons]
      by_cases e : digitF x = d <;> simp [e]
    simp only [c, sqS, nzS, List.length_cons]
    rcases good_cases h.1 with rfl | rfl | rfl | rfl | rfl <;> simp [digitF] <;> omega
theorem nz_bound (l : List Int) : 0 ≤ nzS l ∧ nzS l ≤ l.length := by
  induction l with
  | nil => exact ⟨by decide, by decide⟩
  | cons x l ih =>
    simp only [nzS, List.length_cons]
    split <;> omega
theorem sq_bound (l : List Int) (h : l.all good = true) : 0 ≤ sqS l ∧ sqS l ≤ 9 * l.length := by
  induction l with
  | nil => exact ⟨by decide, by decide⟩
  | cons x l ih =>
    rw [List.all_cons, Bool.and_eq_true] at h
    have := ih h.2
    simp only [sqS, List.length_cons]
    rcases good_cases h.1 with rfl | rfl | rfl | rfl | rfl <;> omega
theorem sq_nz (l : List Int) (h : l.all good = true) : nzS l ≤ sqS l ∧ sqS l ≤ 9 * nzS l ∧ (sqS l - nzS l) % 2 = 0 := by
  induction l with
  | nil => exact ⟨by decide, by decide, by decide⟩
  | cons x l ih =>
    rw [List.all_cons, Bool.and_eq_true] at h
    have := ih h.2
    simp only [sqS, nzS]
    rcases good_cases h.1 with rfl | rfl | rfl | rfl | rfl <;> simp <;> omega
theorem all_take {l : List Int} (h : l.all good = true) (k : Nat) : (l.take k).all good = true := by
  rw [List.all_eq_true] at h ⊢
  exact fun x hx => h x (List.mem_of_mem_take hx)

theorem given_good : GoodL [⟨0, 1, 0, 1⟩, ⟨1, 2, 1, 3⟩, ⟨1, 1, 1, 1⟩] ∧ allI64 [⟨0, 1, 0, 1⟩, ⟨1, 2, 1, 3⟩, ⟨1, 1, 1, 1⟩] := by
  have ok : ∀ n d : Int, (1 ≤ d ∧ d ≤ 1000000000000000000 ∧ -1000000000000000000 ≤ n ∧ n ≤ 1000000000000000000 ∧ Int.gcd n d = 1) → okF n d := fun n d h => (okF_iff n d).2 h
  have o1 : okF 0 1 := ok 0 1 (by decide)
  have o2 : okF 1 2 := ok 1 2 (by decide)
  have o3 : okF 1 3 := ok 1 3 (by decide)
  have o4 : okF 1 1 := ok 1 1 (by decide)
  have lt : ∀ n d m e : Int, okF n d → okF m e → n * e < m * d → rq n d < rq m e := fun n d m e h k hl => by
    obtain ⟨a1, a2, _⟩ := h.is
    obtain ⟨b1, b2, _⟩ := k.is
    rw [Rat.lt_iff, ← a1, ← b1, ← a2, ← b2]
    exact hl
  have three : ∀ i : Int, 0 ≤ i → i < 3 → i = 0 ∨ i = 1 ∨ i = 2 := by omega
  refine ⟨⟨by decide, by decide, fun i i0 i1 => ?_, fun i i0 i1 => ?_⟩, fun i i0 i1 => ?_⟩
  · rcases three i i0 i1 with rfl | rfl | rfl
    · exact ⟨⟨o1, by decide, by decide, by decide⟩, ⟨o1, by decide, by decide, by decide⟩⟩
    · exact ⟨⟨o2, by decide, by decide, by decide⟩, ⟨o3, by decide, by decide, by decide⟩⟩
    · exact ⟨⟨o4, by decide, by decide, by decide⟩, ⟨o4, by decide, by decide, by decide⟩⟩
  · rcases three i (by omega) i1 with rfl | rfl | rfl
    · omega
    · exact ⟨lt 0 1 1 2 o1 o2 (by decide), lt 0 1 1 3 o1 o3 (by decide)⟩
    · exact ⟨lt 1 2 1 1 o2 o4 (by decide), lt 1 3 1 1 o3 o4 (by decide)⟩
  · rcases three i i0 i1 with rfl | rfl | rfl <;> exact ⟨⟨by decide, by decide⟩, ⟨by decide, by decide⟩, ⟨by decide, by decide⟩, ⟨by decide, by decide⟩⟩
theorem given_one {u v e : Int} (h : ValIs [⟨0, 1, 0, 1⟩, ⟨1, 2, 1, 3⟩, ⟨1, 1, 1, 1⟩] 1 1 u v e) : e = 0 ∧ u = 1 ∧ v = 1 :=
  ValIs.knot given_good.1 (i := 2) (by omega) (by decide) h

variable {F : Prims} {call head arith cmp scmp bnot bsame conv neg imax imin ofNat slen place inR nz geZ rd wr push next mkOK nat zeros sadd eqAgg cut slc sslc strAt part app cpy putAt fresh lowered bump wrote addN lt ne fpAll brk yn rng mget mput mnew bytes clr} (hA : AP F ⟨call, head, arith, cmp, scmp, bnot, bsame, conv, neg, imax, imin, ofNat, slen, place, inR, nz, geZ, rd, wr, push, next, mkOK, nat, zeros, sadd, eqAgg, cut, slc, sslc, strAt, part, app, cpy, putAt, fresh, lowered, bump, wrote, addN, lt, ne, fpAll, brk, yn, rng, mget, mput, mnew, bytes, clr⟩)
include hA

theorem pow_loop {h0 : AHeap} (hlow : h0.low ≤ h0.next) {a : Option Addr} {n c : Nat} {l : List Int} (hs : Ints h0 .i64 a n l) (hg : l.all good = true) (hn : n ≤ 256) {k0 k1 k2 k3 k4 : Int} {Q : Exit → SS → Prop}
    (hQ : ∀ h', Ext h0 h' → Q (.exit 0) ⟨[(3, .bool true), (4, .pointer (some ⟨0, 0, some 0⟩)), (6, .int .i64 (sqS l)), (7, .int .i64 (nzS l))], 1, [(0, [.int .i64 k0, .int .i64 k1, .int .i64 k2, .int .i64 k3, .int .i64 k4])], h'⟩) :
    ∀ i : Int, 0 ≤ i → i ≤ n → ∀ h sq nz, sq = sqS (l.take i.toNat) → nz = nzS (l.take i.toNat) → Ext h0 h → head 8 9 1 ⟨[(0, .slice a n c), (3, .bool true), (4, .pointer (some ⟨0, 0, some 0⟩)), (6, .int .i64 sq), (7, .int .i64 nz), (8, .int .i64 i)], 1, [(0, [.int .i64 k0, .int .i64 k1, .int .i64 k2, .int .i64 k3, .int .i64 k4])], h⟩ Q := by
  have hl := hs.len
  refine countUp (fun i hi0 hin ih h sq nz hsq hnz he => ?_)
  refine hA.roundR Try.func8 r8_ok ?_; (try (conv => cbv)); repeat (refine brk_ok hA ?_; (try (conv => cbv)))
  refine br (i < n) (by rw [e_lss hA, e_ofNat hA]) (fun c1 => ?_) (fun c1 => ?_) <;> (try (conv => cbv)) <;> repeat (refine brk_ok hA ?_; (try (conv => cbv)))
  rotate_left
  · rw [List.take_of_length_le (by omega)] at hsq hnz
    rw [hsq, hnz]
    exact hQ h he
  have ht := take_succ' l hi0 (by omega)
  have tl : (l.take i.toNat).length ≤ 256 := by rw [List.length_take]; omega
  have b1 := sq_bound _ (all_take hg i.toNat)
  have b2 := nz_bound (l.take i.toNat)
  obtain ⟨h9, hh9⟩ : ∃ z, z = bump h 12 := ⟨_, rfl⟩
  have e9 : Ext h0 h9 := by rw [hh9]; exact he.trans (ext_bump hA _ _)
  rw [← hh9]
  obtain ⟨b, o, x, rfl, _, hx, hr⟩ := (hs.ext e9).atI hi0 c1
  have gx : good x = true := by
    rw [hx]
    exact List.all_eq_true.1 hg _ (at'_mem l hi0 (by omega))
  have r1 := rd_ok hA hr
  have xx : 0 ≤ x * x ∧ x * x ≤ 9 := by rcases good_cases gx with rfl | rfl | rfl | rfl | rfl <;> decide
  rw [← hsq] at b1
  rw [← hnz] at b2
  have em : arith .mul .i64 x x = x * x := mul64 hA (by omega) (by omega)
  obtain ⟨y, hy⟩ : ∃ z, z = x * x := ⟨_, rfl⟩
  rw [← hy] at em xx
  ((try (conv => cbv)); repeat ((first | refine brk_ok hA ?_ | refine ⟨in_ok hA (by omega) (by omega), ?_⟩ | refine ⟨_, _, rfl, in_ok hA (by omega) (by omega), ?_⟩ | refine ⟨nz_ok hA (by omega), ?_⟩ | refine ⟨geZ_ok hA (by omega), ?_⟩ | refine ⟨ne_ok hA (by omega), ?_⟩ | refine ⟨wrote_no hA (by assumption), ?_⟩ | refine ⟨wrote_no hA (.refl _), ?_⟩ | refine ⟨_, ‹rd _ _ _ _ _›, ?_⟩ | refine ⟨_, _, ‹rd _ _ _ _ _›, ?_⟩ | refine ⟨_, _, _, _, ‹rd _ _ _ _ _›, ?_⟩ | refine ⟨_, ‹wr _ _ _ _ _›, ?_⟩); (try (conv => cbv))))
  rw [em, add64 hA (by omega) (by omega)]
  have nsq : sq + y = sqS (l.take (i + 1).toNat) := by rw [ht, sqS_append, ← hx, hsq, hy]
  have nnz : nzS (l.take (i + 1).toNat) = nz + if x ≠ 0 then 1 else 0 := by rw [ht, nzS_append, ← hx, hnz]
  refine br (x ≠ 0) (by rw [e_neq hA]) (fun c2 => ?_) (fun c2 => ?_) <;> (try (conv => cbv)) <;> repeat (refine brk_ok hA ?_; (try (conv => cbv)))
  · rw [add64 hA (by omega) (by omega), add64 hA (by omega) (by omega)]
    exact ih c1 h9 _ _ nsq (by rw [nnz, if_pos c2]) e9
  · rw [add64 hA (by omega) (by omega)]
    exact ih c1 h9 _ nz nsq (by rw [nnz, if_neg c2]; omega) e9

theorem powers_ok (hF : ∀ h, F 25 [] h = some (.bool true, h)) {h : AHeap} (hlow : h.low ≤ h.next) {a : Option Addr} {n c : Nat} {l : List Int} (hs : Ints h .i64 a n l) {Q : Value → AHeap → Prop}
    (hQ : ∀ h', Ext h h' → Q (.bool true) h') : call 8 [.slice a n c] h Q := by
  have hl := hs.len
  refine hA.bodyR Try.func8 r8_ok (hA.alike _ _ _ rfl) hlow ?_; (try (conv => cbv)); repeat (refine brk_ok hA ?_; (try (conv => cbv)))
  refine hA.prim (hF h) ⟨_, rfl, ?_⟩
  ((try (conv => cbv)); repeat (refine brk_ok hA ?_; (try (conv => cbv))))
  refine br (256 < (n : Int)) (by rw [e_gtr hA, e_ofNat hA]) (fun c1 => ?_) (fun c1 => ?_) <;> (try (conv => cbv)) <;> repeat (refine brk_ok hA ?_; (try (conv => cbv)))
  · exact hQ h (.refl h)
  have bt : bnot true = false := by rw [e_bnot hA]; rfl
  rw [bt]
  ((try (conv => cbv)); repeat (refine brk_ok hA ?_; (try (conv => cbv))))
  refine scounts_ok hA hlow (by omega) hs (fun e c0 c1' c2 c3 c4 h1 he x1 hc => ⟨_, _, _, _, _, _, rfl, ?_⟩)
  have l1 := x1.lowOK hlow
  ((try (conv => cbv)); repeat (refine brk_ok hA ?_; (try (conv => cbv))))
  refine br (e ≠ 0) (by rw [e_neq hA]) (fun c2' => ?_) (fun c2' => ?_) <;> (try (conv => cbv)) <;> repeat (refine brk_ok hA ?_; (try (conv => cbv)))
  · exact hQ h1 x1
  obtain rfl : e = 0 := by omega
  rw [if_pos rfl] at hc
  have hg : l.all good = true := by
    unfold checkF at he
    split at he
    · omega
    · split at he
      · assumption
      · omega
  obtain ⟨m1, m2, m3⟩ := cnt_sums l hg
  obtain ⟨m4, m5, m6⟩ := sq_nz l hg
  have b0 := cntF_bound 0 l
  have b1 := cntF_bound 1 l
  have b2 := cntF_bound 2 l
  have b3 := cntF_bound 3 l
  have b4 := cntF_bound 4 l
  unfold counts at hc
  simp only [List.cons.injEq, and_true] at hc
  obtain ⟨g0, g1, g2, g3, g4⟩ := hc
  rw [← g1, ← g2, ← g3, ← g4] at m1 m2
  rw [← g0, ← g1, ← g2, ← g3, ← g4] at m3
  rw [← g0] at b0
  rw [← g1] at b1
  rw [← g2] at b2
  rw [← g3] at b3
  rw [← g4] at b4
  obtain ⟨sq, hsq⟩ : ∃ z, z = sqS l := ⟨_, rfl⟩
  obtain ⟨nz, hnz⟩ : ∃ z, z = nzS l := ⟨_, rfl⟩
  refine pow_loop hA l1 (hs.ext x1) hg (by omega) (fun h2 x2 => ?_) 0 (by omega) (by omega) h1 0 0 rfl rfl (.refl h1)
  have y2 := x1.trans x2
  have l2 := y2.lowOK hlow
  rw [← hsq, ← hnz] at m4 m5 m6 ⊢
  rw [← hsq] at m1
  rw [← hnz] at m2
  ((try (conv => cbv)); repeat (refine brk_ok hA ?_; (try (conv => cbv))))
  refine power_ok hA l2 b0.1 b1.1 b2.1 b3.1 b4.1 (by omega) (fun pa pb pe h3 k3 x3 => ⟨_, _, _, rfl, ?_⟩)
  have y3 := y2.trans x3
  have l3 := y3.lowOK hlow
  rw [← m2, ← m1] at k3
  ((try (conv => cbv)); repeat (refine brk_ok hA ?_; (try (conv => cbv))))
  refine br (nz = 0) (by rw [e_eql hA]) (fun c3 => ?_) (fun c3 => ?_) <;> (try (conv => cbv)) <;> repeat (refine brk_ok hA ?_; (try (conv => cbv)))
  · obtain rfl : pe = 18 := by
      rcases k3 with ⟨_, _, _, q⟩ | ⟨q, _⟩
      · exact q
      · exact absurd c3 q
    rw [show cmp .eql 18 18 = true by rw [e_eql hA]; rfl]
    exact hQ h3 y3
  have k3 : outF ((sq : Rat) / (nz : Rat)) pa pb pe := by
    rcases k3 with ⟨q, _⟩ | ⟨_, q⟩
    · exact absurd q c3
    · exact q
  refine rmake_ok hA l3 (by unfold i64; omega) (by unfold i64; omega) (fun wa wb we k4 h4 x4 => ⟨_, _, _, rfl, ?_⟩)
  have y4 := y3.trans x4
  have l4 := y4.lowOK hlow
  have k4 : outF ((sq : Rat) / (nz : Rat)) wa wb we := by
    rcases k4 with ⟨q, _⟩ | ⟨_, q⟩
    · exact absurd q c3
    · exact q
  obtain ⟨rfl, rfl, rfl⟩ := k3.uniq k4
  have hq : bnd ((sq : Rat) / (nz : Rat)) 2304 256 := by
    have a : bnd (sq : Rat) 2304 1 := ⟨by rw [Rat.num_intCast]; omega, by rw [Rat.den_intCast]; omega⟩
    have b : bnd (nz : Rat) 256 1 := ⟨by rw [Rat.num_intCast]; omega, by rw [Rat.den_intCast]; omega⟩
    exact (a.div b (by omega)).mono (by omega) (by omega)
  obtain ⟨hp, rfl⟩ : isF pa pb ((sq : Rat) / (nz : Rat)) ∧ pe = 0 := by
    rcases k3 with ⟨q, r1, r2, r3⟩ | ⟨q, _⟩
    · exact ⟨⟨r1, r2, q⟩, r3⟩
    · exact absurd (hq.fits (by omega) (by omega)) q
  ((try (conv => cbv)); repeat (refine brk_ok hA ?_; (try (conv => cbv))))
  obtain ⟨h9, hh9⟩ : ∃ z, z = bump h4 12 := ⟨_, rfl⟩
  have e9 : Ext h h9 := by rw [hh9]; exact y4.trans (ext_bump hA _ _)
  have l9 := e9.lowOK hlow
  rw [← hh9]
  refine given_ok hA (low_fresh hA h9) (fun ga gc h10 gk x10 => ⟨_, _, _, rfl, ?_⟩)
  ((try (conv => cbv)); repeat (refine brk_ok hA ?_; (try (conv => cbv))))
  obtain ⟨h11, hh11⟩ : ∃ z, z = lowered h9 h10 := ⟨_, rfl⟩
  have e11 : Ext h h11 := by rw [hh11]; exact ext_low hA hlow e9 x10
  have l11 := e11.lowOK hlow
  rw [← hh11]
  have gk' : Ks h11 ga 3 [⟨0, 1, 0, 1⟩, ⟨1, 2, 1, 3⟩, ⟨1, 1, 1, 1⟩] := by
    rw [hh11, e_lowered hA]
    exact ⟨gk.cells, kr_len, by omega⟩
  refine correct_ok hA (low_fresh hA h11) (gk'.ext (ext_fresh hA h11)) given_good.2 given_good.1 (by omega) (by omega) m4 m5 m6 hp rfl (fun u v e12 h12 k12 x12 => ⟨_, _, _, rfl, ?_⟩)
  obtain ⟨rfl, rfl, rfl⟩ := given_one k12
  ((try (conv => cbv)); repeat (refine brk_ok hA ?_; (try (conv => cbv))))
  obtain ⟨h13, hh13⟩ : ∃ z, z = lowered h11 h12 := ⟨_, rfl⟩
  have e13 : Ext h h13 := by rw [hh13]; exact ext_low hA hlow e11 x12
  have l13 := e13.lowOK hlow
  rw [← hh13]
  ((try (conv => cbv)); repeat ((first | refine brk_ok hA ?_ | refine ⟨in_ok hA (by omega) (by omega), ?_⟩ | refine ⟨_, _, rfl, in_ok hA (by omega) (by omega), ?_⟩ | refine ⟨nz_ok hA (by omega), ?_⟩ | refine ⟨geZ_ok hA (by omega), ?_⟩ | refine ⟨ne_ok hA (by omega), ?_⟩ | refine ⟨wrote_no hA (by assumption), ?_⟩ | refine ⟨wrote_no hA (.refl _), ?_⟩ | refine ⟨_, ‹rd _ _ _ _ _›, ?_⟩ | refine ⟨_, _, ‹rd _ _ _ _ _›, ?_⟩ | refine ⟨_, _, _, _, ‹rd _ _ _ _ _›, ?_⟩ | refine ⟨_, ‹wr _ _ _ _ _›, ?_⟩); (try (conv => cbv))))
  obtain ⟨hB, hhB⟩ : ∃ z, z = bump h13 32 := ⟨_, rfl⟩
  have eB : Ext h hB := by rw [hhB]; exact e13.trans (ext_bump hA _ _)
  have lB := eB.lowOK hlow
  rw [← hhB]
  obtain ⟨P, hP⟩ : ∃ z : Rat, z = (sq : Rat) / (nz : Rat) := ⟨_, rfl⟩
  rw [← hP] at hp
  have nzp : (0 : Rat) < (nz : Rat) := Rat.intCast_pos.2 (by omega)
  have le1 : (nz : Rat) ≤ (sq : Rat) := Rat.intCast_le_intCast.2 m4
  have le9 : (sq : Rat) ≤ 9 * (nz : Rat) := by
    have := Rat.intCast_le_intCast.2 m5
    rw [Rat.intCast_mul] at this
    exact this
  have pe1 : P * (nz : Rat) = (sq : Rat) := by rw [hP]; grind
  have ge1 : ¬ P < 1 := fun w => by
    have := Rat.mul_lt_mul_of_pos_right w nzp
    grind
  have ge9 : ¬ 9 < P := fun w => by
    have := Rat.mul_lt_mul_of_pos_right w nzp
    grind
  have f1 : isF 1 1 (1 : Rat) := ⟨by decide, by decide, by decide, by decide, by decide⟩
  have f9 : isF 9 1 (9 : Rat) := ⟨by decide, by decide, by decide, by decide, by decide⟩
  have bf : bnot false = true := by rw [e_bnot hA]; rfl
  refine br True (by rw [e_eql hA]; rfl) (fun _ => ?_) (fun q => absurd trivial q) <;> (try (conv => cbv)) <;> repeat (refine brk_ok hA ?_; (try (conv => cbv)))
  obtain ⟨r1, hr1, hr1'⟩ := eqF pa pb pa pb
  rw [e_eqAgg hA]
  refine ⟨guardF, r1, hr1, ?_⟩
  obtain rfl : r1 = true := hr1'.2 ⟨rfl, rfl⟩
  ((try (conv => cbv)); repeat (refine brk_ok hA ?_; (try (conv => cbv))))
  refine of_ok hA (low_fresh hA hB) ⟨_, _, rfl, ?_⟩
  ((try (conv => cbv)); repeat (refine brk_ok hA ?_; (try (conv => cbv))))
  rw [low_same hA lB]
  refine qless_ok hA (low_fresh hA hB) hp f1 (fun r2 h14 hr2 x14 => ⟨_, rfl, ?_⟩)
  obtain rfl : r2 = false := by
    cases r2 with
    | true => exact absurd (hr2.1 rfl) ge1
    | false => rfl
  ((try (conv => cbv)); repeat (refine brk_ok hA ?_; (try (conv => cbv))))
  rw [bf]
  obtain ⟨h15, hh15⟩ : ∃ z, z = lowered hB h14 := ⟨_, rfl⟩
  have e15 : Ext h h15 := by rw [hh15]; exact ext_low hA hlow eB x14
  have l15 := e15.lowOK hlow
  rw [← hh15]
  ((try (conv => cbv)); repeat (refine brk_ok hA ?_; (try (conv => cbv))))
  refine of_ok hA (low_fresh hA h15) ⟨_, _, rfl, ?_⟩
  ((try (conv => cbv)); repeat (refine brk_ok hA ?_; (try (conv => cbv))))
  rw [low_same hA l15]
  refine qless_ok hA (low_fresh hA h15) f9 hp (fun r3 h16 hr3 x16 => ⟨_, rfl, ?_⟩)
  obtain rfl : r3 = false := by
    cases r3 with
    | true => exact absurd (hr3.1 rfl) ge9
    | false => rfl
  ((try (conv => cbv)); repeat (refine brk_ok hA ?_; (try (conv => cbv))))
  rw [bf]
  obtain ⟨h17, hh17⟩ : ∃ z, z = lowered h15 h16 := ⟨_, rfl⟩
  have e17 : Ext h h17 := by rw [hh17]; exact ext_low hA hlow e15 x16
  have l17 := e17.lowOK hlow
  rw [← hh17]
  ((try (conv => cbv)); repeat (refine brk_ok hA ?_; (try (conv => cbv))))
  refine br True (by rw [e_eql hA]; rfl) (fun _ => ?_) (fun q => absurd trivial q) <;> (try (conv => cbv)) <;> repeat (refine brk_ok hA ?_; (try (conv => cbv)))
  refine of_ok hA (low_fresh hA h17) ⟨_, _, rfl, ?_⟩
  ((try (conv => cbv)); repeat (refine brk_ok hA ?_; (try (conv => cbv))))
  rw [low_same hA l17]
  ((try (conv => cbv)); repeat ((first | refine brk_ok hA ?_ | refine ⟨in_ok hA (by omega) (by omega), ?_⟩ | refine ⟨_, _, rfl, in_ok hA (by omega) (by omega), ?_⟩ | refine ⟨nz_ok hA (by omega), ?_⟩ | refine ⟨geZ_ok hA (by omega), ?_⟩ | refine ⟨ne_ok hA (by omega), ?_⟩ | refine ⟨wrote_no hA (by assumption), ?_⟩ | refine ⟨wrote_no hA (.refl _), ?_⟩ | refine ⟨_, ‹rd _ _ _ _ _›, ?_⟩ | refine ⟨_, _, ‹rd _ _ _ _ _›, ?_⟩ | refine ⟨_, _, _, _, ‹rd _ _ _ _ _›, ?_⟩ | refine ⟨_, ‹wr _ _ _ _ _›, ?_⟩); (try (conv => cbv))))
  obtain ⟨r4, hr4, hr4'⟩ := eqF 1 1 1 1
  rw [e_eqAgg hA]
  refine ⟨guardF, r4, hr4, ?_⟩
  obtain rfl : r4 = true := hr4'.2 ⟨rfl, rfl⟩
  ((try (conv => cbv)); repeat ((first | refine brk_ok hA ?_ | refine ⟨in_ok hA (by omega) (by omega), ?_⟩ | refine ⟨_, _, rfl, in_ok hA (by omega) (by omega), ?_⟩ | refine ⟨nz_ok hA (by omega), ?_⟩ | refine ⟨geZ_ok hA (by omega), ?_⟩ | refine ⟨ne_ok hA (by omega), ?_⟩ | refine ⟨wrote_no hA (by assumption), ?_⟩ | refine ⟨wrote_no hA (.refl _), ?_⟩ | refine ⟨_, ‹rd _ _ _ _ _›, ?_⟩ | refine ⟨_, _, ‹rd _ _ _ _ _›, ?_⟩ | refine ⟨_, _, _, _, ‹rd _ _ _ _ _›, ?_⟩ | refine ⟨_, ‹wr _ _ _ _ _›, ?_⟩); (try (conv => cbv))))
  exact hQ _ e17

end Go.Proofs.Ytnokkniofajnhaa
