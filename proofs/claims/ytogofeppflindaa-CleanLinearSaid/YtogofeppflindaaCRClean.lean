/-
  Clean, of the reference.
-/
import Derived.Test.YtogofeppflindaaCClean
namespace Go.Proofs.Ytogofeppflindaa
open Go.Sim
set_option linter.unusedVariables false
set_option maxRecDepth 100000

variable {call : FuncId → List Value → AHeap → (Value → AHeap → Prop) → Prop}
  {head : FuncId → Nat → Nat → SS → (Exit → SS → Prop) → Prop}
  {arith : BinOp → IntKind → Int → Int → Int}
  {cmp : BinOp → Int → Int → Bool}
  {scmp : BinOp → ByteArray → ByteArray → Bool}
  {bnot : Bool → Bool}
  {bsame : Bool → Bool → Bool}
  {conv : IntKind → Int → Int}
  {neg : IntKind → Int → Int}
  {imax : Int → Int → Int}
  {imin : Int → Int → Int}
  {ofNat : Nat → Int}
  {slen : ByteArray → Int}
  {place : Nat → Int → Nat → Nat}
  {inR : Int → Nat → Prop}
  {nz : Int → Prop}
  {geZ : Int → Prop}
  {rd : AHeap → Nat → Nat → Nat → List Value → Prop}
  {wr : AHeap → Nat → Nat → List Value → AHeap → Prop}
  {push : AHeap → Nat → List Value → AHeap}
  {next : AHeap → Nat}
  {mkOK : Int → Int → Prop}
  {nat : Int → Nat}
  {zeros : List Value → Int → List Value}
  {sadd : ByteArray → ByteArray → (ByteArray → Prop) → Prop}
  {eqAgg : TypeId → Array Value → Array Value → (Bool → Prop) → Prop}
  {cut : Nat → Int → Prop}
  {slc : TypeId → Value → Option Value → Option Value → Option Value → (Option Addr → Nat → Nat → Prop) → Prop}
  {sslc : TypeId → ByteArray → Option Value → Option Value → (ByteArray → Prop) → Prop}
  {strAt : ByteArray → Int → (Int → Prop) → Prop}
  {part : TypeId → Array Value → Nat → Value → Prop}
  {app : List TypeId → List Value → AHeap → (Option Addr → Nat → Nat → AHeap → Prop) → Prop}
  {cpy : List TypeId → List Value → AHeap → (Int → AHeap → Prop) → Prop}
  {putAt : AHeap → Nat → Nat → List Value → AHeap}
  {fresh : AHeap → AHeap}
  {lowered : AHeap → AHeap → AHeap}
  {bump : AHeap → Nat → AHeap}
  {wrote : AHeap → AHeap → Bool}
  {addN : Nat → Nat → Nat}
  {lt : Nat → Nat → Prop}
  {ne : Nat → Nat → Prop}
  {fpAll : Bool → Bool → Bool → Nat → Nat → Prop}
  {brk : (Unit → Prop) → Prop}
  {yn : Nat → Nat}
  {rng : FuncId → Nat → SS → (Exit → SS → Prop) → Prop}
  {mget : TypeId → Value → Value → AHeap → Value → Bool → Prop}
  {mput : TypeId → Value → Value → Value → AHeap → AHeap → Prop}
  {mnew : AHeap → AHeap}
  {bytes : TypeId → TypeId → Option Addr → Nat → AHeap → ByteArray → Prop}
  {clr : List TypeId → List Value → AHeap → AHeap → Prop}
  (hA : AOK progU hint prims ⟨call, head, arith, cmp, scmp, bnot, bsame, conv, neg, imax, imin, ofNat, slen, place, inR, nz, geZ, rd, wr, push, next, mkOK, nat, zeros, sadd, eqAgg, cut, slc, sslc, strAt, part, app, cpy, putAt, fresh, lowered, bump, wrote, addN, lt, ne, fpAll, brk, yn, rng, mget, mput, mnew, bytes, clr⟩)
include hA

theorem rcln_loop {h0 : AHeap} (hlow0 : h0.low ≤ h0.next) {lo hi : Nat} (hlo : h0.next ≤ lo) (hlh : lo ≤ hi) {ab : Option Addr} {mb cb : Nat} {bm : Grid} (hb : Img h0 ab mb bm) {a : Option Addr} {m ca : Nat} {bs : List (Nat × Nat)} {n : Int} (hmn : (m : Int) = n) (n1 : 1 ≤ n) (n8 : n ≤ 8) (hbm : beamP bm n) {num den floor steps : Int} (hc : clnP ⟨num, den, floor, steps⟩) {img : Grid}
    (hbs : (∀ p ∈ bs, p.1 < hi) ∧ ∀ ad, a = some ad → ad.block < hi)
    {Q : Exit → SS → Prop}
    (h1 : ∀ h' g al k cl l, Ext h0 h' → OImg h' lo a m bs g → Log h' al k l → Runs bm n ⟨num, den, floor, steps⟩ steps.toNat img (some (g, l)) → ∀ kn K, Q (.exit 0) ⟨[(10, .slice a m ca), (11, .slice al k cl)], kn, K, h'⟩)
    (h2 : ∀ e kn K h', Ext h0 h' → Runs bm n ⟨num, den, floor, steps⟩ steps.toNat img none → Q .ret ⟨(8, .int .i64 16) :: (7, .slice none 0 0) :: (6, .slice none 0 0) :: e, kn, K, h'⟩) :
    ∀ i : Int, 0 ≤ i → i ≤ steps.toNat → ∀ h g al k cl l, Ext h0 h → hi ≤ h.next → OImg h lo a m bs g → Apd h 3 al k cl (flatC l) → From hi al → squareP g n 1000000000 → (l.length : Int) = i → (∀ r, Runs bm n ⟨num, den, floor, steps⟩ (steps.toNat - i.toNat) g r → Runs bm n ⟨num, den, floor, steps⟩ steps.toNat img (r.map fun s => (s.1, l ++ s.2))) →
      head 13 6 1 ⟨[(1, .slice ab mb cb), (5, .pointer (some ⟨0, 0, some 0⟩)), (10, .slice a m ca), (11, .slice al k cl)], 1, [(0, [.int .i64 num, .int .i64 den, .int .i64 floor, .int .i64 steps])], h⟩ Q := by
  have hc' := hc
  obtain ⟨k1, k2, k3, k4, k5, k6, k7⟩ := hc
  simp only [] at k1 k2 k3 k4 k5 k6 k7
  have hbl := hb.len
  have hb1 := hbm.1.1
  have hmo : ofNat m = n := by rw [e_ofNat hA]; exact hmn
  have e3 : arith .sub .i64 n 1 = n - 1 := sub64 hA (by omega) (by omega)
  refine countUp (fun i hi0 hin ih h g al k cl l e hhi ho hp fr hs hl hf => ?_)
  have hlow := e.lowOK hlow0
  have hk : k = l.length := by
    have := hp.cells.length
    rw [flatC_len] at this
    omega
  refine hA.roundR Try.func13 r13_ok ?_; (try (conv => cbv)); repeat (refine brk_ok hA ?_; (try (conv => cbv)))
  refine br (i < steps) (by rw [e_lss hA, e_ofNat hA, hk, hl]) (fun c1 => ?_) (fun c1 => ?_) <;> (try (conv => cbv)) <;> repeat (refine brk_ok hA ?_; (try (conv => cbv)))
  · obtain ⟨k', hk'⟩ : ∃ k', steps.toNat - i.toNat = k' + 1 := ⟨steps.toNat - i.toNat - 1, by omega⟩
    simp only [hk'] at hf
    have c1' : i < steps.toNat := by omega
    refine rpk_ok hA hlow ho.img hmn n1 (by omega) (squareP_shp hs) (fun x y h5 e5 t => ⟨_, _, rfl, ?_⟩)
    ((try (conv => cbv)); repeat (refine brk_ok hA ?_; (try (conv => cbv))))
    have x5 := e.trans e5
    have t1 := t.x0; have t2 := t.x1; have t3 := t.y0; have t4 := t.y1
    obtain ⟨b, o, rb, rn, rc, hae, hbn, hrd, hrn, hbi, hown, hrb, hlorb, hne⟩ := (ho.ext e5).at t3 (by omega)
    have hrl : ((rowAt g y).length : Int) = n := (squareP_shp hs).2 y t3 t4
    refine ⟨b, o, hae, in_ok hA t3 (by omega), ?_⟩
    ((try (conv => cbv)); repeat (refine brk_ok hA ?_; (try (conv => cbv))))
    refine ⟨_, _, _, rd_ok hA hrd, ?_⟩
    ((try (conv => cbv)); repeat (refine brk_ok hA ?_; (try (conv => cbv))))
    refine ⟨rb, 0, rfl, in_ok hA t1 (by omega), ?_⟩
    ((try (conv => cbv)); repeat (refine brk_ok hA ?_; (try (conv => cbv))))
    obtain ⟨w, hw⟩ : ∃ w, w = cell g y x := ⟨_, rfl⟩
    have hx : h5.readG ⟨rb, 0 + x.toNat * 1, none⟩ 1 = some [.int .i64 w] := by
      have := hown.getInt (i := x.toNat) (by omega)
      rw [Nat.zero_add, Nat.mul_one, this, hw]
      rfl
    refine ⟨w, rd_ok hA hx, ?_⟩
    ((try (conv => cbv)); repeat (refine brk_ok hA ?_; (try (conv => cbv))))
    have hw2 := ((hs.2 y t3 t4).2 x t1 t2).2
    rw [← hw] at hw2
    obtain ⟨h6, hh6⟩ : ∃ z, z = bump h5 26 := ⟨_, rfl⟩
    obtain ⟨nh, hnh⟩ : ∃ z, z = next h5 := ⟨_, rfl⟩
    have e6 : Ext h5 h6 := by rw [hh6, e_bump hA]; exact .bump _ _
    have x6 := x5.trans e6
    have e56 := e5.trans e6
    refine br (w < floor) (by rw [e_lss hA]) (fun c2 => ?_) (fun c2 => ?_) <;> (try (conv => cbv)) <;> repeat (refine brk_ok hA ?_; (try (conv => cbv)))
    · rw [← hh6]
      refine h1 h6 g al k cl l x6 (ho.ext e56) ⟨(hp.ext e56).cells⟩ ?_ _ _
      have := hf _ (.low t (.inl (by rw [← hw]; exact c2)))
      simpa using this
    rw [← hh6, ← hnh]
    obtain ⟨f1, f2, f3, f4, f5, f6⟩ := flux_in hbm hc' n1 (b := w) (by omega) (by omega)
    simp only [] at f1 f2 f3 f4
    obtain ⟨z, hz⟩ : ∃ z, z = cell bm (n - 1) (n - 1) := ⟨_, rfl⟩
    obtain ⟨fl, hfl⟩ : ∃ fl, fl = flux bm n ⟨num, den, floor, steps⟩ w := ⟨_, rfl⟩
    have hfl' : fl = w * num / (den * z) := by rw [hfl, hz]; rfl
    rw [← hz] at f3 f4
    rw [← hfl] at f5 f6
    obtain ⟨wn, hwn⟩ : ∃ v, v = w * num := ⟨_, rfl⟩
    obtain ⟨dz, hdz⟩ : ∃ v, v = den * z := ⟨_, rfl⟩
    rw [← hwn] at f1 f2
    rw [← hdz] at f3 f4
    have q1 : arith .mul .i64 w num = wn := by rw [hwn]; exact mul64 hA (by omega) (by omega)
    have q2 : arith .mul .i64 den z = dz := by rw [hdz]; exact mul64 hA (by omega) (by omega)
    have q3 : arith .quo .i64 wn dz = fl := by rw [hfl', ← hwn, ← hdz, quo64 hA f1 (by omega) f3]
    have hq2 := (hbm.1.2 (n - 1) (by omega) (by omega)).1
    rw [hmo, e3]
    obtain ⟨b6, o6, ra6, rn6, rc6, hae6, hbn6, hrd6, hrow6, hrl6⟩ := (hb.ext x6).row (i := n - 1) (by omega) (by omega)
    refine ⟨b6, o6, hae6, in_ok hA (by omega) (by omega), ?_⟩
    ((try (conv => cbv)); repeat (refine brk_ok hA ?_; (try (conv => cbv))))
    refine ⟨ra6, rn6, rc6, rd_ok hA hrd6, ?_⟩
    ((try (conv => cbv)); repeat (refine brk_ok hA ?_; (try (conv => cbv))))
    obtain ⟨b7, o7, z7, hae7, hb7, hz7, hrd7⟩ := hrow6.at (i := n - 1) (by omega) (by omega)
    have hz7' : z7 = z := by rw [hz]; exact hz7
    subst hz7'
    rw [hmo, e3]
    refine ⟨b7, o7, hae7, in_ok hA (by omega) (by omega), ?_⟩
    ((try (conv => cbv)); repeat (refine brk_ok hA ?_; (try (conv => cbv))))
    refine ⟨z7, rd_ok hA hrd7, ?_⟩
    ((try (conv => cbv)); repeat (refine brk_ok hA ?_; (try (conv => cbv))))
    rw [q1, q2]
    refine ⟨nz_ok hA (by omega), ?_⟩
    ((try (conv => cbv)); repeat (refine brk_ok hA ?_; (try (conv => cbv))))
    rw [q3]
    refine br (fl = 0) (by rw [e_eql hA]) (fun c3 => ?_) (fun c3 => ?_) <;> (try (conv => cbv)) <;> repeat (refine brk_ok hA ?_; (try (conv => cbv)))
    · refine h1 h6 g al k cl l x6 (ho.ext e56) ⟨(hp.ext e56).cells⟩ ?_ _ _
      have := hf _ (.low t (.inr (by rw [← hw, ← hfl]; exact c3)))
      simpa using this
    have hnl : ¬ lowP bm n ⟨num, den, floor, steps⟩ g x y := by
      rintro (q | q)
      · rw [← hw] at q; exact c2 q
      · rw [← hw, ← hfl] at q; exact c3 q
    have hpa : pAt bm n ⟨num, den, floor, steps⟩ g x y = ⟨x, y, fl⟩ := by unfold pAt; rw [← hw, ← hfl]
    have hpc := pAt_comp hbm hc' n1 hs t hnl
    rw [hpa] at hpc
    obtain ⟨h7, hh7⟩ : ∃ z, z = bump h6 24 := ⟨_, rfl⟩
    obtain ⟨nh7, hnh7⟩ : ∃ z, z = next h6 := ⟨_, rfl⟩
    have e7 : Ext h6 h7 := by rw [hh7, e_bump hA]; exact .bump _ _
    have x7 := x6.trans e7
    have e57 := e56.trans e7
    rw [← hh7, ← hnh7, hmo, e3]
    obtain ⟨b8, o8, ra8, rn8, rc8, hae8, hbn8, hrd8, hrow8, hrl8⟩ := (hb.ext x7).row (i := n - 1) (by omega) (by omega)
    refine ⟨b8, o8, hae8, in_ok hA (by omega) (by omega), ?_⟩
    ((try (conv => cbv)); repeat (refine brk_ok hA ?_; (try (conv => cbv))))
    refine ⟨ra8, rn8, rc8, rd_ok hA hrd8, ?_⟩
    ((try (conv => cbv)); repeat (refine brk_ok hA ?_; (try (conv => cbv))))
    obtain ⟨b9, o9, z9, hae9, hb9, hz9, hrd9⟩ := hrow8.at (i := n - 1) (by omega) (by omega)
    have hz9' : z9 = z7 := by rw [hz]; exact hz9
    subst hz9'
    rw [hmo, e3]
    refine ⟨b9, o9, hae9, in_ok hA (by omega) (by omega), ?_⟩
    ((try (conv => cbv)); repeat (refine brk_ok hA ?_; (try (conv => cbv))))
    refine ⟨z9, rd_ok hA hrd9, ?_⟩
    ((try (conv => cbv)); repeat (refine brk_ok hA ?_; (try (conv => cbv))))
    rw [q1, q2]
    refine ⟨nz_ok hA (by omega), ?_⟩
    ((try (conv => cbv)); repeat (refine brk_ok hA ?_; (try (conv => cbv))))
    rw [q3]
    ((try (conv => cbv)); repeat (refine brk_ok hA ?_; (try (conv => cbv))))
    refine ⟨by rw [e_ne hA]; omega, by rw [e_ne hA]; omega, ?_⟩
    ((try (conv => cbv)); repeat (refine brk_ok hA ?_; (try (conv => cbv))))
    refine rsub_ok2 hA hlow0 x7 hb hlo hmn (subOK_of n1 n8 hs hbm hpc) (ho.ext e57) (fun h10 x10 kp10 ho10 => ?_)
    ((try (conv => cbv)); repeat (refine brk_ok hA ?_; (try (conv => cbv))))
    refine rimg_ok hA (x10.lowOK hlow0) ho10.img (by omega) (by omega) (fun r hr => ⟨_, rfl, ?_⟩)
    rw [left_img n1 n8, ← hpa] at hr
    ((try (conv => cbv)); repeat (refine brk_ok hA ?_; (try (conv => cbv))))
    cases r with
    | false =>
      ((try (conv => cbv)); repeat (refine brk_ok hA ?_; (try (conv => cbv))))
      refine br (True) (by rw [e_bnot hA]; rfl) (fun _ => ?_) (fun q => absurd trivial q) <;> (try (conv => cbv)) <;> repeat (refine brk_ok hA ?_; (try (conv => cbv)))
      refine h2 _ _ _ h10 x10 ?_
      have := hf none (.stop t hnl (fun q => by have := hr.2 q; cases this))
      exact this
    | true =>
      ((try (conv => cbv)); repeat (refine brk_ok hA ?_; (try (conv => cbv))))
      refine br (False) (by rw [e_bnot hA]; rfl) (fun q => q.elim) (fun _ => ?_) <;> (try (conv => cbv)) <;> repeat (refine brk_ok hA ?_; (try (conv => cbv)))
      rw [e_next hA, e_push hA]
      have hle := hr.1 rfl
      have kn10 := kp10.1
      have e7n := e57.next
      have plog : Apd h10 3 al k cl (flatC l) := (hp.ext e57).of_get kn10 (fun ad had hb => kp10.2 _ hb (fun p hp e => by have := hbs.1 p hp; have := fr ad had; omega))
      obtain ⟨a4, c4, h11, u1, u2, u3, u4, u5, u6⟩ := log_add plog ⟨x, y, fl⟩ (by omega)
      refine app_ok hA u1 ?_
      ((try (conv => cbv)); repeat (refine brk_ok hA ?_; (try (conv => cbv))))
      have x11 : Ext h0 h11 := u3 h0 x10 (fun ad had => by have := fr ad had; omega)
      rw [← hpa] at u2 ho10
      have ho11 : OImg h11 lo a m bs (subG g bm n (pAt bm n ⟨num, den, floor, steps⟩ g x y)) := ho10.of_get (by omega) (fun ad had hb => u6 _ hb (fun ad2 had2 => by have := fr ad2 had2; have := hbs.2 ad had; omega)) (fun p hp hb => u6 _ hb (fun ad2 had2 => by have := fr ad2 had2; have := hbs.1 p hp; omega))
      refine ih c1' h11 _ a4 _ c4 _ x11 (by omega) ho11 u2 (fun ad had => by have := u5 ad had; omega) ((left_square n1).2 hle) (by simp; omega) (fun r hr => ?_)
      have e1 : steps.toNat - (i + 1).toNat = k' := by omega
      simp only [e1] at hr
      cases r with
      | none => exact hf none (.fail t hnl hle hr)
      | some s =>
        have := hf (some (s.1, pAt bm n ⟨num, den, floor, steps⟩ g x y :: s.2)) (.go t hnl hle hr)
        simpa using this
  · have : i.toNat = steps.toNat := by omega
    refine h1 h g al k cl l e ho ⟨hp.cells⟩ ?_ _ _
    have := hf _ (by simp only [this, Nat.sub_self]; exact .out g)
    simpa using this

theorem rclean_ok {h : AHeap} (hlow : h.low ≤ h.next) {a : Option Addr} {m k : Nat} {img : Grid} (hg : Img h a m img) {ab : Option Addr} {mb kb : Nat} {bm : Grid} (hb : Img h ab mb bm) {c : Cln} {Q : Value → AHeap → Prop}
    (hbad : ∀ e h', Ext h h' → ClnIs img bm c e none → Q (.tuple #[.slice none 0 0, .slice none 0 0, .int .i64 e]) h')
    (hok : ∀ g l a' c' bs al kl cl h', Ext h h' → OImg h' h.next a' m bs g → Log h' al kl l → ClnIs img bm c 0 (some (g, l)) → Q (.tuple #[.slice a' m c', .slice al kl cl, .int .i64 0]) h') : call 13 [.slice a m k, .slice ab mb kb, .agg c.cells.toArray] h Q := by
  have hgl := hg.len
  obtain ⟨num, den, floor, steps⟩ := c
  refine hA.bodyR Try.func13 r13_ok (show prims _ _ _ = none from rfl) hlow ?_; (try (conv => cbv)); repeat (refine brk_ok hA ?_; (try (conv => cbv)))
  refine rchk_ok hA hlow hg hb (c := ⟨num, den, floor, steps⟩) (fun e he => ⟨_, rfl, ?_⟩)
  ((try (conv => cbv)); repeat (refine brk_ok hA ?_; (try (conv => cbv))))
  refine br (e ≠ 0) (by rw [e_neq hA]) (fun c1 => ?_) (fun c1 => ?_) <;> (try (conv => cbv)) <;> repeat (refine brk_ok hA ?_; (try (conv => cbv)))
  · exact hbad e h (.refl _) (.inl ⟨he, c1, rfl⟩)
  have he0 : e = 0 := by omega
  subst he0
  obtain ⟨hi, hbm, hcl⟩ := he.ok
  have hi1 := hi.1
  have hi2 := hi.2.1
  have hsq := hi.2.2
  refine twin_ok hA hlow hg (by omega) (fun y h1 h2 => by have := (hsq.2 y h1 (by omega)).1; omega) (fun a' c' bs h1 e1 ho1 => ⟨_, _, _, rfl, ?_⟩)
  ((try (conv => cbv)); repeat (refine brk_ok hA ?_; (try (conv => cbv))))
  have rows1 : ∀ p ∈ bs, p.1 < h1.next := fun p hp => by
    obtain ⟨i, hi⟩ := List.getElem?_of_mem hp
    have hil : i < bs.length := (List.getElem?_eq_some_iff.1 hi).1
    have hbl := ho1.len
    exact (ho1.rows i p _ hi (getD_some img i [] (by omega))).2.1
  have out1 : ∀ ad, a' = some ad → ad.block < h1.next := fun ad had => by
    have := ho1.outer
    rw [had] at this
    exact this.2.1
  refine rcln_loop hA hlow (lo := h.next) (hi := h1.next) (Nat.le_refl _) e1.next hb (n := (img.length : Int)) (by omega) (by omega) (by omega) hbm hcl (img := img) ⟨rows1, out1⟩ (fun h' g al kl cl l x' ho' hl' hr kn K => ?_) (fun e kn K h' x' hr => ?_) 0 (by omega) (by omega) h1 img none 0 0 [] e1 (Nat.le_refl _) ho1 (Apd.nil _ _) (From.none _) (square_more hsq (by omega)) rfl (fun r hr => ?_)
  · ((try (conv => cbv)); repeat (refine brk_ok hA ?_; (try (conv => cbv))))
    exact hok g l a' c' bs al kl cl h' x' ho' hl' (.inr (.inr ⟨he, (g, l), hr, rfl, rfl⟩))
  · ((try (conv => cbv)); repeat (refine brk_ok hA ?_; (try (conv => cbv))))
    exact hbad 16 h' x' (.inr (.inl ⟨he, hr, rfl, rfl⟩))
  · cases r with
    | none => exact hr
    | some s => exact hr

end Go.Proofs.Ytogofeppflindaa
