import Derived.Test.YtmkiclinllifiaaQuPi
set_option linter.unusedSimpArgs false
set_option linter.unusedVariables false
namespace Go.Proofs.Ytmkiclinllifiaa
open Go.Sim
set_option maxRecDepth 100000
theorem Pdq.over{L:List F2}{A B a b:Int}(h:Pdq leF L A B a b)(o:Over L A B):Over L a b:=by
 have r0:=h.r0;have r2:=h.r2;by_cases e:a=A
 ·subst e
  rcases o with o|o
  ·exact .inl o
  ·exact .inr (fun k k0 k1=>o k k0 (by omega))
 ·exact .inr (fun k k0 k1=>h.c1 (a-1) k (by omega) (by omega) k0 (by omega))
variable{F:Prims}{call head arith a0 b0 c0 d0 f0 g0 i0 j0 n0 o0 s0 t0 nz u0 rd wr v0 next w0 y0 z0 b1 d1 f1 i1 j1 n1 o1 s1 w1 x1 y1 lowered bump z1 b2 lt ne c2 d2 f2 yn i2 j2 m2 n2 o2 p2 s2 w2:_}(hA:AP F ⟨call,head,arith,a0,b0,c0,d0,f0,g0,i0,j0,n0,o0,s0,t0,nz,u0,rd,wr,v0,next,w0,y0,z0,b1,d1,f1,i1,j1,n1,o1,s1,w1,x1,y1,lowered,bump,z1,b2,lt,ne,c2,d2,f2,yn,i2,j2,m2,n2,o2,p2,s2,w2⟩)
include hA
set_option maxHeartbeats 4000000 in
theorem pdq_loop {h0 : AHeap} (hlow : h0.low ≤ h0.next) {b n c : Nat} {L0 : List F2} {A B : Int} (A0 : 0 ≤ A) (bn : B ≤ n) (ov : Over L0 A B)
    (rec : ∀ (h : AHeap) (L : List F2) (x y lim : Int) (Q : Value → AHeap → Prop), 0 ≤ x → x ≤ y → y ≤ n → (y - x).toNat < (B - A).toNat → 0 ≤ lim → lim ≤ 100 → Over L x y → Dat h0 h b n L → (∀ h' L', Dat h0 h' b n L' → PermOn x y L L' → SortedOn leF L' x y → Q (.tuple #[]) h') → call 82 [.slice (some ⟨b, 0, none⟩) n c, .int .i64 x, .int .i64 y, .int .i64 lim, .func (.func 78) #[] #[]] h Q) {Q : Exit → SS → Prop}
    (hQ : ∀ h' L e kn, Dat h0 h' b n L → PermOn A B L0 L → SortedOn leF L A B → Q .ret ⟨e, kn, [], h'⟩) :
    ∀ (m : Nat) (x y lim : Int) (wb wp : Bool) (h : AHeap) (L : List F2), (y - x).toNat ≤ m → 0 ≤ lim → lim ≤ 100 → Dat h0 h b n L → PermOn A B L0 L → Pdq leF L A B x y →
      head 82 2 0 ⟨[(0, .slice (some ⟨b, 0, none⟩) n c), (1, .int .i64 x), (2, .int .i64 y), (3, .int .i64 lim), (4, .func (.func 78) #[] #[]), (10, .bool wb), (11, .bool wp)], 0, [], h⟩ Q := by
  intro m
  induction m with
  | zero =>
    intro x y lim wb wp h L hm l0 l1 t hp hd
    have few := t.few
    have r0 := hd.r0
    have r1 := hd.r1
    have r2 := hd.r2
    have e1 : arith .sub .i64 y x = y - x := sub64 hA (by omega) (by omega)
    refine hA.roundR Try.func82 r82_ok (zc ?_)
    rw [e1]
    refine br (y - x ≤ 12) (by rw [e_leq hA]) (fun _ => ?_) (fun q => by omega) <;> refine zc ?_
    refine ins_ok hA hlow (by omega) (by omega) (by omega) t (fun h1 L1 t1 hp1 hs1 => ?_)
    refine zc ?_
    exact hQ _ _ _ _ t1 (hp.trans (hp1.wide A0 r0 r2)) ((hd.perm A0 hp1).done hs1)
  | succ m ih =>
    intro x y lim wb wp h L hm l0 l1 t hp hd
    have few := t.few
    have r0 := hd.r0
    have r1 := hd.r1
    have r2 := hd.r2
    have e1 : arith .sub .i64 y x = y - x := sub64 hA (by omega) (by omega)
    obtain ⟨l, hl⟩ : ∃ z, z = y - x := ⟨_, rfl⟩
    rw [← hl] at e1
    refine hA.roundR Try.func82 r82_ok (zc ?_)
    rw [e1]
    refine br (l ≤ 12) (by rw [e_leq hA]) (fun _ => ?_) (fun q => ?_) <;> refine zc ?_
    · refine ins_ok hA hlow (by omega) (by omega) (by omega) t (fun h1 L1 t1 hp1 hs1 => ?_)
      refine zc ?_
      exact hQ _ _ _ _ t1 (hp.trans (hp1.wide A0 r0 r2)) ((hd.perm A0 hp1).done hs1)
    refine br (lim = 0) (by rw [e_eql hA]) (fun _ => ?_) (fun q2 => ?_) <;> refine zc ?_
    · refine heap_ok hA hlow (by omega) (by omega) (by omega) t (fun h1 L1 t1 hp1 hs1 => ?_)
      refine zc ?_
      exact hQ _ _ _ _ t1 (hp.trans (hp1.wide A0 r0 r2)) ((hd.perm A0 hp1).done hs1)
    have ih' : ∀ (x' y' lim' : Int) (wb wp : Bool) (h : AHeap) (L : List F2), (y' - x').toNat < (y - x).toNat → 0 ≤ lim' → lim' ≤ 100 → Dat h0 h b n L → PermOn A B L0 L → Pdq leF L A B x' y' →
      head 82 2 0 ⟨[(0, .slice (some ⟨b, 0, none⟩) n c), (1, .int .i64 x'), (2, .int .i64 y'), (3, .int .i64 lim'), (4, .func (.func 78) #[] #[]), (10, .bool wb), (11, .bool wp)], 0, [], h⟩ Q := fun x' y' lim' wb wp h L w => ih x' y' lim' wb wp h L (by omega)
    clear ih
    refine br (wb = false) (by rw [e_bnot hA]; cases wb <;> rfl) (fun qb => ?_) (fun qb => ?_) <;> refine zc ?_
    focus
      refine break_ok hA hlow (by omega) (by omega) (by omega) t (fun h1 L1 t1 hp1 => ?_)
      refine zc ?_
      obtain ⟨lim1, hl1⟩ : ∃ z, z = lim - 1 := ⟨_, rfl⟩
      have e2 : arith .sub .i64 lim 1 = lim1 := by rw [hl1]; exact sub64 hA (by omega) (by omega)
      rw [e2]
      have hd1 := hd.perm A0 hp1
      have hp1 := hp.trans (hp1.wide A0 r0 r2)
      have l2 : 0 ≤ lim1 := by omega
      have l3 : lim1 ≤ 100 := by omega
      clear hl1 e2 t hp hd
    rotate_left
    focus
      have t1 := t
      have hp1 := hp
      have hd1 := hd
      have l2 := l0
      have l3 := l1
      obtain ⟨h1, hh1⟩ : ∃ z, z = h := ⟨_, rfl⟩
      obtain ⟨L1, hL1⟩ : ∃ z, z = L := ⟨_, rfl⟩
      obtain ⟨lim1, hl1⟩ : ∃ z, z = lim := ⟨_, rfl⟩
      rw [← hh1, ← hL1] at t1
      rw [← hh1, ← hl1]
      rw [← hL1] at hp1 hd1
      rw [← hl1] at l2 l3
      clear hl1 hh1 hL1 t hp hd
    all_goals
      refine pivot_ok hA hlow (by omega) (by omega) (by omega) t1 (fun h2 p k t2 p0 p1 => ⟨_, _, rfl, ?_⟩)
      refine zc ?_
      refine br (k = 2) (by rw [e_eql hA]) (fun qk => ?_) (fun qk => ?_) <;> refine zc ?_
      focus
        refine rev_ok hA hlow (by omega) (by omega) (by omega) t2 (fun h3 L3 t3 hp3 => ?_)
        refine zc ?_
        have hd3 := hd1.perm A0 hp3
        have hp3 := hp1.trans (hp3.wide A0 r0 r2)
        obtain ⟨p3, hp⟩ : ∃ z, z = (y - 1) - (p - x) := ⟨_, rfl⟩
        have g1 : arith .sub .i64 y 1 = y - 1 := sub64 hA (by omega) (by omega)
        have g2 : arith .sub .i64 p x = p - x := sub64 hA (by omega) (by omega)
        have g3 : arith .sub .i64 (y - 1) (p - x) = p3 := by rw [hp]; exact sub64 hA (by omega) (by omega)
        have p4 : x ≤ p3 := by omega
        have p5 : p3 < y := by omega
        rw [g1, g2, g3]
        clear hp g1 g2 g3 p0 p1 t1 t2 hp1 hd1
      rotate_left
      focus
        obtain ⟨h3, hh⟩ : ∃ z, z = h2 := ⟨_, rfl⟩; subst hh
        obtain ⟨L3, hh⟩ : ∃ z, z = L1 := ⟨_, rfl⟩; subst hh
        obtain ⟨p3, hh⟩ : ∃ z, z = p := ⟨_, rfl⟩; subst hh
        have t3 := t2
        have hd3 := hd1
        have hp3 := hp1
        have p4 := p0
        have p5 := p1
        clear p0 p1 t2 hp1 hd1
      all_goals
        cases wb <;> cases wp <;> first | exact absurd qb (by decide) | exact absurd rfl qb | refine zc ?_
      all_goals first
        | (refine br (k = 1) (e_eql hA k 1) (fun _ => ?_) (fun _ => ?_) <;> refine zc ?_)
        | (refine br ((1 : Int) = 1) (e_eql hA 1 1) (fun _ => ?_) (fun q => absurd rfl q); refine zc ?_)
        | skip
      all_goals first
        | (refine pi_ok hA hlow (by omega) (by omega) (by omega) (hd3.over (ov.perm A0 hp3)) t3 (fun h4 L4 u t4 hp4 hs4 => ⟨_, rfl, ?_⟩)
           cases u
           focus
             refine zc ?_
             have hd4 := hd3.perm A0 hp4
             have hp4 := hp3.trans (hp4.wide A0 r0 r2)
             clear t3 hp3 hd3 hs4
           rotate_left
           focus
             refine zc ?_
             exact hQ _ _ _ _ t4 (hp3.trans (hp4.wide A0 r0 r2)) ((hd3.perm A0 hp4).done (hs4 rfl)))
        | (obtain ⟨h4, hh⟩ : ∃ z, z = h3 := ⟨_, rfl⟩; subst hh
           obtain ⟨L4, hh⟩ : ∃ z, z = L3 := ⟨_, rfl⟩; subst hh
           have t4 := t3
           have hd4 := hd3
           have hp4 := hp3
           clear t3 hp3 hd3)
      all_goals
        have hv4 := hd4.over (ov.perm A0 hp4)
        obtain ⟨h5, hh5⟩ : ∃ z, z = bump h4 17 := ⟨_, rfl⟩
        have x5 : Ext h4 h5 := by rw [hh5]; exact ext_bump hA _ _
        have t5 := t4.more x5
        refine br (0 < x) (by rw [e_gtr hA]) (fun cx => ?_) (fun cx => ?_) <;> refine zc ?_
        focus
          rw [← hh5]
          obtain ⟨x', hx'⟩ : ∃ z, z = x - 1 := ⟨_, rfl⟩
          have e2 : arith .sub .i64 x 1 = x' := by rw [hx']; exact sub64 hA (by omega) (by omega)
          obtain ⟨a5, b5, g5, f5, r5⟩ := t5.read (i := x') (by omega) (by omega)
          obtain ⟨a5', b5', g5', f5', r5'⟩ := t5.read (i := p3) (by omega) (by omega)
          have q5 := rd_ok hA r5
          have q5' := rd_ok hA r5'
          (refine zq ?_; repeat ((first | rw [e2]); refine zq ?_))
          refine qorder_ok hA (low_fresh hA h5) f5 f5' (fun u h5a hu x5a => ⟨_, rfl, ?_⟩)
          have t5b := dat_low hA hlow t5 x5a
          refine zc ?_
          generalize lowered h5 h5a = h5b at *
          refine br (0 ≤ u) (by rw [e_bnot hA, e_lss hA]; by_cases z : u < 0 <;> simp [z] <;> omega) (fun cu => ?_) (fun cu => ?_) <;> refine zc ?_
          focus
            rw [hu] at cu
            have w : leF (gt L4 p3) (gt L4 (x - 1)) := by rw [← hx']; exact Rat.not_lt.1 (fun w => by have := cmpF_lt.2 w; omega)
            refine equal_ok hA hlow (by omega) (by omega) p4 p5 t5b (fun h6 L6 e t6 hp6 e0 e1 he => ⟨_, rfl, ?_⟩)
            refine zc ?_
            refine ih' e y lim1 _ _ h6 L6 (by omega) l2 l3 t6 (hp4.trans (hp6.wide A0 r0 r2)) (Pdq.equal (hd4.perm A0 hp6) (by omega) (by omega) (fun p q p0 p1 q0 q1 => ?_))
            refine leF_pre.trans _ _ _ (he p p0 p1) (leF_pre.trans _ _ _ w ?_)
            have := (hv4.perm (by omega) hp6).resolve_left (by omega) q q0 q1
            rwa [hp6.out (x - 1) (by omega) (by omega)] at this
          clear t5
          have t5 := t5b
        rotate_left
        focus
          rw [← hh5]
          clear hh5
          obtain ⟨h5b, hh⟩ : ∃ z, z = h5 := ⟨_, rfl⟩; subst hh
      all_goals
        refine part_ok hA hlow (by omega) (by omega) p4 p5 t5 (fun h6 L6 mid r t6 hp6 m0 m1 k1 k2 => ⟨_, _, rfl, ?_⟩)
        have hd6 := hd4.perm A0 hp6
        have hv6 := hv4.perm (by omega) hp6
        have hp6 := hp4.trans (hp6.wide A0 r0 r2)
        have v1 : Over L6 x mid := by
          rcases hv6 with o | o
          · exact .inl o
          · exact .inr (fun k k0 k1 => o k k0 (by omega))
        have v2 : Over L6 (mid + 1) y := .inr (fun k k0 k1 => by rw [show mid + 1 - 1 = mid by omega]; exact k2 k (by omega) k1)
        have u1 : arith .sub .i64 mid x = mid - x := sub64 hA (by omega) (by omega)
        have u2 : arith .sub .i64 y mid = y - mid := sub64 hA (by omega) (by omega)
        have u3 : arith .add .i64 mid 1 = mid + 1 := add64 hA (by omega) (by omega)
        obtain ⟨q8, hq8⟩ : ∃ z, z = arith .quo .i64 l 8 := ⟨_, rfl⟩
        (refine zq ?_; repeat ((first | rw [u1] | rw [u2]); refine zq ?_))
        rw [← hq8]
        clear hq8
        refine br (mid - x < y - mid) (by rw [e_lss hA]) (fun cm => ?_) (fun cm => ?_) <;> refine zc ?_
        focus
          refine rec h6 L6 x mid lim1 _ (by omega) m0 (by omega) (by omega) l2 l3 v1 t6 (fun h7 L7 t7 hp7 hs7 => ?_)
          refine zc ?_
          rw [u3]
          exact ih' (mid + 1) y lim1 _ _ h7 L7 (by omega) l2 l3 t7 (hp6.trans (hp7.wide A0 r0 (by omega))) (Pdq.left leF_pre A0 hd6 m0 m1 k1 k2 hp7 hs7)
        focus
          rw [u3]
          refine rec h6 L6 (mid + 1) y lim1 _ (by omega) (by omega) (by omega) (by omega) l2 l3 v2 t6 (fun h7 L7 t7 hp7 hs7 => ?_)
          refine zc ?_
          exact ih' x mid lim1 _ _ h7 L7 (by omega) l2 l3 t7 (hp6.trans (hp7.wide A0 (by omega) r2)) (Pdq.right leF_pre A0 hd6 m0 m1 k1 k2 hp7 hs7)
theorem pdq_ok{h0:AHeap}(hlow:h0.low<=h0.next){b n c:Nat}:∀(N:Nat) (h:AHeap) (L:List F2) (x y lim:Int) (Q:Value->AHeap->Prop),(y-x).toNat<N->0<=x->x<=y->y<=n->0<=lim->lim<=100->Over L x y->Dat h0 h b n L->(∀h' L',Dat h0 h' b n L'->PermOn x y L L'->SortedOn leF L' x y->Q (.tuple #[]) h')->call 82 [.slice (some ⟨b,0,none⟩) n c,.int .i64 x,.int .i64 y,.int .i64 lim,.func (.func 78) #[] #[]] h Q:=by
 intro N
 induction N with
 |zero=>intro h L x y lim Q w;omega
 |succ N ih=>
  intro h L x y lim Q w x0 xy yn l0 l1 ov t hQ;have hlow':=hlow
  replace hlow:=t.ext.lowOK hlow
  refine hA.bodyR Try.func82 r82_ok (hA.alike _ _ _ rfl) hlow (zc ?_);refine pdq_loop hA hlow' (c:=c) (L0:=L) x0 yn ov (fun h L x' y' lim Q a1 a2 a3 a4 a5 a6 a7 a8 a9=>ih h L x' y' lim Q (by omega) a1 a2 a3 a5 a6 a7 a8 a9) (fun h' L' e kn t' hp hs=>?_) (y-x).toNat x y lim true true h L (Nat.le_refl _) l0 l1 t (.refl _ _ _) (.start L xy);refine zc ?_;exact hQ h' L' t' hp hs
