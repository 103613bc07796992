import Derived.Test.YtlimjlpjldijdaaQuPi
import Derived.Test.YtlimjlpjldijdaaCyWay
import Derived.Test.YtlimjlpjldijdaaCxA
import Derived.Test.YtlimjlpjldijdaaCxM
set_option linter.unusedSimpArgs false
set_option linter.unusedVariables false
namespace Go.Proofs.Ytlimjlpjldijdaa
open Go.Sim
set_option maxRecDepth 100000
theorem Pdq.over{L:List F2}{A B a b:Int}(h:Pdq leF L A B a b)(o:Over L A B):Over L a b:=by
 have r0:=h.r0;have r2:=h.r2;by_cases e:a=A
 ·subst e
  rcases o with o|o
  ·exact .inl o
  ·exact .inr (fun k k0 k1=>o k k0 (by omega))
 ·exact .inr (fun k k0 k1=>h.c1 (a-1) k (by omega) (by omega) k0 (by omega))
variable{F:Prims}{call head arith cmp scmp bnot bsame conv neg imax imin ofNat slen place inR nz geZ rd wr push next mkOK nat zeros sadd eqAgg cut slc sslc strAt part app cpy putAt fresh lowered bump wrote addN lt ne fpAll fpApp brk yn rng mget mput mnew bytes clr mrng ment:_}(hA:AP F ⟨call,head,arith,cmp,scmp,bnot,bsame,conv,neg,imax,imin,ofNat,slen,place,inR,nz,geZ,rd,wr,push,next,mkOK,nat,zeros,sadd,eqAgg,cut,slc,sslc,strAt,part,app,cpy,putAt,fresh,lowered,bump,wrote,addN,lt,ne,fpAll,fpApp,brk,yn,rng,mget,mput,mnew,bytes,clr,mrng,ment⟩)
include hA
set_option maxHeartbeats 4000000 in
theorem pdq_loop {h0 : AHeap} (hlow : h0.low ≤ h0.next) {b n c : Nat} {L0 : List F2} {A B : Int} (A0 : 0 ≤ A) (bn : B ≤ n) (ov : Over L0 A B)
    (rec : ∀ (h : AHeap) (L : List F2) (x y lim : Int) (Q : Value → AHeap → Prop), 0 ≤ x → x ≤ y → y ≤ n → (y - x).toNat < (B - A).toNat → 0 ≤ lim → lim ≤ 100 → Over L x y → Dat h0 h b n L → (∀ h' L', Dat h0 h' b n L' → PermOn x y L L' → SortedOn leF L' x y → Q (.tuple #[]) h') → call 72 [.slice (some ⟨b, 0, none⟩) n c, .int .i64 x, .int .i64 y, .int .i64 lim, .func (.func 64) #[] #[]] h Q) {Q : Exit → SS → Prop}
    (hQ : ∀ h' L e kn, Dat h0 h' b n L → PermOn A B L0 L → SortedOn leF L A B → Q .ret ⟨e, kn, [], h'⟩) :
    ∀ (m : Nat) (x y lim : Int) (wb wp : Bool) (h : AHeap) (L : List F2), (y - x).toNat ≤ m → 0 ≤ lim → lim ≤ 100 → Dat h0 h b n L → PermOn A B L0 L → Pdq leF L A B x y →
      head 72 2 0 ⟨[(0, .slice (some ⟨b, 0, none⟩) n c), (1, .int .i64 x), (2, .int .i64 y), (3, .int .i64 lim), (4, .func (.func 64) #[] #[]), (10, .bool wb), (11, .bool wp)], 0, [], h⟩ Q := by
  intro m
  induction m with
  | zero =>
    intro x y lim wb wp h L hm l0 l1 t hp hd
    have few := t.few
    have r0 := hd.r0
    have r1 := hd.r1
    have r2 := hd.r2
    have e1 : arith .sub .i64 y x = y - x := sub64 hA (by omega) (by omega)
    refine hA.roundR Try.func72 r72_ok (zc ?_)
    rw [e1]
    refine br (y - x ≤ 12) (by rw [e_leq hA]) (fun _ => ?_) (fun q => by omega) <;> refine zc ?_
    refine ins_ok hA hlow (by omega) (by omega) (by omega) t (fun h1 L1 t1 hp1 hs1 => ?_)
    refine zc ?_
    exact hQ _ _ _ _ t1 (hp.trans (hp1.wide A0 r0 r2)) ((hd.perm A0 hp1).done hs1)
  | succ m ih =>
    intro x y lim wb wp h L hm l0 l1 t hp hd
    have few := t.few
    have r0 := hd.r0
    have r1 := hd.r1
    have r2 := hd.r2
    have e1 : arith .sub .i64 y x = y - x := sub64 hA (by omega) (by omega)
    obtain ⟨l, hl⟩ : ∃ z, z = y - x := ⟨_, rfl⟩
    rw [← hl] at e1
    refine hA.roundR Try.func72 r72_ok (zc ?_)
    rw [e1]
    refine br (l ≤ 12) (by rw [e_leq hA]) (fun _ => ?_) (fun q => ?_) <;> refine zc ?_
    · refine ins_ok hA hlow (by omega) (by omega) (by omega) t (fun h1 L1 t1 hp1 hs1 => ?_)
      refine zc ?_
      exact hQ _ _ _ _ t1 (hp.trans (hp1.wide A0 r0 r2)) ((hd.perm A0 hp1).done hs1)
    refine br (lim = 0) (by rw [e_eql hA]) (fun _ => ?_) (fun q2 => ?_) <;> refine zc ?_
    · refine heap_ok hA hlow (by omega) (by omega) (by omega) t (fun h1 L1 t1 hp1 hs1 => ?_)
      refine zc ?_
      exact hQ _ _ _ _ t1 (hp.trans (hp1.wide A0 r0 r2)) ((hd.perm A0 hp1).done hs1)
    have ih' : ∀ (x' y' lim' : Int) (wb wp : Bool) (h : AHeap) (L : List F2), (y' - x').toNat < (y - x).toNat → 0 ≤ lim' → lim' ≤ 100 → Dat h0 h b n L → PermOn A B L0 L → Pdq leF L A B x' y' →
      head 72 2 0 ⟨[(0, .slice (some ⟨b, 0, none⟩) n c), (1, .int .i64 x'), (2, .int .i64 y'), (3, .int .i64 lim'), (4, .func (.func 64) #[] #[]), (10, .bool wb), (11, .bool wp)], 0, [], h⟩ Q := fun x' y' lim' wb wp h L w => ih x' y' lim' wb wp h L (by omega)
    clear ih
    refine br (wb = false) (by rw [e_bnot hA]; cases wb <;> rfl) (fun qb => ?_) (fun qb => ?_) <;> refine zc ?_
    focus
      refine break_ok hA hlow (by omega) (by omega) (by omega) t (fun h1 L1 t1 hp1 => ?_)
      refine zc ?_
      obtain ⟨lim1, hl1⟩ : ∃ z, z = lim - 1 := ⟨_, rfl⟩
      have e2 : arith .sub .i64 lim 1 = lim1 := by rw [hl1]; exact sub64 hA (by omega) (by omega)
      rw [e2]
      have hd1 := hd.perm A0 hp1
      have hp1 := hp.trans (hp1.wide A0 r0 r2)
      have l2 : 0 ≤ lim1 := by omega
      have l3 : lim1 ≤ 100 := by omega
      clear hl1 e2 t hp hd
    rotate_left
    focus
      have t1 := t
      have hp1 := hp
      have hd1 := hd
      have l2 := l0
      have l3 := l1
      obtain ⟨h1, hh1⟩ : ∃ z, z = h := ⟨_, rfl⟩
      obtain ⟨L1, hL1⟩ : ∃ z, z = L := ⟨_, rfl⟩
      obtain ⟨lim1, hl1⟩ : ∃ z, z = lim := ⟨_, rfl⟩
      rw [← hh1, ← hL1] at t1
      rw [← hh1, ← hl1]
      rw [← hL1] at hp1 hd1
      rw [← hl1] at l2 l3
      clear hl1 hh1 hL1 t hp hd
    all_goals
      refine pivot_ok hA hlow (by omega) (by omega) (by omega) t1 (fun h2 p k t2 p0 p1 => ⟨_, _, rfl, ?_⟩)
      refine zc ?_
      refine br (k = 2) (by rw [e_eql hA]) (fun qk => ?_) (fun qk => ?_) <;> refine zc ?_
      focus
        refine rev_ok hA hlow (by omega) (by omega) (by omega) t2 (fun h3 L3 t3 hp3 => ?_)
        refine zc ?_
        have hd3 := hd1.perm A0 hp3
        have hp3 := hp1.trans (hp3.wide A0 r0 r2)
        obtain ⟨p3, hp⟩ : ∃ z, z = (y - 1) - (p - x) := ⟨_, rfl⟩
        have g1 : arith .sub .i64 y 1 = y - 1 := sub64 hA (by omega) (by omega)
        have g2 : arith .sub .i64 p x = p - x := sub64 hA (by omega) (by omega)
        have g3 : arith .sub .i64 (y - 1) (p - x) = p3 := by rw [hp]; exact sub64 hA (by omega) (by omega)
        have p4 : x ≤ p3 := by omega
        have p5 : p3 < y := by omega
        rw [g1, g2, g3]
        clear hp g1 g2 g3 p0 p1 t1 t2 hp1 hd1
      rotate_left
      focus
        obtain ⟨h3, hh⟩ : ∃ z, z = h2 := ⟨_, rfl⟩; subst hh
        obtain ⟨L3, hh⟩ : ∃ z, z = L1 := ⟨_, rfl⟩; subst hh
        obtain ⟨p3, hh⟩ : ∃ z, z = p := ⟨_, rfl⟩; subst hh
        have t3 := t2
        have hd3 := hd1
        have hp3 := hp1
        have p4 := p0
        have p5 := p1
        clear p0 p1 t2 hp1 hd1
      all_goals
        cases wb <;> cases wp <;> first | exact absurd qb (by decide) | exact absurd rfl qb | refine zc ?_
      all_goals first
        | (refine br (k = 1) (e_eql hA k 1) (fun _ => ?_) (fun _ => ?_) <;> refine zc ?_)
        | (refine br ((1 : Int) = 1) (e_eql hA 1 1) (fun _ => ?_) (fun q => absurd rfl q); refine zc ?_)
        | skip
      all_goals first
        | (refine pi_ok hA hlow (by omega) (by omega) (by omega) (hd3.over (ov.perm A0 hp3)) t3 (fun h4 L4 u t4 hp4 hs4 => ⟨_, rfl, ?_⟩)
           cases u
           focus
             refine zc ?_
             have hd4 := hd3.perm A0 hp4
             have hp4 := hp3.trans (hp4.wide A0 r0 r2)
             clear t3 hp3 hd3 hs4
           rotate_left
           focus
             refine zc ?_
             exact hQ _ _ _ _ t4 (hp3.trans (hp4.wide A0 r0 r2)) ((hd3.perm A0 hp4).done (hs4 rfl)))
        | (obtain ⟨h4, hh⟩ : ∃ z, z = h3 := ⟨_, rfl⟩; subst hh
           obtain ⟨L4, hh⟩ : ∃ z, z = L3 := ⟨_, rfl⟩; subst hh
           have t4 := t3
           have hd4 := hd3
           have hp4 := hp3
           clear t3 hp3 hd3)
      all_goals
        have hv4 := hd4.over (ov.perm A0 hp4)
        obtain ⟨h5, hh5⟩ : ∃ z, z = bump h4 17 := ⟨_, rfl⟩
        have x5 : Ext h4 h5 := by rw [hh5]; exact ext_bump hA _ _
        have t5 := t4.more x5
        refine br (0 < x) (by rw [e_gtr hA]) (fun cx => ?_) (fun cx => ?_) <;> refine zc ?_
        focus
          rw [← hh5]
          obtain ⟨x', hx'⟩ : ∃ z, z = x - 1 := ⟨_, rfl⟩
          have e2 : arith .sub .i64 x 1 = x' := by rw [hx']; exact sub64 hA (by omega) (by omega)
          obtain ⟨a5, b5, g5, f5, r5⟩ := t5.read (i := x') (by omega) (by omega)
          obtain ⟨a5', b5', g5', f5', r5'⟩ := t5.read (i := p3) (by omega) (by omega)
          have q5 := rd_ok hA r5
          have q5' := rd_ok hA r5'
          (refine zq ?_; repeat ((first | rw [e2]); refine zq ?_))
          refine qorder_ok hA (low_fresh hA h5) f5 f5' (fun u h5a hu x5a => ⟨_, rfl, ?_⟩)
          have t5b := dat_low hA hlow t5 x5a
          refine zc ?_
          generalize lowered h5 h5a = h5b at *
          refine br (0 ≤ u) (by rw [e_bnot hA, e_lss hA]; by_cases z : u < 0 <;> simp [z] <;> omega) (fun cu => ?_) (fun cu => ?_) <;> refine zc ?_
          focus
            rw [hu] at cu
            have w : leF (gt L4 p3) (gt L4 (x - 1)) := by rw [← hx']; exact Rat.not_lt.1 (fun w => by have := cmpF_lt.2 w; omega)
            refine equal_ok hA hlow (by omega) (by omega) p4 p5 t5b (fun h6 L6 e t6 hp6 e0 e1 he => ⟨_, rfl, ?_⟩)
            refine zc ?_
            refine ih' e y lim1 _ _ h6 L6 (by omega) l2 l3 t6 (hp4.trans (hp6.wide A0 r0 r2)) (Pdq.equal (hd4.perm A0 hp6) (by omega) (by omega) (fun p q p0 p1 q0 q1 => ?_))
            refine leF_pre.trans _ _ _ (he p p0 p1) (leF_pre.trans _ _ _ w ?_)
            have := (hv4.perm (by omega) hp6).resolve_left (by omega) q q0 q1
            rwa [hp6.out (x - 1) (by omega) (by omega)] at this
          clear t5
          have t5 := t5b
        rotate_left
        focus
          rw [← hh5]
          clear hh5
          obtain ⟨h5b, hh⟩ : ∃ z, z = h5 := ⟨_, rfl⟩; subst hh
      all_goals
        refine part_ok hA hlow (by omega) (by omega) p4 p5 t5 (fun h6 L6 mid r t6 hp6 m0 m1 k1 k2 => ⟨_, _, rfl, ?_⟩)
        have hd6 := hd4.perm A0 hp6
        have hv6 := hv4.perm (by omega) hp6
        have hp6 := hp4.trans (hp6.wide A0 r0 r2)
        have v1 : Over L6 x mid := by
          rcases hv6 with o | o
          · exact .inl o
          · exact .inr (fun k k0 k1 => o k k0 (by omega))
        have v2 : Over L6 (mid + 1) y := .inr (fun k k0 k1 => by rw [show mid + 1 - 1 = mid by omega]; exact k2 k (by omega) k1)
        have u1 : arith .sub .i64 mid x = mid - x := sub64 hA (by omega) (by omega)
        have u2 : arith .sub .i64 y mid = y - mid := sub64 hA (by omega) (by omega)
        have u3 : arith .add .i64 mid 1 = mid + 1 := add64 hA (by omega) (by omega)
        obtain ⟨q8, hq8⟩ : ∃ z, z = arith .quo .i64 l 8 := ⟨_, rfl⟩
        (refine zq ?_; repeat ((first | rw [u1] | rw [u2]); refine zq ?_))
        rw [← hq8]
        clear hq8
        refine br (mid - x < y - mid) (by rw [e_lss hA]) (fun cm => ?_) (fun cm => ?_) <;> refine zc ?_
        focus
          refine rec h6 L6 x mid lim1 _ (by omega) m0 (by omega) (by omega) l2 l3 v1 t6 (fun h7 L7 t7 hp7 hs7 => ?_)
          refine zc ?_
          rw [u3]
          exact ih' (mid + 1) y lim1 _ _ h7 L7 (by omega) l2 l3 t7 (hp6.trans (hp7.wide A0 r0 (by omega))) (Pdq.left leF_pre A0 hd6 m0 m1 k1 k2 hp7 hs7)
        focus
          rw [u3]
          refine rec h6 L6 (mid + 1) y lim1 _ (by omega) (by omega) (by omega) (by omega) l2 l3 v2 t6 (fun h7 L7 t7 hp7 hs7 => ?_)
          refine zc ?_
          exact ih' x mid lim1 _ _ h7 L7 (by omega) l2 l3 t7 (hp6.trans (hp7.wide A0 (by omega) r2)) (Pdq.right leF_pre A0 hd6 m0 m1 k1 k2 hp7 hs7)
theorem pdq_ok{h0:AHeap}(hlow:h0.low<=h0.next){b n c:Nat}:∀(N:Nat) (h:AHeap) (L:List F2) (x y lim:Int) (Q:Value->AHeap->Prop),(y-x).toNat<N->0<=x->x<=y->y<=n->0<=lim->lim<=100->Over L x y->Dat h0 h b n L->(∀h' L',Dat h0 h' b n L'->PermOn x y L L'->SortedOn leF L' x y->Q (.tuple #[]) h')->call 72 [.slice (some ⟨b,0,none⟩) n c,.int .i64 x,.int .i64 y,.int .i64 lim,.func (.func 64) #[] #[]] h Q:=by
 intro N
 induction N with
 |zero=>intro h L x y lim Q w;omega
 |succ N ih=>
  intro h L x y lim Q w x0 xy yn l0 l1 ov t hQ;have hlow':=hlow
  replace hlow:=t.ext.lowOK hlow
  refine hA.bodyR Try.func72 r72_ok (hA.alike _ _ _ rfl) hlow (zc ?_);refine pdq_loop hA hlow' (c:=c) (L0:=L) x0 yn ov (fun h L x' y' lim Q a1 a2 a3 a4 a5 a6 a7 a8 a9=>ih h L x' y' lim Q (by omega) a1 a2 a3 a5 a6 a7 a8 a9) (fun h' L' e kn t' hp hs=>?_) (y-x).toNat x y lim true true h L (Nat.le_refl _) l0 l1 t (.refl _ _ _) (.start L xy);refine zc ?_;exact hQ h' L' t' hp hs
end Go.Proofs.Ytlimjlpjldijdaa
namespace Go.Proofs.Ytlimjlpjldijdaa
open Go.Sim
set_option maxRecDepth 100000
theorem mixed:Try.prog.follows .mixedOrders=true:=mixedP
theorem named(g : FuncId)(fn : Func)(h : Try.prog.funcs[g]? = some fn) : (fn.name == "runtime.NumGoroutine") = false := namedP g fn h
theorem prims0_ok:CallOK Try.prog prims0:=leastF_ok (wayF_ok noPrims_ok)
theorem withF_keep{g0:FuncId}{f:List Value->AHeap->Option (Value×AHeap)}{F:Prims}(hf:∀args h v h',f args h=some (v,h')->KeepB h.next h h')(hF:CallKeep F):CallKeep (withF g0 f F):=by
 intro g args h v h' hc;unfold withF at hc;cases hb:Nat.beq g g0 with
 |false=>rw[hb]at hc;exact hF g args h v h' hc
 |true=>rw[hb]at hc;exact hf args h v h' hc
theorem leastF_keep(args:List Value)(h:AHeap)(v:Value)(h':AHeap)(hc:leastF args h=some (v,h')):KeepB h.next h h':=by
 unfold leastF at hc;repeat' split at hc
 all_goals first
  |(cases hc;done)
  |(simp only[oi,pj]at hc;obtain⟨_,rfl⟩:=hc;exact .refl _ _)
theorem wayF_keep(args:List Value)(h:AHeap)(v:Value)(h':AHeap)(hc:wayF args h=some (v,h')):KeepB h.next h h':=by
 unfold wayF at hc;simp only[Bool.cond_eq_ite]at hc;repeat' split at hc
 all_goals first
  |(cases hc;done)
  |(simp only[oi,pj]at hc;obtain⟨_,rfl⟩:=hc;exact .refl _ _)
  |(simp only[oi,pj]at hc;obtain⟨_,rfl⟩:=hc;exact .push (Nat.le_refl _) _ _)
theorem prims0_keep:CallKeep prims0:=withF_keep leastF_keep (withF_keep wayF_keep noPrims_keep)
end Go.Proofs.Ytlimjlpjldijdaa
namespace Go.Proofs.Ytlimjlpjldijdaa
open Go.Sim
set_option maxRecDepth 100000
variable{F:Prims}{call head arith cmp scmp bnot bsame conv neg imax imin ofNat slen place inR nz geZ rd wr push next mkOK nat zeros sadd eqAgg cut slc sslc strAt part app cpy putAt fresh lowered bump wrote addN lt ne fpAll fpApp brk yn rng mget mput mnew bytes clr mrng ment:_}(hA:AP F ⟨call,head,arith,cmp,scmp,bnot,bsame,conv,neg,imax,imin,ofNat,slen,place,inR,nz,geZ,rd,wr,push,next,mkOK,nat,zeros,sadd,eqAgg,cut,slc,sslc,strAt,part,app,cpy,putAt,fresh,lowered,bump,wrote,addN,lt,ne,fpAll,fpApp,brk,yn,rng,mget,mput,mnew,bytes,clr,mrng,ment⟩)
include hA
theorem sortfunc_ok{h0 h:AHeap}(hlow:h0.low<=h0.next){b n c:Nat}{L:List F2}(t:Dat h0 h b n L){Q:Value->AHeap->Prop}
  (hQ:∀h' L',Dat h0 h' b n L'->PermOn 0 n L L'->SortedOn leF L' 0 n->Q (.tuple #[]) h'):call 63 [.slice (some ⟨b,0,none⟩) n c,.func (.func 64) #[] #[]] h Q:=by
 have hlow':=hlow
 replace hlow:=t.ext.lowOK hlow
 have few:=t.few;refine hA.bodyR Try.func63 r63_ok (hA.alike _ _ _ rfl) hlow (zc ?_);rw[e_ofNat hA,convU hA (by omega) (by omega)];refine len_ok hA hlow (by unfold u64;omega) (fun k hk=>⟨_,rfl,?_⟩);obtain⟨n0,n1,n2⟩:=hk;have k40:k<=40:=by
  by_cases c:k<=40
  ·exact c
  ·have h1:=Nat.pow_le_pow_right (n:=2) (by omega) (show 40<=k.toNat by omega)
   have h2:((2 ^ 40:Nat):Int)<=((2 ^ k.toNat:Nat):Int):=by exact_mod_cast h1
   have h3:((2 ^ k.toNat:Nat):Int)=2 ^ k.toNat:=by push_cast;rfl
   have h4:((2 ^ 40:Nat):Int)=1099511627776:=by decide
   have h5:max (n:Int) 1<=100001:=by omega
   omega
 refine zc ?_;refine pdq_ok hA hlow' (c:=c) (n+1) h L 0 n k _ (by omega) (by omega) (by omega) (Int.le_refl _) n0 (by omega) (.inl rfl) t (fun h' L' t' hp hs=>?_);refine zc ?_;exact hQ h' L' t' hp hs
end Go.Proofs.Ytlimjlpjldijdaa
namespace Go.Proofs.Ytlimjlpjldijdaa
open Go.Sim
set_option maxRecDepth 100000
structure Vk where
 i:Int
 j:Int
 re:Int
 im:Int
 den:Int
 n:Int
instance:Inhabited Vk:=⟨⟨0,0,0,0,0,0⟩⟩
def Vk.cells(v:Vk):List Value:=[.int .i64 v.i,.int .i64 v.j,.int .i64 v.re,.int .i64 v.im,.int .i64 v.den,.int .i64 v.n]
theorem vk_len(v:Vk):v.cells.length=6:=rfl
abbrev Vs(h:AHeap)(a:Option Addr)(n:Nat)(l:List Vk):Prop:=Rows Vk.cells 6 h a n l
theorem vs_at{h:AHeap}{a:Option Addr}{n:Nat}{l:List Vk}(p:Vs h a n l){i:Int}(h0:0<=i)(hi:i<n) :
  ∃b o x y z u d w,a=some ⟨b,o,none⟩/\b<h.next/\gt l i=⟨x,y,z,u,d,w⟩/\h.readG ⟨b,o+i.toNat*6,none⟩ 6=some [.int .i64 x,.int .i64 y,.int .i64 z,.int .i64 u,.int .i64 d,.int .i64 w] /\
   ∀f m,f+m<=6->0<m->h.readG ⟨b,o+i.toNat*6+f,none⟩ m=some (((gt l i).cells.drop f).take m):=by
 obtain⟨b,o,e,h1,h2⟩:=p.at h0 (by have:=p.len;omega);obtain⟨x,y,z,u,d,w,hx⟩:∃x y z u d w,gt l i=⟨x,y,z,u,d,w⟩:=⟨_,_,_,_,_,_,rfl⟩;refine⟨b,o,x,y,z,u,d,w,e,h1,hx,?_,h2⟩;have:=h2 0 6 (by omega) (by omega);rw[hx]at this;exact this
def Vk.pr(v:Vk):F2:=⟨v.i,v.j⟩
def stOK(l:List Vk):Prop:=∀i:Int,0<=i->i<l.length->okP (gt l i).i (gt l i).j
theorem okP_of{n d:Int}(h1:0<=n)(h2:n<8)(h3:0<=d)(h4:d<8):okP n d:=⟨_,h1,h2,h3,h4,rfl⟩
theorem TP2:SliceT Try.prog 71 89 2:=⟨by kernel_rfl,by kernel_rfl,⟨16,by kernel_rfl,by omega⟩,⟨.agg #[.int .i64 0,.int .i64 0],by kernel_rfl,rfl⟩⟩
theorem ext_cut{h:AHeap}{b:Nat}(hb:b<h.next):Ext { next:=b+1,low:=h.low,m:=h.m } h:=
 ⟨by show b+1<=h.next;omega,fun q=>by have q':h.low<=b+1:=q;omega,Nat.min_le_left _ _,fun _ _=>rfl⟩
def cutH(h:AHeap)(k:Nat):AHeap:={ next:=k,low:=min h.low k,m:=h.m }
theorem cut_low(h:AHeap)(k:Nat):(cutH h k).low<=(cutH h k).next:=Nat.min_le_right _ _
theorem cut_ext{h:AHeap}{k:Nat}(hk:k<=h.next)(hl:h.low<=h.next):Ext (cutH h k) h:=
 ⟨hk,fun _=>hl,by show Nat.min (min h.low k) k<=h.low;exact Nat.le_trans (Nat.min_le_left _ _) (Nat.min_le_left _ _),fun _ _=>rfl⟩
theorem cut_thru{h h2 h':AHeap}{k:Nat}(e:Ext h h2)(h1:h.next<=k)(x:Ext (cutH h2 k) h'):Ext h h':=by
 have x1:k<=h'.next:=x.next;have x2:h'.low<=h'.next:=x.low (cut_low _ _);have x3:min (min h2.low k) k<=h'.low:=x.lowG;have e3:min h.low h.next<=h2.low:=e.lowG;refine⟨by omega,fun _=>x2,?_,fun b hb=>?_⟩
 ·show min h.low h.next<=h'.low
  omega
 ·rw[x.get b (by show b<k;omega)]
  exact e.get b hb
theorem f2_ok'(x:F2):x.cells.all cellOK=true:=rfl
variable{F:Prims}{call head arith cmp scmp bnot bsame conv neg imax imin ofNat slen place inR nz geZ rd wr push next mkOK nat zeros sadd eqAgg cut slc sslc strAt part app cpy putAt fresh lowered bump wrote addN lt ne fpAll fpApp brk yn rng mget mput mnew bytes clr mrng ment:_}(hA:AP F ⟨call,head,arith,cmp,scmp,bnot,bsame,conv,neg,imax,imin,ofNat,slen,place,inR,nz,geZ,rd,wr,push,next,mkOK,nat,zeros,sadd,eqAgg,cut,slc,sslc,strAt,part,app,cpy,putAt,fresh,lowered,bump,wrote,addN,lt,ne,fpAll,fpApp,brk,yn,rng,mget,mput,mnew,bytes,clr,mrng,ment⟩)
include hA
theorem sort_nil{h:AHeap}(hlow:h.low<=h.next){Q:Value->AHeap->Prop}(hQ:∀h',Ext h h'->Q (.tuple #[]) h'):call 63 [.slice none 0 0,.func (.func 64) #[] #[]] h Q:=by
 refine hA.bodyR Try.func63 r63_ok (hA.alike _ _ _ rfl) hlow (zc ?_);rw[e_ofNat hA,convU hA (by omega) (by omega)];refine len_ok hA hlow (by unfold u64;omega) (fun k hk=>⟨_,rfl,?_⟩);refine zc ?_;refine hA.bodyR Try.func72 r72_ok (hA.alike _ _ _ rfl) hlow (zc ?_);refine hA.roundR Try.func72 r72_ok (zc ?_);refine br True (by rw[e_leq hA];rw[e_sub hA];rfl) (fun _=>?_) (fun q=>absurd trivial q)<;>refine zc ?_;refine zc ?_;refine hA.bodyR Try.func75 r75_ok (hA.alike _ _ _ rfl) hlow (zc ?_);rw[show arith .add .i64 0 1=1 from add64 hA (by omega) (by omega)];refine hA.roundR Try.func75 r75_ok (zc ?_);refine br False (by rw[e_lss hA];rfl) (fun q=>q.elim) (fun _=>?_)<;>refine zc ?_;refine zc ?_;exact hQ h (.refl h)
theorem bl_loop{h0:AHeap}(hlow:h0.low<=h0.next){a:Option Addr}{n c:Nat}{N:Int}(hN:N=n){l:List Vk}(hl:Vs h0 a n l)(hn:n<=1000){b:Nat}(hb0:h0.next<=b){Q:Exit->SS->Prop}
  (hQ:∀h' a' c',Own h' b 1 [.slice a' n c']->Apd h' 2 a' n c' ((l.map Vk.pr).flatMap F2.cells)->From (b+1) a'->Ext h0 h'->b<h'.next->Q (.exit 0) ⟨[(3,.pointer (some ⟨b,0,none⟩))],0,[],h'⟩) :
  ∀(m:Nat) (i:Int) (k:Nat) (h:AHeap) (a':Option Addr) (c':Nat),(n-i).toNat<=m->0<=i->i<=n->(k:Int)=i->Own h b 1 [.slice a' k c']->Apd h 2 a' k c' (((l.map Vk.pr).take i.toNat).flatMap F2.cells)->From (b+1) a'->Ext h0 h->b<h.next->
   head 57 3 0 ⟨[(3,.pointer (some ⟨b,0,none⟩)),(6,.slice a n c),(7,.int .i64 N),(8,.int .i64 i)],0,[],h⟩ Q:=by
 have hlen:=hl.len;refine upTo (fun m ih=>?_);intro i k h a' c' hm i0 i1 hk ho hp hf he hb;by_cases ci:i<n
 rotate_left
 ·obtain rfl:k=n:=by omega
  refine hA.roundR Try.func57 r57_ok (zc ?_);refine br (i<N) (by rw[e_lss hA]) (fun c1=>by omega) (fun c1=>?_)<;>refine zc ?_;rw[List.take_of_length_le (by rw[List.length_map];omega)]at hp;exact hQ h a' c' ho hp hf he hb
 obtain⟨m,rfl⟩:∃k,m=k+1:=⟨m-1,by omega⟩
 replace ih:=ih m rfl
 obtain⟨bb,o,x,y,z,u,d,w,rfl,hbb,hg,r1,_⟩:=vs_at (hl.ext he) (i:=i) i0 ci;have q1:=rd_ok hA r1;have q2:rd h b 0 1 [.slice a' k c']:=rd_at hA (ho.readG (o:=0) (n:=1) (by simp));have e2:arith .add .i64 i 1=i+1:=add64 hA (by omega) (by omega);refine hA.roundR Try.func57 r57_ok (zc ?_);refine br (i<N) (by rw[e_lss hA]) (fun c1=>?_) (fun c1=>by omega)<;>refine zc ?_;refine zq ?_;refine⟨_,_,_,_,_,_,q1,?_⟩;refine zq ?_;obtain⟨hB,hhB⟩:∃z:AHeap,z = { next:=b+1,low:=h.low,m:=h.m }:=⟨_,rfl⟩;have xB:Ext hB h:=by rw[hhB];exact ext_cut hb
 have nB:hB.next=b+1:=by rw[hhB]
 refine appR_ok hA TP2 f2_len (by omega) f2_ok' (v:=⟨x,y⟩) hp (by omega) (fun a2 c2 h2 hp2 hx=>?_);obtain⟨x2,_⟩:=hx h0 he (fun ad had=>by have:=hf ad had;omega);obtain⟨xB2,hf2⟩:=hx hB xB (by rw[nB];exact hf);rw[nB]at hf2;have o2:Own h2 b 1 [.slice a' k c']:=by unfold Own at ho ⊢;rw[xB2.get b (by omega)];rw[hhB];exact ho
 have hb2:b<h2.next:=by have:=xB2.next;omega
 refine zc ?_;obtain⟨h3,w3,o3,k3⟩:=o2.write (o:=0) (vs:=[.slice a2 (k+1) c2]) (by simp);refine⟨h3,wr_at hA w3,?_⟩;refine zc ?_;rw[e2];have n3:=k3.next;refine ih (i+1) (k+1) h3 a2 c2 (by omega) (by omega) (by omega) (by omega) o3 ?_ hf2 (k3.ext x2 hb0) (by omega);rw[gt_take (l.map Vk.pr) i0 (by rw[List.length_map];omega),gt_map Vk.pr l i0 (by omega),hg];exact hp2.of_get (by omega) (fun ad had hlt=>k3.get _ (by have:=hf2 ad had;omega))
theorem baselines_ok{h:AHeap}(hlow:h.low<=h.next){a:Option Addr}{n c:Nat}{l:List Vk}(hl:Vs h a n l)(hs:stOK l)(hn:n<=1000){Q:Value->AHeap->Prop}
  (hQ:∀h' b a' c' P,Own h' b 1 [.slice a' n c']->Rows F2.cells 2 h' a' n P->PermOn 0 n (l.map Vk.pr) P->SortedOn leF P 0 n->h.next<=b->b<h'.next->From h.next a'->(∀ad,a'=some ad->ad.block≠b)->Ext h h'->Q (.func (.func 67) #[] #[.pointer (some ⟨b,0,none⟩)]) h') :
  call 57 [.slice a n c] h Q:=by
 have hlen:=hl.len;refine hA.bodyR Try.func57 r57_ok (hA.alike _ _ _ rfl) hlow (zc ?_);simp only[e_next hA,e_push hA,e_ofNat hA];have x1:=Ext.push h 1 [.slice none 0 0];have o1:=Own.push h 1 [.slice none 0 0];have n1:(h.push 1 [.slice none 0 0]).next=h.next+1:=rfl;generalize h.push 1 [.slice none 0 0]=h1 at *;refine bl_loop hA hlow rfl hl hn (b:=h.next) (Nat.le_refl _) (fun h2 a' c' o2 p2 f2 e2 b2=>?_) n 0 0 h1 none 0 (by omega) (by omega) (by omega) rfl o1 (by simp;exact Apd.nil _ _) (From.none _) x1 (by omega);have q2:rd h2 h.next 0 1 [.slice a' n c']:=rd_at hA (o2.readG (o:=0) (n:=1) (by simp));refine zq ?_;have fin:∀h' P,Ext (cutH h2 (h.next+1)) h'->Rows F2.cells 2 h' a' n P->PermOn 0 n (l.map Vk.pr) P->SortedOn leF P 0 n->Q (.func (.func 67) #[] #[.pointer (some ⟨h.next,0,none⟩)]) h':=fun h' P x hr hp hso=>by
  have nx:h.next+1<=h'.next:=x.next;refine hQ h' h.next a' c' P ?_ hr hp hso (Nat.le_refl _) (by omega) (fun ad had=>by have:=f2 ad had;omega) (fun ad had=>by have:=f2 ad had;omega) (cut_thru e2 (by omega) x);unfold Own at o2 ⊢;rw[x.get h.next (by show h.next<h.next+1;omega)];exact o2
 rcases p2 with ⟨rfl,rfl,rfl,p4⟩|⟨bb,rfl,rfl,p5,p6,p7⟩
 ·refine sort_nil hA (cut_ext b2 (e2.lowOK hlow) |>.lowOK (cut_low _ _)) (fun h' x=>?_)
  refine zc ?_;have hl0:l=[]:=List.length_eq_zero_iff.1 hlen;subst hl0;exact fin h' [] ((cut_ext b2 (e2.lowOK hlow)).trans x) (Rows.nil h' f2_len (by omega)) (.refl _ _ _) (fun i j h1 h2 h3=>by omega)
 ·have hbb:h.next+1<=bb:=f2 _ rfl
  have xc:=cut_ext (k:=h.next+1) (h:=h2) b2 (e2.lowOK hlow);have hd:Dat (cutH h2 (h.next+1)) h2 bb n (l.map Vk.pr):=⟨xc,p7,hbb,p5,by rw[List.length_map];exact hlen,fun i i0 i1=>by rw[gt_map Vk.pr l i0 (by omega)];exact hs i i0 (by omega),by omega⟩;refine sortfunc_ok hA (cut_low _ _) hd (fun h' P hd' hp hso=>?_);refine zc ?_;exact fin h' P hd'.ext (by have:=Own.rows hd'.own f2_len (by omega) hd'.lt;rw[hd'.len]at this;exact this) hp hso
