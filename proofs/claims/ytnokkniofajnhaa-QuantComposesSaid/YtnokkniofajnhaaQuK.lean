import Derived.Test.YtnokkniofajnhaaQuD
set_option linter.unusedSimpArgs false
set_option linter.unusedVariables false
namespace Go.Proofs.Ytnokkniofajnhaa
open Go.Sim
set_option maxRecDepth 100000
def smallK (k : Kr) : Prop:=smallF 100 k.xn k.xd ∧ smallF 100 k.yn k.yd
def incrK (l : List Kr) (i : Int) : Prop:=kx (toK l) (i - 1) < kx (toK l) i ∧ ky (toK l) (i - 1) < ky (toK l) i
def CheckIs (l : List Kr) (e : Int) : Prop:=(40 < l.length ∧ e = 4) ∨ (l.length ≤ 40 ∧ ¬ GoodL l ∧ e = 8) ∨ (GoodL l ∧ e = 0)
theorem CheckIs.uniq {l : List Kr} {e f : Int} (h : CheckIs l e) (k : CheckIs l f) : e = f:=by
 rcases h with ⟨a,rfl⟩ | ⟨a,a',rfl⟩ | ⟨a,rfl⟩ <;> rcases k with ⟨b,rfl⟩ | ⟨b,b',rfl⟩ | ⟨b,rfl⟩ <;> first | rfl | omega | exact absurd b a' | exact absurd a b' | (have:=a.most;omega) | (have:=b.most;omega)
variable {F : Prims} {call head arith cmp scmp bnot bsame conv neg imax imin ofNat slen place inR nz geZ rd wr push next mkOK nat zeros sadd eqAgg cut slc sslc strAt part app cpy putAt fresh lowered bump wrote addN lt ne fpAll fpApp brk yn rng mget mput mnew bytes clr : _} (hA : AP F ⟨call,head,arith,cmp,scmp,bnot,bsame,conv,neg,imax,imin,ofNat,slen,place,inR,nz,geZ,rd,wr,push,next,mkOK,nat,zeros,sadd,eqAgg,cut,slc,sslc,strAt,part,app,cpy,putAt,fresh,lowered,bump,wrote,addN,lt,ne,fpAll,fpApp,brk,yn,rng,mget,mput,mnew,bytes,clr⟩)
include hA
theorem qcheck_loop {h0 : AHeap} (hlow : h0.low ≤ h0.next) {b o n c : Nat} {l : List Kr} (hl : Ks h0 (some ⟨b,o,none⟩) n l) (hi : allI64 l) (hn : n ≤ 40) {Q : Exit → SS → Prop}
  (hbad : ∀ h',¬ GoodL l → Ext h0 h' → ∀ e kn K,Q .ret ⟨(2,.int .i64 8) :: e,kn,K,h'⟩) (hok : ∀ h',(∀ j : Int,0 ≤ j → j < n → smallK (gt l j) ∧ (0 < j → incrK l j)) → Ext h0 h' → Q (.exit 0) ⟨[],0,[],h'⟩) :
  ∀ (m : Nat) (i : Int) (h : AHeap),(n - i).toNat ≤ m → 0 ≤ i → i ≤ n → (∀ j : Int,0 ≤ j → j < i → smallK (gt l j) ∧ (0 < j → incrK l j)) → Ext h0 h →
   head 14 6 0 ⟨[(0,.slice (some ⟨b,o,none⟩) n c),(11,.slice (some ⟨b,o,none⟩) n c),(12,.int .i64 (ofNat n)),(13,.int .i64 i)],0,[],h⟩ Q:=by
 have hlen:=hl.len
 intro m
 induction m with
 | zero =>
  intro i h hm i0 i1 hall he
  refine hA.roundR Try.func14 r14_ok (zc ?_)
  refine br (i < n) (by rw [e_lss hA,e_ofNat hA]) (fun c1 => by omega) (fun c1 => ?_) <;> refine zc ?_
  exact hok h (fun j j0 j1 => hall j j0 (by omega)) he
 | succ m ih =>
 intro i h hm i0 i1 hall he
 by_cases ci : i < n
 rotate_left
 ·refine hA.roundR Try.func14 r14_ok (zc ?_)
  refine br (i < n) (by rw [e_lss hA,e_ofNat hA]) (fun c1 => absurd c1 ci) (fun c1 => ?_) <;> refine zc ?_
  exact hok h (fun j j0 j1 => hall j j0 (by omega)) he
 have lh:=he.lowOK hlow
 obtain ⟨_,a1,a2,a3,a4,hg,w1,w2,w3,w4,r1,_,_⟩:=ks_in (hl.ext he) hi (i:=i) i0 ci
 have r2:=rd_ok hA r1
 refine hA.roundR Try.func14 r14_ok (zc ?_)
 refine br (i < n) (by rw [e_lss hA,e_ofNat hA]) (fun c1 => ?_) (fun c1 => absurd ci c1) <;> refine zc ?_
 refine zq ?_
 have sk : smallK (gt l i) ↔ smallF 100 a1 a2 ∧ smallF 100 a3 a4:=by rw [hg];exact Iff.rfl
 refine small_ok' hA lh w1 w2 (by omega) (fun b1 h1 k1 x1 => ⟨_,rfl,?_⟩)
 have e1:=he.trans x1
 have l1:=e1.lowOK hlow
 refine zc ?_
 refine br (b1 = false) (by rw [e_bnot hA];cases b1 <;> rfl) (fun c2 => ?_) (fun c2 => ?_) <;> refine zc ?_
 ·exact hbad h1 (fun g => by have:=k1.2 (sk.1 (g.small i i0 (by omega))).1;rw [c2] at this;cases this) e1 _ _ _
 have s1 : smallF 100 a1 a2:=k1.1 (by cases b1 with | true => rfl | false => exact absurd rfl c2)
 refine small_ok' hA l1 w3 w4 (by omega) (fun b2 h2 k2 x2 => ⟨_,rfl,?_⟩)
 have e2:=e1.trans x2
 have l2:=e2.lowOK hlow
 refine zc ?_
 refine br (b2 = false) (by rw [e_bnot hA];cases b2 <;> rfl) (fun c3 => ?_) (fun c3 => ?_) <;> refine zc ?_
 ·exact hbad h2 (fun g => by have:=k2.2 (sk.1 (g.small i i0 (by omega))).2;rw [c3] at this;cases this) e2 _ _ _
 have s2 : smallF 100 a3 a4:=k2.1 (by cases b2 with | true => rfl | false => exact absurd rfl c3)
 obtain ⟨h9,hh9⟩ : ∃ z,z = bump h2 26:=⟨_,rfl⟩
 have e9 : Ext h0 h9:=by rw [hh9];exact e2.trans (ext_bump hA _ _)
 have l9:=e9.lowOK hlow
 rw [← hh9]
 have ea : arith .add .i64 i 1 = i + 1:=add64 hA (by omega) (by omega)
 have next : ∀ h',(0 < i → incrK l i) → Ext h0 h' → head 14 6 0 ⟨[(0,.slice (some ⟨b,o,none⟩) n c),(11,.slice (some ⟨b,o,none⟩) n c),(12,.int .i64 (ofNat n)),(13,.int .i64 (i + 1))],0,[],h'⟩ Q:=fun h' hw x' => by
  refine ih (i + 1) h' (by omega) (by omega) (by omega) (fun j j0 j1 => ?_) x'
  by_cases z : j = i
  ·subst z;exact ⟨sk.2 ⟨s1,s2⟩,hw⟩
  ·exact hall j j0 (by omega)
 refine br (0 < i) (by rw [e_gtr hA]) (fun c4 => ?_) (fun c4 => ?_) <;> refine zc ?_
 rotate_left
 ·rw [ea]
  exact next h9 (fun q => absurd q c4) e9
 have es : arith .sub .i64 i 1 = i - 1:=sub64 hA (by omega) (by omega)
 obtain ⟨i',hi'⟩ : ∃ z,z = i - 1:=⟨_,rfl⟩
 rw [← hi'] at es
 rw [es]
 obtain ⟨_,p1,p2,p3,p4,hp,_,_,_,_,_,q1,_⟩:=ks_in (hl.ext e9) hi (i:=i') (by omega) (by omega)
 have q2:=rd_fld hA q1
 have prev:=(hall i' (by omega) (by omega)).1
 rw [hp] at prev
 obtain ⟨prev1,prev2⟩ : smallF 100 p1 p2 ∧ smallF 100 p3 p4:=prev
 have inc : incrK l i ↔ rq p1 p2 < rq a1 a2 ∧ rq p3 p4 < rq a3 a4:=by
  obtain ⟨z1,z2⟩:=toK_at (l:=l) (i:=i) i0 (by omega)
  obtain ⟨z3,z4⟩:=toK_at (l:=l) (i:=i') (by omega) (by omega)
  unfold incrK
  rw [← hi',z1,z2,z3,z4,hg,hp]
 refine zq ?_
 refine qorder_ok hA (low_fresh hA h9) prev1.1.is s1.1.is (fun u h10 hu x10 => ⟨_,rfl,?_⟩)
 refine zc ?_
 obtain ⟨h11,hh11⟩ : ∃ z,z = lowered h9 h10:=⟨_,rfl⟩
 have e11 : Ext h0 h11:=by rw [hh11];exact ext_low hA hlow e9 x10
 have l11:=e11.lowOK hlow
 rw [← hh11]
 obtain ⟨_,p1',p2',p3',p4',hp',_,_,_,_,_,_,q3⟩:=ks_in (hl.ext e11) hi (i:=i') (by omega) (by omega)
 rw [hp] at hp'
 cases hp'
 have q4:=rd_fld hA q3
 refine br (0 ≤ u) (by rw [e_geq hA]) (fun c5 => ?_) (fun c5 => ?_) <;> refine zc ?_
 ·refine zq ?_
  rw [hu] at c5
  exact hbad h11 (fun g => by have:=(inc.1 (g.incr i c4 (by omega))).1;have:=cmpF_lt.2 this;omega) e11 _ _ _
 rw [es]
 refine zq ?_
 refine qorder_ok hA (low_fresh hA h11) prev2.1.is s2.1.is (fun v h12 hv x12 => ⟨_,rfl,?_⟩)
 refine zc ?_
 obtain ⟨h13,hh13⟩ : ∃ z,z = lowered h11 h12:=⟨_,rfl⟩
 have e13 : Ext h0 h13:=by rw [hh13];exact ext_low hA hlow e11 x12
 rw [← hh13]
 refine br (0 ≤ v) (by rw [e_geq hA]) (fun c6 => ?_) (fun c6 => ?_) <;> refine zc ?_
 ·rw [hv] at c6
  exact hbad h13 (fun g => by have:=(inc.1 (g.incr i c4 (by omega))).2;have:=cmpF_lt.2 this;omega) e13 _ _ _
 rw [ea]
 rw [hu] at c5
 rw [hv] at c6
 exact next h13 (fun _ => inc.2 ⟨cmpF_lt.1 (by omega),cmpF_lt.1 (by omega)⟩) e13
theorem qcheck_ok {h : AHeap} (hlow : h.low ≤ h.next) {a : Option Addr} {n c : Nat} {l : List Kr} (hl : Ks h a n l) (hi : allI64 l) {Q : Value → AHeap → Prop}
  (hQ : ∀ e h',CheckIs l e → Ext h h' → Q (.int .i64 e) h') : call 14 [.slice a n c] h Q:=by
 have hlen:=hl.len
 refine hA.bodyR Try.func14 r14_ok (hA.alike _ _ _ rfl) hlow (zc ?_)
 refine br (40 < (n : Int)) (by rw [e_gtr hA,e_ofNat hA]) (fun c1 => ?_) (fun c1 => ?_) <;> refine zc ?_
 ·exact hQ _ _ (.inl ⟨by omega,rfl⟩) (.refl h)
 refine br ((n : Int) < 2) (by rw [e_lss hA,e_ofNat hA]) (fun c2 => ?_) (fun c2 => ?_) <;> refine zc ?_
 ·exact hQ _ _ (.inr (.inl ⟨by omega,fun g => by have:=g.two;omega,rfl⟩)) (.refl h)
 obtain ⟨b,o,rfl⟩:=ks_some hl (by omega)
 refine qcheck_loop hA hlow hl hi (by omega) (fun h' hg x' e kn K => ?_) (fun h' hg x' => ?_) n 0 h (by omega) (by omega) (by omega) (fun j j0 j1 => by omega) (.refl h)
 ·refine zc ?_
  exact hQ _ _ (.inr (.inl ⟨by omega,hg,rfl⟩)) x'
 ·refine zc ?_
  exact hQ _ _ (.inr (.inr ⟨⟨by omega,by omega,fun i i0 i1 => (hg i i0 (by omega)).1,fun i i0 i1 => (hg i (by omega) (by omega)).2 i0⟩,rfl⟩)) x'
end Go.Proofs.Ytnokkniofajnhaa
namespace Go.Proofs.Ytnokkniofajnhaa
open Go.Sim
set_option maxRecDepth 100000
variable {F : Prims} {call head arith cmp scmp bnot bsame conv neg imax imin ofNat slen place inR nz geZ rd wr push next mkOK nat zeros sadd eqAgg cut slc sslc strAt part app cpy putAt fresh lowered bump wrote addN lt ne fpAll fpApp brk yn rng mget mput mnew bytes clr : _} (hA : AP F ⟨call,head,arith,cmp,scmp,bnot,bsame,conv,neg,imax,imin,ofNat,slen,place,inR,nz,geZ,rd,wr,push,next,mkOK,nat,zeros,sadd,eqAgg,cut,slc,sslc,strAt,part,app,cpy,putAt,fresh,lowered,bump,wrote,addN,lt,ne,fpAll,fpApp,brk,yn,rng,mget,mput,mnew,bytes,clr⟩)
include hA
theorem rqcheck_loop1 {h0 : AHeap} (hlow : h0.low ≤ h0.next) {a : Option Addr} {n c : Nat} {l : List Kr} (hl : Ks h0 a n l) (hi : allI64 l) (hn : n ≤ 40) {Q : Exit → SS → Prop}
  (hbad : ∀ h',¬ GoodL l → Ext h0 h' → ∀ e kn K,Q .ret ⟨(2,.int .i64 8) :: e,kn,K,h'⟩) (hok : ∀ h',(∀ j : Int,0 ≤ j → j < n → smallK (gt l j)) → Ext h0 h' → Q (.exit 0) ⟨[(0,.slice a n c)],0,[],h'⟩) :
  ∀ (m : Nat) (i : Int) (h : AHeap),(n - i).toNat ≤ m → 0 ≤ i → i ≤ n → (∀ j : Int,0 ≤ j → j < i → smallK (gt l j)) → Ext h0 h →
   head 15 4 0 ⟨[(0,.slice a n c),(3,.int .i64 i)],0,[],h⟩ Q:=by
 have hlen:=hl.len
 intro m
 induction m with
 | zero =>
  intro i h hm i0 i1 hall he
  refine hA.roundR Try.func15 r15_ok (zc ?_)
  refine br (i < n) (by rw [e_lss hA,e_ofNat hA]) (fun c1 => by omega) (fun c1 => ?_) <;> refine zc ?_
  exact hok h (fun j j0 j1 => hall j j0 (by omega)) he
 | succ m ih =>
 intro i h hm i0 i1 hall he
 by_cases ci : i < n
 rotate_left
 ·refine hA.roundR Try.func15 r15_ok (zc ?_)
  refine br (i < n) (by rw [e_lss hA,e_ofNat hA]) (fun c1 => absurd c1 ci) (fun c1 => ?_) <;> refine zc ?_
  exact hok h (fun j j0 j1 => hall j j0 (by omega)) he
 have lh:=he.lowOK hlow
 obtain ⟨b,o,rfl⟩:=ks_some hl (by omega)
 obtain ⟨_,a1,a2,a3,a4,hg,w1,w2,w3,w4,_,r1,_⟩:=ks_in (hl.ext he) hi (i:=i) i0 ci
 have r2:=rd_fld hA r1
 refine hA.roundR Try.func15 r15_ok (zc ?_)
 refine br (i < n) (by rw [e_lss hA,e_ofNat hA]) (fun c1 => ?_) (fun c1 => absurd ci c1) <;> refine zc ?_
 refine zq ?_
 have sk : smallK (gt l i) ↔ smallF 100 a1 a2 ∧ smallF 100 a3 a4:=by rw [hg];exact Iff.rfl
 refine fits_ok hA lh w1 w2 (by omega) (fun b1 h1 k1 x1 => ⟨_,rfl,?_⟩)
 have e1:=he.trans x1
 have l1:=e1.lowOK hlow
 obtain ⟨_,p1,p2,p3,p4,hp,_,_,_,_,_,_,q1⟩:=ks_in (hl.ext e1) hi (i:=i) i0 ci
 rw [hg] at hp
 cases hp
 have q2:=rd_fld hA q1
 refine zc ?_
 refine br (b1 = false) (by rw [e_bnot hA];cases b1 <;> rfl) (fun c2 => ?_) (fun c2 => ?_) <;> refine zc ?_
 ·exact hbad h1 (fun g => by have:=k1.2 (sk.1 (g.small i i0 (by omega))).1;rw [c2] at this;cases this) e1 _ _ _
 have s1 : smallF 100 a1 a2:=k1.1 (by cases b1 with | true => rfl | false => exact absurd rfl c2)
 refine zq ?_
 refine fits_ok hA l1 w3 w4 (by omega) (fun b2 h2 k2 x2 => ⟨_,rfl,?_⟩)
 have e2:=e1.trans x2
 have l2:=e2.lowOK hlow
 refine zc ?_
 refine br (b2 = false) (by rw [e_bnot hA];cases b2 <;> rfl) (fun c3 => ?_) (fun c3 => ?_) <;> refine zc ?_
 ·exact hbad h2 (fun g => by have:=k2.2 (sk.1 (g.small i i0 (by omega))).2;rw [c3] at this;cases this) e2 _ _ _
 have s2 : smallF 100 a3 a4:=k2.1 (by cases b2 with | true => rfl | false => exact absurd rfl c3)
 rw [add64 hA (by omega) (by omega)]
 refine ih (i + 1) h2 (by omega) (by omega) (by omega) (fun j j0 j1 => ?_) e2
 by_cases z : j = i
 ·subst z;exact sk.2 ⟨s1,s2⟩
 ·exact hall j j0 (by omega)
theorem rqcheck_loop2 {h0 : AHeap} (hlow : h0.low ≤ h0.next) {a : Option Addr} {n c : Nat} {l : List Kr} (hl : Ks h0 a n l) (hi : allI64 l) (hn : n ≤ 40) (hs : ∀ j : Int,0 ≤ j → j < n → smallK (gt l j)) {Q : Exit → SS → Prop}
  (hbad : ∀ h',¬ GoodL l → Ext h0 h' → ∀ e kn K,Q .ret ⟨(2,.int .i64 8) :: e,kn,K,h'⟩) (hok : ∀ h' kn,(∀ j : Int,0 < j → j < n → incrK l j) → Ext h0 h' → Q (.exit 2) ⟨[(0,.slice a n c)],kn,[],h'⟩) :
  ∀ (m : Nat) (i : Int) (h : AHeap),(n - i).toNat ≤ m → 1 ≤ i → (i ≤ n ∨ i = 1) → (∀ j : Int,0 < j → j < i → incrK l j) → Ext h0 h →
   head 15 9 0 ⟨[(0,.slice a n c),(4,.int .i64 i)],0,[],h⟩ Q:=by
 have hlen:=hl.len
 intro m
 induction m with
 | zero =>
  intro i h hm i0 i1 hall he
  refine hA.roundR Try.func15 r15_ok (zc ?_)
  refine br (i < n) (by rw [e_lss hA,e_ofNat hA]) (fun c1 => by omega) (fun c1 => ?_) <;> refine zc ?_
  exact hok h _ (fun j j0 j1 => hall j j0 (by omega)) he
 | succ m ih =>
 intro i h hm i0 i1 hall he
 by_cases ci : i < n
 rotate_left
 ·refine hA.roundR Try.func15 r15_ok (zc ?_)
  refine br (i < n) (by rw [e_lss hA,e_ofNat hA]) (fun c1 => absurd c1 ci) (fun c1 => ?_) <;> refine zc ?_
  exact hok h _ (fun j j0 j1 => hall j j0 (by omega)) he
 have lh:=he.lowOK hlow
 obtain ⟨b,o,rfl⟩:=ks_some hl (by omega)
 obtain ⟨h9,hh9⟩ : ∃ z,z = bump h 28:=⟨_,rfl⟩
 have e9 : Ext h0 h9:=by rw [hh9];exact he.trans (ext_bump hA _ _)
 have l9:=e9.lowOK hlow
 have es : arith .sub .i64 i 1 = i - 1:=sub64 hA (by omega) (by omega)
 obtain ⟨i',hi'⟩ : ∃ z,z = i - 1:=⟨_,rfl⟩
 rw [← hi'] at es
 obtain ⟨_,a1,a2,a3,a4,hg,_,_,_,_,_,r1,_⟩:=ks_in (hl.ext e9) hi (i:=i) (by omega) ci
 have r2:=rd_fld hA r1
 obtain ⟨_,p1,p2,p3,p4,hp,_,_,_,_,_,q1,_⟩:=ks_in (hl.ext e9) hi (i:=i') (by omega) (by omega)
 have q2:=rd_fld hA q1
 have this1:=hs i (by omega) ci
 have prev:=hs i' (by omega) (by omega)
 rw [hg] at this1
 rw [hp] at prev
 obtain ⟨prev1,prev2⟩ : smallF 100 p1 p2 ∧ smallF 100 p3 p4:=prev
 obtain ⟨s1,s2⟩ : smallF 100 a1 a2 ∧ smallF 100 a3 a4:=this1
 have inc : incrK l i ↔ rq p1 p2 < rq a1 a2 ∧ rq p3 p4 < rq a3 a4:=by
  obtain ⟨z1,z2⟩:=toK_at (l:=l) (i:=i) (by omega) (by omega)
  obtain ⟨z3,z4⟩:=toK_at (l:=l) (i:=i') (by omega) (by omega)
  unfold incrK
  rw [← hi',z1,z2,z3,z4,hg,hp]
 refine hA.roundR Try.func15 r15_ok (zc ?_)
 refine br (i < n) (by rw [e_lss hA,e_ofNat hA]) (fun c1 => ?_) (fun c1 => absurd ci c1) <;> refine zc ?_
 rw [es,← hh9]
 refine zq ?_
 refine qless_ok hA (low_fresh hA h9) prev1.1.is s1.1.is (fun b1 h10 k1 x10 => ⟨_,rfl,?_⟩)
 refine zc ?_
 obtain ⟨h11,hh11⟩ : ∃ z,z = lowered h9 h10:=⟨_,rfl⟩
 have e11 : Ext h0 h11:=by rw [hh11];exact ext_low hA hlow e9 x10
 have l11:=e11.lowOK hlow
 rw [← hh11]
 obtain ⟨_,p1',p2',p3',p4',hp',_,_,_,_,_,_,q3⟩:=ks_in (hl.ext e11) hi (i:=i') (by omega) (by omega)
 rw [hp] at hp'
 cases hp'
 have q4:=rd_fld hA q3
 obtain ⟨_,a1',a2',a3',a4',hg',_,_,_,_,_,_,r3⟩:=ks_in (hl.ext e11) hi (i:=i) (by omega) (by omega)
 rw [hg] at hg'
 cases hg'
 have r4:=rd_fld hA r3
 refine br (b1 = false) (by rw [e_bnot hA];cases b1 <;> rfl) (fun c2 => ?_) (fun c2 => ?_) <;> refine zc ?_
 ·refine zq ?_
  exact hbad h11 (fun g => by have:=k1.2 (inc.1 (g.incr i (by omega) (by omega))).1;rw [c2] at this;cases this) e11 _ _ _
 have s3:=k1.1 (by cases b1 with | true => rfl | false => exact absurd rfl c2)
 rw [es]
 refine zq ?_
 refine qless_ok hA (low_fresh hA h11) prev2.1.is s2.1.is (fun b2 h12 k2 x12 => ⟨_,rfl,?_⟩)
 refine zc ?_
 obtain ⟨h13,hh13⟩ : ∃ z,z = lowered h11 h12:=⟨_,rfl⟩
 have e13 : Ext h0 h13:=by rw [hh13];exact ext_low hA hlow e11 x12
 rw [← hh13]
 refine br (b2 = false) (by rw [e_bnot hA];cases b2 <;> rfl) (fun c2 => ?_) (fun c2 => ?_) <;> refine zc ?_
 ·exact hbad h13 (fun g => by have:=k2.2 (inc.1 (g.incr i (by omega) (by omega))).2;rw [c2] at this;cases this) e13 _ _ _
 have s4:=k2.1 (by cases b2 with | true => rfl | false => exact absurd rfl c2)
 rw [add64 hA (by omega) (by omega)]
 refine ih (i + 1) h13 (by omega) (by omega) (by omega) (fun j j0 j1 => ?_) e13
 by_cases z : j = i
 ·subst z;exact inc.2 ⟨s3,s4⟩
 ·exact hall j j0 (by omega)
theorem rqcheck_ok {h : AHeap} (hlow : h.low ≤ h.next) {a : Option Addr} {n c : Nat} {l : List Kr} (hl : Ks h a n l) (hi : allI64 l) {Q : Value → AHeap → Prop}
  (hQ : ∀ e h',CheckIs l e → Ext h h' → Q (.int .i64 e) h') : call 15 [.slice a n c] h Q:=by
 have hlen:=hl.len
 refine hA.bodyR Try.func15 r15_ok (hA.alike _ _ _ rfl) hlow (zc ?_)
 refine br (40 < (n : Int)) (by rw [e_gtr hA,e_ofNat hA]) (fun c1 => ?_) (fun c1 => ?_) <;> refine zc ?_
 ·exact hQ _ _ (.inl ⟨by omega,rfl⟩) (.refl h)
 refine rqcheck_loop1 hA hlow hl hi (by omega) (fun h' hg x' e kn K => ?_) (fun h1 hs x1 => ?_) n 0 h (by omega) (by omega) (by omega) (fun j j0 j1 => by omega) (.refl h)
 ·refine zc ?_
  exact hQ _ _ (.inr (.inl ⟨by omega,hg,rfl⟩)) x'
 refine zc ?_
 refine rqcheck_loop2 hA (x1.lowOK hlow) (hl.ext x1) hi (by omega) hs (fun h' hg x' e kn K => ?_) (fun h' kn hg x' => ?_) n 1 h1 (by omega) (by omega) (.inr rfl) (fun j j0 j1 => by omega) (.refl h1)
 ·refine zc ?_
  exact hQ _ _ (.inr (.inl ⟨by omega,hg,rfl⟩)) (x1.trans x')
 have x2:=x1.trans x'
 refine zc ?_
 refine br ((n : Int) < 2) (by rw [e_lss hA,e_ofNat hA]) (fun c2 => ?_) (fun c2 => ?_) <;> refine zc ?_
 ·exact hQ _ _ (.inr (.inl ⟨by omega,fun g => by have:=g.two;omega,rfl⟩)) x2
 ·exact hQ _ _ (.inr (.inr ⟨⟨by omega,by omega,fun i i0 i1 => hs i i0 (by omega),fun i i0 i1 => hg i i0 (by omega)⟩,rfl⟩)) x2
