import Derived.Test.YtcdoknkgbnaefaaThR
set_option linter.unusedSimpArgs false
set_option linter.unusedVariables false
namespace Go.Proofs.Ytcdoknkgbnaefaa
open Go.Sim
set_option linter.unusedVariables false
set_option maxRecDepth 100000
variable {F : Prims} {call head arith cmp scmp bnot bsame conv neg imax imin ofNat slen place inR nz geZ rd wr push next mkOK nat zeros sadd eqAgg cut slc sslc strAt part app cpy putAt fresh lowered bump wrote addN lt ne fpAll fpApp brk yn rng mget mput mnew bytes clr : _} (hA : AP F ⟨call,head,arith,cmp,scmp,bnot,bsame,conv,neg,imax,imin,ofNat,slen,place,inR,nz,geZ,rd,wr,push,next,mkOK,nat,zeros,sadd,eqAgg,cut,slc,sslc,strAt,part,app,cpy,putAt,fresh,lowered,bump,wrote,addN,lt,ne,fpAll,fpApp,brk,yn,rng,mget,mput,mnew,bytes,clr⟩)
include hA
theorem rthr_loop {h0 : AHeap} (hlow : h0.low ≤ h0.next) {a : Option Addr} {n c : Nat} (hn : n ≤ 300) {l : List Int} (hs : Ints h0 .i64 a n l) (hlev : l.all lev = true) {u v : Int} {p : Rat} (hp : isF u v p) {Q : Exit → SS → Prop}
  (hok : ∀ h' b kn K,Best l p n b → Ext h0 h' → Q (.exit 0) ⟨[(6,.int .i64 b)],kn,K,h'⟩) :
  ∀ (m : Nat) (i b : Int) (h : AHeap),(n - i).toNat ≤ m → 0 ≤ i → i ≤ n → Best l p i b → Ext h0 h → head 28 9 1 ⟨[(0,.slice a n c),(3,.pointer (some ⟨0,0,some 0⟩)),(6,.int .i64 b),(7,.int .i64 i)],1,[(0,[.int .i64 u,.int .i64 v])],h⟩ Q:=by
 have hl:=hs.len
 intro m
 induction m with
 | zero =>
  intro i b h hm i0 i1 hb he
  refine hA.roundR Try.func28 r28_ok (zc ?_)
  refine br (i < n) (by rw [e_lss hA,e_ofNat hA]) (fun q => by omega) (fun q => ?_) <;> refine zc ?_
  exact hok h b _ _ (by rw [show (n : Int) = i by omega];exact hb) he
 | succ m ih =>
 intro i b h hm i0 i1 hb he
 refine hA.roundR Try.func28 r28_ok (zc ?_)
 refine br (i < n) (by rw [e_lss hA,e_ofNat hA]) (fun ci => ?_) (fun q => ?_) <;> refine zc ?_
 rotate_left
 ·exact hok h b _ _ (by rw [show (n : Int) = i by omega];exact hb) he
 obtain ⟨b1,o1,x,rfl,hb1,hx,hr⟩:=(hs.ext he).atI i0 ci
 have hm':=at'_mem l i0 (by omega)
 rw [← hx] at hm'
 obtain ⟨y0,y1⟩:=lev_of hlev hm'
 rw [← gt_at'] at hx
 have rr:=rd_ok hA hr
 refine zq ?_
 refine rsize_ok hA (he.lowOK hlow) y0 y1 ⟨_,rfl,?_⟩
 obtain ⟨s,hs'⟩ : ∃ z,z = sz x:=⟨_,rfl⟩
 have s0:=sz_nonneg x
 have s1 : sz x ≤ 1000000:=by unfold sz;split <;> omega
 rw [← hs'] at s0 s1 ⊢
 obtain ⟨T,hT⟩ : ∃ z,z = s + 1:=⟨_,rfl⟩
 refine zc ?_
 rw [add64 hA (by omega) (by omega),← hT]
 have eT : sz (gt l i) + 1 = T:=by rw [← hx,← hs',hT]
 refine br (T ≤ 1000000) (by rw [e_leq hA]) (fun c1 => ?_) (fun c1 => ?_) <;> refine zc ?_
 rotate_left
 ·rw [add64 hA (by omega) (by omega)]
  exact ih (i + 1) b h (by omega) (by omega) (by omega) (hb.skip (.inl (by rw [eT];exact fun w => c1 w.1))) he
 refine enough_ok hA (he.lowOK hlow) hn (hs.ext he) hlev hp (fun r h1 k1 x1 => ⟨_,rfl,?_⟩)
 have y1:=he.trans x1
 have e5 : arith .add .i64 i 1 = i + 1:=add64 hA (by omega) (by omega)
 cases r with
 | false =>
  refine zc ?_
  rw [e5]
  exact ih (i + 1) b h1 (by omega) (by omega) (by omega) (hb.skip (.inl (by rw [eT];exact fun w => by have:=k1.2 w.2;cases this))) y1
 | true =>
 have en:=k1.1 rfl
 refine zc ?_
 refine br (b = 0) (by rw [e_eql hA]) (fun c2 => ?_) (fun c2 => ?_) <;> refine zc ?_
 ·rw [e5]
  refine ih (i + 1) T h1 (by omega) (by omega) (by omega) ?_ y1
  have:=hb.take (by rw [eT];exact c1) (by rw [eT];exact en) (.inl c2)
  rwa [eT] at this
 refine br (T < b) (by rw [e_lss hA]) (fun c3 => ?_) (fun c3 => ?_) <;> refine zc ?_
 ·rw [e5]
  refine ih (i + 1) T h1 (by omega) (by omega) (by omega) ?_ y1
  have:=hb.take (by rw [eT];exact c1) (by rw [eT];exact en) (.inr (by rw [eT];exact c3))
  rwa [eT] at this
 ·rw [e5]
  exact ih (i + 1) b h1 (by omega) (by omega) (by omega) (hb.skip (.inr ⟨c2,by rw [eT];omega⟩)) y1
theorem rthr_ok {h : AHeap} (hlow : h.low ≤ h.next) {a : Option Addr} {n c : Nat} (hn : n ≤ 300) {l : List Int} (hs : Ints h .i64 a n l) {u v : Int} (iu : i64 u) (iv : i64 v) {Q : Value → AHeap → Prop}
  (hQ : ∀ t e h',ThrIs l u v t e → Ext h h' → Q (.tuple #[.int .i64 t,.int .i64 e]) h') : call 28 [.slice a n c,.agg #[.int .i64 u,.int .i64 v]] h Q:=by
 have hl:=hs.len
 refine hA.bodyR Try.func28 r28_ok (hA.alike _ _ _ rfl) hlow (zc ?_)
 refine levels_ok hA hlow (by omega) hs (fun e he => ⟨_,rfl,?_⟩)
 refine zc ?_
 refine br (e ≠ 0) (e_neq hA _ _) (fun c1 => ?_) (fun c1 => ?_) <;> refine zc ?_
 ·refine levels_ok hA hlow (by omega) hs (fun e2 he2 => ⟨_,rfl,?_⟩)
  refine zc ?_
  obtain rfl : e2 = e:=by rw [he,he2]
  exact hQ 0 e2 h (.inl ⟨by omega,rfl,he⟩) (.refl h)
 have hz : levE l = 0:=by omega
 refine rcheck_ok hA hlow iu iv (fun e h1 k1 x1 => ⟨_,rfl,?_⟩)
 have bad : (¬ ∃ p,okPart u v p) → Q (.tuple #[.int .i64 0,.int .i64 8]) h1:=fun w => hQ 0 8 h1 (.inr (.inl ⟨hz,w,rfl,rfl⟩)) x1
 refine zc ?_
 refine br (e ≠ 0) (e_neq hA _ _) (fun c1 => ?_) (fun c1 => ?_) <;> refine zc ?_
 ·exact bad (fun ⟨p,q⟩ => by
   rcases k1 with ⟨w,_⟩ | ⟨_,w⟩
   ·exact c1 w
   ·exact w ⟨p,q.1⟩)
 refine br (u < 0) (e_lss hA _ _) (fun c2 => ?_) (fun c2 => ?_) <;> refine zc ?_
 ·exact bad (fun ⟨p,q⟩ => by have:=q.2.1;omega)
 refine br (v < u) (e_gtr hA _ _) (fun c3 => ?_) (fun c3 => ?_) <;> refine zc ?_
 ·exact bad (fun ⟨p,q⟩ => by have:=q.2.2;omega)
 obtain ⟨p,hp⟩ : ∃ p,okPart u v p:=by
  rcases k1 with ⟨_,⟨p,w⟩⟩ | ⟨w,_⟩
  ·exact ⟨p,w,by omega,by omega⟩
  ·omega
 obtain ⟨_,hlev⟩:=levE_zero0 hz
 refine enough_ok hA (x1.lowOK hlow) hn (hs.ext x1) hlev hp.1 (fun r h2 k2 x2 => ⟨_,rfl,?_⟩)
 have y2:=x1.trans x2
 cases r with
 | true =>
  refine zc ?_
  exact hQ 1 0 h2 (.inr (.inr ⟨hz,p,hp,.inl ⟨by omega,⟨by omega,k2.1 rfl,fun t t1 t2 => by omega⟩,rfl⟩⟩)) y2
 | false =>
 have n1 : ¬ en l p 1:=fun w => by have:=k2.2 w;cases this
 refine zc ?_
 refine rthr_loop hA (y2.lowOK hlow) hn (hs.ext y2) hlev hp.1 (fun h3 b kn K hb x3 => ?_) n 0 0 h2 (by omega) (by omega) (by omega) (.inl ⟨rfl,fun j j0 j1 => by omega⟩) (.refl h2)
 rw [← hl] at hb
 obtain ⟨d1,d2⟩:=hb.done n1
 refine zc ?_
 refine br (b = 0) (by rw [e_eql hA]) (fun c4 => ?_) (fun c4 => ?_) <;> refine zc ?_
 ·exact hQ 0 6 h3 (.inr (.inr ⟨hz,p,hp,d1 c4⟩)) (y2.trans x3)
 ·exact hQ b 0 h3 (.inr (.inr ⟨hz,p,hp,d2 c4⟩)) (y2.trans x3)
end Go.Proofs.Ytcdoknkgbnaefaa
