import Derived.Test.YtnokkniofajnhaaQuH
set_option linter.unusedSimpArgs false
set_option linter.unusedVariables false
namespace Go.Proofs.Ytnokkniofajnhaa
open Go.Sim
set_option linter.unusedVariables false
set_option maxRecDepth 100000
variable {F : Prims} {call head arith cmp scmp bnot bsame conv neg imax imin ofNat slen place inR nz geZ rd wr push next mkOK nat zeros sadd eqAgg cut slc sslc strAt part app cpy putAt fresh lowered bump wrote addN lt ne fpAll fpApp brk yn rng mget mput mnew bytes clr : _} (hA : AP F ⟨call,head,arith,cmp,scmp,bnot,bsame,conv,neg,imax,imin,ofNat,slen,place,inR,nz,geZ,rd,wr,push,next,mkOK,nat,zeros,sadd,eqAgg,cut,slc,sslc,strAt,part,app,cpy,putAt,fresh,lowered,bump,wrote,addN,lt,ne,fpAll,fpApp,brk,yn,rng,mget,mput,mnew,bytes,clr⟩)
include hA
theorem sift_ok {h0 h : AHeap} (hlow : h0.low ≤ h0.next) {b n c : Nat} {L : List F2} {f lo hi : Int} (f0 : 0 ≤ f) (l0 : 0 ≤ lo) (l1 : lo ≤ 100000) (hn : f + hi ≤ n) (t : Dat h0 h b n L) (hX : HeapX leF L f lo hi lo) {Q : Value → AHeap → Prop}
  (hQ : ∀ h' L',Dat h0 h' b n L' → PermOn f (f + hi) L L' → HeapOn leF L' f lo hi → Q (.tuple #[]) h') : call 100 [.slice (some ⟨b,0,none⟩) n c,.int .i64 lo,.int .i64 hi,.int .i64 f,.func (.func 34) #[] #[]] h Q:=by
 have hlow':=hlow
 replace hlow:=t.ext.lowOK hlow
 refine hA.bodyR Try.func100 r100_ok (hA.alike _ _ _ rfl) hlow (zc ?_)
 refine sift_loop hA hlow' (L0:=L) f0 l0 hn (fun h' L' x e kn hx t' hp hh => ?_) (hi - lo).toNat lo h L (Nat.le_refl _) (Int.le_refl _) l1 t (.refl _ _ _) hX
 rcases hx with rfl | rfl
 ·refine zc ?_
  exact hQ h' L' t' hp hh
 ·refine zc ?_
  exact hQ h' L' t' hp hh
theorem build_loop {h0 : AHeap} (hlow : h0.low ≤ h0.next) {b n c : Nat} {L0 : List F2} {f hi : Int} (f0 : 0 ≤ f) (hn : f + hi ≤ n) {Q : Exit → SS → Prop}
  (hQ : ∀ h' L,Dat h0 h' b n L → PermOn f (f + hi) L0 L → HeapOn leF L f 0 hi → Q (.exit 0) ⟨[(0,.slice (some ⟨b,0,none⟩) n c),(3,.func (.func 34) #[] #[]),(8,.int .i64 f),(9,.int .i64 0),(10,.int .i64 hi)],0,[],h'⟩) :
  ∀ (m : Nat) (i : Int) (h : AHeap) (L : List F2),(i + 1).toNat ≤ m → -1 ≤ i → i ≤ 100000 → Dat h0 h b n L → PermOn f (f + hi) L0 L → HeapOn leF L f (i + 1) hi →
   head 90 4 0 ⟨[(0,.slice (some ⟨b,0,none⟩) n c),(3,.func (.func 34) #[] #[]),(8,.int .i64 f),(9,.int .i64 0),(10,.int .i64 hi),(11,.int .i64 i)],0,[],h⟩ Q:=by
 intro m
 induction m with
 | zero =>
  intro i h L hm i0 i1 t hp hh
  obtain rfl : i = -1:=by omega
  refine hA.roundR Try.func90 r90_ok (zc ?_)
  refine br False (by rw [e_geq hA];rfl) (fun q => q.elim) (fun _ => ?_) <;> refine zc ?_
  exact hQ h L t hp hh
 | succ m ih =>
  intro i h L hm i0 i1 t hp hh
  refine hA.roundR Try.func90 r90_ok (zc ?_)
  refine br (0 ≤ i) (by rw [e_geq hA]) (fun ci => ?_) (fun ci => ?_) <;> refine zc ?_
  rotate_left
  ·obtain rfl : i = -1:=by omega
   exact hQ h L t hp hh
  refine sift_ok hA hlow f0 ci i1 hn t (.start ci hh) (fun h' L' t' hp' hh' => ?_)
  refine zc ?_
  rw [sub64 hA (by omega) (by omega)]
  exact ih (i - 1) h' L' (by omega) (by omega) (by omega) t' (hp.trans hp') (by rw [show i - 1 + 1 = i by omega];exact hh')
theorem pop_loop {h0 : AHeap} (hlow : h0.low ≤ h0.next) {b n c : Nat} {L0 : List F2} {f B : Int} (f0 : 0 ≤ f) (hn : B ≤ n) {Q : Exit → SS → Prop}
  (hQ : ∀ h' L e kn,Dat h0 h' b n L → PermOn f B L0 L → SortedOn leF L f B → Q (.exit 2) ⟨e,kn,[],h'⟩) :
  ∀ (m : Nat) (i : Int) (h : AHeap) (L : List F2),(i + 1).toNat ≤ m → -1 ≤ i → f + i < B → Dat h0 h b n L → PermOn f B L0 L → HSort leF L f (f + i + 1) B →
   head 90 8 0 ⟨[(0,.slice (some ⟨b,0,none⟩) n c),(3,.func (.func 34) #[] #[]),(8,.int .i64 f),(9,.int .i64 0),(12,.int .i64 i)],0,[],h⟩ Q:=by
 intro m
 induction m with
 | zero =>
  intro i h L hm i0 i1 t hp hh
  obtain rfl : i = -1:=by omega
  refine hA.roundR Try.func90 r90_ok (zc ?_)
  refine br False (by rw [e_geq hA];rfl) (fun q => q.elim) (fun _ => ?_) <;> refine zc ?_
  exact hQ h L _ _ t hp (by have:=hh.up;rw [show f + -1 + 1 = f by omega] at this;exact this)
 | succ m ih =>
  intro i h L hm i0 i1 t hp hh
  have few:=t.few
  refine hA.roundR Try.func90 r90_ok (zc ?_)
  refine br (0 ≤ i) (by rw [e_geq hA]) (fun ci => ?_) (fun ci => ?_) <;> refine zc ?_
  rotate_left
  ·obtain rfl : i = -1:=by omega
   exact hQ h L _ _ t hp (by have:=hh.up;rw [show f + -1 + 1 = f by omega] at this;exact this)
  have efi : arith .add .i64 f i = f + i:=add64 hA (by omega) (by omega)
  obtain ⟨fi,hfi⟩ : ∃ z,z = f + i:=⟨_,rfl⟩
  rw [← hfi] at efi hh
  obtain ⟨h2,hh2⟩ : ∃ z,z = bump h 20:=⟨_,rfl⟩
  have x2 : Ext h h2:=by rw [hh2];exact ext_bump hA _ _
  have t2:=t.more x2
  obtain ⟨a2,b2,g2,f2,r2⟩:=t2.read (i:=f) (by omega) (by omega)
  obtain ⟨a2',b2',g2',f2',r2'⟩:=t2.read (i:=fi) (by omega) (by omega)
  have q2:=rd_ok hA r2
  have q2':=rd_ok hA r2'
  rw [← hh2]
  obtain ⟨h2c,h2d,p2,p2',t2d⟩:=dat_swap hA t2 (i:=f) (j:=fi) (by omega) (by omega) (by omega) (by omega) g2 g2'
  (refine zq ?_;repeat ((first | rw [efi]);refine zq ?_))
  obtain ⟨k1,k2,k3⟩:=hh.swap leF_pre f0 (by have:=t.len;omega) (by omega) (by omega)
  rw [show fi - f = i by omega] at k1
  have hsw:=PermOn.swap (a:=f) (b:=B) L (i:=f) (j:=fi) f0 (by have:=t.len;omega) (by omega) (by omega) (by omega) (by omega)
  refine sift_ok hA hlow f0 (by omega) (by omega) (by omega) t2d k1 (fun h' L' t' hp' hh' => ?_)
  refine zc ?_
  rw [sub64 hA (by omega) (by omega)]
  rw [← hfi] at hp'
  obtain ⟨k4,k5⟩:=hp'.keep f0 (by omega) k2 k3
  refine ih (i - 1) h' L' (by omega) (by omega) (by omega) t' ((hp.trans hsw).trans (hp'.wide f0 (by omega) (by omega))) ?_
  rw [show f + (i - 1) + 1 = fi by omega]
  exact ⟨by rw [show fi - f = i by omega];exact hh',k4,k5⟩
theorem heap_ok {h0 h : AHeap} (hlow : h0.low ≤ h0.next) {b n c : Nat} {L : List F2} {A B : Int} (a0 : 0 ≤ A) (ab : A < B) (bn : B ≤ n) (t : Dat h0 h b n L) {Q : Value → AHeap → Prop}
  (hQ : ∀ h' L',Dat h0 h' b n L' → PermOn A B L L' → SortedOn leF L' A B → Q (.tuple #[]) h') : call 90 [.slice (some ⟨b,0,none⟩) n c,.int .i64 A,.int .i64 B,.func (.func 34) #[] #[]] h Q:=by
 have hlow':=hlow
 replace hlow:=t.ext.lowOK hlow
 have few:=t.few
 obtain ⟨hi,hhi⟩ : ∃ z,z = B - A:=⟨_,rfl⟩
 have e1 : arith .sub .i64 B A = hi:=by rw [hhi];exact sub64 hA (by omega) (by omega)
 obtain ⟨hj,hhj⟩ : ∃ z,z = hi - 1:=⟨_,rfl⟩
 have e2 : arith .sub .i64 hi 1 = hj:=by rw [hhj];exact sub64 hA (by omega) (by omega)
 have e3 : arith .quo .i64 hj 2 = hj / 2:=quo64 hA (by omega) (by omega) (by omega)
 obtain ⟨hk,hhk⟩ : ∃ z,z = hj / 2:=⟨_,rfl⟩
 rw [← hhk] at e3
 refine hA.bodyR Try.func90 r90_ok (hA.alike _ _ _ rfl) hlow (zc ?_)
 rw [e1]
 (refine zq ?_;repeat ((first | rw [e2] | rw [e3]);refine zq ?_))
 refine build_loop hA hlow' (L0:=L) (f:=A) (hi:=hi) a0 (by omega) (fun h' L' t' hp hh => ?_) (hk + 1).toNat hk h L (Nat.le_refl _) (by omega) (by omega) t (.refl _ _ _) (fun k k0 k1 k2 => by unfold par at k2;omega)
 (refine zq ?_;repeat ((first | rw [e2]);refine zq ?_))
 refine pop_loop hA hlow' (L0:=L) (f:=A) (B:=B) a0 bn (fun h2 L2 e kn t2 hp2 hs => ?_) (hj + 1).toNat hj h' L' (Nat.le_refl _) (by omega) (by omega) t' (by rw [show B = A + hi by omega];exact hp) ⟨by rw [show A + hj + 1 - A = hi by omega];exact hh,fun p q p0 pq q1 => by omega,fun p q p0 p1 q0 q1 => by omega⟩
 refine zc ?_
 exact hQ h2 L2 t2 hp2 hs
end Go.Proofs.Ytnokkniofajnhaa
