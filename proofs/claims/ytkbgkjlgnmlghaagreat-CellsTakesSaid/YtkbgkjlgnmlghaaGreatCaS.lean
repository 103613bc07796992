import Derived.Test.YtkbgkjlgnmlghaaGreatSortH
import Derived.Test.YtkbgkjlgnmlghaaGreatCmpA
import Derived.Test.YtkbgkjlgnmlghaaGreatFracX
set_option linter.unusedSimpArgs false
set_option linter.unusedVariables false
namespace Go.Proofs.YtkbgkjlgnmlghaaGreat
open Go.Sim
set_option linter.unusedVariables false
set_option maxRecDepth 100000
structure Pk where
 x : Int
 y : Int
 n : Int
 d : Int
deriving instance DecidableEq for Pk
instance : Inhabited Pk:=⟨⟨0,0,0,0⟩⟩
def Pk.cells (k : Pk) : List Value:=[.int .i64 k.x,.int .i64 k.y,.int .i64 k.n,.int .i64 k.d]
theorem pk_len (k : Pk) : k.cells.length = 4:=rfl
theorem pk_ok (k : Pk) : k.cells.all cellOK = true:=rfl
def leP (a b : Pk) : Prop:=a.y < b.y ∨ (a.y = b.y ∧ a.x ≤ b.x)
theorem leP_pre : Pre leP:=⟨fun x => by unfold leP;omega,fun x y z => by unfold leP;omega,fun x y => by unfold leP;omega⟩
theorem TP : SliceT Tryz.prog 48 52 4:=⟨by kernel_rfl,by kernel_rfl,⟨32,by kernel_rfl,by omega⟩,⟨.agg #[.int .i64 0,.int .i64 0,.int .i64 0,.int .i64 0],by kernel_rfl,rfl⟩⟩
def cmpPk (a b : Pk) : Int:=orI (cmpI a.y b.y) (cmpI a.x b.x)
theorem cmpPk_lt {a b : Pk} : cmpPk a b < 0 ↔ ¬ leP b a:=by
 unfold cmpPk orI cmpI leP
 (repeat' split) <;> omega
structure Dat (h0 h : AHeap) (b n : Nat) (L : List Pk) : Prop where
 ext : Ext h0 h
 own : Own h b 4 (L.flatMap Pk.cells)
 old : h0.next ≤ b
 lt : b < h.next
 len : L.length = n
 few : n ≤ 100000
theorem Dat.more {h0 h h' : AHeap} {b n : Nat} {L : List Pk} (t : Dat h0 h b n L) (e : Ext h h') : Dat h0 h' b n L:=
 ⟨t.ext.trans e,t.own.ext e t.lt,t.old,Nat.lt_of_lt_of_le t.lt e.next,t.len,t.few⟩
theorem Dat.read {h0 h : AHeap} {b n : Nat} {L : List Pk} (t : Dat h0 h b n L) {i : Int} (i0 : 0 ≤ i) (i1 : i < n) : ∃ x y z w,gt L i = ⟨x,y,z,w⟩ ∧ h.readG ⟨b,0 + i.toNat * 4,none⟩ 4 = some [.int .i64 x,.int .i64 y,.int .i64 z,.int .i64 w]:=by
 have r : Rows Pk.cells 4 h (some ⟨b,0,none⟩) L.length L:=Own.rows t.own pk_len (by omega) t.lt
 obtain ⟨b',o',e,_,h3⟩:=r.at i0 (by rw [t.len];exact i1)
 cases e
 exact ⟨(gt L i).x,(gt L i).y,(gt L i).n,(gt L i).d,rfl,h3 0 4 (by omega) (by omega)⟩
theorem Dat.put {h0 h : AHeap} {b n : Nat} {L : List Pk} (t : Dat h0 h b n L) {i : Int} (i0 : 0 ≤ i) (i1 : i < n) {x : Pk} : ∃ h',h.write b (i.toNat * 4) x.cells = some h' ∧ Dat h0 h' b n (L.set i.toNat x):=by
 obtain ⟨h',w1,w2,w3⟩:=Own.setRow t.own pk_len (i:=i.toNat) (by have:=t.len;omega) x
 exact ⟨h',w1,w3.ext t.ext t.old,w2,t.old,by rw [w3.next];exact t.lt,by rw [List.length_set];exact t.len,t.few⟩
variable {F : Prims} {call head arith cmp scmp bnot bsame conv neg imax imin ofNat slen place inR nz geZ rd wr push next mkOK nat zeros sadd eqAgg cut slc sslc strAt part app cpy putAt fresh lowered bump wrote addN lt ne fpAll fpApp brk yn rng mget mput mnew bytes clr : _} (hA : AP F ⟨call,head,arith,cmp,scmp,bnot,bsame,conv,neg,imax,imin,ofNat,slen,place,inR,nz,geZ,rd,wr,push,next,mkOK,nat,zeros,sadd,eqAgg,cut,slc,sslc,strAt,part,app,cpy,putAt,fresh,lowered,bump,wrote,addN,lt,ne,fpAll,fpApp,brk,yn,rng,mget,mput,mnew,bytes,clr⟩)
include hA
theorem cmpPk_ok {h : AHeap} (hlow : h.low ≤ h.next) {x y n d x' y' n' d' : Int} {Q : Value → AHeap → Prop} (hQ : ∀ c h',c = cmpPk ⟨x,y,n,d⟩ ⟨x',y',n',d'⟩ → Ext h h' → Q (.int .i64 c) h') :
  call 33 [.agg #[.int .i64 x,.int .i64 y,.int .i64 n,.int .i64 d],.agg #[.int .i64 x',.int .i64 y',.int .i64 n',.int .i64 d']] h Q:=by
 refine hA.bodyR Tryz.func33 r33_ok (hA.alike _ _ _ rfl) hlow (zc ?_)
 obtain ⟨h9,hh9⟩ : ∃ z,z = bump h 13:=⟨_,rfl⟩
 have e9 : Ext h h9:=by rw [hh9];exact ext_bump hA _ _
 have l9:=e9.lowOK hlow
 rw [← hh9]
 refine compare_int_ok hA (low_fresh hA h9) (fun c1 hc1 => ⟨_,rfl,?_⟩)
 refine zc ?_
 rw [low_same hA l9]
 refine compare_int_ok hA (low_fresh hA h9) (fun c2 hc2 => ⟨_,rfl,?_⟩)
 refine zc ?_
 rw [low_same hA l9]
 rw [e_bump hA] at hh9
 subst hh9
 rw [e_addN hA,e_next hA,e_putAt hA]
 have x1 : Ext h ((h.bump 13).putAt (h.next + 10) 1 [.int .i64 c1,.int .i64 c2]):=ext_bumpPut h 13 (by omega) 1 _
 have o1:=Own.putAt (h.bump 13) (h.next + 10) 1 [.int .i64 c1,.int .i64 c2]
 have n1 : ((h.bump 13).putAt (h.next + 10) 1 [.int .i64 c1,.int .i64 c2]).next = h.next + 13:=rfl
 generalize (h.bump 13).putAt (h.next + 10) 1 [.int .i64 c1,.int .i64 c2] = X at *
 have lX:=x1.lowOK hlow
 have o2 : Own (fresh X) (h.next + 10) 1 [.int .i64 c1,.int .i64 c2]:=by rw [e_fresh hA];exact o1.ext (Ext.freshed X) (by omega)
 refine or2_ok hA (low_fresh hA X) (x:=c1) (y:=c2) (by rw [o2.readG (o:=0) (n:=1) (by simp)];rfl) (by rw [o2.readG (o:=0 + 1) (n:=1) (by simp)];rfl) (fun r hr => ⟨_,rfl,?_⟩)
 refine zc ?_
 rw [low_same hA lX]
 exact hQ r X (by rw [hr,hc1,hc2];rfl) x1
theorem dat_swap {h0 h : AHeap} {b n : Nat} {L : List Pk} (t : Dat h0 h b n L) {i j : Int} (i0 : 0 ≤ i) (i1 : i < n) (j0 : 0 ≤ j) (j1 : j < n) {x1 y1 z1 w1 x2 y2 z2 w2 : Int} (g1 : gt L i = ⟨x1,y1,z1,w1⟩) (g2 : gt L j = ⟨x2,y2,z2,w2⟩) :
  ∃ h1 h2,wr h b (place 0 i 4) [.int .i64 x2,.int .i64 y2,.int .i64 z2,.int .i64 w2] h1 ∧ wr h1 b (place 0 j 4) [.int .i64 x1,.int .i64 y1,.int .i64 z1,.int .i64 w1] h2 ∧ Dat h0 h2 b n (swapL L i j):=by
 obtain ⟨h1,k1,t1⟩:=t.put i0 i1 (x:=⟨x2,y2,z2,w2⟩)
 obtain ⟨h2,k2,t2⟩:=t1.put j0 j1 (x:=⟨x1,y1,z1,w1⟩)
 refine ⟨h1,h2,wr_ok hA (by rw [Nat.zero_add];exact k1),wr_ok hA (by rw [Nat.zero_add];exact k2),?_⟩
 unfold swapL
 rw [g1,g2]
 exact t2
theorem ins_inner {h0 : AHeap} (hlow : h0.low ≤ h0.next) {b n c : Nat} {L0 : List Pk} {A B i : Int} (a0 : 0 ≤ A) (ab : B ≤ n) (ai : A < i) (ib : i < B) {Q : Exit → SS → Prop}
  (hQ : ∀ h' L kn,Dat h0 h' b n L → PermOn A B L0 L → SortedOn leP L A (i + 1) → Q (.exit 2) ⟨[(0,.slice (some ⟨b,0,none⟩) n c),(1,.int .i64 A),(2,.int .i64 B),(3,.func (.func 33) #[] #[]),(8,.int .i64 i)],kn,[],h'⟩) :
  ∀ (m : Nat) (j : Int) (h : AHeap) (L : List Pk),(j - A).toNat ≤ m → A ≤ j → j ≤ i → Dat h0 h b n L → PermOn A B L0 L → InsOn leP L A i j →
   head 77 4 0 ⟨[(0,.slice (some ⟨b,0,none⟩) n c),(1,.int .i64 A),(2,.int .i64 B),(3,.func (.func 33) #[] #[]),(8,.int .i64 i),(9,.int .i64 j)],0,[],h⟩ Q:=by
 intro m
 induction m with
 | zero =>
  intro j h L hm j0 j1 t hp hI
  obtain rfl : j = A:=by omega
  refine hA.roundR Tryz.func77 r77_ok (zc ?_)
  refine br (j < j) (by rw [e_gtr hA]) (fun q => by omega) (fun _ => ?_) <;> refine zc ?_
  exact hQ _ _ _ (t.more (ext_bump hA _ _)) hp hI.first
 | succ m ih =>
  intro j h L hm j0 j1 t hp hI
  by_cases cj : A < j
  rotate_left
  ·obtain rfl : j = A:=by omega
   refine hA.roundR Tryz.func77 r77_ok (zc ?_)
   refine br (j < j) (by rw [e_gtr hA]) (fun q => by omega) (fun _ => ?_) <;> refine zc ?_
   exact hQ _ _ _ (t.more (ext_bump hA _ _)) hp hI.first
  have few:=t.few
  have e1 : arith .sub .i64 j 1 = j - 1:=sub64 hA (by omega) (by omega)
  obtain ⟨j',hj'⟩ : ∃ z,z = j - 1:=⟨_,rfl⟩
  rw [← hj'] at e1
  obtain ⟨h9,hh9⟩ : ∃ z,z = bump h 17:=⟨_,rfl⟩
  have x9 : Ext h h9:=by rw [hh9];exact ext_bump hA _ _
  have t9:=t.more x9
  have l9:=t9.ext.lowOK hlow
  obtain ⟨x1,y1,z1,w1,g1,r1⟩:=t9.read (i:=j) (by omega) (by omega)
  obtain ⟨x2,y2,z2,w2,g2,r2⟩:=t9.read (i:=j') (by omega) (by omega)
  have q1:=rd_ok hA r1
  have q2:=rd_ok hA r2
  refine hA.roundR Tryz.func77 r77_ok (zc ?_)
  refine br (A < j) (by rw [e_gtr hA]) (fun _ => ?_) (fun q => absurd cj q) <;> refine zc ?_
  rw [← hh9]
  (refine zq ?_;repeat ((first | rw [e1]);refine zq ?_))
  refine cmpPk_ok hA (low_fresh hA h9) (fun u h10 hu x10 => ⟨_,rfl,?_⟩)
  refine zc ?_
  obtain ⟨h11,hh11⟩ : ∃ z,z = lowered h9 h10:=⟨_,rfl⟩
  have e11 : Ext h9 h11:=by rw [hh11];exact ext_low hA l9 (.refl h9) x10
  have t11:=t9.more e11
  rw [← hh11]
  refine br (u < 0) (by rw [e_lss hA]) (fun c1 => ?_) (fun c1 => ?_) <;> refine zc ?_
  rotate_left
  ·refine hQ _ _ _ t11 hp (hI.stop leP_pre cj ?_)
   rw [← hj']
   rw [hu,cmpPk_lt,← g1,← g2] at c1
   exact Classical.not_not.1 c1
  have w : ¬ leP (gt L (j - 1)) (gt L j):=by
   rw [← hj']
   rw [hu,cmpPk_lt,← g1,← g2] at c1
   exact c1
  obtain ⟨h12,hh12⟩ : ∃ z,z = bump h11 18:=⟨_,rfl⟩
  have x12 : Ext h11 h12:=by rw [hh12];exact ext_bump hA _ _
  have t12:=t11.more x12
  obtain ⟨x1',y1',z1',w1',g1',r1'⟩:=t12.read (i:=j) (by omega) (by omega)
  obtain ⟨x2',y2',z2',w2',g2',r2'⟩:=t12.read (i:=j') (by omega) (by omega)
  rw [g1] at g1'
  rw [g2] at g2'
  cases g1'
  cases g2'
  have q1':=rd_ok hA r1'
  have q2':=rd_ok hA r2'
  obtain ⟨h13,h14,p1,p2,t14⟩:=dat_swap hA t12 (i:=j) (j:=j') (by omega) (by omega) (by omega) (by omega) g1 g2
  rw [← hh12]
  (refine zq ?_;repeat ((first | rw [e1]);refine zq ?_))
  refine ih j' h14 _ (by omega) (by omega) (by omega) t14 (hp.trans (PermOn.swap L (by omega) (by rw [t.len];exact ab) (by omega) (by omega) (by omega) (by omega))) ?_
  have:=hI.step leP_pre (by omega) (by rw [t.len];omega) cj j1 w
  rw [← hj'] at this
  exact this
theorem ins_outer {h0 : AHeap} (hlow : h0.low ≤ h0.next) {b n c : Nat} {L0 : List Pk} {A B : Int} (a0 : 0 ≤ A) (ab : B ≤ n) {Q : Exit → SS → Prop}
  (hQ : ∀ h' L e kn,Dat h0 h' b n L → PermOn A B L0 L → SortedOn leP L A B → Q (.exit 0) ⟨e,kn,[],h'⟩) :
  ∀ (m : Nat) (i : Int) (h : AHeap) (L : List Pk),(B - i).toNat ≤ m → A < i → Dat h0 h b n L → PermOn A B L0 L → SortedOn leP L A i →
   head 77 1 0 ⟨[(0,.slice (some ⟨b,0,none⟩) n c),(1,.int .i64 A),(2,.int .i64 B),(3,.func (.func 33) #[] #[]),(8,.int .i64 i)],0,[],h⟩ Q:=by
 intro m
 induction m with
 | zero =>
  intro i h L hm i0 t hp hs
  refine hA.roundR Tryz.func77 r77_ok (zc ?_)
  refine br (i < B) (by rw [e_lss hA]) (fun q => by omega) (fun _ => ?_) <;> refine zc ?_
  exact hQ _ _ _ _ t hp (fun p q p0 pq q1 => hs p q p0 pq (by omega))
 | succ m ih =>
  intro i h L hm i0 t hp hs
  have few:=t.few
  refine hA.roundR Tryz.func77 r77_ok (zc ?_)
  refine br (i < B) (by rw [e_lss hA]) (fun ci => ?_) (fun _ => ?_) <;> refine zc ?_
  rotate_left
  ·exact hQ _ _ _ _ t hp (fun p q p0 pq q1 => hs p q p0 pq (by omega))
  refine ins_inner hA hlow (L0:=L0) a0 ab i0 ci (fun h' L' kn t' hp' hs' => ?_) (i - A).toNat i h L (Nat.le_refl _) (by omega) (by omega) t hp (.start hs)
  refine zc ?_
  rw [add64 hA (by omega) (by omega)]
  exact ih (i + 1) h' L' (by omega) (by omega) t' hp' hs'
theorem ins_ok {h0 h : AHeap} (hlow : h0.low ≤ h0.next) {b n c : Nat} {L : List Pk} {A B : Int} (a0 : 0 ≤ A) (an : A ≤ n) (ab : B ≤ n) (t : Dat h0 h b n L) {Q : Value → AHeap → Prop}
  (hQ : ∀ h' L',Dat h0 h' b n L' → PermOn A B L L' → SortedOn leP L' A B → Q (.tuple #[]) h') : call 77 [.slice (some ⟨b,0,none⟩) n c,.int .i64 A,.int .i64 B,.func (.func 33) #[] #[]] h Q:=by
 have hlow':=hlow
 replace hlow:=t.ext.lowOK hlow
 have few:=t.few
 refine hA.bodyR Tryz.func77 r77_ok (hA.alike _ _ _ rfl) hlow (zc ?_)
 rw [add64 hA (by omega) (by omega)]
 refine ins_outer hA hlow' (L0:=L) a0 ab (fun h' L' e kn t' hp hs => ?_) (B - (A + 1)).toNat (A + 1) h L (Nat.le_refl _) (by omega) t (.refl _ _ _) (.one (by omega))
 refine zc ?_
 exact hQ h' L' t' hp hs
theorem len_ok {h : AHeap} (hlow : h.low ≤ h.next) {x : Int} (hx : u64 x) {Q : Value → AHeap → Prop} (hQ : ∀ n : Int,isLen x n → Q (.int .i64 n) h) : call 53 [.int .u64 x] h Q:=by
 refine hA.bodyR Tryz.func53 r53_ok (hA.alike _ _ _ rfl) hlow (zc ?_)
 refine len64_ok hA hlow hx (fun n hn => ⟨_,rfl,?_⟩)
 refine zc ?_
 exact hQ n hn
theorem pdq_few {h0 h : AHeap} (hlow : h0.low ≤ h0.next) {b n c : Nat} {L : List Pk} (hn : n ≤ 12) (t : Dat h0 h b n L) {k N : Int} (hN : N = n) {Q : Value → AHeap → Prop}
  (hQ : ∀ h' L',Dat h0 h' b n L' → PermOn 0 n L L' → SortedOn leP L' 0 n → Q (.tuple #[]) h') : call 52 [.slice (some ⟨b,0,none⟩) n c,.int .i64 0,.int .i64 N,.int .i64 k,.func (.func 33) #[] #[]] h Q:=by
 have hlow':=hlow
 replace hlow:=t.ext.lowOK hlow
 refine hA.bodyR Tryz.func52 r52_ok (hA.alike _ _ _ rfl) hlow (zc ?_)
 refine hA.roundR Tryz.func52 r52_ok (zc ?_)
 rw [show arith .sub .i64 N 0 = N by rw [sub64 hA (by omega) (by omega)];omega]
 refine br (N ≤ 12) (by rw [e_leq hA]) (fun _ => ?_) (fun q => by omega) <;> refine zc ?_
 refine ins_ok hA hlow' (by omega) (by omega) (by omega) t (fun h1 L1 t1 hp1 hs1 => ?_)
 refine zc ?_
 exact hQ _ _ t1 (hN ▸ hp1) (hN ▸ hs1)
theorem sort_few {h0 h : AHeap} (hlow : h0.low ≤ h0.next) {b n c : Nat} {L : List Pk} (hn : n ≤ 12) (t : Dat h0 h b n L) {Q : Value → AHeap → Prop}
  (hQ : ∀ h' L',Dat h0 h' b n L' → PermOn 0 n L L' → SortedOn leP L' 0 n → Q (.tuple #[]) h') : call 32 [.slice (some ⟨b,0,none⟩) n c,.func (.func 33) #[] #[]] h Q:=by
 have hlow':=hlow
 replace hlow:=t.ext.lowOK hlow
 refine hA.bodyR Tryz.func32 r32_ok (hA.alike _ _ _ rfl) hlow (zc ?_)
 rw [e_ofNat hA,convU hA (by omega) (by omega)]
 refine len_ok hA hlow (by unfold u64;omega) (fun k hk => ⟨_,rfl,?_⟩)
 refine zc ?_
 refine pdq_few hA hlow' hn t rfl (fun h' L' t' hp hs => ?_)
 refine zc ?_
 exact hQ h' L' t' hp hs
end Go.Proofs.YtkbgkjlgnmlghaaGreat
