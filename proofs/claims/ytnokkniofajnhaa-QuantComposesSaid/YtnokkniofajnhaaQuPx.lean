import Derived.Test.YtnokkniofajnhaaQuPu
import Derived.Test.YtnokkniofajnhaaSymApp3
set_option linter.unusedSimpArgs false
set_option linter.unusedVariables false
namespace Go.Proofs.Ytnokkniofajnhaa
open Go.Sim
set_option maxRecDepth 100000
def okX (O : List Kr) : Prop:=∀ i : Int,0 ≤ i → i < O.length → okF (gt O i).xn (gt O i).xd
variable {F : Prims} {call head a0 c0 d0 e0 f0 i0 k0 l0 m0 n0 o0 place p0 nz q0 rd wr push next r0 nat s0 t0 u0 v0 w0 x0 y0 z0 a1 d1 putAt f1 lowered bump l1 addN lt ne m1 n1 o1 yn p1 s1 t1 u1 v1 w1 : _} (hA : AP F ⟨call,head,a0,c0,d0,e0,f0,i0,k0,l0,m0,n0,o0,place,p0,nz,q0,rd,wr,push,next,r0,nat,s0,t0,u0,v0,w0,x0,y0,z0,a1,d1,putAt,f1,lowered,bump,l1,addN,lt,ne,m1,n1,o1,yn,p1,s1,t1,u1,v1,w1⟩)
include hA
theorem put_loop {h0 : AHeap} (hlow : h0.low ≤ h0.next) {a : Option Addr} {n c : Nat} {O : List Kr} (hl : Ks h0 a n O) (hi : allI64 O) (hO : okX O) (hn : n ≤ 10000) {k : Kr} (hk : okF k.xn k.xd) {Q : Exit → SS → Prop}
  (hok : ∀ h' p,PlaceIs O k p → Ext h0 h' → Q (.exit 0) ⟨[(0,.slice a n c),(3,.pointer (some ⟨0,0,some 0⟩)),(5,.int .i64 (p : Nat))],15,[(0,k.cells)],h'⟩) :
  ∀ (m i : Nat) (h : AHeap),n - i ≤ m → i ≤ n → (∀ j : Int,0 ≤ j → j < i → rq (gt O j).xn (gt O j).xd < rq k.xn k.xd) → Ext h0 h →
   head 40 2 1 ⟨[(0,.slice a n c),(3,.pointer (some ⟨0,0,some 0⟩)),(5,.int .i64 i)],1,[(0,k.cells)],h⟩ Q:=by
 have lO:=hl.len
 obtain ⟨kxn,kxd,kyn,kyd⟩:=k
 intro m
 induction m with
 | zero =>
  intro i h hm i1 hj he
  obtain ⟨I,hI⟩ : ∃ z : Int,z = i:=⟨_,rfl⟩
  have fin:=fun hh => hok hh i ⟨by omega,hj,fun q => by omega⟩
  rw [← hI] at fin ⊢
  refine hA.roundR Try.func40 r40_ok (zc ?_)
  refine br (I < n) (by rw [e_lss hA,e_ofNat hA]) (fun q => by omega) (fun _ => ?_) <;> refine zc ?_
  exact fin _ (he.trans (ext_bump hA _ _))
 | succ m ih =>
 intro i h hm i1 hj he
 obtain ⟨I,hI⟩ : ∃ z : Int,z = i:=⟨_,rfl⟩
 have fin:=fun hh w => hok hh i ⟨by omega,hj,w⟩
 rw [← hI] at fin ⊢
 by_cases ci : I < n
 rotate_left
 ·refine hA.roundR Try.func40 r40_ok (zc ?_)
  refine br (I < n) (by rw [e_lss hA,e_ofNat hA]) (fun q => by omega) (fun _ => ?_) <;> refine zc ?_
  exact fin _ (fun q => by omega) (he.trans (ext_bump hA _ _))
 obtain ⟨h9,hh9⟩ : ∃ z,z = bump h 14:=⟨_,rfl⟩
 have x9 : Ext h h9:=by rw [hh9];exact ext_bump hA _ _
 have e9:=he.trans x9
 have l9:=e9.lowOK hlow
 obtain ⟨b,o,x,y,z,w,rfl,_,hg,_,_,_,_,_,r1,_⟩:=ks_at (hl.ext e9) hi (i:=I) (by omega) ci
 have q1:=rd_fld hA r1
 replace q1 : rd h9 b (addN (place o I 4) 0) 2 [.int .i64 x,.int .i64 y]:=q1
 have kO:=(hO I (by omega) (by omega)).is
 rw [hg] at kO
 have kk:=hk.is
 refine hA.roundR Try.func40 r40_ok (zc ?_)
 refine br (I < n) (by rw [e_lss hA,e_ofNat hA]) (fun _ => ?_) (fun q => absurd ci q) <;> refine zc ?_
 rw [← hh9]
 refine zq ?_
 refine qless_ok hA (low_fresh hA h9) kO kk (fun r hz k1 ez => ⟨_,rfl,?_⟩)
 obtain ⟨hX,hhX⟩ : ∃ z,z = lowered h9 hz:=⟨_,rfl⟩
 have eX : Ext h9 hX:=by rw [hhX];exact ext_low hA l9 (.refl h9) ez
 refine zc ?_
 rw [← hhX]
 cases r with
 | false =>
  refine zc ?_
  exact fin _ (fun _ q => by rw [hg] at q;have:=k1.2 q;cases this) (e9.trans eX)
 | true =>
 refine zc ?_
 rw [add64 hA (by omega) (by omega),show I + 1 = ((i + 1 : Nat) : Int) by omega]
 refine ih (i + 1) hX (by omega) (by omega) (fun j j0 j1 => ?_) (e9.trans eX)
 by_cases e : j = i
 ·rw [show gt O j = gt O I by rw [e,hI],hg];exact k1.1 rfl
 ·exact hj j j0 (by omega)
theorem put_ok {h : AHeap} (hlow : h.low ≤ h.next) {a : Option Addr} {n c : Nat} {O : List Kr} (hl : Ks h a n O) (hi : allI64 O) (hO : okX O) (hn : n ≤ 10000) (hc : c = someCap 4 n ∨ (n = 0 ∧ a = none ∧ c = 0)) {k : Kr} (hk : okF k.xn k.xd) {Q : Value → AHeap → Prop}
  (hQ : ∀ h' a' n' c' O' p,PlaceIs O k p → (p < O.length ∧ gt O p = k ∧ O' = O) ∨ ((p < O.length → gt O p ≠ k) ∧ O' = O.take p ++ k :: O.drop p) → Ks h' a' n' O' → c' = someCap 4 n' → Ext h h' → Q (.slice a' n' c') h') :
  call 40 [.slice a n c,.agg #[.int .i64 k.xn,.int .i64 k.xd,.int .i64 k.yn,.int .i64 k.yd]] h Q:=by
 have lO:=hl.len
 refine hA.bodyR Try.func40 r40_ok (hA.alike _ _ _ rfl) hlow (zc ?_)
 refine put_loop hA hlow hl hi hO hn hk (fun h1 p pl x1 => ?_) n 0 h (by omega) (by omega) (fun j j0 j1 => by omega) (.refl h)
 obtain ⟨kxn,kxd,kyn,kyd⟩:=k
 obtain ⟨P,hP⟩ : ∃ z : Int,z = p:=⟨_,rfl⟩
 rw [← hP]
 have lp:=pl.le
 by_cases cp : P < n
 rotate_left
 ·have no : p < O.length → gt O p ≠ ⟨kxn,kxd,kyn,kyd⟩:=fun q => by omega
  refine zc ?_
  refine br (P < n) (by rw [e_lss hA,e_ofNat hA]) (fun q => absurd q cp) (fun _ => ?_) <;> refine zc ?_
  have hcl : capLow c = n:=by
   rcases hc with w | ⟨w,_,w'⟩
   ·rw [w];exact capLow_some (by unfold slack;omega)
   ·rw [w',w];rfl
  refine ⟨by rw [e_cut hA,hcl];exact ⟨by omega,by omega⟩,?_⟩
  refine zc ?_
  obtain ⟨g1,hg1⟩ : ∃ z,z = bump h1 12:=⟨_,rfl⟩
  have xg : Ext h1 g1:=by rw [hg1];exact ext_bump hA _ _
  have yg:=x1.trans xg
  rw [← hg1,show nat P = p by rw [e_nat hA];omega]
  have og:=Own.push g1 4 []
  have xp : Ext g1 (g1.push 4 []):=.push _ _ _
  have lg : g1.next < (g1.push 4 []).next:=by simp [AHeap.push]
  rw [e_push hA,e_next hA]
  generalize g1.push 4 [] = g2 at *
  obtain ⟨b0,hb0⟩ : ∃ z,z = g1.next:=⟨_,rfl⟩
  rw [← hb0] at og lg ⊢
  have y2:=yg.trans xp
  have cc:=(hl.ext y2).cells
  have cl:=cc.head (m:=p) (by omega)
  rw [flat_takeN kr_len] at cl
  obtain ⟨b1,c1,g3,e1,o3,n3,b31,k3,e3⟩:=append_any3 T22 T22.und ⟨og,lg,rfl,.inl ⟨rfl,rfl⟩⟩ (Feed.of c cl) rfl (all_flat kr_ok _) (by omega)
  rw [Nat.zero_add] at e1 o3
  rw [List.nil_append] at o3
  refine zc ?_
  refine app_ok hA e1 ?_
  obtain ⟨x3,f3⟩:=e3 h y2 (by have:=yg.next;omega)
  refine zc ?_
  rw [hP]
  refine slc_from hA T22 (h:=h) (by omega) hc hl.cells (by omega) (fun a9 c9 fd => ?_)
  rw [flat_dropN kr_len] at fd
  obtain ⟨g4,hg4⟩ : ∃ z,z = bump g3 9:=⟨_,rfl⟩
  have x4 : Ext g3 g4:=by rw [hg4];exact ext_bump hA _ _
  have n4 : g4.next = g3.next + 9:=by rw [hg4,e_bump hA];rfl
  have o4 : Own2 g4 4 b1 p c1 ((O.take p).flatMap Kr.cells):=⟨o3.1.ext x4 o3.2.1,Nat.lt_of_lt_of_le o3.2.1 x4.next,o3.2.2.1,o3.2.2.2⟩
  obtain ⟨ii,hii⟩ : ∃ z,z = addN (next g3) 2:=⟨_,rfl⟩
  have ni : ii = g3.next + 2:=by rw [hii,e_addN hA,e_next hA]
  have yx:=x3.trans x4
  obtain ⟨nn,hnn⟩ : ∃ z,z = n - p:=⟨_,rfl⟩
  rw [← hnn] at fd ⊢
  refine zc ?_
  rw [← hg4,← hii]
  refine appFD_ok hA T22 (α:=Kr) (enc:=Kr.cells) kr_len kr_ok (v:=⟨kxn,kxd,kyn,kyd⟩) (by omega) o4 (by have:=o3.2.1;omega) (by omega) (fun b5 c5 h5 o5 n5 b51 k5 e5 => ?_)
  obtain ⟨x5,f5⟩:=e5 h yx hlow (by have:=x3.next;omega) f3
  obtain ⟨gX,hgX⟩ : ∃ z,z = putAt g4 ii 4 [.int .i64 kxn,.int .i64 kxd,.int .i64 kyn,.int .i64 kyd]:=⟨_,rfl⟩
  obtain ⟨g5,hg5⟩ : ∃ z,z = lowered gX h5:=⟨_,rfl⟩
  have cK : Kr.cells ⟨kxn,kxd,kyn,kyd⟩ = [.int .i64 kxn,.int .i64 kxd,.int .i64 kyn,.int .i64 kyd]:=rfl
  rw [cK,← hgX,← hg5] at o5 n5 k5 x5
  rw [← hgX]
  obtain ⟨q,hq⟩ : ∃ z,z = p + 1:=⟨_,rfl⟩
  rw [← hq] at o5 ⊢
  refine zc ?_
  rw [← hg5] at *
  have fd5:=fd g5.freshed (x5.trans (Ext.freshed _))
  refine appFE_ok hA T22 o5 (all_flat kr_ok _) fd5 (all_flat kr_ok _) (by omega) (fun b6 c6 h6 o6 b61 e6 => ?_)
  obtain ⟨x6,f6⟩:=e6 h x5 hlow (by omega)
  obtain ⟨g6,hg6⟩ : ∃ z,z = lowered g5 h6:=⟨_,rfl⟩
  rw [← hg6] at o6 x6
  obtain ⟨q2,hq2⟩ : ∃ z,z = q + nn:=⟨_,rfl⟩
  rw [← hq2] at o6 ⊢
  refine zc ?_
  rw [← hg6]
  refine hQ g6 (some ⟨b6,0,none⟩) q2 c6 _ p pl (.inr ⟨no,rfl⟩) ?_ ?_ x6
  ·have eL : (O.take p ++ [(⟨kxn,kxd,kyn,kyd⟩ : Kr)]).flatMap Kr.cells ++ (O.drop p).flatMap Kr.cells = (O.take p ++ (⟨kxn,kxd,kyn,kyd⟩ : Kr) :: O.drop p).flatMap Kr.cells:=by simp
   rw [eL] at o6
   have:=Own.rows o6.1 kr_len (by omega) o6.2.1
   rw [ins_len O _ lp] at this
   rw [show q2 = O.length + 1 by omega]
   exact this
  ·rcases o6.2.2.2 with ⟨_,w⟩ | w
   ·omega
   ·exact w
 obtain ⟨g0,hg0⟩ : ∃ z,z = bump h1 12:=⟨_,rfl⟩
 have xz : Ext h1 g0:=by rw [hg0];exact ext_bump hA _ _
 obtain ⟨b,o,x,y,z,w,rfl,_,hg,_,_,_,_,r1,_,_⟩:=ks_at (hl.ext (x1.trans xz)) hi (i:=P) (by omega) cp
 have q1:=rd_ok hA r1
 obtain ⟨r,hr1,hr2⟩:=eqK x y z w kxn kxd kyn kyd
 refine zc ?_
 refine br (P < n) (by rw [e_lss hA,e_ofNat hA]) (fun _ => ?_) (fun q => absurd cp q) <;> refine zc ?_
 rw [← hg0]
 refine zq ?_
 rw [e_eqAgg hA]
 refine ⟨guardK,r,hr1,?_⟩
 cases r with
 | true =>
  obtain ⟨⟨rfl,rfl⟩,rfl,rfl⟩:=hr2.1 rfl
  refine zc ?_
  refine hQ g0 _ n c O p pl (.inl ⟨by omega,by rw [← hP];exact hg,rfl⟩) (hl.ext (x1.trans xz)) ?_ (x1.trans xz)
  rcases hc with w | ⟨w,_⟩
  ·exact w
  ·omega
 | false =>
 have no : p < O.length → gt O p ≠ ⟨kxn,kxd,kyn,kyd⟩:=fun _ q => by
  rw [← hP,hg] at q
  cases q
  have:=hr2.2 ⟨⟨rfl,rfl⟩,rfl,rfl⟩
  cases this
 rw [hg0]
 clear hr1 hr2
 refine zc ?_
 have hcl : capLow c = n:=by
  rcases hc with w | ⟨w,_,w'⟩
  ·rw [w];exact capLow_some (by unfold slack;omega)
  ·rw [w',w];rfl
 refine ⟨by rw [e_cut hA,hcl];exact ⟨by omega,by omega⟩,?_⟩
 refine zc ?_
 obtain ⟨g1,hg1⟩ : ∃ z,z = bump h1 12:=⟨_,rfl⟩
 have xg : Ext h1 g1:=by rw [hg1];exact ext_bump hA _ _
 have yg:=x1.trans xg
 rw [← hg1,show nat P = p by rw [e_nat hA];omega]
 have og:=Own.push g1 4 []
 have xp : Ext g1 (g1.push 4 []):=.push _ _ _
 have lg : g1.next < (g1.push 4 []).next:=by simp [AHeap.push]
 rw [e_push hA,e_next hA]
 generalize g1.push 4 [] = g2 at *
 obtain ⟨b0,hb0⟩ : ∃ z,z = g1.next:=⟨_,rfl⟩
 rw [← hb0] at og lg ⊢
 have y2:=yg.trans xp
 have cc:=(hl.ext y2).cells
 have cl:=cc.head (m:=p) (by omega)
 rw [flat_takeN kr_len] at cl
 obtain ⟨b1,c1,g3,e1,o3,n3,b31,k3,e3⟩:=append_any3 T22 T22.und ⟨og,lg,rfl,.inl ⟨rfl,rfl⟩⟩ (Feed.of c cl) rfl (all_flat kr_ok _) (by omega)
 rw [Nat.zero_add] at e1 o3
 rw [List.nil_append] at o3
 refine zc ?_
 refine app_ok hA e1 ?_
 obtain ⟨x3,f3⟩:=e3 h y2 (by have:=yg.next;omega)
 refine zc ?_
 rw [hP]
 refine slc_from hA T22 (h:=h) (by omega) hc hl.cells (by omega) (fun a9 c9 fd => ?_)
 rw [flat_dropN kr_len] at fd
 obtain ⟨g4,hg4⟩ : ∃ z,z = bump g3 9:=⟨_,rfl⟩
 have x4 : Ext g3 g4:=by rw [hg4];exact ext_bump hA _ _
 have n4 : g4.next = g3.next + 9:=by rw [hg4,e_bump hA];rfl
 have o4 : Own2 g4 4 b1 p c1 ((O.take p).flatMap Kr.cells):=⟨o3.1.ext x4 o3.2.1,Nat.lt_of_lt_of_le o3.2.1 x4.next,o3.2.2.1,o3.2.2.2⟩
 obtain ⟨ii,hii⟩ : ∃ z,z = addN (next g3) 2:=⟨_,rfl⟩
 have ni : ii = g3.next + 2:=by rw [hii,e_addN hA,e_next hA]
 have yx:=x3.trans x4
 obtain ⟨nn,hnn⟩ : ∃ z,z = n - p:=⟨_,rfl⟩
 rw [← hnn] at fd ⊢
 refine zc ?_
 rw [← hg4,← hii]
 refine appFD_ok hA T22 (α:=Kr) (enc:=Kr.cells) kr_len kr_ok (v:=⟨kxn,kxd,kyn,kyd⟩) (by omega) o4 (by have:=o3.2.1;omega) (by omega) (fun b5 c5 h5 o5 n5 b51 k5 e5 => ?_)
 obtain ⟨x5,f5⟩:=e5 h yx hlow (by have:=x3.next;omega) f3
 obtain ⟨gX,hgX⟩ : ∃ z,z = putAt g4 ii 4 [.int .i64 kxn,.int .i64 kxd,.int .i64 kyn,.int .i64 kyd]:=⟨_,rfl⟩
 obtain ⟨g5,hg5⟩ : ∃ z,z = lowered gX h5:=⟨_,rfl⟩
 have cK : Kr.cells ⟨kxn,kxd,kyn,kyd⟩ = [.int .i64 kxn,.int .i64 kxd,.int .i64 kyn,.int .i64 kyd]:=rfl
 rw [cK,← hgX,← hg5] at o5 n5 k5 x5
 rw [← hgX]
 obtain ⟨q,hq⟩ : ∃ z,z = p + 1:=⟨_,rfl⟩
 rw [← hq] at o5 ⊢
 refine zc ?_
 rw [← hg5] at *
 have fd5:=fd g5.freshed (x5.trans (Ext.freshed _))
 refine appFE_ok hA T22 o5 (all_flat kr_ok _) fd5 (all_flat kr_ok _) (by omega) (fun b6 c6 h6 o6 b61 e6 => ?_)
 obtain ⟨x6,f6⟩:=e6 h x5 hlow (by omega)
 obtain ⟨g6,hg6⟩ : ∃ z,z = lowered g5 h6:=⟨_,rfl⟩
 rw [← hg6] at o6 x6
 obtain ⟨q2,hq2⟩ : ∃ z,z = q + nn:=⟨_,rfl⟩
 rw [← hq2] at o6 ⊢
 refine zc ?_
 rw [← hg6]
 refine hQ g6 (some ⟨b6,0,none⟩) q2 c6 _ p pl (.inr ⟨no,rfl⟩) ?_ ?_ x6
 ·have eL : (O.take p ++ [(⟨kxn,kxd,kyn,kyd⟩ : Kr)]).flatMap Kr.cells ++ (O.drop p).flatMap Kr.cells = (O.take p ++ (⟨kxn,kxd,kyn,kyd⟩ : Kr) :: O.drop p).flatMap Kr.cells:=by simp
  rw [eL] at o6
  have:=Own.rows o6.1 kr_len (by omega) o6.2.1
  rw [ins_len O _ lp] at this
  rw [show q2 = O.length + 1 by omega]
  exact this
 ·rcases o6.2.2.2 with ⟨_,w⟩ | w
  ·omega
  ·exact w
