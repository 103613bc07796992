import Derived.Test.YtogliemiljhliaaRdS
set_option linter.unusedSimpArgs false
set_option linter.unusedVariables false
namespace Go.Proofs.Ytogliemiljhliaa
open Go.Sim
set_option linter.unusedVariables false
set_option maxRecDepth 100000
structure El2 (h0 h : AHeap) (oa cp m n : Nat) (bs : Nat → Nat) (ba : Option Addr) (nb cb : Nat) (S : St) : Prop where
 mat : MatW fC 2 cp h0 h oa bs m (n + 1) (frM S)
 bnd : Apd h 1 ba nb cb ((S.bound.map Int.ofNat).flatMap iC)
 frm : From h0.next ba
 nbl : nb = S.bound.length
 bz : ∀ ad,ba = some ad → ad.block ≠ oa ∧ ∀ y,y < m → ad.block ≠ bs y
structure Fine (m n : Nat) (S : St) : Prop where
 lead : S.lead ≠ 0
 leadB : S.lead.natAbs ≤ 1000000000
 few : S.bound.length ≤ m
 small : ∀ i j,i < m → j ≤ n → (S.R i j).natAbs ≤ 1000000000
def Exact (m n : Nat) (S : St) (c : Nat) : Prop:=∀ k i,k = S.bound.length → k < m → pick S.R c (m - k) k = some i → ∀ y x,y < m → x ≤ n → y ≠ k → swp S.R k i k c * swp S.R k i y x - swp S.R k i y c * swp S.R k i k x = S.lead * clrF (swp S.R k i) k c S.lead y x
variable {F : Prims} {call head arith cmp scmp bnot bsame conv neg imax imin ofNat slen place inR nz geZ rd wr push next mkOK nat zeros sadd eqAgg cut slc sslc strAt part app cpy putAt fresh lowered bump wrote addN lt ne fpAll fpApp brk yn rng mget mput mnew bytes clr : _} (hA : AP F ⟨call,head,arith,cmp,scmp,bnot,bsame,conv,neg,imax,imin,ofNat,slen,place,inR,nz,geZ,rd,wr,push,next,mkOK,nat,zeros,sadd,eqAgg,cut,slc,sslc,strAt,part,app,cpy,putAt,fresh,lowered,bump,wrote,addN,lt,ne,fpAll,fpApp,brk,yn,rng,mget,mput,mnew,bytes,clr⟩)
include hA
set_option maxHeartbeats 1000000 in
theorem rred_loop {h0 : AHeap} (hlow : h0.low ≤ h0.next) {oa cp co m n : Nat} (m100 : m ≤ 100) (n100 : n < 100) {S0 : St} (hb : ∀ c,c ≤ n → Fine m n (run m S0 c)) (hx : ∀ c,c < n → Exact m n (run m S0 c) c) {N : Int} (eN : N = n) {k0 : List Value} {Q : Exit → SS → Prop}
  (hQ : ∀ h' bs ba nb cb,El2 h0 h' oa cp m n bs ba nb cb (run m S0 n) → Q (.exit 0) ⟨[(0,.slice (some ⟨oa,0,none⟩) m co),(2,.pointer (some ⟨0,0,some 0⟩)),(4,.pointer (some ⟨1,0,some 0⟩))],2,[(0,k0),(1,[.slice none 0 0,.slice ba nb cb])],h'⟩) :
  ∀ (d c k : Nat) (C K : Int) (h : AHeap) (bs : Nat → Nat) (ba : Option Addr) (nb cb : Nat),n - c = d → c ≤ n → C = c → k = (run m S0 c).bound.length → K = k → El2 h0 h oa cp m n bs ba nb cb (run m S0 c) →
   head 48 5 2 ⟨[(0,.slice (some ⟨oa,0,none⟩) m co),(2,.pointer (some ⟨0,0,some 0⟩)),(3,.int .i64 N),(4,.pointer (some ⟨1,0,some 0⟩)),(5,.int .i64 K),(6,.int .i64 C)],2,[(0,k0),(1,[.slice none 0 0,.slice ba nb cb])],h⟩ Q:=by
 intro d
 induction d with
 | zero =>
  intro c k C K h bs ba nb cb hd hc eC ek eK el
  have ecn : c = n:=by omega
  refine hA.roundR Try.func48 r48_ok (zc ?_)
  refine br (C < N) (by rw [e_lss hA]) (fun q => by omega) (fun _ => ?_) <;> refine zc ?_
  refine zq ?_
  rw [ecn] at el
  exact hQ h bs ba nb cb el
 | succ d ih =>
 intro c k C K h bs ba nb cb hd hc eC ek eK el
 have fine:=hb c hc
 have fine2:=hb (c + 1) (by omega)
 have exact_:=hx c (by omega)
 have hst : run m S0 (c + 1) = step m (run m S0 c) c:=rfl
 generalize hS : run m S0 c = S at *
 have hnb:=el.nbl
 refine hA.roundR Try.func48 r48_ok (zc ?_)
 refine br (C < N) (by rw [e_lss hA]) (fun _ => ?_) (fun q => by omega) <;> refine zc ?_
 refine zq ?_
 refine br (K < (m : Int)) (by rw [e_lss hA,e_ofNat hA]) (fun cK => ?_) (fun cK => ?_) <;> refine zc ?_
 rotate_left
 ·refine zq ?_
  have e:=run_full (m:=m) (S:=S0) (c:=c) (by rw [hS];omega) (n - c)
  rw [show c + (n - c) = n by omega,hS] at e
  exact hQ h bs ba nb cb (e ▸ el)
 refine zq ?_
 have hkm : k < m:=by omega
 refine find_loop hA el.mat (R:=S.R) (fun y hy => fr_num fine.lead) (c:=c) (by omega) (k:=k) (by omega) m100 eC (fun P eP => ?_) (m - k) k K (by omega) (by omega) (by omega) eK rfl
 unfold step at hst
 rw [if_pos (by omega),← ek] at hst
 refine zq ?_
 rw [e_ofNat hA]
 cases hp : pick S.R c (m - k) k with
 | none =>
  rw [hp] at hst
  have eP : P = m:=by rw [eP];unfold pickN;rw [hp]
  refine br (P = (m : Int)) (by rw [e_eql hA]) (fun _ => ?_) (fun q => absurd eP q) <;> refine zc ?_
  refine zq ?_
  rw [add64 hA (by omega) (by omega)]
  exact ih (c + 1) k (C + 1) K h bs ba nb cb (by omega) (by omega) (by omega) (by rw [hst];exact ek) eK (by rw [hst];exact el)
 | some i =>
 rw [hp] at hst
 simp only at hst
 obtain ⟨p1,p2,p3,_⟩:=pick_some hp
 have eP : P = i:=by rw [eP];unfold pickN;rw [hp]
 have ex:=exact_ k i ek hkm hp
 refine br (P = (m : Int)) (by rw [e_eql hA]) (fun q => by omega) (fun _ => ?_) <;> refine zc ?_
 have hsw : ∀ y,y < m → swN k i y < m:=fun y hy => by unfold swN;split <;> (try split) <;> omega
 obtain ⟨R',hR'⟩ : ∃ z,z = swp S.R k i:=⟨_,rfl⟩
 obtain ⟨p,hpv⟩ : ∃ z,z = R' k c:=⟨_,rfl⟩
 have hp0 : p ≠ 0:=by rw [hpv,hR'];show S.R (sw k i k) c ≠ 0;unfold sw;rw [if_pos rfl];exact p3
 have hRs : ∀ y x,y < m → x ≤ n → (R' y x).natAbs ≤ 1000000000:=fun y x hy hx => by rw [hR'];exact fine.small _ x (hsw y hy) hx
 rw [← hR'] at hst ex
 rw [← hpv] at hst ex
 obtain ⟨v1,v2,v3,v4⟩:=step_vals (R:=R') (lead:=S.lead) (p:=p) (m:=m) (n:=n) (k:=k) (c:=c) fine.lead hp0 hpv hkm (by omega) fine.leadB hRs (fun y x hy hx => by have:=fine2.small y x hy hx;rw [hst] at this;exact this) ex
 have pb : p.natAbs ≤ 1000000000:=by rw [hpv];exact hRs k c hkm (by omega)
 obtain ⟨h9,hh9⟩ : ∃ z,z = bump h 16:=⟨_,rfl⟩
 have x9 : Ext h h9:=by rw [hh9];exact ext_bump hA _ _
 have M9:=el.mat.more x9
 have z1 : rd h9 oa (place 0 P 1) 1 [.slice (some ⟨bs i,0,none⟩) (n + 1) cp]:=rd_ok hA (by rw [eP];exact M9.head (by omega))
 have z2 : rd h9 oa (place 0 K 1) 1 [.slice (some ⟨bs k,0,none⟩) (n + 1) cp]:=rd_ok hA (by rw [eK];exact M9.head (by omega))
 obtain ⟨h1,h2,w1,w2,M2,n2,g2⟩:=M9.swap (a:=k) (b:=i) (by omega) (by omega)
 have w1 : wr h9 oa (place 0 K 1) [.slice (some ⟨bs i,0,none⟩) (n + 1) cp] h1:=wr_ok hA (by rw [eK];exact w1)
 have w2 : wr h1 oa (place 0 P 1) [.slice (some ⟨bs k,0,none⟩) (n + 1) cp] h2:=wr_ok hA (by rw [eP];exact w2)
 obtain ⟨rb,hrb⟩ : ∃ z,z = bs (swN k i k):=⟨_,rfl⟩
 have z3 : rd h2 oa (place 0 K 1) 1 [.slice (some ⟨rb,0,none⟩) (n + 1) cp]:=rd_ok hA (by rw [eK,hrb];exact M2.head hkm)
 obtain ⟨bn,bd,hb⟩ : ∃ x y,fr p S.lead = ⟨x,y⟩:=⟨_,_,rfl⟩
 have z4 : rd h2 rb (place 0 C 2) 2 [.int .i64 bn,.int .i64 bd]:=rd_ok hA (by
  rw [eC,hrb]
  have:=M2.el hkm (x:=c) (by omega)
  have e : frM S (swN k i k) c = ⟨bn,bd⟩:=by rw [← hb,hpv,hR'];rfl
  rw [e] at this
  exact this)
 have hbF:=fr_is (a:=p) (b:=S.lead) (by omega) (by have:=fine.leadB;omega) fine.lead
 rw [hb] at hbF
 have bn0 : bn ≠ 0:=fun q => hp0 ((fr_num fine.lead).1 (by rw [hb];exact q))
 refine zq ?_
 rw [← hh9]
 refine zq ?_
 refine div_loop hA hlow (f:=fun y => frM S (swN k i y)) (q:=fun x => rq (R' k x) S.lead) (b:=rq p S.lead) hkm m100 n100 (fun x hx => ?_) hbF bn0 (fun x hx => ?_) eN eK (fun h3 M3 st3 => ?_) (n + 1) 0 0 h2 (by omega) (by omega) rfl (M2.congr (fun y x hy hx => by unfold rowG;rw [if_neg (by omega)])) (.refl _ _ _)
 ·have e : frM S (swN k i k) x = fr (R' k x) S.lead:=by rw [hR'];rfl
  simp only [e]
  exact fr_is (by have:=hRs k x hkm hx;omega) (by have:=fine.leadB;omega) fine.lead
 ·rw [rq_over fine.lead hp0]
  exact fits_rq (by have:=hRs k x hkm hx;omega) (by omega) hp0
 have M3:=M3.congr (g:=divF R' S.lead p k) (fun y x hy hx => by
  unfold rowG divF
  by_cases e : y = k
  ·rw [if_pos ⟨e,hx⟩,if_pos e]
   show ofQ (rq (R' k x) S.lead / rq p S.lead) = _
   rw [rq_over fine.lead hp0,ofQ_rq]
  ·rw [if_neg (fun q => e q.1),if_neg e,hR'];rfl)
 refine zq ?_
 have hku : ∀ x,x ≤ n → isF (divF R' S.lead p k k x).n (divF R' S.lead p k k x).d (rq (R' k x) p):=fun x hx => by
  have:=v1 k x hkm hx
  unfold vRow at this
  rw [if_pos rfl] at this
  exact this
 refine rows_elim hA hlow (f:=divF R' S.lead p k) (u:=fun x => rq (R' k x) p) (v:=vRow R' S.lead p k) hkm (c:=c) (by omega) m100 n100 hku v1 v2 v3 eC eN eK (fun h4 M4 st4 => ?_) m 0 0 h3 (by omega) (by omega) rfl (M3.congr (fun y x hy hx => by unfold elimF;rw [if_neg (fun q => by omega)])) st3
 have M4:=M4.congr (fun y x hy hx => v4 y x hy (by omega))
 refine zq ?_
 have nx2 : h.next ≤ h2.next:=by rw [n2];exact x9.next
 have nx4:=st4.next
 have bnd4 : Apd h4 1 ba nb cb ((S.bound.map Int.ofNat).flatMap iC):=el.bnd.of_get (by omega) (fun ad had hl' => by
  obtain ⟨q1,q2⟩:=el.bz ad had
  rw [st4.get _ (by omega) (fun y hy => q2 _ (hsw y hy)),g2 _ q1,x9.get _ hl'])
 have nbm:=fine.few
 refine appK_ok hA TI iC_len (by omega) iC_ok (v:=C) bnd4 (by omega) (fun bb h5 a5 x5 n5 l5 k5 => ?_)
 generalize someCap 1 (nb + 1) = cb' at *
 obtain ⟨nb',hnb'⟩ : ∃ z,z = nb + 1:=⟨_,rfl⟩
 rw [← hnb'] at a5 ⊢
 have e5 : Ext h0 h5:=x5 h0 M4.ext el.frm
 have M5:=M4.keep e5 (by omega) (k5 _ M4.lto (fun ad had => (el.bz ad had).1)) (fun y hy => k5 _ (M4.ltr y hy) (fun ad had => (el.bz ad had).2 _ (hsw y hy)))
 refine zc ?_
 rw [add64 hA (by omega) (by omega),add64 hA (by omega) (by omega)]
 have lt4:=M4.lto
 have ltr4:=M4.ltr
 have he0:=M4.ext.next
 refine ih (c + 1) (k + 1) (C + 1) (K + 1) h5 (fun y => bs (swN k i y)) (some ⟨bb,0,none⟩) nb' cb' (by omega) (by omega) (by omega) (by rw [hst,List.length_append];simp only [List.length_singleton];omega) (by omega) ?_
 rw [hst]
 refine ⟨M5,?_,fun ad had => by cases had;simp only;omega,by simp only [List.length_append,List.length_singleton];omega,fun ad had => ?_⟩
 ·have e1 : (S.bound ++ [c]).map Int.ofNat = S.bound.map Int.ofNat ++ [C]:=by rw [List.map_append,eC];rfl
  simp only []
  rw [e1]
  exact a5
 ·cases had
  simp only
  exact ⟨by omega,fun y hy => by have:=ltr4 y hy;omega⟩
theorem rreduce_ok {h : AHeap} (hlow : h.low ≤ h.next) {oa cp co m n : Nat} {bs : Nat → Nat} {S : St} {hs : AHeap} (t : MatW fC 2 cp hs h oa bs m (n + 1) (frM S)) (hl0 : hs.low ≤ hs.next) (m1 : 0 < m) (m100 : m ≤ 100) (n100 : n < 100) (hS : S.bound = []) (hb : ∀ c,c ≤ n → Fine m n (run m S c)) (hx : ∀ c,c < n → Exact m n (run m S c) c) {Q : Value → AHeap → Prop}
  (hQ : ∀ h' bs' ba nb cb,MatW fC 2 cp hs h' oa bs' m (n + 1) (frM (run m S n)) → Is h' ba nb ((run m S n).bound.map Int.ofNat) → Q (.agg #[.slice (some ⟨oa,0,none⟩) m co,.slice ba nb cb]) h') : call 48 [.slice (some ⟨oa,0,none⟩) m co] h Q:=by
 have z1 : rd h oa (place 0 0 1) 1 [.slice (some ⟨bs 0,0,none⟩) (n + 1) cp]:=rd_ok hA (t.head m1)
 obtain ⟨N1,eN1⟩ : ∃ z : Int,z = (n + 1 : Nat):=⟨_,rfl⟩
 obtain ⟨n1,en1⟩ : ∃ z : Nat,z = n + 1:=⟨_,rfl⟩
 rw [← en1] at z1
 have e1 : ofNat n1 = N1:=by rw [e_ofNat hA];omega
 obtain ⟨N,eN⟩ : ∃ z : Int,z = n:=⟨_,rfl⟩
 have e2 : arith .sub .i64 N1 1 = N:=by rw [sub64 hA (by omega) (by omega)];omega
 refine hA.bodyR Try.func48 r48_ok (hA.alike _ _ _ rfl) hlow (zc ?_)
 (refine zq ?_;repeat ((first | rw [e1] | rw [e2]);refine zq ?_))
 refine rred_loop hA hl0 m100 n100 hb hx eN (fun h' bs' ba nb cb el => ?_) n 0 0 0 0 h bs none 0 0 (by omega) (by omega) rfl (by show 0 = S.bound.length;rw [hS];rfl) rfl ⟨t,by show Apd h 1 none 0 0 ((S.bound.map Int.ofNat).flatMap iC);rw [hS];exact .nil _ _,.none _,by show 0 = S.bound.length;rw [hS];rfl,fun ad e => by cases e⟩
 refine zc ?_
 refine hQ h' bs' ba nb cb el.mat ⟨el.bnd.cells,iC_len,by omega⟩
end Go.Proofs.Ytogliemiljhliaa
