import Derived.Test.YtcdoknkgbnaefaaThR
import Derived.Test.YtcdoknkgbnaefaaSrtSo
set_option linter.unusedSimpArgs false
set_option linter.unusedVariables false
namespace Go.Proofs.Ytcdoknkgbnaefaa
open Go.Sim
set_option linter.unusedVariables false
set_option maxRecDepth 100000
theorem flat_iC (l : List Int) : l.flatMap iC = l.map (.int .i64):=by
 induction l with
 | nil => rfl
 | cons a l ih => rw [List.flatMap_cons,ih];rfl
theorem max_sz (x : Int) : (if -x > x then -x else x) = sz x:=by unfold sz;split <;> split <;> omega
theorem gt_map_sz {l : List Int} {j : Int} (j0 : 0 ≤ j) (j1 : j < l.length) : gt (l.map sz) j = sz (gt l j):=by
 unfold gt
 rw [List.getD_eq_getElem?_getD,List.getD_eq_getElem?_getD,List.getElem?_map,List.getElem?_eq_getElem (by omega)];rfl
theorem list_ext {L M : List Int} {n : Nat} (h1 : L.length = n) (h2 : M.length = n) (h : ∀ j : Int,0 ≤ j → j < n → gt L j = gt M j) : L = M:=by
 refine List.ext_getElem (by omega) (fun j j0 j1 => ?_)
 have:=h j (by omega) (by omega)
 unfold gt at this
 rwa [Int.toNat_natCast,List.getD_eq_getElem?_getD,List.getD_eq_getElem?_getD,List.getElem?_eq_getElem j0,List.getElem?_eq_getElem j1] at this
variable {F : Prims} {call head arith cmp scmp bnot bsame conv neg imax imin ofNat slen place inR nz geZ rd wr push next mkOK nat zeros sadd eqAgg cut slc sslc strAt part app cpy putAt fresh lowered bump wrote addN lt ne fpAll fpApp brk yn rng mget mput mnew bytes clr : _} (hA : AP F ⟨call,head,arith,cmp,scmp,bnot,bsame,conv,neg,imax,imin,ofNat,slen,place,inR,nz,geZ,rd,wr,push,next,mkOK,nat,zeros,sadd,eqAgg,cut,slc,sslc,strAt,part,app,cpy,putAt,fresh,lowered,bump,wrote,addN,lt,ne,fpAll,fpApp,brk,yn,rng,mget,mput,mnew,bytes,clr⟩)
include hA
theorem sizes_loop {h0 : AHeap} (hlow : h0.low ≤ h0.next) {a : Option Addr} {n c : Nat} {l : List Int} (hs : Ints h0 .i64 a n l) (hlev : l.all lev = true) {b cc : Nat} {K : List (Nat × List Value)} {Q : Exit → SS → Prop}
  (hok : ∀ h',DatI h0 h' b n (l.map sz) → Q (.exit 0) ⟨[(3,.pointer (some ⟨0,0,some 0⟩)),(7,.slice (some ⟨b,0,none⟩) n cc)],1,K,h'⟩) :
  ∀ (m : Nat) (i : Int) (h : AHeap) (L : List Int),(n - i).toNat ≤ m → 0 ≤ i → i ≤ n → DatI h0 h b n L → (∀ j : Int,0 ≤ j → j < i → gt L j = sz (gt l j)) → head 27 8 1 ⟨[(3,.pointer (some ⟨0,0,some 0⟩)),(7,.slice (some ⟨b,0,none⟩) n cc),(39,.slice a n c),(40,.int .i64 (ofNat n)),(41,.int .i64 i)],1,K,h⟩ Q:=by
 have hl:=hs.len
 intro m
 have done : ∀ (i : Int) (h : AHeap) (L : List Int),(n : Int) ≤ i → DatI h0 h b n L → (∀ j : Int,0 ≤ j → j < i → gt L j = sz (gt l j)) → Q (.exit 0) ⟨[(3,.pointer (some ⟨0,0,some 0⟩)),(7,.slice (some ⟨b,0,none⟩) n cc)],1,K,h⟩:=fun i h L hi t hj => by
  have e : L = l.map sz:=list_ext t.len (by rw [List.length_map,hl]) (fun j j0 j1 => by rw [hj j j0 (by omega),gt_map_sz j0 (by omega)])
  rw [e] at t
  exact hok h t
 induction m with
 | zero =>
  intro i h L hm i0 i1 t hj
  refine hA.roundR Try.func27 r27_ok (zc ?_)
  refine br (i < n) (by rw [e_lss hA,e_ofNat hA]) (fun q => by omega) (fun q => ?_) <;> refine zc ?_
  exact done i h L (by omega) t hj
 | succ m ih =>
 intro i h L hm i0 i1 t hj
 have few:=t.few
 have lL:=t.len
 refine hA.roundR Try.func27 r27_ok (zc ?_)
 refine br (i < n) (by rw [e_lss hA,e_ofNat hA]) (fun ci => ?_) (fun q => ?_) <;> refine zc ?_
 rotate_left
 ·exact done i h L (by omega) t hj
 obtain ⟨b1,o1,x,rfl,hb1,hx,hr⟩:=(hs.ext t.ext).atI i0 ci
 have hm':=at'_mem l i0 (by omega)
 rw [← hx] at hm'
 obtain ⟨y0,y1⟩:=lev_of hlev hm'
 rw [← gt_at'] at hx
 have rr:=rd_ok hA hr
 have hmx : imax x (neg .i64 x) = sz x:=by rw [e_imax hA,e_neg hA,wrap64 (by omega) (by omega),Int.zero_sub,max_sz]
 obtain ⟨s,hs'⟩ : ∃ z,z = sz x:=⟨_,rfl⟩
 rw [← hs'] at hmx
 obtain ⟨h2,w1,t2,_⟩:=t.put i0 ci (x:=s)
 have ww : wr h b (place 0 i 1) [.int .i64 s] h2:=wr_ok hA (by rw [Nat.zero_add];exact w1)
 refine zq ?_
 rw [hmx]
 refine zq ?_
 rw [add64 hA (by omega) (by omega)]
 refine ih (i + 1) h2 _ (by omega) (by omega) (by omega) t2 (fun j j0 j1 => ?_)
 rw [gt_set L i0 j0 (by omega)]
 by_cases e : j = i
 ·rw [if_pos e,e,← hx,hs']
 ·rw [if_neg e];exact hj j j0 (by omega)
theorem thr_loop {h0 : AHeap} (hlow : h0.low ≤ h0.next) {n : Nat} (hn : n ≤ 256) {l W : List Int} (hl : l.length = n) {b cc : Nat} {u v : Int} {p : Rat} (hp : okPart u v p) {k : PermOn 0 l.length (l.map sz) W} {s : SortedOn leI W 0 l.length} {h1 : AHeap} (t : DatI h0 h1 b n W) {NN : Int} (hNN : NN = n) (hW : ∀ j : Int,0 ≤ j → j < n → 0 ≤ gt W j ∧ gt W j ≤ 1000000) {Q : Exit → SS → Prop}
  (hok : ∀ h' T kn K,LeastT l p T → T ≤ 1000001 → Ext h1 h' → Q (.exit 2) ⟨[(10,.int .i64 T)],kn,K,h'⟩) :
  ∀ (m i : Nat) (T : Int) (h : AHeap),n - i ≤ m → i ≤ n → T = (if i = 0 then 1 else gt W (i - 1 : Int) + 1) → (∀ j : Int,0 ≤ j → j < i → ¬ (((l.length : Nat) : Int) : Rat) * p ≤ ((j : Int) : Rat)) → Ext h1 h → head 27 15 1 ⟨[(3,.pointer (some ⟨0,0,some 0⟩)),(7,.slice (some ⟨b,0,none⟩) n cc),(10,.int .i64 T),(56,.slice (some ⟨b,0,none⟩) n cc),(57,.int .i64 NN),(58,.int .i64 (i : Int))],1,[(0,[.int .i64 u,.int .i64 v])],h⟩ Q:=by
 have lim : ∀ (i : Nat) (T : Int),i ≤ n → T = (if i = 0 then 1 else gt W (i - 1 : Int) + 1) → T ≤ 1000001:=fun i T hi hT => by
  by_cases c : i = 0
  ·rw [hT,if_pos c];omega
  ·rw [hT,if_neg c];have:=(hW (i - 1) (by omega) (by omega)).2;omega
 have stop : ∀ (i : Nat) (T : Int) (h : AHeap) kn K,i ≤ n → T = (if i = 0 then 1 else gt W (i - 1 : Int) + 1) → (∀ j : Int,0 ≤ j → j < i → ¬ (((l.length : Nat) : Int) : Rat) * p ≤ ((j : Int) : Rat)) → Ext h1 h → (((l.length : Nat) : Int) : Rat) * p ≤ (((i : Nat) : Int) : Rat) → Q (.exit 2) ⟨[(10,.int .i64 T)],kn,K,h⟩:=fun i T h kn K hi hT low he w => by
  refine hok h T kn K ?_ (lim i T hi hT) he
  rw [hT]
  exact least_of k s (by omega) low w
 have all : (((l.length : Nat) : Int) : Rat) * p ≤ (((n : Nat) : Int) : Rat):=by
  rw [hl]
  have:=Rat.mul_le_mul_of_nonneg_left hp.le.2 (show (0 : Rat) ≤ (((n : Nat) : Int) : Rat) by exact_mod_cast Nat.zero_le n)
  rwa [Rat.mul_one] at this
 intro m
 induction m with
 | zero =>
  intro i T h hm hi hT low he
  obtain ⟨I,hI⟩ : ∃ z : Int,z = i:=⟨_,rfl⟩
  rw [← hI]
  refine hA.roundR Try.func27 r27_ok (zc ?_)
  refine br (I < NN) (by rw [e_lss hA]) (fun q => by omega) (fun q => ?_) <;> refine zc ?_
  obtain rfl : i = n:=by omega
  exact stop i T h _ _ hi hT low he all
 | succ m ih =>
 intro i T h hm hi hT low he
 obtain ⟨I,hI⟩ : ∃ z : Int,z = i:=⟨_,rfl⟩
 rw [← hI]
 refine hA.roundR Try.func27 r27_ok (zc ?_)
 refine br (I < NN) (by rw [e_lss hA]) (fun ci => ?_) (fun q => ?_) <;> refine zc ?_
 rotate_left
 ·obtain rfl : i = n:=by omega
  exact stop i T h _ _ hi hT low he all
 have tE:=t.more he
 have hlowE:=tE.ext.lowOK hlow
 obtain ⟨x,gx,r1⟩:=tE.read (i:=I) (by omega) (by omega)
 have rr:=rd_ok hA r1
 refine zq ?_
 rw [e_ofNat hA]
 refine make_ok hA hlowE (by unfold i64;omega) (by unfold i64;omega) (fun a' b' e k1 h2 x2 => ⟨_,_,_,rfl,?_⟩)
 obtain ⟨kf,rfl⟩:=outF_part (by omega) (by omega) (by omega) (by omega) k1
 refine zc ?_
 refine br False (by rw [e_neq hA];rfl) (fun q => q.elim) (fun _ => ?_) <;> refine zc ?_
 refine cmp_ok hA (x2.lowOK hlowE) kf.i64.1 kf.i64.2 hp.1.i64.1 hp.1.i64.2 (fun c' r h3 k2 x3 => ⟨_,_,rfl,?_⟩)
 have y3:=(he.trans x2).trans x3
 obtain ⟨rfl,rfl⟩ : c' = cmpF ((I : Rat) / ((n : Int) : Rat)) p ∧ r = 0:=by
  rcases k2 with ⟨w,_⟩ | ⟨p1,q1,w1,w2,w3,w4⟩
  ·exact absurd ⟨⟨_,kf⟩,⟨_,hp.1⟩⟩ w
  ·rw [w3,w1.uniq kf,w2.uniq hp.1];exact ⟨rfl,w4⟩
 have key:=cmp_part (k:=I) (n:=(n : Int)) (by omega) (p:=p)
 generalize cmpF ((I : Rat) / ((n : Int) : Rat)) p = z at *
 refine zc ?_
 refine br False (by rw [e_neq hA];rfl) (fun q => q.elim) (fun _ => ?_) <;> refine zc ?_
 refine br (0 ≤ z) (by rw [e_geq hA]) (fun c4 => ?_) (fun c4 => ?_) <;> refine zc ?_
 ·exact stop i T h3 _ _ hi hT low y3 (by rw [hl,← hI];exact key.1 c4)
 obtain ⟨x0,x1⟩:=hW I (by omega) (by omega)
 rw [gx] at x0 x1
 rw [add64 hA (by omega) (by omega),add64 hA (by omega) (by omega),show I + 1 = ((i + 1 : Nat) : Int) by omega]
 refine ih (i + 1) (x + 1) h3 (by omega) (by omega) ?_ (fun j j0 j1 => ?_) y3
 ·rw [if_neg (by omega),show (((i + 1 : Nat) : Int) - 1) = I by omega,gx]
 ·by_cases e : j = i
  ·rw [e,← hI,hl];exact fun w => c4 (key.2 w)
  ·exact low j j0 (by omega)
theorem thr_ok {h : AHeap} (hlow : h.low ≤ h.next) {a : Option Addr} {n c : Nat} (hn : n ≤ 300) {l : List Int} (hs : Ints h .i64 a n l) {u v : Int} (iu : i64 u) (iv : i64 v) {Q : Value → AHeap → Prop}
  (hQ : ∀ t e h',ThrIs l u v t e → Ext h h' → Q (.tuple #[.int .i64 t,.int .i64 e]) h') : call 27 [.slice a n c,.agg #[.int .i64 u,.int .i64 v]] h Q:=by
 have hl:=hs.len
 refine hA.bodyR Try.func27 r27_ok (hA.alike _ _ _ rfl) hlow (zc ?_)
 refine measured_ok hA hlow (by omega) hs (fun e he => ⟨_,rfl,?_⟩)
 refine zc ?_
 refine br (e ≠ 0) (e_neq hA _ _) (fun c1 => ?_) (fun c1 => ?_) <;> refine zc ?_
 ·exact hQ 0 e h (.inl ⟨by omega,rfl,he⟩) (.refl h)
 have hz : levE l = 0:=by omega
 refine check_ok hA hlow iu iv (fun e h1 k1 x1 => ⟨_,rfl,?_⟩)
 have bad : (¬ ∃ p,okPart u v p) → Q (.tuple #[.int .i64 0,.int .i64 8]) h1:=fun w => hQ 0 8 h1 (.inr (.inl ⟨hz,w,rfl,rfl⟩)) x1
 refine zc ?_
 refine br (e ≠ 0) (e_neq hA _ _) (fun c1 => ?_) (fun c1 => ?_) <;> refine zc ?_
 ·exact bad (fun ⟨p,q⟩ => by
   rcases k1 with ⟨w,_⟩ | ⟨_,w⟩
   ·exact c1 w
   ·exact w ⟨p,q.1⟩)
 refine br (u < 0) (e_lss hA _ _) (fun c2 => ?_) (fun c2 => ?_) <;> refine zc ?_
 ·exact bad (fun ⟨p,q⟩ => by have:=q.2.1;omega)
 refine br (v < u) (e_gtr hA _ _) (fun c3 => ?_) (fun c3 => ?_) <;> refine zc ?_
 ·exact bad (fun ⟨p,q⟩ => by have:=q.2.2;omega)
 obtain ⟨p,hp⟩ : ∃ p,okPart u v p:=by
  rcases k1 with ⟨_,⟨p,w⟩⟩ | ⟨w,_⟩
  ·exact ⟨p,w,by omega,by omega⟩
  ·omega
 obtain ⟨l256,hlev⟩:=levE_zero0 hz
 refine ⟨mk_ok hA (by rw [e_ofNat hA];omega) (by omega) (by rw [e_ofNat hA];omega),?_⟩
 refine zc ?_
 have hlow1:=x1.lowOK hlow
 have hz0 : zeros [.int .i64 0] (ofNat n) = (List.replicate n (0 : Int)).flatMap iC:=by rw [e_zeros hA,copies_ints,e_ofNat hA,flat_iC];simp
 have ho:=Own.push h1 1 ((List.replicate n (0 : Int)).flatMap iC)
 have xp : Ext h1 (h1.push 1 ((List.replicate n (0 : Int)).flatMap iC)):=.push _ _ _
 rw [hz0,e_push hA,e_next hA,show nat (ofNat n) = n by rw [e_nat hA,e_ofNat hA];simp]
 have lt : h1.next < (h1.push 1 ((List.replicate n (0 : Int)).flatMap iC)).next:=by simp [AHeap.push]
 generalize h1.push 1 ((List.replicate n (0 : Int)).flatMap iC) = h2 at *
 obtain ⟨b,hb⟩ : ∃ z,z = h1.next:=⟨_,rfl⟩
 rw [← hb] at ho lt ⊢
 have t2 : DatI h1 h2 b n (List.replicate n 0):=⟨xp,ho,by omega,lt,by simp,by omega⟩
 refine sizes_loop hA hlow1 (hs.ext x1) hlev (fun h3 t3 => ?_) n 0 h2 _ (by omega) (by omega) (by omega) t2 (fun j j0 j1 => by omega)
 refine zc ?_
 refine sortI_ok hA hlow1 t3 (fun h4 W t4 kp ks => ?_)
 refine zc ?_
 rw [← hl] at kp ks
 have hW : ∀ j : Int,0 ≤ j → j < n → 0 ≤ gt W j ∧ gt W j ≤ 1000000:=by
  rw [← hl]
  refine kp.all (fun x => 0 ≤ x ∧ x ≤ 1000000) (fun j j0 j1 => ?_)
  rw [gt_map_sz j0 j1]
  have hm':=at'_mem l j0 (by omega)
  rw [← gt_at'] at hm'
  have:=lev_of hlev hm'
  unfold sz
  split <;> omega
 refine thr_loop hA hlow1 (by omega) hl hp (k:=kp) (s:=ks) t4 (e_ofNat hA n) hW (fun h5 T kn K hT hT1 x5 => ?_) n 0 1 h4 (by omega) (by omega) (by rw [if_pos rfl]) (fun j j0 j1 => by omega) (.refl h4)
 obtain ⟨d1,d2⟩:=ThrOk.least hT
 have y5:=(x1.trans t4.ext).trans x5
 refine zc ?_
 refine br (1000000 < T) (by rw [e_gtr hA]) (fun c4 => ?_) (fun c4 => ?_) <;> refine zc ?_
 ·exact hQ 0 6 h5 (.inr (.inr ⟨hz,p,hp,d2 c4⟩)) y5
 ·exact hQ T 0 h5 (.inr (.inr ⟨hz,p,hp,d1 (by omega)⟩)) y5
end Go.Proofs.Ytcdoknkgbnaefaa
