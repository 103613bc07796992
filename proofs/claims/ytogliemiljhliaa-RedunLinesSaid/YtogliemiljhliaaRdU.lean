import Derived.Test.YtogliemiljhliaaRdT
set_option linter.unusedSimpArgs false
set_option linter.unusedVariables false
namespace Go.Proofs.Ytogliemiljhliaa
open Go.Sim
set_option linter.unusedVariables false
set_option maxRecDepth 100000
variable {F : Prims} {call head arith cmp scmp bnot bsame conv neg imax imin ofNat slen place inR nz geZ rd wr push next mkOK nat zeros sadd eqAgg cut slc sslc strAt part app cpy putAt fresh lowered bump wrote addN lt ne fpAll fpApp brk yn rng mget mput mnew bytes clr : _} (hA : AP F ⟨call,head,arith,cmp,scmp,bnot,bsame,conv,neg,imax,imin,ofNat,slen,place,inR,nz,geZ,rd,wr,push,next,mkOK,nat,zeros,sadd,eqAgg,cut,slc,sslc,strAt,part,app,cpy,putAt,fresh,lowered,bump,wrote,addN,lt,ne,fpAll,fpApp,brk,yn,rng,mget,mput,mnew,bytes,clr⟩)
include hA
theorem bnd_loop {h : AHeap} {vm : Value} {ba : Option Addr} {nb cb c : Nat} {bound : List Nat} (hba : Is h ba nb (bound.map Int.ofNat)) (nb100 : nb ≤ 1000) {C : Int} (eC : C = c) {Q : Exit → SS → Prop}
  (hret : c ∈ bound → ∀ e kn T,Q .ret ⟨(4,.bool true) :: e,kn,T,h⟩) (h9 : c ∉ bound → Q (.exit 0) ⟨[],1,[(0,[vm,.slice ba nb cb])],h⟩) :
  ∀ (d i : Nat) (I : Int),nb - i = d → i ≤ nb → I = i → (∀ j,j < i → bound.getD j 0 ≠ c) →
   head 81 2 1 ⟨[(1,.int .i64 C),(2,.pointer (some ⟨0,0,some 0⟩)),(5,.int .i64 I)],1,[(0,[vm,.slice ba nb cb])],h⟩ Q:=by
 have lb:=hba.len
 rw [List.length_map] at lb
 intro d
 induction d with
 | zero =>
  intro i I hd hi eI hp
  refine hA.roundR Try.func81 r81_ok (zc ?_)
  refine zq ?_
  refine br (I < (nb : Int)) (by rw [e_lss hA,e_ofNat hA]) (fun q => by omega) (fun _ => ?_) <;> refine zc ?_
  refine h9 (fun q => ?_)
  obtain ⟨j,hj,e⟩:=List.getElem_of_mem q
  exact hp j (by omega) (by rw [List.getD_eq_getElem?_getD,List.getElem?_eq_getElem hj];exact e)
 | succ d ih =>
 intro i I hd hi eI hp
 obtain ⟨pb,po,x,ea,_,hx,q1⟩:=is_at hba (i:=I) (by omega) (by omega)
 subst ea
 have q1:=rd_ok hA q1
 have ex : x = (bound.getD i 0 : Nat):=by
  rw [← hx,eI]
  unfold gt
  rw [List.getD_eq_getElem?_getD,show ((i : Int)).toNat = i from rfl,List.getElem?_map,List.getD_eq_getElem?_getD,List.getElem?_eq_getElem (show i < bound.length by omega)]
  rfl
 refine hA.roundR Try.func81 r81_ok (zc ?_)
 refine zq ?_
 refine br (I < (nb : Int)) (by rw [e_lss hA,e_ofNat hA]) (fun _ => ?_) (fun q => by omega) <;> refine zc ?_
 refine zq ?_
 refine br (x = C) (by rw [e_eql hA]) (fun e => ?_) (fun e => ?_) <;> refine zc ?_
 ·refine zq ?_
  refine hret ?_ _ _ _
  have : bound.getD i 0 = c:=by omega
  rw [← this,List.getD_eq_getElem?_getD,List.getElem?_eq_getElem (show i < bound.length by omega)]
  exact List.getElem_mem _
 ·refine zq ?_
  rw [add64 hA (by omega) (by omega)]
  exact ih (i + 1) (I + 1) (by omega) (by omega) (by omega) (fun j hj => by
   by_cases c1 : j = i
   ·rw [c1];omega
   ·exact hp j (by omega))
theorem bound_ok {h : AHeap} (hlow : h.low ≤ h.next) {vm : Value} {oa om oc : Nat} {ba : Option Addr} {nb cb c : Nat} {bound : List Nat} (hvm : vm = .slice (some ⟨oa,0,none⟩) om oc) (hba : Is h ba nb (bound.map Int.ofNat)) (nb100 : nb ≤ 1000) {C : Int} (eC : C = c) {Q : Value → AHeap → Prop} (hQ : ∀ r : Bool,(r = true ↔ c ∈ bound) → Q (.bool r) h) : call 81 [.agg #[vm,.slice ba nb cb],.int .i64 C] h Q:=by
 subst hvm
 refine hA.bodyR Try.func81 r81_ok (hA.alike _ _ _ rfl) hlow (zc ?_)
 refine bnd_loop hA hba nb100 eC (fun hm e kn T => ?_) (fun hm => ?_) nb 0 0 (by omega) (by omega) rfl (fun j hj => by omega)
 ·refine zc ?_
  exact hQ true ⟨fun _ => hm,fun _ => rfl⟩
 ·refine zc ?_
  exact hQ false ⟨fun q => (by cases q),fun q => absurd q hm⟩
theorem zero_loop {h0 : AHeap} (hlow : h0.low ≤ h0.next) {b n : Nat} (n100 : n ≤ 100) {v1 v4 : Value} {i5 N : Int} (eN : N = n) {kn : Nat} {T : List (Nat × List Value)} {Q : Exit → SS → Prop}
  (hQ : ∀ h',Vec fC 2 h0 h' b n (fun _ => ⟨0,1⟩) → Q (.exit 2) ⟨[(1,v1),(3,.int .i64 N),(4,v4),(5,.int .i64 i5),(6,.slice (some ⟨b,0,none⟩) n n)],kn,T,h'⟩) :
  ∀ (d i : Nat) (I : Int) (h : AHeap),n - i = d → i ≤ n → I = i → Vec fC 2 h0 h b n (oneTo i) →
   head 61 9 kn ⟨[(1,v1),(3,.int .i64 N),(4,v4),(5,.int .i64 i5),(6,.slice (some ⟨b,0,none⟩) n n),(7,.int .i64 I)],kn,T,h⟩ Q:=by
 intro d
 induction d with
 | zero =>
  intro i I h hd hi eI t
  refine hA.roundR Try.func61 r61_ok (zc ?_)
  refine br (I < N) (by rw [e_lss hA]) (fun q => by omega) (fun _ => ?_) <;> refine zc ?_
  exact hQ h (t.congr (fun j hj => by unfold oneTo;rw [if_pos (by omega)]))
 | succ d ih =>
 intro i I h hd hi eI t
 obtain ⟨h1,w1,t1,r1⟩:=t.set (i:=i) (by omega) (⟨0,1⟩ : Fc)
 have w1 : wr h b (place 0 I 2) [.int .i64 0,.int .i64 1] h1:=wr_ok hA (by rw [eI];exact w1)
 refine hA.roundR Try.func61 r61_ok (zc ?_)
 refine br (I < N) (by rw [e_lss hA]) (fun _ => ?_) (fun q => by omega) <;> refine zc ?_
 refine zq ?_
 refine of_ok' hA (t.ext.lowOK hlow) ⟨_,_,rfl,?_⟩
 refine zq ?_
 rw [add64 hA (by omega) (by omega)]
 exact ih (i + 1) (I + 1) h1 (by omega) (by omega) (by omega) (t1.congr (fun j hj => by
  unfold oneTo
  by_cases c : j = i
  ·rw [if_pos c,if_pos (by omega)]
  ·rw [if_neg c]
   by_cases c2 : j < i
   ·rw [if_pos c2,if_pos (by omega)]
   ·rw [if_neg c2,if_neg (by omega)]))
theorem neg_loop {h0 : AHeap} (hlow : h0.low ≤ h0.next) {oa cp om m n c b k : Nat} {bs : Nat → Nat} {ba : Option Addr} {cb : Nat} {S : St} {hs : AHeap} (hsx : Ext hs h0) (M0 : MatW fC 2 cp hs h0 oa bs m (n + 1) (frM S)) (hba : Is h0 ba k (S.bound.map Int.ofNat)) (hk : k ≤ m) (hc : c < n) (n100 : n < 100) (m100 : m ≤ 100)
  (hbn : ∀ x,x ∈ S.bound → x < n) (hcb : c ∉ S.bound) (fine : Fine m n S) {C N : Int} (eC : C = c) {a4 : Option Addr} {n4 c4 : Nat} {vm : Value} (hvm : vm = .slice (some ⟨oa,0,none⟩) m om) {Q : Exit → SS → Prop}
  (hQ : ∀ h',Vec fC 2 h0 h' b n (fun x => if x = c then ⟨1,1⟩ else fillR S.R S.bound S.lead c (-1) k x) → Q (.exit 4) ⟨[(1,.pointer (some ⟨0,0,some 0⟩)),(3,.int .i64 N),(4,.slice a4 n4 c4),(5,.int .i64 C),(6,.slice (some ⟨b,0,none⟩) n n)],1,[(0,[vm,.slice ba k cb])],h'⟩) :
  ∀ (d i : Nat) (I : Int) (h : AHeap),k - i = d → i ≤ k → I = i → Vec fC 2 h0 h b n (fun x => if x = c then ⟨1,1⟩ else fillR S.R S.bound S.lead c (-1) i x) →
   head 61 14 1 ⟨[(1,.pointer (some ⟨0,0,some 0⟩)),(3,.int .i64 N),(4,.slice a4 n4 c4),(5,.int .i64 C),(6,.slice (some ⟨b,0,none⟩) n n),(8,.int .i64 I)],1,[(0,[vm,.slice ba k cb])],h⟩ Q:=by
 subst hvm
 have lb:=hba.len
 rw [List.length_map] at lb
 intro d
 induction d with
 | zero =>
  intro i I h hd hi eI t
  obtain rfl : i = k:=by omega
  refine hA.roundR Try.func61 r61_ok (zc ?_)
  refine zq ?_
  refine br (I < (i : Int)) (by rw [e_lss hA,e_ofNat hA]) (fun q => by omega) (fun _ => ?_) <;> refine zc ?_
  exact hQ h t
 | succ d ih =>
 intro i I h hd hi eI t
 obtain ⟨h9,hh9⟩ : ∃ z,z = bump h 17:=⟨_,rfl⟩
 have x9 : Ext h h9:=by rw [hh9];exact ext_bump hA _ _
 have e9:=t.ext.trans x9
 have l9:=e9.lowOK hlow
 have t9:=t.more x9
 have M9:=M0.more e9
 obtain ⟨pb,po,x,ea,_,hx,q1⟩:=is_at (hba.ext e9) (i:=I) (by omega) (by omega)
 subst ea
 have q1:=rd_ok hA q1
 have ex : x = (S.bound.getD i 0 : Nat):=by
  rw [← hx,eI]
  unfold gt
  rw [List.getD_eq_getElem?_getD,show ((i : Int)).toNat = i from rfl,List.getElem?_map,List.getD_eq_getElem?_getD,List.getElem?_eq_getElem (show i < S.bound.length by omega)]
  rfl
 have xm : S.bound.getD i 0 ∈ S.bound:=by
  rw [List.getD_eq_getElem?_getD,List.getElem?_eq_getElem (show i < S.bound.length by omega)]
  exact List.getElem_mem _
 have xn:=hbn _ xm
 have xc : S.bound.getD i 0 ≠ c:=fun q => hcb (q ▸ xm)
 obtain ⟨an,ad,ha⟩ : ∃ x y,fr (S.R i c) S.lead = ⟨x,y⟩:=⟨_,_,rfl⟩
 have hF:=fr_is (a:=S.R i c) (b:=S.lead) (by have:=fine.small i c (by omega) (by omega);omega) (by have:=fine.leadB;omega) fine.lead
 rw [ha] at hF
 obtain ⟨rb,hrb⟩ : ∃ z,z = bs i:=⟨_,rfl⟩
 have r3 : rd h9 oa (place 0 I 1) 1 [.slice (some ⟨rb,0,none⟩) (n + 1) cp]:=rd_ok hA (by rw [eI,hrb];exact M9.head (by omega))
 have r4 : rd h9 rb (place 0 C 2) 2 [.int .i64 an,.int .i64 ad]:=rd_ok hA (by
  rw [eC,hrb]
  have:=M9.el (y:=i) (x:=c) (by omega) (by omega)
  rw [show frM S i c = ⟨an,ad⟩ from ha] at this
  exact this)
 refine hA.roundR Try.func61 r61_ok (zc ?_)
 refine zq ?_
 refine br (I < (k : Int)) (by rw [e_lss hA,e_ofNat hA]) (fun _ => ?_) (fun q => by omega) <;> refine zc ?_
 refine zq ?_
 rw [← hh9]
 refine zq ?_
 have b3:=hF.2.2.1
 have b4:=hF.2.2.2.1
 rw [← hF.1] at b3 b4
 refine rneg_ok hA (low_fresh hA h9) b3 b4 ⟨_,_,rfl,?_⟩
 refine zc ?_
 rw [low_same hA l9]
 obtain ⟨h1,w1,t1,_⟩:=t9.set (i:=S.bound.getD i 0) xn (⟨-an,ad⟩ : Fc)
 have w1 : wr h9 b (place 0 x 2) [.int .i64 (-an),.int .i64 ad] h1:=wr_ok hA (by rw [ex];exact w1)
 refine zq ?_
 obtain ⟨pb',po',_,ea',lpb,_⟩:=is_at hba (i:=I) (by omega) (by omega)
 cases ea'
 have htn:=t.ext.next
 refine ⟨fp_old hA (wrote_no hA (.refl _)) (by rw [e_addN hA,e_next hA];omega),?_⟩
 refine zc ?_
 rw [add64 hA (by omega) (by omega)]
 refine ih (i + 1) (I + 1) h1 (by omega) (by omega) (by omega) (t1.congr (fun j hj => ?_))
 show _ = if j = c then (⟨1,1⟩ : Fc) else if j = S.bound.getD i 0 then fr (-1 * S.R i c) S.lead else fillR S.R S.bound S.lead c (-1) i j
 have e2 : fr (-1 * S.R i c) S.lead = ⟨-an,ad⟩:=by rw [Int.neg_mul,Int.one_mul,fr_neg,ha]
 rw [e2]
 by_cases c1 : j = S.bound.getD i 0
 ·rw [if_pos c1,if_pos c1,if_neg (by rw [c1];exact xc)]
 ·rw [if_neg c1,if_neg c1]
set_option maxHeartbeats 1000000 in
theorem rbas_loop {h0 : AHeap} (hlow : h0.low ≤ h0.next) {oa cp om m n : Nat} {bs : Nat → Nat} {ba : Option Addr} {k cb : Nat} {S : St} {hs : AHeap} (hsx : Ext hs h0) (M0 : MatW fC 2 cp hs h0 oa bs m (n + 1) (frM S)) (hba : Is h0 ba k (S.bound.map Int.ofNat)) (hk : k ≤ m) (n100 : n < 100) (m100 : m ≤ 100)
  (hbn : ∀ x,x ∈ S.bound → x < n) (fine : Fine m n S) {N : Int} (eN : N = n) {Q : Exit → SS → Prop}
  (hQ : ∀ (h' : AHeap) ao K co bl kn T,K = (basTo S n n).length → Apd h' 1 ao K co ((hds n bl (basTo S n n)).flatMap Hd.cells) → GrW fC 2 n h0 h' bl (basTo S n n) → Q (.exit 0) ⟨[(4,.slice ao K co)],kn,T,h'⟩) :
  ∀ (d c : Nat) (C : Int) (h : AHeap) (ao : Option Addr) (K co : Nat) (bl : List Nat),n - c = d → c ≤ n → C = c → K = (basTo S n c).length → Apd h 1 ao K co ((hds n bl (basTo S n c)).flatMap Hd.cells) → From h0.next ao → GrW fC 2 n h0 h bl (basTo S n c) → (∀ ad,ao = some ad → ad.block ∉ bl) →
   head 61 4 1 ⟨[(1,.pointer (some ⟨0,0,some 0⟩)),(3,.int .i64 N),(4,.slice ao K co),(5,.int .i64 C)],1,[(0,[.slice (some ⟨oa,0,none⟩) m om,.slice ba k cb])],h⟩ Q:=by
 have lb:=hba.len
 rw [List.length_map] at lb
 intro d
 induction d with
 | zero =>
  intro c C h ao K co bl hd hc eC eK t hf g out
  obtain rfl : c = n:=by omega
  refine hA.roundR Try.func61 r61_ok (zc ?_)
  refine br (C < N) (by rw [e_lss hA]) (fun q => by omega) (fun _ => ?_) <;> refine zc ?_
  exact hQ h ao K co bl _ _ eK t g
 | succ d ih =>
 intro c C h ao K co bl hd hc eC eK t hf g out
 have e:=g.ext
 refine hA.roundR Try.func61 r61_ok (zc ?_)
 refine br (C < N) (by rw [e_lss hA]) (fun _ => ?_) (fun q => by omega) <;> refine zc ?_
 refine zq ?_
 refine bound_ok hA (e.lowOK hlow) rfl (hba.ext e) (by omega) eC (fun r hr => ⟨_,rfl,?_⟩)
 refine zc ?_
 have hnx : basTo S n (c + 1) = if c ∈ S.bound then basTo S n c else basTo S n c ++ [bvec S n c]:=rfl
 refine br (r = true) (by cases r <;> rfl) (fun cr => ?_) (fun cr => ?_) <;> refine zc ?_
 ·have cb1 : c ∈ S.bound:=hr.1 cr
  rw [add64 hA (by omega) (by omega)]
  rw [if_pos cb1] at hnx
  rw [← hnx] at eK t g
  exact ih (c + 1) (C + 1) h ao K co bl (by omega) (by omega) (by omega) eK t hf g out
 have cb1 : c ∉ S.bound:=fun q => cr (hr.2 q)
 rw [if_neg cb1] at hnx
 refine ⟨mk_ok hA (by omega) (Int.le_refl _) (by omega),?_⟩
 refine zc ?_
 rw [e_zeros hA,e_next hA,e_push hA,e_nat hA,show N.toNat = n by omega]
 rw [show copies [Value.int .i64 0,.int .i64 0] n = (lst (fun _ => (⟨0,0⟩ : Fc)) n).flatMap fC from copies_lst (enc:=fC) ⟨0,0⟩ n]
 refine zero_loop hA (h0:=h) (e.lowOK hlow) (by omega) eN (fun h1 v1 => ?_) n 0 0 _ (by omega) (by omega) rfl ⟨.push h 2 _,Own.push h 2 _,Nat.le_refl _,Nat.lt_succ_self _,fC_len,by omega⟩
 obtain ⟨b,hbb⟩ : ∃ z,z = h.next:=⟨_,rfl⟩
 rw [← hbb] at v1 ⊢
 refine zc ?_
 obtain ⟨h2,w2,v2,_⟩:=v1.set (i:=c) (by omega) (⟨1,1⟩ : Fc)
 have w2 : wr h1 b (place 0 C 2) [.int .i64 1,.int .i64 1] h2:=wr_ok hA (by rw [eC];exact w2)
 refine of_ok' hA (v1.ext.lowOK (e.lowOK hlow)) ⟨_,_,rfl,?_⟩
 refine zq ?_
 refine neg_loop hA (h0:=h) (e.lowOK hlow) (hsx.trans e) (M0.more e) (hba.ext e) hk (c:=c) (by omega) n100 m100 hbn cb1 fine eC rfl (fun h3 v3 => ?_) k 0 0 h2 (by omega) (by omega) rfl (v2.congr (fun j hj => rfl))
 have e2:=v3.ext
 have Kl:=basTo_len S n c
 refine zc ?_
 refine appK_ok hA TFF hd_len (by omega) hd_ok (v:=⟨some ⟨b,0,none⟩,n,n⟩) (t.ext e2) (by omega) (fun b' h' ha hx hn' hb' hk' => ?_)
 generalize someCap 1 (K + 1) = cc' at *
 obtain ⟨K',hk2⟩ : ∃ z,z = K + 1:=⟨_,rfl⟩
 rw [← hk2] at ha ⊢
 refine zc ?_
 rw [add64 hA (by omega) (by omega)]
 have bnew : b ∉ bl:=fun q => by have:=g.ltr b q;omega
 have hB : hds n (bl ++ [b]) (basTo S n (c + 1)) = hds n bl (basTo S n c) ++ [⟨some ⟨b,0,none⟩,n,n⟩]:=by rw [hnx,hds_add g.len,bvec_len]
 have gw:=(g.more e2).add (b:=b) (r:=bvec S n c) (by
  unfold bvec
  have:=v3.own
  rw [← lb] at this
  exact this) (by have:=e.next;omega) v3.lt bnew
 rw [← hnx] at gw
 have x':=hx h0 (e.trans e2) hf
 have tlt:=t.lt
 have out' : ∀ q,q ∈ bl ++ [b] → ∀ ad,ao = some ad → ad.block ≠ q:=fun q hq ad had e1 => by
  rcases List.mem_append.1 hq with z | z
  ·exact out ad had (by rw [e1];exact z)
  ·simp only [List.mem_singleton] at z;have:=tlt ad had;omega
 have gl:=gw.ltr
 refine ih (c + 1) (C + 1) h' _ _ _ (bl ++ [b]) (by omega) (by omega) (by omega) (by rw [hnx,List.length_append];simp only [List.length_singleton];omega) (by rw [hB];exact ha) (fun ad q => by cases q;have:=e.next;have:=e2.next;simp only;omega) (gw.keep x' (by omega) (fun q hq => hk' q (gl q hq) (out' q hq))) (fun ad q z => by cases q;have:=gl _ z;simp only at this;omega)
theorem rbas_ok {h : AHeap} (hlow : h.low ≤ h.next) {oa cp om m n : Nat} {bs : Nat → Nat} {ba : Option Addr} {k cb : Nat} {S : St} {hs : AHeap} (M0 : MatW fC 2 cp hs h oa bs m (n + 1) (frM S)) (hba : Is h ba k (S.bound.map Int.ofNat)) (hk : k ≤ m) (m1 : 0 < m) (n100 : n < 100) (m100 : m ≤ 100)
  (hbn : ∀ x,x ∈ S.bound → x < n) (fine : Fine m n S) {Q : Value → AHeap → Prop}
  (hQ : ∀ h' ao K co hs,GrR fC 2 h' ao K hs (basTo S n n) → K = (basTo S n n).length → Ext h h' → Q (.slice ao K co) h') : call 61 [.agg #[.slice (some ⟨oa,0,none⟩) m om,.slice ba k cb]] h Q:=by
 have z1 : rd h oa (place 0 0 1) 1 [.slice (some ⟨bs 0,0,none⟩) (n + 1) cp]:=rd_ok hA (M0.head m1)
 obtain ⟨N1,eN1⟩ : ∃ z : Int,z = (n + 1 : Nat):=⟨_,rfl⟩
 obtain ⟨n1,en1⟩ : ∃ z : Nat,z = n + 1:=⟨_,rfl⟩
 rw [← en1] at z1
 have e1 : ofNat n1 = N1:=by rw [e_ofNat hA];omega
 obtain ⟨N,eN⟩ : ∃ z : Int,z = n:=⟨_,rfl⟩
 have e2 : arith .sub .i64 N1 1 = N:=by rw [sub64 hA (by omega) (by omega)];omega
 refine hA.bodyR Try.func61 r61_ok (hA.alike _ _ _ rfl) hlow (zc ?_)
 (refine zq ?_;repeat ((first | rw [e1] | rw [e2]);refine zq ?_))
 refine rbas_loop hA hlow M0.ext M0 hba hk n100 m100 hbn fine eN (fun h5 ao K co bl kn T hK a5 g5 => ?_) n 0 0 h none 0 0 [] (by omega) (by omega) rfl rfl (by simpa [hds,basTo] using Apd.nil h 1) (.none _) (by simpa [basTo] using (GrW.nil h fC_len (by omega))) (fun ad q => by cases q)
 refine zc ?_
 refine hQ h5 ao K co (hds n bl (basTo S n n)) ?_ hK g5.ext
 have e : K = (hds n bl (basTo S n n)).length:=by rw [hds_len g5.len];exact hK
 exact g5.rd ⟨by have:=a5.cells;exact this,hd_len,by omega⟩
end Go.Proofs.Ytogliemiljhliaa
