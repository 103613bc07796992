import Derived.Test.YtogliemiljhliaaRdL
set_option linter.unusedSimpArgs false
set_option linter.unusedVariables false
namespace Go.Proofs.Ytogliemiljhliaa
open Go.Sim
set_option linter.unusedVariables false
set_option maxRecDepth 100000
def oneTo (i : Nat) (j : Nat) : Fc:=if j < i then ⟨0,1⟩ else ⟨0,0⟩
def fillR (R : Nat → Nat → Int) (bound : List Nat) (lead : Int) (col : Nat) (by_ : Int) : Nat → Nat → Fc
 | 0,_ => ⟨0,1⟩
 | k + 1,x => if x = bound.getD k 0 then fr (by_ * R k col) lead else fillR R bound lead col by_ k x
variable {F : Prims} {call head arith cmp scmp bnot bsame conv neg imax imin ofNat slen place inR nz geZ rd wr push next mkOK nat zeros sadd eqAgg cut slc sslc strAt part app cpy putAt fresh lowered bump wrote addN lt ne fpAll fpApp brk yn rng mget mput mnew bytes clr : _} (hA : AP F ⟨call,head,arith,cmp,scmp,bnot,bsame,conv,neg,imax,imin,ofNat,slen,place,inR,nz,geZ,rd,wr,push,next,mkOK,nat,zeros,sadd,eqAgg,cut,slc,sslc,strAt,part,app,cpy,putAt,fresh,lowered,bump,wrote,addN,lt,ne,fpAll,fpApp,brk,yn,rng,mget,mput,mnew,bytes,clr⟩)
include hA
theorem zeros_loop {h0 : AHeap} {b n : Nat} {N : Int} (eN : N = n) (n100 : n ≤ 100) {Q : Exit → SS → Prop}
  (hQ : ∀ h',Vec fC 2 h0 h' b n (fun _ => ⟨0,1⟩) → Q (.exit 0) ⟨[(3,.slice (some ⟨b,0,none⟩) n n)],0,[],h'⟩) :
  ∀ (d i : Nat) (I : Int) (h : AHeap),n - i = d → i ≤ n → I = i → Vec fC 2 h0 h b n (oneTo i) →
   head 73 3 0 ⟨[(3,.slice (some ⟨b,0,none⟩) n n),(8,.int .i64 N),(9,.int .i64 I)],0,[],h⟩ Q:=by
 intro d
 induction d with
 | zero =>
  intro i I h hd hi eI t
  refine hA.roundR Try.func73 r73_ok (zc ?_)
  refine br (I < N) (by rw [e_lss hA]) (fun q => by omega) (fun _ => ?_) <;> refine zc ?_
  exact hQ h (t.congr (fun j hj => by unfold oneTo;rw [if_pos (by omega)]))
 | succ d ih =>
 intro i I h hd hi eI t
 obtain ⟨h1,w1,t1,r1⟩:=t.set (i:=i) (by omega) (⟨0,1⟩ : Fc)
 have w1 : wr h b (place 0 I 2) [.int .i64 0,.int .i64 1] h1:=wr_ok hA (by rw [eI];exact w1)
 refine hA.roundR Try.func73 r73_ok (zc ?_)
 refine br (I < N) (by rw [e_lss hA]) (fun _ => ?_) (fun q => by omega) <;> refine zc ?_
 refine zq ?_
 rw [add64 hA (by omega) (by omega)]
 exact ih (i + 1) (I + 1) h1 (by omega) (by omega) (by omega) (t1.congr (fun j hj => by
  unfold oneTo
  by_cases c : j = i
  ·rw [if_pos c,if_pos (by omega)]
  ·rw [if_neg c]
   by_cases c2 : j < i
   ·rw [if_pos c2,if_pos (by omega)]
   ·rw [if_neg c2,if_neg (by omega)]))
theorem zeros_ok {h : AHeap} (hlow : h.low ≤ h.next) {n : Nat} {N : Int} (eN : N = n) (n100 : n ≤ 100) {Q : Value → AHeap → Prop}
  (hQ : ∀ h' b,Vec fC 2 h h' b n (fun _ => ⟨0,1⟩) → Q (.slice (some ⟨b,0,none⟩) n n) h') : call 73 [.int .i64 N] h Q:=by
 refine hA.bodyR Try.func73 r73_ok (hA.alike _ _ _ rfl) hlow (zc ?_)
 refine ⟨mk_ok hA (by omega) (Int.le_refl _) (by omega),?_⟩
 refine zc ?_
 rw [e_zeros hA,e_next hA,e_push hA,e_nat hA,show N.toNat = n by omega]
 rw [show copies [Value.int .i64 0,.int .i64 0] n = (lst (fun _ => (⟨0,0⟩ : Fc)) n).flatMap fC from copies_lst (enc:=fC) ⟨0,0⟩ n]
 rw [e_ofNat hA]
 refine zeros_loop hA (h0:=h) rfl n100 (fun h' t => ?_) n 0 0 _ (by omega) (by omega) rfl ⟨.push h 2 _,Own.push h 2 _,Nat.le_refl _,Nat.lt_succ_self _,fC_len,by omega⟩
 refine zc ?_
 exact hQ h' _ t
theorem fill_loop {h0 : AHeap} (hlow : h0.low ≤ h0.next) {sb oa cp m w cm k col b n : Nat} {bs : Nat → Nat} {ba : Option Addr} {cb : Nat} {R : Nat → Nat → Int} {bound : List Nat} {lead : Int} {hs : AHeap} (hsx : Ext hs h0) (M0 : MatW iC 1 cp hs h0 oa bs m w R) (hR : Red h0 sb oa m cm n ba k cb lead) (hsb : sb < h0.next) (hba : Is h0 ba k (bound.map Int.ofNat)) (hk : k ≤ m) (hcol : col < w) (hn : n ≤ 100) (hm : m ≤ 100) (hw : w ≤ 100)
  (hbn : ∀ x,x ∈ bound → x < n) (hl : lead ≠ 0) (hl2 : lead.natAbs ≤ 1000000000) (hRb : ∀ i,i < m → (R i col).natAbs ≤ 1000000000) {C BY Kk : Int} (eC : C = col) (eK : Kk = k) (hby : BY = 1 ∨ BY = -1) {Q : Exit → SS → Prop}
  (hQ : ∀ h',Vec fC 2 h0 h' b n (fillR R bound lead col BY k) → Q (.exit 0) ⟨[(7,.slice (some ⟨b,0,none⟩) n n)],0,[],h'⟩) :
  ∀ (d i : Nat) (I : Int) (h : AHeap),k - i = d → i ≤ k → I = i → Vec fC 2 h0 h b n (fillR R bound lead col BY i) →
   head 46 3 0 ⟨[(0,.pointer (some ⟨sb,0,none⟩)),(1,.int .i64 C),(2,.int .i64 BY),(7,.slice (some ⟨b,0,none⟩) n n),(20,.slice ba k cb),(21,.int .i64 Kk),(22,.int .i64 I)],0,[],h⟩ Q:=by
 have lb:=hba.len
 rw [List.length_map] at lb
 intro d
 induction d with
 | zero =>
  intro i I h hd hi eI t
  obtain rfl : i = k:=by omega
  refine hA.roundR Try.func46 r46_ok (zc ?_)
  refine br (I < Kk) (by rw [e_lss hA]) (fun q => by omega) (fun _ => ?_) <;> refine zc ?_
  exact hQ h t
 | succ d ih =>
 intro i I h hd hi eI t
 obtain ⟨pb,po,x,ea,_,hx,q1⟩:=is_at (hba.ext t.ext) (i:=I) (by omega) (by omega)
 subst ea
 have q1:=rd_ok hA q1
 have ex : x = (bound.getD i 0 : Nat):=by
  rw [← hx,eI]
  unfold gt
  rw [List.getD_eq_getElem?_getD,show ((i : Int)).toNat = i from rfl,List.getElem?_map,List.getD_eq_getElem?_getD,List.getElem?_eq_getElem (show i < bound.length by omega)]
  rfl
 have xn : bound.getD i 0 < n:=by
  rw [List.getD_eq_getElem?_getD,List.getElem?_eq_getElem (show i < bound.length by omega)]
  exact hbn _ (List.getElem_mem _)
 obtain ⟨h9,hh9⟩ : ∃ z,z = bump h 23:=⟨_,rfl⟩
 have x9 : Ext h h9:=by rw [hh9];exact ext_bump hA _ _
 have e9:=t.ext.trans x9
 have l9:=e9.lowOK hlow
 have t9:=t.more x9
 have M9:=M0.more e9
 have red9:=Own.ext hR e9 hsb
 obtain ⟨v,hv⟩ : ∃ z,z = R i col:=⟨_,rfl⟩
 have r1 : rd h9 sb (addN 0 0) 1 [.slice (some ⟨oa,0,none⟩) m cm]:=by rw [e_addN hA];exact rd_at hA (Own.readG red9 (o:=0) (n:=1) (Nat.le_of_ble_eq_true rfl))
 have r2 : rd h9 sb (addN 0 3) 1 [.int .i64 lead]:=by rw [e_addN hA];exact rd_at hA (Own.readG red9 (o:=3) (n:=1) (Nat.le_of_ble_eq_true rfl))
 have r3 : rd h9 oa (place 0 I 1) 1 [.slice (some ⟨bs i,0,none⟩) w cp]:=rd_ok hA (by rw [eI];exact M9.head (by omega))
 have r4 : rd h9 (bs i) (place 0 C 1) 1 [.int .i64 v]:=rd_ok hA (by rw [eC,hv];exact M9.el (by omega) hcol)
 have bv:=hRb i (by omega)
 rw [← hv] at bv
 obtain ⟨u,hu⟩ : ∃ z,z = BY * v:=⟨_,rfl⟩
 have bu : u.natAbs ≤ 1000000000:=by rcases hby with e | e <;> rw [hu,e] <;> omega
 have m1 : arith .mul .i64 BY v = u:=by rw [hu];rw [hu] at bu;exact mul64 hA (by omega) (by omega)
 refine hA.roundR Try.func46 r46_ok (zc ?_)
 refine br (I < Kk) (by rw [e_lss hA]) (fun _ => ?_) (fun q => by omega) <;> refine zc ?_
 refine zq ?_
 rw [← hh9]
 (refine zq ?_;repeat ((first | rw [m1]);refine zq ?_))
 refine make_ok hA (low_fresh hA h9) (by unfold i64;omega) (by unfold i64;omega) (fun n' d' e k2 hz ez => ⟨_,_,_,rfl,?_⟩)
 have hF:=fits_rq (a:=u) (b:=lead) (by omega) (by omega) hl
 obtain ⟨z1,z2⟩ : (⟨n',d'⟩ : Fc) = fr u lead ∧ e = 0:=by
  rcases k2 with ⟨w,_⟩ | ⟨_,⟨_,k3,k4,k5⟩ | ⟨w,_⟩⟩
  ·exact absurd w hl
  ·exact ⟨by unfold fr rq;rw [k3,k4],k5⟩
  ·exact absurd hF w
 subst z2
 obtain ⟨hX,hhX⟩ : ∃ z,z = lowered h9 hz:=⟨_,rfl⟩
 have eX : Ext h9 hX:=by rw [hhX];exact ext_low hA l9 (.refl h9) ez
 have tX:=t9.more eX
 refine zc ?_
 rw [← hhX]
 obtain ⟨h1,w1,t1,_⟩:=tX.set (i:=bound.getD i 0) xn (⟨n',d'⟩ : Fc)
 have w1 : wr hX b (place 0 x 2) [.int .i64 n',.int .i64 d'] h1:=wr_ok hA (by rw [ex];exact w1)
 refine zq ?_
 refine br ((0 : Int) = 0) (by rw [e_eql hA]) (fun _ => ?_) (fun q => absurd rfl q) <;> refine zc ?_
 refine zq ?_
 rw [add64 hA (by omega) (by omega)]
 refine ih (i + 1) (I + 1) h1 (by omega) (by omega) (by omega) (t1.congr (fun j hj => ?_))
 show _ = (if j = bound.getD i 0 then fr (BY * R i col) lead else fillR R bound lead col BY i j)
 rw [← hv,← hu,z1]
theorem fill_ok {h0 : AHeap} (hlow : h0.low ≤ h0.next) {sb oa cp m w cm k col n : Nat} {bs : Nat → Nat} {ba : Option Addr} {cb : Nat} {R : Nat → Nat → Int} {bound : List Nat} {lead : Int} {hs : AHeap} (M0 : MatW iC 1 cp hs h0 oa bs m w R) (hR : Red h0 sb oa m cm n ba k cb lead) (hsb : sb < h0.next) (hba : Is h0 ba k (bound.map Int.ofNat)) (hk : k ≤ m) (hcol : col < w) (hn : n ≤ 100) (hm : m ≤ 100) (hw : w ≤ 100)
  (hbn : ∀ x,x ∈ bound → x < n) (hl : lead ≠ 0) (hl2 : lead.natAbs ≤ 1000000000) (hRb : ∀ i,i < m → (R i col).natAbs ≤ 1000000000) {C BY : Int} (eC : C = col) (hby : BY = 1 ∨ BY = -1) {Q : Value → AHeap → Prop}
  (hQ : ∀ h' b,Vec fC 2 h0 h' b n (fillR R bound lead col BY k) → Q (.slice (some ⟨b,0,none⟩) n n) h') : call 46 [.pointer (some ⟨sb,0,none⟩),.int .i64 C,.int .i64 BY] h0 Q:=by
 obtain ⟨N,eN⟩ : ∃ z : Int,z = n:=⟨_,rfl⟩
 have r1 : rd h0 sb (addN 0 1) 1 [.int .i64 N]:=by rw [e_addN hA,eN];exact rd_at hA (Own.readG hR (o:=1) (n:=1) (Nat.le_of_ble_eq_true rfl))
 refine hA.bodyR Try.func46 r46_ok (hA.alike _ _ _ rfl) hlow (zc ?_)
 refine zq ?_
 refine zeros_ok hA hlow eN hn (fun h1 b t => ⟨_,_,_,rfl,?_⟩)
 have r2 : rd h1 sb (addN 0 2) 1 [.slice ba k cb]:=by rw [e_addN hA];exact rd_at hA (Own.readG (Own.ext hR t.ext hsb) (o:=2) (n:=1) (Nat.le_of_ble_eq_true rfl))
 refine zq ?_
 rw [e_ofNat hA]
 refine fill_loop hA hlow M0.ext M0 hR hsb hba hk hcol hn hm hw hbn hl hl2 hRb eC rfl hby (fun h' t' => ?_) k 0 0 h1 (by omega) (by omega) rfl t
 refine zc ?_
 exact hQ h' b t'
end Go.Proofs.Ytogliemiljhliaa
namespace Go.Proofs.Ytogliemiljhliaa
open Go.Sim
set_option linter.unusedVariables false
set_option maxRecDepth 100000
def bvec (S : St) (n c : Nat) : List Fc:=lst (fun x => if x = c then ⟨1,1⟩ else fillR S.R S.bound S.lead c (-1) S.bound.length x) n
def basTo (S : St) (n : Nat) : Nat → List (List Fc)
 | 0 => []
 | c + 1 => if c ∈ S.bound then basTo S n c else basTo S n c ++ [bvec S n c]
theorem basTo_len (S : St) (n : Nat) : ∀ c,(basTo S n c).length ≤ c
 | 0 => Nat.le_refl _
 | c + 1 => by
  have:=basTo_len S n c
  unfold basTo
  split
  ·omega
  ·rw [List.length_append];simp only [List.length_singleton];omega
theorem bvec_len (S : St) (n c : Nat) : (bvec S n c).length = n:=lst_len _ _
theorem run_bound {m : Nat} {S : St} (h : S.bound = []) : ∀ c,∀ x,x ∈ (run m S c).bound → x < c
 | 0,x,hx => by
  have : x ∈ S.bound:=hx
  rw [h] at this;cases this
 | c + 1,x,hx => by
  have ih:=run_bound (m:=m) h c
  have hx : x ∈ (step m (run m S c) c).bound:=hx
  unfold step at hx
  split at hx
  ·split at hx
   ·have:=ih x hx;omega
   ·rcases List.mem_append.1 hx with q | q
    ·have:=ih x q;omega
    ·simp only [List.mem_singleton] at q;omega
  ·have:=ih x hx;omega
theorem run_few {m : Nat} {S : St} (h : S.bound.length ≤ m) : ∀ c,(run m S c).bound.length ≤ m
 | 0 => h
 | c + 1 => by
  have ih:=run_few h c
  show (step m (run m S c) c).bound.length ≤ m
  unfold step
  split
  ·split
   ·exact ih
   ·rw [List.length_append];simp only [List.length_singleton];omega
  ·exact ih
variable {F : Prims} {call head arith cmp scmp bnot bsame conv neg imax imin ofNat slen place inR nz geZ rd wr push next mkOK nat zeros sadd eqAgg cut slc sslc strAt part app cpy putAt fresh lowered bump wrote addN lt ne fpAll fpApp brk yn rng mget mput mnew bytes clr : _} (hA : AP F ⟨call,head,arith,cmp,scmp,bnot,bsame,conv,neg,imax,imin,ofNat,slen,place,inR,nz,geZ,rd,wr,push,next,mkOK,nat,zeros,sadd,eqAgg,cut,slc,sslc,strAt,part,app,cpy,putAt,fresh,lowered,bump,wrote,addN,lt,ne,fpAll,fpApp,brk,yn,rng,mget,mput,mnew,bytes,clr⟩)
include hA
set_option maxHeartbeats 1000000 in
theorem bas_loop {h0 : AHeap} (hlow : h0.low ≤ h0.next) {sb oa cp m cm n : Nat} {bs : Nat → Nat} {ba : Option Addr} {k cb : Nat} {S : St} {hs : AHeap} (M0 : MatW iC 1 cp hs h0 oa bs m (n + 1) S.R) (hR : Red h0 sb oa m cm n ba k cb S.lead) (hsb : sb < h0.next) (hba : Is h0 ba k (S.bound.map Int.ofNat)) (hk : k ≤ m) (n100 : n < 100) (m100 : m ≤ 100)
  (hbn : ∀ x,x ∈ S.bound → x < n) (hl : S.lead ≠ 0) (hl2 : S.lead.natAbs ≤ 1000000000) (hRb : ∀ i j,i < m → j ≤ n → (S.R i j).natAbs ≤ 1000000000) {N : Int} (eN : N = n) {Q : Exit → SS → Prop}
  (hQ : ∀ (h' : AHeap) ao K co bl,K = (basTo S n n).length → Apd h' 1 ao K co ((hds n bl (basTo S n n)).flatMap Hd.cells) → GrW fC 2 n h0 h' bl (basTo S n n) → Q (.exit 0) ⟨[(4,.slice ao K co)],0,[],h'⟩) :
  ∀ (d c : Nat) (C : Int) (h : AHeap) (ao : Option Addr) (K co : Nat) (bl : List Nat),n - c = d → c ≤ n → C = c → K = (basTo S n c).length → Apd h 1 ao K co ((hds n bl (basTo S n c)).flatMap Hd.cells) → From h0.next ao → GrW fC 2 n h0 h bl (basTo S n c) → (∀ ad,ao = some ad → ad.block ∉ bl) →
   head 39 4 0 ⟨[(3,.pointer (some ⟨sb,0,none⟩)),(4,.slice ao K co),(14,.int .i64 N),(15,.int .i64 C)],0,[],h⟩ Q:=by
 have lb:=hba.len
 rw [List.length_map] at lb
 intro d
 induction d with
 | zero =>
  intro c C h ao K co bl hd hc eC eK t hf g out
  obtain rfl : c = n:=by omega
  refine hA.roundR Try.func39 r39_ok (zc ?_)
  refine br (C < N) (by rw [e_lss hA]) (fun q => by omega) (fun _ => ?_) <;> refine zc ?_
  exact hQ h ao K co bl eK t g
 | succ d ih =>
 intro c C h ao K co bl hd hc eC eK t hf g out
 have e:=g.ext
 have red:=Own.ext hR e hsb
 have r1 : rd h sb (addN 0 2) 1 [.slice ba k cb]:=by rw [e_addN hA];exact rd_at hA (Own.readG red (o:=2) (n:=1) (Nat.le_of_ble_eq_true rfl))
 refine hA.roundR Try.func39 r39_ok (zc ?_)
 refine br (C < N) (by rw [e_lss hA]) (fun _ => ?_) (fun q => by omega) <;> refine zc ?_
 refine zq ?_
 refine contains_ok hA (e.lowOK hlow) (hba.ext e) (by omega) (fun r hr => ⟨_,rfl,?_⟩)
 have mem : C ∈ S.bound.map Int.ofNat ↔ c ∈ S.bound:=by
  rw [List.mem_map,eC]
  exact ⟨fun ⟨a,h1,h2⟩ => by cases h2;exact h1,fun h => ⟨c,h,rfl⟩⟩
 rw [mem] at hr
 refine zc ?_
 have hnx : basTo S n (c + 1) = if c ∈ S.bound then basTo S n c else basTo S n c ++ [bvec S n c]:=rfl
 refine br (r = false) (by rw [e_bnot hA];cases r <;> rfl) (fun cb1 => ?_) (fun cb1 => ?_) <;> refine zc ?_
 rotate_left
 ·rw [add64 hA (by omega) (by omega)]
  have cb1 : c ∈ S.bound:=hr.1 (by cases r with | true => rfl | false => exact absurd rfl cb1)
  rw [if_pos cb1] at hnx
  rw [← hnx] at eK t g
  exact ih (c + 1) (C + 1) h ao K co bl (by omega) (by omega) (by omega) eK t hf g out
 have cb1 : c ∉ S.bound:=fun q => by rw [hr.2 q] at cb1;cases cb1
 rw [if_neg cb1] at hnx
 refine zq ?_
 refine fill_ok hA (e.lowOK hlow) (M0.more e) red (Nat.lt_of_lt_of_le hsb e.next) (hba.ext e) hk (col:=c) (by omega) (by omega) m100 (by omega) hbn hl hl2 (fun i hi => hRb i c hi (by omega)) eC (.inr rfl) (fun h1 b v => ⟨_,_,_,rfl,?_⟩)
 obtain ⟨h2,w2,v2,_⟩:=v.set (i:=c) (by omega) (⟨1,1⟩ : Fc)
 have w2 : wr h1 b (place 0 C 2) [.int .i64 1,.int .i64 1] h2:=wr_ok hA (by rw [eC];exact w2)
 refine zq ?_
 have e2:=v2.ext
 have Kl:=basTo_len S n c
 refine appK_ok hA TFF hd_len (by omega) hd_ok (v:=⟨some ⟨b,0,none⟩,n,n⟩) (t.ext e2) (by omega) (fun b' h' ha hx hn' hb' hk' => ?_)
 generalize someCap 1 (K + 1) = cc' at *
 obtain ⟨K',hk2⟩ : ∃ z,z = K + 1:=⟨_,rfl⟩
 rw [← hk2] at ha ⊢
 refine zc ?_
 rw [add64 hA (by omega) (by omega)]
 have bnew : b ∉ bl:=fun q => by have:=g.ltr b q;have:=v2.old;omega
 have hB : hds n (bl ++ [b]) (basTo S n (c + 1)) = hds n bl (basTo S n c) ++ [⟨some ⟨b,0,none⟩,n,n⟩]:=by rw [hnx,hds_add g.len,bvec_len]
 have gw:=(g.more e2).add (b:=b) (r:=bvec S n c) (by
  unfold bvec
  have:=v2.own
  rw [← lb] at this
  exact this) (by have:=v2.old;have:=e.next;omega) v2.lt bnew
 rw [← hnx] at gw
 have x':=hx h0 (e.trans e2) hf
 have tlt:=t.lt
 have out' : ∀ q,q ∈ bl ++ [b] → ∀ ad,ao = some ad → ad.block ≠ q:=fun q hq ad had e1 => by
  rcases List.mem_append.1 hq with z | z
  ·exact out ad had (by rw [e1];exact z)
  ·simp only [List.mem_singleton] at z;have:=tlt ad had;have:=v2.old;omega
 have gl:=gw.ltr
 refine ih (c + 1) (C + 1) h' _ _ _ (bl ++ [b]) (by omega) (by omega) (by omega) (by rw [hnx,List.length_append];simp only [List.length_singleton];omega) (by rw [hB];exact ha) (fun ad q => by cases q;have:=e.next;have:=e2.next;simp only;omega) (gw.keep x' (by omega) (fun q hq => hk' q (gl q hq) (out' q hq))) (fun ad q z => by cases q;have:=gl _ z;simp only at this;omega)
def basL (l : List Int) : List (List Fc):=basTo (SE l (zrow (pairsL l.length).length)) (wid l) (wid l)
theorem basis_ok {h : AHeap} (hlow : h.low ≤ h.next) {a : Option Addr} {N c : Nat} {l : List Int} (hl : Is h a N l) (ln : Line l) (ok : Okay l (zrow (pairsL l.length).length)) (w100 : wid l < 50) {Q : Value → AHeap → Prop}
  (hQ : ∀ h' ao K co hs,GrR fC 2 h' ao K hs (basL l) → K = (basL l).length → Ext h h' → Q (.slice ao K co) h') : call 39 [.slice a N c] h Q:=by
 have lN:=hl.len
 have n5:=ln.n5
 have n2:=ln.n2
 have lM:=pairsL_len l.length n5
 have hM1 : 0 < (pairsL l.length).length ∧ (pairsL l.length).length ≤ 10:=by
  rw [lM]
  have : l.length = 2 ∨ l.length = 3 ∨ l.length = 4 ∨ l.length = 5:=by omega
  rcases this with e | e | e | e <;> rw [e] <;> decide
 refine hA.bodyR Try.func39 r39_ok (hA.alike _ _ _ rfl) hlow (zc ?_)
 refine pairs_ok hA hlow (by omega) (fun h2 ap M cp rp hM x2 => ⟨_,_,_,rfl,?_⟩)
 have eM : M = (pairsL l.length).length:=by rw [← rp.len,lN]
 refine zc ?_
 rw [e_ofNat hA]
 refine ⟨mk_ok hA (by omega) (Int.le_refl _) (by omega),?_⟩
 refine zc ?_
 rw [e_zeros hA,e_next hA,e_push hA,e_nat hA,show (Int.ofNat M).toNat = M from rfl,copies_int]
 have oP:=Own.push h2 1 ((zrow M).flatMap iC)
 have eP:=Ext.push h2 1 ((zrow M).flatMap iC)
 have nP : (h2.push 1 ((zrow M).flatMap iC)).next = h2.next + 1:=rfl
 generalize h2.push 1 ((zrow M).flatMap iC) = hP at *
 have zl : (zrow M).length = M:=by unfold zrow;rw [List.length_replicate]
 have rz : Is hP (some ⟨h2.next,0,none⟩) M (zrow M):=by
  have:=Own.rows oP iC_len (by omega) (by omega)
  rw [zl] at this
  exact this
 have y2:=x2.trans eP
 rw [← eM] at ok
 refine reduce_ok hA (y2.lowOK hlow) (hl.ext y2) ln rz eM ok w100 (fun h3 oa bs ba nb cb n hn M3 B3 x3 => ⟨_,_,_,_,_,_,_,_,rfl,?_⟩)
 have y3:=y2.trans x3
 obtain ⟨S,hS⟩ : ∃ z,z = SE l (zrow M):=⟨_,rfl⟩
 have hbas : basL l = basTo S n n:=by unfold basL;rw [hS,hn,eM]
 have hSr : S = run (pairsL l.length).length (S0 l (zrow M)) (wid l):=by rw [hS];rfl
 rw [← hS] at M3 B3 ⊢
 have okS:=ok (wid l) (Nat.le_refl _)
 rw [← hSr] at okS
 obtain ⟨k1,hlead,k2,k3⟩:=okS
 have lb:=B3.len
 rw [List.length_map] at lb
 obtain ⟨L,hL⟩ : ∃ z,z = S.lead:=⟨_,rfl⟩
 obtain ⟨Nn,hNn⟩ : ∃ z : Int,z = (n : Nat):=⟨_,rfl⟩
 obtain ⟨cm,hcm⟩ : ∃ z,z = someCap 1 M:=⟨_,rfl⟩
 rw [← hL,← hNn,← hcm]
 obtain ⟨h4,w4,o4,r4⟩:=(Own.push h3 4 [.slice none 0 0,.int .i64 0,.slice none 0 0,.int .i64 0]).write (o:=0) (vs:=[.slice (some ⟨oa,0,none⟩) M cm,.int .i64 Nn,.slice ba nb cb,.int .i64 L]) (Nat.le_refl _)
 have w4 : wr (push h3 4 [.slice none 0 0,.int .i64 0,.slice none 0 0,.int .i64 0]) (next h3) 0 [.slice (some ⟨oa,0,none⟩) M cm,.int .i64 Nn,.slice ba nb cb,.int .i64 L] h4:=by rw [e_push hA,e_next hA];exact wr_at hA w4
 have x4 : Ext h3 h4:=r4.ext (.push h3 4 _) (Nat.le_refl _)
 have n4 : h4.next = h3.next + 1:=by rw [r4.next];rfl
 have red : Red h4 h3.next oa M cm n ba nb cb S.lead:=by rw [← hL,← hNn];exact o4
 have q1 : rd h4 (next h3) (addN 0 1) 1 [.int .i64 Nn]:=by rw [e_addN hA,e_next hA,hNn];exact rd_at hA (Own.readG red (o:=1) (n:=1) (Nat.le_of_ble_eq_true rfl))
 refine zq ?_
 have y4:=y3.trans x4
 rw [e_next hA]
 refine bas_loop hA (y4.lowOK hlow) (M3.more x4) red (by omega) (B3.ext x4) (by omega) (by omega) (by omega) (fun x hx => ?_) k1 hlead (fun i j hi hj => k3 i j (by omega) (by omega)) hNn (fun h5 ao K co bl hK a5 g5 => ?_) n 0 0 h4 none 0 0 [] (by omega) (by omega) rfl rfl (by simpa [hds,basTo] using Apd.nil h4 1) (.none _) (by simpa [basTo] using (GrW.nil h4 fC_len (by omega))) (fun ad q => by cases q)
 ·rw [hn]
  have:=run_bound (m:=(pairsL l.length).length) (S:=S0 l (zrow M)) rfl (wid l) x (by rw [← hSr];exact hx)
  exact this
 refine zc ?_
 refine hQ h5 ao K co (hds n bl (basTo S n n)) ?_ (by rw [hbas];exact hK) (y4.trans g5.ext)
 rw [hbas]
 have e : K = (hds n bl (basTo S n n)).length:=by rw [hds_len g5.len];exact hK
 exact g5.rd ⟨by have:=a5.cells;exact this,hd_len,by omega⟩
end Go.Proofs.Ytogliemiljhliaa
