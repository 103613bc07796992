import Derived.Test.YtmkiclinllifiaaCyV
import Derived.Test.YtmkiclinllifiaaSymApp2
set_option linter.unusedSimpArgs false
set_option linter.unusedVariables false
namespace Go.Proofs.Ytmkiclinllifiaa
open Go.Sim
set_option linter.unusedVariables false
set_option maxRecDepth 100000
theorem basP_len (l : List Vk) : (basP l).length ≤ 28:=by
 have:=List.length_filter_le (fun p => decide (p ∈ l.map Vk.pr)) allP
 rw [allP_is] at this
 unfold basP
 rw [allP_is]
 simpa using this
theorem tree_pairs {l : List Vk} (hv : ∀ v ∈ l,okV v) {t : List F2} {k : Int} (h : Parts (basP l) (stS l) (fun _ => false) [] 0 t k) : ∀ p ∈ t,okP p.n p.d:=fun p hp => by
 rcases (h.grows rfl (fun x hx => by cases hx)).2 p hp with q | q
 ·cases q
 ·exact (basP_is hv).ok (okV.st hv) p q
theorem tree_pos {t : List F2} (h : ∀ p ∈ t,okP p.n p.d) : ∀ u,hasV (trT t) u = true → 0 ≤ u:=fun u hu => by
 obtain ⟨⟨a,b⟩,hp,e⟩:=hasV_mem.1 hu
 obtain ⟨h1,h2,h3,h4,_⟩:=(h _ (trT_mem.1 hp)).is
 simp only at e h1 h3
 rcases e with e | e <;> omega
variable {F : Prims} {call head arith cmp scmp bnot bsame conv neg imax imin ofNat slen place inR nz geZ rd wr push next mkOK nat zeros sadd eqAgg cut slc sslc strAt part app cpy putAt fresh lowered bump wrote addN lt ne fpAll fpApp brk yn rng mget mput mnew bytes clr mrng ment : _} (hA : AP F ⟨call,head,arith,cmp,scmp,bnot,bsame,conv,neg,imax,imin,ofNat,slen,place,inR,nz,geZ,rd,wr,push,next,mkOK,nat,zeros,sadd,eqAgg,cut,slc,sslc,strAt,part,app,cpy,putAt,fresh,lowered,bump,wrote,addN,lt,ne,fpAll,fpApp,brk,yn,rng,mget,mput,mnew,bytes,clr,mrng,ment⟩)
include hA
theorem rch_loop {h0 : AHeap} (hlow : h0.low ≤ h0.next) {P t : List F2} {a3 a5 : Option Addr} {n3 c3 n5 c5 : Nat} (ht : Rows F2.cells 2 h0 a3 n3 t) (hP : Rows F2.cells 2 h0 a5 n5 P) (hn3 : n3 ≤ 1000) (hn5 : n5 ≤ 1000) {Q : Exit → SS → Prop}
  (hQ : ∀ h' a' k c',Apd h' 2 a' k c' ((chds t P).flatMap F2.cells) → From h0.next a' → Ext h0 h' → (chds t P).length = k → Q (.exit 0) ⟨[(6,.slice a' k c')],0,[],h'⟩) :
  ∀ (m : Nat) (i : Int) (h : AHeap) (a' : Option Addr) (k c' : Nat),(n5 - i).toNat ≤ m → 0 ≤ i → i ≤ n5 → Apd h 2 a' k c' ((chds t (P.take i.toNat)).flatMap F2.cells) → From h0.next a' → Ext h0 h → (chds t (P.take i.toNat)).length = k →
   head 40 5 0 ⟨[(3,.slice a3 n3 c3),(5,.slice a5 n5 c5),(6,.slice a' k c'),(7,.int .i64 i)],0,[],h⟩ Q:=by
 have hlen:=hP.len
 intro m
 induction m with
 | zero =>
  intro i h a' k c' hm i0 i1 hp hf he hk
  refine hA.roundR Try.func40 r40_ok (zc ?_)
  refine br (i < n5) (by rw [e_lss hA,e_ofNat hA]) (fun c1 => by omega) (fun c1 => ?_) <;> refine zc ?_
  rw [List.take_of_length_le (by omega)] at hp hk
  exact hQ h a' k c' hp hf he hk
 | succ m ih =>
 intro i h a' k c' hm i0 i1 hp hf he hk
 by_cases ci : i < n5
 rotate_left
 ·refine hA.roundR Try.func40 r40_ok (zc ?_)
  refine br (i < n5) (by rw [e_lss hA,e_ofNat hA]) (fun c1 => absurd c1 ci) (fun c1 => ?_) <;> refine zc ?_
  rw [List.take_of_length_le (by omega)] at hp hk
  exact hQ h a' k c' hp hf he hk
 have e2 : arith .add .i64 i 1 = i + 1:=add64 hA (by omega) (by omega)
 obtain ⟨b,o,x,y,rfl,_,hgt,r1,_,_⟩:=fr_at (hP.ext he) (i:=i) i0 ci
 have q1:=rd_ok hA r1
 have htk:=gt_take P i0 (by omega)
 rw [hgt] at htk
 have hk1000 : k ≤ 100000:=by
  have:=List.length_filter_le (fun p => decide (p ∉ t)) (P.take i.toNat)
  have:=List.length_take_le i.toNat P
  unfold chds at hk
  omega
 refine hA.roundR Try.func40 r40_ok (zc ?_)
 refine br (i < n5) (by rw [e_lss hA,e_ofNat hA]) (fun c1 => ?_) (fun c1 => absurd ci c1) <;> refine zc ?_
 refine zq ?_
 refine has_ok hA (he.lowOK hlow) (ht.ext he) hn3 (fun r h1 hr x1 => ⟨_,rfl,?_⟩)
 refine zc ?_
 have he1:=he.trans x1
 refine br (r = false) (by rw [e_bnot hA];cases r <;> rfl) (fun c2 => ?_) (fun c2 => ?_) <;> refine zc ?_
 ·have hnt : (⟨x,y⟩ : F2) ∉ t:=fun q => by have:=hr.2 q;rw [c2] at this;cases this
  have e3 : chds t (P.take (i + 1).toNat) = chds t (P.take i.toNat) ++ [⟨x,y⟩]:=by
   unfold chds
   rw [htk,List.filter_append,List.filter_cons_of_pos (by simpa using hnt)];rfl
  obtain ⟨_,_,_,_,hc',_,hgt',r1',_,_⟩:=fr_at (hP.ext he1) (i:=i) i0 ci
  cases hc'
  rw [hgt] at hgt'
  cases hgt'
  have q1':=rd_ok hA r1'
  refine zq ?_
  refine appR_ok hA TP2 f2_len (by omega) f2_ok' (v:=⟨x,y⟩) (hp.ext x1) hk1000 (fun a2 c2' h2 hp2 hx => ?_)
  obtain ⟨x2,f2⟩:=hx h0 he1 hf
  refine zc ?_
  rw [e2]
  exact ih (i + 1) h2 a2 (k + 1) c2' (by omega) (by omega) (by omega) (by rw [e3];exact hp2) f2 x2 (by rw [e3];simp [hk])
 ·have htt : (⟨x,y⟩ : F2) ∈ t:=hr.1 (by cases r with | true => rfl | false => exact absurd rfl c2)
  have e3 : chds t (P.take (i + 1).toNat) = chds t (P.take i.toNat):=by
   unfold chds
   rw [htk,List.filter_append,List.filter_cons_of_neg (by simpa using htt)];simp
  rw [e2]
  exact ih (i + 1) h1 a' k c' (by omega) (by omega) (by omega) (by rw [e3];exact hp.ext x1) hf he1 (by rw [e3];exact hk)
theorem rchords_ok {h : AHeap} (hlow : h.low ≤ h.next) {a : Option Addr} {n c : Nat} {l : List Vk} (hl : Vs h a n l) (hv : ∀ v ∈ l,okV v) (hn : n ≤ 1000) (hd : (l.map Vk.pr).Nodup) {Q : Value → AHeap → Prop}
  (hQ : ∀ t h' a' k c' pk,Parts (basP l) (stS l) (fun _ => false) [] 0 t pk → Rows F2.cells 2 h' a' k (chds t (basP l)) → From h.next a' → Ext h h' → Q (.slice a' k c') h') :
  call 40 [.slice a n c] h Q:=by
 refine hA.bodyR Try.func40 r40_ok (hA.alike _ _ _ rfl) hlow (zc ?_)
 refine grown_ok hA hlow hl hv hn hd (fun t h1 a3 n3 c3 pk q1 q2 q3 q4 q5 => ?_)
 refine ⟨_,_,_,_,rfl,?_⟩
 refine zc ?_
 refine pairs_ok hA (q4.lowOK hlow) (hl.ext q4) hn hd (fun h2 a5 n5 c5 hP hf x2 => ?_)
 refine ⟨_,_,_,rfl,?_⟩
 refine zc ?_
 have xx:=q4.trans x2
 have hbl:=basP_len l
 have hpl:=hP.len
 refine rch_loop hA (xx.lowOK hlow) (q2.ext x2) hP (by omega) (by omega) (fun h3 a' k c' y1 y2 y3 y4 => ?_) n5 0 h2 none 0 0 (by omega) (by omega) (by omega) (Apd.nil _ _) (From.none _) (.refl _) rfl
 refine zc ?_
 exact hQ t h3 a' k c' pk q1 ⟨y1.cells,f2_len,by omega⟩ (fun ad had => by have:=y2 ad had;have:=xx.next;omega) (xx.trans y3)
theorem rtree_ok {h : AHeap} (hlow : h.low ≤ h.next) {a : Option Addr} {n c : Nat} {l : List Vk} (hl : Vs h a n l) (hn : n ≤ 1000) {Q : Value → AHeap → Prop}
  (hbad : ∀ e h',e ≠ 0 → CkR l e → Ext h h' → Q (.tuple #[.slice none 0 0,.int .i64 0,.int .i64 e]) h')
  (hok : ∀ t pk h' a' k c',CkR l 0 → Parts (basP l) (stS l) (fun _ => false) [] 0 t pk → Rows F2.cells 2 h' a' k t → From h.next a' → Ext h h' → Q (.tuple #[.slice a' k c',.int .i64 pk,.int .i64 0]) h') :
  call 11 [.slice a n c] h Q:=by
 refine hA.bodyR Try.func11 r11_ok (hA.alike _ _ _ rfl) hlow (zc ?_)
 refine rclcheck_ok hA hlow hl hn (fun e h1 ke x1 => ⟨_,rfl,?_⟩)
 refine zc ?_
 refine br (e ≠ 0) (by rw [e_neq hA]) (fun c1 => ?_) (fun c1 => ?_) <;> refine zc ?_
 ·refine rclcheck_ok hA (x1.lowOK hlow) (hl.ext x1) hn (fun e' h2 ke' x2 => ⟨_,rfl,?_⟩)
  refine zc ?_
  obtain rfl:=ke.uniq ke'
  exact hbad e h2 c1 ke (x1.trans x2)
 have e0 : e = 0:=by omega
 subst e0
 obtain ⟨k1,k2,k3⟩:=ke.ok0
 refine grown_ok hA (x1.lowOK hlow) (hl.ext x1) k2 hn k3 (fun t h2 a' k c' pk q1 q2 q3 q4 q5 => ?_)
 refine ⟨_,_,_,_,rfl,?_⟩
 refine zc ?_
 exact hok t pk h2 a' k c' ke q1 q2 (fun ad had => by have:=q3 ad had;have:=x1.next;omega) (x1.trans q4)
theorem rChords_ok {h : AHeap} (hlow : h.low ≤ h.next) {a : Option Addr} {n c : Nat} {l : List Vk} (hl : Vs h a n l) (hn : n ≤ 1000) {Q : Value → AHeap → Prop}
  (hbad : ∀ e h',e ≠ 0 → CkR l e → Ext h h' → Q (.tuple #[.slice none 0 0,.int .i64 e]) h')
  (hok : ∀ t pk h' a' k c',CkR l 0 → Parts (basP l) (stS l) (fun _ => false) [] 0 t pk → Rows F2.cells 2 h' a' k (chds t (basP l)) → From h.next a' → Ext h h' → Q (.tuple #[.slice a' k c',.int .i64 0]) h') :
  call 13 [.slice a n c] h Q:=by
 refine hA.bodyR Try.func13 r13_ok (hA.alike _ _ _ rfl) hlow (zc ?_)
 refine rclcheck_ok hA hlow hl hn (fun e h1 ke x1 => ⟨_,rfl,?_⟩)
 refine zc ?_
 refine br (e ≠ 0) (by rw [e_neq hA]) (fun c1 => ?_) (fun c1 => ?_) <;> refine zc ?_
 ·refine rclcheck_ok hA (x1.lowOK hlow) (hl.ext x1) hn (fun e' h2 ke' x2 => ⟨_,rfl,?_⟩)
  refine zc ?_
  obtain rfl:=ke.uniq ke'
  exact hbad e h2 c1 ke (x1.trans x2)
 have e0 : e = 0:=by omega
 subst e0
 obtain ⟨k1,k2,k3⟩:=ke.ok0
 refine rchords_ok hA (x1.lowOK hlow) (hl.ext x1) k2 hn k3 (fun t h2 a' k c' pk q1 q2 q3 q4 => ?_)
 refine ⟨_,_,_,rfl,?_⟩
 refine zc ?_
 exact hok t pk h2 a' k c' ke q1 q2 (fun ad had => by have:=q3 ad had;have:=x1.next;omega) (x1.trans q4)
theorem rWay_ok {h : AHeap} (hlow : h.low ≤ h.next) {a : Option Addr} {n c : Nat} {l : List Vk} (hl : Vs h a n l) (hn : n ≤ 1000) {x y : Int} {Q : Value → AHeap → Prop}
  (hbad : ∀ e h',e ≠ 0 → CkR l e → Ext h h' → Q (.tuple #[.slice none 0 0,.int .i64 e]) h')
  (harg : ∀ h',CkR l 0 → ¬ (stS l x ∧ stS l y) → Ext h h' → Q (.tuple #[.slice none 0 0,.int .i64 2]) h')
  (hno : ∀ t pk h',CkR l 0 → stS l x → stS l y → Parts (basP l) (stS l) (fun _ => false) [] 0 t pk → pathR (trT t) x y = none → Ext h h' → Q (.tuple #[.slice none 0 0,.int .i64 6]) h')
  (hok : ∀ t pk h' a' c' p,CkR l 0 → stS l x → stS l y → Parts (basP l) (stS l) (fun _ => false) [] 0 t pk → pathR (trT t) x y = some p → Rows iC 1 h' a' p.length p → From h.next a' → Ext h h' → Q (.tuple #[.slice a' p.length c',.int .i64 0]) h') :
  call 17 [.slice a n c,.int .i64 x,.int .i64 y] h Q:=by
 refine hA.bodyR Try.func17 r17_ok (hA.alike _ _ _ rfl) hlow (zc ?_)
 refine rclcheck_ok hA hlow hl hn (fun e h1 ke x1 => ⟨_,rfl,?_⟩)
 refine zc ?_
 refine br (e ≠ 0) (by rw [e_neq hA]) (fun c1 => ?_) (fun c1 => ?_) <;> refine zc ?_
 ·refine rclcheck_ok hA (x1.lowOK hlow) (hl.ext x1) hn (fun e' h2 ke' x2 => ⟨_,rfl,?_⟩)
  refine zc ?_
  obtain rfl:=ke.uniq ke'
  exact hbad e h2 c1 ke (x1.trans x2)
 have e0 : e = 0:=by omega
 subst e0
 obtain ⟨k1,k2,k3⟩:=ke.ok0
 refine in_st hA (x1.lowOK hlow) (hl.ext x1) hn (fun b1 h2 s1 x2 => ⟨_,rfl,?_⟩)
 refine zc ?_
 have xx2:=x1.trans x2
 refine br (b1 = false) (by rw [e_bnot hA];cases b1 <;> rfl) (fun c2 => ?_) (fun c2 => ?_) <;> refine zc ?_
 ·exact harg h2 ke (fun z => by have:=s1.2 z.1;rw [c2] at this;cases this) xx2
 have t1:=s1.1 (by cases b1 with | true => rfl | false => exact absurd rfl c2)
 refine in_st hA (xx2.lowOK hlow) (hl.ext xx2) hn (fun b2 h3 s2 x3 => ⟨_,rfl,?_⟩)
 refine zc ?_
 have xx3:=xx2.trans x3
 refine br (b2 = false) (by rw [e_bnot hA];cases b2 <;> rfl) (fun c3 => ?_) (fun c3 => ?_) <;> refine zc ?_
 ·exact harg h3 ke (fun z => by have:=s2.2 z.2;rw [c3] at this;cases this) xx3
 have t2:=s2.1 (by cases b2 with | true => rfl | false => exact absurd rfl c3)
 refine grown_ok hA (xx3.lowOK hlow) (hl.ext xx3) k2 hn k3 (fun t h4 a' k c' pk q1 q2 q3 q4 q5 => ?_)
 refine ⟨_,_,_,_,rfl,?_⟩
 refine zc ?_
 have xx4:=xx3.trans q4
 have hg:=parts_grows q1
 have hst:=okV.st k2
 have tok:=tree_pairs k2 q1
 obtain ⟨x0,x8⟩:=stS_pos hst t1
 have htop : findS (trT t) x y (-1) = pathR (trT t) x y:=findS_top hg (tree_pos tok) x0
 refine find_ok hA q5 tok hg 8 x y (-1) h4 (cntD_le _ _ _) x0 x8 (xx4.lowOK hlow) q2 _ ⟨fun hf h5 x5 => ?_,fun r hf h5 a5 c5 _ hr hfr x5 => ?_⟩
 ·refine ⟨_,_,_,rfl,?_⟩
  refine zc ?_
  refine br (((0 : Nat) : Int) = 0) (by rw [e_eql hA,e_ofNat hA]) (fun c4 => ?_) (fun c4 => absurd rfl c4) <;> refine zc ?_
  exact hno t pk h5 ke t1 t2 q1 (by rw [← htop];exact hf) (xx4.trans x5)
 ·obtain ⟨rn,hrn⟩ : ∃ z,z = r.length:=⟨_,rfl⟩
  have hrl:=findS_len hg hf
  rw [← hrn] at hr hrl ⊢
  refine ⟨_,_,_,rfl,?_⟩
  refine zc ?_
  refine br ((rn : Int) = 0) (by rw [e_eql hA,e_ofNat hA]) (fun c4 => by omega) (fun c4 => ?_) <;> refine zc ?_
  subst hrn
  exact hok t pk h5 a5 c5 r ke t1 t2 q1 (by rw [← htop];exact hf) hr (fun ad had => by have:=hfr ad had;have:=xx4.next;omega) (xx4.trans x5)
end Go.Proofs.Ytmkiclinllifiaa
namespace Go.Proofs.Ytmkiclinllifiaa
open Go.Sim
set_option linter.unusedVariables false
set_option maxRecDepth 100000
variable {F : Prims} {call head arith cmp scmp bnot bsame conv neg imax imin ofNat slen place inR nz geZ rd wr push next mkOK nat zeros sadd eqAgg cut slc sslc strAt part app cpy putAt fresh lowered bump wrote addN lt ne fpAll fpApp brk yn rng mget mput mnew bytes clr mrng ment : _} (hA : AP F ⟨call,head,arith,cmp,scmp,bnot,bsame,conv,neg,imax,imin,ofNat,slen,place,inR,nz,geZ,rd,wr,push,next,mkOK,nat,zeros,sadd,eqAgg,cut,slc,sslc,strAt,part,app,cpy,putAt,fresh,lowered,bump,wrote,addN,lt,ne,fpAll,fpApp,brk,yn,rng,mget,mput,mnew,bytes,clr,mrng,ment⟩)
include hA
theorem rows_low {α : Type} {enc : α → List Value} {es : Nat} {h9 hz hX : AHeap} {a : Option Addr} {n : Nat} {l : List α} (hr : Rows enc es hz a n l) (e : hX = lowered h9 hz) : Rows enc es hX a n l:=by
 rw [e_lowered hA] at e
 refine ⟨cells_of' hr.cells (fun ad had => ?_),hr.each,hr.pos⟩
 have:=hr.cells
 rw [had] at this
 rw [e]
 exact ⟨this.2.1,rfl⟩
theorem rba_loop {h0 : AHeap} (hlow0 : h0.low ≤ h0.next) {C t : List F2} {a3 a5 : Option Addr} {n3 c3 n c : Nat} (ht : Rows F2.cells 2 h0 a3 n3 t) (hl : Rows F2.cells 2 h0 a5 n C) (hn3 : n3 ≤ 8) (hn : n ≤ 1000) (hok : ∀ p ∈ t,okP p.n p.d) (hCok : ∀ p ∈ C,okP p.n p.d) (hg : grows (trT t) = true)
  (hc : ∀ p ∈ C,Conn (trT t) p.d p.n ∧ p.n ≠ p.d) {Q : Exit → SS → Prop}
  (hQ : ∀ h' a' c' hs,BaI h0 a' n c' hs (C.map (circF t)) h' → Q (.exit 0) ⟨[(6,.slice a' n c')],0,[],h'⟩) :
  ∀ (m : Nat) (i : Int) (h : AHeap) (a' : Option Addr) (k c' : Nat) (hs : List Hd),(n - i).toNat ≤ m → 0 ≤ i → i ≤ n → (k : Int) = i → BaI h0 a' k c' hs ((C.take i.toNat).map (circF t)) h →
   head 42 5 0 ⟨[(3,.slice a3 n3 c3),(5,.slice a5 n c),(6,.slice a' k c'),(7,.int .i64 i)],0,[],h⟩ Q:=by
 have hlen:=hl.len
 intro m
 induction m with
 | zero =>
  intro i h a' k c' hs hm' i0 i1 hk hb
  obtain rfl : k = n:=by omega
  refine hA.roundR Try.func42 r42_ok (zc ?_)
  refine br (i < k) (by rw [e_lss hA,e_ofNat hA]) (fun c1 => by omega) (fun c1 => ?_) <;> refine zc ?_
  rw [List.take_of_length_le (by omega)] at hb
  exact hQ h a' c' hs hb
 | succ m ih =>
 intro i h a' k c' hs hm' i0 i1 hk hb
 by_cases ci : i < n
 rotate_left
 ·obtain rfl : k = n:=by omega
  refine hA.roundR Try.func42 r42_ok (zc ?_)
  refine br (i < k) (by rw [e_lss hA,e_ofNat hA]) (fun c1 => absurd c1 ci) (fun c1 => ?_) <;> refine zc ?_
  rw [List.take_of_length_le (by omega)] at hb
  exact hQ h a' c' hs hb
 obtain ⟨h9,hh9⟩ : ∃ z,z = bump h 13:=⟨_,rfl⟩
 have e9 : Ext h h9:=by rw [hh9];exact ext_bump hA _ _
 have b9:=hb.more e9
 obtain ⟨bb,o,x,y,rfl,hbb,hgt,r1,f0,f1⟩:=fr_at (hl.ext b9.ext) (i:=i) i0 ci
 have p1 : rd h9 bb (addN (place o i 2) 0) 1 [.int .i64 x]:=rd_fld hA f0
 have p2 : rd h9 bb (addN (place o i 2) 1) 1 [.int .i64 y]:=rd_fld hA f1
 have e2 : arith .add .i64 i 1 = i + 1:=add64 hA (by omega) (by omega)
 have hmem : (⟨x,y⟩ : F2) ∈ C:=by rw [← hgt];exact gt_mem C i0 (by omega)
 obtain ⟨x0,x8,y0,y8,_⟩:=(hCok _ hmem).is
 obtain ⟨⟨w,hw⟩,hxy⟩:=hc _ hmem
 simp only at x0 x8 y0 y8 hw hxy
 obtain ⟨⟨w1,hw1⟩,w2,hw2⟩:=path_ends hg hw
 have wl:=path_len hg hw
 have htl : (trT t).length = t.length:=by unfold trT;simp
 have htn:=ht.len
 have htop : findS (trT t) y x (-1) = some w:=by rw [findS_top hg (tree_pos hok) y0];exact hw
 refine hA.roundR Try.func42 r42_ok (zc ?_)
 refine br (i < n) (by rw [e_lss hA,e_ofNat hA]) (fun c1 => ?_) (fun c1 => absurd ci c1) <;> refine zc ?_
 rw [← hh9]
 refine zq ?_
 refine find_ok hA hn3 hok hg 8 y x (-1) (fresh h9) (cntD_le _ _ _) y0 y8 (low_fresh hA h9) ((ht.ext b9.ext).ext (ext_fresh hA h9)) _ ⟨fun hf => absurd (htop.symm.trans hf) (by simp),fun r hf hz aw cw hcap hr hfr ez => ?_⟩
 obtain rfl : w = r:=by rw [htop] at hf;exact Option.some.inj hf
 refine ⟨_,_,_,rfl,?_⟩
 obtain ⟨wn,hwn⟩ : ∃ z,z = w.length:=⟨_,rfl⟩
 rw [← hwn] at hr hcap ⊢
 have l9:=b9.ext.lowOK hlow0
 obtain ⟨hX,hhX⟩ : ∃ z,z = lowered h9 hz:=⟨_,rfl⟩
 have lowh:=hb.ext.lowOK hlow0
 have eX : Ext h hX:=by rw [hhX];exact ext_low hA lowh e9 ez
 have bX:=hb.more eX
 have lX:=bX.ext.lowOK hlow0
 have hrX : Rows iC 1 hX aw wn w:=rows_low hA hr hhX
 refine zc ?_
 rw [← hhX]
 obtain ⟨h10,hh10⟩ : ∃ z,z = bump hX 16:=⟨_,rfl⟩
 have e10 : Ext hX h10:=by rw [hh10];exact ext_bump hA _ _
 rw [← hh10]
 obtain ⟨_,_,_,_,hc',_,hgt',_,f0',f1'⟩:=fr_at (hl.ext (bX.ext.trans e10)) (i:=i) i0 ci
 cases hc'
 rw [hgt] at hgt'
 cases hgt'
 have p1' : rd h10 bb (addN (place o i 2) 0) 1 [.int .i64 x]:=rd_fld hA f0'
 refine zq ?_
 have wpos : 2 ≤ wn:=by
  rw [hwn,hw1]
  cases w1 with
  | nil => exact absurd (path_one hg (hw.trans (congrArg some hw1))).symm hxy
  | cons => simp
 obtain ⟨z,hz'⟩ : ∃ z : Int,z = wn - 1:=⟨_,rfl⟩
 rw [e_ofNat hA,sub64 hA (by omega) (by omega),← hz']
 refine ⟨by rw [e_cut hA];omega,?_⟩
 simp only [e_nat hA]
 obtain ⟨zn,hzn⟩ : ∃ q,q = z.toNat:=⟨_,rfl⟩
 rw [← hzn]
 have hi1 : addN (next hX) 6 = hX.next + 6:=by rw [e_addN hA,e_next hA]
 obtain ⟨i1,hi1'⟩ : ∃ q,q = addN (next hX) 6:=⟨_,rfl⟩
 rw [← hi1'] at hi1 ⊢
 have n10 : h10.next = hX.next + 16:=by rw [hh10,e_bump hA];rfl
 have nX:=eX.next
 obtain ⟨xPX,oP,nP,gP⟩:=put_ext hA e10 (i:=i1) (es:=1) (by omega) [Value.int .i64 x]
 obtain ⟨P,hP⟩ : ∃ q,q = putAt h10 i1 1 [Value.int .i64 x]:=⟨_,rfl⟩
 rw [← hP] at xPX oP nP gP ⊢
 refine zq ?_
 have xP:=eX.trans xPX
 have oPF : Own (fresh P) i1 1 [Value.int .i64 x]:=oP.ext (ext_fresh hA P) (by omega)
 have nPF : (fresh P).next = P.next:=by rw [e_fresh hA];rfl
 have hnews : Cells (fresh P) aw zn 1 (w.dropLast.flatMap iC):=by
  have h1:=((hrX.ext xPX).ext (ext_fresh hA P)).cells.head (m:=zn) (by omega)
  rw [Nat.mul_one,iC_flat,← List.map_take,show w.take zn = w.dropLast by rw [List.dropLast_eq_take];congr 1;omega,← iC_flat] at h1
  exact h1
 have a9:=append_full3 (P:=Try.prog) (t2:=38) TI1 TI1.und (n:=1) oPF (by omega) (by rfl) (by omega) hnews (c2:=cw) (by rfl) (all_flat iC_ok _) (by omega) (by omega)
 refine app_ok hA a9 ?_
 have hcirc : [Value.int .i64 x] ++ w.dropLast.flatMap iC = (circF t ⟨x,y⟩).flatMap iC:=by
  unfold circF
  simp only [hw,Option.getD_some,List.flatMap_cons]
  rfl
 rw [hcirc]
 obtain ⟨cn,hcn⟩ : ∃ q,q = 1 + zn:=⟨_,rfl⟩
 have lc : (circF t ⟨x,y⟩).length = cn:=by
  unfold circF
  simp only [hw,Option.getD_some,List.length_cons,List.length_dropLast]
  omega
 rw [← hcn]
 obtain ⟨c9,hc9⟩ : ∃ z,z = someCap 1 cn:=⟨_,rfl⟩
 rw [← hc9]
 have eg:=Ext.push (fresh P) 1 ((circF t ⟨x,y⟩).flatMap iC)
 have og:=Own.push (fresh P) 1 ((circF t ⟨x,y⟩).flatMap iC)
 have ng : ((fresh P).push 1 ((circF t ⟨x,y⟩).flatMap iC)).next = (fresh P).next + 1:=rfl
 generalize (fresh P).push 1 ((circF t ⟨x,y⟩).flatMap iC) = hZ at *
 obtain ⟨bg,hbg⟩ : ∃ z,z = (fresh P).next:=⟨_,rfl⟩
 rw [← hbg] at og ⊢
 obtain ⟨X2,hX2⟩ : ∃ q,q = lowered P hZ:=⟨_,rfl⟩
 have x2 : Ext h X2:=by rw [hX2];exact ext_low hA lowh xP eg
 have o2 : Own X2 bg 1 ((circF t ⟨x,y⟩).flatMap iC):=by rw [hX2,e_lowered hA];exact og
 have n2 : X2.next = hZ.next:=by rw [hX2,e_lowered hA];rfl
 refine zc ?_
 rw [← hX2]
 have hi2 : addN (next hX) 13 = hX.next + 13:=by rw [e_addN hA,e_next hA]
 obtain ⟨i2,hi2'⟩ : ∃ q,q = addN (next hX) 13:=⟨_,rfl⟩
 rw [← hi2'] at hi2 ⊢
 have hk5 : k ≤ 100000:=by omega
 have lt0 : h0.next ≤ h.next:=hb.ext.next
 have n9:=e9.next
 refine appKD_ok hA TL1 hd_len (by omega) hd_ok (X:=X2) (i:=i2) (v:=⟨some ⟨bg,0,none⟩,cn,c9⟩) (by omega) (hb.hd.ext x2) (fun ad had => by have:=hb.hd.lt ad had;omega) hk5 (fun b2 h' hp2 hb2 hnx hkeep hx => ?_)
 have xE0:=hx h0 (hb.ext.trans x2) hlow0 (by omega) hb.fr
 generalize someCap 1 (k + 1) = sc at *
 obtain ⟨hE,hhE⟩ : ∃ q,q = lowered (putAt X2 i2 1 (Hd.cells ⟨some ⟨bg,0,none⟩,cn,c9⟩)) h':=⟨_,rfl⟩
 rw [← hhE] at hp2 hnx hkeep xE0
 refine zc ?_
 have hhE' : hE = lowered (putAt X2 i2 1 [.slice (some ⟨bg,0,none⟩) cn c9]) h':=hhE
 rw [← hhE',e2]
 refine ih (i + 1) hE (some ⟨b2,0,none⟩) (k + 1) sc (hs ++ [⟨some ⟨bg,0,none⟩,cn,c9⟩]) (by omega) (by omega) (by omega) (by omega) ?_
 rw [gt_take C i0 (by omega),List.map_append,hgt,List.map_singleton]
 have lh:=hb.lh
 have lg:=hb.lg
 refine ⟨xE0,hp2,fun ad had => by cases had;show h0.next ≤ b2;omega,by simp [lh],by rw [List.length_append,lg];rfl,fun y' y0 y1 => ?_⟩
 have old : ∀ {α : Type} [Inhabited α] (l : List α) (v : α),l.length = k → y' < k → gt (l ++ [v]) y' = gt l y':=fun l v hl hy => by
  unfold gt
  rw [List.getD_eq_getElem?_getD,List.getD_eq_getElem?_getD,List.getElem?_append_left (by omega)]
 have new : ∀ {α : Type} [Inhabited α] (l : List α) (v : α),l.length = k → ¬ y' < k → gt (l ++ [v]) y' = v:=fun l v hl hy => by
  unfold gt
  rw [List.getD_eq_getElem?_getD,List.getElem?_append_right (by omega),show y'.toNat - l.length = 0 by omega]
  rfl
 by_cases cy : y' < k
 ·rw [old hs _ lh cy,old _ _ lg cy]
  obtain ⟨r1,r2⟩:=hb.row y' y0 cy
  have rl : ∀ ad,(gt hs y').a = some ad → ad.block < h.next:=fun ad had => by have:=r1.cells;rw [had] at this;exact this.2.1
  refine ⟨⟨cells_of' r1.cells (fun ad had => ⟨by have:=rl ad had;omega,?_⟩),r1.each,r1.pos⟩,fun ad had => ⟨(r2 ad had).1,fun ad' had' => ?_⟩⟩
  ·rw [hkeep _ (by have:=rl ad had;omega) (by have:=rl ad had;omega) (fun ad' had' e => (r2 ad had).2 ad' had' e.symm)]
   exact x2.get _ (rl ad had)
  ·cases had'
   have:=rl ad had
   show ad.block ≠ b2
   omega
 ·rw [new hs _ lh cy,new _ _ lg cy]
  have ogE : Own hE bg 1 ((circF t ⟨x,y⟩).flatMap iC):=by
   unfold Own
   rw [hkeep bg (by omega) (by omega) (fun ad had e => by have:=hb.hd.lt ad had;omega)]
   exact o2
  refine ⟨?_,fun ad had => ⟨by cases had;show h0.next < bg;omega,fun ad' had' => by cases had;cases had';show bg ≠ b2;omega⟩⟩
  have:=Own.rows ogE iC_len (by omega) (by omega)
  rw [lc] at this
  exact this
theorem rbasis_ok {h : AHeap} (hlow : h.low ≤ h.next) {a : Option Addr} {n c : Nat} {l : List Vk} (hl : Vs h a n l) (hv : ∀ v ∈ l,okV v) (hn : n ≤ 1000) (hd : (l.map Vk.pr).Nodup) {Q : Value → AHeap → Prop}
  (hQ : ∀ t pk h' a' k c' hs',Parts (basP l) (stS l) (fun _ => false) [] 0 t pk → GrR iC 1 h' a' k hs' ((chds t (basP l)).map (circF t)) → From h.next a' → Ext h h' → Q (.slice a' k c') h') :
  call 42 [.slice a n c] h Q:=by
 refine hA.bodyR Try.func42 r42_ok (hA.alike _ _ _ rfl) hlow (zc ?_)
 refine grown_ok hA hlow hl hv hn hd (fun t h1 a3 n3 c3 pk q1 q2 q3 q4 q5 => ?_)
 refine ⟨_,_,_,_,rfl,?_⟩
 refine zc ?_
 refine rchords_ok hA (q4.lowOK hlow) (hl.ext q4) hv hn hd (fun t2 h2 a5 n5 c5 pk2 y1 y2 y3 y4 => ?_)
 obtain ⟨rfl,_⟩:=q1.uniq y1
 refine ⟨_,_,_,rfl,?_⟩
 refine zc ?_
 have xx:=q4.trans y4
 have hk : n5 ≤ 1000:=by
  have h5:=y2.len
  have h6:=List.length_filter_le (fun p => decide (p ∉ t)) (basP l)
  have:=basP_len l
  unfold chds at h5
  omega
 have hst:=okV.st hv
 have hC : ∀ p ∈ chds t (basP l),okP p.n p.d:=fun p hp => (basP_is hv).ok hst p (List.mem_filter.1 hp).1
 refine rba_loop hA (xx.lowOK hlow) (q2.ext y4) y2 q5 hk (tree_pairs hv q1) hC (parts_grows q1) (chds_ok hst (okV.lt hv) (basP_is hv) q1) (fun h3 a' c' hs' b => ?_) n5 0 h2 none 0 0 [] (by omega) (by omega) (by omega) rfl ⟨.refl _,Apd.nil _ _,From.none _,rfl,rfl,fun y y0 y1 => by omega⟩
 refine zc ?_
 exact hQ t pk h3 a' n5 c' hs' q1 ⟨⟨b.hd.cells,hd_len,by omega⟩,b.lg,fun y y0 y1 => (b.row y y0 y1).1⟩ (fun ad had => by have:=b.fr ad had;have:=xx.next;omega) (xx.trans b.ext)
theorem rBasis_ok {h : AHeap} (hlow : h.low ≤ h.next) {a : Option Addr} {n c : Nat} {l : List Vk} (hl : Vs h a n l) (hn : n ≤ 1000) {Q : Value → AHeap → Prop}
  (hbad : ∀ e h',e ≠ 0 → CkR l e → Ext h h' → Q (.tuple #[.slice none 0 0,.int .i64 e]) h')
  (hok : ∀ t pk h' a' k c' hs',CkR l 0 → Parts (basP l) (stS l) (fun _ => false) [] 0 t pk → GrR iC 1 h' a' k hs' ((chds t (basP l)).map (circF t)) → From h.next a' → Ext h h' → Q (.tuple #[.slice a' k c',.int .i64 0]) h') :
  call 15 [.slice a n c] h Q:=by
 refine hA.bodyR Try.func15 r15_ok (hA.alike _ _ _ rfl) hlow (zc ?_)
 refine rclcheck_ok hA hlow hl hn (fun e h1 ke x1 => ⟨_,rfl,?_⟩)
 refine zc ?_
 refine br (e ≠ 0) (by rw [e_neq hA]) (fun c1 => ?_) (fun c1 => ?_) <;> refine zc ?_
 ·refine rclcheck_ok hA (x1.lowOK hlow) (hl.ext x1) hn (fun e' h2 ke' x2 => ⟨_,rfl,?_⟩)
  refine zc ?_
  obtain rfl:=ke.uniq ke'
  exact hbad e h2 c1 ke (x1.trans x2)
 have e0 : e = 0:=by omega
 subst e0
 obtain ⟨k1,k2,k3⟩:=ke.ok0
 refine rbasis_ok hA (x1.lowOK hlow) (hl.ext x1) k2 hn k3 (fun t pk h2 a' k c' hs' q1 q2 q3 q4 => ?_)
 refine ⟨_,_,_,rfl,?_⟩
 refine zc ?_
 exact hok t pk h2 a' k c' hs' ke q1 q2 (fun ad had => by have:=q3 ad had;have:=x1.next;omega) (x1.trans q4)
end Go.Proofs.Ytmkiclinllifiaa
