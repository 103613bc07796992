import Derived.Test.YtogliemiljhliaaRdSb
import Derived.Test.YtogliemiljhliaaRdT
import Derived.Test.YtogliemiljhliaaRdV
set_option linter.unusedSimpArgs false
set_option linter.unusedVariables false
namespace Go.Proofs.Ytogliemiljhliaa
open Go.Sim
set_option linter.unusedVariables false
set_option maxRecDepth 100000
variable {F : Prims} {call head arith cmp scmp bnot bsame conv neg imax imin ofNat slen place inR nz geZ rd wr push next mkOK nat zeros sadd eqAgg cut slc sslc strAt part app cpy putAt fresh lowered bump wrote addN lt ne fpAll fpApp brk yn rng mget mput mnew bytes clr : _} (hA : AP F ⟨call,head,arith,cmp,scmp,bnot,bsame,conv,neg,imax,imin,ofNat,slen,place,inR,nz,geZ,rd,wr,push,next,mkOK,nat,zeros,sadd,eqAgg,cut,slc,sslc,strAt,part,app,cpy,putAt,fresh,lowered,bump,wrote,addN,lt,ne,fpAll,fpApp,brk,yn,rng,mget,mput,mnew,bytes,clr⟩)
include hA
theorem rph_loop {h : AHeap} {a : Option Addr} {M cp : Nat} {l : List Int} (hl : Is h a M l) (hM : M ≤ 100000) {v0 : Value} {Q : Exit → SS → Prop}
  (hret : ¬ (∀ i : Int,0 ≤ i → i < M → phOk (gt l i)) → ∀ e kn T,Q .ret ⟨(4,.bool false) :: e,kn,T,h⟩)
  (h9 : (∀ i : Int,0 ≤ i → i < M → phOk (gt l i)) → Q (.exit 0) ⟨[(0,v0),(1,.slice a M cp)],0,[],h⟩) :
  ∀ (d : Nat) (i : Int),(M - i).toNat = d → 0 ≤ i → i ≤ M → (∀ j : Int,0 ≤ j → j < i → phOk (gt l j)) →
   head 32 2 0 ⟨[(0,v0),(1,.slice a M cp),(5,.int .i64 i)],0,[],h⟩ Q:=by
 intro d
 induction d with
 | zero =>
  intro i hd i0 i1 hp
  refine hA.roundR Try.func32 r32_ok (zc ?_)
  refine br (i < (M : Int)) (by rw [e_lss hA,e_ofNat hA]) (fun q => by omega) (fun _ => ?_) <;> refine zc ?_
  exact h9 (fun j j0 j1 => hp j j0 (by omega))
 | succ d ih =>
 intro i hd i0 i1 hp
 obtain ⟨pb,po,x,ea,_,hx,r1⟩:=is_at hl (i:=i) i0 (by omega)
 subst ea
 have r1:=rd_ok hA r1
 refine hA.roundR Try.func32 r32_ok (zc ?_)
 refine br (i < (M : Int)) (by rw [e_lss hA,e_ofNat hA]) (fun _ => ?_) (fun q => by omega) <;> refine zc ?_
 refine zq ?_
 refine br (x < -99) (by rw [e_lss hA]) (fun c => ?_) (fun c => ?_) <;> refine zc ?_
 ·refine zq ?_
  exact hret (fun q => by have:=q i i0 (by omega);unfold phOk at this;omega) _ _ _
 refine zq ?_
 refine br (99 < x) (by rw [e_gtr hA]) (fun c2 => ?_) (fun c2 => ?_) <;> refine zc ?_
 ·refine zq ?_
  exact hret (fun q => by have:=q i i0 (by omega);unfold phOk at this;omega) _ _ _
 refine zq ?_
 rw [add64 hA (by omega) (by omega)]
 exact ih (i + 1) (by omega) (by omega) (by omega) (fun j j0 j1 => by
  by_cases e : j = i
  ·rw [e,hx];exact ⟨by omega,by omega⟩
  ·exact hp j j0 (by omega))
theorem rph_ok {h : AHeap} (hlow : h.low ≤ h.next) {a : Option Addr} {N c : Nat} {l : List Int} (hl : Is h a N l) (ln : Line l) {ar : Option Addr} {M cr : Nat} {ph : List Int} (hr : Is h ar M ph) (hM : M ≤ 100000) {Q : Value → AHeap → Prop}
  (hQ : ∀ r : Bool,(r = true ↔ phsOk l ph) → Q (.bool r) h) : call 32 [.slice a N c,.slice ar M cr] h Q:=by
 have lN:=hl.len
 have lM:=hr.len
 have n2:=ln.n2
 have n5:=ln.n5
 refine hA.bodyR Try.func32 r32_ok (hA.alike _ _ _ rfl) hlow (zc ?_)
 refine rph_loop hA hr hM (fun hn e kn T => ?_) (fun hp => ?_) M 0 (by omega) (by omega) (by omega) (fun j j0 j1 => by omega)
 ·refine zc ?_
  exact hQ false ⟨fun q => (by cases q),fun q => absurd (fun i i0 i1 => q.2 i i0 (by omega)) hn⟩
 refine zc ?_
 obtain ⟨P,hP⟩ : ∃ z,z = (pairsL l.length).length:=⟨_,rfl⟩
 have hV : ∃ V : Int,arith .mul .i64 (ofNat N) (arith .sub .i64 (ofNat N) 1) = V ∧ arith .quo .i64 V 2 = (P : Int):=by
  have lp:=pairsL_len l.length n5
  have hN : N = 2 ∨ N = 3 ∨ N = 4 ∨ N = 5:=by omega
  rw [e_ofNat hA]
  rcases hN with rfl | rfl | rfl | rfl
  ·exact ⟨2,by rw [sub64 hA (by omega) (by omega),mul64 hA (by decide) (by decide)];rfl,by rw [quo64 hA (by omega) (by omega) (by omega),hP,lp,lN];decide⟩
  ·exact ⟨6,by rw [sub64 hA (by omega) (by omega),mul64 hA (by decide) (by decide)];rfl,by rw [quo64 hA (by omega) (by omega) (by omega),hP,lp,lN];decide⟩
  ·exact ⟨12,by rw [sub64 hA (by omega) (by omega),mul64 hA (by decide) (by decide)];rfl,by rw [quo64 hA (by omega) (by omega) (by omega),hP,lp,lN];decide⟩
  ·exact ⟨20,by rw [sub64 hA (by omega) (by omega),mul64 hA (by decide) (by decide)];rfl,by rw [quo64 hA (by omega) (by omega) (by omega),hP,lp,lN];decide⟩
 obtain ⟨V,hV1,hV2⟩:=hV
 rw [hV1]
 refine ⟨nz_ok hA (by omega),?_⟩
 refine zc ?_
 rw [hV2,e_ofNat hA,e_eql hA]
 refine hQ _ ⟨fun q => ?_,fun q => decide_eq_true (by have:=q.1;omega)⟩
 have:=of_decide_eq_true q
 exact ⟨by omega,fun i i0 i1 => hp i i0 (by omega)⟩
end Go.Proofs.Ytogliemiljhliaa
namespace Go.Proofs.Ytogliemiljhliaa
open Go.Sim
set_option linter.unusedVariables false
set_option maxRecDepth 100000
variable {F : Prims} {call head arith cmp scmp bnot bsame conv neg imax imin ofNat slen place inR nz geZ rd wr push next mkOK nat zeros sadd eqAgg cut slc sslc strAt part app cpy putAt fresh lowered bump wrote addN lt ne fpAll fpApp brk yn rng mget mput mnew bytes clr : _} (hA : AP F ⟨call,head,arith,cmp,scmp,bnot,bsame,conv,neg,imax,imin,ofNat,slen,place,inR,nz,geZ,rd,wr,push,next,mkOK,nat,zeros,sadd,eqAgg,cut,slc,sslc,strAt,part,app,cpy,putAt,fresh,lowered,bump,wrote,addN,lt,ne,fpAll,fpApp,brk,yn,rng,mget,mput,mnew,bytes,clr⟩)
include hA
theorem rrest_loop {h0 h : AHeap} {oa cp m n k om : Nat} {bs : Nat → Nat} {S : St} {ba : Option Addr} {nb cb : Nat} (t : MatW fC 2 cp h0 h oa bs m (n + 1) (frM S)) (hl : S.lead ≠ 0) (hk : k ≤ m) (m100 : m ≤ 100) {v0 : Value} {N : Int} (eN : N = n) {T : List (Nat × List Value)} {Q : Exit → SS → Prop}
  (hret : ¬ (∀ i,k ≤ i → i < m → S.R i n = 0) → ∀ e kn T',Q .ret ⟨(6,.int .i64 6) :: (5,.slice none 0 0) :: (4,.slice none 0 0) :: e,kn,T',h⟩)
  (h9 : (∀ i,k ≤ i → i < m → S.R i n = 0) → Q (.exit 0) ⟨[(0,v0),(7,.pointer (some ⟨0,0,some 0⟩)),(8,.int .i64 N)],1,(0,[.slice (some ⟨oa,0,none⟩) m om,.slice ba nb cb]) :: T,h⟩) :
  ∀ (d i : Nat) (I : Int),m - i = d → k ≤ i → i ≤ m → I = i → (∀ j,k ≤ j → j < i → S.R j n = 0) →
   head 29 8 1 ⟨[(0,v0),(7,.pointer (some ⟨0,0,some 0⟩)),(8,.int .i64 N),(9,.int .i64 I)],1,(0,[.slice (some ⟨oa,0,none⟩) m om,.slice ba nb cb]) :: T,h⟩ Q:=by
 intro d
 induction d with
 | zero =>
  intro i I hd hki hi eI hp
  refine hA.roundR Try.func29 r29_ok (zc ?_)
  refine zq ?_
  refine br (I < (m : Int)) (by rw [e_lss hA,e_ofNat hA]) (fun q => by omega) (fun _ => ?_) <;> refine zc ?_
  exact h9 (fun j j0 j1 => hp j j0 (by omega))
 | succ d ih =>
 intro i I hd hki hi eI hp
 obtain ⟨x,hx⟩ : ∃ z,z = (frM S i n).n:=⟨_,rfl⟩
 have hz : x = 0 ↔ S.R i n = 0:=by rw [hx];exact fr_num hl
 have r1 : rd h oa (place 0 I 1) 1 [.slice (some ⟨bs i,0,none⟩) (n + 1) cp]:=rd_ok hA (by rw [eI];exact t.head (by omega))
 have r2 : rd h (bs i) (addN (place 0 N 2) 0) 1 [.int .i64 x]:=rd_fld hA (by
  have:=t.elAt (y:=i) (x:=n) (k:=0) (n:=1) (by omega) (by omega) (by omega) (by omega)
  rw [eN,hx];exact this)
 refine hA.roundR Try.func29 r29_ok (zc ?_)
 refine zq ?_
 refine br (I < (m : Int)) (by rw [e_lss hA,e_ofNat hA]) (fun _ => ?_) (fun q => by omega) <;> refine zc ?_
 refine zq ?_
 refine br (x ≠ 0) (by rw [e_neq hA]) (fun c => ?_) (fun c => ?_) <;> refine zc ?_
 ·refine zq ?_
  exact hret (fun z => c (hz.2 (z i hki (by omega)))) _ _ _
 refine zq ?_
 rw [add64 hA (by omega) (by omega)]
 exact ih (i + 1) (I + 1) (by omega) (by omega) (by omega) (by omega) (fun j j0 j1 => by
  by_cases e : j = i
  ·rw [e];exact hz.1 (Decidable.of_not_not c)
  ·exact hp j j0 (by omega))
theorem rzero_loop {h0 : AHeap} (hlow : h0.low ≤ h0.next) {b n : Nat} (n100 : n ≤ 100) {v0 v7 : Value} {N : Int} (eN : N = n) {kn : Nat} {T : List (Nat × List Value)} {Q : Exit → SS → Prop}
  (hQ : ∀ h',Vec fC 2 h0 h' b n (fun _ => ⟨0,1⟩) → Q (.exit 2) ⟨[(0,v0),(7,v7),(8,.int .i64 N),(10,.slice (some ⟨b,0,none⟩) n n)],kn,T,h'⟩) :
  ∀ (d i : Nat) (I : Int) (h : AHeap),n - i = d → i ≤ n → I = i → Vec fC 2 h0 h b n (oneTo i) →
   head 29 14 kn ⟨[(0,v0),(7,v7),(8,.int .i64 N),(10,.slice (some ⟨b,0,none⟩) n n),(11,.int .i64 I)],kn,T,h⟩ Q:=by
 intro d
 induction d with
 | zero =>
  intro i I h hd hi eI t
  refine hA.roundR Try.func29 r29_ok (zc ?_)
  refine br (I < N) (by rw [e_lss hA]) (fun q => by omega) (fun _ => ?_) <;> refine zc ?_
  exact hQ h (t.congr (fun j hj => by unfold oneTo;rw [if_pos (by omega)]))
 | succ d ih =>
 intro i I h hd hi eI t
 obtain ⟨h1,w1,t1,r1⟩:=t.set (i:=i) (by omega) (⟨0,1⟩ : Fc)
 have w1 : wr h b (place 0 I 2) [.int .i64 0,.int .i64 1] h1:=wr_ok hA (by rw [eI];exact w1)
 refine hA.roundR Try.func29 r29_ok (zc ?_)
 refine br (I < N) (by rw [e_lss hA]) (fun _ => ?_) (fun q => by omega) <;> refine zc ?_
 refine zq ?_
 refine of_ok' hA (t.ext.lowOK hlow) ⟨_,_,rfl,?_⟩
 refine zq ?_
 rw [add64 hA (by omega) (by omega)]
 exact ih (i + 1) (I + 1) h1 (by omega) (by omega) (by omega) (t1.congr (fun j hj => by
  unfold oneTo
  by_cases c : j = i
  ·rw [if_pos c,if_pos (by omega)]
  ·rw [if_neg c]
   by_cases c2 : j < i
   ·rw [if_pos c2,if_pos (by omega)]
   ·rw [if_neg c2,if_neg (by omega)]))
theorem rfill_loop {h0 : AHeap} (hlow : h0.low ≤ h0.next) {oa cp om m n b k : Nat} {bs : Nat → Nat} {ba : Option Addr} {cb : Nat} {S : St} {hs : AHeap} (hsx : Ext hs h0) (M0 : MatW fC 2 cp hs h0 oa bs m (n + 1) (frM S)) (hba : Is h0 ba k (S.bound.map Int.ofNat)) (hk : k ≤ m) (n100 : n < 100) (m100 : m ≤ 100)
  (hbn : ∀ x,x ∈ S.bound → x < n) {N : Int} (eN : N = n) {a0 : Option Addr} {n0 c0 : Nat} {Q : Exit → SS → Prop}
  (hQ : ∀ h',Vec fC 2 h0 h' b n (fillR S.R S.bound S.lead n 1 k) → Q (.exit 4) ⟨[(0,.slice a0 n0 c0),(10,.slice (some ⟨b,0,none⟩) n n)],1,[(0,[.slice (some ⟨oa,0,none⟩) m om,.slice ba k cb])],h'⟩) :
  ∀ (d i : Nat) (I : Int) (h : AHeap),k - i = d → i ≤ k → I = i → Vec fC 2 h0 h b n (fillR S.R S.bound S.lead n 1 i) →
   head 29 18 1 ⟨[(0,.slice a0 n0 c0),(7,.pointer (some ⟨0,0,some 0⟩)),(8,.int .i64 N),(10,.slice (some ⟨b,0,none⟩) n n),(12,.int .i64 I)],1,[(0,[.slice (some ⟨oa,0,none⟩) m om,.slice ba k cb])],h⟩ Q:=by
 have lb:=hba.len
 rw [List.length_map] at lb
 intro d
 induction d with
 | zero =>
  intro i I h hd hi eI t
  obtain rfl : i = k:=by omega
  refine hA.roundR Try.func29 r29_ok (zc ?_)
  refine zq ?_
  refine br (I < (i : Int)) (by rw [e_lss hA,e_ofNat hA]) (fun q => by omega) (fun _ => ?_) <;> refine zc ?_
  exact hQ h t
 | succ d ih =>
 intro i I h hd hi eI t
 obtain ⟨h9,hh9⟩ : ∃ z,z = bump h 16:=⟨_,rfl⟩
 have x9 : Ext h h9:=by rw [hh9];exact ext_bump hA _ _
 have e9:=t.ext.trans x9
 have l9:=e9.lowOK hlow
 have t9:=t.more x9
 have M9:=M0.more e9
 obtain ⟨pb,po,x,ea,_,hx,q1⟩:=is_at (hba.ext e9) (i:=I) (by omega) (by omega)
 subst ea
 have q1:=rd_ok hA q1
 have ex : x = (S.bound.getD i 0 : Nat):=by
  rw [← hx,eI]
  unfold gt
  rw [List.getD_eq_getElem?_getD,show ((i : Int)).toNat = i from rfl,List.getElem?_map,List.getD_eq_getElem?_getD,List.getElem?_eq_getElem (show i < S.bound.length by omega)]
  rfl
 have xm : S.bound.getD i 0 ∈ S.bound:=by
  rw [List.getD_eq_getElem?_getD,List.getElem?_eq_getElem (show i < S.bound.length by omega)]
  exact List.getElem_mem _
 have xn:=hbn _ xm
 obtain ⟨an,ad,ha⟩ : ∃ x y,fr (S.R i n) S.lead = ⟨x,y⟩:=⟨_,_,rfl⟩
 obtain ⟨rb,hrb⟩ : ∃ z,z = bs i:=⟨_,rfl⟩
 have r3 : rd h9 oa (place 0 I 1) 1 [.slice (some ⟨rb,0,none⟩) (n + 1) cp]:=rd_ok hA (by rw [eI,hrb];exact M9.head (by omega))
 have r4 : rd h9 rb (place 0 N 2) 2 [.int .i64 an,.int .i64 ad]:=rd_ok hA (by
  rw [eN,hrb]
  have:=M9.el (y:=i) (x:=n) (by omega) (by omega)
  rw [show frM S i n = ⟨an,ad⟩ from ha] at this
  exact this)
 obtain ⟨h1,w1,t1,_⟩:=t9.set (i:=S.bound.getD i 0) xn (⟨an,ad⟩ : Fc)
 have w1 : wr h9 b (place 0 x 2) [.int .i64 an,.int .i64 ad] h1:=wr_ok hA (by rw [ex];exact w1)
 refine hA.roundR Try.func29 r29_ok (zc ?_)
 refine zq ?_
 refine br (I < (k : Int)) (by rw [e_lss hA,e_ofNat hA]) (fun _ => ?_) (fun q => by omega) <;> refine zc ?_
 refine zq ?_
 rw [← hh9]
 refine zq ?_
 rw [add64 hA (by omega) (by omega)]
 refine ih (i + 1) (I + 1) h1 (by omega) (by omega) (by omega) (t1.congr (fun j hj => ?_))
 show _ = if j = S.bound.getD i 0 then fr (1 * S.R i n) S.lead else fillR S.R S.bound S.lead n 1 i j
 rw [Int.one_mul,ha]
end Go.Proofs.Ytogliemiljhliaa
