import Derived.Test.YtnokkniofajnhaaQuPd
import Derived.Test.YtnokkniofajnhaaSeatA
import Derived.Test.YtnokkniofajnhaaSeatB
import Derived.Test.YtnokkniofajnhaaSeatC
import Derived.Test.YtnokkniofajnhaaSeatD
import Derived.Test.YtnokkniofajnhaaSeatE
import Derived.Test.YtnokkniofajnhaaSeatF
import Derived.Test.YtnokkniofajnhaaSeatG
import Derived.Test.YtnokkniofajnhaaSeatH
import Derived.KernelRfl
import Derived.Test.YtnokkniofajnhaaSymFacts
import Derived.Test.YtnokkniofajnhaaQuCo
import Derived.Test.YtnokkniofajnhaaQuV
set_option linter.unusedSimpArgs false
set_option linter.unusedVariables false
namespace Go.Proofs.Ytnokkniofajnhaa
open Go.Sim
set_option maxRecDepth 100000
variable {F : Prims} {call head arith cmp scmp bnot bsame conv neg imax imin ofNat slen place inR nz geZ rd wr push next mkOK nat zeros sadd eqAgg cut slc sslc strAt part app cpy putAt fresh lowered bump wrote addN lt ne fpAll fpApp brk yn rng mget mput mnew bytes clr : _} (hA : AP F ⟨call,head,arith,cmp,scmp,bnot,bsame,conv,neg,imax,imin,ofNat,slen,place,inR,nz,geZ,rd,wr,push,next,mkOK,nat,zeros,sadd,eqAgg,cut,slc,sslc,strAt,part,app,cpy,putAt,fresh,lowered,bump,wrote,addN,lt,ne,fpAll,fpApp,brk,yn,rng,mget,mput,mnew,bytes,clr⟩)
include hA
theorem sortfunc_ok {h0 h : AHeap} (hlow : h0.low ≤ h0.next) {b n c : Nat} {L : List F2} (t : Dat h0 h b n L) {Q : Value → AHeap → Prop}
  (hQ : ∀ h' L',Dat h0 h' b n L' → PermOn 0 n L L' → SortedOn leF L' 0 n → Q (.tuple #[]) h') : call 60 [.slice (some ⟨b,0,none⟩) n c,.func (.func 34) #[] #[]] h Q:=by
 have hlow':=hlow
 replace hlow:=t.ext.lowOK hlow
 have few:=t.few
 refine hA.bodyR Try.func60 r60_ok (hA.alike _ _ _ rfl) hlow (zc ?_)
 rw [e_ofNat hA,convU hA (by omega) (by omega)]
 refine len_ok hA hlow (by unfold u64;omega) (fun k hk => ⟨_,rfl,?_⟩)
 obtain ⟨n0,n1,n2⟩:=hk
 have k40 : k ≤ 40:=by
  by_cases c : k ≤ 40
  ·exact c
  ·have h1:=Nat.pow_le_pow_right (n:=2) (by omega) (show 40 ≤ k.toNat by omega)
   have h2 : ((2 ^ 40 : Nat) : Int) ≤ ((2 ^ k.toNat : Nat) : Int):=by exact_mod_cast h1
   have h3 : ((2 ^ k.toNat : Nat) : Int) = 2 ^ k.toNat:=by push_cast;rfl
   have h4 : ((2 ^ 40 : Nat) : Int) = 1099511627776:=by decide
   have h5 : max (n : Int) 1 ≤ 100001:=by omega
   omega
 refine zc ?_
 refine pdq_ok hA hlow' (c:=c) (n + 1) h L 0 n k _ (by omega) (by omega) (by omega) (Int.le_refl _) n0 (by omega) (.inl rfl) t (fun h' L' t' hp hs => ?_)
 refine zc ?_
 exact hQ h' L' t' hp hs
end Go.Proofs.Ytnokkniofajnhaa
namespace Go.Proofs.Ytnokkniofajnhaa
open Go.Sim
set_option maxRecDepth 100000
theorem mixed : Try.prog.follows .mixedOrders = true:=by kernel_rfl
theorem names : Try.prog.funcs.toList.all (fun fn => !(fn.name == "runtime.NumGoroutine")) = true := by kernel_rfl
theorem named (g : FuncId) (fn : Func) (h : Try.prog.funcs[g]? = some fn) : (fn.name == "runtime.NumGoroutine") = false := by
 have:=List.all_eq_true.1 names fn (List.mem_of_getElem? (by simpa using h))
 simpa using this
theorem pAa : Try.f80.body.isNone = true:=by kernel_rfl
theorem pAb : Extern.findNext Try.f80 = none:=by kernel_rfl
theorem pAc : Extern.find Try.f80 = some add64Entry:=by kernel_rfl
theorem pSa : Try.f82.body.isNone = true:=by kernel_rfl
theorem pSb : Extern.findNext Try.f82 = none:=by kernel_rfl
theorem pSc : Extern.find Try.f82 = some sub64E:=by kernel_rfl
theorem prims0_ok : CallOK Try.prog prims0:=withFn_ok (Go.Sim.add64_ok Try.func80 (named _ _ Try.func80) pAa pAb pAc) (withFn_ok (Go.Sim.sub64_ok Try.func82 (named _ _ Try.func82) pSa pSb pSc) noPrims_ok)
theorem prims0_keep : CallKeep prims0:=withFn_keep (withFn_keep noPrims_keep)
end Go.Proofs.Ytnokkniofajnhaa
namespace Go.Proofs.Ytnokkniofajnhaa
open Go.Sim
variable {F : Prims} {call head arith cmp scmp bnot bsame conv neg imax imin ofNat slen place inR nz geZ rd wr push next mkOK nat zeros sadd eqAgg cut slc sslc strAt part app cpy putAt fresh lowered bump wrote addN lt ne fpAll fpApp brk yn rng mget mput mnew bytes clr : _} (hA : AP F ⟨call,head,arith,cmp,scmp,bnot,bsame,conv,neg,imax,imin,ofNat,slen,place,inR,nz,geZ,rd,wr,push,next,mkOK,nat,zeros,sadd,eqAgg,cut,slc,sslc,strAt,part,app,cpy,putAt,fresh,lowered,bump,wrote,addN,lt,ne,fpAll,fpApp,brk,yn,rng,mget,mput,mnew,bytes,clr⟩)
include hA
theorem fp_old {h h' : AHeap} {b lim : Nat} (hw : wrote h h' = false) (hb : b < lim) : fpAll false (wrote h h') false b lim:=by
 rw [e_fpAll hA]
 exact ⟨rfl,hw,.inr hb⟩
end Go.Proofs.Ytnokkniofajnhaa
namespace Go.Proofs.Ytnokkniofajnhaa
open Go.Sim
set_option maxRecDepth 100000
def Kr.yF (k : Kr) : F2:=⟨k.yn,k.yd⟩
def Kr.xF (k : Kr) : F2:=⟨k.xn,k.xd⟩
theorem f2_ok (x : F2) : x.cells.all cellOK = true:=rfl
theorem GoodL.okx {l : List Kr} (g : GoodL l) {i : Int} (i0 : 0 ≤ i) (i1 : i < l.length) : okF (gt l i).xn (gt l i).xd ∧ okF (gt l i).yn (gt l i).yd:=⟨(g.small i i0 i1).1.1,(g.small i i0 i1).2.1⟩
def inRange (l : List Kr) (k : Kr) : Bool:=decide ((gt l 0).yF.q ≤ k.xF.q ∧ k.xF.q ≤ (gt l (l.length - 1)).yF.q)
def midList (l m : List Kr) : List F2:=l.map Kr.yF ++ (m.filter (inRange l)).map Kr.xF
variable {F : Prims} {call head arith cmp scmp bnot bsame conv neg imax imin ofNat slen place inR nz geZ rd wr push next mkOK nat zeros sadd eqAgg cut slc sslc strAt part app cpy putAt fresh lowered bump wrote addN lt ne fpAll fpApp brk yn rng mget mput mnew bytes clr : _} (hA : AP F ⟨call,head,arith,cmp,scmp,bnot,bsame,conv,neg,imax,imin,ofNat,slen,place,inR,nz,geZ,rd,wr,push,next,mkOK,nat,zeros,sadd,eqAgg,cut,slc,sslc,strAt,part,app,cpy,putAt,fresh,lowered,bump,wrote,addN,lt,ne,fpAll,fpApp,brk,yn,rng,mget,mput,mnew,bytes,clr⟩)
include hA
theorem mid_1 {h0 : AHeap} (hlow : h0.low ≤ h0.next) {a a2 : Option Addr} {n c n2 c2 : Nat} {N : Int} (hN : N = n) {l : List Kr} (hl : Ks h0 a n l) (hi : allI64 l) (hn : n ≤ 10000) {Q : Exit → SS → Prop}
  (hQ : ∀ h' a' c',Apd h' 2 a' n c' ((l.map Kr.yF).flatMap F2.cells) → From h0.next a' → Ext h0 h' → Q (.exit 0) ⟨[(0,.slice a n c),(1,.slice a2 n2 c2),(5,.slice a' n c')],0,[],h'⟩) :
  ∀ (m : Nat) (i : Int) (k : Nat) (h : AHeap) (a' : Option Addr) (c' : Nat),(n - i).toNat ≤ m → 0 ≤ i → i ≤ n → (k : Int) = i → Apd h 2 a' k c' (((l.map Kr.yF).take i.toNat).flatMap F2.cells) → From h0.next a' → Ext h0 h →
   head 39 3 0 ⟨[(0,.slice a n c),(1,.slice a2 n2 c2),(5,.slice a' k c'),(10,.slice a n c),(11,.int .i64 N),(12,.int .i64 i)],0,[],h⟩ Q:=by
 have hlen:=hl.len
 intro m
 induction m with
 | zero =>
  intro i k h a' c' hm i0 i1 hk ho hf he
  obtain rfl : k = n:=by omega
  refine hA.roundR Try.func39 r39_ok (zc ?_)
  refine br (i < N) (by rw [e_lss hA]) (fun c1 => by omega) (fun c1 => ?_) <;> refine zc ?_
  rw [List.take_of_length_le (by rw [List.length_map];omega)] at ho
  exact hQ h a' c' ho hf he
 | succ m ih =>
 intro i k h a' c' hm i0 i1 hk ho hf he
 by_cases ci : i < n
 rotate_left
 ·obtain rfl : k = n:=by omega
  refine hA.roundR Try.func39 r39_ok (zc ?_)
  refine br (i < N) (by rw [e_lss hA]) (fun c1 => by omega) (fun c1 => ?_) <;> refine zc ?_
  rw [List.take_of_length_le (by rw [List.length_map];omega)] at ho
  exact hQ h a' c' ho hf he
 obtain ⟨b,o,rfl⟩:=ks_some hl (by omega)
 obtain ⟨_,a1,a2',a3,a4,hg,_,_,_,_,r1,_,_⟩:=ks_in (hl.ext he) hi (i:=i) i0 ci
 have q1:=rd_ok hA r1
 have e2 : arith .add .i64 i 1 = i + 1:=add64 hA (by omega) (by omega)
 refine hA.roundR Try.func39 r39_ok (zc ?_)
 refine br (i < N) (by rw [e_lss hA]) (fun c1 => ?_) (fun c1 => by omega) <;> refine zc ?_
 refine zq ?_
 refine appR_ok hA T69 f2_len (by omega) f2_ok (v:=⟨a3,a4⟩) ho (by omega) (fun a2'' c2' h2' hp2 hx => ?_)
 obtain ⟨x2,hf2⟩:=hx h0 he hf
 refine zc ?_
 rw [e2]
 refine ih (i + 1) (k + 1) h2' a2'' c2' (by omega) (by omega) (by omega) (by omega) ?_ hf2 x2
 rw [gt_take (l.map Kr.yF) i0 (by rw [List.length_map];omega),gt_map Kr.yF l i0 (by omega),hg]
 exact hp2
theorem mid_2 {h0 : AHeap} (hlow : h0.low ≤ h0.next) {a a2 : Option Addr} {n c n2 c2 : Nat} {N : Int} (hN : N = n2) {l m : List Kr} (hl : Ks h0 a n l) (hi : allI64 l) (g1 : GoodL l) (hm : Ks h0 a2 n2 m) (hi2 : allI64 m) (g2 : GoodL m) (hn : n ≤ 10000) (hn2 : n2 ≤ 10000) {Q : Exit → SS → Prop}
  (hQ : ∀ h' a' k c' kn,Apd h' 2 a' k c' ((midList l m).flatMap F2.cells) → k = (midList l m).length → From h0.next a' → Ext h0 h' → Q (.exit 2) ⟨[(5,.slice a' k c')],kn,[],h'⟩) :
  ∀ (w : Nat) (i : Int) (k : Nat) (h : AHeap) (a' : Option Addr) (c' : Nat) (S : List F2),(n2 - i).toNat ≤ w → 0 ≤ i → i ≤ n2 → S = l.map Kr.yF ++ ((m.take i.toNat).filter (inRange l)).map Kr.xF → k = S.length → k ≤ n + i → Apd h 2 a' k c' (S.flatMap F2.cells) → From h0.next a' → Ext h0 h →
   head 39 8 0 ⟨[(0,.slice a n c),(5,.slice a' k c'),(22,.slice a2 n2 c2),(23,.int .i64 N),(24,.int .i64 i)],0,[],h⟩ Q:=by
 have hlen:=hl.len
 have hlen2:=hm.len
 have done : ∀ (i : Int) (S : List F2),¬ i < n2 → S = l.map Kr.yF ++ ((m.take i.toNat).filter (inRange l)).map Kr.xF → S = midList l m:=fun i S ci hS => by
  rw [hS,List.take_of_length_le (by omega)]
  rfl
 intro w
 induction w with
 | zero =>
  intro i k h a' c' S hw i0 i1 hS hk kn ho hf he
  refine hA.roundR Try.func39 r39_ok (zc ?_)
  refine br (i < N) (by rw [e_lss hA]) (fun c1 => by omega) (fun c1 => ?_) <;> refine zc ?_
  rw [done i S (by omega) hS] at ho hk
  exact hQ h a' k c' _ ho hk hf he
 | succ w ih =>
 intro i k h a' c' S hw i0 i1 hS hk kn ho hf he
 by_cases ci : i < n2
 rotate_left
 ·refine hA.roundR Try.func39 r39_ok (zc ?_)
  refine br (i < N) (by rw [e_lss hA]) (fun c1 => by omega) (fun c1 => ?_) <;> refine zc ?_
  rw [done i S (by omega) hS] at ho hk
  exact hQ h a' k c' _ ho hk hf he
 have two:=g1.two
 obtain ⟨b,o,rfl⟩:=ks_some hl (by omega)
 obtain ⟨b2,o2,rfl⟩:=ks_some hm (by omega)
 obtain ⟨_,a1,a2',a3,a4,hg,_,_,_,_,r1,_,_⟩:=ks_in (hm.ext he) hi2 (i:=i) i0 ci
 have q1:=rd_ok hA r1
 have e2 : arith .add .i64 i 1 = i + 1:=add64 hA (by omega) (by omega)
 refine hA.roundR Try.func39 r39_ok (zc ?_)
 refine br (i < N) (by rw [e_lss hA]) (fun c1 => ?_) (fun c1 => by omega) <;> refine zc ?_
 obtain ⟨h9,hh9⟩ : ∃ z,z = bump h 21:=⟨_,rfl⟩
 have x9 : Ext h h9:=by rw [hh9];exact ext_bump hA _ _
 have e9:=he.trans x9
 obtain ⟨_,b1,b2',b3,b4,hg0,_,_,_,_,_,_,s3⟩:=ks_in (hl.ext e9) hi (i:=0) (by omega) (by omega)
 have q3:=rd_fld hA s3
 have f1 : isF (gt l 0).yn (gt l 0).yd (gt l 0).yF.q:=(g1.okx (i:=0) (by omega) (by omega)).2.is
 have f2 : isF (gt m i).xn (gt m i).xd (gt m i).xF.q:=(g2.okx (i:=i) i0 (by omega)).1.is
 have f3 : isF (gt l (n - 1)).yn (gt l (n - 1)).yd (gt l (n - 1)).yF.q:=(g1.okx (i:=n - 1) (by omega) (by omega)).2.is
 rw [hg0] at f1
 rw [hg] at f2
 refine zq ?_
 rw [← hh9]
 refine zq ?_
 refine qorder_ok hA (low_fresh hA h9) f1 f2 (fun u h10 hu x10 => ⟨_,rfl,?_⟩)
 refine zc ?_
 obtain ⟨h11,hh11⟩ : ∃ z,z = lowered h9 h10:=⟨_,rfl⟩
 have x11 : Ext h9 h11:=by rw [hh11];exact ext_low hA (e9.lowOK hlow) (.refl h9) x10
 have e11:=e9.trans x11
 rw [← hh11]
 have skip : ∀ h',Ext h h' ∧ Ext h0 h' → inRange l (gt m i) = false → head 39 8 0 ⟨[(0,.slice (some ⟨b,o,none⟩) n c),(5,.slice a' k c'),(22,.slice (some ⟨b2,o2,none⟩) n2 c2),(23,.int .i64 N),(24,.int .i64 (i + 1))],0,[],h'⟩ Q:=fun h' x' hr => by
  refine ih (i + 1) k h' a' c' S (by omega) (by omega) (by omega) ?_ hk (by omega) (ho.ext (by exact x'.1)) hf x'.2
  have hz : List.filter (inRange l) [gt m i] = []:=by simp [hr]
  rw [hS,gt_take m i0 (by omega),List.filter_append,hz,List.append_nil]
 refine br (u ≤ 0) (by rw [e_leq hA]) (fun cu => ?_) (fun cu => ?_) <;> refine zc ?_
 rotate_left
 ·rw [e2]
  refine skip h11 ⟨x9.trans x11,e11⟩ ?_
  unfold inRange
  rw [decide_eq_false_iff_not]
  rintro ⟨w1,_⟩
  rw [hg0,hg] at w1
  rw [hu] at cu
  exact Rat.not_lt.2 w1 (cmpF_gt.1 (by omega))
 obtain ⟨_,d1,d2',d3,d4,hg9,_,_,_,_,_,_,s4⟩:=ks_in (hl.ext e11) hi (i:=n - 1) (by omega) (by omega)
 have q4:=rd_fld hA s4
 obtain ⟨n',hn'⟩ : ∃ z,z = (n : Int) - 1:=⟨_,rfl⟩
 have e5 : arith .sub .i64 (ofNat n) 1 = n':=by rw [e_ofNat hA,hn'];exact sub64 hA (by omega) (by omega)
 rw [hg9] at f3
 rw [← hn'] at q4
 (refine zq ?_;repeat ((first | rw [e5]);refine zq ?_))
 refine qorder_ok hA (low_fresh hA h11) f2 f3 (fun u2 h12 hu2 x12 => ⟨_,rfl,?_⟩)
 refine zc ?_
 obtain ⟨h13,hh13⟩ : ∃ z,z = lowered h11 h12:=⟨_,rfl⟩
 have x13 : Ext h11 h13:=by rw [hh13];exact ext_low hA (e11.lowOK hlow) (.refl h11) x12
 have e13:=e11.trans x13
 rw [← hh13]
 refine br (u2 ≤ 0) (by rw [e_leq hA]) (fun cv => ?_) (fun cv => ?_) <;> refine zc ?_
 rotate_left
 ·rw [e2]
  refine skip h13 ⟨x9.trans (x11.trans x13),e13⟩ ?_
  unfold inRange
  rw [decide_eq_false_iff_not]
  rintro ⟨_,w1⟩
  rw [hlen,hg9,hg] at w1
  rw [hu2] at cv
  exact Rat.not_lt.2 w1 (cmpF_gt.1 (by omega))
 refine zq ?_
 refine appR_ok hA T69 f2_len (by omega) f2_ok (v:=⟨a1,a2'⟩) (ho.ext (x9.trans (x11.trans x13))) (by omega) (fun a2'' c2' h2' hp2 hx => ?_)
 obtain ⟨x2,hf2⟩:=hx h0 e13 hf
 refine zc ?_
 rw [e2]
 refine ih (i + 1) (k + 1) h2' a2'' c2' _ (by omega) (by omega) (by omega) ?_ (by rw [List.length_append];simp;omega) (by omega) hp2 hf2 x2
 have hr : inRange l (gt m i) = true:=by
  unfold inRange
  rw [decide_eq_true_iff,hg0,hg,hlen,hg9]
  rw [hu] at cu
  rw [hu2] at cv
  exact ⟨Rat.not_lt.1 (fun w => by have:=cmpF_gt.2 w;omega),Rat.not_lt.1 (fun w => by have:=cmpF_gt.2 w;omega)⟩
 have hz : List.filter (inRange l) [gt m i] = [gt m i]:=by simp [hr]
 rw [hS,gt_take m i0 (by omega),List.filter_append,hz,hg]
 simp [Kr.xF]
theorem middles_ok {h : AHeap} (hlow : h.low ≤ h.next) {a a2 : Option Addr} {n c n2 c2 : Nat} {l m : List Kr} (hl : Ks h a n l) (hi : allI64 l) (hm : Ks h a2 n2 m) (hi2 : allI64 m) (g1 : GoodL l) (g2 : GoodL m) {Q : Value → AHeap → Prop}
  (hQ : ∀ h' b (k : Nat) c' (W : List F2),Rows F2.cells 2 h' (some ⟨b,0,none⟩) k W → Ext h h' → StrictOn W 0 k → (∀ x,x ∈ W ↔ x ∈ midList l m) → Q (.slice (some ⟨b,0,none⟩) k c') h') : call 39 [.slice a n c,.slice a2 n2 c2] h Q:=by
 refine hA.bodyR Try.func39 r39_ok (hA.alike _ _ _ rfl) hlow (zc ?_)
 rw [e_ofNat hA]
 have two:=g1.two
 have most:=g1.most
 have most2:=g2.most
 have len:=hl.len
 have len2:=hm.len
 refine mid_1 hA hlow rfl hl hi (by omega) (fun h1 a1 c1 hp hf x1 => ?_) n 0 0 h none 0 (by omega) (by omega) (by omega) rfl (by simpa using Apd.nil h 2) (.none _) (.refl h)
 refine zc ?_
 rw [e_ofNat hA]
 refine mid_2 hA hlow rfl hl hi g1 hm hi2 g2 (by omega) (by omega) (fun h2 a2' k c2' kn hp2 hk hf2 x2 => ?_) n2 0 n h1 a1 c1 (l.map Kr.yF) (by omega) (by omega) (by omega) (by simp) (by rw [List.length_map];omega) (by omega) hp hf x1
 refine zc ?_
 have hlen : 2 ≤ (midList l m).length:=by unfold midList;rw [List.length_append,List.length_map];omega
 have hmost : (midList l m).length ≤ 10000:=by
  unfold midList
  rw [List.length_append,List.length_map,List.length_map]
  have:=List.length_filter_le (inRange l) m
  omega
 have hmem : ∀ x ∈ midList l m,okF x.n x.d:=fun x hx => by
  unfold midList at hx
  rcases List.mem_append.1 hx with q | q
  ·obtain ⟨y,hy,rfl⟩:=List.mem_map.1 q
   obtain ⟨i,i0,i1,rfl⟩:=mem_gt hy
   exact (g1.okx i0 i1).2
  ·obtain ⟨y,hy,rfl⟩:=List.mem_map.1 q
   obtain ⟨i,i0,i1,rfl⟩:=mem_gt (List.mem_filter.1 hy).1
   exact (g2.okx i0 i1).1
 rcases hp2 with ⟨_,q,_⟩ | ⟨b,rfl,hc,hb,hcl,ho⟩
 ·omega
 have t : Dat h h2 b k (midList l m):=⟨x2,ho,hf2 _ rfl,hb,hk.symm,fun i i0 i1 => hmem _ (gt_mem _ i0 (by omega)),by omega⟩
 refine sortfunc_ok hA hlow t (fun h3 L3 t3 hp3 hs3 => ?_)
 refine zc ?_
 refine compact_ok hA hlow hc (by omega) t3 hs3 (fun h4 W k' k1 x4 ro st m1 m2 => ⟨_,_,_,rfl,?_⟩)
 refine zc ?_
 refine hQ h4 b k' _ W ro x4 st (fun x => ?_)
 letI : DecidableEq F2:=fun a b => Classical.propDecidable _
 rw [← hp3.mem x]
 have rl:=ro.len
 have l3:=t3.len
 constructor
 ·intro hx
  obtain ⟨p,p0,p1,rfl⟩:=mem_gt hx
  obtain ⟨q,q0,q1,e⟩:=m1 p p0 (by omega)
  rw [e]
  exact gt_mem _ q0 (by omega)
 ·intro hx
  obtain ⟨q,q0,q1,rfl⟩:=mem_gt hx
  obtain ⟨p,p0,p1,e⟩:=m2 q q0 (by omega)
  rw [← e]
  exact gt_mem _ p0 (by omega)
