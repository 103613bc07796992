import Derived.Test.YtmkiclinllifiaaCyF
set_option linter.unusedSimpArgs false
set_option linter.unusedVariables false
namespace Go.Proofs.Ytmkiclinllifiaa
open Go.Sim
set_option linter.unusedVariables false
set_option maxRecDepth 100000
def inL (l : List Vk) (p : F2) : Bool:=decide (p ∈ l.map Vk.pr)
def oneL (l : List Vk) (p : F2) : List F2:=if p ∈ l.map Vk.pr then [p] else []
def rowJ (i j : Nat) : List F2:=((List.range j).filter (fun k => decide (i < k))).map fun k : Nat => ⟨(i : Int),(k : Int)⟩
theorem rowJ_8 (i : Nat) : rowJ i 8 = rowP i:=rfl
theorem rowJ_start (i : Nat) : rowJ i (i + 1) = []:=by
 unfold rowJ
 rw [List.filter_eq_nil_iff.2,List.map_nil]
 intro k hk
 have:=List.mem_range.1 hk
 simp;omega
theorem rowJ_step {i j : Nat} (h : i < j) : rowJ i (j + 1) = rowJ i j ++ [⟨(i : Int),(j : Int)⟩]:=by
 unfold rowJ
 rw [List.range_succ,List.filter_append,List.map_append]
 congr 1
 rw [List.filter_cons_of_pos (by simpa using h)]
 rfl
theorem rowJ_len (i j : Nat) : (rowJ i j).length ≤ j:=by
 unfold rowJ
 rw [List.length_map]
 have:=List.length_filter_le (fun k => decide (i < k)) (List.range j)
 rw [List.length_range] at this
 exact this
def upTo (i : Nat) : List F2:=(List.range i).flatMap rowP
theorem upTo_step (i : Nat) : upTo (i + 1) = upTo i ++ rowP i:=by
 unfold upTo
 rw [List.range_succ,List.flatMap_append]
 simp
theorem upTo_len : ∀ i,(upTo i).length ≤ 8 * i
 | 0 => by simp [upTo]
 | i + 1 => by
  rw [upTo_step,List.length_append]
  have:=upTo_len i
  have:=rowJ_len i 8
  rw [rowJ_8] at this
  omega
theorem oneL_filter (l : List Vk) (p : F2) : [p].filter (inL l) = oneL l p:=by
 unfold oneL inL
 by_cases c : p ∈ l.map Vk.pr
 ·rw [if_pos c,List.filter_cons_of_pos (by simpa using c)];rfl
 ·rw [if_neg c,List.filter_cons_of_neg (by simpa using c)];rfl
theorem oneL_len (l : List Vk) (p : F2) : (oneL l p).length ≤ 1:=by
 unfold oneL
 split <;> simp
variable {F : Prims} {call head arith cmp scmp bnot bsame conv neg imax imin ofNat slen place inR nz geZ rd wr push next mkOK nat zeros sadd eqAgg cut slc sslc strAt part app cpy putAt fresh lowered bump wrote addN lt ne fpAll fpApp brk yn rng mget mput mnew bytes clr mrng ment : _} (hA : AP F ⟨call,head,arith,cmp,scmp,bnot,bsame,conv,neg,imax,imin,ofNat,slen,place,inR,nz,geZ,rd,wr,push,next,mkOK,nat,zeros,sadd,eqAgg,cut,slc,sslc,strAt,part,app,cpy,putAt,fresh,lowered,bump,wrote,addN,lt,ne,fpAll,fpApp,brk,yn,rng,mget,mput,mnew,bytes,clr,mrng,ment⟩)
include hA
theorem has_loop {h0 : AHeap} (hlow : h0.low ≤ h0.next) {a : Option Addr} {n c : Nat} {t : List F2} (hl : Rows F2.cells 2 h0 a n t) (hn : n ≤ 1000) {x y : Int} {Q : Exit → SS → Prop}
  (hyes : ∀ h',(⟨x,y⟩ : F2) ∈ t → Ext h0 h' → ∀ e kn K,Q .ret ⟨(4,.bool true) :: e,kn,K,h'⟩)
  (hno : ∀ h',(⟨x,y⟩ : F2) ∉ t → Ext h0 h' → ∀ e kn K,Q (.exit 0) ⟨e,kn,K,h'⟩) :
  ∀ (m : Nat) (i : Int) (h : AHeap),(n - i).toNat ≤ m → 0 ≤ i → i ≤ n → (⟨x,y⟩ : F2) ∉ t.take i.toNat → Ext h0 h →
   head 47 2 1 ⟨[(0,.slice a n c),(3,.pointer (some ⟨0,0,some 0⟩)),(5,.int .i64 i)],1,[(0,[.int .i64 x,.int .i64 y])],h⟩ Q:=by
 have hlen:=hl.len
 intro m
 induction m with
 | zero =>
  intro i h hm i0 i1 hv he
  refine hA.roundR Try.func47 r47_ok (zc ?_)
  refine br (i < n) (by rw [e_lss hA,e_ofNat hA]) (fun c1 => by omega) (fun c1 => ?_) <;> refine zc ?_
  rw [List.take_of_length_le (by omega)] at hv
  exact hno h hv he _ _ _
 | succ m ih =>
 intro i h hm i0 i1 hv he
 by_cases ci : i < n
 rotate_left
 ·refine hA.roundR Try.func47 r47_ok (zc ?_)
  refine br (i < n) (by rw [e_lss hA,e_ofNat hA]) (fun c1 => absurd c1 ci) (fun c1 => ?_) <;> refine zc ?_
  rw [List.take_of_length_le (by omega)] at hv
  exact hno h hv he _ _ _
 obtain ⟨h9,hh9⟩ : ∃ z,z = bump h 6:=⟨_,rfl⟩
 have e9 : Ext h0 h9:=by rw [hh9];exact he.trans (ext_bump hA _ _)
 obtain ⟨b,o,a1,a2,rfl,_,hg,r1,_⟩:=fr_at (hl.ext e9) (i:=i) i0 ci
 have r2:=rd_ok hA r1
 obtain ⟨r,hr1,hr2⟩:=eqP a1 a2 x y
 have hmem : (⟨a1,a2⟩ : F2) ∈ t:=by rw [← hg];exact gt_mem t i0 (by omega)
 refine hA.roundR Try.func47 r47_ok (zc ?_)
 refine br (i < n) (by rw [e_lss hA,e_ofNat hA]) (fun c1 => ?_) (fun c1 => absurd ci c1) <;> refine zc ?_
 rw [← hh9]
 refine zq ?_
 rw [e_eqAgg hA]
 refine ⟨guardP,r,hr1,?_⟩
 cases r with
 | true =>
  refine zc ?_
  obtain ⟨z1,z2⟩:=hr2.1 rfl
  rw [z1,z2] at hmem
  exact hyes h9 hmem e9 _ _ _
 | false =>
  refine zc ?_
  rw [add64 hA (by omega) (by omega)]
  refine ih (i + 1) h9 (by omega) (by omega) (by omega) (fun q => ?_) e9
  rw [gt_take t i0 (by omega),hg] at q
  rcases List.mem_append.1 q with z | z
  ·exact hv z
  ·have:=List.mem_singleton.1 z
   have:=hr2.2 ⟨(congrArg F2.n this).symm,(congrArg F2.d this).symm⟩
   cases this
theorem has_ok {h : AHeap} (hlow : h.low ≤ h.next) {a : Option Addr} {n c : Nat} {t : List F2} (hl : Rows F2.cells 2 h a n t) (hn : n ≤ 1000) {x y : Int} {Q : Value → AHeap → Prop}
  (hQ : ∀ (r : Bool) h',(r = true ↔ (⟨x,y⟩ : F2) ∈ t) → Ext h h' → Q (.bool r) h') : call 47 [.slice a n c,.agg #[.int .i64 x,.int .i64 y]] h Q:=by
 refine hA.bodyR Try.func47 r47_ok (hA.alike _ _ _ rfl) hlow (zc ?_)
 refine has_loop hA hlow hl hn (fun h' hy x' e kn K => ?_) (fun h' hy x' e kn K => ?_) n 0 h (by omega) (by omega) (by omega) (by simp) (.refl h)
 ·refine zc ?_
  exact hQ true h' ⟨fun _ => hy,fun _ => rfl⟩ x'
 ·refine zc ?_
  exact hQ false h' ⟨(fun q => by cases q),fun q => absurd q hy⟩ x'
theorem prs_in {h0 : AHeap} (hlow : h0.low ≤ h0.next) {a : Option Addr} {n c : Nat} {l : List Vk} (hl : Vs h0 a n l) (hn : n ≤ 1000) (hd : (l.map Vk.pr).Nodup) {i j : Int} {L : List F2} (hL : L.length ≤ 1000) {Q : Exit → SS → Prop}
  (hQ : ∀ h' a' N c',Apd h' 2 a' N c' ((L ++ oneL l ⟨i,j⟩).flatMap F2.cells) → From h0.next a' → Ext h0 h' → (L ++ oneL l ⟨i,j⟩).length = N → Q (.exit 4) ⟨[(0,.slice a n c),(3,.slice a' N c'),(4,.int .i64 i),(5,.int .i64 j)],0,[],h'⟩) :
  ∀ (m : Nat) (k : Int) (h : AHeap) (a' : Option Addr) (N c' : Nat),(n - k).toNat ≤ m → 0 ≤ k → k ≤ n → Apd h 2 a' N c' ((L ++ oneL (l.take k.toNat) ⟨i,j⟩).flatMap F2.cells) → From h0.next a' → Ext h0 h → (L ++ oneL (l.take k.toNat) ⟨i,j⟩).length = N →
   head 24 9 0 ⟨[(0,.slice a n c),(3,.slice a' N c'),(4,.int .i64 i),(5,.int .i64 j),(6,.int .i64 k)],0,[],h⟩ Q:=by
 have hlen:=hl.len
 intro m
 induction m with
 | zero =>
  intro k h a' N c' hm k0 k1 hp hf he hlN
  refine hA.roundR Try.func24 r24_ok (zc ?_)
  refine br (k < n) (by rw [e_lss hA,e_ofNat hA]) (fun c1 => by omega) (fun c1 => ?_) <;> refine zc ?_
  rw [List.take_of_length_le (by omega)] at hp hlN
  exact hQ h a' N c' hp hf he hlN
 | succ m ih =>
 intro k h a' N c' hm k0 k1 hp hf he hlN
 by_cases ci : k < n
 rotate_left
 ·refine hA.roundR Try.func24 r24_ok (zc ?_)
  refine br (k < n) (by rw [e_lss hA,e_ofNat hA]) (fun c1 => absurd c1 ci) (fun c1 => ?_) <;> refine zc ?_
  rw [List.take_of_length_le (by omega)] at hp hlN
  exact hQ h a' N c' hp hf he hlN
 have e2 : arith .add .i64 k 1 = k + 1:=add64 hA (by omega) (by omega)
 obtain ⟨bb,o,x,y,re,im,d,w,rfl,hbb,hg,_,rf⟩:=vs_at (hl.ext he) (i:=k) k0 ci
 rw [hg] at rf
 have p1 : rd h bb (addN (place o k 6) 0) 1 [.int .i64 x]:=rd_fld hA (rf 0 1 (by omega) (by omega))
 have p2 : rd h bb (addN (place o k 6) 1) 1 [.int .i64 y]:=rd_fld hA (rf 1 1 (by omega) (by omega))
 have htk:=gt_take l k0 (by omega)
 rw [hg] at htk
 have hn1:=oneL_len (l.take k.toNat) ⟨i,j⟩
 have hNs : N ≤ 100000:=by rw [List.length_append] at hlN;omega
 have skip : ¬ (x = i ∧ y = j) → oneL (l.take (k + 1).toNat) ⟨i,j⟩ = oneL (l.take k.toNat) ⟨i,j⟩:=fun hne => by
  have : ((⟨i,j⟩ : F2) ∈ (l.take (k + 1).toNat).map Vk.pr) ↔ ((⟨i,j⟩ : F2) ∈ (l.take k.toNat).map Vk.pr):=by
   rw [htk,List.map_append,List.mem_append]
   refine ⟨fun q => q.elim id (fun q => ?_),.inl⟩
   have:=List.mem_singleton.1 q
   exact absurd ⟨(congrArg F2.n this).symm,(congrArg F2.d this).symm⟩ hne
  unfold oneL
  simp only [this]
 refine hA.roundR Try.func24 r24_ok (zc ?_)
 refine br (k < n) (by rw [e_lss hA,e_ofNat hA]) (fun c1 => ?_) (fun c1 => absurd ci c1) <;> refine zc ?_
 refine zq ?_
 refine br (x = i) (by rw [e_eql hA]) (fun c2 => ?_) (fun c2 => ?_) <;> refine zc ?_
 rotate_left
 ·rw [e2]
  refine ih (k + 1) h a' N c' (by omega) (by omega) (by omega) ?_ hf he ?_ <;> rw [skip (fun q => c2 q.1)] <;> assumption
 refine zq ?_
 refine br (y = j) (by rw [e_eql hA]) (fun c3 => ?_) (fun c3 => ?_) <;> refine zc ?_
 rotate_left
 ·rw [e2]
  refine ih (k + 1) h a' N c' (by omega) (by omega) (by omega) ?_ hf he ?_ <;> rw [skip (fun q => c3 q.2)] <;> assumption
 have hnot : (⟨i,j⟩ : F2) ∉ (l.take k.toNat).map Vk.pr:=fun hm' => by
  have hd' : ((l.take (k + 1).toNat).map Vk.pr).Nodup:=hd.sublist (List.Sublist.map _ (List.take_sublist _ _))
  rw [htk,List.map_append,List.nodup_append] at hd'
  exact hd'.2.2 _ hm' _ (List.mem_singleton.2 rfl) (by rw [← c2,← c3];rfl)
 have o1 : oneL (l.take k.toNat) ⟨i,j⟩ = []:=by unfold oneL;rw [if_neg hnot]
 have o2 : oneL (l.take (k + 1).toNat) ⟨i,j⟩ = [⟨i,j⟩]:=by
  unfold oneL
  rw [if_pos]
  rw [htk,List.map_append,← c2,← c3]
  exact List.mem_append_right _ (List.mem_singleton.2 rfl)
 rw [o1,List.append_nil] at hp hlN
 refine zq ?_
 refine appR_ok hA TP2 f2_len (by omega) f2_ok' (v:=⟨i,j⟩) hp hNs (fun a2 c2' h2 hp2 hx => ?_)
 obtain ⟨x2,f2⟩:=hx h0 he hf
 refine zc ?_
 rw [e2]
 refine ih (k + 1) h2 a2 (N + 1) c2' (by omega) (by omega) (by omega) (by rw [o2];exact hp2) f2 x2 (by rw [o2];simp [hlN])
theorem prs_mid {h0 : AHeap} (hlow : h0.low ≤ h0.next) {a : Option Addr} {n c : Nat} {l : List Vk} (hl : Vs h0 a n l) (hn : n ≤ 1000) (hd : (l.map Vk.pr).Nodup) {i : Nat} (hi : i < 8) {I : Int} (hI : I = i) {L : List F2} (hL : L.length ≤ 100) {Q : Exit → SS → Prop}
  (hQ : ∀ h' a' N c',Apd h' 2 a' N c' ((L ++ (rowP i).filter (inL l)).flatMap F2.cells) → From h0.next a' → Ext h0 h' → (L ++ (rowP i).filter (inL l)).length = N → Q (.exit 2) ⟨[(0,.slice a n c),(3,.slice a' N c'),(4,.int .i64 I)],0,[],h'⟩) :
  ∀ (m j : Nat) (J : Int) (h : AHeap) (a' : Option Addr) (N c' : Nat),J = j → 8 - j ≤ m → i < j → j ≤ 8 → Apd h 2 a' N c' ((L ++ (rowJ i j).filter (inL l)).flatMap F2.cells) → From h0.next a' → Ext h0 h → (L ++ (rowJ i j).filter (inL l)).length = N →
   head 24 6 0 ⟨[(0,.slice a n c),(3,.slice a' N c'),(4,.int .i64 I),(5,.int .i64 J)],0,[],h⟩ Q:=by
 intro m
 induction m with
 | zero =>
  intro j J h a' N c' hJ hm j0 j1 hp hf he hlN
  obtain rfl : j = 8:=by omega
  refine hA.roundR Try.func24 r24_ok (zc ?_)
  refine br (J < 8) (by rw [e_lss hA]) (fun c1 => by omega) (fun c1 => ?_) <;> refine zc ?_
  rw [rowJ_8] at hp hlN
  exact hQ h a' N c' hp hf he hlN
 | succ m ih =>
 intro j J h a' N c' hJ hm j0 j1 hp hf he hlN
 by_cases cj : j < 8
 rotate_left
 ·obtain rfl : j = 8:=by omega
  refine hA.roundR Try.func24 r24_ok (zc ?_)
  refine br (J < 8) (by rw [e_lss hA]) (fun c1 => by omega) (fun c1 => ?_) <;> refine zc ?_
  rw [rowJ_8] at hp hlN
  exact hQ h a' N c' hp hf he hlN
 have e2 : arith .add .i64 J 1 = J + 1:=add64 hA (by omega) (by omega)
 have hb : (L ++ (rowJ i j).filter (inL l)).length ≤ 1000:=by
  have:=List.length_filter_le (inL l) (rowJ i j)
  have:=rowJ_len i j
  rw [List.length_append];omega
 refine hA.roundR Try.func24 r24_ok (zc ?_)
 refine br (J < 8) (by rw [e_lss hA]) (fun c1 => ?_) (fun c1 => by omega) <;> refine zc ?_
 refine prs_in hA hlow hl hn hd (i:=I) (j:=J) (L:=L ++ (rowJ i j).filter (inL l)) hb (fun h' a2 N2 c2 hp2 hf2 he2 hl2 => ?_) n 0 h a' N c' (by omega) (by omega) (by omega) (by simp only [oneL];simpa using hp) hf he (by simp only [oneL];simpa using hlN)
 refine zc ?_
 rw [e2]
 have e3 : L ++ (rowJ i (j + 1)).filter (inL l) = L ++ (rowJ i j).filter (inL l) ++ oneL l ⟨I,J⟩:=by
  rw [rowJ_step j0,List.filter_append,oneL_filter,List.append_assoc,hJ,hI]
 exact ih (j + 1) (J + 1) h' a2 N2 c2 (by omega) (by omega) (by omega) (by omega) (by rw [e3];exact hp2) hf2 he2 (by rw [e3];exact hl2)
theorem prs_out {h0 : AHeap} (hlow : h0.low ≤ h0.next) {a : Option Addr} {n c : Nat} {l : List Vk} (hl : Vs h0 a n l) (hn : n ≤ 1000) (hd : (l.map Vk.pr).Nodup) {Q : Exit → SS → Prop}
  (hQ : ∀ h' a' N c',Apd h' 2 a' N c' ((basP l).flatMap F2.cells) → From h0.next a' → Ext h0 h' → (basP l).length = N → Q (.exit 0) ⟨[(3,.slice a' N c')],0,[],h'⟩) :
  ∀ (m i : Nat) (I : Int) (h : AHeap) (a' : Option Addr) (N c' : Nat),I = i → 8 - i ≤ m → i ≤ 8 → Apd h 2 a' N c' (((upTo i).filter (inL l)).flatMap F2.cells) → From h0.next a' → Ext h0 h → ((upTo i).filter (inL l)).length = N →
   head 24 3 0 ⟨[(0,.slice a n c),(3,.slice a' N c'),(4,.int .i64 I)],0,[],h⟩ Q:=by
 intro m
 induction m with
 | zero =>
  intro i I h a' N c' hI hm i1 hp hf he hlN
  obtain rfl : i = 8:=by omega
  refine hA.roundR Try.func24 r24_ok (zc ?_)
  refine br (I < 8) (by rw [e_lss hA]) (fun c1 => by omega) (fun c1 => ?_) <;> refine zc ?_
  exact hQ h a' N c' hp hf he hlN
 | succ m ih =>
 intro i I h a' N c' hI hm i1 hp hf he hlN
 by_cases ci : i < 8
 rotate_left
 ·obtain rfl : i = 8:=by omega
  refine hA.roundR Try.func24 r24_ok (zc ?_)
  refine br (I < 8) (by rw [e_lss hA]) (fun c1 => by omega) (fun c1 => ?_) <;> refine zc ?_
  exact hQ h a' N c' hp hf he hlN
 have e2 : arith .add .i64 I 1 = I + 1:=add64 hA (by omega) (by omega)
 have hb : ((upTo i).filter (inL l)).length ≤ 100:=by
  have:=List.length_filter_le (inL l) (upTo i)
  have:=upTo_len i
  omega
 refine hA.roundR Try.func24 r24_ok (zc ?_)
 refine br (I < 8) (by rw [e_lss hA]) (fun c1 => ?_) (fun c1 => by omega) <;> refine zc ?_
 rw [e2]
 refine prs_mid hA hlow hl hn hd ci hI (L:=(upTo i).filter (inL l)) hb (fun h' a2 N2 c2 hp2 hf2 he2 hl2 => ?_) 8 (i + 1) (I + 1) h a' N c' (by omega) (by omega) (by omega) (by omega) (by rw [rowJ_start];simpa using hp) hf he (by rw [rowJ_start];simpa using hlN)
 refine zc ?_
 rw [e2]
 have e3 : (upTo (i + 1)).filter (inL l) = (upTo i).filter (inL l) ++ (rowP i).filter (inL l):=by
  rw [upTo_step,List.filter_append]
 exact ih (i + 1) (I + 1) h' a2 N2 c2 (by omega) (by omega) (by omega) (by rw [e3];exact hp2) hf2 he2 (by rw [e3];exact hl2)
theorem pairs_ok {h : AHeap} (hlow : h.low ≤ h.next) {a : Option Addr} {n c : Nat} {l : List Vk} (hl : Vs h a n l) (hn : n ≤ 1000) (hd : (l.map Vk.pr).Nodup) {Q : Value → AHeap → Prop}
  (hQ : ∀ h' a' N c',Rows F2.cells 2 h' a' N (basP l) → From h.next a' → Ext h h' → Q (.slice a' N c') h') : call 24 [.slice a n c] h Q:=by
 refine hA.bodyR Try.func24 r24_ok (hA.alike _ _ _ rfl) hlow (zc ?_)
 refine prs_out hA hlow hl hn hd (fun h' a' N c' hp hf he hlN => ?_) 8 0 0 h none 0 0 rfl (by omega) (by omega) (Apd.nil _ _) (From.none _) (.refl h) rfl
 refine zc ?_
 exact hQ h' a' N c' ⟨hp.cells,f2_len,by omega⟩ hf he
end Go.Proofs.Ytmkiclinllifiaa
