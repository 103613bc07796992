import Derived.Test.YtkbgkjlgnmlghaaGreatCaW
set_option linter.unusedSimpArgs false
set_option linter.unusedVariables false
namespace Go.Proofs.YtkbgkjlgnmlghaaGreat
open Go.Sim
set_option linter.unusedVariables false
set_option maxRecDepth 100000
def DegL (n : Nat) (l : List Sk) (g : Gd) (Z : List Ck) (i : Int) : Prop:=(Z.length : Int) = i ∧ (∀ j : Int,0 ≤ j → j < i → degS g (partsR n (gt l j) n) zeroK = some (gt Z j) ∧ (gt Z j).ok)
variable {F : Prims} {call head arith cmp scmp bnot bsame conv neg imax imin ofNat slen place inR nz geZ rd wr push next mkOK nat zeros sadd eqAgg cut slc sslc strAt part app cpy putAt fresh lowered bump wrote addN lt ne fpAll fpApp brk yn rng mget mput mnew bytes clr : _} (hA : AP F ⟨call,head,arith,cmp,scmp,bnot,bsame,conv,neg,imax,imin,ofNat,slen,place,inR,nz,geZ,rd,wr,push,next,mkOK,nat,zeros,sadd,eqAgg,cut,slc,sslc,strAt,part,app,cpy,putAt,fresh,lowered,bump,wrote,addN,lt,ne,fpAll,fpApp,brk,yn,rng,mget,mput,mnew,bytes,clr⟩)
include hA
set_option maxHeartbeats 1000000 in
theorem deg_inner {h0 : AHeap} (hlow : h0.low ≤ h0.next) {nn : Nat} (n8 : nn ≤ 8) {gb go gc : Nat} {hs : List Hd} {g : Gd} (sq : SqG nn g) (t : GridRd h0 (some ⟨gb,go,none⟩) nn hs g) {oa : Option Addr} {on oc : Nat} {sa : Option Addr} {N sc : Nat} {NN ii : Int} {xs : List Value} {L : List Pk} (hL : ∀ e,e ∈ L → PartF nn e) {pb po P pc : Nat} (hpl : Rows Pk.cells 4 h0 (some ⟨pb,po,none⟩) P L) (few : P ≤ 4) {PP : Int} (hPP : PP = P) {Q : Exit → SS → Prop}
  (hbad : ∀ h' e kn K,degS g L zeroK = none → Ext h0 h' → Q .ret ⟨(5,.int .i64 16) :: (4,.slice none 0 0) :: e,kn,K,h'⟩)
  (hok : ∀ h' s,degS g L zeroK = some s → s.ok → Ext h0 h' → Q (.exit 2) ⟨[(0,.slice (some ⟨gb,go,none⟩) nn gc),(8,.slice oa on oc),(13,.pointer (some ⟨1,0,some 0⟩)),(28,.slice sa N sc),(29,.int .i64 NN),(30,.int .i64 ii)],2,[(0,xs),(1,[.int .i64 s.a,.int .i64 s.b,.int .i64 s.d])],h'⟩) :
  ∀ (m : Nat) (k : Int) (h : AHeap) (s : Ck),(P - k).toNat ≤ m → 0 ≤ k → k ≤ P → degS g (L.take k.toNat) zeroK = some s → s.ok → Ext h0 h →
   head 6 16 2 ⟨[(0,.slice (some ⟨gb,go,none⟩) nn gc),(8,.slice oa on oc),(13,.pointer (some ⟨1,0,some 0⟩)),(28,.slice sa N sc),(29,.int .i64 NN),(30,.int .i64 ii),(45,.slice (some ⟨pb,po,none⟩) P pc),(46,.int .i64 PP),(47,.int .i64 k)],2,[(0,xs),(1,[.int .i64 s.a,.int .i64 s.b,.int .i64 s.d])],h⟩ Q:=by
 have lP:=hpl.len
 intro m
 induction m with
 | zero =>
  intro k h s hm x0 x1 hr hs' he
  refine hA.roundR Tryz.func6 r6_ok (zc ?_)
  refine br (k < PP) (by rw [e_lss hA]) (fun q => by omega) (fun _ => ?_) <;> refine zc ?_
  rw [List.take_of_length_le (by omega)] at hr
  exact hok h s hr hs' he
 | succ m ih =>
 intro k h s hm x0 x1 hr hs' he
 by_cases ck : k < P
 rotate_left
 ·refine hA.roundR Tryz.func6 r6_ok (zc ?_)
  refine br (k < PP) (by rw [e_lss hA]) (fun q => by omega) (fun _ => ?_) <;> refine zc ?_
  rw [List.take_of_length_le (by omega)] at hr
  exact hok h s hr hs' he
 have P0:=hL _ (gt_mem L x0 (by omega))
 obtain ⟨x,y,wn,wd,hg⟩ : ∃ x y wn wd,gt L k = ⟨x,y,wn,wd⟩:=⟨_,_,_,_,rfl⟩
 have rp : rd h pb (place po k 4) 4 [.int .i64 x,.int .i64 y,.int .i64 wn,.int .i64 wd]:=by
  obtain ⟨b',o',q,_,w⟩:=(hpl.ext he).at x0 ck
  cases q
  have w:=w 0 4 (by omega) (by omega)
  rw [hg] at w
  exact rd_ok hA w
 rw [hg] at P0
 have px0 : 0 ≤ x:=P0.x0
 have px1 : x < nn:=by have:=P0.x1;simp only at this;omega
 have py0 : 0 ≤ y:=P0.y0
 have py1 : y < nn:=by have:=P0.y1;simp only at this;omega
 have wf : isF wn wd (Pk.w ⟨x,y,wn,wd⟩):=P0.f
 have wc : isC wn 0 wd (Cq.real (Pk.w ⟨x,y,wn,wd⟩)):=isC_real wf (by have:=P0.n1;simp only at this;omega) (by have:=P0.n2;simp only at this;omega) (by have:=P0.d2;simp only at this;omega)
 obtain ⟨h9,hh9⟩ : ∃ z,z = bump h 19:=⟨_,rfl⟩
 have x9 : Ext h h9:=by rw [hh9];exact ext_bump hA _ _
 have e9:=he.trans x9
 have l9:=e9.lowOK hlow
 obtain ⟨rb,ro,rc,v1,v2,v3,lr,r1,hcell,r2⟩:=rd_cell hA (t.ext e9) sq py0 py1 px0 px1
 have okv:=sq.ok y x py0 py1 px0 px1
 rw [hcell] at okv
 refine hA.roundR Tryz.func6 r6_ok (zc ?_)
 refine br (k < PP) (by rw [e_lss hA]) (fun _ => ?_) (fun q => by omega) <;> refine zc ?_
 refine zq ?_
 rw [← hh9]
 refine zq ?_
 refine number_ok hA (low_fresh hA h9) ⟨_,_,_,rfl,?_⟩
 refine zc ?_
 rw [low_same hA l9]
 refine zq ?_
 refine kadd_ok hA (low_fresh hA h9) (s:=s) (v:=⟨v1,v2,v3⟩) hs' okv wc (fun r t' u e hz k1 ez => ⟨_,_,_,_,rfl,?_⟩)
 obtain ⟨hX,hhX⟩ : ∃ z,z = lowered h9 hz:=⟨_,rfl⟩
 have eX : Ext h9 hX:=by rw [hhX];exact ext_low hA l9 (.refl h9) ez
 refine zc ?_
 rw [← hhX]
 have n9 : h9.next = h.next + 19:=by rw [hh9,e_bump hA];rfl
 have lgb : gb < h.next:=by
  obtain ⟨_,_,q,l⟩:=grid_some (t.ext he) (by omega)
  cases q;exact l
 have lim : ∀ z,z < h9.next → z < addN (next h) 19:=fun z q => by rw [e_addN hA,e_next hA];omega
 refine ⟨fp_old hA (wrote_no hA (.refl _)) (lim _ (by omega)),fp_old hA (wrote_no hA (.refl _)) (lim _ lr),?_⟩
 refine zc ?_
 have eqk : L = L.take k.toNat ++ ⟨x,y,wn,wd⟩ :: L.drop (k.toNat + 1):=by
  have e1 : L[k.toNat]'(by omega) = ⟨x,y,wn,wd⟩:=by
   rw [← hg];unfold gt;rw [List.getD_eq_getElem?_getD,List.getElem?_eq_getElem (by omega)];rfl
  rw [← e1,← List.drop_eq_getElem_cons,List.take_append_drop]
 have tk : L.take (k + 1).toNat = L.take k.toNat ++ [⟨x,y,wn,wd⟩]:=by rw [gt_take L x0 (by omega),hg]
 have stepE : degS g [⟨x,y,wn,wd⟩] s = plusF s (Pk.w ⟨x,y,wn,wd⟩) ⟨v1,v2,v3⟩:=by
  rw [degS_one]
  show plusF s _ (gt (gt g y) x) = _
  rw [hcell]
 rcases k1 with ⟨q,hq,rfl,rfl,rfl,rfl⟩ | ⟨hq,rfl,rfl,rfl,rfl⟩
 rotate_left
 ·refine br True (by rw [e_neq hA];rfl) (fun _ => ?_) (fun q => absurd trivial q) <;> refine zc ?_
  refine hbad hX _ _ _ ?_ (e9.trans eX)
  rw [eqk,List.append_cons,degS_append,degS_append,hr]
  show ((degS g [_] s).bind _) = none
  rw [stepE,hq]
  rfl
 refine br False (by rw [e_neq hA];rfl) (fun q => q.elim) (fun _ => ?_) <;> refine zc ?_
 rw [add64 hA (by omega) (by omega)]
 refine ih (k + 1) hX q (by omega) (by omega) (by omega) ?_ (plusF_ok hq).1 (e9.trans eX)
 rw [tk,degS_append,hr]
 show degS g [_] s = _
 rw [stepE,hq]
theorem deg_outer {h0 : AHeap} (hlow : h0.low ≤ h0.next) {nn : Nat} (n2 : 2 ≤ nn) (n8 : nn ≤ 8) {gb go gc : Nat} {hs : List Hd} {g : Gd} (sq : SqG nn g) (t : GridRd h0 (some ⟨gb,go,none⟩) nn hs g) {sa : Option Addr} {N sc : Nat} {l : List Sk} (hl : Sps h0 sa N l) (hi : allS l) (hN : N ≤ 80) (chk : CheckS nn l 0) {NN : Int} (hNN : NN = N) {Q : Exit → SS → Prop}
  (hbad : ∀ h' e kn K,(∃ j : Int,0 ≤ j ∧ j < N ∧ degS g (partsR nn (gt l j) nn) zeroK = none) → Ext h0 h' → Q .ret ⟨(5,.int .i64 16) :: (4,.slice none 0 0) :: e,kn,K,h'⟩)
  (hok : ∀ h' a cc Z kn K,Cs h' a N Z → DegL nn l g Z N → Ext h0 h' → Q (.exit 0) ⟨[(8,.slice a N cc)],kn,K,h'⟩) :
  ∀ (m : Nat) (k : Nat) (h : AHeap) (a : Option Addr) (cc : Nat) (Z : List Ck),N - k ≤ m → k ≤ N → Apd h 3 a k cc (Z.flatMap Ck.cells) → DegL nn l g Z k → From h0.next a → Ext h0 h →
   head 6 9 0 ⟨[(0,.slice (some ⟨gb,go,none⟩) nn gc),(8,.slice a k cc),(28,.slice sa N sc),(29,.int .i64 NN),(30,.int .i64 k)],0,[],h⟩ Q:=by
 have lN:=hl.len
 intro m
 induction m with
 | zero =>
  intro k h a cc Z hm hk tz hz hf he
  obtain ⟨K,hK⟩ : ∃ z : Int,z = k:=⟨_,rfl⟩
  obtain rfl : k = N:=by omega
  rw [← hK]
  refine hA.roundR Tryz.func6 r6_ok (zc ?_)
  refine br (K < NN) (by rw [e_lss hA]) (fun q => by omega) (fun _ => ?_) <;> refine zc ?_
  exact hok h a cc Z _ _ ⟨tz.cells,ck_len,by omega⟩ hz he
 | succ m ih =>
 intro k h a cc Z hm hk tz hz hf he
 obtain ⟨K,hK⟩ : ∃ z : Int,z = k:=⟨_,rfl⟩
 by_cases ck : k < N
 rotate_left
 ·obtain rfl : k = N:=by omega
  rw [← hK]
  refine hA.roundR Tryz.func6 r6_ok (zc ?_)
  refine br (K < NN) (by rw [e_lss hA]) (fun q => by omega) (fun _ => ?_) <;> refine zc ?_
  exact hok h a cc Z _ _ ⟨tz.cells,ck_len,by omega⟩ hz he
 rw [← hK]
 obtain ⟨b,o,un,ud,vn,vd,ea,_,hg,iu1,iu2,iv1,iv2,r1,_,_⟩:=sp_at (hl.ext he) hi (i:=K) (by omega) (by omega)
 cases ea
 have q1:=rd_ok hA r1
 obtain ⟨⟨n2',n8'⟩,_,hz'⟩:=chk.zero
 obtain ⟨cu,cv⟩:=hz' K (by omega) (by omega)
 rw [hg] at cu cv
 have cu : Coord nn un ud:=⟨cu,n2',n8'⟩
 have cv : Coord nn vn vd:=⟨cv,n2',n8'⟩
 have one : CheckS nn [⟨un,ud,vn,vd⟩] 0:=by
  refine .inr (.inr (.inr ⟨⟨n2',n8'⟩,by simp,fun j j0 j1 => ?_,rfl⟩))
  obtain rfl : j = 0:=by simp at j1;omega
  exact ⟨cu.c,cv.c⟩
 refine hA.roundR Tryz.func6 r6_ok (zc ?_)
 refine br (K < NN) (by rw [e_lss hA]) (fun _ => ?_) (fun q => by omega) <;> refine zc ?_
 refine zq ?_
 rw [e_ofNat hA]
 refine kparts_is hA (he.lowOK hlow) ⟨iu1,iu2⟩ ⟨iv1,iv2⟩ (fun pa pc P L e h1 k1 x1 rows few z1 _ => ⟨_,_,_,_,rfl,?_⟩)
 obtain rfl : e = 0:=k1.uniq one
 obtain rfl:=z1 rfl
 have y1:=he.trans x1
 refine zc ?_
 refine br False (by rw [e_neq hA];rfl) (fun q => q.elim) (fun _ => ?_) <;> refine zc ?_
 obtain ⟨f1,f2,f3⟩:=parts_few (s:=⟨un,ud,vn,vd⟩) cu cv
 have lP:=rows.len
 obtain ⟨pb,po,rfl⟩:=pk_some rows (by omega)
 rw [e_ofNat hA]
 refine deg_inner hA (y1.lowOK hlow) n8 sq (t.ext y1) (fun e he => partF (s:=⟨un,ud,vn,vd⟩) cu cv he) rows (by omega) rfl (fun h' e kn K' hd x' => ?_) (fun h' s hd oks x' => ?_) P 0 h1 zeroK (by omega) (by omega) (by omega) rfl zeroK_ok (.refl h1)
 ·refine zc ?_
  exact hbad h' _ _ _ ⟨K,by omega,by omega,by rw [hg];exact hd⟩ (y1.trans x')
 have y2:=y1.trans x'
 refine zc ?_
 refine appK_ok hA TC ck_len (by omega) ck_ok (v:=s) (tz.ext (x1.trans x')) (by omega) (fun b' h' ha hx hn' hb' hk' => ?_)
 generalize someCap 3 (k + 1) = cc' at *
 obtain ⟨k',hk2⟩ : ∃ z,z = k + 1:=⟨_,rfl⟩
 rw [← hk2] at ha ⊢
 refine zc ?_
 rw [add64 hA (by omega) (by omega),show K + 1 = ((k' : Nat) : Int) by omega]
 refine ih k' h' _ _ (Z ++ [s]) (by omega) (by omega) ha ⟨by rw [List.length_append,List.length_singleton];have:=hz.1;omega,fun j j0 j1 => ?_⟩ (fun ad e => by cases e;have:=y2.next;simp only;omega) (hx h0 y2 hf)
 have zl:=hz.1
 by_cases cj : j < k
 ·rw [gt_append_left Z _ j0 (by omega)]
  exact hz.2 j j0 cj
 ·obtain rfl : j = K:=by omega
  rw [gt_append_at Z _ (by omega),hg]
  exact ⟨hd,oks⟩
end Go.Proofs.YtkbgkjlgnmlghaaGreat
