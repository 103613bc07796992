import Derived.Test.YtkbgkjlgnmlghaaGreatCaTb
set_option linter.unusedSimpArgs false
set_option linter.unusedVariables false
namespace Go.Proofs.YtkbgkjlgnmlghaaGreat
open Go.Sim
set_option linter.unusedVariables false
set_option maxRecDepth 100000
variable {F : Prims} {call head arith cmp scmp bnot bsame conv neg imax imin ofNat slen place inR nz geZ rd wr push next mkOK nat zeros sadd eqAgg cut slc sslc strAt part app cpy putAt fresh lowered bump wrote addN lt ne fpAll fpApp brk yn rng mget mput mnew bytes clr : _} (hA : AP F ⟨call,head,arith,cmp,scmp,bnot,bsame,conv,neg,imax,imin,ofNat,slen,place,inR,nz,geZ,rd,wr,push,next,mkOK,nat,zeros,sadd,eqAgg,cut,slc,sslc,strAt,part,app,cpy,putAt,fresh,lowered,bump,wrote,addN,lt,ne,fpAll,fpApp,brk,yn,rng,mget,mput,mnew,bytes,clr⟩)
include hA
theorem rflat_loop {h0 : AHeap} (hlow : h0.low ≤ h0.next) {b o N c : Nat} {hs : List Hd} {g : Gd} (n2 : 2 ≤ N) (n8 : N ≤ 8) (sq : SqG N g) (t : GridRd h0 (some ⟨b,o,none⟩) N hs g) {Q : Exit → SS → Prop}
  (hok : ∀ h' a M cc K kn,Cs h' a M g.flatten → M ≤ 64 → Ext h0 h' → Q (.exit 0) ⟨[(5,.slice a M cc)],kn,K,h'⟩) :
  ∀ (m i : Nat) (h : AHeap) (a : Option Addr) (k cc : Nat),N - i ≤ m → i ≤ N → k = i * N → Apd h 3 a k cc ((g.take i).flatten.flatMap Ck.cells) → From h0.next a → Ext h0 h →
   head 11 6 0 ⟨[(0,.slice (some ⟨b,o,none⟩) N c),(5,.slice a k cc),(6,.int .i64 i)],0,[],h⟩ Q:=by
 have hMM : N * N ≤ 64:=Nat.mul_le_mul n8 n8
 intro m
 induction m with
 | zero =>
  intro i h a k cc hm hi hk ha hf he
  obtain ⟨I,hI⟩ : ∃ z : Int,z = i:=⟨_,rfl⟩
  rw [← hI]
  refine hA.roundR Tryz.func11 r11_ok (zc ?_)
  refine br (I < N) (by rw [e_lss hA,e_ofNat hA]) (fun c1 => by omega) (fun c1 => ?_) <;> refine zc ?_
  obtain rfl : i = N:=by omega
  rw [List.take_of_length_le (by rw [sq.len];omega)] at ha
  exact hok h a k cc _ _ ⟨ha.cells,ck_len,by omega⟩ (by omega) he
 | succ m ih =>
 intro i h a k cc hm hi hk ha hf he
 obtain ⟨I,hI⟩ : ∃ z : Int,z = i:=⟨_,rfl⟩
 by_cases ci : i < N
 rotate_left
 ·rw [← hI]
  refine hA.roundR Tryz.func11 r11_ok (zc ?_)
  refine br (I < N) (by rw [e_lss hA,e_ofNat hA]) (fun c1 => by omega) (fun c1 => ?_) <;> refine zc ?_
  obtain rfl : i = N:=by omega
  rw [List.take_of_length_le (by rw [sq.len];omega)] at ha
  exact hok h a k cc _ _ ⟨ha.cells,ck_len,by omega⟩ (by omega) he
 have d1:=head_rd hA (t.ext he) (y:=(i : Int)) (by omega) (by omega)
 have rr:=(t.ext he).row sq (i : Int) (by omega) (by omega)
 have ry:=rr.len
 rw [sq.row (i : Int) (by omega) (by omega)] at ry
 rw [← ry] at d1 rr
 generalize (gt hs (i : Int)).a = ra at *
 generalize (gt hs (i : Int)).c = rc at *
 rw [← hI] at d1 rr ⊢
 have hk1 : k + N ≤ N * N:=by rw [hk,← Nat.succ_mul];exact Nat.mul_le_mul_right N ci
 refine hA.roundR Tryz.func11 r11_ok (zc ?_)
 refine br (I < N) (by rw [e_lss hA,e_ofNat hA]) (fun c1 => ?_) (fun c1 => by omega) <;> refine zc ?_
 refine zq ?_
 obtain ⟨a',c',h',e1,e2,e3⟩:=append_ok TC TC.und ha rr.cells (all_flat ck_ok _) (all_flat ck_ok _) (by omega) (by omega)
 obtain ⟨x3,f3⟩:=e3 h0 he hf
 refine app_ok hA e1 ?_
 obtain ⟨k',hk'⟩ : ∃ z,z = k + N:=⟨_,rfl⟩
 rw [← hk'] at e2 ⊢
 refine zc ?_
 rw [add64 hA (by omega) (by omega),show I + 1 = ((i + 1 : Nat) : Int) by omega]
 have gI : gt g I = g[i]'(by rw [sq.len];omega):=by
  unfold gt
  rw [hI,Int.toNat_natCast,List.getD_eq_getElem?_getD,List.getElem?_eq_getElem (by rw [sq.len];omega)]
  rfl
 have e4 : (g.take (i + 1)).flatten.flatMap Ck.cells = (g.take i).flatten.flatMap Ck.cells ++ (gt g I).flatMap Ck.cells:=by
  rw [List.take_add_one,List.getElem?_eq_getElem (by rw [sq.len];omega),gI,List.flatten_append,List.flatMap_append]
  congr 1
  simp only [Option.toList_some,List.flatten_cons,List.flatten_nil,List.append_nil]
 exact ih (i + 1) h' a' k' c' (by omega) (by omega) (by rw [hk',hk,Nat.succ_mul]) (by rw [e4];exact e2) f3 x3
theorem rflat_gen {h : AHeap} (hlow : h.low ≤ h.next) {a : Option Addr} {N c : Nat} {hs : List Hd} {g : Gd} (t : GridRd h a N hs g) {Q : Value → AHeap → Prop}
  (hQ : ∀ h' a M cc o e,FlatIs N g o e → Cs h' a M o → M ≤ 64 → Ext h h' → Q (.tuple #[.slice a M cc,.int .i64 e]) h') : call 11 [.slice a N c] h Q:=by
 refine hA.bodyR Tryz.func11 r11_ok (hA.alike _ _ _ rfl) hlow (zc ?_)
 refine square_gen hA hlow t (fun e h1 k1 x1 => ⟨_,rfl,?_⟩)
 refine zc ?_
 refine br (e ≠ 0) (by rw [e_neq hA]) (fun c => ?_) (fun c => ?_) <;> refine zc ?_
 ·exact hQ h1 none 0 0 [] e (.inl ⟨k1,c,rfl⟩) (cs_none _) (by omega) x1
 obtain rfl : e = 0:=by omega
 obtain ⟨n2,n8,sq⟩:=k1.zero t.len rfl
 obtain ⟨gb,go,rfl,_⟩:=grid_some t (by omega)
 refine rflat_loop hA (x1.lowOK hlow) n2 n8 sq (t.ext x1) (fun h' a M cc K kn hc hM x' => ?_) N 0 h1 none 0 0 (by omega) (by omega) (by omega) (by simpa using Apd.nil _ 3) (fun ad q => by cases q) (.refl h1)
 refine zc ?_
 exact hQ h' a M cc _ 0 (.inr ⟨k1,rfl,rfl⟩) hc hM (x1.trans x')
set_option maxHeartbeats 1000000 in
theorem rdeg_inner {h0 : AHeap} (hlow : h0.low ≤ h0.next) {nn : Nat} (n8 : nn ≤ 8) {gb go gc : Nat} {hs : List Hd} {g : Gd} (sq : SqG nn g) (t : GridRd h0 (some ⟨gb,go,none⟩) nn hs g) {oa : Option Addr} {on oc : Nat} {sa : Option Addr} {N sc : Nat} {ii : Int} {L : List Pk} (hL : ∀ e,e ∈ L → PartF nn e) {pb po P pc : Nat} (hpl : Rows Pk.cells 4 h0 (some ⟨pb,po,none⟩) P L) (few : P ≤ 4) {Q : Exit → SS → Prop}
  (hbad : ∀ h' e kn K,degS g L zeroK = none → Ext h0 h' → Q .ret ⟨(5,.int .i64 16) :: (4,.slice none 0 0) :: e,kn,K,h'⟩)
  (hok : ∀ h' s,degS g L zeroK = some s → s.ok → Ext h0 h' → Q (.exit 2) ⟨[(0,.slice (some ⟨gb,go,none⟩) nn gc),(1,.slice sa N sc),(8,.slice oa on oc),(9,.int .i64 ii),(11,.pointer (some ⟨0,0,some 0⟩))],1,[(0,[.int .i64 s.a,.int .i64 s.b,.int .i64 s.d])],h'⟩) :
  ∀ (m : Nat) (k : Int) (h : AHeap) (s : Ck),(P - k).toNat ≤ m → 0 ≤ k → k ≤ P → degS g (L.take k.toNat) zeroK = some s → s.ok → Ext h0 h →
   head 7 14 1 ⟨[(0,.slice (some ⟨gb,go,none⟩) nn gc),(1,.slice sa N sc),(8,.slice oa on oc),(9,.int .i64 ii),(10,.slice (some ⟨pb,po,none⟩) P pc),(11,.pointer (some ⟨0,0,some 0⟩)),(13,.int .i64 k)],1,[(0,[.int .i64 s.a,.int .i64 s.b,.int .i64 s.d])],h⟩ Q:=by
 have lP:=hpl.len
 intro m
 induction m with
 | zero =>
  intro k h s hm x0 x1 hr hs' he
  refine hA.roundR Tryz.func7 r7_ok (zc ?_)
  refine br (k < P) (by rw [e_lss hA,e_ofNat hA]) (fun q => by omega) (fun _ => ?_) <;> refine zc ?_
  rw [List.take_of_length_le (by omega)] at hr
  exact hok h s hr hs' he
 | succ m ih =>
 intro k h s hm x0 x1 hr hs' he
 by_cases ck : k < P
 rotate_left
 ·refine hA.roundR Tryz.func7 r7_ok (zc ?_)
  refine br (k < P) (by rw [e_lss hA,e_ofNat hA]) (fun q => by omega) (fun _ => ?_) <;> refine zc ?_
  rw [List.take_of_length_le (by omega)] at hr
  exact hok h s hr hs' he
 have P0:=hL _ (gt_mem L x0 (by omega))
 obtain ⟨x,y,wn,wd,hg⟩ : ∃ x y wn wd,gt L k = ⟨x,y,wn,wd⟩:=⟨_,_,_,_,rfl⟩
 rw [hg] at P0
 have px0 : 0 ≤ x:=P0.x0
 have px1 : x < nn:=by have:=P0.x1;simp only at this;omega
 have py0 : 0 ≤ y:=P0.y0
 have py1 : y < nn:=by have:=P0.y1;simp only at this;omega
 have wf : isF wn wd (Pk.w ⟨x,y,wn,wd⟩):=P0.f
 have wc : isC wn 0 wd (Cq.real (Pk.w ⟨x,y,wn,wd⟩)):=isC_real wf (by have:=P0.n1;simp only at this;omega) (by have:=P0.n2;simp only at this;omega) (by have:=P0.d2;simp only at this;omega)
 obtain ⟨h9,hh9⟩ : ∃ z,z = bump h 27:=⟨_,rfl⟩
 have x9 : Ext h h9:=by rw [hh9];exact ext_bump hA _ _
 have e9:=he.trans x9
 have l9:=e9.lowOK hlow
 obtain ⟨rb,ro,rc,v1,v2,v3,lr,r1,hcell,r2⟩:=rd_cell hA (t.ext e9) sq py0 py1 px0 px1
 have okv:=sq.ok y x py0 py1 px0 px1
 rw [hcell] at okv
 obtain ⟨b',o',q,_,RP⟩:=(hpl.ext e9).at x0 ck
 cases q
 rw [hg] at RP
 have p0:=rd_fld hA (RP 0 1 (by omega) (by omega))
 have p1:=rd_fld hA (RP 1 1 (by omega) (by omega))
 have p2:=rd_fld hA (RP 2 2 (by omega) (by omega))
 replace p0 : rd h9 pb (addN (place po k 4) 0) 1 [.int .i64 x]:=p0
 replace p1 : rd h9 pb (addN (place po k 4) 1) 1 [.int .i64 y]:=p1
 replace p2 : rd h9 pb (addN (place po k 4) 2) 2 [.int .i64 wn,.int .i64 wd]:=p2
 refine hA.roundR Tryz.func7 r7_ok (zc ?_)
 refine br (k < P) (by rw [e_lss hA,e_ofNat hA]) (fun _ => ?_) (fun q => by omega) <;> refine zc ?_
 rw [← hh9]
 refine zq ?_
 refine plus_ok hA (low_fresh hA h9) (s:=s) (v:=⟨v1,v2,v3⟩) hs' okv wc (fun r t' u e hz k1 ez => ⟨_,_,_,_,rfl,?_⟩)
 obtain ⟨hX,hhX⟩ : ∃ z,z = lowered h9 hz:=⟨_,rfl⟩
 have eX : Ext h9 hX:=by rw [hhX];exact ext_low hA l9 (.refl h9) ez
 refine zc ?_
 rw [← hhX]
 have eqk : L = L.take k.toNat ++ ⟨x,y,wn,wd⟩ :: L.drop (k.toNat + 1):=by
  have e1 : L[k.toNat]'(by omega) = ⟨x,y,wn,wd⟩:=by
   rw [← hg];unfold gt;rw [List.getD_eq_getElem?_getD,List.getElem?_eq_getElem (by omega)];rfl
  rw [← e1,← List.drop_eq_getElem_cons,List.take_append_drop]
 have tk : L.take (k + 1).toNat = L.take k.toNat ++ [⟨x,y,wn,wd⟩]:=by rw [gt_take L x0 (by omega),hg]
 have stepE : degS g [⟨x,y,wn,wd⟩] s = plusF s (Pk.w ⟨x,y,wn,wd⟩) ⟨v1,v2,v3⟩:=by
  rw [degS_one]
  show plusF s _ (gt (gt g y) x) = _
  rw [hcell]
 rcases k1 with ⟨q,hq,rfl,rfl,rfl,rfl⟩ | ⟨hq,rfl,rfl,rfl,rfl⟩
 rotate_left
 ·refine br True (by rw [e_neq hA];rfl) (fun _ => ?_) (fun q => absurd trivial q) <;> refine zc ?_
  refine hbad hX _ _ _ ?_ (e9.trans eX)
  rw [eqk,List.append_cons,degS_append,degS_append,hr]
  show ((degS g [_] s).bind _) = none
  rw [stepE,hq]
  rfl
 refine br False (by rw [e_neq hA];rfl) (fun q => q.elim) (fun _ => ?_) <;> refine zc ?_
 rw [add64 hA (by omega) (by omega)]
 refine ih (k + 1) hX q (by omega) (by omega) (by omega) ?_ (plusF_ok hq).1 (e9.trans eX)
 rw [tk,degS_append,hr]
 show degS g [_] s = _
 rw [stepE,hq]
theorem rdeg_outer {h0 : AHeap} (hlow : h0.low ≤ h0.next) {nn : Nat} (n2 : 2 ≤ nn) (n8 : nn ≤ 8) {gb go gc : Nat} {hs : List Hd} {g : Gd} (sq : SqG nn g) (t : GridRd h0 (some ⟨gb,go,none⟩) nn hs g) {sa : Option Addr} {N sc : Nat} {l : List Sk} (hl : Sps h0 sa N l) (hi : allS l) (hN : N ≤ 80) (chk : CheckS nn l 0) {Q : Exit → SS → Prop}
  (hbad : ∀ h' e kn K,(∃ j : Int,0 ≤ j ∧ j < N ∧ degS g (partsR nn (gt l j) nn) zeroK = none) → Ext h0 h' → Q .ret ⟨(5,.int .i64 16) :: (4,.slice none 0 0) :: e,kn,K,h'⟩)
  (hok : ∀ h' a cc Z kn K,Cs h' a N Z → DegL nn l g Z N → Ext h0 h' → Q (.exit 0) ⟨[(8,.slice a N cc)],kn,K,h'⟩) :
  ∀ (m : Nat) (k : Nat) (h : AHeap) (a : Option Addr) (cc : Nat) (Z : List Ck),N - k ≤ m → k ≤ N → Apd h 3 a k cc (Z.flatMap Ck.cells) → DegL nn l g Z k → From h0.next a → Ext h0 h →
   head 7 9 0 ⟨[(0,.slice (some ⟨gb,go,none⟩) nn gc),(1,.slice sa N sc),(8,.slice a k cc),(9,.int .i64 k)],0,[],h⟩ Q:=by
 have lN:=hl.len
 intro m
 induction m with
 | zero =>
  intro k h a cc Z hm hk tz hz hf he
  obtain ⟨K,hK⟩ : ∃ z : Int,z = k:=⟨_,rfl⟩
  obtain rfl : k = N:=by omega
  rw [← hK]
  refine hA.roundR Tryz.func7 r7_ok (zc ?_)
  refine br (K < k) (by rw [e_lss hA,e_ofNat hA]) (fun q => by omega) (fun _ => ?_) <;> refine zc ?_
  exact hok h a cc Z _ _ ⟨tz.cells,ck_len,by omega⟩ hz he
 | succ m ih =>
 intro k h a cc Z hm hk tz hz hf he
 obtain ⟨K,hK⟩ : ∃ z : Int,z = k:=⟨_,rfl⟩
 by_cases ck : k < N
 rotate_left
 ·obtain rfl : k = N:=by omega
  rw [← hK]
  refine hA.roundR Tryz.func7 r7_ok (zc ?_)
  refine br (K < k) (by rw [e_lss hA,e_ofNat hA]) (fun q => by omega) (fun _ => ?_) <;> refine zc ?_
  exact hok h a cc Z _ _ ⟨tz.cells,ck_len,by omega⟩ hz he
 rw [← hK]
 obtain ⟨b,o,un,ud,vn,vd,ea,_,hg,iu1,iu2,iv1,iv2,r1,_,_⟩:=sp_at (hl.ext he) hi (i:=K) (by omega) (by omega)
 cases ea
 have q1:=rd_ok hA r1
 obtain ⟨⟨n2',n8'⟩,_,hz'⟩:=chk.zero
 obtain ⟨cu,cv⟩:=hz' K (by omega) (by omega)
 rw [hg] at cu cv
 have cu : Coord nn un ud:=⟨cu,n2',n8'⟩
 have cv : Coord nn vn vd:=⟨cv,n2',n8'⟩
 refine hA.roundR Tryz.func7 r7_ok (zc ?_)
 refine br (K < N) (by rw [e_lss hA,e_ofNat hA]) (fun _ => ?_) (fun q => by omega) <;> refine zc ?_
 refine zq ?_
 rw [e_ofNat hA]
 refine rparts_ok hA (he.lowOK hlow) (s:=⟨un,ud,vn,vd⟩) cu cv (fun pa P pc h1 rows _ x1 => ⟨_,_,_,rfl,?_⟩)
 have y1:=he.trans x1
 refine zc ?_
 obtain ⟨f1,f2,f3⟩:=parts_few (s:=⟨un,ud,vn,vd⟩) cu cv
 have lP:=rows.len
 obtain ⟨pb,po,rfl⟩:=pk_some rows (by omega)
 refine rdeg_inner hA (y1.lowOK hlow) n8 sq (t.ext y1) (fun e he => partF (s:=⟨un,ud,vn,vd⟩) cu cv he) rows (by omega) (fun h' e kn K' hd x' => ?_) (fun h' s hd oks x' => ?_) P 0 h1 zeroK (by omega) (by omega) (by omega) rfl zeroK_ok (.refl h1)
 ·refine zc ?_
  exact hbad h' _ _ _ ⟨K,by omega,by omega,by rw [hg];exact hd⟩ (y1.trans x')
 have y2:=y1.trans x'
 refine zc ?_
 refine appK_ok hA TC ck_len (by omega) ck_ok (v:=s) (tz.ext (x1.trans x')) (by omega) (fun b' h' ha hx hn' hb' hk' => ?_)
 generalize someCap 3 (k + 1) = cc' at *
 obtain ⟨k',hk2⟩ : ∃ z,z = k + 1:=⟨_,rfl⟩
 rw [← hk2] at ha ⊢
 refine zc ?_
 rw [add64 hA (by omega) (by omega),show K + 1 = ((k' : Nat) : Int) by omega]
 refine ih k' h' _ _ (Z ++ [s]) (by omega) (by omega) ha ⟨by rw [List.length_append,List.length_singleton];have:=hz.1;omega,fun j j0 j1 => ?_⟩ (fun ad e => by cases e;have:=y2.next;simp only;omega) (hx h0 y2 hf)
 have zl:=hz.1
 by_cases cj : j < k
 ·rw [gt_append_left Z _ j0 (by omega)]
  exact hz.2 j j0 cj
 ·obtain rfl : j = K:=by omega
  rw [gt_append_at Z _ (by omega),hg]
  exact ⟨hd,oks⟩
theorem rdeg_gen {h : AHeap} (hlow : h.low ≤ h.next) {ga : Option Addr} {nn gc : Nat} {hs : List Hd} {g : Gd} (t : GridRd h ga nn hs g) {sa : Option Addr} {N sc : Nat} {l : List Sk} (hl : Sps h sa N l) (hi : allS l) (hN : N ≤ 80) {Q : Value → AHeap → Prop}
  (hQ : ∀ h' a M cc Z e,DegIs nn g l Z e → Cs h' a M Z → M ≤ 80 → Ext h h' → Q (.tuple #[.slice a M cc,.int .i64 e]) h') :
  call 7 [.slice ga nn gc,.slice sa N sc] h Q:=by
 have lN:=hl.len
 refine hA.bodyR Tryz.func7 r7_ok (hA.alike _ _ _ rfl) hlow (zc ?_)
 refine square_gen hA hlow t (fun e h1 k1 x1 => ⟨_,rfl,?_⟩)
 refine zc ?_
 refine br (e ≠ 0) (by rw [e_neq hA]) (fun c => ?_) (fun c => ?_) <;> refine zc ?_
 ·exact hQ h1 none 0 0 [] e (.inl ⟨k1,c,rfl⟩) (cs_none _) (by omega) x1
 obtain rfl : e = 0:=by omega
 obtain ⟨n2,n8,sq⟩:=k1.zero t.len rfl
 obtain ⟨gb,go,rfl,_⟩:=grid_some t (by omega)
 rw [e_ofNat hA]
 refine rkcheck_ok hA (x1.lowOK hlow) (hl.ext x1) hi (fun e h2 k2 x2 => ⟨_,rfl,?_⟩)
 have y2:=x1.trans x2
 refine zc ?_
 refine br (e ≠ 0) (by rw [e_neq hA]) (fun c => ?_) (fun c => ?_) <;> refine zc ?_
 ·exact hQ h2 none 0 0 [] e (.inr (.inl ⟨k1,k2,c,rfl⟩)) (cs_none _) (by omega) y2
 obtain rfl : e = 0:=by omega
 refine rdeg_outer hA (y2.lowOK hlow) n2 n8 sq (t.ext y2) (hl.ext y2) hi hN k2 (fun h' e kn K hb x' => ?_) (fun h' a cc Z kn K hc hz x' => ?_) N 0 h2 none 0 [] (by omega) (by omega) (.nil _ _) ⟨rfl,fun j j0 j1 => by omega⟩ (fun ad q => by cases q) (.refl h2)
 ·refine zc ?_
  obtain ⟨j,j0,j1,hj⟩:=hb
  exact hQ h' none 0 0 [] 16 (.inr (.inr (.inl ⟨k1,k2,⟨j,j0,by omega,hj⟩,rfl,rfl⟩))) (cs_none _) (by omega) (y2.trans x')
 ·refine zc ?_
  rw [← lN] at hz
  exact hQ h' a N cc Z 0 (.inr (.inr (.inr ⟨k1,k2,hz,rfl⟩))) hc hN (y2.trans x')
end Go.Proofs.YtkbgkjlgnmlghaaGreat
