import Derived.Test.YtkbgkjlgnmlghaaCaEb
set_option linter.unusedSimpArgs false
set_option linter.unusedVariables false
namespace Go.Proofs.Ytkbgkjlgnmlghaa
open Go.Sim
set_option linter.unusedVariables false
set_option maxRecDepth 100000
theorem GridIs.of_run {n : Int} {l : List Sk} {v : List Ck} {g g' : Gd} {e : Int} (h : GridIs n l v g e) (h0 : CheckS n l 0) (hl : v.length = l.length) (hv : ValidL v) (hr : Go.Proofs.Ytkbgkjlgnmlghaa.run (contrib n l v l.length) (zeroG n.toNat) = some g') : e = 0 ∧ g = g':=by
 rcases h with ⟨a,b,c⟩ | ⟨a,b,c,d⟩ | ⟨a,b,b',c,d⟩ | ⟨a,b,b',c⟩
 ·exact absurd (a.uniq h0) b
 ·exact absurd hl b
 ·exact absurd hv b'
 ·rcases c with ⟨q,_⟩ | ⟨q,e0⟩
  ·have : Go.Proofs.Ytkbgkjlgnmlghaa.run (contrib n l v l.length) (zeroG n.toNat) = none:=q
   rw [hr] at this;cases this
  ·have : Go.Proofs.Ytkbgkjlgnmlghaa.run (contrib n l v l.length) (zeroG n.toNat) = some g:=q
   rw [hr] at this
   cases this
   exact ⟨e0,rfl⟩
theorem TS1 : SliceT Try.prog 26 25 4:=⟨by kernel_rfl,by kernel_rfl,⟨32,by kernel_rfl,by omega⟩,⟨.agg #[.int .i64 0,.int .i64 0,.int .i64 0,.int .i64 0],by kernel_rfl,rfl⟩⟩
variable {F : Prims} {call head arith cmp scmp bnot bsame conv neg imax imin ofNat slen place inR nz geZ rd wr push next mkOK nat zeros sadd eqAgg cut slc sslc strAt part app cpy putAt fresh lowered bump wrote addN lt ne fpAll brk yn rng mget mput mnew bytes clr : _} (hA : AP F ⟨call,head,arith,cmp,scmp,bnot,bsame,conv,neg,imax,imin,ofNat,slen,place,inR,nz,geZ,rd,wr,push,next,mkOK,nat,zeros,sadd,eqAgg,cut,slc,sslc,strAt,part,app,cpy,putAt,fresh,lowered,bump,wrote,addN,lt,ne,fpAll,brk,yn,rng,mget,mput,mnew,bytes,clr⟩)
include hA
set_option maxHeartbeats 1000000 in
theorem sq_loop {h0 : AHeap} (hlow : h0.low ≤ h0.next) {n i : Int} {sa za za6 : Option Addr} {N sc zn zcp zn6 zc6 : Nat} {ca cb cd : Int} {L : List Pk} (hL : ∀ e,e ∈ L → PartF n e) {pb : Option Addr} {P pc : Nat} (hpl : Rows Pk.cells 4 h0 pb P L) (few : P ≤ 100000) {fin : Ck} (hf : sqS L zeroK = some fin) {Q : Exit → SS → Prop}
  (hok : ∀ h',Ext h0 h' → Q (.exit 6) ⟨[(0,.int .i64 n),(1,.slice sa N sc),(5,.pointer (some ⟨0,0,some 0⟩)),(7,.bool true),(11,.slice za zn zcp),(13,.int .i64 i),(16,.slice za6 zn6 zc6),(20,.pointer (some ⟨24,0,some 0⟩))],25,[(0,[.int .i64 ca,.int .i64 cb,.int .i64 cd]),(24,[.int .i64 fin.a,.int .i64 fin.b,.int .i64 fin.d])],h'⟩) :
  ∀ (m : Nat) (k : Int) (h : AHeap) (s : Ck),(P - k).toNat ≤ m → 0 ≤ k → k ≤ P → sqS (L.take k.toNat) zeroK = some s → s.ok → Ext h0 h →
   head 6 25 25 ⟨[(0,.int .i64 n),(1,.slice sa N sc),(5,.pointer (some ⟨0,0,some 0⟩)),(7,.bool true),(11,.slice za zn zcp),(13,.int .i64 i),(16,.slice za6 zn6 zc6),(18,.slice pb P pc),(20,.pointer (some ⟨24,0,some 0⟩)),(21,.int .i64 k)],25,[(0,[.int .i64 ca,.int .i64 cb,.int .i64 cd]),(24,[.int .i64 s.a,.int .i64 s.b,.int .i64 s.d])],h⟩ Q:=by
 have lP:=hpl.len
 intro m
 induction m with
 | zero =>
  intro k h s hm x0 x1 hr hs' he
  refine hA.roundR Try.func6 r6_ok (zc ?_)
  refine br (k < P) (by rw [e_lss hA,e_ofNat hA]) (fun q => by omega) (fun _ => ?_) <;> refine zc ?_
  rw [List.take_of_length_le (by omega),hf] at hr
  cases hr
  exact hok h he
 | succ m ih =>
 intro k h s hm x0 x1 hr hs' he
 by_cases ck : k < P
 rotate_left
 ·refine hA.roundR Try.func6 r6_ok (zc ?_)
  refine br (k < P) (by rw [e_lss hA,e_ofNat hA]) (fun q => by omega) (fun _ => ?_) <;> refine zc ?_
  rw [List.take_of_length_le (by omega),hf] at hr
  cases hr
  exact hok h he
 have P0:=hL _ (gt_mem L x0 (by omega))
 obtain ⟨x,y,wn,wd,hg⟩ : ∃ x y wn wd,gt L k = ⟨x,y,wn,wd⟩:=⟨_,_,_,_,rfl⟩
 rw [hg] at P0
 have wc:=wK_is P0
 have wv:=wK_val P0
 refine hA.roundR Try.func6 r6_ok (zc ?_)
 refine br (k < P) (by rw [e_lss hA,e_ofNat hA]) (fun _ => ?_) (fun q => by omega) <;> refine zc ?_
 obtain ⟨h9,hh9⟩ : ∃ z,z = bump h 15:=⟨_,rfl⟩
 have x9 : Ext h h9:=by rw [hh9];exact ext_bump hA _ _
 have e9:=he.trans x9
 obtain ⟨qb,qo,ep,lpb,wp⟩:=(hpl.ext e9).at x0 ck
 subst ep
 have p2:=wp 2 1 (by omega) (by omega)
 have p3:=wp 3 1 (by omega) (by omega)
 rw [hg] at p2 p3
 have p2 : rd h9 qb (addN (addN (place qo k 4) 2) 0) 1 [.int .i64 wn]:=by rw [e_rd hA,e_place hA,e_addN hA,e_addN hA];exact p2
 have p3 : rd h9 qb (addN (addN (place qo k 4) 2) 1) 1 [.int .i64 wd]:=by rw [e_rd hA,e_place hA,e_addN hA,e_addN hA];exact p3
 rw [← hh9]
 refine zq ?_
 have l9:=e9.lowOK hlow
 refine cmul_ok hA l9 (fun r t u e h1 k1 x1 => ⟨_,_,_,_,rfl,?_⟩)
 have k1:=outK_of (k1.is wc wc)
 have split : L = L.take k.toNat ++ ⟨x,y,wn,wd⟩ :: L.drop (k.toNat + 1):=by
  have e1 : L[k.toNat]'(by omega) = ⟨x,y,wn,wd⟩:=by
   rw [← hg];unfold gt;rw [List.getD_eq_getElem?_getD,List.getElem?_eq_getElem (by omega)];rfl
  rw [← e1,← List.drop_eq_getElem_cons,List.take_append_drop]
 have tk : L.take (k + 1).toNat = L.take k.toNat ++ [⟨x,y,wn,wd⟩]:=by rw [gt_take L x0 (by omega),hg]
 have hf2:=hf
 rw [split,sqS_append,hr] at hf2
 have hf2 : (plusF s (Pk.w ⟨x,y,wn,wd⟩) (wK ⟨x,y,wn,wd⟩)).bind (sqS (L.drop (k.toNat + 1))) = some fin:=by rw [← sqS_cons];exact hf2
 obtain ⟨q,hq,_⟩:=Option.bind_eq_some_iff.1 hf2
 have hq2:=hq
 unfold plusF at hq2
 rw [wv] at hq2
 obtain ⟨p,hp,hq3⟩:=Option.bind_eq_some_iff.1 hq2
 rw [hp] at k1
 rcases k1 with ⟨p',ep,rfl,rfl,rfl,rfl⟩ | ⟨q',_⟩
 rotate_left
 ·cases q'
 cases ep
 have pk:=mkCk_some.1 hp
 obtain ⟨pa,pb',pd⟩:=p
 refine zc ?_
 refine cadd_ok hA (x1.lowOK l9) (fun r t u e h2 k2 x2 => ⟨_,_,_,_,rfl,?_⟩)
 have k2:=outK_of (k2.is hs'.is pk)
 have pv : (⟨pa,pb',pd⟩ : Ck).val = _:=pk.val
 rw [← pv,hq3] at k2
 rcases k2 with ⟨q',eq,rfl,rfl,rfl,rfl⟩ | ⟨q',_⟩
 rotate_left
 ·cases q'
 cases eq
 have y2:=(e9.trans x1).trans x2
 refine zc ?_
 refine br False (by rw [e_neq hA];rfl) (fun q => q.elim) (fun _ => ?_) <;> refine zc ?_
 refine br False (by rw [e_neq hA];rfl) (fun q => q.elim) (fun _ => ?_) <;> refine zc ?_
 rw [add64 hA (by omega) (by omega)]
 refine ih (k + 1) h2 q (by omega) (by omega) (by omega) ?_ (plusF_ok hq).1 y2
 rw [tk,sqS_append,hr]
 show sqS [_] s = _
 rw [sqS_one]
 exact hq
set_option maxHeartbeats 1000000 in
theorem even_loop {h0 : AHeap} (hlow : h0.low ≤ h0.next) {n : Int} {nn : Nat} (hn : n = nn) (n2 : 2 ≤ nn) (n8 : nn ≤ 8) {sa : Option Addr} {N sc : Nat} (hsc : N ≤ sc) (hsl : sc < slack) {l : List Sk} (hl : Sps h0 sa N l) (hi : allS l) (hN : N ≤ 40) (chk : CheckS n l 0) {za : Option Addr} {zcp : Nat} {Z : List Ck} (hZ : Cs h0 za N Z) {c : Ck} (hc : ∀ j : Int,0 ≤ j → j < N → gt Z j = c) {Q : Exit → SS → Prop}
  (hok : ∀ h' kn K,Ext h0 h' → Q (.exit 4) ⟨[(7,.bool true)],kn,K,h'⟩) :
  ∀ (m : Nat) (i : Int) (h : AHeap),(N - i).toNat ≤ m → 0 ≤ i → i ≤ N → Ext h0 h →
   head 6 16 1 ⟨[(0,.int .i64 n),(1,.slice sa N sc),(5,.pointer (some ⟨0,0,some 0⟩)),(7,.bool true),(11,.slice za N zcp),(13,.int .i64 i)],1,[(0,[.int .i64 c.a,.int .i64 c.b,.int .i64 c.d])],h⟩ Q:=by
 obtain ⟨ca,cb,cd⟩:=c
 have lN:=hl.len
 intro m
 induction m with
 | zero =>
  intro i h hm i0 i1 he
  refine hA.roundR Try.func6 r6_ok (zc ?_)
  refine br (i < N) (by rw [e_lss hA,e_ofNat hA]) (fun q => by omega) (fun _ => ?_) <;> refine zc ?_
  exact hok h _ _ he
 | succ m ih =>
 intro i h hm i0 i1 he
 by_cases ci : i < N
 rotate_left
 ·refine hA.roundR Try.func6 r6_ok (zc ?_)
  refine br (i < N) (by rw [e_lss hA,e_ofNat hA]) (fun q => by omega) (fun _ => ?_) <;> refine zc ?_
  exact hok h _ _ he
 obtain ⟨sb,so,un,ud,vn,vd,ea,_,hg,iu1,iu2,iv1,iv2,r1,_,_⟩:=sp_at (hl.ext he) hi (i:=i) i0 ci
 cases ea
 have prt:=(hl.ext he).part i0 ci
 rw [hg] at prt
 obtain ⟨⟨n2',n8'⟩,_,hz'⟩:=chk.zero
 obtain ⟨cu,cv⟩:=hz' i i0 (by omega)
 rw [hg] at cu cv
 have cu : Coord n un ud:=⟨cu,n2',n8'⟩
 have cv : Coord n vn vd:=⟨cv,n2',n8'⟩
 have one : CheckS n [⟨un,ud,vn,vd⟩] 0:=by
  refine .inr (.inr (.inr ⟨⟨n2',n8'⟩,by simp,fun j j0 j1 => ?_,rfl⟩))
  obtain rfl : j = 0:=by simp at j1;omega
  exact ⟨cu.c,cv.c⟩
 have allOne : allS [(⟨un,ud,vn,vd⟩ : Sk)]:=fun j j0 j1 => by
  obtain rfl : j = 0:=by simp at j1;omega
  exact ⟨iu1,iu2,iv1,iv2⟩
 obtain ⟨G,G1,G2,G3⟩:=one_run hn (s:=⟨un,ud,vn,vd⟩) cu cv
 refine hA.roundR Try.func6 r6_ok (zc ?_)
 refine br (i < N) (by rw [e_lss hA,e_ofNat hA]) (fun _ => ?_) (fun q => by omega) <;> refine zc ?_
 refine zq ?_
 rw [add64 hA (by omega) (by omega)]
 obtain ⟨i2,hi2⟩ : ∃ z,z = i + 1:=⟨_,rfl⟩
 rw [← hi2]
 refine slc_part hA TS1 hsl hsc i0 (by omega) (by omega) ?_
 rw [show i2.toNat - i.toNat = 1 by omega]
 obtain ⟨sc1,hsc1⟩ : ∃ z,z = sc - i.toNat:=⟨_,rfl⟩
 rw [← hsc1]
 obtain ⟨pa,hpa⟩ : ∃ z,z = Option.map (fun x => aadd x (i.toNat * 4)) (some (⟨sb,so,none⟩ : Addr)):=⟨_,rfl⟩
 rw [← hpa] at prt ⊢
 refine zc ?_
 rw [e_next hA,e_push hA]
 obtain ⟨hP,hhP⟩ : ∃ z,z = h.push 3 [.int .i64 1,.int .i64 0,.int .i64 1]:=⟨_,rfl⟩
 have eP : Ext h hP:=by rw [hhP];exact .push _ _ _
 obtain ⟨ob,hob⟩ : ∃ z,z = h.next:=⟨_,rfl⟩
 have rP : Cs hP (some ⟨ob,0,none⟩) 1 [oneK]:=by
  rw [hob,hhP]
  exact ⟨⟨rfl,by simp [AHeap.push],by rw [(Own.push h 3 _).readG (by simp)];rfl⟩,ck_len,by omega⟩
 rw [← hob,← hhP]
 have okOne : ValidL [oneK]:=fun j j0 j1 => by
  obtain rfl : j = 0:=by simp at j1;omega
  exact ⟨_,oneK_is⟩
 have y0:=he.trans eP
 refine kgrid_is2 hA (y0.lowOK hlow) (prt.ext eP) allOne rP (by omega) (by omega) (fun p5 m5 q5 g5 e5 h5 k5 t5 n5 x5 => ⟨_,_,_,_,rfl,?_⟩)
 obtain ⟨rfl,rfl⟩:=k5.of_run one rfl okOne G1
 have y5:=y0.trans x5
 refine zc ?_
 have f5:=n5 rfl
 rcases t5 with ⟨_,q,_⟩ | ⟨o1,b1,rfl,j2,j8,s1,d1⟩
 ·omega
 obtain ⟨hs5,r5⟩:=d1.rd
 rw [s1.len] at r5
 rw [add64 hA (by omega) (by omega),← hi2]
 refine slc_part hA TS1 hsl hsc i0 (by omega) (by omega) ?_
 rw [show i2.toNat - i.toNat = 1 by omega,← hsc1,← hpa]
 refine zc ?_
 obtain rfl : m5 = nn:=by omega
 have oneN : CheckS m5 [⟨un,ud,vn,vd⟩] 0:=by rw [← hn];exact one
 refine degrid_ok hA (y5.lowOK hlow) n2 n8 s1 r5 (prt.ext (eP.trans x5)) allOne (by omega) oneN (fun h6 hd x6 => ?_) (fun h6 za6 zc6 Z6 rZ6 dZ6 x6 => ⟨_,_,_,_,rfl,?_⟩)
 ·obtain ⟨j,j0,j1,hd⟩:=hd
  obtain rfl : j = 0:=by omega
  rw [← hn,show gt [(⟨un,ud,vn,vd⟩ : Sk)] 0 = ⟨un,ud,vn,vd⟩ from rfl,G3] at hd
  obtain ⟨k,hk⟩:=sq_parts (s:=⟨un,ud,vn,vd⟩) cu cv
  rw [hk] at hd;cases hd
 have y6:=y5.trans x6
 refine zc ?_
 obtain ⟨b2,o2,un2,ud2,vn2,vd2,ea2,_,hg2,_,_,_,_,r6,_,_⟩:=sp_at (hl.ext y6) hi (i:=i) i0 ci
 cases ea2
 rw [hg] at hg2
 cases hg2
 have q6:=rd_ok hA r6
 refine zq ?_
 refine kparts_is hA (y6.lowOK hlow) ⟨iu1,iu2⟩ ⟨iv1,iv2⟩ (fun pb pc P L e h7 k7 x7 rows few z1 _ => ⟨_,_,_,_,rfl,?_⟩)
 obtain rfl : e = 0:=k7.uniq one
 obtain rfl:=z1 rfl
 have y7:=y6.trans x7
 obtain ⟨h9,hh9⟩ : ∃ z,z = bump h7 23:=⟨_,rfl⟩
 have x9 : Ext h7 h9:=by rw [hh9];exact ext_bump hA _ _
 have y9:=y7.trans x9
 obtain ⟨zb,zo,v1,v2,v3,ez,lz,hgz,rz1⟩:=cs_at (hZ.ext y9) (i:=i) i0 ci
 cases ez
 rw [hc i i0 ci] at hgz
 cases hgz
 have rz1:=rd_ok hA rz1
 obtain ⟨rr,hr1,hr2⟩:=eqC ca cb cd ca cb cd
 obtain rfl : rr = true:=hr2.2 ⟨rfl,rfl,rfl⟩
 refine zc ?_
 rw [← hh9]
 refine zq ?_
 rw [e_eqAgg hA]
 refine ⟨guardC,true,hr1,?_⟩
 refine zc ?_
 rw [show bnot true = false by rw [e_bnot hA];rfl]
 refine zc ?_
 refine br False (by rw [e_neq hA];rfl) (fun q => q.elim) (fun _ => ?_) <;> refine zc ?_
 refine br False (by rw [e_neq hA];rfl) (fun q => q.elim) (fun _ => ?_) <;> refine zc ?_
 refine br False (by rw [e_neq hA];rfl) (fun q => q.elim) (fun _ => ?_) <;> refine zc ?_
 refine br ((1 : Int) ≠ 1) (by rw [e_neq hA,e_ofNat hA];rfl) (fun q => absurd rfl q) (fun _ => ?_) <;> refine zc ?_
 obtain ⟨fin,hfin⟩:=sq_parts (s:=⟨un,ud,vn,vd⟩) cu cv
 refine sq_loop hA (y9.lowOK hlow) (fun e he => partF (s:=⟨un,ud,vn,vd⟩) cu cv he) (rows.ext x9) few hfin (fun h10 x10 => ?_) P 0 h9 zeroK (by omega) (by omega) (by omega) rfl zeroK_ok (.refl h9)
 have y10:=y9.trans x10
 obtain ⟨d0,_⟩:=dZ6.2 0 (by omega) (by omega)
 rw [← hn,show gt [(⟨un,ud,vn,vd⟩ : Sk)] 0 = ⟨un,ud,vn,vd⟩ from rfl,G3,hfin] at d0
 have d0:=(Option.some.inj d0).symm
 obtain ⟨fb,fo,w1,w2,w3,ew,lw,hgw,rw1⟩:=cs_at (rZ6.ext ((x7.trans x9).trans x10)) (i:=0) (by omega) (by omega)
 cases ew
 rw [hgw] at d0
 cases d0
 obtain ⟨hB,hhB⟩ : ∃ z,z = bump h10 5:=⟨_,rfl⟩
 have xB : Ext h10 hB:=by rw [hhB];exact ext_bump hA _ _
 have rw1:=rd_ok hA rw1
 obtain ⟨b3,o3,f1,f2,f3,ef,lf,hgf,rf1⟩:=cs_at (rZ6.ext (((x7.trans x9).trans x10).trans xB)) (i:=0) (by omega) (by omega)
 cases ef
 rw [hgw] at hgf
 cases hgf
 have rf1:=rd_ok hA rf1
 obtain ⟨rr,hr1,hr2⟩:=eqC w1 w2 w3 w1 w2 w3
 obtain rfl : rr = true:=hr2.2 ⟨rfl,rfl,rfl⟩
 refine zc ?_
 rw [← hhB]
 refine zq ?_
 rw [e_eqAgg hA]
 refine ⟨guardC,true,hr1,?_⟩
 refine zc ?_
 rw [show bnot true = false by rw [e_bnot hA];rfl]
 refine zc ?_
 rw [add64 hA (by omega) (by omega)]
 exact ih (i + 1) hB (by omega) (by omega) (by omega) (y10.trans xB)
set_option maxHeartbeats 1000000 in
theorem leven_ok (hF : ∀ h,F 18 [] h = some (.bool true,h)) {h : AHeap} (hlow : h.low ≤ h.next) {n : Int} {sa : Option Addr} {N sc : Nat} (hsc : N ≤ sc) (hsl : sc < slack) {l : List Sk} (hl : Sps h sa N l) (hi : allS l) {ca cb cd : Int} {Q : Value → AHeap → Prop}
  (hQ : ∀ h',Ext h h' → Q (.bool true) h') : call 6 [.int .i64 n,.slice sa N sc,.agg #[.int .i64 ca,.int .i64 cb,.int .i64 cd]] h Q:=by
 refine hA.bodyR Try.func6 r6_ok (hA.alike _ _ _ rfl) hlow (zc ?_)
 refine hA.prim (hF h) ⟨_,rfl,?_⟩
 refine zc ?_
 refine great_ok hA hlow (fun r hr => ⟨_,rfl,?_⟩)
 cases r with
 | true =>
  refine zc ?_
  exact hQ h (.refl h)
 | false =>
 refine zc ?_
 refine rkcheck_ok hA hlow hl hi (fun e h1 k1 x1 => ⟨_,rfl,?_⟩)
 refine zc ?_
 refine br (e ≠ 0) (by rw [e_neq hA]) (fun _ => ?_) (fun e0 => ?_) <;> refine zc ?_
 ·exact hQ h1 x1
 obtain rfl : e = 0:=by omega
 refine rccheck_ok hA (x1.lowOK hlow) (fun e h2 k2 x2 => ⟨_,rfl,?_⟩)
 have y2:=x1.trans x2
 refine zc ?_
 refine br (e ≠ 0) (by rw [e_neq hA]) (fun _ => ?_) (fun e0 => ?_) <;> refine zc ?_
 ·exact hQ h2 y2
 have okc : okC ca cb cd:=by
  rcases k2 with ⟨_,q⟩ | ⟨q,_⟩
  ·exact q
  ·omega
 refine br (1000 < cd) (by rw [e_gtr hA]) (fun _ => ?_) (fun d1 => ?_) <;> refine zc ?_
 ·exact hQ h2 y2
 refine br (ca < -1000) (by rw [e_lss hA]) (fun _ => ?_) (fun a1 => ?_) <;> refine zc ?_
 ·exact hQ h2 y2
 refine br (1000 < ca) (by rw [e_gtr hA]) (fun _ => ?_) (fun a2 => ?_) <;> refine zc ?_
 ·exact hQ h2 y2
 refine br (cb < -1000) (by rw [e_lss hA]) (fun _ => ?_) (fun b1 => ?_) <;> refine zc ?_
 ·exact hQ h2 y2
 refine br (1000 < cb) (by rw [e_gtr hA]) (fun _ => ?_) (fun b2 => ?_) <;> refine zc ?_
 ·exact hQ h2 y2
 rw [show bnot true = false by rw [e_bnot hA];rfl]
 refine zc ?_
 obtain ⟨⟨n2,n8⟩,l32,sp⟩:=k1.zero
 obtain ⟨nn,hn⟩ : ∃ z : Nat,n = z:=⟨n.toNat,by omega⟩
 have lN:=hl.len
 obtain ⟨cap1,hcap1⟩ : ∃ z,z = someCap 1 nn:=⟨_,rfl⟩
 refine zero_ok hA (y2.lowOK hlow) hn hcap1 n2 n8 (fun h3 oa bs t3 => ⟨_,_,_,rfl,?_⟩)
 have y3:=y2.trans t3.ext
 refine zc ?_
 refine even_outer hA (y2.lowOK hlow) hn (by omega) (c:=⟨ca,cb,cd⟩) okc (fun h4 g sq fl t4 x4 => ?_) (Nat.le_refl _) nn 0 h3 (zeroG nn) (by omega) (by omega) (by omega) (zeroG_sq nn) (fun y' x' a0 a1 b0 b1 hlt => by omega) t3 t3.ext
 have y4:=y2.trans x4
 refine zc ?_
 obtain ⟨hs4,r4⟩:=t4.rd
 rw [sq.len] at r4
 have chkN : CheckS (nn : Int) l 0:=by rw [← hn];exact k1
 have all : ∀ y x : Int,0 ≤ y → y < nn → 0 ≤ x → x < nn → gt (gt g y) x = ⟨ca,cb,cd⟩:=fun y x a0 a1 b0 b1 => fl y x a0 a1 b0 b1 (by omega)
 have deg : ∀ j : Int,0 ≤ j → j < N → degS g (partsR nn (gt l j) nn) zeroK = some ⟨ca,cb,cd⟩:=fun j j0 j1 => by
  obtain ⟨cu,cv⟩:=sp j j0 (by omega)
  rw [hn] at cu cv n2 n8
  exact even_deg (s:=gt l j) ⟨cu,n2,n8⟩ ⟨cv,n2,n8⟩ (c:=⟨ca,cb,cd⟩) okc (by simp only;omega) (by simp only;omega) (by simp only;omega) (by simp only;omega) (by simp only;omega) all
 refine degrid_ok hA (y4.lowOK hlow) (by omega) (by omega) sq r4 (hl.ext y4) hi (by omega) chkN (fun h5 hd x5 => ?_) (fun h5 za zcp Z rZ dZ x5 => ⟨_,_,_,_,rfl,?_⟩)
 ·obtain ⟨j,j0,j1,hd⟩:=hd
  rw [deg j j0 j1] at hd;cases hd
 have y5:=y4.trans x5
 refine zc ?_
 refine br False (by rw [e_neq hA];rfl) (fun q => q.elim) (fun _ => ?_) <;> refine zc ?_
 refine br ((N : Int) ≠ N) (by rw [e_neq hA,e_ofNat hA]) (fun q => absurd rfl q) (fun _ => ?_) <;> refine zc ?_
 refine even_loop hA (y5.lowOK hlow) hn (by omega) (by omega) hsc hsl (hl.ext y5) hi (by omega) k1 rZ (c:=⟨ca,cb,cd⟩) (fun j j0 j1 => ?_) (fun h6 kn K x6 => ?_) N 0 h5 (by omega) (by omega) (by omega) (.refl h5)
 ·have d0:=(dZ.2 j j0 j1).1
  rw [deg j j0 j1] at d0
  exact (Option.some.inj d0).symm
 ·refine zc ?_
  exact hQ h6 (y5.trans x6)
end Go.Proofs.Ytkbgkjlgnmlghaa
