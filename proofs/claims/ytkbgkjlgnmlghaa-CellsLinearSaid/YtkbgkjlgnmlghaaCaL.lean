import Derived.Test.YtkbgkjlgnmlghaaCaK
set_option linter.unusedSimpArgs false
set_option linter.unusedVariables false
namespace Go.Proofs.Ytkbgkjlgnmlghaa
open Go.Sim
set_option linter.unusedVariables false
set_option maxRecDepth 100000
theorem Grid2.since {α : Type} {enc : α → List Value} {es : Nat} {h0 h1 h : AHeap} {oa : Nat} {bs : List Nat} {g : List (List α)} (t : Grid2 enc es h1 h oa bs g) (e : Ext h0 h1) : Grid2 enc es h0 h oa bs g:=
 ⟨e.trans t.ext,t.own,t.len,t.row,Nat.le_trans e.next t.old,fun b hb => Nat.le_trans e.next (t.oldr b hb),t.lt,t.ltr,t.out,t.dis,t.each⟩
variable {F : Prims} {call head arith cmp scmp bnot bsame conv neg imax imin ofNat slen place inR nz geZ rd wr push next mkOK nat zeros sadd eqAgg cut slc sslc strAt part app cpy putAt fresh lowered bump wrote addN lt ne fpAll brk yn rng mget mput mnew bytes clr : _} (hA : AP F ⟨call,head,arith,cmp,scmp,bnot,bsame,conv,neg,imax,imin,ofNat,slen,place,inR,nz,geZ,rd,wr,push,next,mkOK,nat,zeros,sadd,eqAgg,cut,slc,sslc,strAt,part,app,cpy,putAt,fresh,lowered,bump,wrote,addN,lt,ne,fpAll,brk,yn,rng,mget,mput,mnew,bytes,clr⟩)
include hA
theorem rgrid_inner {h0 : AHeap} (hlow : h0.low ≤ h0.next) {n : Int} {nn : Nat} (hnn : n = nn) (n2 : 2 ≤ n) (n8 : n ≤ 8) {a' : Option Addr} {M c' : Nat} {v : List Ck} (hv : Cs h0 a' M v) (val : ValidL v) {i : Int} (i0 : 0 ≤ i) (i1 : i < M) {L : List Pk} (hL : ∀ e,e ∈ L → PartF n e) (few : L.length ≤ 4)
  {pa : Option Addr} {pc P : Nat} {hp : AHeap} (hpx : Ext h0 hp) (hpl : Rows Pk.cells 4 hp pa P L) {oa cap1 : Nat} {bs : List Nat} (apart : ∀ ad,pa = some ad → ad.block ≠ oa ∧ ad.block ∉ bs) {cs0 : List (Pk × Ck)} {sa : Option Addr} {sn sc : Nat} {Q : Exit → SS → Prop}
  (hbad : ∀ h' e kn K,run (cs0 ++ L.map fun e => (e,gt v i)) (zeroG nn) = none → Ext h0 h' → Q .ret ⟨(7,.int .i64 16) :: (6,.slice none 0 0) :: e,kn,K,h'⟩)
  (hok : ∀ h' g kn K,run (cs0 ++ L.map fun e => (e,gt v i)) (zeroG nn) = some g → SqG nn g → Grid2 Ck.cells 3 h0 h' oa bs g → Q (.exit 2) ⟨[(0,.int .i64 n),(1,.slice sa sn sc),(2,.slice a' M c'),(9,.slice (some ⟨oa,0,none⟩) nn cap1),(10,.int .i64 i)],kn,K,h'⟩) :
  ∀ (m : Nat) (k : Int) (h : AHeap) (g : Gd),(P - k).toNat ≤ m → 0 ≤ k → k ≤ P → run (cs0 ++ (L.take k.toNat).map fun e => (e,gt v i)) (zeroG nn) = some g → SqG nn g → Grid2 Ck.cells 3 h0 h oa bs g → (∀ j,j < hp.next → j ≠ oa → j ∉ bs → h.m.get j = hp.m.get j) → hp.next ≤ h.next →
   head 13 14 0 ⟨[(0,.int .i64 n),(1,.slice sa sn sc),(2,.slice a' M c'),(9,.slice (some ⟨oa,0,none⟩) nn cap1),(10,.int .i64 i),(11,.slice pa P pc),(12,.int .i64 k)],0,[],h⟩ Q:=by
 have lP:=hpl.len
 have lM:=hv.len
 intro m
 induction m with
 | zero =>
  intro k h g hm x0 x1 hr sq t hk hn
  refine hA.roundR Try.func13 r13_ok (zc ?_)
  refine br (k < P) (by rw [e_lss hA,e_ofNat hA]) (fun q => by omega) (fun _ => ?_) <;> refine zc ?_
  rw [List.take_of_length_le (by omega)] at hr
  exact hok h g _ _ hr sq t
 | succ m ih =>
 intro k h g hm x0 x1 hr sq t hk hn
 by_cases ck : k < P
 rotate_left
 ·refine hA.roundR Try.func13 r13_ok (zc ?_)
  refine br (k < P) (by rw [e_lss hA,e_ofNat hA]) (fun q => by omega) (fun _ => ?_) <;> refine zc ?_
  rw [List.take_of_length_le (by omega)] at hr
  exact hok h g _ _ hr sq t
 have P0:=hL _ (gt_mem L x0 (by omega))
 obtain ⟨x,y,wn,wd,hg⟩ : ∃ x y wn wd,gt L k = ⟨x,y,wn,wd⟩:=⟨_,_,_,_,rfl⟩
 obtain ⟨pb,po,ep,lpb,wp⟩:=hpl.at x0 ck
 subst ep
 have ap:=apart _ rfl
 simp only at ap
 have RP : ∀ h' : AHeap,h'.m.get pb = hp.m.get pb → ∀ f m,f + m ≤ 4 → 0 < m → h'.readG ⟨pb,po + k.toNat * 4 + f,none⟩ m = some (((gt L k).cells.drop f).take m):=fun h' e f m hf hm => by
  have w:=wp f m hf hm
  unfold AHeap.readG AHeap.cells? at w ⊢
  rw [e]
  exact w
 rw [hg] at RP
 rw [hg] at P0
 obtain ⟨h9,hh9⟩ : ∃ z,z = bump h 31:=⟨_,rfl⟩
 have x9 : Ext h h9:=by rw [hh9];exact ext_bump hA _ _
 have t9:=t.more x9
 have px0 : 0 ≤ x:=P0.x0
 have px1 : x < nn:=by have:=P0.x1;simp only at this;omega
 have py0 : 0 ≤ y:=P0.y0
 have py1 : y < nn:=by have:=P0.y1;simp only at this;omega
 have wf : isF wn wd (Pk.w ⟨x,y,wn,wd⟩):=P0.f
 have wc : isC wn 0 wd (Cq.real (Pk.w ⟨x,y,wn,wd⟩)):=isC_real wf (by have:=P0.n1;simp only at this;omega) (by have:=P0.n2;simp only at this;omega) (by have:=P0.d2;simp only at this;omega)
 have gl:=sq.len
 have ry:=sq.row y py0 py1
 have ok0:=sq.ok y x py0 py1 px0 px1
 obtain ⟨rb,hrb⟩ : ∃ z,z = bs.getD y.toNat 0:=⟨_,rfl⟩
 have rh : rd h9 oa (place 0 y 1) 1 [.slice (some ⟨rb,0,none⟩) nn (someCap 3 nn)]:=by
  have:=t9.head py0 (by omega)
  unfold hdr at this
  rw [ry,← hrb] at this
  rw [e_rd hA,e_place hA];exact this
 have re:=t9.el (by omega) py0 (by omega) px0 (by omega)
 rw [← hrb] at re
 obtain ⟨sk,hsk⟩ : ∃ z,z = gt (gt g y) x:=⟨_,rfl⟩
 rw [← hsk] at re ok0
 have re : rd h9 rb (place 0 x 3) 3 [.int .i64 sk.a,.int .i64 sk.b,.int .i64 sk.d]:=rd_ok hA re
 obtain ⟨bv,ov,v1,v2,v3,ea,lv,hgv,rv⟩:=cs_at (hv.ext t9.ext) (i:=i) i0 i1
 cases ea
 have okv:=val i i0 (by omega)
 rw [hgv] at okv
 have rv:=rd_ok hA rv
 have l9:=t9.ext.lowOK hlow
 generalize hcap : someCap 3 nn = cap at *
 have g9 : h9.m.get pb = hp.m.get pb:=by rw [x9.get pb (by omega),hk pb lpb ap.1 ap.2]
 have p0:=rd_fld hA (RP h9 g9 0 1 (by omega) (by omega))
 have p1:=rd_fld hA (RP h9 g9 1 1 (by omega) (by omega))
 have p2:=rd_fld hA (RP h9 g9 2 2 (by omega) (by omega))
 replace p0 : rd h9 pb (addN (place po k 4) 0) 1 [.int .i64 x]:=p0
 replace p1 : rd h9 pb (addN (place po k 4) 1) 1 [.int .i64 y]:=p1
 replace p2 : rd h9 pb (addN (place po k 4) 2) 2 [.int .i64 wn,.int .i64 wd]:=p2
 refine hA.roundR Try.func13 r13_ok (zc ?_)
 refine br (k < P) (by rw [e_lss hA,e_ofNat hA]) (fun _ => ?_) (fun q => by omega) <;> refine zc ?_
 rw [← hh9]
 refine zq ?_
 refine plus_ok hA (low_fresh hA h9) (s:=sk) (v:=⟨v1,v2,v3⟩) ok0 okv wc (fun r t' u e hz k1 ez => ⟨_,_,_,_,rfl,?_⟩)
 obtain ⟨hX,hhX⟩ : ∃ z,z = lowered h9 hz:=⟨_,rfl⟩
 have eX : Ext h9 hX:=by rw [hhX];exact ext_low hA l9 (.refl h9) ez
 refine zc ?_
 rw [← hhX]
 refine zq ?_
 have tX:=t9.more eX
 have split : L = L.take k.toNat ++ ⟨x,y,wn,wd⟩ :: L.drop (k.toNat + 1):=by
  have e1 : L[k.toNat]'(by omega) = ⟨x,y,wn,wd⟩:=by
   rw [← hg];unfold gt;rw [List.getD_eq_getElem?_getD,List.getElem?_eq_getElem (by omega)];rfl
  rw [← e1,← List.drop_eq_getElem_cons,List.take_append_drop]
 have tk : L.take (k + 1).toNat = L.take k.toNat ++ [⟨x,y,wn,wd⟩]:=by rw [gt_take L x0 (by omega),hg]
 have stepE : gridStep g (⟨x,y,wn,wd⟩,gt v i) = (plusF sk (Pk.w ⟨x,y,wn,wd⟩) ⟨v1,v2,v3⟩).map fun q => g.set y.toNat ((gt g y).set x.toNat q):=by
  unfold gridStep
  rw [hgv,hsk]
 rcases k1 with ⟨q,hq,rfl,rfl,rfl,rfl⟩ | ⟨hq,rfl,rfl,rfl,rfl⟩
 rotate_left
 ·refine br True (by rw [e_neq hA];rfl) (fun _ => ?_) (fun q => absurd trivial q) <;> refine zc ?_
  refine hbad hX _ _ _ ?_ tX.ext
  rw [split,List.map_append,List.map_cons,← List.append_assoc,List.append_cons,run_append,run_append,hr]
  show ((run [(_,gt v i)] g).bind _) = none
  rw [run_one,stepE,hq]
  rfl
 refine br False (by rw [e_neq hA];rfl) (fun q => q.elim) (fun _ => ?_) <;> refine zc ?_
 obtain ⟨hB,hhB⟩ : ∃ z,z = bump hX 16:=⟨_,rfl⟩
 have xB : Ext hX hB:=by rw [hhB];exact ext_bump hA _ _
 have tB:=tX.more xB
 have gB : hB.m.get pb = hp.m.get pb:=by rw [xB.get pb (by have:=x9.next;have:=eX.next;omega),eX.get pb (by have:=x9.next;omega),g9]
 have p3:=rd_fld hA (RP hB gB 0 1 (by omega) (by omega))
 have p4:=rd_fld hA (RP hB gB 1 1 (by omega) (by omega))
 replace p3 : rd hB pb (addN (place po k 4) 0) 1 [.int .i64 x]:=p3
 replace p4 : rd hB pb (addN (place po k 4) 1) 1 [.int .i64 y]:=p4
 have rh2 : rd hB oa (place 0 y 1) 1 [.slice (some ⟨rb,0,none⟩) nn cap]:=by
  have:=tB.head py0 (by omega)
  unfold hdr at this
  rw [ry,← hrb,hcap] at this
  rw [e_rd hA,e_place hA];exact this
 obtain ⟨h',w1,t2,wr2⟩:=tB.set py0 (by omega) px0 (by omega) q
 rw [← hrb] at w1 wr2
 have ww : wr hB rb (place 0 x 3) [.int .i64 q.a,.int .i64 q.b,.int .i64 q.d] h':=wr_ok hA w1
 rw [← hhB]
 refine zq ?_
 rw [add64 hA (by omega) (by omega)]
 have se : gridStep g (⟨x,y,wn,wd⟩,gt v i) = some (g.set y.toNat ((gt g y).set x.toNat q)):=by rw [stepE,hq];rfl
 refine ih (k + 1) h' _ (by omega) (by omega) (by omega) ?_ (sq.step ⟨px0,px1⟩ ⟨py0,py1⟩ se) t2 (fun j j0 j1 j2 => ?_) (by rw [wr2.next];have:=x9.next;have:=eX.next;have:=xB.next;omega)
 ·rw [tk,List.map_append,← List.append_assoc,run_append,hr]
  show run [(_,gt v i)] g = _
  rw [run_one,se]
 ·rw [wr2.get j (fun e => j2 (by rw [e,hrb];exact bs_mem (by have:=t.len;omega))),xB.get j (by have:=x9.next;have:=eX.next;omega),eX.get j (by have:=x9.next;omega),x9.get j (by omega),hk j j0 j1 j2]
theorem rgrid_outer {h0 : AHeap} (hlow : h0.low ≤ h0.next) {n : Int} {nn : Nat} (hnn : n = nn) (n2 : 2 ≤ n) (n8 : n ≤ 8) {a a' : Option Addr} {N M c c' : Nat} {l : List Sk} {v : List Ck} (hl : Sps h0 a N l) (hi : allS l) (hv : Cs h0 a' M v) (hM : M = N) (hN : N ≤ 32) (hz : spotsOK n l) (val : ValidL v) {oa cap1 : Nat} {bs : List Nat} {Q : Exit → SS → Prop}
  (hbad : ∀ h' e kn K,run (contrib n l v N) (zeroG nn) = none → Ext h0 h' → Q .ret ⟨(7,.int .i64 16) :: (6,.slice none 0 0) :: e,kn,K,h'⟩)
  (hok : ∀ h' kn g e K,run (contrib n l v N) (zeroG nn) = some g → SqG nn g → Grid2 Ck.cells 3 h0 h' oa bs g → Q (.exit 0) ⟨(9,.slice (some ⟨oa,0,none⟩) nn cap1) :: e,kn,K,h'⟩) :
  ∀ (m : Nat) (i : Int) (h : AHeap) (g : Gd),(N - i).toNat ≤ m → 0 ≤ i → i ≤ N → run (contrib n l v i) (zeroG nn) = some g → SqG nn g → Grid2 Ck.cells 3 h0 h oa bs g →
   head 13 10 0 ⟨[(0,.int .i64 n),(1,.slice a N c),(2,.slice a' M c'),(9,.slice (some ⟨oa,0,none⟩) nn cap1),(10,.int .i64 i)],0,[],h⟩ Q:=by
 have lN:=hl.len
 have lM:=hv.len
 intro m
 induction m with
 | zero =>
  intro i h g hm i0 i1 hr sq t
  have ei : i = N:=by omega
  refine hA.roundR Try.func13 r13_ok (zc ?_)
  refine br (i < N) (by rw [e_lss hA,e_ofNat hA]) (fun q => by omega) (fun _ => ?_) <;> refine zc ?_
  rw [ei] at hr
  exact hok h _ g _ _ hr sq t
 | succ m ih =>
 intro i h g hm i0 i1 hr sq t
 by_cases ci : i < N
 rotate_left
 ·have ei : i = N:=by omega
  refine hA.roundR Try.func13 r13_ok (zc ?_)
  refine br (i < N) (by rw [e_lss hA,e_ofNat hA]) (fun q => by omega) (fun _ => ?_) <;> refine zc ?_
  rw [ei] at hr
  exact hok h _ g _ _ hr sq t
 obtain ⟨b,o,un,ud,vn,vd,ea,_,hg,iu1,iu2,iv1,iv2,r1,_,_⟩:=sp_at (hl.ext t.ext) hi (i:=i) i0 ci
 cases ea
 have q1:=rd_ok hA r1
 obtain ⟨cu,cv⟩:=hz i i0 (by omega)
 rw [hg] at cu cv
 have cu : Coord n un ud:=⟨cu,n2,n8⟩
 have cv : Coord n vn vd:=⟨cv,n2,n8⟩
 refine hA.roundR Try.func13 r13_ok (zc ?_)
 refine br (i < N) (by rw [e_lss hA,e_ofNat hA]) (fun _ => ?_) (fun q => by omega) <;> refine zc ?_
 refine zq ?_
 refine rparts_ok hA (t.ext.lowOK hlow) (s:=⟨un,ud,vn,vd⟩) cu cv (fun pa P pc h1 hpr hpf x1 => ⟨_,_,_,rfl,?_⟩)
 refine zc ?_
 have few:=(parts_few (s:=⟨un,ud,vn,vd⟩) cu cv).2.1
 have ap : ∀ ad,pa = some ad → ad.block ≠ oa ∧ ad.block ∉ bs:=fun ad e => ⟨by have:=hpf ad e;have:=t.lt;omega,fun q => by have:=hpf ad e;have:=t.ltr _ q;omega⟩
 have suc:=contrib_succ (n:=n) (l:=l) (v:=v) i0
 rw [hg] at suc
 obtain ⟨rest,hrest⟩:=contrib_more (n:=n) (l:=l) (v:=v) (i:=i + 1) (by omega) (N - (i + 1)).toNat
 rw [show i + 1 + (((N - (i + 1)).toNat : Nat) : Int) = N by omega] at hrest
 have t1:=t.more x1
 refine rgrid_inner hA hlow hnn n2 n8 hv val i0 (by omega) (L:=partsR n ⟨un,ud,vn,vd⟩ n) (fun e he => partF (s:=⟨un,ud,vn,vd⟩) cu cv he) few (t.ext.trans x1) hpr ap (cs0:=contrib n l v i) (fun h' e kn K hrun x' => ?_) (fun h' g' kn K hrun sq' t' => ?_) P 0 h1 g (by omega) (by omega) (by omega) (by simpa using hr) sq t1 (fun j j0 _ _ => rfl) (Nat.le_refl _)
 ·refine zc ?_
  refine hbad h' _ _ _ ?_ x'
  rw [hrest,suc,run_append,hrun]
  rfl
 ·refine zc ?_
  rw [add64 hA (by omega) (by omega)]
  refine ih (i + 1) h' g' (by omega) (by omega) (by omega) ?_ sq' t'
  rw [suc];exact hrun
theorem rgrid_ok {h : AHeap} (hlow : h.low ≤ h.next) {n : Int} {a a' : Option Addr} {N M c c' : Nat} {l : List Sk} {v : List Ck} (hl : Sps h a N l) (hi : allS l) (hv : Cs h a' M v) (hM : M ≤ 100000) (hN : N ≤ 100000) {Q : Value → AHeap → Prop}
  (hbad : ∀ e h',GridIs n l v [] e → e ≠ 0 → Ext h h' → Q (.tuple #[.slice none 0 0,.int .i64 e]) h')
  (hok : ∀ oa cap bs g h',GridIs n l v g 0 → SqG n.toNat g → Grid2 Ck.cells 3 h h' oa bs g → Q (.tuple #[.slice (some ⟨oa,0,none⟩) n.toNat cap,.int .i64 0]) h') :
  call 13 [.int .i64 n,.slice a N c,.slice a' M c'] h Q:=by
 have lN:=hl.len
 have lM:=hv.len
 refine hA.bodyR Try.func13 r13_ok (hA.alike _ _ _ rfl) hlow (zc ?_)
 refine rkcheck_ok hA hlow hl hi (fun e h1 k1 x1 => ⟨_,rfl,?_⟩)
 have l1:=x1.lowOK hlow
 refine zc ?_
 refine br (e ≠ 0) (by rw [e_neq hA]) (fun c => ?_) (fun c => ?_) <;> refine zc ?_
 ·exact hbad e h1 (.inl ⟨k1,c,rfl⟩) c x1
 obtain rfl : e = 0:=by omega
 obtain ⟨⟨n2,n8⟩,l32,hz⟩:=k1.zero
 refine br ((M : Int) ≠ N) (by rw [e_neq hA,e_ofNat hA,e_ofNat hA]) (fun q => ?_) (fun q => ?_) <;> refine zc ?_
 ·exact hbad 2 h1 (.inr (.inl ⟨k1,by omega,rfl,rfl⟩)) (by omega) x1
 have len : v.length = l.length:=by omega
 refine rvalid_ok hA l1 (hv.ext x1) hM (fun r h2 k2 x2 => ⟨_,rfl,?_⟩)
 have y2:=x1.trans x2
 have l2:=y2.lowOK hlow
 refine zc ?_
 refine br (r = false) (by rw [e_bnot hA];cases r <;> rfl) (fun q => ?_) (fun q => ?_) <;> refine zc ?_
 ·exact hbad 8 h2 (.inr (.inr (.inl ⟨k1,len,(fun w => by rw [k2.2 w] at q;cases q),rfl,rfl⟩))) (by omega) y2
 have val : ValidL v:=k2.1 (by cases r with | true => rfl | false => exact absurd rfl q)
 obtain ⟨nn,hnn⟩ : ∃ z : Nat,z = n.toNat:=⟨_,rfl⟩
 have nn' : n = nn:=by omega
 refine zero_ok hA l2 nn' rfl n2 n8 (fun h4 oa bs t => ⟨_,_,_,rfl,?_⟩)
 have t:=t.since y2
 generalize someCap 1 nn = cap at *
 refine zc ?_
 have sz:=zeroG_sq nn
 refine rgrid_outer hA hlow nn' n2 n8 hl hi hv (by omega) (by omega) hz val (fun h' e kn K hr x' => ?_) (fun h' kn g e K hr sq t' => ?_) N 0 h4 (zeroG nn) (by omega) (by omega) (by omega) rfl sz t
 ·refine zc ?_
  refine hbad 16 h' (.inr (.inr (.inr ⟨k1,len,val,.inl ⟨?_,rfl,rfl⟩⟩))) (by omega) x'
  rw [lN,← hnn];exact hr
 ·refine zc ?_
  have:=hok oa cap bs g h' (.inr (.inr (.inr ⟨k1,len,val,.inr ⟨by rw [lN,← hnn];exact hr,rfl⟩⟩))) (by rw [← hnn];exact sq) t'
  rw [← hnn] at this
  exact this
end Go.Proofs.Ytkbgkjlgnmlghaa
