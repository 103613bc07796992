import Derived.Test.YtkbgkjlgnmlghaaCaI
set_option linter.unusedSimpArgs false
set_option linter.unusedVariables false
namespace Go.Proofs.Ytkbgkjlgnmlghaa
open Go.Sim
set_option linter.unusedVariables false
set_option maxRecDepth 100000
theorem copies_one (v : Value) (n : Nat) : copies [v] n = List.replicate n v:=by
 induction n with
 | zero => rfl
 | succ n ih => rw [List.replicate_succ,← ih];rfl
variable {F : Prims} {call head arith cmp scmp bnot bsame conv neg imax imin ofNat slen place inR nz geZ rd wr push next mkOK nat zeros sadd eqAgg cut slc sslc strAt part app cpy putAt fresh lowered bump wrote addN lt ne fpAll brk yn rng mget mput mnew bytes clr : _} (hA : AP F ⟨call,head,arith,cmp,scmp,bnot,bsame,conv,neg,imax,imin,ofNat,slen,place,inR,nz,geZ,rd,wr,push,next,mkOK,nat,zeros,sadd,eqAgg,cut,slc,sslc,strAt,part,app,cpy,putAt,fresh,lowered,bump,wrote,addN,lt,ne,fpAll,brk,yn,rng,mget,mput,mnew,bytes,clr⟩)
include hA
theorem grid_inner {h0 : AHeap} (hlow : h0.low ≤ h0.next) {n : Int} {nn : Nat} (hnn : n = nn) (n2 : 2 ≤ n) (n8 : n ≤ 8) {a' : Option Addr} {M c' : Nat} {v : List Ck} (hv : Cs h0 a' M v) (val : ValidL v) {i : Int} (i0 : 0 ≤ i) (i1 : i < M) {L : List Pk} (hL : ∀ e,e ∈ L → PartF n e) (few : L.length ≤ 4)
  {pb pc P : Nat} {PP : Int} (hPP : PP = P) {hp : AHeap} (hpx : Ext h0 hp) (hpl : Rows Pk.cells 4 hp (some ⟨pb,0,none⟩) P L) (lpb : pb < hp.next) {oa : Nat} {bs : List Nat} (apart : pb ≠ oa ∧ pb ∉ bs) {cs0 : List (Pk × Ck)} {k0 : List Value} {sa : Option Addr} {sn sc : Nat} {NN : Int} {Q : Exit → SS → Prop}
  (hbad : ∀ h' e kn K,run (cs0 ++ L.map fun e => (e,gt v i)) (zeroG nn) = none → Ext h0 h' → Q .ret ⟨(7,.int .i64 16) :: (6,.slice none 0 0) :: e,kn,K,h'⟩)
  (hok : ∀ h' g kn K,run (cs0 ++ L.map fun e => (e,gt v i)) (zeroG nn) = some g → SqG nn g → Grid2 Ck.cells 3 h0 h' oa bs g → Q (.exit 6) ⟨[(0,.int .i64 n),(2,.slice a' M c'),(9,.slice (some ⟨oa,0,none⟩) nn nn),(53,.slice sa sn sc),(54,.int .i64 NN),(55,.int .i64 i)],kn,K,h'⟩) :
  ∀ (m : Nat) (k : Int) (h : AHeap) (g : Gd),(P - k).toNat ≤ m → 0 ≤ k → k ≤ P → run (cs0 ++ (L.take k.toNat).map fun e => (e,gt v i)) (zeroG nn) = some g → SqG nn g → Grid2 Ck.cells 3 h0 h oa bs g → (∀ j,j < hp.next → j ≠ oa → j ∉ bs → h.m.get j = hp.m.get j) → hp.next ≤ h.next →
   head 12 24 1 ⟨[(0,.int .i64 n),(2,.slice a' M c'),(9,.slice (some ⟨oa,0,none⟩) nn nn),(11,.int .i64 i),(53,.slice sa sn sc),(54,.int .i64 NN),(55,.int .i64 i),(69,.slice (some ⟨pb,0,none⟩) P pc),(70,.int .i64 PP),(71,.int .i64 k)],1,[(0,k0)],h⟩ Q:=by
 have lP:=hpl.len
 have lM:=hv.len
 intro m
 induction m with
 | zero =>
  intro k h g hm x0 x1 hr sq t hk hn
  refine hA.roundR Try.func12 r12_ok (zc ?_)
  refine br (k < PP) (by rw [e_lss hA]) (fun q => by omega) (fun _ => ?_) <;> refine zc ?_
  rw [List.take_of_length_le (by omega)] at hr
  exact hok h g _ _ hr sq t
 | succ m ih =>
 intro k h g hm x0 x1 hr sq t hk hn
 by_cases ck : k < P
 rotate_left
 ·refine hA.roundR Try.func12 r12_ok (zc ?_)
  refine br (k < PP) (by rw [e_lss hA]) (fun q => by omega) (fun _ => ?_) <;> refine zc ?_
  rw [List.take_of_length_le (by omega)] at hr
  exact hok h g _ _ hr sq t
 have P0:=hL _ (gt_mem L x0 (by omega))
 obtain ⟨x,y,wn,wd,hg⟩ : ∃ x y wn wd,gt L k = ⟨x,y,wn,wd⟩:=⟨_,_,_,_,rfl⟩
 have rp : rd h pb (place 0 k 4) 4 [.int .i64 x,.int .i64 y,.int .i64 wn,.int .i64 wd]:=by
  obtain ⟨b',o',q,_,w⟩:=hpl.at x0 ck
  cases q
  have w:=w 0 4 (by omega) (by omega)
  rw [hg] at w
  refine rd_ok hA ?_
  have e:=hk pb lpb apart.1 apart.2
  unfold AHeap.readG AHeap.cells? at w ⊢
  rw [e]
  exact w
 rw [hg] at P0
 obtain ⟨h9,hh9⟩ : ∃ z,z = bump h 30:=⟨_,rfl⟩
 have x9 : Ext h h9:=by rw [hh9];exact ext_bump hA _ _
 have t9:=t.more x9
 refine hA.roundR Try.func12 r12_ok (zc ?_)
 refine br (k < PP) (by rw [e_lss hA]) (fun _ => ?_) (fun q => by omega) <;> refine zc ?_
 have px0 : 0 ≤ x:=P0.x0
 have px1 : x < nn:=by have:=P0.x1;simp only at this;omega
 have py0 : 0 ≤ y:=P0.y0
 have py1 : y < nn:=by have:=P0.y1;simp only at this;omega
 have wf : isF wn wd (Pk.w ⟨x,y,wn,wd⟩):=P0.f
 have wc : isC wn 0 wd (Cq.real (Pk.w ⟨x,y,wn,wd⟩)):=isC_real wf (by have:=P0.n1;simp only at this;omega) (by have:=P0.n2;simp only at this;omega) (by have:=P0.d2;simp only at this;omega)
 have gl:=sq.len
 have ry:=sq.row y py0 py1
 have ok0:=sq.ok y x py0 py1 px0 px1
 obtain ⟨rb,hrb⟩ : ∃ z,z = bs.getD y.toNat 0:=⟨_,rfl⟩
 have rh : rd h9 oa (place 0 y 1) 1 [.slice (some ⟨rb,0,none⟩) nn (someCap 3 nn)]:=by
  have:=t9.head py0 (by omega)
  unfold hdr at this
  rw [ry,← hrb] at this
  rw [e_rd hA,e_place hA];exact this
 have re:=t9.el (by omega) py0 (by omega) px0 (by omega)
 rw [← hrb] at re
 obtain ⟨sk,hsk⟩ : ∃ z,z = gt (gt g y) x:=⟨_,rfl⟩
 rw [← hsk] at re ok0
 have re : rd h9 rb (place 0 x 3) 3 [.int .i64 sk.a,.int .i64 sk.b,.int .i64 sk.d]:=rd_ok hA re
 obtain ⟨bv,ov,v1,v2,v3,ea,lv,hgv,rv⟩:=cs_at (hv.ext t9.ext) (i:=i) i0 i1
 cases ea
 have okv:=val i i0 (by omega)
 rw [hgv] at okv
 have rv:=rd_ok hA rv
 have l9:=t9.ext.lowOK hlow
 generalize hcap : someCap 3 nn = cap at *
 refine zq ?_
 rw [← hh9]
 refine zq ?_
 refine number_ok hA (low_fresh hA h9) ⟨_,_,_,rfl,?_⟩
 refine zc ?_
 rw [low_same hA l9]
 refine zq ?_
 refine kadd_ok hA (low_fresh hA h9) (s:=sk) (v:=⟨v1,v2,v3⟩) ok0 okv wc (fun r t' u e hz k1 ez => ⟨_,_,_,_,rfl,?_⟩)
 obtain ⟨hX,hhX⟩ : ∃ z,z = lowered h9 hz:=⟨_,rfl⟩
 have eX : Ext h9 hX:=by rw [hhX];exact ext_low hA l9 (.refl h9) ez
 refine zc ?_
 rw [← hhX]
 have tX:=t9.more eX
 obtain ⟨h',w1,t2,wr2⟩:=tX.set py0 (by omega) px0 (by omega) (⟨r,t',u⟩ : Ck)
 rw [← hrb] at w1 wr2
 have ww : wr hX rb (place 0 x 3) [.int .i64 r,.int .i64 t',.int .i64 u] h':=wr_ok hA w1
 refine zq ?_
 have n9 : h9.next = h.next + 30:=by rw [hh9,e_bump hA];rfl
 have lim : ∀ z,z < h9.next → z < addN (next h) 30:=fun z q => by rw [e_addN hA,e_next hA];omega
 have lrb : rb < h9.next:=by rw [hrb];exact t9.ltr _ (bs_mem (by have:=t.len;omega))
 refine ⟨fp_old hA (wrote_no hA (.refl _)) (lim _ t9.lt),fp_old hA (wrote_no hA ez) (lim _ t9.lt),fp_old hA (wrote_no hA (.refl _)) (lim _ t9.lt),fp_old hA (wrote_no hA (.refl _)) (lim _ lrb),fp_old hA (wrote_no hA (.refl _)) (lim _ lv),?_⟩
 refine zc ?_
 have split : L = L.take k.toNat ++ ⟨x,y,wn,wd⟩ :: L.drop (k.toNat + 1):=by
  have e1 : L[k.toNat]'(by omega) = ⟨x,y,wn,wd⟩:=by
   rw [← hg];unfold gt;rw [List.getD_eq_getElem?_getD,List.getElem?_eq_getElem (by omega)];rfl
  rw [← e1,← List.drop_eq_getElem_cons,List.take_append_drop]
 have tk : L.take (k + 1).toNat = L.take k.toNat ++ [⟨x,y,wn,wd⟩]:=by rw [gt_take L x0 (by omega),hg]
 have stepE : gridStep g (⟨x,y,wn,wd⟩,gt v i) = (plusF sk (Pk.w ⟨x,y,wn,wd⟩) ⟨v1,v2,v3⟩).map fun q => g.set y.toNat ((gt g y).set x.toNat q):=by
  unfold gridStep
  rw [hgv,hsk]
 rcases k1 with ⟨q,hq,rfl,rfl,rfl,rfl⟩ | ⟨hq,_,_,_,rfl⟩
 rotate_left
 ·refine br True (by rw [e_neq hA];rfl) (fun _ => ?_) (fun q => absurd trivial q) <;> refine zc ?_
  refine hbad h' _ _ _ ?_ t2.ext
  rw [split,List.map_append,List.map_cons,← List.append_assoc,List.append_cons,run_append,run_append,hr]
  show ((run [(_,gt v i)] g).bind _) = none
  rw [run_one,stepE,hq]
  rfl
 refine br False (by rw [e_neq hA];rfl) (fun q => q.elim) (fun _ => ?_) <;> refine zc ?_
 rw [add64 hA (by omega) (by omega)]
 have se : gridStep g (⟨x,y,wn,wd⟩,gt v i) = some (g.set y.toNat ((gt g y).set x.toNat q)):=by rw [stepE,hq];rfl
 refine ih (k + 1) h' _ (by omega) (by omega) (by omega) ?_ (sq.step ⟨px0,px1⟩ ⟨py0,py1⟩ se) t2 (fun j j0 j1 j2 => ?_) (by rw [wr2.next];have:=eX.next;omega)
 ·rw [tk,List.map_append,← List.append_assoc,run_append,hr]
  show run [(_,gt v i)] g = _
  rw [run_one,se]
 ·rw [wr2.get j (fun e => j2 (by rw [e,hrb];exact bs_mem (by have:=t.len;omega))),eX.get j (by omega),x9.get j (by omega),hk j j0 j1 j2]
theorem grid_outer {h0 : AHeap} (hlow : h0.low ≤ h0.next) {n : Int} {nn : Nat} (hnn : n = nn) (n2 : 2 ≤ n) (n8 : n ≤ 8) {a a' : Option Addr} {N M c c' : Nat} {l : List Sk} {v : List Ck} (hl : Sps h0 a N l) (hi : allS l) (hv : Cs h0 a' M v) (hM : M = N) (hN : N ≤ 32) (hz : spotsOK n l) (val : ValidL v) {oa : Nat} {bs : List Nat} {NN : Int} (hNN : NN = N) {Q : Exit → SS → Prop}
  (hbad : ∀ h' e kn K,run (contrib n l v N) (zeroG nn) = none → Ext h0 h' → Q .ret ⟨(7,.int .i64 16) :: (6,.slice none 0 0) :: e,kn,K,h'⟩)
  (hok : ∀ h' kn g e K,run (contrib n l v N) (zeroG nn) = some g → SqG nn g → Grid2 Ck.cells 3 h0 h' oa bs g → Q (.exit 4) ⟨(9,.slice (some ⟨oa,0,none⟩) nn nn) :: e,kn,K,h'⟩) :
  ∀ (m : Nat) (i : Int) (h : AHeap) (g : Gd),(N - i).toNat ≤ m → 0 ≤ i → i ≤ N → run (contrib n l v i) (zeroG nn) = some g → SqG nn g → Grid2 Ck.cells 3 h0 h oa bs g →
   head 12 18 0 ⟨[(0,.int .i64 n),(2,.slice a' M c'),(9,.slice (some ⟨oa,0,none⟩) nn nn),(53,.slice a N c),(54,.int .i64 NN),(55,.int .i64 i)],0,[],h⟩ Q:=by
 have lN:=hl.len
 have lM:=hv.len
 intro m
 induction m with
 | zero =>
  intro i h g hm i0 i1 hr sq t
  have ei : i = N:=by omega
  refine hA.roundR Try.func12 r12_ok (zc ?_)
  refine br (i < NN) (by rw [e_lss hA]) (fun q => by omega) (fun _ => ?_) <;> refine zc ?_
  rw [ei] at hr
  exact hok h _ g _ _ hr sq t
 | succ m ih =>
 intro i h g hm i0 i1 hr sq t
 by_cases ci : i < N
 rotate_left
 ·have ei : i = N:=by omega
  refine hA.roundR Try.func12 r12_ok (zc ?_)
  refine br (i < NN) (by rw [e_lss hA]) (fun q => by omega) (fun _ => ?_) <;> refine zc ?_
  rw [ei] at hr
  exact hok h _ g _ _ hr sq t
 obtain ⟨b,o,un,ud,vn,vd,ea,_,hg,iu1,iu2,iv1,iv2,r1,_,_⟩:=sp_at (hl.ext t.ext) hi (i:=i) i0 ci
 cases ea
 have q1:=rd_ok hA r1
 obtain ⟨cu,cv⟩:=hz i i0 (by omega)
 rw [hg] at cu cv
 have cu : Coord n un ud:=⟨cu,n2,n8⟩
 have cv : Coord n vn vd:=⟨cv,n2,n8⟩
 refine hA.roundR Try.func12 r12_ok (zc ?_)
 refine br (i < NN) (by rw [e_lss hA]) (fun _ => ?_) (fun q => by omega) <;> refine zc ?_
 refine zq ?_
 have one : CheckS n [⟨un,ud,vn,vd⟩] 0:=by
  refine .inr (.inr (.inr ⟨⟨n2,n8⟩,by simp,fun j j0 j1 => ?_,rfl⟩))
  obtain rfl : j = 0:=by simp at j1;omega
  exact ⟨cu.c,cv.c⟩
 refine parts_ok hA (t.ext.lowOK hlow) ⟨iu1,iu2⟩ ⟨iv1,iv2⟩ (fun e h1 k1 c1 x1 => absurd (k1.uniq one) c1) (fun pb pc P L h1 k1 D hp hs => ⟨_,_,_,_,rfl,?_⟩)
 obtain rfl : L = partsR n ⟨un,ud,vn,vd⟩ n:=sorted_parts (s:=⟨un,ud,vn,vd⟩) cu cv D.len hp hs
 refine zc ?_
 refine br False (by rw [e_neq hA];rfl) (fun q => q.elim) (fun _ => ?_) <;> refine zc ?_
 have few:=(parts_few (s:=⟨un,ud,vn,vd⟩) cu cv).2.1
 have lP:=D.len
 have rows : Rows Pk.cells 4 h1 (some ⟨pb,0,none⟩) P (partsR n ⟨un,ud,vn,vd⟩ n):=by
  have:=Own.rows D.own pk_len (by omega) D.lt
  rwa [lP] at this
 have ap : pb ≠ oa ∧ pb ∉ bs:=⟨by have:=D.old;have:=t.lt;omega,fun q => by have:=D.old;have:=t.ltr _ q;omega⟩
 have suc:=contrib_succ (n:=n) (l:=l) (v:=v) i0
 rw [hg] at suc
 obtain ⟨rest,hrest⟩:=contrib_more (n:=n) (l:=l) (v:=v) (i:=i + 1) (by omega) (N - (i + 1)).toNat
 rw [show i + 1 + (((N - (i + 1)).toNat : Nat) : Int) = N by omega] at hrest
 have t1:=t.more D.ext
 refine grid_inner hA hlow hnn n2 n8 hv val i0 (by omega) (L:=partsR n ⟨un,ud,vn,vd⟩ n) (fun e he => partF (s:=⟨un,ud,vn,vd⟩) cu cv he) few (e_ofNat hA P) (t.ext.trans D.ext) rows D.lt ap (cs0:=contrib n l v i) (fun h' e kn K hrun x' => ?_) (fun h' g' kn K hrun sq' t' => ?_) P 0 h1 g (by omega) (by omega) (by omega) (by simpa using hr) sq t1 (fun j j0 _ _ => rfl) (Nat.le_refl _)
 ·refine zc ?_
  refine hbad h' _ _ _ ?_ x'
  rw [hrest,suc,run_append,hrun]
  rfl
 ·refine zc ?_
  rw [add64 hA (by omega) (by omega)]
  refine ih (i + 1) h' g' (by omega) (by omega) (by omega) ?_ sq' t'
  rw [suc];exact hrun
theorem kgrid_ok {h : AHeap} (hlow : h.low ≤ h.next) {n : Int} {a a' : Option Addr} {N M c c' : Nat} {l : List Sk} {v : List Ck} (hl : Sps h a N l) (hi : allS l) (hv : Cs h a' M v) (hM : M ≤ 100000) (hN : N ≤ 100000) {Q : Value → AHeap → Prop}
  (hbad : ∀ e h',GridIs n l v [] e → e ≠ 0 → Ext h h' → Q (.tuple #[.slice none 0 0,.int .i64 e]) h')
  (hok : ∀ oa bs g h',GridIs n l v g 0 → SqG n.toNat g → Grid2 Ck.cells 3 h h' oa bs g → Q (.tuple #[.slice (some ⟨oa,0,none⟩) n.toNat n.toNat,.int .i64 0]) h') :
  call 12 [.int .i64 n,.slice a N c,.slice a' M c'] h Q:=by
 have lN:=hl.len
 have lM:=hv.len
 refine hA.bodyR Try.func12 r12_ok (hA.alike _ _ _ rfl) hlow (zc ?_)
 refine kcheck_ok hA hlow hl hi (fun e h1 k1 x1 => ⟨_,rfl,?_⟩)
 have l1:=x1.lowOK hlow
 refine zc ?_
 refine br (e ≠ 0) (by rw [e_neq hA]) (fun c => ?_) (fun c => ?_) <;> refine zc ?_
 ·exact hbad e h1 (.inl ⟨k1,c,rfl⟩) c x1
 obtain rfl : e = 0:=by omega
 obtain ⟨⟨n2,n8⟩,l32,hz⟩:=k1.zero
 refine br ((M : Int) ≠ N) (by rw [e_neq hA,e_ofNat hA,e_ofNat hA]) (fun q => ?_) (fun q => ?_) <;> refine zc ?_
 ·exact hbad 2 h1 (.inr (.inl ⟨k1,by omega,rfl,rfl⟩)) (by omega) x1
 have len : v.length = l.length:=by omega
 refine kvalid_ok hA l1 (hv.ext x1) hM (fun r h2 k2 x2 => ⟨_,rfl,?_⟩)
 have y2:=x1.trans x2
 have l2:=y2.lowOK hlow
 refine zc ?_
 refine br (r = false) (by rw [e_bnot hA];cases r <;> rfl) (fun q => ?_) (fun q => ?_) <;> refine zc ?_
 ·exact hbad 8 h2 (.inr (.inr (.inl ⟨k1,len,(fun w => by rw [k2.2 w] at q;cases q),rfl,rfl⟩))) (by omega) y2
 have val : ValidL v:=k2.1 (by cases r with | true => rfl | false => exact absurd rfl q)
 obtain ⟨nn,hnn⟩ : ∃ z : Nat,z = n.toNat:=⟨_,rfl⟩
 have nn' : n = nn:=by omega
 refine ⟨mk_ok hA (by omega) (Int.le_refl _) (by omega),?_⟩
 refine zc ?_
 rw [e_zeros hA,e_next hA,e_push hA,e_nat hA,← hnn,copies_one]
 have e3:=Ext.push h2 1 (List.replicate nn (Value.slice none 0 0))
 have o3:=Own.push h2 1 (List.replicate nn (Value.slice none 0 0))
 have n3 : (h2.push 1 (List.replicate nn (Value.slice none 0 0))).next = h2.next + 1:=rfl
 generalize h2.push 1 (List.replicate nn (Value.slice none 0 0)) = h3 at *
 obtain ⟨oa,hoa⟩ : ∃ z,z = h2.next:=⟨_,rfl⟩
 rw [← hoa] at o3 n3 ⊢
 have B : Bld h h3 oa nn 0 0 [] none 0:=by
  refine ⟨y2.trans e3,?_,rfl,fun b hb => by simp at hb,Apd.nil _ _,by have:=y2.next;omega,fun b hb => by simp at hb,.none _,by omega,fun b hb => by simp at hb,by simp,by simp,fun ad e => by cases e⟩
  have : hdrs 3 [] (List.replicate 0 (zs nn)) ++ Value.slice none 0 0 :: List.replicate (nn - 0 - 1) (.slice none 0 0) = List.replicate nn (Value.slice none 0 0):=by
   unfold hdrs
   obtain ⟨k,rfl⟩ : ∃ k,nn = k + 1:=⟨nn - 1,by omega⟩
   rw [List.replicate_succ]
   simp
  rw [this];exact o3
 refine zc ?_
 rw [e_ofNat hA]
 refine bld_outer hA hlow nn' n2 n8 rfl (fun h4 bs t => ?_) nn 0 h3 [] (by omega) (by omega) B
 refine zc ?_
 have sz:=zeroG_sq nn
 refine grid_outer hA hlow nn' n2 n8 hl hi hv (by omega) (by omega) hz val (e_ofNat hA N) (fun h' e kn K hr x' => ?_) (fun h' kn g e K hr sq t' => ?_) N 0 h4 (zeroG nn) (by omega) (by omega) (by omega) rfl sz t
 ·refine zc ?_
  refine hbad 16 h' (.inr (.inr (.inr ⟨k1,len,val,.inl ⟨?_,rfl,rfl⟩⟩))) (by omega) x'
  rw [lN,← hnn];exact hr
 ·refine zc ?_
  have:=hok oa bs g h' (.inr (.inr (.inr ⟨k1,len,val,.inr ⟨by rw [lN,← hnn];exact hr,rfl⟩⟩))) (by rw [← hnn];exact sq) t'
  rw [← hnn] at this
  exact this
end Go.Proofs.Ytkbgkjlgnmlghaa
