import Derived.Test.YtogliemiljhliaaRdIn
set_option linter.unusedSimpArgs false
set_option linter.unusedVariables false
namespace Go.Proofs.Ytogliemiljhliaa
open Go.Sim
set_option linter.unusedVariables false
set_option maxRecDepth 100000
theorem predL_len (l : List Int) (g s : List Fc) : (predL l g s).length = (pairsL l.length).length:=by unfold predL;rw [List.length_map]
theorem pred_at {l : List Int} (ln : Line l) {g s : List Fc} (ok : predOk l g s) {p : P2} (hp : p ∈ pairsL l.length) : smallF (gt g p.i) ∧ smallF (gt g p.j) ∧ smallF (gt s (ixI (clsL l) (diffOf l p))) ∧ 0 ≤ ixI (clsL l) (diffOf l p) ∧ ixI (clsL l) (diffOf l p) < s.length:=by
 obtain ⟨o1,o2,o3,o4⟩:=ok
 obtain ⟨p0,p1,p2⟩:=mem_pairs.1 hp
 obtain ⟨ix0,ix1,_⟩:=ixI_mem (diff_mem ln hp)
 exact ⟨o3 _ p0 (by omega),o3 _ (by omega) (by omega),o4 _ ix0 (by omega),ix0,by omega⟩
variable {F : Prims} {call head arith cmp scmp bnot bsame conv neg imax imin ofNat slen place inR nz geZ rd wr push next mkOK nat zeros sadd eqAgg cut slc sslc strAt part app cpy putAt fresh lowered bump wrote addN lt ne fpAll fpApp brk yn rng mget mput mnew bytes clr : _} (hA : AP F ⟨call,head,arith,cmp,scmp,bnot,bsame,conv,neg,imax,imin,ofNat,slen,place,inR,nz,geZ,rd,wr,push,next,mkOK,nat,zeros,sadd,eqAgg,cut,slc,sslc,strAt,part,app,cpy,putAt,fresh,lowered,bump,wrote,addN,lt,ne,fpAll,fpApp,brk,yn,rng,mget,mput,mnew,bytes,clr⟩)
include hA
set_option maxHeartbeats 1000000 in
theorem gpred_loop {h0 : AHeap} (hlow : h0.low ≤ h0.next) {a : Option Addr} {N c : Nat} {l : List Int} (hl : Is h0 a N l) (ln : Line l) {ag : Option Addr} {G cg : Nat} {g : List Fc} (hg : Rows fC 2 h0 ag G g) {aq : Option Addr} {S cs : Nat} {s : List Fc} (hs : Rows fC 2 h0 aq S s) (ok : predOk l g s) {ac : Option Addr} {C cc : Nat} (hc : Is h0 ac C (clsL l)) (hC : C ≤ 100) {ap : Option Addr} {M cp : Nat} (hp : Rows P2.cells 2 h0 ap M (pairsL N)) (hM : M ≤ 10) {MM : Int} (hMM : MM = M) {Q : Exit → SS → Prop}
  (hok : ∀ h' ao co kn K,Rows fC 2 h' ao M (predL l g s) → Ext h0 h' → Q (.exit 0) ⟨[(10,.slice ao M co)],kn,K,h'⟩) :
  ∀ (m k : Nat) (h : AHeap) (ao : Option Addr) (co : Nat),M - k ≤ m → k ≤ M → Apd h 2 ao k co (((predL l g s).take k).flatMap fC) → From h0.next ao → Ext h0 h →
   head 30 9 0 ⟨[(0,.slice a N c),(1,.slice ag G cg),(2,.slice aq S cs),(9,.slice ac C cc),(10,.slice ao k co),(36,.slice ap M cp),(37,.int .i64 MM),(38,.int .i64 k)],0,[],h⟩ Q:=by
 have lN:=hl.len
 have lM:=hp.len
 have lC:=hc.len
 have lG:=hg.len
 have lS:=hs.len
 have o1:=ok.1
 have o2:=ok.2.1
 have lP : (predL l g s).length = M:=by rw [predL_len,lN];exact lM
 have n5:=ln.n5
 intro m
 induction m with
 | zero =>
  intro k h ao co hm hk t hf e
  obtain ⟨K,hK⟩ : ∃ z : Int,z = k:=⟨_,rfl⟩
  rw [← hK]
  refine hA.roundR Try.func30 r30_ok (zc ?_)
  refine br (K < MM) (by rw [e_lss hA]) (fun q => by omega) (fun _ => ?_) <;> refine zc ?_
  obtain rfl : k = M:=by omega
  rw [List.take_of_length_le (by omega)] at t
  exact hok h ao co _ _ ⟨t.cells,fC_len,by omega⟩ e
 | succ m ih =>
 intro k h ao co hm hk t hf e
 obtain ⟨K,hK⟩ : ∃ z : Int,z = k:=⟨_,rfl⟩
 rw [← hK]
 by_cases ck : k < M
 rotate_left
 ·refine hA.roundR Try.func30 r30_ok (zc ?_)
  refine br (K < MM) (by rw [e_lss hA]) (fun q => by omega) (fun _ => ?_) <;> refine zc ?_
  obtain rfl : k = M:=by omega
  rw [List.take_of_length_le (by omega)] at t
  exact hok h ao co _ _ ⟨t.cells,fC_len,by omega⟩ e
 obtain ⟨pb,po,ep,lpb,wp⟩:=(hp.ext e).at (i:=K) (by omega) (by omega)
 subst ep
 have w0:=wp 0 2 (by omega) (by omega)
 obtain ⟨pi,pj,hgp⟩ : ∃ x y,gt (pairsL N) K = ⟨x,y⟩:=⟨_,_,rfl⟩
 have pmem:=gt_mem (pairsL N) (i:=K) (by omega) (by omega)
 have pm:=mem_pairs.1 pmem
 rw [hgp] at w0 pm pmem
 have w0 : h.readG ⟨pb,po + K.toNat * 2,none⟩ 2 = some [.int .i64 pi,.int .i64 pj]:=w0
 have q0:=rd_ok hA w0
 simp only at pm
 obtain ⟨p0,p1,p2⟩:=pm
 rw [← lN] at pmem
 obtain ⟨s1,s2,s3,ix0,ix1⟩:=pred_at ln ok pmem
 simp only at s1 s2 s3
 obtain ⟨h9,hh9⟩ : ∃ z,z = bump h 17:=⟨_,rfl⟩
 have x9 : Ext h h9:=by rw [hh9];exact ext_bump hA _ _
 have e9:=e.trans x9
 have l9:=e9.lowOK hlow
 obtain ⟨gb,go,ea,_,r1⟩:=(hg.ext e9).at (i:=pi) p0 (by have:=ok.1;omega)
 subst ea
 obtain ⟨gb',go',ea,_,r2⟩:=(hg.ext e9).at (i:=pj) (by omega) (by have:=ok.1;omega)
 cases ea
 obtain ⟨xn,xd,hx⟩ : ∃ x y,gt g pi = ⟨x,y⟩:=⟨_,_,rfl⟩
 obtain ⟨yn,yd,hy⟩ : ∃ x y,gt g pj = ⟨x,y⟩:=⟨_,_,rfl⟩
 have r1:=r1 0 2 (by omega) (by omega)
 have r2:=r2 0 2 (by omega) (by omega)
 rw [hx] at r1
 rw [hy] at r2
 have r1 : rd h9 gb (place go pi 2) 2 [.int .i64 xn,.int .i64 xd]:=rd_ok hA r1
 have r2 : rd h9 gb (place go pj 2) 2 [.int .i64 yn,.int .i64 yd]:=rd_ok hA r2
 refine hA.roundR Try.func30 r30_ok (zc ?_)
 refine br (K < MM) (by rw [e_lss hA]) (fun _ => ?_) (fun q => by omega) <;> refine zc ?_
 refine zq ?_
 rw [← hh9]
 refine zq ?_
 have hx':=s1.is
 have hy':=s2.is
 rw [hx] at hx'
 rw [hy] at hy'
 refine fsub_ok hA (low_fresh hA h9) hx'.i64n hx'.i64d hy'.i64n hy'.i64d (fun u v r k1 hz ez => ⟨_,_,_,rfl,?_⟩)
 obtain ⟨j1,rfl⟩:=opIs_of hx' hy' (by have:=sub_fits s1 s2;rw [hx,hy] at this;exact this) k1
 obtain ⟨hX,hhX⟩ : ∃ z,z = lowered h9 hz:=⟨_,rfl⟩
 have eX : Ext h9 hX:=by rw [hhX];exact ext_low hA l9 (.refl h9) ez
 refine zc ?_
 rw [← hhX]
 refine zq ?_
 refine br False (by rw [e_neq hA];rfl) (fun q => q.elim) (fun _ => ?_) <;> refine zc ?_
 obtain ⟨h8,hh8⟩ : ∃ z,z = bump hX 24:=⟨_,rfl⟩
 have x8 : Ext hX h8:=by rw [hh8];exact ext_bump hA _ _
 have e8:=(e9.trans eX).trans x8
 have l8:=e8.lowOK hlow
 obtain ⟨lb,lo,y,ea,_,hly,ry⟩:=is_at (hl.ext e8) (i:=pj) (by omega) (by omega)
 subst ea
 obtain ⟨lb',lo',x,ea,_,hlx,rx⟩:=is_at (hl.ext e8) (i:=pi) (by omega) (by omega)
 cases ea
 have qy:=rd_ok hA ry
 have qx:=rd_ok hA rx
 have g1:=ln.rng (i:=pi) p0 (by omega)
 have g2:=ln.rng (i:=pj) (by omega) (by omega)
 have es : arith .sub .i64 y x = y - x:=sub64 hA (by omega) (by omega)
 have edf : diffOf l ⟨pi,pj⟩ = y - x:=by unfold diffOf;simp only;omega
 obtain ⟨d,hd⟩ : ∃ z,z = y - x:=⟨_,rfl⟩
 rw [← hd] at es edf
 rw [edf] at ix0 ix1 s3
 obtain ⟨sb,so,ea,_,r3⟩:=(hs.ext e8).at (i:=ixI (clsL l) d) ix0 (by omega)
 subst ea
 obtain ⟨zn,zd,hz3⟩ : ∃ x y,gt s (ixI (clsL l) d) = ⟨x,y⟩:=⟨_,_,rfl⟩
 have r3:=r3 0 2 (by omega) (by omega)
 rw [hz3] at r3
 have hz':=s3.is
 rw [hz3] at hz'
 rw [← hh8]
 (refine zq ?_;repeat ((first | rw [es]);refine zq ?_))
 refine index_ok hA (low_fresh hA h8) ((hc.ext e8).ext (ext_fresh hA h8)) (by omega) (fun r hr => ⟨_,rfl,?_⟩)
 refine zc ?_
 rw [low_same hA l8]
 rw [← hr] at r3 ix0 ix1
 have r3 : rd h8 sb (place so r 2) 2 [.int .i64 zn,.int .i64 zd]:=rd_ok hA r3
 refine zq ?_
 refine fadd_ok hA (low_fresh hA h8) j1.i64n j1.i64d hz'.i64n hz'.i64d (fun u' v' r' k2 hw ew => ⟨_,_,_,rfl,?_⟩)
 obtain ⟨j2,rfl⟩:=opIs_of j1 hz' (by have:=pred_fits s1 s2 s3;rw [hx,hy,hz3] at this;exact this) k2
 obtain ⟨hY,hhY⟩ : ∃ z,z = lowered h8 hw:=⟨_,rfl⟩
 have eY : Ext h8 hY:=by rw [hhY];exact ext_low hA l8 (.refl h8) ew
 refine zc ?_
 rw [← hhY]
 refine zq ?_
 refine br False (by rw [e_neq hA];rfl) (fun q => q.elim) (fun _ => ?_) <;> refine zc ?_
 refine zq ?_
 have eF:=e8.trans eY
 have tF:=t.ext (((x9.trans eX).trans x8).trans eY)
 refine appR_ok hA TF fC_len (by omega) fC_ok (v:=⟨u',v'⟩) tF (by omega) (fun a' c' h' ha hx2 => ?_)
 obtain ⟨k',hk'⟩ : ∃ z,z = k + 1:=⟨_,rfl⟩
 rw [← hk'] at ha ⊢
 refine zc ?_
 rw [add64 hA (by omega) (by omega),show K + 1 = ((k' : Nat) : Int) by omega]
 obtain ⟨y1,y2⟩:=hx2 h0 eF hf
 have tk:=gt_take (predL l g s) (i:=K) (by omega) (by omega)
 have gL : gt (predL l g s) K = ⟨u',v'⟩:=by
  unfold predL
  rw [gt_map (predF l g s) _ (by omega) (by rw [lN];omega),lN,hgp,asF_is j2]
  unfold predF predQ
  rw [edf,hx,hy,hz3]
 rw [show (K + 1).toNat = k' by omega,show K.toNat = k by omega,gL] at tk
 refine ih k' h' a' c' (by omega) (by omega) (by rw [tk];exact ha) y2 y1
set_option maxHeartbeats 1000000 in
theorem gpred_ok {h : AHeap} (hlow : h.low ≤ h.next) {a : Option Addr} {N c : Nat} {l : List Int} (hl : Is h a N l) {ag : Option Addr} {G cg : Nat} {g : List Fc} (hg : Rows fC 2 h ag G g) (ig : inI g) (G1 : G ≤ 100000) {aq : Option Addr} {S cs : Nat} {s : List Fc} (hs : Rows fC 2 h aq S s) (is' : inI s) (S1 : S ≤ 100000) {Q : Value → AHeap → Prop}
  (hQ : ∀ e h' ax kx cx x,PredIs l g s e x → Rows fC 2 h' ax kx x → Ext h h' → Q (.tuple #[.slice ax kx cx,.int .i64 e]) h') : call 30 [.slice a N c,.slice ag G cg,.slice aq S cs] h Q:=by
 have lN:=hl.len
 have lG:=hg.len
 have lS:=hs.len
 have nilR : ∀ h,Rows fC 2 h none 0 []:=fun h => Rows.nil h fC_len (by omega)
 refine hA.bodyR Try.func30 r30_ok (hA.alike _ _ _ rfl) hlow (zc ?_)
 refine chk_ok hA hlow hl (fun e h1 k1 x1 => ⟨_,rfl,?_⟩)
 refine zc ?_
 refine br (e ≠ 0) (by rw [e_neq hA]) (fun c1 => ?_) (fun c1 => ?_) <;> refine zc ?_
 ·exact hQ e h1 none 0 0 [] (.inl ⟨k1,c1,rfl⟩) (nilR _) x1
 have ln:=k1.zero (Decidable.of_not_not c1)
 have n5:=ln.n5
 refine cls_ok hA (x1.lowOK hlow) (hl.ext x1) ln (fun h2 cb C co1 rc cc1 c10 hb x2 => ⟨_,_,_,rfl,?_⟩)
 have y2:=x1.trans x2
 have lC:=rc.len
 refine zc ?_
 rw [e_ofNat hA]
 refine rfits_ok31 hA (y2.lowOK hlow) (hg.ext y2) ig G1 (fun r1 h3 q1 x3 => ⟨_,rfl,?_⟩)
 have y3:=y2.trans x3
 refine zc ?_
 refine br (r1 = false) (by rw [e_bnot hA];cases r1 <;> rfl) (fun c2 => ?_) (fun c2 => ?_) <;> refine zc ?_
 ·exact hQ 2 h3 none 0 0 [] (.inr (.inl ⟨ln,(fun w => Bool.noConfusion (c2.symm.trans (q1.2 ⟨by have:=w.1;omega,w.2.2.1⟩))),rfl,rfl⟩)) (nilR _) y3
 have q1':=q1.1 (by cases r1 with | true => rfl | false => exact absurd rfl c2)
 rw [e_ofNat hA]
 refine rfits_ok31 hA (y3.lowOK hlow) (hs.ext y3) is' S1 (fun r2 h4 q2 x4 => ⟨_,rfl,?_⟩)
 have y4:=y3.trans x4
 refine zc ?_
 refine br (r2 = false) (by rw [e_bnot hA];cases r2 <;> rfl) (fun c3 => ?_) (fun c3 => ?_) <;> refine zc ?_
 ·exact hQ 2 h4 none 0 0 [] (.inr (.inl ⟨ln,(fun w => Bool.noConfusion (c3.symm.trans (q2.2 ⟨by have:=w.2.1;omega,w.2.2.2⟩))),rfl,rfl⟩)) (nilR _) y4
 have q2':=q2.1 (by cases r2 with | true => rfl | false => exact absurd rfl c3)
 have ok : predOk l g s:=⟨by omega,by omega,q1'.2,q2'.2⟩
 refine pairs_ok hA (y4.lowOK hlow) (by omega) (fun h5 ap M cp rp hM x5 => ⟨_,_,_,rfl,?_⟩)
 have y5:=y4.trans x5
 refine zc ?_
 rw [e_ofNat hA]
 refine gpred_loop hA (y5.lowOK hlow) (hl.ext y5) ln (hg.ext y5) (hs.ext y5) ok (rc.ext ((x3.trans x4).trans x5)) (by omega) rp hM rfl (fun h6 ao co kn K r6 x6 => ?_) M 0 h5 none 0 (by omega) (by omega) (by simpa using Apd.nil h5 2) (.none _) (.refl _)
 refine zc ?_
 exact hQ 0 h6 _ _ _ _ (.inr (.inr ⟨ln,ok,rfl,rfl⟩)) r6 (y5.trans x6)
end Go.Proofs.Ytogliemiljhliaa
