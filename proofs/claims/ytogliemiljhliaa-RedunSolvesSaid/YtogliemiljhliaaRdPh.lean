import Derived.Test.YtogliemiljhliaaRdPg
set_option linter.unusedSimpArgs false
set_option linter.unusedVariables false
namespace Go.Proofs.Ytogliemiljhliaa
open Go.Sim
set_option linter.unusedVariables false
set_option maxRecDepth 100000
variable {F : Prims} {call head arith cmp scmp bnot bsame conv neg imax imin ofNat slen place inR nz geZ rd wr push next mkOK nat zeros sadd eqAgg cut slc sslc strAt part app cpy putAt fresh lowered bump wrote addN lt ne fpAll fpApp brk yn rng mget mput mnew bytes clr : _} (hA : AP F ⟨call,head,arith,cmp,scmp,bnot,bsame,conv,neg,imax,imin,ofNat,slen,place,inR,nz,geZ,rd,wr,push,next,mkOK,nat,zeros,sadd,eqAgg,cut,slc,sslc,strAt,part,app,cpy,putAt,fresh,lowered,bump,wrote,addN,lt,ne,fpAll,fpApp,brk,yn,rng,mget,mput,mnew,bytes,clr⟩)
include hA
set_option maxHeartbeats 1000000 in
theorem rpred_inner {h0 : AHeap} (hlow : h0.low ≤ h0.next) {a : Option Addr} {N c : Nat} {l : List Int} (hl : Is h0 a N l) (ln : Line l) {ag : Option Addr} {G cg : Nat} {g : List Fc} (hg : Rows fC 2 h0 ag G g) {aq : Option Addr} {S cs : Nat} {s : List Fc} (hs : Rows fC 2 h0 aq S s) (ok : predOk l g s) {ac : Option Addr} {C cc : Nat} (hc : Is h0 ac C (clsL l)) (hC : C ≤ 100) {i : Int} (i0 : 0 ≤ i) (i1 : i < N) {L : List P2} (hL : L.length ≤ 100) {Q : Exit → SS → Prop}
  (hok : ∀ h' ao k co,k = (L ++ pRow i N).length → Apd h' 2 ao k co (((L ++ pRow i N).map (predF l g s)).flatMap fC) → From h0.next ao → Ext h0 h' → Q (.exit 2) ⟨[(0,.slice a N c),(1,.slice ag G cg),(2,.slice aq S cs),(8,.slice ac C cc),(9,.slice ao k co),(10,.int .i64 i)],0,[],h'⟩) :
  ∀ (m : Nat) (j : Int) (h : AHeap) (ao : Option Addr) (k co : Nat),(N - j).toNat ≤ m → i < j → j ≤ N → k = (L ++ pRow i j).length → Apd h 2 ao k co (((L ++ pRow i j).map (predF l g s)).flatMap fC) → From h0.next ao → Ext h0 h →
   head 31 11 0 ⟨[(0,.slice a N c),(1,.slice ag G cg),(2,.slice aq S cs),(8,.slice ac C cc),(9,.slice ao k co),(10,.int .i64 i),(11,.int .i64 j)],0,[],h⟩ Q:=by
 have lN:=hl.len
 have lC:=hc.len
 have n5:=ln.n5
 have lG:=hg.len
 have lS:=hs.len
 have o1:=ok.1
 have o2:=ok.2.1
 intro m
 induction m with
 | zero =>
  intro j h ao k co hm j0 j1 hk t hf he
  refine hA.roundR Try.func31 r31_ok (zc ?_)
  refine br (j < N) (by rw [e_lss hA,e_ofNat hA]) (fun q => by omega) (fun _ => ?_) <;> refine zc ?_
  obtain rfl : j = N:=by omega
  exact hok h ao k co hk t hf he
 | succ m ih =>
 intro j h ao k co hm j0 j1 hk t hf he
 by_cases cj : j < N
 rotate_left
 ·refine hA.roundR Try.func31 r31_ok (zc ?_)
  refine br (j < N) (by rw [e_lss hA,e_ofNat hA]) (fun q => by omega) (fun _ => ?_) <;> refine zc ?_
  obtain rfl : j = N:=by omega
  exact hok h ao k co hk t hf he
 have kb : k ≤ 1000:=by
  rw [hk,List.length_append]
  have:=pRow_len i j.toNat
  rw [show ((j.toNat : Nat) : Int) = j by omega] at this
  omega
 have pmem : (⟨i,j⟩ : P2) ∈ pairsL l.length:=mem_pairs.2 ⟨i0,j0,by simp only;omega⟩
 obtain ⟨s1,s2,s3,ix0,ix1⟩:=pred_at ln ok pmem
 simp only at s1 s2 s3
 obtain ⟨h9,hh9⟩ : ∃ z,z = bump h 15:=⟨_,rfl⟩
 have x9 : Ext h h9:=by rw [hh9];exact ext_bump hA _ _
 have e9:=he.trans x9
 have l9:=e9.lowOK hlow
 obtain ⟨gb,go,ea,_,r1⟩:=(hg.ext e9).at (i:=i) i0 (by omega)
 subst ea
 obtain ⟨gb',go',ea,_,r2⟩:=(hg.ext e9).at (i:=j) (by omega) (by omega)
 cases ea
 obtain ⟨xn,xd,hx⟩ : ∃ x y,gt g i = ⟨x,y⟩:=⟨_,_,rfl⟩
 obtain ⟨yn,yd,hy⟩ : ∃ x y,gt g j = ⟨x,y⟩:=⟨_,_,rfl⟩
 have r1:=r1 0 2 (by omega) (by omega)
 have r2:=r2 0 2 (by omega) (by omega)
 rw [hx] at r1
 rw [hy] at r2
 have r1 : rd h9 gb (place go i 2) 2 [.int .i64 xn,.int .i64 xd]:=rd_ok hA r1
 have r2 : rd h9 gb (place go j 2) 2 [.int .i64 yn,.int .i64 yd]:=rd_ok hA r2
 refine hA.roundR Try.func31 r31_ok (zc ?_)
 refine br (j < N) (by rw [e_lss hA,e_ofNat hA]) (fun _ => ?_) (fun q => by omega) <;> refine zc ?_
 refine zq ?_
 rw [← hh9]
 refine zq ?_
 have hx':=s1.is
 have hy':=s2.is
 rw [hx] at hx'
 rw [hy] at hy'
 refine rsub_ok hA (low_fresh hA h9) hx'.i64n hx'.i64d hy'.i64n hy'.i64d (fun u v r k1 hz ez => ⟨_,_,_,rfl,?_⟩)
 obtain ⟨j1',rfl⟩:=opIs_of hx' hy' (by have:=sub_fits s1 s2;rw [hx,hy] at this;exact this) k1
 obtain ⟨hX,hhX⟩ : ∃ z,z = lowered h9 hz:=⟨_,rfl⟩
 have eX : Ext h9 hX:=by rw [hhX];exact ext_low hA l9 (.refl h9) ez
 refine zc ?_
 rw [← hhX]
 obtain ⟨h8,hh8⟩ : ∃ z,z = bump hX 20:=⟨_,rfl⟩
 have x8 : Ext hX h8:=by rw [hh8];exact ext_bump hA _ _
 have e8:=(e9.trans eX).trans x8
 have l8:=e8.lowOK hlow
 obtain ⟨lb,lo,y,ea,_,hly,ry⟩:=is_at (hl.ext e8) (i:=j) (by omega) (by omega)
 subst ea
 obtain ⟨lb',lo',x,ea,_,hlx,rx⟩:=is_at (hl.ext e8) (i:=i) (by omega) (by omega)
 cases ea
 have qy:=rd_ok hA ry
 have qx:=rd_ok hA rx
 have g1:=ln.rng (i:=i) i0 (by omega)
 have g2:=ln.rng (i:=j) (by omega) (by omega)
 have es : arith .sub .i64 y x = y - x:=sub64 hA (by omega) (by omega)
 have edf : diffOf l ⟨i,j⟩ = y - x:=by unfold diffOf;simp only;omega
 obtain ⟨d,hd⟩ : ∃ z,z = y - x:=⟨_,rfl⟩
 rw [← hd] at es edf
 rw [edf] at ix0 ix1 s3
 obtain ⟨sb,so,ea,_,r3⟩:=(hs.ext e8).at (i:=ixI (clsL l) d) ix0 (by omega)
 subst ea
 obtain ⟨zn,zd,hz3⟩ : ∃ x y,gt s (ixI (clsL l) d) = ⟨x,y⟩:=⟨_,_,rfl⟩
 have r3:=r3 0 2 (by omega) (by omega)
 rw [hz3] at r3
 have hz':=s3.is
 rw [hz3] at hz'
 refine zq ?_
 rw [← hh8]
 (refine zq ?_;repeat ((first | rw [es]);refine zq ?_))
 refine at_ok hA (low_fresh hA h8) ((hc.ext e8).ext (ext_fresh hA h8)) (by omega) (fun r hr => ⟨_,rfl,?_⟩)
 refine zc ?_
 rw [low_same hA l8]
 rw [← hr] at r3 ix0 ix1
 have r3 : rd h8 sb (place so r 2) 2 [.int .i64 zn,.int .i64 zd]:=rd_ok hA r3
 refine zq ?_
 refine radd_ok hA (low_fresh hA h8) j1'.i64n j1'.i64d hz'.i64n hz'.i64d (fun u' v' r' k2 hw ew => ⟨_,_,_,rfl,?_⟩)
 obtain ⟨j2,rfl⟩:=opIs_of j1' hz' (by have:=pred_fits s1 s2 s3;rw [hx,hy,hz3] at this;exact this) k2
 obtain ⟨hY,hhY⟩ : ∃ z,z = lowered h8 hw:=⟨_,rfl⟩
 have eY : Ext h8 hY:=by rw [hhY];exact ext_low hA l8 (.refl h8) ew
 refine zc ?_
 rw [← hhY]
 refine zq ?_
 have eF:=e8.trans eY
 have tF:=t.ext (((x9.trans eX).trans x8).trans eY)
 refine appR_ok hA TF fC_len (by omega) fC_ok (v:=⟨u',v'⟩) tF (by omega) (fun a' c' h' ha hx2 => ?_)
 obtain ⟨k',hk'⟩ : ∃ z,z = k + 1:=⟨_,rfl⟩
 rw [← hk'] at ha ⊢
 refine zc ?_
 rw [add64 hA (by omega) (by omega)]
 obtain ⟨y1,y2⟩:=hx2 h0 eF hf
 have gL : predF l g s ⟨i,j⟩ = ⟨u',v'⟩:=by
  rw [asF_is j2]
  unfold predF predQ
  rw [edf,← hr]
  simp only
  rw [hx,hy,hr,hz3]
 have tk : (L ++ pRow i (j + 1)).map (predF l g s) = (L ++ pRow i j).map (predF l g s) ++ [⟨u',v'⟩]:=by
  rw [pRow_succ (by omega),← List.append_assoc,List.map_append]
  congr 1
  unfold pOne;rw [if_pos j0,← gL];rfl
 refine ih (j + 1) h' a' k' c' (by omega) (by omega) (by omega) ?_ (by rw [tk];exact ha) y2 y1
 rw [hk',hk,pRow_succ (by omega)]
 unfold pOne;rw [if_pos j0]
 simp only [List.length_append,List.length_singleton];omega
theorem rpred_outer {h0 : AHeap} (hlow : h0.low ≤ h0.next) {a : Option Addr} {N c : Nat} {l : List Int} (hl : Is h0 a N l) (ln : Line l) {ag : Option Addr} {G cg : Nat} {g : List Fc} (hg : Rows fC 2 h0 ag G g) {aq : Option Addr} {S cs : Nat} {s : List Fc} (hs : Rows fC 2 h0 aq S s) (ok : predOk l g s) {ac : Option Addr} {C cc : Nat} (hc : Is h0 ac C (clsL l)) (hC : C ≤ 100) {Q : Exit → SS → Prop}
  (hok : ∀ h' ao k co,k = (pairsL N).length → Apd h' 2 ao k co (((pairsL N).map (predF l g s)).flatMap fC) → Ext h0 h' → Q (.exit 0) ⟨[(9,.slice ao k co)],0,[],h'⟩) :
  ∀ (m : Nat) (i : Int) (h : AHeap) (ao : Option Addr) (k co : Nat),(N - i).toNat ≤ m → 0 ≤ i → i ≤ N → k = (pUpTo N i).length → Apd h 2 ao k co (((pUpTo N i).map (predF l g s)).flatMap fC) → From h0.next ao → Ext h0 h →
   head 31 8 0 ⟨[(0,.slice a N c),(1,.slice ag G cg),(2,.slice aq S cs),(8,.slice ac C cc),(9,.slice ao k co),(10,.int .i64 i)],0,[],h⟩ Q:=by
 have n5:=ln.n5
 have lN:=hl.len
 intro m
 induction m with
 | zero =>
  intro i h ao k co hm i0 i1 hk t hf w
  refine hA.roundR Try.func31 r31_ok (zc ?_)
  refine br (i < N) (by rw [e_lss hA,e_ofNat hA]) (fun q => by omega) (fun _ => ?_) <;> refine zc ?_
  obtain rfl : i = N:=by omega
  exact hok h ao k co hk t w
 | succ m ih =>
 intro i h ao k co hm i0 i1 hk t hf w
 refine hA.roundR Try.func31 r31_ok (zc ?_)
 refine br (i < N) (by rw [e_lss hA,e_ofNat hA]) (fun ci => ?_) (fun _ => ?_) <;> refine zc ?_
 rotate_left
 ·obtain rfl : i = N:=by omega
  exact hok h ao k co hk t w
 have lb:=pUpTo_len N i.toNat
 rw [show ((i.toNat : Nat) : Int) = i by omega] at lb
 have lb2 : N * i.toNat ≤ 5 * 5:=Nat.mul_le_mul (by omega) (by omega)
 rw [add64 hA (by omega) (by omega)]
 have e0 : pUpTo N i ++ pRow i (i + 1) = pUpTo N i:=by rw [pRow_none,List.append_nil]
 refine rpred_inner hA hlow hl ln hg hs ok hc hC i0 ci (L:=pUpTo N i) (by omega) (fun h' ao' k' co' hk' t' hf' w' => ?_) N (i + 1) h ao k co (by omega) (by omega) (by omega) (by rw [e0];exact hk) (by rw [e0];exact t) hf w
 refine zc ?_
 rw [add64 hA (by omega) (by omega)]
 exact ih (i + 1) h' ao' k' co' (by omega) (by omega) (by omega) (by rw [pUpTo_succ i0];exact hk') (by rw [pUpTo_succ i0];exact t') hf' w'
set_option maxHeartbeats 1000000 in
theorem grpred_ok {h : AHeap} (hlow : h.low ≤ h.next) {a : Option Addr} {N c : Nat} {l : List Int} (hl : Is h a N l) {ag : Option Addr} {G cg : Nat} {g : List Fc} (hg : Rows fC 2 h ag G g) (ig : inI g) (G1 : G ≤ 100000) {aq : Option Addr} {S cs : Nat} {s : List Fc} (hs : Rows fC 2 h aq S s) (is' : inI s) (S1 : S ≤ 100000) {Q : Value → AHeap → Prop}
  (hQ : ∀ e h' ax kx cx x,PredIs l g s e x → Rows fC 2 h' ax kx x → Ext h h' → Q (.tuple #[.slice ax kx cx,.int .i64 e]) h') : call 31 [.slice a N c,.slice ag G cg,.slice aq S cs] h Q:=by
 have lN:=hl.len
 have lG:=hg.len
 have lS:=hs.len
 have nilR : ∀ h,Rows fC 2 h none 0 []:=fun h => Rows.nil h fC_len (by omega)
 refine hA.bodyR Try.func31 r31_ok (hA.alike _ _ _ rfl) hlow (zc ?_)
 refine rchk_ok hA hlow hl (fun e h1 k1 x1 => ⟨_,rfl,?_⟩)
 refine zc ?_
 refine br (e ≠ 0) (by rw [e_neq hA]) (fun c1 => ?_) (fun c1 => ?_) <;> refine zc ?_
 ·refine rchk_ok hA (x1.lowOK hlow) (hl.ext x1) (fun e' h2 k2 x2 => ⟨_,rfl,?_⟩)
  obtain rfl:=k1.uniq k2
  refine zc ?_
  exact hQ e h2 none 0 0 [] (.inl ⟨k1,c1,rfl⟩) (nilR _) (x1.trans x2)
 have ln:=k1.zero (Decidable.of_not_not c1)
 have n5:=ln.n5
 refine rcls_ok hA (x1.lowOK hlow) (hl.ext x1) ln (fun h2 ac C co1 rc c10 x2 => ⟨_,_,_,rfl,?_⟩)
 have y2:=x1.trans x2
 have lC:=rc.len
 have bad : ∀ h',Ext h h' → ¬ predOk l g s → Q (.tuple #[.slice none 0 0,.int .i64 2]) h':=fun h' x w => hQ 2 h' none 0 0 [] (.inr (.inl ⟨ln,w,rfl,rfl⟩)) (nilR _) x
 refine zc ?_
 refine br ((G : Int) ≠ N) (by rw [e_neq hA,e_ofNat hA,e_ofNat hA]) (fun c2 => ?_) (fun c2 => ?_) <;> refine zc ?_
 ·exact bad _ y2 (fun w => c2 (by have:=w.1;omega))
 refine zc ?_
 refine br ((S : Int) ≠ C) (by rw [e_neq hA,e_ofNat hA,e_ofNat hA]) (fun c3 => ?_) (fun c3 => ?_) <;> refine zc ?_
 ·exact bad _ y2 (fun w => c3 (by have:=w.2.1;omega))
 refine zc ?_
 refine small_ok31 hA (y2.lowOK hlow) (hg.ext y2) ig G1 (fun r1 h3 q1 x3 => ⟨_,rfl,?_⟩)
 have y3:=y2.trans x3
 refine zc ?_
 refine br (r1 = false) (by rw [e_bnot hA];cases r1 <;> rfl) (fun c4 => ?_) (fun c4 => ?_) <;> refine zc ?_
 ·exact bad _ y3 (fun w => Bool.noConfusion (c4.symm.trans (q1.2 w.2.2.1)))
 have q1':=q1.1 (by cases r1 with | true => rfl | false => exact absurd rfl c4)
 refine small_ok31 hA (y3.lowOK hlow) (hs.ext y3) is' S1 (fun r2 h4 q2 x4 => ⟨_,rfl,?_⟩)
 have y4:=y3.trans x4
 refine zc ?_
 refine br (r2 = false) (by rw [e_bnot hA];cases r2 <;> rfl) (fun c5 => ?_) (fun c5 => ?_) <;> refine zc ?_
 ·exact bad _ y4 (fun w => Bool.noConfusion (c5.symm.trans (q2.2 w.2.2.2)))
 have q2':=q2.1 (by cases r2 with | true => rfl | false => exact absurd rfl c5)
 have ok : predOk l g s:=⟨by omega,by omega,q1',q2'⟩
 have z0 : pUpTo (N : Int) 0 = []:=rfl
 refine rpred_outer hA (y4.lowOK hlow) (hl.ext y4) ln (hg.ext y4) (hs.ext y4) ok (rc.ext (x3.trans x4)) c10 (fun h6 ao k co hk t6 x6 => ?_) N 0 h4 none 0 0 (by omega) (by omega) (by omega) (by rw [z0];rfl) (by rw [z0];simpa using Apd.nil h4 2) (.none _) (.refl _)
 refine zc ?_
 rw [← lN] at t6
 exact hQ 0 h6 _ _ _ _ (.inr (.inr ⟨ln,ok,rfl,rfl⟩)) ⟨t6.cells,fC_len,by omega⟩ (y4.trans x6)
end Go.Proofs.Ytogliemiljhliaa
