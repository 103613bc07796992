import Derived.Test.YtogliemiljhliaaRdSd
import Derived.Test.YtogliemiljhliaaSymApp2
import Derived.Test.YtogliemiljhliaaRdPh
set_option linter.unusedSimpArgs false
set_option linter.unusedVariables false
namespace Go.Proofs.Ytogliemiljhliaa
open Go.Sim
set_option linter.unusedVariables false
set_option maxRecDepth 100000
variable {F : Prims} {call head arith cmp scmp bnot bsame conv neg imax imin ofNat slen place inR nz geZ rd wr push next mkOK nat zeros sadd eqAgg cut slc sslc strAt part app cpy putAt fresh lowered bump wrote addN lt ne fpAll fpApp brk yn rng mget mput mnew bytes clr : _} (hA : AP F ⟨call,head,arith,cmp,scmp,bnot,bsame,conv,neg,imax,imin,ofNat,slen,place,inR,nz,geZ,rd,wr,push,next,mkOK,nat,zeros,sadd,eqAgg,cut,slc,sslc,strAt,part,app,cpy,putAt,fresh,lowered,bump,wrote,addN,lt,ne,fpAll,fpApp,brk,yn,rng,mget,mput,mnew,bytes,clr⟩)
include hA
set_option maxHeartbeats 1000000 in
theorem grsolve_ok {h : AHeap} (hlow : h.low ≤ h.next) {a : Option Addr} {N c : Nat} {l : List Int} (hl : Is h a N l) {ar : Option Addr} {M cr : Nat} {ph : List Int} (hr : Is h ar M ph) (hM : M ≤ 100000) {Q : Value → AHeap → Prop}
  (hQ : ∀ e h' ax kx cx ay ky cy x y,SolveIs l ph e x y → Rows fC 2 h' ax kx x → Rows fC 2 h' ay ky y → Ext h h' → Q (.tuple #[.slice ax kx cx,.slice ay ky cy,.int .i64 e]) h') : call 29 [.slice a N c,.slice ar M cr] h Q:=by
 have lN:=hl.len
 have lM:=hr.len
 have nilR : ∀ h,Rows fC 2 h none 0 []:=fun h => Rows.nil h fC_len (by omega)
 refine hA.bodyR Try.func29 r29_ok (hA.alike _ _ _ rfl) hlow (zc ?_)
 refine rchk_ok hA hlow hl (fun e h1 k1 x1 => ⟨_,rfl,?_⟩)
 refine zc ?_
 refine br (e ≠ 0) (by rw [e_neq hA]) (fun c1 => ?_) (fun c1 => ?_) <;> refine zc ?_
 ·refine rchk_ok hA (x1.lowOK hlow) (hl.ext x1) (fun e' h2 k2 x2 => ⟨_,rfl,?_⟩)
  obtain rfl:=k1.uniq k2
  refine zc ?_
  exact hQ e h2 none 0 0 none 0 0 [] [] (.inl ⟨k1,c1,rfl,rfl⟩) (nilR _) (nilR _) (x1.trans x2)
 have ln:=k1.zero (Decidable.of_not_not c1)
 refine rph_ok hA (x1.lowOK hlow) (hl.ext x1) ln (hr.ext x1) hM (fun r hr' => ⟨_,rfl,?_⟩)
 refine zc ?_
 refine br (r = false) (by rw [e_bnot hA];cases r <;> rfl) (fun c2 => ?_) (fun c2 => ?_) <;> refine zc ?_
 ·exact hQ 2 h1 none 0 0 none 0 0 [] [] (.inr (.inl ⟨ln,(fun q => Bool.noConfusion (c2.symm.trans (hr'.2 q))),rfl,rfl,rfl⟩)) (nilR _) (nilR _) x1
 have pok : phsOk l ph:=hr'.1 (by cases r with | true => rfl | false => exact absurd rfl c2)
 have eM : M = (pairsL l.length).length:=by have:=pok.1;omega
 have hb : ∀ i : Int,0 ≤ i → i < ph.length → (gt ph i).natAbs ≤ 99:=fun i i0 i1 => by have:=pok.2 i i0 i1;unfold phOk at this;omega
 have fine:=fun c hc => line_fine (l:=l) (right:=ph) pok.1 ln hb c hc
 have n5:=ln.n5
 have n2:=ln.n2
 have w50:=wid_few ln
 have m10:=pairs_few n5
 have m1 : 0 < M:=by
  rw [eM,pairsL_len l.length n5]
  have : l.length = 2 ∨ l.length = 3 ∨ l.length = 4 ∨ l.length = 5:=by omega
  rcases this with e | e | e | e <;> rw [e] <;> decide
 refine rrows_ok hA (x1.lowOK hlow) (hl.ext x1) ln (fun h2 ak K co hs g2 hK k10 x2 => ⟨_,_,_,rfl,?_⟩)
 have y2:=x1.trans x2
 obtain rfl : K = M:=by rw [hK,← lN];exact eM.symm
 obtain ⟨n,hn⟩ : ∃ z,z = wid l:=⟨_,rfl⟩
 refine zc ?_
 refine widen_ok hA (y2.lowOK hlow) g2 (w:=n) (fun y y0 y1 => by rw [rowsL_gt y0 (by omega),rowF_len,hn]) (by omega) (by omega) m1 (hr.ext y2) (fun h3 oa bs co3 M3 => ⟨_,_,_,rfl,?_⟩)
 have M3:=M3.congr (g:=frM (S0 l ph)) (fun y x hy hx => (fr_int _).symm)
 refine zc ?_
 rw [← eM,← hn] at fine
 refine rreduce_ok hA (M3.ext.lowOK (y2.lowOK hlow)) M3 (y2.lowOK hlow) m1 (by omega) (by omega) rfl (fun c hc => (fine c hc).1) (fun c hc => (fine c (by omega)).2 hc) (fun h4 bs4 ba nb cb M4 B4 => ⟨_,_,_,_,_,_,rfl,?_⟩)
 have y4:=y2.trans M4.ext
 have hSE : run K (S0 l ph) n = SE l ph:=by unfold SE;rw [eM,hn]
 rw [hSE] at M4 B4
 have fineS:=(fine n (Nat.le_refl _)).1
 rw [hSE] at fineS
 have lb:=B4.len
 rw [List.length_map] at lb
 obtain ⟨S,hS⟩ : ∃ z,z = SE l ph:=⟨_,rfl⟩
 rw [← hS] at M4 B4 fineS lb
 obtain ⟨rb0,hrb0⟩ : ∃ z,z = bs4 0:=⟨_,rfl⟩
 obtain ⟨cp,hcp⟩ : ∃ z,z = someCap 2 (n + 1):=⟨_,rfl⟩
 rw [← hcp] at M4
 have v0 : rd h4 oa (place 0 0 1) 1 [.slice (some ⟨rb0,0,none⟩) (n + 1) cp]:=rd_ok hA (by rw [hrb0];exact M4.head m1)
 obtain ⟨NN,eNN⟩ : ∃ z : Int,z = (n + 1 : Nat):=⟨_,rfl⟩
 have en1 : ofNat (n + 1) = NN:=by rw [eNN];exact e_ofNat hA _
 obtain ⟨Nn,hNn⟩ : ∃ z : Int,z = n:=⟨_,rfl⟩
 have en2 : arith .sub .i64 NN 1 = Nn:=by rw [sub64 hA (by omega) (by omega)];omega
 obtain ⟨n1,hn1⟩ : ∃ z,z = n + 1:=⟨_,rfl⟩
 rw [← hn1] at v0 en1
 (refine zq ?_;repeat ((first | rw [en1] | rw [en2]);refine zq ?_))
 obtain ⟨B,eB⟩ : ∃ z : Int,z = nb:=⟨_,rfl⟩
 rw [show ofNat nb = B by rw [eB];exact e_ofNat hA nb]
 have solv : solvable l ph ↔ ∀ i,nb ≤ i → i < K → S.R i n = 0:=by unfold solvable;rw [← hS,← eM,lb,hn]
 refine rrest_loop hA M4 fineS.lead (k:=nb) (by have:=fineS.few;omega) (by omega) hNn (fun hne e kn T => ?_) (fun hz0 => ?_) (K - nb) nb B rfl (Nat.le_refl _) (by have:=fineS.few;omega) eB (fun j j0 j1 => by omega)
 ·refine zc ?_
  exact hQ 6 h4 none 0 0 none 0 0 [] [] (.inr (.inr (.inl ⟨ln,pok,fun z => hne (solv.1 z),rfl,rfl,rfl⟩))) (nilR _) (nilR _) y4
 refine zc ?_
 refine ⟨mk_ok hA (by omega) (Int.le_refl _) (by omega),?_⟩
 refine zc ?_
 rw [e_zeros hA,e_next hA,e_push hA,e_nat hA,show Nn.toNat = n by omega]
 rw [show copies [Value.int .i64 0,.int .i64 0] n = (lst (fun _ => (⟨0,0⟩ : Fc)) n).flatMap fC from copies_lst (enc:=fC) ⟨0,0⟩ n]
 refine rzero_loop hA (h0:=h4) (y4.lowOK hlow) (by omega) hNn (fun h5 v5 => ?_) n 0 0 _ (by omega) (by omega) rfl ⟨.push h4 2 _,Own.push h4 2 _,Nat.le_refl _,Nat.lt_succ_self _,fC_len,by omega⟩
 obtain ⟨b,hbb⟩ : ∃ z,z = h4.next:=⟨_,rfl⟩
 rw [← hbb] at v5 ⊢
 refine zc ?_
 refine rfill_loop hA (h0:=h4) (y4.lowOK hlow) M4.ext M4 B4 (k:=nb) (by have:=fineS.few;omega) (by omega) (by omega) (fun x hx => ?_) hNn (fun h6 v6 => ?_) nb 0 0 h5 (by omega) (by omega) rfl v5
 ·refine run_bound (m:=(pairsL l.length).length) (S:=S0 l ph) rfl n x ?_
  rw [hS] at hx
  unfold SE at hx
  rw [← hn] at hx
  exact hx
 have y6:=y4.trans v6.ext
 obtain ⟨h9,hh9⟩ : ∃ z,z = bump h6 15:=⟨_,rfl⟩
 have x9 : Ext h6 h9:=by rw [hh9];exact ext_bump hA _ _
 have y9:=y6.trans x9
 have l9:=y9.lowOK hlow
 have hsol : solL l ph = lst (fillR S.R S.bound S.lead n 1 nb) n:=by unfold solL;rw [← hS,← hn,lb]
 obtain ⟨NI,hNI⟩ : ∃ z : Int,z = N:=⟨_,rfl⟩
 have eN : ofNat N = NI:=by rw [hNI];exact e_ofNat hA N
 have hNn' : N < n:=by
  rw [hn];unfold wid
  have dm:=diff_mem ln (p:=⟨0,1⟩) (mem_pairs.2 ⟨by simp only;omega,by simp only;omega,by simp only;have:=ln.n2;omega⟩)
  have:=List.length_pos_of_mem dm
  omega
 refine zc ?_
 rw [← hh9]
 (refine zq ?_;repeat ((first | rw [eN]);refine zq ?_))
 have hcap : capLow n = n:=Nat.mod_eq_of_lt (by unfold slack;omega)
 refine ⟨by rw [e_cut hA,hcap];exact ⟨by omega,by omega⟩,?_⟩
 refine zc ?_
 rw [e_nat hA]
 obtain ⟨Nk,hNk⟩ : ∃ z,z = NI.toNat:=⟨_,rfl⟩
 rw [← hNk]
 rw [eN]
 refine cut_lo hA TF (by omega) (by omega) (by omega) ?_
 obtain ⟨o2,ho2⟩ : ∃ z,z = 0 + NI.toNat * 2:=⟨_,rfl⟩
 obtain ⟨m2,hm2⟩ : ∃ z,z = n - NI.toNat:=⟨_,rfl⟩
 rw [← ho2,← hm2]
 obtain ⟨ia,hia⟩ : ∃ z,z = addN (next h6) 0:=⟨_,rfl⟩
 obtain ⟨ib,hib⟩ : ∃ z,z = addN (next h6) 5:=⟨_,rfl⟩
 have ia' : ia = h6.next:=by rw [hia,e_addN hA,e_next hA];rfl
 have ib' : ib = h6.next + 5:=by rw [hib,e_addN hA,e_next hA]
 have n9 : h9.next = h6.next + 15:=by rw [hh9,e_bump hA];rfl
 rw [← hia,← hib]
 obtain ⟨p1,p2,p3,p4⟩:=put_ext hA (es:=2) x9 (i:=ia) (by omega) []
 obtain ⟨X1,hX1⟩ : ∃ z,z = putAt h9 ia 2 []:=⟨_,rfl⟩
 rw [← hX1] at p1 p2 p3 p4 ⊢
 obtain ⟨r1,r2,r3,r4⟩:=put_ext hA (es:=2) p1 (i:=ib) (by omega) []
 obtain ⟨X2,hX2⟩ : ∃ z,z = putAt X1 ib 2 []:=⟨_,rfl⟩
 rw [← hX2] at r1 r2 r3 r4 ⊢
 refine zc ?_
 have vX:=v6.more r1
 have ownX:=vX.own
 rw [← hsol] at ownX
 have ls : (solL l ph).length = n:=by rw [hsol,lst_len]
 have ra:=Own.part ownX fC_len (by omega) vX.lt (i:=0) (m:=Nk) (by omega)
 rw [List.drop_zero,Nat.zero_mul] at ra
 refine appCopyD_ok hA TF fC_ok (y6.lowOK hlow) r1 (i:=ia) (by omega) (by omega) (p2.of_get (r4 ia (by omega))) ra (by omega) (fun b1 c1 hz q1 q2 q3 q4 q5 q6 q7 q8 => ?_)
 obtain ⟨X3,hX3⟩ : ∃ z,z = lowered X2 hz:=⟨_,rfl⟩
 rw [← hX3] at q1 q2 q5 q6 q7
 refine zc ?_
 rw [← hX3]
 have vY:=v6.more q7
 have ownY:=vY.own
 rw [← hsol] at ownY
 have rb:=Own.part ownY fC_len (by omega) vY.lt (i:=Nk) (m:=m2) (by omega)
 rw [List.take_of_length_le (by rw [List.length_drop];omega),show Nk * 2 = o2 by omega] at rb
 refine appCopyD_ok hA TF fC_ok (y6.lowOK hlow) q7 (i:=ib) (by omega) (by omega) (r2.of_get (q6 ib (by omega) (by omega))) rb (by omega) (fun b2 c2' hw z1 z2 z3 z4 z5 z6 z7 z8 => ?_)
 obtain ⟨X4,hX4⟩ : ∃ z,z = lowered X3 hw:=⟨_,rfl⟩
 rw [← hX4] at z1 z2 z5 z6 z7
 refine zc ?_
 rw [← hX4]
 refine ⟨ne_ok hA (by omega),q8 (by omega),?_⟩
 refine zc ?_
 have eNk : Nk = l.length:=by omega
 have rX:=Own.rows (q1.of_get (z6 b1 q2 (by rcases q4 with q | q <;> omega))) fC_len (by omega) (by omega : b1 < X4.next)
 have rY:=Own.rows z1 fC_len (by omega) z2
 rw [List.length_take,ls,Nat.min_eq_left (by omega)] at rX
 rw [List.length_drop,ls,show n - Nk = m2 by omega] at rY
 rw [eNk] at rX rY ⊢
 refine hQ 0 X4 _ _ _ _ _ _ _ _ (.inr (.inr (.inr ⟨ln,pok,solv.2 hz0,rfl,rfl,rfl⟩))) rX rY (y6.trans z7)
end Go.Proofs.Ytogliemiljhliaa
namespace Go.Proofs.Ytogliemiljhliaa
open Go.Sim
set_option linter.unusedVariables false
set_option maxRecDepth 100000
theorem SolveIs.uniq {l r : List Int} {e e' : Int} {x y x' y' : List Fc} (h : SolveIs l r e x y) (k : SolveIs l r e' x' y') : e = e' ∧ x = x' ∧ y = y':=by
 have line : Line l → CheckL l e → e = 0:=fun ln q => q.uniq ln.chk
 have line' : Line l → CheckL l e' → e' = 0:=fun ln q => q.uniq ln.chk
 rcases h with ⟨h1,h2,rfl,rfl⟩ | ⟨h1,h2,rfl,rfl,rfl⟩ | ⟨h1,h2,h3,rfl,rfl,rfl⟩ | ⟨h1,h2,h3,rfl,rfl,rfl⟩ <;> rcases k with ⟨k1,k2,rfl,rfl⟩ | ⟨k1,k2,rfl,rfl,rfl⟩ | ⟨k1,k2,k3,rfl,rfl,rfl⟩ | ⟨k1,k2,k3,rfl,rfl,rfl⟩ <;> first | exact ⟨h1.uniq k1,rfl,rfl⟩ | exact ⟨rfl,rfl,rfl⟩ | exact absurd (line k1 h1) h2 | exact absurd (line' h1 k1) k2 | exact absurd k2 h2 | exact absurd h2 k2 | exact absurd k3 h3 | exact absurd h3 k3
theorem solve_few' {l r : List Int} {e : Int} {x y : List Fc} (h : SolveIs l r e x y) : x.length ≤ 100 ∧ y.length ≤ 100:=by
 rcases h with ⟨_,_,rfl,rfl⟩ | ⟨_,_,_,rfl,rfl⟩ | ⟨_,_,_,_,rfl,rfl⟩ | ⟨ln,_,_,_,rfl,rfl⟩
 ·exact ⟨Nat.zero_le _,Nat.zero_le _⟩
 ·exact ⟨Nat.zero_le _,Nat.zero_le _⟩
 ·exact ⟨Nat.zero_le _,Nat.zero_le _⟩
 ·have w:=wid_few ln
  have ls : (solL l r).length = wid l:=by unfold solL;rw [lst_len]
  rw [List.length_take,List.length_drop];omega
theorem pred_few {l : List Int} {g s : List Fc} {e : Int} {x : List Fc} (h : PredIs l g s e x) : x.length ≤ 100:=by
 rcases h with ⟨_,_,rfl⟩ | ⟨_,_,_,rfl⟩ | ⟨ln,_,_,rfl⟩
 ·exact Nat.zero_le _
 ·exact Nat.zero_le _
 ·rw [predL_len];have:=pairs_few ln.n5;omega
variable {F : Prims} {call head arith cmp scmp bnot bsame conv neg imax imin ofNat slen place inR nz geZ rd wr push next mkOK nat zeros sadd eqAgg cut slc sslc strAt part app cpy putAt fresh lowered bump wrote addN lt ne fpAll fpApp brk yn rng mget mput mnew bytes clr : _} (hA : AP F ⟨call,head,arith,cmp,scmp,bnot,bsame,conv,neg,imax,imin,ofNat,slen,place,inR,nz,geZ,rd,wr,push,next,mkOK,nat,zeros,sadd,eqAgg,cut,slc,sslc,strAt,part,app,cpy,putAt,fresh,lowered,bump,wrote,addN,lt,ne,fpAll,fpApp,brk,yn,rng,mget,mput,mnew,bytes,clr⟩)
include hA
theorem lsolves_ok {h : AHeap} (hlow : h.low ≤ h.next) {a : Option Addr} {N c : Nat} {l : List Int} (hl : Is h a N l) {ar : Option Addr} {M cr : Nat} {ph : List Int} (hr : Is h ar M ph) {ag : Option Addr} {G cg : Nat} {g : List Fc} (hg : Rows fC 2 h ag G g) (ig : inI g) {aq : Option Addr} {S cs : Nat} {s : List Fc} (hs : Rows fC 2 h aq S s) (is' : inI s) {Q : Value → AHeap → Prop}
  (hQ : ∀ h',Ext h h' → Q (.bool true) h') : call 7 [.slice a N c,.slice ar M cr,.slice ag G cg,.slice aq S cs] h Q:=by
 have lN:=hl.len
 refine hA.bodyR Try.func7 r7_ok (hA.alike _ _ _ rfl) hlow (zc ?_)
 refine br (40 < (N : Int)) (by rw [e_gtr hA,e_ofNat hA]) (fun _ => ?_) (fun n1 => ?_) <;> refine zc ?_
 ·exact hQ h (.refl h)
 refine zc ?_
 refine br (40 < (M : Int)) (by rw [e_gtr hA,e_ofNat hA]) (fun _ => ?_) (fun n2 => ?_) <;> refine zc ?_
 ·exact hQ h (.refl h)
 refine zc ?_
 refine br (40 < (G : Int)) (by rw [e_gtr hA,e_ofNat hA]) (fun _ => ?_) (fun n3 => ?_) <;> refine zc ?_
 ·exact hQ h (.refl h)
 refine zc ?_
 refine br (40 < (S : Int)) (by rw [e_gtr hA,e_ofNat hA]) (fun _ => ?_) (fun n4 => ?_) <;> refine zc ?_
 ·exact hQ h (.refl h)
 refine gsolve_ok hA hlow hl hr (by omega) (fun e1 h1 ax1 kx1 cx1 ay1 ky1 cy1 X1 Y1 s1 rx1 ry1 x1 => ⟨_,_,_,_,_,_,_,rfl,?_⟩)
 refine zc ?_
 refine grsolve_ok hA (x1.lowOK hlow) (hl.ext x1) (hr.ext x1) (by omega) (fun e2 h2 ax2 kx2 cx2 ay2 ky2 cy2 X2 Y2 s2 rx2 ry2 x2 => ⟨_,_,_,_,_,_,_,rfl,?_⟩)
 obtain ⟨rfl,rfl,rfl⟩:=s1.uniq s2
 have y2:=x1.trans x2
 refine zc ?_
 refine gpred_ok hA (y2.lowOK hlow) (hl.ext y2) (hg.ext y2) ig (by omega) (hs.ext y2) is' (by omega) (fun e3 h3 ax3 kx3 cx3 X3 s3 rx3 x3 => ⟨_,_,_,_,rfl,?_⟩)
 have y3:=y2.trans x3
 refine zc ?_
 refine grpred_ok hA (y3.lowOK hlow) (hl.ext y3) (hg.ext y3) ig (by omega) (hs.ext y3) is' (by omega) (fun e4 h4 ax4 kx4 cx4 X4 s4 rx4 x4 => ⟨_,_,_,_,rfl,?_⟩)
 obtain ⟨rfl,rfl⟩:=s3.uniq s4
 have y4:=y3.trans x4
 have z1 : Ext h1 h4:=x2.trans (x3.trans x4)
 have z2 : Ext h2 h4:=x3.trans x4
 obtain ⟨f1,f2⟩:=solve_few' s1
 have f3:=pred_few s3
 obtain rfl : kx1 = kx2:=by rw [← rx1.len,← rx2.len]
 obtain rfl : ky1 = ky2:=by rw [← ry1.len,← ry2.len]
 obtain rfl : kx3 = kx4:=by rw [← rx3.len,← rx4.len]
 have l1:=rx1.len
 have l2:=ry1.len
 have l3:=rx3.len
 refine zc ?_
 refine fracs_ok hA (y4.lowOK hlow) (rx1.ext z1) (rx2.ext z2) (by omega) (fun g1 u1 => ⟨_,rfl,?_⟩)
 have t1:=y4.trans u1
 refine zc ?_
 refine fracs_ok hA (t1.lowOK hlow) (ry1.ext (z1.trans u1)) (ry2.ext (z2.trans u1)) (by omega) (fun g2 u2 => ⟨_,rfl,?_⟩)
 have t2:=t1.trans u2
 refine zc ?_
 refine br (e1 = e1) (by rw [e_eql hA]) (fun _ => ?_) (fun q => absurd rfl q) <;> refine zc ?_
 refine zc ?_
 refine fracs_ok hA (t2.lowOK hlow) (((rx3.ext x4).ext u1).ext u2) ((rx4.ext u1).ext u2) (by omega) (fun g3 u3 => ⟨_,rfl,?_⟩)
 have t3:=t2.trans u3
 refine zc ?_
 rw [show cmp .eql e3 e3 = true by rw [e_eql hA];simp]
 exact hQ g3 t3
end Go.Proofs.Ytogliemiljhliaa
