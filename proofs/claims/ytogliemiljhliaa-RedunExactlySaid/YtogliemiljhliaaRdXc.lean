import Derived.Test.YtogliemiljhliaaRdXb
set_option linter.unusedSimpArgs false
set_option linter.unusedVariables false
namespace Go.Proofs.Ytogliemiljhliaa
open Go.Sim Ext
set_option linter.unusedVariables false
set_option maxRecDepth 100000
theorem freeL_len (S : St) (n : Nat) : (freeL S n).length ≤ n:=by
 unfold freeL
 have:=List.length_filter_le (fun c => decide (c ∉ S.bound)) (List.range n)
 rw [List.length_range] at this
 exact this
def SZ (l : List Int) : St:=SE l (zrow (pairsL l.length).length)
theorem bas_eq {l : List Int} (e : Ech (pairsL l.length).length (SZ l) (wid l)) : basL l = (freeL (SZ l) (wid l)).map (fun c => lst (fun y => fr (bV (SZ l) c y) (SZ l).lead) (wid l)):=by
 unfold basL
 rw [bas_free]
 exact List.map_congr_left (fun c hc => bvec_bV e (mem_free.1 hc).2)
theorem basN {l : List Int} (ln : Line l) (e : Ech (pairsL l.length).length (SZ l) (wid l)) (fi : Fine (pairsL l.length).length (wid l) (SZ l)) {x : Nat → Int} (hx : Nul (wid l) (pairsL l.length).length (SZ l).R x) (h1 : ∀ j,j < wid l → (x j).natAbs ≤ 100) : BasN (wid l) (SZ l).lead (freeL (SZ l) (wid l)) (bV (SZ l)) x:=
 ⟨e.lead,fi.leadB,by have:=freeL_len (SZ l) (wid l);have:=wid_few ln;omega,fun c hc => (mem_free.1 hc).1,fun c hc => bV_self e (mem_free.1 hc).2,fun c hc y hy => bV_late e (mem_free.1 hc).2 hy,fun c hc y hy => bV_small e fi (mem_free.1 hc).1 (mem_free.1 hc).2 y,h1,fun k hk => span_free e hx hk⟩
theorem con_small (l : List Int) (j : Nat) : (conV l j).natAbs ≤ 100:=by unfold conV;split <;> decide
theorem til_small {l : List Int} (ln : Line l) {j : Nat} (hj : j < wid l) : (tilV l j).natAbs ≤ 100:=by
 have hwid : wid l = l.length + (clsL l).length:=rfl
 unfold tilV
 split
 ·rename_i c
  have:=ln.rng (i:=(j : Int)) (by omega) (by omega)
  omega
 ·have:=gt_mem (clsL l) (i:=(j : Int) - l.length) (by omega) (by omega)
  have:=(mem_clsL.1 this).1
  omega
theorem gt_cons2 {α : Type} [Inhabited α] (x y : α) (L : List α) {i : Int} (h : 2 ≤ i) : gt (x :: y :: L) i = gt L (i - 2):=by
 unfold gt
 obtain ⟨k,rfl⟩ : ∃ k : Nat,i = k + 2:=⟨(i - 2).toNat,by omega⟩
 rw [show ((k : Int) + 2).toNat = k + 2 by omega,show ((k : Int) + 2 - 2).toNat = k by omega]
 rfl
theorem all_gr {h h' : AHeap} {a1 a2 a3 : Option Addr} {n c1 c2 K : Nat} {r1 r2 : List Fc} {hs : List Hd} {g : List (List Fc)} (k1 : Rows fC 2 h a1 n r1) (k2 : Rows fC 2 h a2 n r2) (k3 : GrR fC 2 h a3 K hs g) {b : Nat} (e : Ext h h') (hb : b < h'.next) (ho : Own h' b 1 ([Value.slice a1 n c1,.slice a2 n c2] ++ hs.flatMap Hd.cells)) {A : Nat} (eA : A = 2 + K) : GrR fC 2 h' (some ⟨b,0,none⟩) A (⟨a1,n,c1⟩ :: ⟨a2,n,c2⟩ :: hs) (r1 :: r2 :: g):=by
 have lh:=k3.hd.len
 have o2 : Own h' b 1 (((⟨a1,n,c1⟩ : Hd) :: ⟨a2,n,c2⟩ :: hs).flatMap Hd.cells):=ho
 refine ⟨?_,?_,fun y y0 y1 => ?_⟩
 ·have r:=Own.rows o2 hd_len (by omega) hb
  rw [show ((⟨a1,n,c1⟩ : Hd) :: ⟨a2,n,c2⟩ :: hs).length = A by simp only [List.length_cons];omega] at r
  exact r
 ·simp only [List.length_cons];have:=k3.len;omega
 ·by_cases q0 : y = 0
  ·subst q0;exact k1.ext e
  ·by_cases q1 : y = 1
   ·subst q1;exact k2.ext e
   ·rw [gt_cons2 _ _ _ (by omega),gt_cons2 _ _ _ (by omega)]
    exact (k3.row (y - 2) (by omega) (by omega)).ext e
variable {F : Prims} {call head arith cmp scmp bnot bsame conv neg imax imin ofNat slen place inR nz geZ rd wr push next mkOK nat zeros sadd eqAgg cut slc sslc strAt part app cpy putAt fresh lowered bump wrote addN lt ne fpAll fpApp brk yn rng mget mput mnew bytes clr : _} (hA : AP F ⟨call,head,arith,cmp,scmp,bnot,bsame,conv,neg,imax,imin,ofNat,slen,place,inR,nz,geZ,rd,wr,push,next,mkOK,nat,zeros,sadd,eqAgg,cut,slc,sslc,strAt,part,app,cpy,putAt,fresh,lowered,bump,wrote,addN,lt,ne,fpAll,fpApp,brk,yn,rng,mget,mput,mnew,bytes,clr⟩)
include hA
set_option maxHeartbeats 1000000 in
theorem lexact_ok (hF : ∀ h,F 23 [] h = some (.bool true,h)) {h : AHeap} (hlow : h.low ≤ h.next) {a : Option Addr} {N c : Nat} {l : List Int} (hl : Is h a N l) {Q : Value → AHeap → Prop}
  (hQ : ∀ h',Ext h h' → Q (.bool true) h') : call 5 [.slice a N c] h Q:=by
 have lN:=hl.len
 refine hA.bodyR Try.func5 r5_ok (hA.alike _ _ _ rfl) hlow (zc ?_)
 refine hA.prim (hF h) ⟨_,rfl,?_⟩
 refine zc ?_
 refine rchk_ok hA hlow hl (fun e h1 k1 x1 => ⟨_,rfl,?_⟩)
 refine zc ?_
 refine br (e ≠ 0) (by rw [e_neq hA]) (fun c1 => ?_) (fun c1 => ?_) <;> refine zc ?_
 ·exact hQ h1 x1
 have e0 : e = 0:=Decidable.of_not_not c1
 have ln:=k1.zero e0
 have l1:=x1.lowOK hlow
 rw [show bnot true = false by rw [e_bnot hA];rfl]
 have bad : ∀ {e : Int},CheckL l e → e = 0:=fun c => c.uniq (.inr (.inr (.inr ⟨⟨ln.n2,ln.n5⟩,ln.good,rfl⟩)))
 obtain ⟨ech,fi,nul⟩:=line_end (zrow_len _) ln (zrow_small (pairsL l.length).length)
 rw [show SE l (zrow (pairsL l.length).length) = SZ l from rfl] at ech fi nul
 have two:=free_two ln ech (fun v hv => (nul v).1 hv)
 have ebas:=bas_eq ech
 have blen : (basL l).length = (freeL (SZ l) (wid l)).length:=by rw [ebas,List.length_map]
 have flen:=freeL_len (SZ l) (wid l)
 have w50:=wid_few ln
 have wdef : wid l = l.length + (clsL l).length:=rfl
 refine zc ?_
 refine gcls_ok hA l1 (hl.ext x1) (fun f1 g1 a1 C co1 q1 r1 b1 u1 => ⟨_,_,_,_,rfl,?_⟩)
 obtain rfl:=bad q1
 refine zc ?_
 refine grow_ok hA (u1.lowOK l1) ((hl.ext x1).ext u1) (fun f2 g2 a2 M co2 hs2 q2 r2 b2 u2 => ⟨_,_,_,_,rfl,?_⟩)
 obtain rfl:=bad q2
 have v2:=u1.trans u2
 refine zc ?_
 refine gbas_ok hA (v2.lowOK l1) ((hl.ext x1).ext v2) (fun f3 g3 a3 K co3 hs3 q3 r3 b3 u3 => ⟨_,_,_,_,rfl,?_⟩)
 obtain rfl:=bad q3
 have v3:=v2.trans u3
 refine zc ?_
 refine gred_ok hA (v3.lowOK l1) ((hl.ext x1).ext v3) (fun f4 g4 bo q4 r4 u4 => ⟨_,_,rfl,?_⟩)
 obtain rfl:=bad q4
 have v4:=v3.trans u4
 rw [if_pos rfl] at r4
 have r1 : Is g1 a1 C (clsL l):=r1
 have r2 : GrR iC 1 g2 a2 M hs2 (rowsL l):=r2
 have r3 : GrR fC 2 g3 a3 K hs3 (basL l):=r3
 have eK : (basL l).length = K:=r3.len
 have eC : (clsL l).length = C:=r1.len
 refine zc ?_
 refine br False (by rw [e_neq hA];rfl) (fun q => q.elim) (fun _ => ?_) <;> refine zc ?_
 refine zc ?_
 refine br False (by rw [e_neq hA];rfl) (fun q => q.elim) (fun _ => ?_) <;> refine zc ?_
 refine zc ?_
 refine br False (by rw [e_neq hA];rfl) (fun q => q.elim) (fun _ => ?_) <;> refine zc ?_
 refine zc ?_
 refine br False (by rw [e_neq hA];rfl) (fun q => q.elim) (fun _ => ?_) <;> refine zc ?_
 refine zc ?_
 refine br False (by rw [e_bnot hA,e_bsame hA,e_eql hA,e_ofNat hA,r4,eK];simp) (fun q => q.elim) (fun _ => ?_) <;> refine zc ?_
 refine zc ?_
 refine br ((K : Int) < 2) (by rw [e_lss hA,e_ofNat hA]) (fun q => by omega) (fun _ => ?_) <;> refine zc ?_
 rw [e_ofNat hA,e_ofNat hA]
 obtain ⟨W,hW⟩ : ∃ z : Int,z = (N : Int) + C:=⟨_,rfl⟩
 rw [show arith .add .i64 (N : Int) (C : Int) = W by rw [hW];exact add64 hA (by omega) (by omega)]
 have eW : W = wid l:=by omega
 have l4:=(x1.trans v4).lowOK hlow
 have w1 : Ext g1 g4:=u2.trans (u3.trans u4)
 have w2 : Ext g2 g4:=u3.trans u4
 refine exa_loop hA l4 (hl.ext (x1.trans v4)) ln (fun h5 ac5 cc5 at5 ct5 t5 s5 f5 k5 ne5 x5 => ?_) N 0 0 g4 none 0 none 0 (by omega) (by omega) rfl (by simpa [lst] using Apd.nil g4 2) (by simpa [lst] using Apd.nil g4 2) (.none _) (.none _) (fun x y hx => by cases hx) (.refl g4)
 refine zc ?_
 obtain ⟨n,hn⟩ : ∃ z,z = wid l:=⟨_,rfl⟩
 refine exb_loop hA l4 ln (r1.ext w1) (by omega) (N:=N) (P:=n) (by omega) (by omega) (fun h6 ac ccc att ct t6 s6 f6 k6 ne6 x6 => ?_) C 0 N 0 h5 ac5 cc5 at5 ct5 (by omega) (by omega) rfl (by omega) t5 s5 f5 k5 ne5 x5
 refine zc ?_
 rw [e_next hA,e_push hA]
 have oP:=Own.push h6 1 [.slice ac n ccc,.slice att n ct]
 have eP:=Ext.push h6 1 [.slice ac n ccc,.slice att n ct]
 have nP : (h6.push 1 [.slice ac n ccc,.slice att n ct]).next = h6.next + 1:=rfl
 obtain ⟨hP,hhP⟩ : ∃ z,z = h6.push 1 [.slice ac n ccc,.slice att n ct]:=⟨_,rfl⟩
 rw [← hhP] at oP eP nP ⊢
 have w36 : Ext g3 hP:=u4.trans (x6.trans eP)
 have r3P:=r3.ext w36
 obtain ⟨cA,hap⟩:=append_full (n:=2) TFF TFF.und oP (by omega) rfl (by omega) r3P.hd.cells rfl (all_flat hd_ok hs3) (by omega) (by omega) (c2:=co3)
 refine app_ok hA hap ?_
 have oQ:=Own.push hP 1 ([Value.slice ac n ccc,.slice att n ct] ++ hs3.flatMap Hd.cells)
 have eQ:=Ext.push hP 1 ([Value.slice ac n ccc,.slice att n ct] ++ hs3.flatMap Hd.cells)
 have nQ : (hP.push 1 ([Value.slice ac n ccc,.slice att n ct] ++ hs3.flatMap Hd.cells)).next = hP.next + 1:=rfl
 obtain ⟨hV,hhV⟩ : ∃ z,z = hP.push 1 ([Value.slice ac n ccc,.slice att n ct] ++ hs3.flatMap Hd.cells):=⟨_,rfl⟩
 rw [← hhV] at oQ eQ nQ ⊢
 obtain ⟨A,hA2⟩ : ∃ z,z = 2 + K:=⟨_,rfl⟩
 obtain ⟨bA,hbA⟩ : ∃ z,z = hP.next:=⟨_,rfl⟩
 rw [← hA2]
 rw [← hbA] at oQ ⊢
 have kc : Rows fC 2 hP ac n (lst (oneF (conV l)) n):=⟨(t6.ext eP).cells,fC_len,by omega⟩
 have kt : Rows fC 2 hP att n (lst (oneF (tilV l)) n):=⟨(s6.ext eP).cells,fC_len,by omega⟩
 have allG:=all_gr kc kt r3P eQ (b:=bA) (by omega) oQ hA2
 have eV : Ext g4 hV:=(x6.trans eP).trans eQ
 have lV:=eV.lowOK l4
 have degs : ∀ i : Nat,i < A → DegF l (gt (lst (oneF (conV l)) n :: lst (oneF (tilV l)) n :: basL l) (i : Int)):=fun i hi => by
  by_cases q0 : i = 0
  ·subst q0
   refine ⟨conV l,1,by rw [← hn];exact oneF_fr _ _,by decide,by decide,fun j hj => by have:=con_small l j;omega,con_deg ln⟩
  ·by_cases q1 : i = 1
   ·subst q1
    refine ⟨tilV l,1,by rw [← hn];exact oneF_fr _ _,by decide,by decide,fun j hj => by have:=til_small ln hj;omega,til_deg ln⟩
   ·rw [gt_cons2 _ _ _ (by omega)]
    have m:=gt_mem (basL l) (i:=(i : Int) - 2) (by omega) (by omega)
    rw [ebas] at m ⊢
    obtain ⟨c,hc,e⟩:=List.mem_map.1 m
    rw [← e]
    obtain ⟨c1,c2⟩:=mem_free.1 hc
    exact ⟨bV (SZ l) c,(SZ l).lead,rfl,ech.lead,fi.leadB,fun j hj => bV_small ech fi c1 c2 j,(nul _).2 (bV_nul ech c1 c2)⟩
 refine zc ?_
 refine exo_loop hA lV ln ((r2.ext w2).ext eV) (by omega) allG (by omega) degs eW (fun h9 x9 => ?_) A 0 0 hV (by omega) (by omega) rfl (.refl hV)
 have l9:=x9.lowOK lV
 refine zc ?_
 have r9:=(r3P.ext eQ).ext x9
 rw [ebas,← hn] at r9
 have kc9:=(kc.ext eQ).ext x9
 have kt9:=(kt.ext eQ).ext x9
 rw [oneF_fr] at kc9 kt9
 have Gc:=basN ln ech fi ((nul _).1 (con_deg ln)) (fun j hj => con_small l j)
 have Gt:=basN ln ech fi ((nul _).1 (til_deg ln)) (fun j hj => til_small ln hj)
 rw [← hn] at Gc Gt
 refine spanned_ok hA l9 Gc (by omega) r9 kc9 (fun h10 x10 => ⟨_,rfl,?_⟩)
 refine zc ?_
 refine spanned_ok hA (x10.lowOK l9) Gt (by omega) (r9.ext x10) (kt9.ext x10) (fun h11 x11 => ⟨_,rfl,?_⟩)
 refine zc ?_
 exact hQ h11 ((((x1.trans v4).trans eV).trans x9).trans (x10.trans x11))
end Go.Proofs.Ytogliemiljhliaa
