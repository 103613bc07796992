import Derived.Test.YtmkiclinllifiaaCyLT
set_option linter.unusedSimpArgs false
set_option linter.unusedVariables false
namespace Go.Proofs.Ytmkiclinllifiaa
open Go.Sim
set_option maxRecDepth 100000
theorem trnF_one{v:Ck}(h:isRay (rayC v)){vs:List Ck}:trnF oneC (v :: vs)=trnF (rayC v) vs:=by
 show(match turnC oneC (rayC v)with|none=>none|some q=>trnF q vs)=_;rw[turn_one h]
variable{F:Prims}{call head arith a0 b0 c0 d0 f0 g0 j0 k0 ofNat l0 place m0 nz n0 rd wr o0 next p0 q0 s0 t0 u0 v0 w0 x0 y0 part z0 a1 b1 d1 f1 g1 j1 l1 lt ne m1 n1 o1 yn s1 t1 u1 v1 w1 y1 z1 b2:_}(hA:AP F ⟨call,head,arith,a0,b0,c0,d0,f0,g0,j0,k0,ofNat,l0,place,m0,nz,n0,rd,wr,o0,next,p0,q0,s0,t0,u0,v0,w0,x0,y0,part,z0,a1,b1,d1,f1,g1,j1,l1,lt,ne,m1,n1,o1,yn,s1,t1,u1,v1,w1,y1,z1,b2⟩)
include hA
theorem ps_loop1{h0:AHeap}(hlow0:h0.low<=h0.next){a:Option Addr}{n c:Nat}{sa:Option Addr}{ns sc:Nat}{C:List Int}(hS:Rows iC 1 h0 sa ns C)(hns:ns<=1000){N:Int}(hN:N=ns){Q:Exit->SS->Prop}
  (hok:∀h' a' c',Apd h' 2 a' ns c' ((sps C).flatMap F2.cells)->Ext h0 h'->Q (.exit 0) ⟨[(0,.slice a n c),(4,.pointer (some ⟨0,0,some 0⟩)),(7,.slice a' ns c')],1,[(0,[.int .i64 0,.int .i64 0,.int .i64 0])],h'⟩) :
  ∀(m:Nat) (i:Int) (k:Nat) (h:AHeap) (a':Option Addr) (c':Nat),(ns-i).toNat<=m->0<=i->i<=ns->(k:Int)=i->Apd h 2 a' k c' (((sps C).take i.toNat).flatMap F2.cells)->From h0.next a'->Ext h0 h->
   head 32 8 1 ⟨[(0,.slice a n c),(1,.slice sa ns sc),(4,.pointer (some ⟨0,0,some 0⟩)),(7,.slice a' k c'),(35,.slice sa ns sc),(36,.int .i64 N),(37,.int .i64 i)],1,[(0,[.int .i64 0,.int .i64 0,.int .i64 0])],h⟩ Q:=by
 have hlen:=hS.len;have hsl:=sps_len C;refine upTo (fun m ih=>?_);intro i k h a' c' hm i0 i1 hk hap hf he;by_cases ci:i<ns
 rotate_left
 ·obtain rfl:k=ns:=by omega
  refine hA.roundR Try.func32 r32_ok (zc ?_);refine br (i<N) (by rw[e_lss hA]) (fun c1=>by omega) (fun c1=>?_)<;>refine zc ?_;rw[List.take_of_length_le (by omega)]at hap;exact hok h a' c' hap he
 obtain⟨m,rfl⟩:∃k,m=k+1:=⟨m-1,by omega⟩
 replace ih:=ih m rfl
 obtain⟨M,hM⟩:∃M:Int,M=(i+1) % (ns:Int):=⟨_,rfl⟩;have M0:0<=M:=by rw[hM];exact Int.emod_nonneg _ (by omega)
 have M1:M<ns:=by rw[hM];exact Int.emod_lt_of_pos _ (by omega)
 have e2:arith .add .i64 i 1=i+1:=add64 hA (by omega) (by omega);have e3:arith .rem .i64 (i+1) (ofNat ns)=M:=by rw[e_ofNat hA,rem_tmod hA,hM,Int.tmod_eq_emod_of_nonneg (by omega)]
 obtain⟨bb,o,rfl,_,r1⟩:=(hS.ext he).at (i:=i) i0 (by omega);obtain⟨_,_,hc',_,r2⟩:=(hS.ext he).at (i:=M) M0 (by omega);cases hc';obtain⟨u,hu⟩:∃u,u=gt C i:=⟨_,rfl⟩;obtain⟨w,hw⟩:∃w,w=gt C M:=⟨_,rfl⟩;have p1:rd h bb (place o i 1) 1 [.int .i64 u]:=by rw[hu];exact rd_ok hA (r1 0 1 (by omega) (by omega))
 have p2:rd h bb (place o M 1) 1 [.int .i64 w]:=by rw[hw];exact rd_ok hA (r2 0 1 (by omega) (by omega))
 refine hA.roundR Try.func32 r32_ok (zc ?_);refine br (i<N) (by rw[e_lss hA]) (fun c1=>?_) (fun c1=>by omega)<;>refine zc ?_;refine zq ?_;refine⟨nz_ok hA (by rw[e_ofNat hA];omega),?_⟩;refine zc ?_;rw[e2,e3];refine zq ?_;refine appR_ok hA TS2 f2_len (by omega) f2_ok' (v:=⟨u,w⟩) hap (by omega) (fun a2 c2' h4 hp2 hx=>?_);obtain⟨x4,hf4⟩:=hx h0 he hf;refine zc ?_;rw[e2];refine ih (i+1) (k+1) h4 a2 c2' (by omega) (by omega) (by omega) (by omega) ?_ hf4 x4;rw[gt_take (sps C) i0 (by omega),gt_sps C i0 (by omega)];have:stepP C i=⟨u,w⟩:=by unfold stepP nxC;rw[hu,hw,hM,hlen]
 rw[this];exact hp2
theorem ps_loop2{h0:AHeap}(hlow0:h0.low<=h0.next){sa:Option Addr}{ns sc:Nat}{V:List Ck}(hS:Cs h0 sa ns V)(hns:ns<=1000)(hk:∀v∈V,v.ok)(hz:∀v∈V,¬v.nil){N:Int}(hN:N=ns){R:Option Ck}{Q:Exit->SS->Prop}
  (hno:∀h',R=none->Ext h0 h'->∀v93 v92 v11 K,Q .ret ⟨[(5,.int .i64 16),(93,v93),(92,v92),(4,.pointer (some ⟨0,0,some 0⟩)),(11,v11)],3,(0,[.int .i64 0,.int .i64 0,.int .i64 0]) :: K,h'⟩)
  (hok:∀h' q,R=some q->isRay q->Ext h0 h'->Q (.exit 2) ⟨[(4,.pointer (some ⟨0,0,some 0⟩)),(12,.pointer (some ⟨1,0,some 0⟩))],2,[(0,[.int .i64 0,.int .i64 0,.int .i64 0]),(1,[.int .i64 q.a,.int .i64 q.b,.int .i64 q.d])],h'⟩) :
  ∀(m:Nat) (i:Int) (p:Ck) (h:AHeap),(ns-i).toNat<=m->0<=i->i<=ns->isRay p->trnF p (V.drop i.toNat)=R->Ext h0 h->
   head 32 19 2 ⟨[(4,.pointer (some ⟨0,0,some 0⟩)),(12,.pointer (some ⟨1,0,some 0⟩)),(78,.slice sa ns sc),(79,.int .i64 N),(80,.int .i64 i)],2,[(0,[.int .i64 0,.int .i64 0,.int .i64 0]),(1,[.int .i64 p.a,.int .i64 p.b,.int .i64 p.d])],h⟩ Q:=by
 have hlen:=hS.len;refine upTo (fun m ih=>?_);intro i p h hm i0 i1 hp hR he;by_cases ci:i<ns
 rotate_left
 ·refine hA.roundR Try.func32 r32_ok (zc ?_)
  refine br (i<N) (by rw[e_lss hA]) (fun c1=>by omega) (fun c1=>?_)<;>refine zc ?_;rw[List.drop_eq_nil_of_le (by omega)]at hR;exact hok h p hR.symm hp he
 obtain⟨m,rfl⟩:∃k,m=k+1:=⟨m-1,by omega⟩
 replace ih:=ih m rfl
 obtain⟨bb,o,h1,h2,h3⟩:=(hS.ext he).at (i:=i) i0 (by omega);subst h1;obtain⟨v,hv⟩:∃v,v=gt V i:=⟨_,rfl⟩;have q1:rd h bb (place o i 3) 3 [.int .i64 v.a,.int .i64 v.b,.int .i64 v.d]:=by rw[hv];exact rd_ok hA (h3 0 3 (by omega) (by omega))
 have hmem:v∈V:=by rw[hv];exact gt_mem V i0 (by omega)
 have e2:arith .add .i64 i 1=i+1:=add64 hA (by omega) (by omega);have hdr:V.drop i.toNat=v :: V.drop (i+1).toNat:=by
  rw[show(i+1).toNat=i.toNat+1 by omega,hv];unfold gt;rw[List.getD_eq_getElem?_getD,List.getElem?_eq_getElem (by omega)];exact List.drop_eq_getElem_cons (by omega)
 rw[hdr]at hR;unfold trnF at hR;refine hA.roundR Try.func32 r32_ok (zc ?_);refine br (i<N) (by rw[e_lss hA]) (fun c1=>?_) (fun c1=>by omega)<;>refine zc ?_;refine zq ?_;refine turned_ok hA (he.lowOK hlow0) hp (hk v hmem) (hz v hmem) (fun h' t x=>⟨_,_,_,_,rfl,?_⟩) (fun q h' t hq x=>⟨_,_,_,_,rfl,?_⟩)
 ·refine zc ?_
  refine br True (by rw[e_neq hA];rfl) (fun _=>?_) (fun q=>absurd trivial q)<;>refine zc ?_;rw[t]at hR;exact hno h' hR.symm (he.trans x) _ _ _ _
 ·refine zc ?_
  refine br False (by rw[e_neq hA];rfl) (fun q=>q.elim) (fun _=>?_)<;>refine zc ?_;rw[t]at hR;rw[e2];exact ih (i+1) q h' (by omega) (by omega) (by omega) hq hR (he.trans x)
theorem Phase_ok{h:AHeap}(hlow:h.low<=h.next){a:Option Addr}{n c:Nat}{l:List Vk}(hl:Vs h a n l)(hn:n<=1000){sa:Option Addr}{ns sc:Nat}{C:List Int}(hS:Rows iC 1 h sa ns C)(hns:ns<=1000){Q:Value->AHeap->Prop}
  (hQ:∀h' p e,PhO l C p e->Ext h h'->Q (.tuple #[.agg #[.int .i64 p.a,.int .i64 p.b,.int .i64 p.d],.int .i64 e]) h') :
  call 32 [.slice a n c,.slice sa ns sc] h Q:=by
 have hlen:=hS.len;refine hA.bodyR Try.func32 r32_ok (hA.alike _ _ _ rfl) hlow (zc ?_);refine clcheck_ok hA hlow hl hn (fun e h1 ke x1=>⟨_,rfl,?_⟩);refine zc ?_;refine br (e≠0) (by rw[e_neq hA]) (fun c1=>?_) (fun c1=>?_)<;>refine zc ?_
 ·exact hQ h1 zeC e (.bad c1 ke) x1
 have e0:e=0:=by omega
 subst e0;obtain⟨k1,k2,k3⟩:=ke.ok0;have narg:¬circle C->Q (.tuple #[.agg #[.int .i64 0,.int .i64 0,.int .i64 0],.int .i64 2]) h1:=fun q=>hQ h1 zeC 2 (.arg ke q) x1
 refine br ((ns:Int)<3) (by rw[e_lss hA,e_ofNat hA]) (fun c2=>?_) (fun c2=>?_)<;>refine zc ?_
 ·exact narg (fun q=>by have:=q.1;omega)
 refine br (8<(ns:Int)) (by rw[e_gtr hA,e_ofNat hA]) (fun c3=>?_) (fun c3=>?_)<;>refine zc ?_
 ·exact narg (fun q=>by have:=q.2.1;omega)
 refine different_ok hA (x1.lowOK hlow) (hS.ext x1) hns (fun r h2 hr x2=>⟨_,rfl,?_⟩);have x12:=x1.trans x2;refine zc ?_;refine br (r=false) (by rw[e_bnot hA];cases r<;>rfl) (fun c4=>?_) (fun c4=>?_)<;>refine zc ?_
 ·exact hQ h2 zeC 2 (.arg ke (fun q=>by have:=hr.2 q.2.2;rw[c4]at this;cases this)) x12
 have hc:circle C:=⟨by omega,by omega,hr.1 (by cases r with|true=>rfl|false=>exact absurd rfl c4)⟩;refine ps_loop1 hA (x12.lowOK hlow) (hS.ext x12) hns (e_ofNat hA ns) (fun h3 a3 c3' hap x3=>?_) ns 0 0 h2 none 0 (by omega) (by omega) (by omega) rfl (by simp;exact Apd.nil _ _) (From.none _) (.refl h2);refine zc ?_;have x13:=x12.trans x3;have hsl:=sps_len C;have hR:Rows F2.cells 2 h3 a3 ns (sps C):=⟨hap.cells,f2_len,by omega⟩;refine along_ok hA (x13.lowOK hlow) (hl.ext x13) hn k2 k3 hR hns (fun h4 q x4=>?_) (fun h4 q z x4=>?_) (fun h4 a4 c4' q z q4 q5 x4=>?_)
 ·refine⟨_,_,_,_,rfl,?_⟩
  refine zc ?_;refine br True (by rw[e_neq hA];rfl) (fun _=>?_) (fun q=>absurd trivial q)<;>refine zc ?_;exact hQ h4 zeC 6 (.no ke hc q) (x13.trans x4)
 ·refine⟨_,_,_,_,rfl,?_⟩
  refine zc ?_;refine br True (by rw[e_neq hA];rfl) (fun _=>?_) (fun q=>absurd trivial q)<;>refine zc ?_;exact hQ h4 zeC 18 (.zero ke hc q z) (x13.trans x4)
 refine⟨_,_,_,_,rfl,?_⟩;refine zc ?_;refine br False (by rw[e_neq hA];rfl) (fun q=>q.elim) (fun _=>?_)<;>refine zc ?_;have x14:=x13.trans x4;have hvl:=vsF_len l C;have vk:∀v∈vsF l C,v.ok:=vsF_ok k2 q;obtain⟨bb,o,h5,h6,h7⟩:=q5.at (i:=0) (by omega) (by omega);subst h5;obtain⟨v,hv⟩:∃v,v=gt (vsF l C) 0:=⟨_,rfl⟩;have r0:rd h4 bb (place o 0 3) 3 [.int .i64 v.a,.int .i64 v.b,.int .i64 v.d]:=by rw[hv];exact rd_ok hA (h7 0 3 (by omega) (by omega))
 have hmem:v∈vsF l C:=by rw[hv];exact gt_mem _ (by omega) (by omega)
 refine zq ?_;refine cray_is hA (x14.lowOK hlow) (vk v hmem) (z v hmem) (fun r5 h8 hr5 x5=>⟨_,_,_,_,rfl,?_⟩);refine zc ?_;refine br False (by rw[e_neq hA];rfl) (fun q=>q.elim) (fun _=>?_)<;>refine zc ?_;have x15:=x14.trans x5;have hcap:c4'=someCap 3 ns:=by
  rcases q4 with ⟨e1,_⟩|⟨_,_,e1,_⟩
  ·cases e1
  ·exact e1
 have hcells:=(Cells.part q4.cells (i:=1) (m:=ns-1) (by omega)).ext x5;have hcs:Cs h8 ((some ⟨bb,o,none⟩:Option Addr).map (aadd · (1*3))) (ns-1) ((vsF l C).drop 1):=by
  refine⟨?_,ck_len,by omega⟩;rw[flat_dropN ck_len,List.take_of_length_le (by rw[flatE_len ck_len,List.length_drop];unfold vsF at hvl;omega)]at hcells;exact hcells
 rw[hcap];refine slc_lo hA TC2 (by omega) (by omega) (by omega) ?_;have es1:ns-(1:Int).toNat=ns-1:=rfl;rw[es1];obtain⟨a8,ha8⟩:∃z,z=(some ⟨bb,o,none⟩:Option Addr).map (aadd · (1*3)):=⟨_,rfl⟩;rw[<-ha8]at hcs;rw[show(some ⟨bb,o,none⟩:Option Addr).map (aadd · ((1:Int).toNat*3))=a8 from ha8.symm];generalize ns-1=n8 at *;generalize someCap 3 n8=c8;generalize someCap 3 ns=c9;refine zc ?_;have hdr:vsF l C=v :: (vsF l C).drop 1:=by
  have:0<(vsF l C).length:=by omega
  rw[hv];generalize vsF l C=L at this ⊢;cases L with
  |nil=>simp at this
  |cons x L=>rfl
 have hR:trnF r5 (((vsF l C).drop 1).drop (0:Int).toNat)=trnF oneC (vsF l C):=by
  show trnF r5 ((vsF l C).drop 1)=_;rw[hr5,<-trnF_one (rayC_is (vk v hmem) (z v hmem)),<-hdr]
 have hr5':isRay r5:=by rw[hr5];exact rayC_is (vk v hmem) (z v hmem)
 refine ps_loop2 hA (x15.lowOK hlow) hcs (by omega) (fun v hv=>vk v (List.drop_subset _ _ hv)) (fun v hv=>z v (List.drop_subset _ _ hv)) (e_ofNat hA n8) (fun h9 hn9 x9 v93 v92 v11 K=>?_) (fun h9 q9 hq hr9 x9=>?_) n8 0 r5 h8 (by omega) (by omega) (by omega) hr5' hR (.refl h8)
 ·refine zc ?_
  exact hQ h9 zeC 16 (.range ke hc q z hn9) (x15.trans x9)
 ·refine zc ?_
  exact hQ h9 q9 0 (.ok ke hc q z hq) (x15.trans x9)
