import Derived.Test.YtlimjlpjldijdaaCyLT
import Derived.Test.YtlimjlpjldijdaaCyK
import Derived.Test.YtlimjlpjldijdaaCySt
import Derived.Test.YtlimjlpjldijdaaCyJ
set_option linter.unusedSimpArgs false
set_option linter.unusedVariables false
namespace Go.Proofs.Ytlimjlpjldijdaa
open Go.Sim
set_option maxRecDepth 100000
theorem trnF_one{v:Ck}(h:isRay (rayC v)){vs:List Ck}:trnF oneC (v :: vs)=trnF (rayC v) vs:=by
 show(match turnC oneC (rayC v)with|none=>none|some q=>trnF q vs)=_;rw[turn_one h]
variable{F:Prims}{call head arith cmp scmp bnot bsame conv neg imax imin ofNat slen place inR nz geZ rd wr push next mkOK nat zeros sadd eqAgg cut slc sslc strAt part app cpy putAt fresh lowered bump wrote addN lt ne fpAll fpApp brk yn rng mget mput mnew bytes clr mrng ment:_}(hA:AP F ⟨call,head,arith,cmp,scmp,bnot,bsame,conv,neg,imax,imin,ofNat,slen,place,inR,nz,geZ,rd,wr,push,next,mkOK,nat,zeros,sadd,eqAgg,cut,slc,sslc,strAt,part,app,cpy,putAt,fresh,lowered,bump,wrote,addN,lt,ne,fpAll,fpApp,brk,yn,rng,mget,mput,mnew,bytes,clr,mrng,ment⟩)
include hA
theorem ps_loop1{h0:AHeap}(hlow0:h0.low<=h0.next){a:Option Addr}{n c:Nat}{sa:Option Addr}{ns sc:Nat}{C:List Int}(hS:Rows iC 1 h0 sa ns C)(hns:ns<=1000){N:Int}(hN:N=ns){Q:Exit->SS->Prop}
  (hok:∀h' a' c',Apd h' 2 a' ns c' ((sps C).flatMap F2.cells)->Ext h0 h'->Q (.exit 0) ⟨[(0,.slice a n c),(4,.pointer (some ⟨0,0,some 0⟩)),(7,.slice a' ns c')],1,[(0,[.int .i64 0,.int .i64 0,.int .i64 0])],h'⟩) :
  ∀(m:Nat) (i:Int) (k:Nat) (h:AHeap) (a':Option Addr) (c':Nat),(ns-i).toNat<=m->0<=i->i<=ns->(k:Int)=i->Apd h 2 a' k c' (((sps C).take i.toNat).flatMap F2.cells)->From h0.next a'->Ext h0 h->
   head 13 8 1 ⟨[(0,.slice a n c),(1,.slice sa ns sc),(4,.pointer (some ⟨0,0,some 0⟩)),(7,.slice a' k c'),(35,.slice sa ns sc),(36,.int .i64 N),(37,.int .i64 i)],1,[(0,[.int .i64 0,.int .i64 0,.int .i64 0])],h⟩ Q:=by
 have hlen:=hS.len;have hsl:=sps_len C;refine upTo (fun m ih=>?_);intro i k h a' c' hm i0 i1 hk hap hf he;by_cases ci:i<ns
 rotate_left
 ·obtain rfl:k=ns:=by omega
  refine hA.roundR Try.func13 r13_ok (zc ?_);refine br (i<N) (by rw[e_lss hA]) (fun c1=>by omega) (fun c1=>?_)<;>refine zc ?_;rw[List.take_of_length_le (by omega)]at hap;exact hok h a' c' hap he
 obtain⟨m,rfl⟩:∃k,m=k+1:=⟨m-1,by omega⟩
 replace ih:=ih m rfl
 obtain⟨M,hM⟩:∃M:Int,M=(i+1) % (ns:Int):=⟨_,rfl⟩;have M0:0<=M:=by rw[hM];exact Int.emod_nonneg _ (by omega)
 have M1:M<ns:=by rw[hM];exact Int.emod_lt_of_pos _ (by omega)
 have e2:arith .add .i64 i 1=i+1:=add64 hA (by omega) (by omega);have e3:arith .rem .i64 (i+1) (ofNat ns)=M:=by rw[e_ofNat hA,rem_tmod hA,hM,Int.tmod_eq_emod_of_nonneg (by omega)]
 obtain⟨bb,o,rfl,_,r1⟩:=(hS.ext he).at (i:=i) i0 (by omega);obtain⟨_,_,hc',_,r2⟩:=(hS.ext he).at (i:=M) M0 (by omega);cases hc';obtain⟨u,hu⟩:∃u,u=gt C i:=⟨_,rfl⟩;obtain⟨w,hw⟩:∃w,w=gt C M:=⟨_,rfl⟩;have p1:rd h bb (place o i 1) 1 [.int .i64 u]:=by rw[hu];exact rd_ok hA (r1 0 1 (by omega) (by omega))
 have p2:rd h bb (place o M 1) 1 [.int .i64 w]:=by rw[hw];exact rd_ok hA (r2 0 1 (by omega) (by omega))
 refine hA.roundR Try.func13 r13_ok (zc ?_);refine br (i<N) (by rw[e_lss hA]) (fun c1=>?_) (fun c1=>by omega)<;>refine zc ?_;refine zq ?_;refine⟨nz_ok hA (by rw[e_ofNat hA];omega),?_⟩;refine zc ?_;rw[e2,e3];refine zq ?_;refine appR_ok hA TS2 f2_len (by omega) f2_ok' (v:=⟨u,w⟩) hap (by omega) (fun a2 c2' h4 hp2 hx=>?_);obtain⟨x4,hf4⟩:=hx h0 he hf;refine zc ?_;rw[e2];refine ih (i+1) (k+1) h4 a2 c2' (by omega) (by omega) (by omega) (by omega) ?_ hf4 x4;rw[gt_take (sps C) i0 (by omega),gt_sps C i0 (by omega)];have:stepP C i=⟨u,w⟩:=by unfold stepP nxC;rw[hu,hw,hM,hlen]
 rw[this];exact hp2
theorem ps_loop2{h0:AHeap}(hlow0:h0.low<=h0.next){sa:Option Addr}{ns sc:Nat}{V:List Ck}(hS:Cs h0 sa ns V)(hns:ns<=1000)(hk:∀v∈V,v.ok)(hz:∀v∈V,¬v.nil){N:Int}(hN:N=ns){R:Option Ck}{Q:Exit->SS->Prop}
  (hno:∀h',R=none->Ext h0 h'->∀v93 v92 v11 K,Q .ret ⟨[(5,.int .i64 16),(93,v93),(92,v92),(4,.pointer (some ⟨0,0,some 0⟩)),(11,v11)],3,(0,[.int .i64 0,.int .i64 0,.int .i64 0]) :: K,h'⟩)
  (hok:∀h' q,R=some q->isRay q->Ext h0 h'->Q (.exit 2) ⟨[(4,.pointer (some ⟨0,0,some 0⟩)),(12,.pointer (some ⟨1,0,some 0⟩))],2,[(0,[.int .i64 0,.int .i64 0,.int .i64 0]),(1,[.int .i64 q.a,.int .i64 q.b,.int .i64 q.d])],h'⟩) :
  ∀(m:Nat) (i:Int) (p:Ck) (h:AHeap),(ns-i).toNat<=m->0<=i->i<=ns->isRay p->trnF p (V.drop i.toNat)=R->Ext h0 h->
   head 13 19 2 ⟨[(4,.pointer (some ⟨0,0,some 0⟩)),(12,.pointer (some ⟨1,0,some 0⟩)),(78,.slice sa ns sc),(79,.int .i64 N),(80,.int .i64 i)],2,[(0,[.int .i64 0,.int .i64 0,.int .i64 0]),(1,[.int .i64 p.a,.int .i64 p.b,.int .i64 p.d])],h⟩ Q:=by
 have hlen:=hS.len;refine upTo (fun m ih=>?_);intro i p h hm i0 i1 hp hR he;by_cases ci:i<ns
 rotate_left
 ·refine hA.roundR Try.func13 r13_ok (zc ?_)
  refine br (i<N) (by rw[e_lss hA]) (fun c1=>by omega) (fun c1=>?_)<;>refine zc ?_;rw[List.drop_eq_nil_of_le (by omega)]at hR;exact hok h p hR.symm hp he
 obtain⟨m,rfl⟩:∃k,m=k+1:=⟨m-1,by omega⟩
 replace ih:=ih m rfl
 obtain⟨bb,o,h1,h2,h3⟩:=(hS.ext he).at (i:=i) i0 (by omega);subst h1;obtain⟨v,hv⟩:∃v,v=gt V i:=⟨_,rfl⟩;have q1:rd h bb (place o i 3) 3 [.int .i64 v.a,.int .i64 v.b,.int .i64 v.d]:=by rw[hv];exact rd_ok hA (h3 0 3 (by omega) (by omega))
 have hmem:v∈V:=by rw[hv];exact gt_mem V i0 (by omega)
 have e2:arith .add .i64 i 1=i+1:=add64 hA (by omega) (by omega);have hdr:V.drop i.toNat=v :: V.drop (i+1).toNat:=by
  rw[show(i+1).toNat=i.toNat+1 by omega,hv];unfold gt;rw[List.getD_eq_getElem?_getD,List.getElem?_eq_getElem (by omega)];exact List.drop_eq_getElem_cons (by omega)
 rw[hdr]at hR;unfold trnF at hR;refine hA.roundR Try.func13 r13_ok (zc ?_);refine br (i<N) (by rw[e_lss hA]) (fun c1=>?_) (fun c1=>by omega)<;>refine zc ?_;refine zq ?_;refine turned_ok hA (he.lowOK hlow0) hp (hk v hmem) (hz v hmem) (fun h' t x=>⟨_,_,_,_,rfl,?_⟩) (fun q h' t hq x=>⟨_,_,_,_,rfl,?_⟩)
 ·refine zc ?_
  refine br True (by rw[e_neq hA];rfl) (fun _=>?_) (fun q=>absurd trivial q)<;>refine zc ?_;rw[t]at hR;exact hno h' hR.symm (he.trans x) _ _ _ _
 ·refine zc ?_
  refine br False (by rw[e_neq hA];rfl) (fun q=>q.elim) (fun _=>?_)<;>refine zc ?_;rw[t]at hR;rw[e2];exact ih (i+1) q h' (by omega) (by omega) (by omega) hq hR (he.trans x)
theorem Phase_ok{h:AHeap}(hlow:h.low<=h.next){a:Option Addr}{n c:Nat}{l:List Vk}(hl:Vs h a n l)(hn:n<=1000){sa:Option Addr}{ns sc:Nat}{C:List Int}(hS:Rows iC 1 h sa ns C)(hns:ns<=1000){Q:Value->AHeap->Prop}
  (hQ:∀h' p e,PhO l C p e->Ext h h'->Q (.tuple #[.agg #[.int .i64 p.a,.int .i64 p.b,.int .i64 p.d],.int .i64 e]) h') :
  call 13 [.slice a n c,.slice sa ns sc] h Q:=by
 have hlen:=hS.len;refine hA.bodyR Try.func13 r13_ok (hA.alike _ _ _ rfl) hlow (zc ?_);refine clcheck_ok hA hlow hl hn (fun e h1 ke x1=>⟨_,rfl,?_⟩);refine zc ?_;refine br (e≠0) (by rw[e_neq hA]) (fun c1=>?_) (fun c1=>?_)<;>refine zc ?_
 ·exact hQ h1 zeC e (.bad c1 ke) x1
 have e0:e=0:=by omega
 subst e0;obtain⟨k1,k2,k3⟩:=ke.ok0;have narg:¬circle C->Q (.tuple #[.agg #[.int .i64 0,.int .i64 0,.int .i64 0],.int .i64 2]) h1:=fun q=>hQ h1 zeC 2 (.arg ke q) x1
 refine br ((ns:Int)<3) (by rw[e_lss hA,e_ofNat hA]) (fun c2=>?_) (fun c2=>?_)<;>refine zc ?_
 ·exact narg (fun q=>by have:=q.1;omega)
 refine br (8<(ns:Int)) (by rw[e_gtr hA,e_ofNat hA]) (fun c3=>?_) (fun c3=>?_)<;>refine zc ?_
 ·exact narg (fun q=>by have:=q.2.1;omega)
 refine different_ok hA (x1.lowOK hlow) (hS.ext x1) hns (fun r h2 hr x2=>⟨_,rfl,?_⟩);have x12:=x1.trans x2;refine zc ?_;refine br (r=false) (by rw[e_bnot hA];cases r<;>rfl) (fun c4=>?_) (fun c4=>?_)<;>refine zc ?_
 ·exact hQ h2 zeC 2 (.arg ke (fun q=>by have:=hr.2 q.2.2;rw[c4]at this;cases this)) x12
 have hc:circle C:=⟨by omega,by omega,hr.1 (by cases r with|true=>rfl|false=>exact absurd rfl c4)⟩;refine ps_loop1 hA (x12.lowOK hlow) (hS.ext x12) hns (e_ofNat hA ns) (fun h3 a3 c3' hap x3=>?_) ns 0 0 h2 none 0 (by omega) (by omega) (by omega) rfl (by simp;exact Apd.nil _ _) (From.none _) (.refl h2);refine zc ?_;have x13:=x12.trans x3;have hsl:=sps_len C;have hR:Rows F2.cells 2 h3 a3 ns (sps C):=⟨hap.cells,f2_len,by omega⟩;refine along_ok hA (x13.lowOK hlow) (hl.ext x13) hn k2 k3 hR hns (fun h4 q x4=>?_) (fun h4 q z x4=>?_) (fun h4 a4 c4' q z q4 q5 x4=>?_)
 ·refine⟨_,_,_,_,rfl,?_⟩
  refine zc ?_;refine br True (by rw[e_neq hA];rfl) (fun _=>?_) (fun q=>absurd trivial q)<;>refine zc ?_;exact hQ h4 zeC 6 (.no ke hc q) (x13.trans x4)
 ·refine⟨_,_,_,_,rfl,?_⟩
  refine zc ?_;refine br True (by rw[e_neq hA];rfl) (fun _=>?_) (fun q=>absurd trivial q)<;>refine zc ?_;exact hQ h4 zeC 18 (.zero ke hc q z) (x13.trans x4)
 refine⟨_,_,_,_,rfl,?_⟩;refine zc ?_;refine br False (by rw[e_neq hA];rfl) (fun q=>q.elim) (fun _=>?_)<;>refine zc ?_;have x14:=x13.trans x4;have hvl:=vsF_len l C;have vk:∀v∈vsF l C,v.ok:=vsF_ok k2 q;obtain⟨bb,o,h5,h6,h7⟩:=q5.at (i:=0) (by omega) (by omega);subst h5;obtain⟨v,hv⟩:∃v,v=gt (vsF l C) 0:=⟨_,rfl⟩;have r0:rd h4 bb (place o 0 3) 3 [.int .i64 v.a,.int .i64 v.b,.int .i64 v.d]:=by rw[hv];exact rd_ok hA (h7 0 3 (by omega) (by omega))
 have hmem:v∈vsF l C:=by rw[hv];exact gt_mem _ (by omega) (by omega)
 refine zq ?_;refine cray_is hA (x14.lowOK hlow) (vk v hmem) (z v hmem) (fun r5 h8 hr5 x5=>⟨_,_,_,_,rfl,?_⟩);refine zc ?_;refine br False (by rw[e_neq hA];rfl) (fun q=>q.elim) (fun _=>?_)<;>refine zc ?_;have x15:=x14.trans x5;have hcap:c4'=someCap 3 ns:=by
  rcases q4 with ⟨e1,_⟩|⟨_,_,e1,_⟩
  ·cases e1
  ·exact e1
 have hcells:=(Cells.part q4.cells (i:=1) (m:=ns-1) (by omega)).ext x5;have hcs:Cs h8 ((some ⟨bb,o,none⟩:Option Addr).map (aadd · (1*3))) (ns-1) ((vsF l C).drop 1):=by
  refine⟨?_,ck_len,by omega⟩;rw[flat_dropN ck_len,List.take_of_length_le (by rw[flatE_len ck_len,List.length_drop];unfold vsF at hvl;omega)]at hcells;exact hcells
 rw[hcap];refine slc_lo hA TC2 (by omega) (by omega) (by omega) ?_;have es1:ns-(1:Int).toNat=ns-1:=rfl;rw[es1];obtain⟨a8,ha8⟩:∃z,z=(some ⟨bb,o,none⟩:Option Addr).map (aadd · (1*3)):=⟨_,rfl⟩;rw[<-ha8]at hcs;rw[show(some ⟨bb,o,none⟩:Option Addr).map (aadd · ((1:Int).toNat*3))=a8 from ha8.symm];generalize ns-1=n8 at *;generalize someCap 3 n8=c8;generalize someCap 3 ns=c9;refine zc ?_;have hdr:vsF l C=v :: (vsF l C).drop 1:=by
  have:0<(vsF l C).length:=by omega
  rw[hv];generalize vsF l C=L at this ⊢;cases L with
  |nil=>simp at this
  |cons x L=>rfl
 have hR:trnF r5 (((vsF l C).drop 1).drop (0:Int).toNat)=trnF oneC (vsF l C):=by
  show trnF r5 ((vsF l C).drop 1)=_;rw[hr5,<-trnF_one (rayC_is (vk v hmem) (z v hmem)),<-hdr]
 have hr5':isRay r5:=by rw[hr5];exact rayC_is (vk v hmem) (z v hmem)
 refine ps_loop2 hA (x15.lowOK hlow) hcs (by omega) (fun v hv=>vk v (List.drop_subset _ _ hv)) (fun v hv=>z v (List.drop_subset _ _ hv)) (e_ofNat hA n8) (fun h9 hn9 x9 v93 v92 v11 K=>?_) (fun h9 q9 hq hr9 x9=>?_) n8 0 r5 h8 (by omega) (by omega) (by omega) hr5' hR (.refl h8)
 ·refine zc ?_
  exact hQ h9 zeC 16 (.range ke hc q z hn9) (x15.trans x9)
 ·refine zc ?_
  exact hQ h9 q9 0 (.ok ke hc q z hq) (x15.trans x9)
end Go.Proofs.Ytlimjlpjldijdaa
namespace Go.Proofs.Ytlimjlpjldijdaa
open Go.Sim
set_option maxRecDepth 100000
def flI:List F2->Int->Int->Int
 | [],_,_=>0
 |p :: L,i,j=>flI L i j+((if p.n=i/\p.d=j then 1 else 0)-(if p.n=j/\p.d=i then 1 else 0))
theorem flI_append:∀(L M:List F2) (i j:Int),flI (L++M) i j=flI L i j+flI M i j
 | [],M,i,j=>by show flI M i j=0+flI M i j;omega
 |p :: L,M,i,j=>by
  show flI (L++M) i j+_=flI L i j+_+flI M i j;rw[flI_append L M i j];omega
theorem stN_flI(c:List Int)(i j:Int):∀k:Nat,stN c i j k=flI ((List.range k).map fun k:Nat=>stepP c k) i j
 |0=>rfl
 |k+1=>by
  rw[List.range_succ,List.map_append,flI_append,<-stN_flI c i j k];show stN c i j k+stp c i j k=_+(0+_);unfold stp stepP;simp only;omega
theorem steps_flI(c:List Int)(i j:Int):steps c i j=flI (sps c) i j:=stN_flI c i j c.length
theorem flI_nodup:∀{L:List F2},L.Nodup->∀(i j:Int),flI L i j=(if (⟨i,j⟩:F2)∈L then 1 else 0)-(if (⟨j,i⟩:F2)∈L then 1 else 0)
 | [],_,i,j=>by simp[flI]
 |p :: L,h,i,j=>by
  obtain⟨h1,h2⟩:=List.nodup_cons.1 h;obtain⟨x,y⟩:=p;unfold flI;rw[flI_nodup h2 i j];have aux:∀i j:Int,(if (⟨i,j⟩:F2)∈(⟨x,y⟩:F2) :: L then(1:Int)else 0)=(if (⟨i,j⟩:F2)∈L then 1 else 0)+(if x=i/\y=j then 1 else 0):=fun i j=>by
   by_cases c:x=i/\y=j
   ·obtain⟨rfl,rfl⟩:=c
    rw[if_pos (List.mem_cons_self ..),if_neg h1,if_pos ⟨rfl,rfl⟩];rfl
   ·rw[if_neg c]
    by_cases d:(⟨i,j⟩:F2)∈L
    ·rw[if_pos d,if_pos (List.mem_cons_of_mem _ d)];rfl
    ·rw[if_neg d,if_neg (fun q=>by
      rcases List.mem_cons.1 q with e|e
      ·cases e;exact c ⟨rfl,rfl⟩
      ·exact d e)];rfl
  rw[aux i j,aux j i];simp only;omega
theorem sps_fst(c:List Int):(sps c).map F2.n=c:=by
 apply gt_extR
 ·rw[List.length_map,sps_len]
 ·intro k k0 k1
  rw[List.length_map,sps_len]at k1;rw[gt_map F2.n (sps c) k0 (by rw[sps_len];exact k1),gt_sps c k0 k1];rfl
theorem sps_nodup{c:List Int}(h:c.Nodup):(sps c).Nodup:=by
 rw[<-sps_fst c]at h;exact List.Pairwise.of_map _ (fun a b hab e=>hab (by rw[e])) h
theorem gt_inj{c:List Int}(h:c.Nodup){i j:Int}(i0:0<=i)(i1:i<c.length)(j0:0<=j)(j1:j<c.length)(e:gt c i=gt c j):i=j:=by
 obtain⟨i',rfl⟩:∃i':Nat,i=i':=⟨i.toNat,by omega⟩;obtain⟨j',rfl⟩:∃j':Nat,j=j':=⟨j.toNat,by omega⟩;have hi:i'<c.length:=by omega
 have hj:j'<c.length:=by omega
 have gi:gt c (i':Int)=c[i']:=by unfold gt;simp[List.getElem?_eq_getElem hi]
 have gj:gt c (j':Int)=c[j']:=by unfold gt;simp[List.getElem?_eq_getElem hj]
 rw[gi,gj]at e;rcases Nat.lt_trichotomy i' j' with q|q|q
 ·exact absurd e (List.pairwise_iff_getElem.1 h i' j' hi hj q)
 ·rw[q]
 ·exact absurd e.symm (List.pairwise_iff_getElem.1 h j' i' hj hi q)
theorem mem_sps{c:List Int}{p:F2}(h:p∈sps c):∃k:Int,0<=k/\k<c.length/\p=stepP c k:=by
 unfold sps at h;obtain⟨k,hk,rfl⟩:=List.mem_map.1 h;have:=List.mem_range.1 hk;exact⟨k,by omega,by omega,rfl⟩
theorem nx_cases{k n:Int}(h0:0<=k)(h1:k<n):((k+1) % n=k+1/\k+1<n)\/((k+1) % n=0/\k+1=n):=by
 by_cases c:k+1<n
 ·exact .inl ⟨Int.emod_eq_of_lt (by omega) c,c⟩
 ·have:k+1=n:=by omega
  rw[this];exact .inr ⟨Int.emod_self,rfl⟩
theorem sps_once{c:List Int}(h:circle c){i j:Int}(h1:(⟨i,j⟩:F2)∈sps c)(h2:(⟨j,i⟩:F2)∈sps c):False:=by
 obtain⟨l3,l8,hs,hn⟩:=h;obtain⟨k,k0,k1,e1⟩:=mem_sps h1;obtain⟨m,m0,m1,e2⟩:=mem_sps h2;unfold stepP nxC at e1 e2;simp only[F2.mk.injEq]at e1 e2;have n1:=nx_cases k0 k1;have n2:=nx_cases m0 m1;have a1:=gt_inj hn (i:=(k+1) % c.length) (j:=m) (by omega) (by omega) m0 m1 (by rw[<-e1.2,e2.1]);have a2:=gt_inj hn (i:=(m+1) % c.length) (j:=k) (by omega) (by omega) k0 k1 (by rw[<-e2.2,e1.1]);omega
def cofP(c:List Int)(p:F2):Int:=if p∈sps c then 1 else if (⟨p.d,p.n⟩:F2)∈sps c then -1 else 0
theorem cofP_is{c:List Int}(h:circle c)(p:F2):cofP c p=steps c p.n p.d:=by
 rw[steps_flI,flI_nodup (sps_nodup h.2.2.2)];unfold cofP;by_cases c1:p∈sps c
 ·rw[if_pos c1,if_pos c1,if_neg (fun q=>sps_once h (i:=p.n) (j:=p.d) c1 q)];rfl
 ·rw[if_neg c1,if_neg c1]
  split<;>rfl
end Go.Proofs.Ytlimjlpjldijdaa
namespace Go.Proofs.Ytlimjlpjldijdaa
open Go.Sim
set_option maxRecDepth 100000
inductive CoO(l:List Vk)(c:List Int):List Int->Int->Prop
 |bad {e:Int} (h0:e≠0) (h:CkR l e):CoO l c [] e
 |arg (h:CkR l 0) (h1:¬circle c):CoO l c [] 2
 |no (h:CkR l 0) (h1:circle c) (h2:∃p∈sps c,fv l p.n p.d=none):CoO l c [] 6
 |ok {t:List F2} {pk:Int} (h:CkR l 0) (h1:circle c) (h2:∀p∈sps c,fv l p.n p.d≠none) (hp:Parts (basP l) (stS l) (fun _=>false) [] 0 t pk):CoO l c ((chds t (basP l)).map fun p=>steps c p.n p.d) 0
theorem CoO.uniq{l:List Vk}{c:List Int}{x y:List Int}{e f:Int}(h:CoO l c x e)(k:CoO l c y f):x=y/\e=f:=by
 cases h with
 |bad h0 h=>cases k with
  |bad _ k=>exact⟨rfl,h.uniq k⟩
  |_ k=>exact absurd (h.uniq k) h0
 |arg h h1=>cases k with
  |bad h0 k=>exact absurd (k.uniq h) h0
  |arg _ _=>exact⟨rfl,rfl⟩
  |_ _ k1=>exact absurd k1 h1
 |no h h1 h2=>cases k with
  |bad h0 k=>exact absurd (k.uniq h) h0
  |arg _ k1=>exact absurd h1 k1
  |no _ _ _=>exact⟨rfl,rfl⟩
  |ok _ _ k2 _=>obtain⟨s,s1,s2⟩:=h2;exact absurd s2 (k2 s s1)
 |ok h h1 h2 hp=>cases k with
  |bad h0 k=>exact absurd (k.uniq h) h0
  |arg _ k1=>exact absurd h1 k1
  |no _ _ k2=>obtain⟨s,s1,s2⟩:=k2;exact absurd s2 (h2 s s1)
  |ok _ _ _ kp=>obtain⟨rfl,rfl⟩:=hp.uniq kp;exact⟨rfl,rfl⟩
variable{F:Prims}{call head arith cmp scmp bnot bsame conv neg imax imin ofNat slen place inR nz geZ rd wr push next mkOK nat zeros sadd eqAgg cut slc sslc strAt part app cpy putAt fresh lowered bump wrote addN lt ne fpAll fpApp brk yn rng mget mput mnew bytes clr mrng ment:_}(hA:AP F ⟨call,head,arith,cmp,scmp,bnot,bsame,conv,neg,imax,imin,ofNat,slen,place,inR,nz,geZ,rd,wr,push,next,mkOK,nat,zeros,sadd,eqAgg,cut,slc,sslc,strAt,part,app,cpy,putAt,fresh,lowered,bump,wrote,addN,lt,ne,fpAll,fpApp,brk,yn,rng,mget,mput,mnew,bytes,clr,mrng,ment⟩)
include hA
theorem co_loop1{h0:AHeap}{a:Option Addr}{n c:Nat}{sa:Option Addr}{ns sc:Nat}{N:Int}(hN:N=ns){C:List Int}(hS:Rows iC 1 h0 sa ns C)(hns:ns<=1000)(hnd:(sps C).Nodup){id:Nat}(hid0:h0.next<=id){K0:List (Nat×List Value)}{Q:Exit->SS->Prop}
  (hQ:∀h',h'.m.get id=some (.map (encE pairK boolK (onK (sps C))))->Ext h0 h'->id<h'.next->Q (.exit 0) ⟨[(0,.slice a n c),(9,.map (some id))],1,K0,h'⟩) :
  ∀(m:Nat) (i:Int) (h:AHeap),(ns-i).toNat<=m->0<=i->i<=ns->h.m.get id=some (.map (encE pairK boolK (onK ((sps C).take i.toNat))))->Ext h0 h->id<h.next->
   head 26 9 1 ⟨[(0,.slice a n c),(1,.slice sa ns sc),(9,.map (some id)),(35,.slice sa ns sc),(36,.int .i64 N),(37,.int .i64 i)],1,K0,h⟩ Q:=by
 have hlen:=hS.len;have hsl:=sps_len C;refine upTo (fun m ih=>?_);intro i h hm i0 i1 hg he hb;by_cases ci:i<ns
 rotate_left
 ·refine hA.roundR Try.func26 r26_ok (zc ?_)
  refine br (i<N) (by rw[e_lss hA]) (fun c1=>by omega) (fun c1=>?_)<;>refine zc ?_;rw[List.take_of_length_le (by omega)]at hg;exact hQ h hg he hb
 obtain⟨m,rfl⟩:∃k,m=k+1:=⟨m-1,by omega⟩
 replace ih:=ih m rfl
 obtain⟨M,hM⟩:∃M:Int,M=(i+1) % (ns:Int):=⟨_,rfl⟩;have M0:0<=M:=by rw[hM];exact Int.emod_nonneg _ (by omega)
 have M1:M<ns:=by rw[hM];exact Int.emod_lt_of_pos _ (by omega)
 have e2:arith .add .i64 i 1=i+1:=add64 hA (by omega) (by omega);have e3:arith .rem .i64 (i+1) (ofNat ns)=M:=by rw[e_ofNat hA,rem_tmod hA,hM,Int.tmod_eq_emod_of_nonneg (by omega)]
 obtain⟨bb,o,rfl,_,r1⟩:=(hS.ext he).at (i:=i) i0 (by omega);obtain⟨_,_,hc',_,r2⟩:=(hS.ext he).at (i:=M) M0 (by omega);cases hc';obtain⟨u,hu⟩:∃u,u=gt C i:=⟨_,rfl⟩;obtain⟨w,hw⟩:∃w,w=gt C M:=⟨_,rfl⟩;have p1:rd h bb (place o i 1) 1 [.int .i64 u]:=by rw[hu];exact rd_ok hA (r1 0 1 (by omega) (by omega))
 have p2:rd h bb (place o M 1) 1 [.int .i64 w]:=by rw[hw];exact rd_ok hA (r2 0 1 (by omega) (by omega))
 have hst:stepP C i=⟨u,w⟩:=by unfold stepP nxC;rw[hu,hw,hM,hlen]
 have htk:=gt_take (sps C) i0 (by omega);rw[gt_sps C i0 (by omega),hst]at htk;have hnot:(⟨u,w⟩:F2)∉(sps C).take i.toNat:=fun hm=>by
  have hnd':((sps C).take (i+1).toNat).Nodup:=hnd.sublist (List.take_sublist _ _);rw[htk,List.nodup_append]at hnd';exact hnd'.2.2 _ hm _ (List.mem_singleton.2 rfl) rfl
 refine hA.roundR Try.func26 r26_ok (zc ?_);refine br (i<N) (by rw[e_lss hA]) (fun c1=>?_) (fun c1=>by omega)<;>refine zc ?_;refine zq ?_;refine⟨nz_ok hA (by rw[e_ofNat hA];omega),?_⟩;refine zc ?_;rw[e2,e3];refine zq ?_;obtain⟨M1',p1',p2',p3',p4'⟩:=put_enc mPB hg (F2.t ⟨u,w⟩) true;have p5:=p3' (onK_none hnot);obtain⟨h1,hh1⟩:∃z,z=h.putB id (.map (encE pairK boolK M1')):=⟨_,rfl⟩;rw[<-hh1]at p1';refine⟨h1,(e_mput hA _ _ _ _ _ _).mpr p1',?_⟩;refine zc ?_;rw[e2];refine ih (i+1) h1 (by omega) (by omega) (by omega) ?_ (by rw[hh1];exact he.putB hid0 _) (by rw[hh1];exact hb);rw[hh1,putB_eq,p5,htk];unfold onK;rw[List.map_append];rfl
theorem co_loop2{h0:AHeap}(hlow0:h0.low<=h0.next){sa:Option Addr}{ns sc:Nat}{N:Int}(hN:N=ns){P:List F2}(hS:Rows F2.cells 2 h0 sa ns P)(hns:ns<=1000){C:List Int}{cs:List Value}{id:Nat}(hid0:id<h0.next)(hm0:h0.m.get id=some (.map (encE pairK boolK (onK (sps C))))){Q:Exit->SS->Prop}
  (hQ:∀h' a' c',Apd h' 1 a' ns c' ((P.map (cofP C)).flatMap iC)->Ext h0 h'->Q (.exit 2) ⟨[(12,.slice a' ns c')],1,[(0,cs)],h'⟩) :
  ∀(m:Nat) (i:Int) (k:Nat) (h:AHeap) (a':Option Addr) (c':Nat),(ns-i).toNat<=m->0<=i->i<=ns->(k:Int)=i->Apd h 1 a' k c' (((P.map (cofP C)).take i.toNat).flatMap iC)->From h0.next a'->Ext h0 h->
   head 26 15 1 ⟨[(9,.map (some id)),(12,.slice a' k c'),(57,.slice sa ns sc),(58,.int .i64 N),(59,.int .i64 i)],1,[(0,cs)],h⟩ Q:=by
 have hlen:=hS.len;refine upTo (fun m ih=>?_);intro i k h a' c' hm i0 i1 hk hap hf he;by_cases ci:i<ns
 rotate_left
 ·obtain rfl:k=ns:=by omega
  refine hA.roundR Try.func26 r26_ok (zc ?_);refine br (i<N) (by rw[e_lss hA]) (fun c1=>by omega) (fun c1=>?_)<;>refine zc ?_;rw[List.take_of_length_le (by rw[List.length_map];omega)]at hap;exact hQ h a' c' hap he
 obtain⟨m,rfl⟩:∃k,m=k+1:=⟨m-1,by omega⟩
 replace ih:=ih m rfl
 obtain⟨bb,o,x,y,rfl,hbb,hgt,r1,_⟩:=fr_at (hS.ext he) (i:=i) i0 ci;have q1:=rd_ok hA r1;have e2:arith .add .i64 i 1=i+1:=add64 hA (by omega) (by omega);have qm:h.m.get id=some (.map (encE pairK boolK (onK (sps C)))):=by rw[he.get id hid0];exact hm0
 obtain⟨v1,hv1⟩:∃z,z=decide ((⟨x,y⟩:F2)∈sps C):=⟨_,rfl⟩;obtain⟨v2,hv2⟩:∃z,z=decide ((⟨y,x⟩:F2)∈sps C):=⟨_,rfl⟩;refine hA.roundR Try.func26 r26_ok (zc ?_);refine br (i<N) (by rw[e_lss hA]) (fun c1=>?_) (fun c1=>by omega)<;>refine zc ?_;refine zq ?_;refine⟨v1,(getL (onK (sps C)) (x,y)).isSome,(e_mget hA _ _ _ _ _ _).mpr (by rw[hv1,<-onK_get];exact look_enc mPB qm (x,y)),?_⟩;refine zq ?_;have mk:∀z,z=cofP C ⟨x,y⟩->∀a2 c2' h4,Apd h4 1 a2 (k+1) c2' ((((P.map (cofP C)).take i.toNat)++[z]).flatMap iC)->Apd h4 1 a2 (k+1) c2' (((P.map (cofP C)).take (i+1).toNat).flatMap iC):=fun z hz a2 c2' h4 hp2=>by
  rw[gt_take (P.map (cofP C)) i0 (by rw[List.length_map];omega),gt_map (cofP C) P i0 (by omega),hgt,<-hz];exact hp2
 have b1:v1=true↔(⟨x,y⟩:F2)∈sps C:=by rw[hv1];exact decide_eq_true_iff
 have b2:v2=true↔(⟨y,x⟩:F2)∈sps C:=by rw[hv2];exact decide_eq_true_iff
 refine br (v1=true) (by simp) (fun c2=>?_) (fun c2=>?_)<;>refine zc ?_
 ·refine appR_ok hA TI1 iC_len (by omega) iC_ok (v:=1) hap (by omega) (fun a2 c2' h4 hp2 hx=>?_)
  obtain⟨x4,hf4⟩:=hx h0 he hf;refine zc ?_;rw[e2];exact ih (i+1) (k+1) h4 a2 c2' (by omega) (by omega) (by omega) (by omega) (mk 1 (by unfold cofP;rw[if_pos (b1.1 c2)]) _ _ _ hp2) hf4 x4
 refine zc ?_;refine⟨v2,(getL (onK (sps C)) (y,x)).isSome,(e_mget hA _ _ _ _ _ _).mpr (by rw[hv2,<-onK_get];exact look_enc mPB qm (y,x)),?_⟩;refine zc ?_;refine br (v2=true) (by simp) (fun c3=>?_) (fun c3=>?_)<;>refine zc ?_
 ·refine appR_ok hA TI1 iC_len (by omega) iC_ok (v:=-1) hap (by omega) (fun a2 c2' h4 hp2 hx=>?_)
  obtain⟨x4,hf4⟩:=hx h0 he hf;refine zc ?_;rw[e2];exact ih (i+1) (k+1) h4 a2 c2' (by omega) (by omega) (by omega) (by omega) (mk (-1) (by unfold cofP;rw[if_neg (fun q=>c2 (b1.2 q)),if_pos (b2.1 c3)]) _ _ _ hp2) hf4 x4
 ·refine appR_ok hA TI1 iC_len (by omega) iC_ok (v:=0) hap (by omega) (fun a2 c2' h4 hp2 hx=>?_)
  obtain⟨x4,hf4⟩:=hx h0 he hf;refine zc ?_;rw[e2];exact ih (i+1) (k+1) h4 a2 c2' (by omega) (by omega) (by omega) (by omega) (mk 0 (by unfold cofP;rw[if_neg (fun q=>c2 (b1.2 q)),if_neg (fun q=>c3 (b2.2 q))]) _ _ _ hp2) hf4 x4
omit hA in
theorem chds_len(t:List F2)(l:List Vk):(chds t (basP l)).length<=28:=by
 have h6:=List.length_filter_le (fun p=>decide (p∉t)) (basP l);have:=basP_len l;unfold chds;omega
theorem Coefs_ok(hW:LW F){h:AHeap}(hlow:h.low<=h.next){a:Option Addr}{n c:Nat}{l:List Vk}(hl:Vs h a n l)(hn:n<=1000){sa:Option Addr}{ns sc:Nat}{C:List Int}(hS:Rows iC 1 h sa ns C)(hns:ns<=1000){Q:Value->AHeap->Prop}
  (hQ:∀h' a' k c' x e,CoO l C x e->Rows iC 1 h' a' k x->k<=28->Ext h h'->Q (.tuple #[.slice a' k c',.int .i64 e]) h') :
  call 26 [.slice a n c,.slice sa ns sc] h Q:=by
 have hlen:=hS.len;refine hA.bodyR Try.func26 r26_ok (hA.alike _ _ _ rfl) hlow (zc ?_);refine clcheck_ok hA hlow hl hn (fun e h1 ke x1=>⟨_,rfl,?_⟩);refine zc ?_;refine br (e≠0) (by rw[e_neq hA]) (fun c1=>?_) (fun c1=>?_)<;>refine zc ?_
 ·exact hQ h1 none 0 0 [] e (.bad c1 ke) (Rows.nil h1 iC_len (by omega)) (by omega) x1
 have e0:e=0:=by omega
 subst e0;obtain⟨k1,k2,k3⟩:=ke.ok0;refine Phase_ok hA (x1.lowOK hlow) (hl.ext x1) hn (hS.ext x1) hns (fun h2 p e po x2=>⟨_,_,_,_,rfl,?_⟩);have x12:=x1.trans x2;refine zc ?_;refine br (e=2) (by rw[e_eql hA]) (fun c2=>?_) (fun c2=>?_)<;>refine zc ?_
 ·subst c2
  cases po with
  |bad _ k=>exact absurd (k.uniq ke) (by omega)
  |arg _ q=>exact hQ h2 none 0 0 [] 2 (.arg ke q) (Rows.nil h2 iC_len (by omega)) (by omega) x12
 refine br (e=6) (by rw[e_eql hA]) (fun c3=>?_) (fun c3=>?_)<;>refine zc ?_
 ·subst c3
  cases po with
  |bad _ k=>exact absurd (k.uniq ke) (by omega)
  |no _ q q2=>exact hQ h2 none 0 0 [] 6 (.no ke q q2) (Rows.nil h2 iC_len (by omega)) (by omega) x12
 have hc:circle C/\∀p∈sps C,fv l p.n p.d≠none:=by
  cases po with
  |bad h0 k=>exact absurd (k.uniq ke) h0
  |arg _ _=>exact absurd rfl c2
  |no _ _ _=>exact absurd rfl c3
  |zero _ q1 q2 _=>exact⟨q1,q2⟩
  |range _ q1 q2 _ _=>exact⟨q1,q2⟩
  |ok _ q1 q2 _ _=>exact⟨q1,q2⟩
 simp only[e_next hA,e_ofNat hA,e_mnew hA];refine co_loop1 hA (h0:=h2) rfl (hS.ext x12) hns (sps_nodup hc.1.2.2.2) (Nat.le_refl _) (fun h3 q1 x3 q3=>?_) ns 0 _ (by omega) (by omega) (by omega) (pushB_eq _ _) (.pushB _ _) (by show h2.next<h2.next+1;omega);refine zc ?_;have x13:=x12.trans x3;refine joins_ok hA hW (x13.lowOK hlow) (hl.ext x13) (okV.st k2) hn (basP_is k2) k3 (fun t h4 id pk y1 y2 y3 y4 y5 y6=>?_);refine⟨_,rfl,?_⟩;refine zc ?_;have x14:=x13.trans y3;refine chords_ok hA (x14.lowOK hlow) (hl.ext x14) (okV.st k2) hn (basP_is k2) k3 y5 y2 (fun h5 a5 n5 c5 z1 z2 z3 z4 z5=>?_);refine⟨_,_,_,rfl,?_⟩;refine zc ?_;have x15:=x14.trans z5;have cl:=chds_len t l;have z3':(chds t (basP l)).length=n5:=z3;have hR:Rows F2.cells 2 h5 a5 n5 (chds t (basP l)):=⟨z1.cells,f2_len,by omega⟩;refine co_loop2 hA (x15.lowOK hlow) (e_ofNat hA n5) hR (by omega) (C:=C) (id:=h2.next) (by have:=y3.next;have:=z5.next;omega) ?_ (fun h6 a6 c6 w1 x6=>?_) n5 0 0 h5 none 0 (by omega) (by omega) (by omega) rfl (by simp;exact Apd.nil _ _) (From.none _) (.refl h5)
 ·rw[z5.get h2.next (by have:=y3.next;omega),y3.get h2.next q3]
  exact q1
 refine zc ?_;have em:(chds t (basP l)).map (cofP C)=(chds t (basP l)).map fun p=>steps C p.n p.d:=List.map_congr_left (fun p _=>cofP_is hc.1 p)
 rw[em]at w1;exact hQ h6 a6 n5 c6 _ 0 (.ok ke hc.1 hc.2 y1) ⟨w1.cells,iC_len,by omega⟩ (by omega) (x15.trans x6)
