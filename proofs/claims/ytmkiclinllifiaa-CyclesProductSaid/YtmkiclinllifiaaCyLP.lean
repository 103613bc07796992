import Derived.Test.YtmkiclinllifiaaCyCb
import Derived.Test.YtmkiclinllifiaaCyAl
import Derived.Test.YtmkiclinllifiaaCyPd
set_option linter.unusedSimpArgs false
set_option linter.unusedVariables false
namespace Go.Proofs.Ytmkiclinllifiaa
open Go.Sim
set_option maxRecDepth 100000
theorem drop_gt{α:Type}[Inhabited α](l:List α){i:Int}(i0:0<=i)(i1:i<l.length):l.drop i.toNat=gt l i :: l.drop (i+1).toNat:=by
 rw[show(i+1).toNat=i.toNat+1 by omega];unfold gt;rw[List.getD_eq_getElem?_getD,List.getElem?_eq_getElem (by omega)];exact List.drop_eq_getElem_cons (by omega)
variable{F:Prims}{call head arith cmp scmp bnot bsame conv neg imax imin ofNat slen place inR nz geZ rd wr push next mkOK nat zeros sadd eqAgg cut slc sslc strAt part app cpy putAt fresh lowered bump wrote addN lt ne fpAll fpApp brk yn rng mget mput mnew bytes clr mrng ment:_}(hA:AP F ⟨call,head,arith,cmp,scmp,bnot,bsame,conv,neg,imax,imin,ofNat,slen,place,inR,nz,geZ,rd,wr,push,next,mkOK,nat,zeros,sadd,eqAgg,cut,slc,sslc,strAt,part,app,cpy,putAt,fresh,lowered,bump,wrote,addN,lt,ne,fpAll,fpApp,brk,yn,rng,mget,mput,mnew,bytes,clr,mrng,ment⟩)
include hA
theorem re_loop1{h0:AHeap}(hlow0:h0.low<=h0.next){a:Option Addr}{n c:Nat}{l:List Vk}(hl:Vs h0 a n l)(hn:n<=1000){ca:Option Addr}{k cc:Nat}{N:Int}(hN:N=k){Z:List (Int×List Int)}(hC:Rows iC 1 h0 ca k (Z.map Prod.fst))(hk:k<=1000){ga:Option Addr}{gc:Nat}{hs:List Hd}(hG:GrR iC 1 h0 ga k hs (Z.map Prod.snd))(hrow:∀z∈Z,z.2.length<=1000){Q:Exit->SS->Prop}
  (hbad:∀h' e,e≠0->FaR l Z [] [] e->Ext h0 h'->∀v67 v66 v14 K,Q .ret ⟨[(5,.int .i64 e),(67,v67),(66,v66),(4,.pointer (some ⟨0,0,some 0⟩)),(14,v14)],2,(0,[.int .i64 0,.int .i64 0,.int .i64 0]) :: K,h'⟩)
  (hok:∀h' a' m c' fs,FaR l Z [] fs 0->Apd h' 3 a' m c' (fs.flatMap Ck.cells)->fs.length=m->Ext h0 h'->Q (.exit 0) ⟨[(4,.pointer (some ⟨0,0,some 0⟩)),(10,.slice a' m c')],1,[(0,[.int .i64 0,.int .i64 0,.int .i64 0])],h'⟩) :
  ∀(M:Nat) (i:Int) (h:AHeap) (a':Option Addr) (m c':Nat) (acc:List Ck),(k-i).toNat<=M->0<=i->i<=k->(∀fs e,FaR l (Z.drop i.toNat) acc fs e->FaR l Z [] fs e)->Apd h 3 a' m c' (acc.flatMap Ck.cells)->acc.length=m->(m:Int)<=i->From h0.next a'->Ext h0 h->
   head 29 7 1 ⟨[(0,.slice a n c),(4,.pointer (some ⟨0,0,some 0⟩)),(9,.slice ga k gc),(10,.slice a' m c'),(35,.slice ca k cc),(36,.int .i64 N),(37,.int .i64 i)],1,[(0,[.int .i64 0,.int .i64 0,.int .i64 0])],h⟩ Q:=by
 have hlen:=hC.len;rw[List.length_map]at hlen;refine upTo (fun M ih=>?_);intro i h a' m c' acc hm i0 i1 hR hap hml hmi hf he;by_cases ci:i<k
 rotate_left
 ·refine hA.roundR Try.func29 r29_ok (zc ?_)
  refine br (i<N) (by rw[e_lss hA]) (fun c1=>by omega) (fun c1=>?_)<;>refine zc ?_;refine hok h a' m c' acc (hR _ _ ?_) hap hml he;rw[List.drop_eq_nil_of_le (by omega)];exact .nil acc
 obtain⟨M,rfl⟩:∃k,M=k+1:=⟨M-1,by omega⟩
 replace ih:=ih M rfl
 obtain⟨bb,o,rfl,_,r1⟩:=(hC.ext he).at (i:=i) i0 (by omega);obtain⟨cf,row,hz⟩:∃cf row,gt Z i=(cf,row):=⟨_,_,rfl⟩;have hdr:=drop_gt Z i0 (by omega);rw[hz]at hdr;rw[hdr]at hR;have hzm:(cf,row)∈Z:=by rw[<-hz];exact gt_mem Z i0 (by omega)
 have g1:gt (Z.map Prod.fst) i=cf:=by rw[gt_map Prod.fst Z i0 (by omega),hz]
 have g2:gt (Z.map Prod.snd) i=row:=by rw[gt_map Prod.snd Z i0 (by omega),hz]
 have p1:rd h bb (place o i 1) 1 [.int .i64 cf]:=by rw[<-g1];exact rd_ok hA (r1 0 1 (by omega) (by omega))
 have e2:arith .add .i64 i 1=i+1:=add64 hA (by omega) (by omega);have G1:=hG.ext he;obtain⟨gb,go,rfl,_⟩:=G1.some (by omega);have q2:=gr_head hA G1 i0 ci;have R2:=G1.row i i0 ci;obtain⟨⟨va,vn,vc⟩,hv⟩:∃z,z=gt hs i:=⟨_,rfl⟩;rw[<-hv]at q2 R2;rw[g2]at R2;simp only at q2 R2;refine hA.roundR Try.func29 r29_ok (zc ?_);refine br (i<N) (by rw[e_lss hA]) (fun c1=>?_) (fun c1=>by omega)<;>refine zc ?_;refine zq ?_;refine br (cf=0) (by rw[e_eql hA]) (fun c2=>?_) (fun c2=>?_)<;>refine zc ?_
 ·refine zc ?_
  rw[e2];refine ih (i+1) h a' m c' acc (by omega) (by omega) (by omega) (fun fs e r=>hR fs e (by rw[c2];exact .skip r)) hap hml (by omega) hf he
 refine zq ?_;refine Phase_ok hA (he.lowOK hlow0) (hl.ext he) hn R2 (by have:=R2.len;have:=hrow _ hzm;simp only at this;omega) (fun h1 p e po x1=>⟨_,_,_,_,rfl,?_⟩);have e1:=he.trans x1;refine zc ?_;have nxt:∀hh x,x=sgC cf p->Ext h hh->e=0->∀a2 c2' h4,Apd h4 3 a2 (m+1) c2' ((acc++[x]).flatMap Ck.cells)->From h0.next a2->Ext h0 h4->
   head 29 7 1 ⟨[(0,.slice a n c),(4,.pointer (some ⟨0,0,some 0⟩)),(9,.slice (some ⟨gb,go,none⟩) k gc),(10,.slice a2 (m+1) c2'),(35,.slice (some ⟨bb,o,none⟩) k cc),(36,.int .i64 N),(37,.int .i64 (i+1))],1,[(0,[.int .i64 0,.int .i64 0,.int .i64 0])],h4⟩ Q:=fun hh x hx _ e0 a2 c2' h4 hp2 hf4 x4=>by
  subst hx e0;exact ih (i+1) h4 a2 (m+1) c2' (acc++[sgC cf p]) (by omega) (by omega) (by omega) (fun fs e r=>hR fs e (.take c2 po r)) hp2 (by simp[hml]) (by omega) hf4 x4
 have hap1:=hap.ext x1;refine br (e=0) (by rw[e_eql hA]) (fun c3=>?_) (fun c3=>?_)<;>refine zc ?_
 rotate_left
 ·refine zc ?_
  refine br (e≠0) (by rw[e_neq hA]) (fun c4=>?_) (fun c4=>absurd c3 c4)<;>refine zc ?_;exact hbad h1 e c3 (hR _ _ (.err c2 po c3)) e1 _ _ _ _
 have hray:isRay p:=by subst c3;exact po.ray
 refine br (cf<0) (by rw[e_lss hA]) (fun c4=>?_) (fun c4=>?_)<;>refine zc ?_
 ·refine cconj_ok hA (e1.lowOK hlow0) (fun r s t e' h2 hc x2=>⟨_,_,_,_,rfl,?_⟩)
  have okp:=hray.ok;obtain⟨hr1,hs1,ht1,he1⟩:r=p.a/\s=-p.b/\t=p.d/\e'=0:=by
   rcases hc with ⟨z,_⟩|⟨_,z⟩
   ·exact absurd okp z
   ·exact z
  refine zc ?_;refine br (e'≠0) (by rw[e_neq hA]) (fun c5=>absurd he1 c5) (fun _=>?_)<;>refine zc ?_;refine appR_ok hA TC2 ck_len (by omega) ck_ok (v:=⟨r,s,t⟩) (hap1.ext x2) (by omega) (fun a2 c2' h4 hp2 hx=>?_);obtain⟨x4,hf4⟩:=hx h0 (e1.trans x2) hf;refine zc ?_;rw[e2];exact nxt h2 ⟨r,s,t⟩ (by unfold sgC;rw[if_pos c4,hr1,hs1,ht1]) (x1.trans x2) c3 a2 c2' h4 hp2 hf4 x4
 ·refine zc ?_
  refine br (e≠0) (by rw[e_neq hA]) (fun c5=>absurd c3 c5) (fun _=>?_)<;>refine zc ?_;refine appR_ok hA TC2 ck_len (by omega) ck_ok (v:=p) hap1 (by omega) (fun a2 c2' h4 hp2 hx=>?_);obtain⟨x4,hf4⟩:=hx h0 e1 hf;refine zc ?_;rw[e2];exact nxt h1 p (by unfold sgC;rw[if_neg c4]) x1 c3 a2 c2' h4 hp2 hf4 x4
theorem re_loop2{h0:AHeap}(hlow0:h0.low<=h0.next){sa:Option Addr}{ns sc:Nat}{V:List Ck}(hS:Cs h0 sa ns V)(hns:ns<=1000)(hk:∀v∈V,isRay v){N:Int}(hN:N=ns){R:Option Ck}{Q:Exit->SS->Prop}
  (hno:∀h',R=none->Ext h0 h'->∀v89 v88 v19 K,Q .ret ⟨[(5,.int .i64 16),(89,v89),(88,v88),(4,.pointer (some ⟨0,0,some 0⟩)),(19,v19)],4,(0,[.int .i64 0,.int .i64 0,.int .i64 0]) :: K,h'⟩)
  (hok:∀h' q,R=some q->isRay q->Ext h0 h'->Q (.exit 2) ⟨[(4,.pointer (some ⟨0,0,some 0⟩)),(15,.pointer (some ⟨1,0,some 0⟩))],2,[(0,[.int .i64 0,.int .i64 0,.int .i64 0]),(1,[.int .i64 q.a,.int .i64 q.b,.int .i64 q.d])],h'⟩) :
  ∀(m:Nat) (i:Int) (p:Ck) (h:AHeap),(ns-i).toNat<=m->0<=i->i<=ns->isRay p->trnF p (V.drop i.toNat)=R->Ext h0 h->
   head 29 19 2 ⟨[(4,.pointer (some ⟨0,0,some 0⟩)),(15,.pointer (some ⟨1,0,some 0⟩)),(74,.slice sa ns sc),(75,.int .i64 N),(76,.int .i64 i)],2,[(0,[.int .i64 0,.int .i64 0,.int .i64 0]),(1,[.int .i64 p.a,.int .i64 p.b,.int .i64 p.d])],h⟩ Q:=by
 have hlen:=hS.len;refine upTo (fun m ih=>?_);intro i p h hm i0 i1 hp hR he;by_cases ci:i<ns
 rotate_left
 ·refine hA.roundR Try.func29 r29_ok (zc ?_)
  refine br (i<N) (by rw[e_lss hA]) (fun c1=>by omega) (fun c1=>?_)<;>refine zc ?_;rw[List.drop_eq_nil_of_le (by omega)]at hR;exact hok h p hR.symm hp he
 obtain⟨m,rfl⟩:∃k,m=k+1:=⟨m-1,by omega⟩
 replace ih:=ih m rfl
 obtain⟨bb,o,h1,h2,h3⟩:=(hS.ext he).at (i:=i) i0 (by omega);subst h1;obtain⟨v,hv⟩:∃v,v=gt V i:=⟨_,rfl⟩;have q1:rd h bb (place o i 3) 3 [.int .i64 v.a,.int .i64 v.b,.int .i64 v.d]:=by rw[hv];exact rd_ok hA (h3 0 3 (by omega) (by omega))
 have hmem:v∈V:=by rw[hv];exact gt_mem V i0 (by omega)
 have e2:arith .add .i64 i 1=i+1:=add64 hA (by omega) (by omega);have hdr:=drop_gt V i0 (by omega);rw[<-hv]at hdr;have rr:=hk v hmem;rw[hdr]at hR;unfold trnF at hR;rw[rr.ray]at hR;refine hA.roundR Try.func29 r29_ok (zc ?_);refine br (i<N) (by rw[e_lss hA]) (fun c1=>?_) (fun c1=>by omega)<;>refine zc ?_;refine zq ?_;refine cmul_is hA (he.lowOK hlow0) hp rr (fun h2 t x2=>⟨_,_,_,_,rfl,?_⟩) (fun k h2 hk' hkz t tr x2=>⟨_,_,_,_,rfl,?_⟩)
 ·refine zc ?_
  refine br True (by rw[e_neq hA];rfl) (fun _=>?_) (fun q=>absurd trivial q)<;>refine zc ?_;rw[t]at hR;exact hno h2 hR.symm (he.trans x2) _ _ _ _
 ·refine zc ?_
  refine br False (by rw[e_neq hA];rfl) (fun q=>q.elim) (fun _=>?_)<;>refine zc ?_;have e12:=he.trans x2;refine cray_is hA (e12.lowOK hlow0) hk' hkz (fun q h3 hq x3=>⟨_,_,_,_,rfl,?_⟩);refine zc ?_;refine br False (by rw[e_neq hA];rfl) (fun q=>q.elim) (fun _=>?_)<;>refine zc ?_;rw[t,<-hq]at hR;rw[<-hq]at tr;rw[e2];exact ih (i+1) q h3 (by omega) (by omega) (by omega) tr hR (e12.trans x3)
theorem Reckon_ok(hW:LW F){h:AHeap}(hlow:h.low<=h.next){a:Option Addr}{n c:Nat}{l:List Vk}(hl:Vs h a n l)(hn:n<=1000){sa:Option Addr}{ns sc:Nat}{C:List Int}(hS:Rows iC 1 h sa ns C)(hns:ns<=1000){Q:Value->AHeap->Prop}
  (hQ:∀h' p e,ReO l C p e->Ext h h'->Q (.tuple #[.agg #[.int .i64 p.a,.int .i64 p.b,.int .i64 p.d],.int .i64 e]) h') :
  call 29 [.slice a n c,.slice sa ns sc] h Q:=by
 refine hA.bodyR Try.func29 r29_ok (hA.alike _ _ _ rfl) hlow (zc ?_);refine Coefs_ok hA hW hlow hl hn hS hns (fun h1 ca k cc x e co hC hk x1=>⟨_,_,_,_,rfl,?_⟩);refine zc ?_;refine br (e≠0) (by rw[e_neq hA]) (fun c1=>?_) (fun c1=>?_)<;>refine zc ?_
 ·refine hQ h1 zeC e (.bad c1 ?_) x1
  cases co with
  |bad _ k=>exact .bad c1 k
  |arg k q=>exact .arg k q
  |no k q q2=>exact .no k q q2
  |ok=>exact absurd rfl c1
 have e0:e=0:=by omega
 subst e0;have co':=co;cases co with
 |bad h0 _=>exact absurd rfl h0
 | @ok t pk ke hc q hp=>
 obtain⟨k1,k2,k3⟩:=ke.ok0;refine basis_ok hA hW (x1.lowOK hlow) (hl.ext x1) (okV.st k2) (okV.lt k2) hn (basP_is k2) k3 (fun t' pk' h2 a1 k1' c1' a2 c2 hs' q1 q2 q3 q4 q5 q6 q7=>?_);obtain⟨rfl,rfl⟩:=hp.uniq q1;refine⟨_,_,_,_,_,_,rfl,?_⟩;refine zc ?_;have x12:=x1.trans q5;have kk:k1'=k:=by
  have l1:=hC.len;have l2:=q3.len;rw[List.length_map]at l1;omega
 subst kk;rw[<-zs_fst]at hC;rw[<-zs_snd l C]at q4;refine re_loop1 hA (x12.lowOK hlow) (hl.ext x12) hn (e_ofNat hA k1') (hC.ext q5) (by omega) q4 (zs_rows ke hp) (fun h3 e he0 fr x3 v67 v66 v14 K=>?_) (fun h3 a3 m3 c3 fs fr hap hfl x3=>?_) k1' 0 h2 none 0 0 [] (by omega) (by omega) (by omega) (fun fs e r=>r) (by simp;exact Apd.nil _ _) rfl (by omega) (From.none _) (.refl h2)
 ·refine zc ?_
  exact hQ h3 zeC e (.ph co' hp fr he0) (x12.trans x3)
 refine zc ?_;have x13:=x12.trans x3;have fl:=fr.len;have zl:(zsC l C t).length=k1':=by have:=hC.len;rw[List.length_map]at this;exact this
 have hF:Cs h3 a3 m3 fs:=⟨hap.cells,ck_len,by omega⟩;refine re_loop2 hA (x13.lowOK hlow) hF (by simp only[List.length_nil]at fl;omega) (fr.rays (fun v hv=>by cases hv)) (e_ofNat hA m3) (R:=trnF oneC fs) (fun h4 hn4 x4 v89 v88 v19 K=>?_) (fun h4 q hq hr4 x4=>?_) m3 0 oneC h3 (by omega) (by omega) (by omega) one_ray rfl (.refl h3)
 ·refine zc ?_
  exact hQ h4 zeC 16 (.range co' hp fr hn4) (x13.trans x4)
 ·refine zc ?_
  exact hQ h4 q 0 (.ok co' hp fr hq) (x13.trans x4)
end Go.Proofs.Ytmkiclinllifiaa
namespace Go.Proofs.Ytmkiclinllifiaa
open Go.Sim
set_option maxRecDepth 100000
variable{F:Prims}{call head arith cmp scmp bnot bsame conv neg imax imin ofNat slen place inR nz geZ rd wr push next mkOK nat zeros sadd eqAgg cut slc sslc strAt part app cpy putAt fresh lowered bump wrote addN lt ne fpAll fpApp brk yn rng mget mput mnew bytes clr mrng ment:_}(hA:AP F ⟨call,head,arith,cmp,scmp,bnot,bsame,conv,neg,imax,imin,ofNat,slen,place,inR,nz,geZ,rd,wr,push,next,mkOK,nat,zeros,sadd,eqAgg,cut,slc,sslc,strAt,part,app,cpy,putAt,fresh,lowered,bump,wrote,addN,lt,ne,fpAll,fpApp,brk,yn,rng,mget,mput,mnew,bytes,clr,mrng,ment⟩)
include hA
theorem rcheck_any{h:AHeap}(hlow:h.low<=h.next){a:Option Addr}{n c:Nat}{l:List Vk}(hl:Vs h a n l){Q:Value->AHeap->Prop}
  (hbad:∀e h',e≠0->Ext h h'->Q (.int .i64 e) h') (hok:∀h',CkR l 0->n<=64->Ext h h'->Q (.int .i64 0) h'):call 22 [.slice a n c] h Q:=by
 by_cases c0:n<=1000
 ·refine rclcheck_ok hA hlow hl c0 (fun e h' ke x=>?_)
  by_cases c1:e=0
  ·subst c1
   exact hok h' ke (by have:=ke.ok0.1;have:=hl.len;omega) x
  ·exact hbad e h' c1 x
 ·refine hA.bodyR Try.func22 r22_ok (hA.alike _ _ _ rfl) hlow (zc ?_)
  refine hA.bodyR Try.func46 r46_ok (hA.alike _ _ _ rfl) hlow (zc ?_);refine br (64<n) (by rw[e_gtr hA,e_ofNat hA];simp;omega) (fun c1=>?_) (fun c1=>by omega)<;>refine zc ?_;refine⟨_,rfl,?_⟩;refine zc ?_;refine br True (by rw[e_neq hA];rfl) (fun _=>?_) (fun q=>absurd trivial q)<;>refine zc ?_;exact hbad 4 h (by omega) (.refl h)
end Go.Proofs.Ytmkiclinllifiaa
namespace Go.Proofs.Ytmkiclinllifiaa
open Go.Sim
set_option maxRecDepth 100000
variable{F:Prims}{call head arith cmp scmp bnot bsame conv neg imax imin ofNat slen place inR nz geZ rd wr push next mkOK nat zeros sadd eqAgg cut slc sslc strAt part app cpy putAt fresh lowered bump wrote addN lt ne fpAll fpApp brk yn rng mget mput mnew bytes clr mrng ment:_}(hA:AP F ⟨call,head,arith,cmp,scmp,bnot,bsame,conv,neg,imax,imin,ofNat,slen,place,inR,nz,geZ,rd,wr,push,next,mkOK,nat,zeros,sadd,eqAgg,cut,slc,sslc,strAt,part,app,cpy,putAt,fresh,lowered,bump,wrote,addN,lt,ne,fpAll,fpApp,brk,yn,rng,mget,mput,mnew,bytes,clr,mrng,ment⟩)
include hA
theorem product_ok(hW:LW F)(hF:∀args h,F 21 args h=none){h:AHeap}(hlow:h.low<=h.next){a:Option Addr}{n c:Nat}{l:List Vk}(hl:Vs h a n l){sa:Option Addr}{ns sc:Nat}{C:List Int}(hS:Rows iC 1 h sa ns C){Q:Value->AHeap->Prop}(hQ:∀h',Ext h h'->Q (.bool true) h') :
  call 8 [.slice a n c,.slice sa ns sc] h Q:=by
 refine hA.bodyR Try.func8 r8_ok (hA.alike _ _ _ rfl) hlow (zc ?_);refine alive_ok hA hW hF hlow (fun h1 x1=>⟨_,rfl,?_⟩);refine zc ?_;refine rcheck_any hA (x1.lowOK hlow) (hl.ext x1) (fun e h2 he x2=>⟨_,rfl,?_⟩) (fun h2 ke n64 x2=>⟨_,rfl,?_⟩)
 ·refine zc ?_
  refine br (e≠0) (by rw[e_neq hA]) (fun _=>?_) (fun q=>absurd he q)<;>refine zc ?_;exact hQ h2 (x1.trans x2)
 have x12:=x1.trans x2;refine zc ?_;refine br False (by rw[e_neq hA];rfl) (fun q=>q.elim) (fun _=>?_)<;>refine zc ?_;refine br ((20:Int)<ns) (by rw[e_gtr hA,e_ofNat hA]) (fun c2=>?_) (fun c2=>?_)<;>refine zc ?_
 ·exact hQ h2 x12
 rw[show bnot true=false by rw[e_bnot hA];rfl];refine zc ?_;have hn:n<=1000:=by omega
 have hns:ns<=1000:=by omega
 refine Phase_ok hA (x12.lowOK hlow) (hl.ext x12) hn (hS.ext x12) hns (fun h3 p e po x3=>⟨_,_,_,_,rfl,?_⟩);refine zc ?_;have x13:=x12.trans x3;refine Reckon_ok hA hW (x13.lowOK hlow) (hl.ext x13) hn (hS.ext x13) hns (fun h4 q f ro x4=>⟨_,_,_,_,rfl,?_⟩);have x14:=x13.trans x4;obtain⟨r2,r6⟩:=product_err ke po ro;refine zc ?_;have b2:bnot (bsame (cmp .eql e 2) (cmp .eql f 2))=false:=by
  rw[e_bnot hA,e_bsame hA,e_eql hA,e_eql hA];by_cases z:e=2
  ·simp[z,r2.1 z]
  ·have hz:¬f=2:=fun q=>z (r2.2 q)
   simp[z,hz]
 have b6:bnot (bsame (cmp .eql e 6) (cmp .eql f 6))=false:=by
  rw[e_bnot hA,e_bsame hA,e_eql hA,e_eql hA];by_cases z:e=6
  ·simp[z,r6.1 z]
  ·have hz:¬f=6:=fun q=>z (r6.2 q)
   simp[z,hz]
 rw[b2];refine zc ?_;rw[b6];refine zc ?_;refine br (e≠0) (by rw[e_neq hA]) (fun c3=>?_) (fun c3=>?_)<;>refine zc ?_
 ·exact hQ h4 x14
 refine br (f≠0) (by rw[e_neq hA]) (fun c4=>?_) (fun c4=>?_)<;>refine zc ?_
 ·exact hQ h4 x14
 obtain rfl:e=0:=by omega
 obtain rfl:f=0:=by omega
 obtain rfl:=product po ro;have hr:=po.ray.ok;obtain⟨rr,hr1,hr2⟩:=eqC p.a p.b p.d p.a p.b p.d;obtain rfl:rr=true:=hr2.2 ⟨rfl,rfl,rfl⟩;rw[e_eqAgg hA];refine⟨guardC,true,hr1,?_⟩;refine zc ?_;refine rccheck_ok hA (x14.lowOK hlow) (fun e h5 ke' x5=>⟨_,rfl,?_⟩);refine zc ?_;have e0:e=0:=by
  rcases ke' with ⟨z,_⟩|⟨_,z⟩
  ·exact z
  ·exact absurd hr z
 rw[e_eql hA,show decide (e=0)=true by simp[e0]];exact hQ h5 (x14.trans x5)
