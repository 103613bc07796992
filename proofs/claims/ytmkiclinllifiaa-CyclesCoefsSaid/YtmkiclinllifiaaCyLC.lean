import Derived.Test.YtmkiclinllifiaaCyRe
import Derived.Test.YtmkiclinllifiaaCyCr
import Derived.Test.YtmkiclinllifiaaCyX
import Derived.Test.YtmkiclinllifiaaCyY
set_option linter.unusedSimpArgs false
set_option linter.unusedVariables false
namespace Go.Proofs.Ytmkiclinllifiaa
open Go.Sim
set_option maxRecDepth 100000
variable{F:Prims}{call head arith cmp scmp bnot bsame conv neg imax imin ofNat slen place inR nz geZ rd wr push next mkOK nat zeros sadd eqAgg cut slc sslc strAt part app cpy putAt fresh lowered bump wrote addN lt ne fpAll fpApp brk yn rng mget mput mnew bytes clr mrng ment:_}(hA:AP F ⟨call,head,arith,cmp,scmp,bnot,bsame,conv,neg,imax,imin,ofNat,slen,place,inR,nz,geZ,rd,wr,push,next,mkOK,nat,zeros,sadd,eqAgg,cut,slc,sslc,strAt,part,app,cpy,putAt,fresh,lowered,bump,wrote,addN,lt,ne,fpAll,fpApp,brk,yn,rng,mget,mput,mnew,bytes,clr,mrng,ment⟩)
include hA
theorem rr_loop1{h0:AHeap}(hlow0:h0.low<=h0.next){a:Option Addr}{n c:Nat}{l:List Vk}(hl:Vs h0 a n l)(hn:n<=1000){ca:Option Addr}{k cc:Nat}{Z:List (Int×List Int)}(hC:Rows iC 1 h0 ca k (Z.map Prod.fst))(hk:k<=1000){ga:Option Addr}{gc:Nat}{hs:List Hd}(hG:GrR iC 1 h0 ga k hs (Z.map Prod.snd))(hrow:∀z∈Z,z.2.length<=1000){Q:Exit->SS->Prop}
  (hbad:∀h' e,e≠0->FaR l Z [] [] e->Ext h0 h'->∀v52 v51 v12 K,Q .ret ⟨[(5,.int .i64 e),(52,v52),(51,v51),(4,.pointer (some ⟨0,0,some 0⟩)),(12,v12)],2,(0,[.int .i64 0,.int .i64 0,.int .i64 0]) :: K,h'⟩)
  (hok:∀h' a' m c' fs,FaR l Z [] fs 0->Apd h' 3 a' m c' (fs.flatMap Ck.cells)->fs.length=m->Ext h0 h'->Q (.exit 0) ⟨[(4,.pointer (some ⟨0,0,some 0⟩)),(9,.slice a' m c')],1,[(0,[.int .i64 0,.int .i64 0,.int .i64 0])],h'⟩) :
  ∀(M:Nat) (i:Int) (h:AHeap) (a':Option Addr) (m c':Nat) (acc:List Ck),(k-i).toNat<=M->0<=i->i<=k->(∀fs e,FaR l (Z.drop i.toNat) acc fs e->FaR l Z [] fs e)->Apd h 3 a' m c' (acc.flatMap Ck.cells)->acc.length=m->(m:Int)<=i->From h0.next a'->Ext h0 h->
   head 30 7 1 ⟨[(0,.slice a n c),(4,.pointer (some ⟨0,0,some 0⟩)),(6,.slice ca k cc),(8,.slice ga k gc),(9,.slice a' m c'),(10,.int .i64 i)],1,[(0,[.int .i64 0,.int .i64 0,.int .i64 0])],h⟩ Q:=by
 have hlen:=hC.len;rw[List.length_map]at hlen;refine upTo (fun M ih=>?_);intro i h a' m c' acc hm i0 i1 hR hap hml hmi hf he;by_cases ci:i<k
 rotate_left
 ·refine hA.roundR Try.func30 r30_ok (zc ?_)
  refine br (i<k) (by rw[e_lss hA,e_ofNat hA]) (fun c1=>absurd c1 ci) (fun c1=>?_)<;>refine zc ?_;refine hok h a' m c' acc (hR _ _ ?_) hap hml he;rw[List.drop_eq_nil_of_le (by omega)];exact .nil acc
 obtain⟨M,rfl⟩:∃k,M=k+1:=⟨M-1,by omega⟩
 replace ih:=ih M rfl
 obtain⟨bb,o,rfl,_,r1⟩:=(hC.ext he).at (i:=i) i0 (by omega);obtain⟨cf,row,hz⟩:∃cf row,gt Z i=(cf,row):=⟨_,_,rfl⟩;have hdr:=drop_gt Z i0 (by omega);rw[hz]at hdr;rw[hdr]at hR;have hzm:(cf,row)∈Z:=by rw[<-hz];exact gt_mem Z i0 (by omega)
 have g1:gt (Z.map Prod.fst) i=cf:=by rw[gt_map Prod.fst Z i0 (by omega),hz]
 have g2:gt (Z.map Prod.snd) i=row:=by rw[gt_map Prod.snd Z i0 (by omega),hz]
 have p1:rd h bb (place o i 1) 1 [.int .i64 cf]:=by rw[<-g1];exact rd_ok hA (r1 0 1 (by omega) (by omega))
 have e2:arith .add .i64 i 1=i+1:=add64 hA (by omega) (by omega);have G1:=hG.ext he;obtain⟨gb,go,rfl,_⟩:=G1.some (by omega);have q2:=gr_head hA G1 i0 ci;have R2:=G1.row i i0 ci;obtain⟨⟨va,vn,vc⟩,hv⟩:∃z,z=gt hs i:=⟨_,rfl⟩;rw[<-hv]at q2 R2;rw[g2]at R2;simp only at q2 R2;refine hA.roundR Try.func30 r30_ok (zc ?_);refine br (i<k) (by rw[e_lss hA,e_ofNat hA]) (fun c1=>?_) (fun c1=>absurd ci c1)<;>refine zc ?_;refine zq ?_;refine br (cf=0) (by rw[e_eql hA]) (fun c2=>?_) (fun c2=>?_)<;>refine zc ?_
 ·refine zc ?_
  rw[e2];refine ih (i+1) h a' m c' acc (by omega) (by omega) (by omega) (fun fs e r=>hR fs e (by rw[c2];exact .skip r)) hap hml (by omega) hf he
 refine zq ?_;refine rPhase_ok hA (he.lowOK hlow0) (hl.ext he) hn R2 (by have:=R2.len;have:=hrow _ hzm;simp only at this;omega) (fun h1 p e po x1=>⟨_,_,_,_,rfl,?_⟩);have e1:=he.trans x1;refine zc ?_;refine br (e≠0) (by rw[e_neq hA]) (fun c3=>?_) (fun c3=>?_)<;>refine zc ?_
 ·exact hbad h1 e c3 (hR _ _ (.err c2 po c3)) e1 _ _ _ _
 have e0:e=0:=by omega
 subst e0;have hray:isRay p:=po.ray;have p1':rd h1 bb (place o i 1) 1 [.int .i64 cf]:=by
  rw[<-g1];obtain⟨_,_,ec,_,r1'⟩:=(hC.ext e1).at (i:=i) i0 (by omega);cases ec;exact rd_ok hA (r1' 0 1 (by omega) (by omega))
 have hap1:=hap.ext x1;have nxt:∀x,x=sgC cf p->∀a2 c2' h4,Apd h4 3 a2 (m+1) c2' ((acc++[x]).flatMap Ck.cells)->From h0.next a2->Ext h0 h4->
   head 30 7 1 ⟨[(0,.slice a n c),(4,.pointer (some ⟨0,0,some 0⟩)),(6,.slice (some ⟨bb,o,none⟩) k cc),(8,.slice (some ⟨gb,go,none⟩) k gc),(9,.slice a2 (m+1) c2'),(10,.int .i64 (i+1))],1,[(0,[.int .i64 0,.int .i64 0,.int .i64 0])],h4⟩ Q:=fun x hx a2 c2' h4 hp2 hf4 x4=>by
  subst hx;exact ih (i+1) h4 a2 (m+1) c2' (acc++[sgC cf p]) (by omega) (by omega) (by omega) (fun fs e r=>hR fs e (.take c2 po r)) hp2 (by simp[hml]) (by omega) hf4 x4
 refine zq ?_;refine br (cf<0) (by rw[e_lss hA]) (fun c4=>?_) (fun c4=>?_)<;>refine zc ?_
 ·obtain⟨s,hs'⟩:∃s,s=-p.b:=⟨_,rfl⟩
  refine apart26_ok hA (e1.lowOK hlow0) (a:=p.a) (b:=p.b) (d:=p.d) (by have:=hray.b1;have:=hray.b2;omega) ?_;rw[<-hs'];refine⟨_,_,_,rfl,?_⟩;refine zc ?_;refine appR_ok hA TC2 ck_len (by omega) ck_ok (v:=⟨p.a,s,p.d⟩) hap1 (by omega) (fun a2 c2' h4 hp2 hx=>?_);obtain⟨x4,hf4⟩:=hx h0 e1 hf;refine zc ?_;rw[e2];exact nxt ⟨p.a,s,p.d⟩ (by unfold sgC;rw[if_pos c4,hs']) a2 c2' h4 hp2 hf4 x4
 ·refine appR_ok hA TC2 ck_len (by omega) ck_ok (v:=p) hap1 (by omega) (fun a2 c2' h4 hp2 hx=>?_)
  obtain⟨x4,hf4⟩:=hx h0 e1 hf;refine zc ?_;rw[e2];exact nxt p (by unfold sgC;rw[if_neg c4]) a2 c2' h4 hp2 hf4 x4
theorem rr_loop2{h0:AHeap}(hlow0:h0.low<=h0.next){sa:Option Addr}{ns sc:Nat}{V:List Ck}(hS:Cs h0 sa ns V)(hns:ns<=1000)(hk:∀v∈V,isRay v){R:Option Ck}{Q:Exit->SS->Prop}
  (hno:∀h',R=none->Ext h0 h'->∀v82 K,Q .ret ⟨[(5,.int .i64 16),(82,v82),(4,.pointer (some ⟨0,0,some 0⟩))],14,(0,[.int .i64 0,.int .i64 0,.int .i64 0]) :: K,h'⟩)
  (hok:∀h' q,R=some q->isRay q->Ext h0 h'->Q (.exit 2) ⟨[(4,.pointer (some ⟨0,0,some 0⟩)),(13,.pointer (some ⟨1,0,some 0⟩))],2,[(0,[.int .i64 0,.int .i64 0,.int .i64 0]),(1,[.int .i64 q.a,.int .i64 q.b,.int .i64 q.d])],h'⟩) :
  ∀(m:Nat) (i:Int) (p:Ck) (h:AHeap),(ns-i).toNat<=m->0<=i->i<=ns->isRay p->trnF p (V.drop i.toNat)=R->Ext h0 h->
   head 30 18 2 ⟨[(4,.pointer (some ⟨0,0,some 0⟩)),(9,.slice sa ns sc),(13,.pointer (some ⟨1,0,some 0⟩)),(14,.int .i64 i)],2,[(0,[.int .i64 0,.int .i64 0,.int .i64 0]),(1,[.int .i64 p.a,.int .i64 p.b,.int .i64 p.d])],h⟩ Q:=by
 have hlen:=hS.len;refine upTo (fun m ih=>?_);intro i p h hm i0 i1 hp hR he;by_cases ci:i<ns
 rotate_left
 ·refine hA.roundR Try.func30 r30_ok (zc ?_)
  refine br (i<ns) (by rw[e_lss hA,e_ofNat hA]) (fun c1=>absurd c1 ci) (fun c1=>?_)<;>refine zc ?_;rw[List.drop_eq_nil_of_le (by omega)]at hR;exact hok h p hR.symm hp he
 obtain⟨m,rfl⟩:∃k,m=k+1:=⟨m-1,by omega⟩
 replace ih:=ih m rfl
 obtain⟨h9,hh9⟩:∃z,z=bump h 12:=⟨_,rfl⟩;have eh9:Ext h h9:=by rw[hh9];exact ext_bump hA _ _
 have e9:Ext h0 h9:=he.trans eh9;obtain⟨bb,o,h1,h2,h3⟩:=(hS.ext e9).at (i:=i) i0 (by omega);subst h1;obtain⟨v,hv⟩:∃v,v=gt V i:=⟨_,rfl⟩;have q1:rd h9 bb (place o i 3) 3 [.int .i64 v.a,.int .i64 v.b,.int .i64 v.d]:=by rw[hv];exact rd_ok hA (h3 0 3 (by omega) (by omega))
 have hmem:v∈V:=by rw[hv];exact gt_mem V i0 (by omega)
 have e2:arith .add .i64 i 1=i+1:=add64 hA (by omega) (by omega);have hdr:=drop_gt V i0 (by omega);rw[<-hv]at hdr;have rr:=hk v hmem;rw[hdr]at hR;unfold trnF at hR;rw[rr.ray]at hR;have lowh:=he.lowOK hlow0;refine hA.roundR Try.func30 r30_ok (zc ?_);refine br (i<ns) (by rw[e_lss hA,e_ofNat hA]) (fun c1=>?_) (fun c1=>absurd ci c1)<;>refine zc ?_;rw[<-hh9];refine zq ?_;refine rcmul_is hA (low_fresh hA h9) hp rr (fun hz t xz=>⟨_,_,_,_,rfl,?_⟩) (fun k hz hk' hkz t tr xz=>⟨_,_,_,_,rfl,?_⟩)
 ·obtain⟨hX,hhX⟩:∃z,z=lowered h9 hz:=⟨_,rfl⟩
  have eX:Ext h hX:=by rw[hhX];exact ext_low hA lowh eh9 xz
  refine zq ?_;rw[<-hhX];refine br True (by rw[e_neq hA];rfl) (fun _=>?_) (fun q=>absurd trivial q)<;>refine zc ?_;rw[t]at hR;exact hno hX hR.symm (he.trans eX) _ _
 ·obtain⟨hX,hhX⟩:∃z,z=lowered h9 hz:=⟨_,rfl⟩
  have eX:Ext h hX:=by rw[hhX];exact ext_low hA lowh eh9 xz
  refine zq ?_;rw[<-hhX];refine br False (by rw[e_neq hA];rfl) (fun q=>q.elim) (fun _=>?_)<;>refine zc ?_;have e12:=he.trans eX;refine rray_is hA (e12.lowOK hlow0) hk' hkz (fun q h3 hq x3=>⟨_,_,_,_,rfl,?_⟩);refine zc ?_;rw[t,<-hq]at hR;rw[<-hq]at tr;rw[e2];exact ih (i+1) q h3 (by omega) (by omega) (by omega) tr hR (e12.trans x3)
theorem rReckon_ok{h:AHeap}(hlow:h.low<=h.next){a:Option Addr}{n c:Nat}{l:List Vk}(hl:Vs h a n l)(hn:n<=1000){sa:Option Addr}{ns sc:Nat}{C:List Int}(hS:Rows iC 1 h sa ns C)(hns:ns<=1000){Q:Value->AHeap->Prop}
  (hQ:∀h' p e,ReO l C p e->Ext h h'->Q (.tuple #[.agg #[.int .i64 p.a,.int .i64 p.b,.int .i64 p.d],.int .i64 e]) h') :
  call 30 [.slice a n c,.slice sa ns sc] h Q:=by
 refine hA.bodyR Try.func30 r30_ok (hA.alike _ _ _ rfl) hlow (zc ?_);refine rCoefs_ok hA hlow hl hn hS hns (fun h1 ca k cc x e co hC hk x1=>⟨_,_,_,_,rfl,?_⟩);refine zc ?_;refine br (e≠0) (by rw[e_neq hA]) (fun c1=>?_) (fun c1=>?_)<;>refine zc ?_
 ·refine hQ h1 zeC e (.bad c1 ?_) x1
  cases co with
  |bad _ k=>exact .bad c1 k
  |arg k q=>exact .arg k q
  |no k q q2=>exact .no k q q2
  |ok=>exact absurd rfl c1
 have e0:e=0:=by omega
 subst e0;have co':=co;cases co with
 |bad h0 _=>exact absurd rfl h0
 | @ok t pk ke hc q hp=>
 obtain⟨k1,k2,k3⟩:=ke.ok0;refine rbasis_ok hA (x1.lowOK hlow) (hl.ext x1) k2 hn k3 (fun t' pk' h2 a2 k2' c2 hs' q1 q4 q6 q5=>?_);obtain⟨rfl,rfl⟩:=hp.uniq q1;refine⟨_,_,_,rfl,?_⟩;refine zc ?_;have x12:=x1.trans q5;have kk:k2'=k:=by
  have l1:=hC.len;have l2:=q4.len;rw[List.length_map]at l1 l2;omega
 subst kk;rw[<-zs_fst]at hC;rw[<-zs_snd l C]at q4;refine rr_loop1 hA (x12.lowOK hlow) (hl.ext x12) hn (hC.ext q5) (by omega) q4 (zs_rows ke hp) (fun h3 e he0 fr x3 v52 v51 v12 K=>?_) (fun h3 a3 m3 c3 fs fr hap hfl x3=>?_) k2' 0 h2 none 0 0 [] (by omega) (by omega) (by omega) (fun fs e r=>r) (by simp;exact Apd.nil _ _) rfl (by omega) (From.none _) (.refl h2)
 ·refine zc ?_
  exact hQ h3 zeC e (.ph co' hp fr he0) (x12.trans x3)
 refine zc ?_;have x13:=x12.trans x3;have fl:=fr.len;have zl:(zsC l C t).length=k2':=by have:=hC.len;rw[List.length_map]at this;exact this
 have hF:Cs h3 a3 m3 fs:=⟨hap.cells,ck_len,by omega⟩;refine one_ok hA (x13.lowOK hlow) (fun h4 x4=>⟨_,_,_,rfl,?_⟩);refine zc ?_;have x14:=x13.trans x4;refine rr_loop2 hA (x14.lowOK hlow) (hF.ext x4) (by simp only[List.length_nil]at fl;omega) (fr.rays (fun v hv=>by cases hv)) (R:=trnF oneC fs) (fun h5 hn4 x5 v82 K=>?_) (fun h5 q hq hr4 x5=>?_) m3 0 oneC h4 (by omega) (by omega) (by omega) one_ray rfl (.refl h4)
 ·refine zc ?_
  exact hQ h5 zeC 16 (.range co' hp fr hn4) (x14.trans x5)
 ·refine zc ?_
  exact hQ h5 q 0 (.ok co' hp fr hq) (x14.trans x5)
end Go.Proofs.Ytmkiclinllifiaa
namespace Go.Proofs.Ytmkiclinllifiaa
open Go.Sim
set_option maxRecDepth 100000
variable{F:Prims}{call head arith cmp scmp bnot bsame conv neg imax imin ofNat slen place inR nz geZ rd wr push next mkOK nat zeros sadd eqAgg cut slc sslc strAt part app cpy putAt fresh lowered bump wrote addN lt ne fpAll fpApp brk yn rng mget mput mnew bytes clr mrng ment:_}(hA:AP F ⟨call,head,arith,cmp,scmp,bnot,bsame,conv,neg,imax,imin,ofNat,slen,place,inR,nz,geZ,rd,wr,push,next,mkOK,nat,zeros,sadd,eqAgg,cut,slc,sslc,strAt,part,app,cpy,putAt,fresh,lowered,bump,wrote,addN,lt,ne,fpAll,fpApp,brk,yn,rng,mget,mput,mnew,bytes,clr,mrng,ment⟩)
include hA
theorem coefs_ok(hW:LW F){h:AHeap}(hlow:h.low<=h.next){a:Option Addr}{n c:Nat}{l:List Vk}(hl:Vs h a n l){sa:Option Addr}{ns sc:Nat}{C:List Int}(hS:Rows iC 1 h sa ns C){Q:Value->AHeap->Prop}(hQ:∀h',Ext h h'->Q (.bool true) h') :
  call 6 [.slice a n c,.slice sa ns sc] h Q:=by
 refine hA.bodyR Try.func6 r6_ok (hA.alike _ _ _ rfl) hlow (zc ?_);refine br ((100:Int)<n) (by rw[e_gtr hA,e_ofNat hA]) (fun c1=>?_) (fun c1=>?_)<;>refine zc ?_
 ·exact hQ h (.refl h)
 refine br ((20:Int)<ns) (by rw[e_gtr hA,e_ofNat hA]) (fun c2=>?_) (fun c2=>?_)<;>refine zc ?_
 ·exact hQ h (.refl h)
 have hn1:n<=1000:=by omega
 have hns:ns<=1000:=by omega
 refine Coefs_ok hA hW hlow hl hn1 hS hns (fun h1 a1 k1 c1' x e o1 r1 s1 x1=>?_);refine⟨_,_,_,_,rfl,?_⟩;refine zc ?_;refine rCoefs_ok hA (x1.lowOK hlow) (hl.ext x1) hn1 (hS.ext x1) hns (fun h2 a2 k2 c2' x' e' o2 r2 s2 x2'=>?_);obtain⟨rfl,rfl⟩:=o1.uniq o2;refine⟨_,_,_,_,rfl,?_⟩;refine zc ?_;have x2:=x1.trans x2';refine Reckon_ok hA hW (x2.lowOK hlow) (hl.ext x2) hn1 (hS.ext x2) hns (fun h3 p f o3 x3'=>?_);refine⟨_,_,_,_,rfl,?_⟩;refine zc ?_;have x3:=x2.trans x3';refine rReckon_ok hA (x3.lowOK hlow) (hl.ext x3) hn1 (hS.ext x3) hns (fun h4 p' f' o4 x4'=>?_);obtain⟨rfl,rfl⟩:=o3.uniq o4;refine⟨_,_,_,_,rfl,?_⟩;refine zc ?_;have x4:=x3.trans x4';refine sints_ok hA (x4.lowOK hlow) (r1.ext ((x2'.trans x3').trans x4')) (r2.ext (x3'.trans x4')) (by omega) (fun h5 x5=>?_);refine⟨true,rfl,?_⟩;refine zc ?_;refine br (e=e) (by rw[e_eql hA]) (fun _=>?_) (fun q=>absurd rfl q)<;>refine zc ?_;obtain⟨rr,hr1,hr2⟩:=eqC p.a p.b p.d p.a p.b p.d;obtain rfl:rr=true:=hr2.2 ⟨rfl,rfl,rfl⟩;refine zc ?_;rw[e_eqAgg hA];refine⟨guardC,true,hr1,?_⟩;refine zc ?_;rw[e_eql hA];rw[show decide (f=f)=true by simp];exact hQ h5 (x4.trans x5)
