import Derived.Test.YtmkiclinllifiaaCyPc
import Derived.Test.YtmkiclinllifiaaCyX
import Derived.Test.YtmkiclinllifiaaCyCo
import Derived.Test.YtmkiclinllifiaaCyK
set_option linter.unusedSimpArgs false
set_option linter.unusedVariables false
namespace Go.Proofs.Ytmkiclinllifiaa
open Go.Sim
set_option maxRecDepth 100000
variable{F:Prims}{call head arith cmp scmp bnot bsame conv neg imax imin ofNat slen place inR nz geZ rd wr push next mkOK nat zeros sadd eqAgg cut slc sslc strAt part app cpy putAt fresh lowered bump wrote addN lt ne fpAll fpApp brk yn rng mget mput mnew bytes clr mrng ment:_}(hA:AP F ⟨call,head,arith,cmp,scmp,bnot,bsame,conv,neg,imax,imin,ofNat,slen,place,inR,nz,geZ,rd,wr,push,next,mkOK,nat,zeros,sadd,eqAgg,cut,slc,sslc,strAt,part,app,cpy,putAt,fresh,lowered,bump,wrote,addN,lt,ne,fpAll,fpApp,brk,yn,rng,mget,mput,mnew,bytes,clr,mrng,ment⟩)
include hA
theorem wrote_no{X h':AHeap}(e:Ext (fresh X) h'):wrote X h'=false:=by
 rw[e_wrote hA];have h1:=e.lowG;rw[e_fresh hA]at h1;exact blt_false (by
  have:min X.next X.next<=h'.low:=h1;omega)
theorem one_ok{h:AHeap}(hlow:h.low<=h.next){Q:Value->AHeap->Prop}(hQ:∀h',Ext h h'->Q (.agg #[.int .i64 1,.int .i64 0,.int .i64 1]) h'):call 53 [] h Q:=by
 refine hA.bodyR Try.func53 r53_ok (hA.alike _ _ _ rfl) hlow (zc ?_);exact hQ _ (by first|exact .refl h|exact ext_bump hA _ _)
theorem rp_loop1{h0:AHeap}(hlow0:h0.low<=h0.next){a:Option Addr}{n c:Nat}{l:List Vk}(hl:Vs h0 a n l)(hn:n<=1000)(hv:∀v∈l,okV v)(hd:(l.map Vk.pr).Nodup){sa:Option Addr}{ns sc:Nat}{C:List Int}(hS:Rows iC 1 h0 sa ns C)(hns:ns<=1000){Q:Exit->SS->Prop}
  (hno:∀h',(∃p∈sps C,fv l p.n p.d=none)->Ext h0 h'->∀v52 K,Q .ret ⟨[(5,.int .i64 6),(52,v52),(4,.pointer (some ⟨0,0,some 0⟩))],21,(0,[.int .i64 0,.int .i64 0,.int .i64 0]) :: K,h'⟩)
  (hok:∀h' a' c',(∀p∈sps C,fv l p.n p.d≠none)->Apd h' 3 a' ns c' ((vsF l C).flatMap Ck.cells)->From h0.next a'->Ext h0 h'->Q (.exit 0) ⟨[(4,.pointer (some ⟨0,0,some 0⟩)),(6,.slice a' ns c')],1,[(0,[.int .i64 0,.int .i64 0,.int .i64 0])],h'⟩) :
  ∀(m:Nat) (i:Int) (k:Nat) (h:AHeap) (a':Option Addr) (c':Nat),(ns-i).toNat<=m->0<=i->i<=ns->(k:Int)=i->(∀p∈(sps C).take i.toNat,fv l p.n p.d≠none)->Apd h 3 a' k c' (((vsF l C).take i.toNat).flatMap Ck.cells)->From h0.next a'->Ext h0 h->
   head 51 7 1 ⟨[(0,.slice a n c),(1,.slice sa ns sc),(4,.pointer (some ⟨0,0,some 0⟩)),(6,.slice a' k c'),(7,.int .i64 i)],1,[(0,[.int .i64 0,.int .i64 0,.int .i64 0])],h⟩ Q:=by
 have hlen:=hS.len;have hsl:=sps_len C;have hvl:=vsF_len l C;refine upTo (fun m ih=>?_);intro i k h a' c' hm i0 i1 hk hp hap hf he;by_cases ci:i<ns
 rotate_left
 ·obtain rfl:k=ns:=by omega
  refine hA.roundR Try.func51 r51_ok (zc ?_);refine br (i<k) (by rw[e_lss hA,e_ofNat hA]) (fun c1=>absurd c1 ci) (fun c1=>?_)<;>refine zc ?_;rw[List.take_of_length_le (by omega)]at hap;rw[List.take_of_length_le (by omega)]at hp;exact hok h a' c' hp hap hf he
 obtain⟨m,rfl⟩:∃k,m=k+1:=⟨m-1,by omega⟩
 replace ih:=ih m rfl
 obtain⟨h9,hh9⟩:∃z,z=bump h 20:=⟨_,rfl⟩;have eh9:Ext h h9:=by rw[hh9];exact ext_bump hA _ _
 have e9:Ext h0 h9:=he.trans eh9;obtain⟨M,hM⟩:∃M:Int,M=(i+1) % (ns:Int):=⟨_,rfl⟩;have M0:0<=M:=by rw[hM];exact Int.emod_nonneg _ (by omega)
 have M1:M<ns:=by rw[hM];exact Int.emod_lt_of_pos _ (by omega)
 have e2:arith .add .i64 i 1=i+1:=add64 hA (by omega) (by omega);have e3:arith .rem .i64 (i+1) (ofNat ns)=M:=by rw[e_ofNat hA,rem_tmod hA,hM,Int.tmod_eq_emod_of_nonneg (by omega)]
 obtain⟨bb,o,rfl,hbb,r1⟩:=(hS.ext e9).at (i:=i) i0 (by omega);obtain⟨_,_,hc',_,r2⟩:=(hS.ext e9).at (i:=M) M0 (by omega);cases hc';obtain⟨u,hu⟩:∃u,u=gt C i:=⟨_,rfl⟩;obtain⟨w,hw⟩:∃w,w=gt C M:=⟨_,rfl⟩;have p1:rd h9 bb (place o i 1) 1 [.int .i64 u]:=by rw[hu];exact rd_ok hA (r1 0 1 (by omega) (by omega))
 have p2:rd h9 bb (place o M 1) 1 [.int .i64 w]:=by rw[hw];exact rd_ok hA (r2 0 1 (by omega) (by omega))
 have hst:stepP C i=⟨u,w⟩:=by unfold stepP nxC;rw[hu,hw,hM,hlen]
 have hmem:(⟨u,w⟩:F2)∈sps C:=by rw[<-hst,<-gt_sps C i0 (by omega)];exact gt_mem _ i0 (by omega)
 refine hA.roundR Try.func51 r51_ok (zc ?_);refine br (i<ns) (by rw[e_lss hA,e_ofNat hA]) (fun c1=>?_) (fun c1=>absurd ci c1)<;>refine zc ?_;rw[<-hh9];refine zq ?_;refine⟨nz_ok hA (by rw[e_ofNat hA];omega),?_⟩;refine zc ?_;rw[e2,e3];refine zq ?_;refine got_ok hA (low_fresh hA h9) (hl.ext (e9.trans (ext_fresh hA h9))) hn hv (fun hz x y z r go xz=>?_);have gi:=go.is hv hd;refine⟨_,_,_,_,rfl,?_⟩;obtain⟨hX,hhX⟩:∃z,z=lowered h9 hz:=⟨_,rfl⟩;have lowh:=he.lowOK hlow0;have eX:Ext h hX:=by rw[hhX];exact ext_low hA lowh eh9 xz
 refine zq ?_;rw[<-hhX];refine br (r=false) (by rw[e_bnot hA];cases r<;>rfl) (fun c2=>?_) (fun c2=>?_)<;>refine zc ?_
 ·rcases gi with ⟨_,f0⟩|⟨rfl,_⟩
  ·exact hno hX ⟨_,hmem,f0⟩ (he.trans eX) _ _
  ·cases c2
 have f1:fv l u w=some ⟨x,y,z⟩:=by
  rcases gi with ⟨rfl,f0⟩|⟨_,f1⟩
  ·exact absurd rfl c2
  ·exact f1
 refine appR_ok hA TC2 ck_len (by omega) ck_ok (v:=⟨x,y,z⟩) (hap.ext eX) (by omega) (fun a2 c2' h4 hp2 hx=>?_);obtain⟨x4,hf4⟩:=hx h0 (he.trans eX) hf;refine zc ?_;rw[e2];refine ih (i+1) (k+1) h4 a2 c2' (by omega) (by omega) (by omega) (by omega) ?_ ?_ hf4 x4
 ·rw[gt_take (sps C) i0 (by omega),gt_sps C i0 (by omega),hst]
  intro p hp';rcases List.mem_append.1 hp' with z|z
  ·exact hp p z
  ·rw[List.mem_singleton.1 z,f1];exact fun q=>by cases q
 ·rw[gt_take (vsF l C) i0 (by omega)]
  have:gt (vsF l C) i=⟨x,y,z⟩:=by
   unfold vsF;rw[gt_map (vis1 l) (sps C) i0 (by omega),gt_sps C i0 (by omega),hst];unfold vis1;rw[f1];rfl
  rw[this];exact hp2
theorem rp_loop2{h0:AHeap}(hlow0:h0.low<=h0.next){sa:Option Addr}{ns sc:Nat}{V:List Ck}(hS:Cs h0 sa ns V)(hns:ns<=1000){Q:Exit->SS->Prop}
  (hz:∀h',(∃v∈V,v.nil)->Ext h0 h'->∀v68 K,Q .ret ⟨[(5,.int .i64 18),(68,v68),(4,.pointer (some ⟨0,0,some 0⟩))],1,(0,[.int .i64 0,.int .i64 0,.int .i64 0]) :: K,h'⟩)
  (hok:∀h',(∀v∈V,¬v.nil)->Ext h0 h'->Q (.exit 2) ⟨[(4,.pointer (some ⟨0,0,some 0⟩)),(6,.slice sa ns sc)],1,[(0,[.int .i64 0,.int .i64 0,.int .i64 0])],h'⟩) :
  ∀(m:Nat) (i:Int) (h:AHeap),(ns-i).toNat<=m->0<=i->i<=ns->(∀v∈V.take i.toNat,¬v.nil)->Ext h0 h->
   head 51 14 1 ⟨[(4,.pointer (some ⟨0,0,some 0⟩)),(6,.slice sa ns sc),(10,.int .i64 i)],1,[(0,[.int .i64 0,.int .i64 0,.int .i64 0])],h⟩ Q:=by
 have hlen:=hS.len;refine upTo (fun m ih=>?_);intro i h hm i0 i1 hp he;by_cases ci:i<ns
 rotate_left
 ·refine hA.roundR Try.func51 r51_ok (zc ?_)
  refine br (i<ns) (by rw[e_lss hA,e_ofNat hA]) (fun c1=>absurd c1 ci) (fun c1=>?_)<;>refine zc ?_;rw[List.take_of_length_le (by omega)]at hp;exact hok h hp he
 obtain⟨m,rfl⟩:∃k,m=k+1:=⟨m-1,by omega⟩
 replace ih:=ih m rfl
 obtain⟨bb,o,u,v,w,rfl,hbb,hgt,r1⟩:=cs_at (hS.ext he) (i:=i) i0 ci;have q1:=rd_ok hA r1;have e2:arith .add .i64 i 1=i+1:=add64 hA (by omega) (by omega);have htk:=gt_take V i0 (by omega);rw[hgt]at htk;have hmem:(⟨u,v,w⟩:Ck)∈V:=by rw[<-hgt];exact gt_mem V i0 (by omega)
 refine hA.roundR Try.func51 r51_ok (zc ?_);refine br (i<ns) (by rw[e_lss hA,e_ofNat hA]) (fun c1=>?_) (fun c1=>absurd ci c1)<;>refine zc ?_;refine zq ?_;refine rzero_ok hA (he.lowOK hlow0) (fun r hr=>⟨_,rfl,?_⟩);refine zc ?_;refine br (r=true) (by simp) (fun c2=>?_) (fun c2=>?_)<;>refine zc ?_
 ·exact hz h ⟨_,hmem,hr.1 c2⟩ he _ _
 rw[e2];refine ih (i+1) h (by omega) (by omega) (by omega) (fun x hx=>?_) he;rw[htk]at hx;rcases List.mem_append.1 hx with z|z
 ·exact hp x z
 ·rw[List.mem_singleton.1 z];exact fun q=>c2 (hr.2 q)
theorem rp_loop3{h0:AHeap}(hlow0:h0.low<=h0.next){sa:Option Addr}{ns sc:Nat}{V:List Ck}(hS:Cs h0 sa ns V)(hns:ns<=1000)(hk:∀v∈V,v.ok)(hz:∀v∈V,¬v.nil){R:Option Ck}{Q:Exit->SS->Prop}
  (hno:∀h',R=none->Ext h0 h'->∀v92 K,Q .ret ⟨[(5,.int .i64 16),(92,v92),(4,.pointer (some ⟨0,0,some 0⟩))],4,(0,[.int .i64 0,.int .i64 0,.int .i64 0]) :: K,h'⟩)
  (hok:∀h' q,R=some q->isRay q->Ext h0 h'->Q (.exit 4) ⟨[(4,.pointer (some ⟨0,0,some 0⟩)),(11,.pointer (some ⟨1,0,some 0⟩))],2,[(0,[.int .i64 0,.int .i64 0,.int .i64 0]),(1,[.int .i64 q.a,.int .i64 q.b,.int .i64 q.d])],h'⟩) :
  ∀(m:Nat) (i:Int) (p:Ck) (h:AHeap),(ns-i).toNat<=m->0<=i->i<=ns->isRay p->trnF p (V.drop i.toNat)=R->Ext h0 h->
   head 51 20 2 ⟨[(4,.pointer (some ⟨0,0,some 0⟩)),(6,.slice sa ns sc),(11,.pointer (some ⟨1,0,some 0⟩)),(12,.int .i64 i)],2,[(0,[.int .i64 0,.int .i64 0,.int .i64 0]),(1,[.int .i64 p.a,.int .i64 p.b,.int .i64 p.d])],h⟩ Q:=by
 have hlen:=hS.len;refine upTo (fun m ih=>?_);intro i p h hm i0 i1 hp hR he;by_cases ci:i<ns
 rotate_left
 ·refine hA.roundR Try.func51 r51_ok (zc ?_)
  refine br (i<ns) (by rw[e_lss hA,e_ofNat hA]) (fun c1=>absurd c1 ci) (fun c1=>?_)<;>refine zc ?_;rw[List.drop_eq_nil_of_le (by omega)]at hR;exact hok h p hR.symm hp he
 obtain⟨m,rfl⟩:∃k,m=k+1:=⟨m-1,by omega⟩
 replace ih:=ih m rfl
 obtain⟨bb,o,h1,h2,h3⟩:=(hS.ext he).at (i:=i) i0 (by omega);subst h1;obtain⟨v,hv⟩:∃v,v=gt V i:=⟨_,rfl⟩;have q1:rd h bb (place o i 3) 3 [.int .i64 v.a,.int .i64 v.b,.int .i64 v.d]:=by rw[hv];exact rd_ok hA (h3 0 3 (by omega) (by omega))
 have hmem:v∈V:=by rw[hv];exact gt_mem V i0 (by omega)
 have e2:arith .add .i64 i 1=i+1:=add64 hA (by omega) (by omega);have hdr:V.drop i.toNat=v :: V.drop (i+1).toNat:=by
  rw[show(i+1).toNat=i.toNat+1 by omega,hv];unfold gt;rw[List.getD_eq_getElem?_getD,List.getElem?_eq_getElem (by omega)];exact List.drop_eq_getElem_cons (by omega)
 rw[hdr]at hR;unfold trnF at hR;refine hA.roundR Try.func51 r51_ok (zc ?_);refine br (i<ns) (by rw[e_lss hA,e_ofNat hA]) (fun c1=>?_) (fun c1=>absurd ci c1)<;>refine zc ?_;refine zq ?_;have vz:=hz v hmem;have vk:=hk v hmem;refine rray_is hA (he.lowOK hlow0) vk vz (fun r h1 hr x1=>⟨_,_,_,_,rfl,?_⟩);refine zc ?_;have e1:=he.trans x1;rw[<-hr]at hR;have rr:isRay r:=by rw[hr];exact rayC_is vk vz
 refine rcmul_is hA (e1.lowOK hlow0) hp rr (fun h2 t x2=>⟨_,_,_,_,rfl,?_⟩) (fun k h2 hk' hkz t tr x2=>⟨_,_,_,_,rfl,?_⟩)
 ·refine zc ?_
  refine br True (by rw[e_neq hA];rfl) (fun _=>?_) (fun q=>absurd trivial q)<;>refine zc ?_;rw[t]at hR;exact hno h2 hR.symm (e1.trans x2) _ _
 ·refine zc ?_
  refine br False (by rw[e_neq hA];rfl) (fun q=>q.elim) (fun _=>?_)<;>refine zc ?_;have e12:=e1.trans x2;refine rray_is hA (e12.lowOK hlow0) hk' hkz (fun q h3 hq x3=>⟨_,_,_,_,rfl,?_⟩);refine zc ?_;rw[t,<-hq]at hR;rw[<-hq]at tr;rw[e2];exact ih (i+1) q h3 (by omega) (by omega) (by omega) tr hR (e12.trans x3)
theorem rPhase_ok{h:AHeap}(hlow:h.low<=h.next){a:Option Addr}{n c:Nat}{l:List Vk}(hl:Vs h a n l)(hn:n<=1000){sa:Option Addr}{ns sc:Nat}{C:List Int}(hS:Rows iC 1 h sa ns C)(hns:ns<=1000){Q:Value->AHeap->Prop}
  (hQ:∀h' p e,PhO l C p e->Ext h h'->Q (.tuple #[.agg #[.int .i64 p.a,.int .i64 p.b,.int .i64 p.d],.int .i64 e]) h') :
  call 51 [.slice a n c,.slice sa ns sc] h Q:=by
 have hlen:=hS.len;refine hA.bodyR Try.func51 r51_ok (hA.alike _ _ _ rfl) hlow (zc ?_);refine rclcheck_ok hA hlow hl hn (fun e h1 ke x1=>⟨_,rfl,?_⟩);refine zc ?_;refine br (e≠0) (by rw[e_neq hA]) (fun c1=>?_) (fun c1=>?_)<;>refine zc ?_
 ·refine rclcheck_ok hA (x1.lowOK hlow) (hl.ext x1) hn (fun e' h2 ke' x2=>⟨_,rfl,?_⟩)
  obtain rfl:=ke.uniq ke';refine zc ?_;exact hQ h2 zeC e (.bad c1 ke) (x1.trans x2)
 have e0:e=0:=by omega
 subst e0;obtain⟨k1,k2,k3⟩:=ke.ok0;refine rcircle_ok hA (x1.lowOK hlow) (hS.ext x1) hns (fun r h2 hr x2=>⟨_,rfl,?_⟩);have x12:=x1.trans x2;refine zc ?_;refine br (r=false) (by rw[e_bnot hA];cases r<;>rfl) (fun c4=>?_) (fun c4=>?_)<;>refine zc ?_
 ·exact hQ h2 zeC 2 (.arg ke (fun q=>by have:=hr.2 q;rw[c4]at this;cases this)) x12
 have hc:circle C:=hr.1 (by cases r with|true=>rfl|false=>exact absurd rfl c4);have hvl:=vsF_len l C;refine rp_loop1 hA (x12.lowOK hlow) (hl.ext x12) hn k2 k3 (hS.ext x12) hns (fun h3 q x3 v52 K=>?_) (fun h3 a3 c3' q hap hf x3=>?_) ns 0 0 h2 none 0 (by omega) (by omega) (by omega) rfl (by simp) (by simp;exact Apd.nil _ _) (From.none _) (.refl h2)
 ·refine zc ?_
  exact hQ h3 zeC 6 (.no ke hc q) (x12.trans x3)
 refine zc ?_;have x13:=x12.trans x3;have hC:Cs h3 a3 ns (vsF l C):=⟨hap.cells,ck_len,by omega⟩;refine rp_loop2 hA (x13.lowOK hlow) hC hns (fun h4 z x4 v68 K=>?_) (fun h4 z x4=>?_) ns 0 h3 (by omega) (by omega) (by omega) (by simp) (.refl h3)
 ·refine zc ?_
  exact hQ h4 zeC 18 (.zero ke hc q z) (x13.trans x4)
 refine zc ?_;have x14:=x13.trans x4;refine one_ok hA (x14.lowOK hlow) (fun h5 x5=>⟨_,_,_,rfl,?_⟩);refine zc ?_;have x15:=x14.trans x5;have vk:∀v∈vsF l C,v.ok:=vsF_ok k2 q;refine rp_loop3 hA (x15.lowOK hlow) (hC.ext (x4.trans x5)) hns vk z (R:=trnF oneC (vsF l C)) (fun h6 hn6 x6 v92 K=>?_) (fun h6 q6 hq hr6 x6=>?_) ns 0 oneC h5 (by omega) (by omega) (by omega) one_ray rfl (.refl h5)
 ·refine zc ?_
  exact hQ h6 zeC 16 (.range ke hc q z hn6) (x15.trans x6)
 ·refine zc ?_
  exact hQ h6 q6 0 (.ok ke hc q z hq) (x15.trans x6)
end Go.Proofs.Ytmkiclinllifiaa
namespace Go.Proofs.Ytmkiclinllifiaa
open Go.Sim
set_option maxRecDepth 100000
theorem fv_bas{l:List Vk}(hk:∀v∈l,okV v){x y:Int}:fv l x y≠none↔(⟨min x y,max x y⟩:F2)∈basP l:=by
 rw[(basP_is hk).mem];constructor
 ·intro h
  by_cases c:∃v∈l,(v.i=x/\v.j=y)\/(v.i=y/\v.j=x)
  ·obtain⟨v,hv,e⟩:=c
   have:=(hk v hv).2.1;refine⟨v,hv,?_⟩;unfold Vk.pr;rw[F2.mk.injEq];omega
  ·exact absurd (fv_none.2 (fun v hv=>⟨fun q=>c ⟨v,hv,.inl q⟩,fun q=>c ⟨v,hv,.inr q⟩⟩)) h
 ·rintro⟨v,hv,e⟩ h
  unfold Vk.pr at e;rw[F2.mk.injEq]at e;have h1:=(fv_none.1 h) v hv;omega
variable{F:Prims}{call head arith cmp scmp bnot bsame conv neg imax imin ofNat slen place inR nz geZ rd wr push next mkOK nat zeros sadd eqAgg cut slc sslc strAt part app cpy putAt fresh lowered bump wrote addN lt ne fpAll fpApp brk yn rng mget mput mnew bytes clr mrng ment:_}(hA:AP F ⟨call,head,arith,cmp,scmp,bnot,bsame,conv,neg,imax,imin,ofNat,slen,place,inR,nz,geZ,rd,wr,push,next,mkOK,nat,zeros,sadd,eqAgg,cut,slc,sslc,strAt,part,app,cpy,putAt,fresh,lowered,bump,wrote,addN,lt,ne,fpAll,fpApp,brk,yn,rng,mget,mput,mnew,bytes,clr,mrng,ment⟩)
include hA
theorem rc_loop1{h0:AHeap}(hlow0:h0.low<=h0.next){a:Option Addr}{n c:Nat}{l:List Vk}(hv:∀v∈l,okV v){sa:Option Addr}{ns sc:Nat}{C:List Int}(hS:Rows iC 1 h0 sa ns C)(hns:ns<=1000){pa:Option Addr}{np pc:Nat}(hP:Rows F2.cells 2 h0 pa np (basP l)){Q:Exit->SS->Prop}
  (hno:∀h',(∃p∈sps C,fv l p.n p.d=none)->Ext h0 h'->∀e kn K,Q .ret ⟨(5,.int .i64 6) :: (4,.slice none 0 0) :: e,kn,K,h'⟩)
  (hok:∀h',(∀p∈sps C,fv l p.n p.d≠none)->Ext h0 h'->Q (.exit 0) ⟨[(0,.slice a n c),(1,.slice sa ns sc)],0,[],h'⟩) :
  ∀(m:Nat) (i:Int) (h:AHeap),(ns-i).toNat<=m->0<=i->i<=ns->(∀p∈(sps C).take i.toNat,fv l p.n p.d≠none)->Ext h0 h->
   head 28 7 0 ⟨[(0,.slice a n c),(1,.slice sa ns sc),(6,.slice pa np pc),(7,.int .i64 i)],0,[],h⟩ Q:=by
 have hlen:=hS.len;have hsl:=sps_len C;have hbl:=basP_len l;have hpl:=hP.len;refine upTo (fun m ih=>?_);intro i h hm i0 i1 hp he;by_cases ci:i<ns
 rotate_left
 ·refine hA.roundR Try.func28 r28_ok (zc ?_)
  refine br (i<ns) (by rw[e_lss hA,e_ofNat hA]) (fun c1=>absurd c1 ci) (fun c1=>?_)<;>refine zc ?_;rw[List.take_of_length_le (by omega)]at hp;exact hok h hp he
 obtain⟨m,rfl⟩:∃k,m=k+1:=⟨m-1,by omega⟩
 replace ih:=ih m rfl
 obtain⟨h9,hh9⟩:∃z,z=bump h 14:=⟨_,rfl⟩;have eh9:Ext h h9:=by rw[hh9];exact ext_bump hA _ _
 have e9:Ext h0 h9:=he.trans eh9;obtain⟨M,hM⟩:∃M:Int,M=(i+1) % (ns:Int):=⟨_,rfl⟩;have M0:0<=M:=by rw[hM];exact Int.emod_nonneg _ (by omega)
 have M1:M<ns:=by rw[hM];exact Int.emod_lt_of_pos _ (by omega)
 have e2:arith .add .i64 i 1=i+1:=add64 hA (by omega) (by omega);have e3:arith .rem .i64 (i+1) (ofNat ns)=M:=by rw[e_ofNat hA,rem_tmod hA,hM,Int.tmod_eq_emod_of_nonneg (by omega)]
 obtain⟨bb,o,rfl,hbb,r1⟩:=(hS.ext e9).at (i:=i) i0 (by omega);obtain⟨_,_,hc',_,r2⟩:=(hS.ext e9).at (i:=M) M0 (by omega);cases hc';obtain⟨u,hu⟩:∃u,u=gt C i:=⟨_,rfl⟩;obtain⟨w,hw⟩:∃w,w=gt C M:=⟨_,rfl⟩;have p1:rd h9 bb (place o i 1) 1 [.int .i64 u]:=by rw[hu];exact rd_ok hA (r1 0 1 (by omega) (by omega))
 have p2:rd h9 bb (place o M 1) 1 [.int .i64 w]:=by rw[hw];exact rd_ok hA (r2 0 1 (by omega) (by omega))
 have hst:stepP C i=⟨u,w⟩:=by unfold stepP nxC;rw[hu,hw,hM,hlen]
 have hmem:(⟨u,w⟩:F2)∈sps C:=by rw[<-hst,<-gt_sps C i0 (by omega)];exact gt_mem _ i0 (by omega)
 refine hA.roundR Try.func28 r28_ok (zc ?_);refine br (i<ns) (by rw[e_lss hA,e_ofNat hA]) (fun c1=>?_) (fun c1=>absurd ci c1)<;>refine zc ?_;rw[<-hh9];refine zq ?_;refine⟨nz_ok hA (by rw[e_ofNat hA];omega),?_⟩;refine zc ?_;rw[e2,e3];refine zq ?_;obtain⟨x,hx⟩:∃x,x=min u w:=⟨_,rfl⟩;obtain⟨y,hy⟩:∃y,y=max u w:=⟨_,rfl⟩;rw[show imin u w=x by rw[e_imin hA,hx];split<;>omega,show imax u w=y by rw[e_imax hA,hy];split<;>omega];refine has_ok hA (e9.lowOK hlow0) (hP.ext e9) (by omega) (fun r h2 hr x2=>⟨_,rfl,?_⟩);have hb:=fv_bas (x:=u) (y:=w) hv;rw[<-hx,<-hy]at hb;refine zc ?_;refine br (r=false) (by rw[e_bnot hA];cases r<;>rfl) (fun c2=>?_) (fun c2=>?_)<;>refine zc ?_
 ·refine hno h2 ⟨_,hmem,?_⟩ (e9.trans x2) _ _ _
  cases hf:fv l u w with
  |none=>rfl
  |some k=>have:=hr.2 (hb.1 (by rw[hf];simp));rw[c2]at this;cases this
 rw[e2];refine ih (i+1) h2 (by omega) (by omega) (by omega) ?_ (e9.trans x2);rw[gt_take (sps C) i0 (by omega),gt_sps C i0 (by omega),hst];intro p hp';rcases List.mem_append.1 hp' with z|z
 ·exact hp p z
 ·rw[List.mem_singleton.1 z];exact hb.2 (hr.1 (by cases r with|true=>rfl|false=>exact absurd rfl c2))
theorem rc_loop2{h0:AHeap}(hlow0:h0.low<=h0.next){sa:Option Addr}{ns sc:Nat}{C:List Int}(hS:Rows iC 1 h0 sa ns C)(hns:ns<=1000){pa:Option Addr}{np pc:Nat}{P:List F2}(hP:Rows F2.cells 2 h0 pa np P)(hnp:np<=1000){Q:Exit->SS->Prop}
  (hQ:∀h' a' c',Apd h' 1 a' np c' ((P.map fun p=>steps C p.n p.d).flatMap iC)->Ext h0 h'->Q (.exit 2) ⟨[(11,.slice a' np c')],0,[],h'⟩) :
  ∀(m:Nat) (i:Int) (k:Nat) (h:AHeap) (a':Option Addr) (c':Nat),(np-i).toNat<=m->0<=i->i<=np->(k:Int)=i->Apd h 1 a' k c' (((P.map fun p=>steps C p.n p.d).take i.toNat).flatMap iC)->From h0.next a'->Ext h0 h->
   head 28 15 0 ⟨[(1,.slice sa ns sc),(10,.slice pa np pc),(11,.slice a' k c'),(12,.int .i64 i)],0,[],h⟩ Q:=by
 have hlen:=hP.len;refine upTo (fun m ih=>?_);intro i k h a' c' hm i0 i1 hk hap hf he;by_cases ci:i<np
 rotate_left
 ·obtain rfl:k=np:=by omega
  refine hA.roundR Try.func28 r28_ok (zc ?_);refine br (i<k) (by rw[e_lss hA,e_ofNat hA]) (fun c1=>absurd c1 ci) (fun c1=>?_)<;>refine zc ?_;rw[List.take_of_length_le (by rw[List.length_map];omega)]at hap;exact hQ h a' c' hap he
 obtain⟨m,rfl⟩:∃k,m=k+1:=⟨m-1,by omega⟩
 replace ih:=ih m rfl
 obtain⟨h9,hh9⟩:∃z,z=bump h 16:=⟨_,rfl⟩;have eh9:Ext h h9:=by rw[hh9];exact ext_bump hA _ _
 have e9:Ext h0 h9:=he.trans eh9;obtain⟨bb,o,x,y,rfl,hbb,hgt,r1,f0,f1⟩:=fr_at (hP.ext e9) (i:=i) i0 ci;obtain⟨_,_,_,_,ec,hb0,_⟩:=fr_at hP (i:=i) i0 ci;cases ec;have p1:rd h9 bb (addN (place o i 2) 0) 1 [.int .i64 x]:=rd_fld hA f0;have p2:rd h9 bb (addN (place o i 2) 1) 1 [.int .i64 y]:=rd_fld hA f1;have e2:arith .add .i64 i 1=i+1:=add64 hA (by omega) (by omega);have hen:=he.next;refine hA.roundR Try.func28 r28_ok (zc ?_);refine br (i<np) (by rw[e_lss hA,e_ofNat hA]) (fun c1=>?_) (fun c1=>absurd ci c1)<;>refine zc ?_;rw[<-hh9];refine zq ?_;refine steps_ok hA (low_fresh hA h9) (hS.ext (e9.trans (ext_fresh hA h9))) hns (fun hz xz=>⟨_,rfl,?_⟩);obtain⟨z,hz'⟩:∃z,z=steps C x y:=⟨_,rfl⟩;rw[<-hz'];obtain⟨hX,hhX⟩:∃z,z=lowered h9 hz:=⟨_,rfl⟩;have lowh:=he.lowOK hlow0;have eX:Ext h hX:=by rw[hhX];exact ext_low hA lowh eh9 xz
 refine zq ?_;rw[<-hhX];obtain⟨ia,hia⟩:∃z,z=addN (next h) 13:=⟨_,rfl⟩;have ia':ia=h.next+13:=by rw[hia,e_addN hA,e_next hA]
 rw[<-hia];have n9:h9.next=h.next+16:=by rw[hh9,e_bump hA];rfl
 have nX:h9.next<=hX.next:=by rw[hhX,e_lowered hA];show h9.next<=hz.next;have:=xz.next;rw[e_fresh hA]at this;exact this
 refine appKD_ok hA TI1 iC_len (by omega) iC_ok (v:=z) (by omega) (hap.ext eX) (fun ad had=>by have:=hap.lt ad had;omega) (by omega) (fun b2 h2 a2 nb2 n2 g2 y2=>?_);obtain⟨k',hk'⟩:∃z,z=k+1:=⟨_,rfl⟩;rw[<-hk']at a2 ⊢;generalize someCap 1 k'=c2 at *;simp only[show iC z=[.int .i64 z]from rfl]at a2 n2 g2 y2;refine zc ?_;obtain⟨Z,hZ⟩:∃q,q=lowered (putAt hX ia 1 [.int .i64 z]) h2:=⟨_,rfl⟩;rw[<-hZ]at a2 n2 g2 y2 ⊢;have eZ:=y2 h0 (he.trans eX) hlow0 (by omega) hf;rw[e2];refine ih (i+1) k' Z _ c2 (by omega) (by omega) (by omega) (by omega) ?_ (fun ad had=>by cases had;show h0.next<=b2;have:=eX.next;omega) eZ;rw[gt_take (P.map fun p=>steps C p.n p.d) i0 (by rw[List.length_map];omega),gt_map (fun p:F2=>steps C p.n p.d) P i0 (by omega),hgt];show Apd Z 1 _ k' c2 ((_++[steps C x y]).flatMap iC);rw[<-hz'];exact a2
theorem rCoefs_ok{h:AHeap}(hlow:h.low<=h.next){a:Option Addr}{n c:Nat}{l:List Vk}(hl:Vs h a n l)(hn:n<=1000){sa:Option Addr}{ns sc:Nat}{C:List Int}(hS:Rows iC 1 h sa ns C)(hns:ns<=1000){Q:Value->AHeap->Prop}
  (hQ:∀h' a' k c' x e,CoO l C x e->Rows iC 1 h' a' k x->k<=28->Ext h h'->Q (.tuple #[.slice a' k c',.int .i64 e]) h') :
  call 28 [.slice a n c,.slice sa ns sc] h Q:=by
 have hlen:=hS.len;refine hA.bodyR Try.func28 r28_ok (hA.alike _ _ _ rfl) hlow (zc ?_);refine rclcheck_ok hA hlow hl hn (fun e h1 ke x1=>⟨_,rfl,?_⟩);refine zc ?_;refine br (e≠0) (by rw[e_neq hA]) (fun c1=>?_) (fun c1=>?_)<;>refine zc ?_
 ·refine rclcheck_ok hA (x1.lowOK hlow) (hl.ext x1) hn (fun e' h2 ke' x2=>⟨_,rfl,?_⟩)
  obtain rfl:=ke.uniq ke';refine zc ?_;exact hQ h2 none 0 0 [] e (.bad c1 ke) (Rows.nil h2 iC_len (by omega)) (by omega) (x1.trans x2)
 have e0:e=0:=by omega
 subst e0;obtain⟨k1,k2,k3⟩:=ke.ok0;refine rcircle_ok hA (x1.lowOK hlow) (hS.ext x1) hns (fun r h2 hr x2=>⟨_,rfl,?_⟩);have x12:=x1.trans x2;refine zc ?_;refine br (r=false) (by rw[e_bnot hA];cases r<;>rfl) (fun c4=>?_) (fun c4=>?_)<;>refine zc ?_
 ·exact hQ h2 none 0 0 [] 2 (.arg ke (fun q=>by have:=hr.2 q;rw[c4]at this;cases this)) (Rows.nil h2 iC_len (by omega)) (by omega) x12
 have hc:circle C:=hr.1 (by cases r with|true=>rfl|false=>exact absurd rfl c4);refine pairs_ok hA (x12.lowOK hlow) (hl.ext x12) hn k3 (fun h3 pa np pc hP hf x3=>?_);refine⟨_,_,_,rfl,?_⟩;refine zc ?_;have x13:=x12.trans x3;refine rc_loop1 hA (x13.lowOK hlow) k2 (hS.ext x13) hns hP (fun h4 q x4 e kn K=>?_) (fun h4 q x4=>?_) ns 0 h3 (by omega) (by omega) (by omega) (by simp) (.refl h3)
 ·refine zc ?_
  exact hQ h4 none 0 0 [] 6 (.no ke hc q) (Rows.nil h4 iC_len (by omega)) (by omega) (x13.trans x4)
 refine zc ?_;have x14:=x13.trans x4;refine rchords_ok hA (x14.lowOK hlow) (hl.ext x14) k2 hn k3 (fun t h5 a5 n5 c5 pk hp hR hf5 x5=>?_);refine⟨_,_,_,rfl,?_⟩;refine zc ?_;have x15:=x14.trans x5;have cl:=chds_len t l;have hrl:=hR.len;refine rc_loop2 hA (x15.lowOK hlow) (hS.ext x15) hns hR (by omega) (fun h6 a6 c6 w1 x6=>?_) n5 0 0 h5 none 0 (by omega) (by omega) (by omega) rfl (by simp;exact Apd.nil _ _) (From.none _) (.refl h5);refine zc ?_;exact hQ h6 a6 n5 c6 _ 0 (.ok ke hc q hp) ⟨w1.cells,iC_len,by omega⟩ (by omega) (x15.trans x6)
