import Derived.Test.YtmkiclinllifiaaCyPh
import Derived.Test.YtmkiclinllifiaaCyK
import Derived.Test.YtmkiclinllifiaaSymApp2
import Derived.Test.YtmkiclinllifiaaSymSlc
import Derived.Test.YtmkiclinllifiaaCyE
set_option linter.unusedSimpArgs false
set_option linter.unusedVariables false
namespace Go.Proofs.Ytmkiclinllifiaa
open Go.Sim
set_option maxRecDepth 100000
theorem TC2:SliceT Try.prog 83 60 3:=⟨by kernel_rfl,by kernel_rfl,⟨24,by kernel_rfl,by omega⟩,⟨.agg #[.int .i64 0,.int .i64 0,.int .i64 0],by kernel_rfl,rfl⟩⟩
theorem TS2:SliceT Try.prog 91 92 2:=⟨by kernel_rfl,by kernel_rfl,⟨16,by kernel_rfl,by omega⟩,⟨.agg #[.int .i64 0,.int .i64 0],by kernel_rfl,rfl⟩⟩
variable{F:Prims}{call head arith cmp scmp bnot bsame conv neg imax imin ofNat slen place inR nz geZ rd wr push next mkOK nat zeros sadd eqAgg cut slc sslc strAt part app cpy putAt fresh lowered bump wrote addN lt ne fpAll fpApp brk yn rng mget mput mnew bytes clr mrng ment:_}(hA:AP F ⟨call,head,arith,cmp,scmp,bnot,bsame,conv,neg,imax,imin,ofNat,slen,place,inR,nz,geZ,rd,wr,push,next,mkOK,nat,zeros,sadd,eqAgg,cut,slc,sslc,strAt,part,app,cpy,putAt,fresh,lowered,bump,wrote,addN,lt,ne,fpAll,fpApp,brk,yn,rng,mget,mput,mnew,bytes,clr,mrng,ment⟩)
include hA
theorem cray_is{h:AHeap}(hlow:h.low<=h.next){k:Ck}(hk:k.ok)(hz:¬k.nil){Q:Value->AHeap->Prop}
  (hQ:∀r h',r=rayC k->Ext h h'->Q (.tuple #[.agg #[.int .i64 r.a,.int .i64 r.b,.int .i64 r.d],.int .i64 0]) h'):call 50 [.agg #[.int .i64 k.a,.int .i64 k.b,.int .i64 k.d]] h Q:=
 cray_ok hA hlow hk (fun q=>absurd q hz) (fun _ h' x=>hQ _ h' rfl x)
theorem cmul_is{h:AHeap}(hlow:h.low<=h.next){p r:Ck}(hp:isRay p)(hr:isRay r){Q:Value->AHeap->Prop}
  (hno:∀h',turnC p r=none->Ext h h'->Q (.tuple #[.agg #[.int .i64 0,.int .i64 0,.int .i64 0],.int .i64 16]) h')
  (hok:∀k h',k.ok->¬k.nil->turnC p r=some (rayC k)->isRay (rayC k)->Ext h h'->Q (.tuple #[.agg #[.int .i64 k.a,.int .i64 k.b,.int .i64 k.d],.int .i64 0]) h'):call 49 [.agg #[.int .i64 p.a,.int .i64 p.b,.int .i64 p.d],.agg #[.int .i64 r.a,.int .i64 r.b,.int .i64 r.d]] h Q:=by
 refine cmul_ok hA hlow (fun u v w e h' ho x=>?_);rcases mul_turn hp hr ho with ⟨c,rfl,rfl,rfl,rfl⟩|⟨c,rfl,rfl,rfl,rfl⟩
 ·have et:turnC p r=some (rayC ⟨mulR p r,mulI p r,1⟩):=by unfold turnC;rw[if_pos c]
  have hz:=mul_nz hp.nz hr.nz;refine hok ⟨mulR p r,mulI p r,1⟩ h' ?_ hz et (turn_is hp hr et) x;obtain⟨c1,c2,c3,c4⟩:=c;exact(okC_iff _ _ _).2 ⟨Int.le_refl 1,by show(1:Int)<=1000000000;omega,c1,c2,c3,c4,by simp⟩
 ·exact hno h' (by unfold turnC;rw[if_neg c]) x
theorem turned_ok{h:AHeap}(hlow:h.low<=h.next){p v:Ck}(hp:isRay p)(hv:v.ok)(hz:¬v.nil){Q:Value->AHeap->Prop}
  (hno:∀h',turnC p (rayC v)=none->Ext h h'->Q (.tuple #[.agg #[.int .i64 0,.int .i64 0,.int .i64 0],.int .i64 16]) h')
  (hok:∀q h',turnC p (rayC v)=some q->isRay q->Ext h h'->Q (.tuple #[.agg #[.int .i64 q.a,.int .i64 q.b,.int .i64 q.d],.int .i64 0]) h'):call 59 [.agg #[.int .i64 p.a,.int .i64 p.b,.int .i64 p.d],.agg #[.int .i64 v.a,.int .i64 v.b,.int .i64 v.d]] h Q:=by
 refine hA.bodyR Try.func59 r59_ok (hA.alike _ _ _ rfl) hlow (zc ?_);refine cray_is hA hlow hv hz (fun r h1 hr x1=>⟨_,_,_,_,rfl,?_⟩);refine zc ?_;rw[<-hr]at hno hok;have rr:isRay r:=by rw[hr];exact rayC_is hv hz
 refine br False (by rw[e_neq hA];rfl) (fun q=>q.elim) (fun _=>?_)<;>refine zc ?_;refine cmul_is hA (x1.lowOK hlow) hp rr (fun h2 t x2=>?_) (fun k h2 hk hkz t tr x2=>?_)
 ·refine⟨_,_,_,_,rfl,?_⟩
  refine zc ?_;refine br True (by rw[e_neq hA];rfl) (fun _=>?_) (fun q=>absurd trivial q)<;>refine zc ?_;exact hno h2 t (x1.trans x2)
 ·refine⟨_,_,_,_,rfl,?_⟩
  refine zc ?_;refine br False (by rw[e_neq hA];rfl) (fun q=>q.elim) (fun _=>?_)<;>refine zc ?_;have x12:=x1.trans x2;refine cray_is hA (x12.lowOK hlow) hk hkz (fun q h3 hq x3=>⟨_,_,_,_,rfl,?_⟩);refine zc ?_;rw[<-hq]at t tr;exact hok q h3 t tr (x12.trans x3)
theorem al_loop1{h0:AHeap}(hlow0:h0.low<=h0.next){a:Option Addr}{n c:Nat}{l:List Vk}(hl:Vs h0 a n l)(hn:n<=1000)(hv:∀v∈l,okV v)(hd:(l.map Vk.pr).Nodup){sa:Option Addr}{ns sc:Nat}{S:List F2}(hS:Rows F2.cells 2 h0 sa ns S)(hns:ns<=1000){N:Int}(hN:N=ns){Q:Exit->SS->Prop}
  (hno:∀h',(∃p∈S,fv l p.n p.d=none)->Ext h0 h'->∀e kn K,Q .ret ⟨(5,.int .i64 6) :: (4,.slice none 0 0) :: e,kn,K,h'⟩)
  (hok:∀h' a' c',(∀p∈S,fv l p.n p.d≠none)->Apd h' 3 a' ns c' ((S.map (vis1 l)).flatMap Ck.cells)->From h0.next a'->Ext h0 h'->Q (.exit 0) ⟨[(6,.slice a' ns c')],0,[],h'⟩) :
  ∀(m:Nat) (i:Int) (k:Nat) (h:AHeap) (a':Option Addr) (c':Nat),(ns-i).toNat<=m->0<=i->i<=ns->(k:Int)=i->(∀p∈S.take i.toNat,fv l p.n p.d≠none)->Apd h 3 a' k c' (((S.map (vis1 l)).take i.toNat).flatMap Ck.cells)->From h0.next a'->Ext h0 h->
   head 58 3 0 ⟨[(0,.slice a n c),(6,.slice a' k c'),(13,.slice sa ns sc),(14,.int .i64 N),(15,.int .i64 i)],0,[],h⟩ Q:=by
 have hlen:=hS.len;refine upTo (fun m ih=>?_);intro i k h a' c' hm i0 i1 hk hp hap hf he;by_cases ci:i<ns
 rotate_left
 ·obtain rfl:k=ns:=by omega
  refine hA.roundR Try.func58 r58_ok (zc ?_);refine br (i<N) (by rw[e_lss hA]) (fun c1=>by omega) (fun c1=>?_)<;>refine zc ?_;rw[List.take_of_length_le (by rw[List.length_map];omega)]at hap;rw[List.take_of_length_le (by omega)]at hp;exact hok h a' c' hp hap hf he
 obtain⟨m,rfl⟩:∃k,m=k+1:=⟨m-1,by omega⟩
 replace ih:=ih m rfl
 obtain⟨bb,o,x,y,rfl,hbb,hgt,r1,_⟩:=fr_at (hS.ext he) (i:=i) i0 ci;have q1:=rd_ok hA r1;have e2:arith .add .i64 i 1=i+1:=add64 hA (by omega) (by omega);have htk:=gt_take S i0 (by omega);rw[hgt]at htk;have hmem:(⟨x,y⟩:F2)∈S:=by rw[<-hgt];exact gt_mem S i0 (by omega)
 refine hA.roundR Try.func58 r58_ok (zc ?_);refine br (i<N) (by rw[e_lss hA]) (fun c1=>?_) (fun c1=>by omega)<;>refine zc ?_;refine zq ?_;simp only[e_next hA,e_push hA];have e1:=Ext.push h 2 [Value.int .i64 0,Value.int .i64 0];have o1:=Own.push h 2 [Value.int .i64 0,Value.int .i64 0];have n1:(h.push 2 [Value.int .i64 0,Value.int .i64 0]).next=h.next+1:=rfl;generalize h.push 2 [Value.int .i64 0,Value.int .i64 0]=h1 at *;obtain⟨b,hb⟩:∃v,v=h.next:=⟨_,rfl⟩;rw[<-hb]at o1 n1 ⊢;obtain⟨h2,w2,o2,k2⟩:=o1.write (o:=0) (vs:=[.int .i64 x,.int .i64 y]) (by simp);have o2':Own h2 b 2 [.int .i64 x,.int .i64 y]:=o2;have hen:=he.next;have x2:Ext h0 h2:=k2.ext (he.trans e1) (by omega);have xh2:Ext h h2:=k2.ext e1 (by omega);refine⟨h2,wr_at hA w2,?_⟩;have p0:rd h2 b (place 0 0 1) 1 [.int .i64 x]:=rd_ok hA (o2'.readG (o:=0) (n:=1) (by simp));have p1:rd h2 b (place 0 1 1) 1 [.int .i64 y]:=rd_ok hA (o2'.readG (o:=1) (n:=1) (by simp));refine zq ?_;refine cfind_ok hA (x2.lowOK hlow0) (hl.ext x2) hn hv (fun h3 u v w e fo x3=>?_);refine⟨_,_,_,_,rfl,?_⟩;have fi:=fo.is hv hd;refine zc ?_;refine br (e≠0) (by rw[e_neq hA]) (fun c2=>?_) (fun c2=>?_)<;>refine zc ?_
 ·rcases fi with ⟨rfl,f0⟩|⟨rfl,_⟩
  ·exact hno h3 ⟨_,hmem,f0⟩ (x2.trans x3) _ _ _
  ·exact absurd rfl c2
 have f1:fv l x y=some ⟨u,v,w⟩:=by
  rcases fi with ⟨rfl,f0⟩|⟨rfl,f1⟩
  ·exact absurd (by omega) c2
  ·exact f1
 have x23:=x2.trans x3;have xa:=xh2.trans x3;refine appR_ok hA TC2 ck_len (by omega) ck_ok (v:=⟨u,v,w⟩) (hap.ext xa) (by omega) (fun a2 c2' h4 hp2 hx=>?_);obtain⟨x4,hf4⟩:=hx h0 x23 hf;refine zc ?_;rw[e2];refine ih (i+1) (k+1) h4 a2 c2' (by omega) (by omega) (by omega) (by omega) ?_ ?_ hf4 x4
 ·rw[htk]
  intro p hp';rcases List.mem_append.1 hp' with z|z
  ·exact hp p z
  ·rw[List.mem_singleton.1 z,f1];exact fun q=>by cases q
 ·rw[gt_take (S.map (vis1 l)) i0 (by rw[List.length_map];omega),gt_map (vis1 l) S i0 (by omega),hgt]
  have:vis1 l ⟨x,y⟩=⟨u,v,w⟩:=by unfold vis1;rw[f1];rfl
  rw[this];exact hp2
theorem al_loop2{h0:AHeap}(hlow0:h0.low<=h0.next){a:Option Addr}{n c:Nat}{V:List Ck}(hl:Cs h0 a n V)(hn:n<=1000){N:Int}(hN:N=n){Q:Exit->SS->Prop}
  (hz:∀h',(∃v∈V,v.nil)->Ext h0 h'->∀e kn K,Q .ret ⟨(5,.int .i64 18) :: (4,.slice none 0 0) :: e,kn,K,h'⟩)
  (hok:∀h',(∀v∈V,¬v.nil)->Ext h0 h'->Q (.exit 2) ⟨[(6,.slice a n c)],0,[],h'⟩) :
  ∀(m:Nat) (i:Int) (h:AHeap),(n-i).toNat<=m->0<=i->i<=n->(∀v∈V.take i.toNat,¬v.nil)->Ext h0 h->
   head 58 11 0 ⟨[(6,.slice a n c),(36,.slice a n c),(37,.int .i64 N),(38,.int .i64 i)],0,[],h⟩ Q:=by
 have hlen:=hl.len;refine upTo (fun m ih=>?_);intro i h hm i0 i1 hp he;by_cases ci:i<n
 rotate_left
 ·refine hA.roundR Try.func58 r58_ok (zc ?_)
  refine br (i<N) (by rw[e_lss hA]) (fun c1=>by omega) (fun c1=>?_)<;>refine zc ?_;rw[List.take_of_length_le (by omega)]at hp;exact hok h hp he
 obtain⟨m,rfl⟩:∃k,m=k+1:=⟨m-1,by omega⟩
 replace ih:=ih m rfl
 obtain⟨bb,o,u,v,w,rfl,hbb,hgt,r1⟩:=cs_at (hl.ext he) (i:=i) i0 ci;have q1:=rd_ok hA r1;have e2:arith .add .i64 i 1=i+1:=add64 hA (by omega) (by omega);have htk:=gt_take V i0 (by omega);rw[hgt]at htk;have hmem:(⟨u,v,w⟩:Ck)∈V:=by rw[<-hgt];exact gt_mem V i0 (by omega)
 refine hA.roundR Try.func58 r58_ok (zc ?_);refine br (i<N) (by rw[e_lss hA]) (fun c1=>?_) (fun c1=>by omega)<;>refine zc ?_;refine zq ?_;have nxt:¬(u=0/\v=0)->∀x∈V.take (i+1).toNat,¬x.nil:=fun g x hx=>by
  rw[htk]at hx;rcases List.mem_append.1 hx with z|z
  ·exact hp x z
  ·rw[List.mem_singleton.1 z];exact g
 refine br (u=0) (by rw[e_eql hA]) (fun c2=>?_) (fun c2=>?_)<;>refine zc ?_
 ·refine br (v=0) (by rw[e_eql hA]) (fun c3=>?_) (fun c3=>?_)<;>refine zc ?_
  ·exact hz h ⟨_,hmem,c2,c3⟩ he _ _ _
  ·rw[e2]
   exact ih (i+1) h (by omega) (by omega) (by omega) (nxt (fun q=>c3 q.2)) he
 ·rw[e2]
  exact ih (i+1) h (by omega) (by omega) (by omega) (nxt (fun q=>c2 q.1)) he
theorem along_ok{h:AHeap}(hlow:h.low<=h.next){a:Option Addr}{n c:Nat}{l:List Vk}(hl:Vs h a n l)(hn:n<=1000)(hv:∀v∈l,okV v)(hd:(l.map Vk.pr).Nodup){sa:Option Addr}{ns sc:Nat}{S:List F2}(hS:Rows F2.cells 2 h sa ns S)(hns:ns<=1000){Q:Value->AHeap->Prop}
  (hno:∀h',(∃p∈S,fv l p.n p.d=none)->Ext h h'->Q (.tuple #[.slice none 0 0,.int .i64 6]) h')
  (hz:∀h',(∀p∈S,fv l p.n p.d≠none)->(∃v∈S.map (vis1 l),v.nil)->Ext h h'->Q (.tuple #[.slice none 0 0,.int .i64 18]) h')
  (hok:∀h' a' c',(∀p∈S,fv l p.n p.d≠none)->(∀v∈S.map (vis1 l),¬v.nil)->Apd h' 3 a' ns c' ((S.map (vis1 l)).flatMap Ck.cells)->Cs h' a' ns (S.map (vis1 l))->Ext h h'->Q (.tuple #[.slice a' ns c',.int .i64 0]) h') :
  call 58 [.slice a n c,.slice sa ns sc] h Q:=by
 refine hA.bodyR Try.func58 r58_ok (hA.alike _ _ _ rfl) hlow (zc ?_);refine al_loop1 hA hlow hl hn hv hd hS hns (e_ofNat hA ns) (fun h1 q x e kn K=>?_) (fun h1 a' c' q1 q2 q3 x=>?_) ns 0 0 h none 0 (by omega) (by omega) (by omega) rfl (by simp) (by simp;exact Apd.nil _ _) (From.none _) (.refl h)
 ·refine zc ?_
  exact hno h1 q x
 refine zc ?_;have hC:Cs h1 a' ns (S.map (vis1 l)):=⟨q2.cells,ck_len,by omega⟩;refine al_loop2 hA (x.lowOK hlow) hC hns (e_ofNat hA ns) (fun h2 z x2 e kn K=>?_) (fun h2 z x2=>?_) ns 0 h1 (by omega) (by omega) (by omega) (by simp) (.refl h1)
 ·refine zc ?_
  exact hz h2 q1 z (x.trans x2)
 ·refine zc ?_
  exact hok h2 a' c' q1 z (q2.ext x2) (hC.ext x2) (x.trans x2)
end Go.Proofs.Ytmkiclinllifiaa
namespace Go.Sim
theorem Cells.part{h:AHeap}{a:Option Addr}{n es:Nat}{cells:List Value}(c:Cells h a n es cells){i m:Nat}(hi:i+m<=n):Cells h (a.map (aadd · (i*es))) m es ((cells.drop (i*es)).take (m*es)):=by
 have hlen:=c.length;have hm:i*es+m*es<=n*es:=by rw[<-Nat.add_mul];exact Nat.mul_le_mul_right es hi
 cases a with
 |none=>
  obtain⟨rfl,rfl⟩:=c;exact⟨by omega,by simp⟩
 |some ad=>
  obtain⟨h1,h2,h3⟩:=c;obtain⟨b,o,sp⟩:=ad;simp only at h1;subst h1;refine⟨rfl,h2,?_⟩;unfold AHeap.readG aadd at *;simp only[]at h3 ⊢;split at h3
  ·rename_i cs hcs
   obtain⟨e1,e2⟩:=readN_eq h3;refine readN_some ?_ ?_
   ·subst e1
    rw[List.drop_take,List.take_take,List.drop_drop,Nat.min_eq_left (by omega)]
   ·simp only[List.length_take,List.length_drop];omega
  ·cases h3
theorem flat_takeN{α:Type}{enc:α->List Value}{es:Nat}(he:∀x,(enc x).length=es)(l:List α)(k:Nat):(l.flatMap enc).take (k*es)=(l.take k).flatMap enc:=by
 induction l generalizing k with
 |nil=>simp
 |cons x l ih=>
  cases k with
  |zero=>simp
  |succ k=>rw[List.flatMap_cons,List.take_succ_cons,List.flatMap_cons,List.take_append,he,List.take_of_length_le (by rw[he,Nat.succ_mul];omega),show(k+1)*es-es=k*es by rw[Nat.succ_mul];omega,ih]
theorem flat_dropN{α:Type}{enc:α->List Value}{es:Nat}(he:∀x,(enc x).length=es)(l:List α)(k:Nat):(l.flatMap enc).drop (k*es)=(l.drop k).flatMap enc:=by
 induction l generalizing k with
 |nil=>simp
 |cons x l ih=>
  cases k with
  |zero=>simp
  |succ k=>rw[List.flatMap_cons,List.drop_succ_cons,List.drop_append,he,List.drop_of_length_le (by rw[he,Nat.succ_mul];omega),show(k+1)*es-es=k*es by rw[Nat.succ_mul];omega,ih,List.nil_append]
end Go.Sim
namespace Go.Proofs.Ytmkiclinllifiaa
open Go.Sim
set_option maxRecDepth 100000
theorem basP_len(l:List Vk):(basP l).length<=28:=by
 have:=List.length_filter_le (fun p=>decide (p∈l.map Vk.pr)) allP;rw[allP_is]at this;unfold basP;rw[allP_is];simpa using this
variable{F:Prims}{call head arith cmp scmp bnot bsame conv neg imax imin ofNat slen place inR nz geZ rd wr push next mkOK nat zeros sadd eqAgg cut slc sslc strAt part app cpy putAt fresh lowered bump wrote addN lt ne fpAll fpApp brk yn rng mget mput mnew bytes clr mrng ment:_}(hA:AP F ⟨call,head,arith,cmp,scmp,bnot,bsame,conv,neg,imax,imin,ofNat,slen,place,inR,nz,geZ,rd,wr,push,next,mkOK,nat,zeros,sadd,eqAgg,cut,slc,sslc,strAt,part,app,cpy,putAt,fresh,lowered,bump,wrote,addN,lt,ne,fpAll,fpApp,brk,yn,rng,mget,mput,mnew,bytes,clr,mrng,ment⟩)
include hA
end Go.Proofs.Ytmkiclinllifiaa
namespace Go.Proofs.Ytmkiclinllifiaa
open Go.Sim
set_option maxRecDepth 100000
variable{F:Prims}{call head arith cmp scmp bnot bsame conv neg imax imin ofNat slen place inR nz geZ rd wr push next mkOK nat zeros sadd eqAgg cut slc sslc strAt part app cpy putAt fresh lowered bump wrote addN lt ne fpAll fpApp brk yn rng mget mput mnew bytes clr mrng ment:_}(hA:AP F ⟨call,head,arith,cmp,scmp,bnot,bsame,conv,neg,imax,imin,ofNat,slen,place,inR,nz,geZ,rd,wr,push,next,mkOK,nat,zeros,sadd,eqAgg,cut,slc,sslc,strAt,part,app,cpy,putAt,fresh,lowered,bump,wrote,addN,lt,ne,fpAll,fpApp,brk,yn,rng,mget,mput,mnew,bytes,clr,mrng,ment⟩)
include hA
theorem wrote_no{X h':AHeap}(e:Ext (fresh X) h'):wrote X h'=false:=by
 rw[e_wrote hA];have h1:=e.lowG;rw[e_fresh hA]at h1;exact blt_false (by
  have:min X.next X.next<=h'.low:=h1;omega)
end Go.Proofs.Ytmkiclinllifiaa
namespace Go.Proofs.Ytmkiclinllifiaa
open Go.Sim
set_option maxRecDepth 100000
inductive AnsG{β:Type}(l:List Vk)(f:List F2->Int->β)(z:β):β->Int->Prop
 |bad {e:Int} (h0:e≠0) (h:CkR l e):AnsG l f z z e
 |ok {t:List F2} {pk:Int} (h:CkR l 0) (hp:Parts (basP l) (stS l) (fun _=>false) [] 0 t pk):AnsG l f z (f t pk) 0
theorem AnsG.uniq{β:Type}{l:List Vk}{f:List F2->Int->β}{z x y:β}{e e':Int}(h:AnsG l f z x e)(k:AnsG l f z y e'):x=y/\e=e':=by
 cases h with
 |bad h0 h=>cases k with
  |bad _ k=>exact⟨rfl,h.uniq k⟩
  |ok k _=>exact absurd (h.uniq k) h0
 |ok h hp=>cases k with
  |bad h0 k=>exact absurd (k.uniq h) h0
  |ok k kp=>
   obtain⟨rfl,rfl⟩:=hp.uniq kp;exact⟨rfl,rfl⟩
inductive WayO(l:List Vk)(x y:Int):List Int->Int->Prop
 |bad {e:Int} (h0:e≠0) (h:CkR l e):WayO l x y [] e
 |arg (h:CkR l 0) (h1:¬(stS l x/\stS l y)):WayO l x y [] 2
 |no {t:List F2} {pk:Int} (h:CkR l 0) (h1:stS l x) (h2:stS l y) (hp:Parts (basP l) (stS l) (fun _=>false) [] 0 t pk) (hw:pathR (trT t) x y=none):WayO l x y [] 6
 |ok {t:List F2} {pk:Int} {p:List Int} (h:CkR l 0) (h1:stS l x) (h2:stS l y) (hp:Parts (basP l) (stS l) (fun _=>false) [] 0 t pk) (hw:pathR (trT t) x y=some p):WayO l x y p 0
theorem WayO.uniq{l:List Vk}{x y:Int}{p q:List Int}{e e':Int}(h:WayO l x y p e)(k:WayO l x y q e'):p=q/\e=e':=by
 cases h with
 |bad h0 h=>cases k with
  |bad _ k=>exact⟨rfl,h.uniq k⟩
  |arg k _=>exact absurd (h.uniq k) h0
  |no k=>exact absurd (h.uniq k) h0
  |ok k=>exact absurd (h.uniq k) h0
 |arg h h1=>cases k with
  |bad h0 k=>exact absurd (k.uniq h) h0
  |arg _ _=>exact⟨rfl,rfl⟩
  |no _ k1 k2=>exact absurd ⟨k1,k2⟩ h1
  |ok _ k1 k2=>exact absurd ⟨k1,k2⟩ h1
 |no h h1 h2 hp hw=>cases k with
  |bad h0 k=>exact absurd (k.uniq h) h0
  |arg _ k1=>exact absurd ⟨h1,h2⟩ k1
  |no _ _ _ _ _=>exact⟨rfl,rfl⟩
  |ok _ _ _ kp kw=>
   obtain⟨rfl,rfl⟩:=hp.uniq kp;rw[hw]at kw;cases kw
 |ok h h1 h2 hp hw=>cases k with
  |bad h0 k=>exact absurd (k.uniq h) h0
  |arg _ k1=>exact absurd ⟨h1,h2⟩ k1
  |no _ _ _ kp kw=>
   obtain⟨rfl,rfl⟩:=hp.uniq kp;rw[hw]at kw;cases kw
  |ok _ _ _ kp kw=>
   obtain⟨rfl,rfl⟩:=hp.uniq kp;rw[hw]at kw;exact⟨Option.some.inj kw,rfl⟩
abbrev TreeO(l:List Vk):List F2×Int->Int->Prop:=AnsG l (fun t pk=>(t,pk)) ([],0)
abbrev ChdO(l:List Vk):List F2->Int->Prop:=AnsG l (fun t _=>chds t (basP l)) []
abbrev BasO(l:List Vk):List (List Int)->Int->Prop:=AnsG l (fun t _=>(chds t (basP l)).map (circF t)) []
theorem grr_nil(h:AHeap):GrR iC 1 h none 0 [] []:=⟨Rows.nil h hd_len (by omega),rfl,fun y y0 y1=>by omega⟩
theorem circ_len{l:List Vk}{t:List F2}{pk:Int}(h:CkR l 0)(hp:Parts (basP l) (stS l) (fun _=>false) [] 0 t pk)(ht:t.length<=8):∀r∈(chds t (basP l)).map (circF t),r.length<=1000:=by
 intro r hr;obtain⟨p,hp',rfl⟩:=List.mem_map.1 hr;unfold circF;obtain⟨k1,k2,k3⟩:=h.ok0;obtain⟨⟨w,hw⟩,_⟩:=chds_ok (okV.st k2) (okV.lt k2) (basP_is k2) hp p hp';have wl:=path_len (parts_grows hp) hw;have htl:(trT t).length=t.length:=by unfold trT;simp
 simp only[hw,Option.getD_some,List.length_cons,List.length_dropLast];omega
variable{F:Prims}{call head arith cmp scmp bnot bsame conv neg imax imin ofNat slen place inR nz geZ rd wr push next mkOK nat zeros sadd eqAgg cut slc sslc strAt part app cpy putAt fresh lowered bump wrote addN lt ne fpAll fpApp brk yn rng mget mput mnew bytes clr mrng ment:_}(hA:AP F ⟨call,head,arith,cmp,scmp,bnot,bsame,conv,neg,imax,imin,ofNat,slen,place,inR,nz,geZ,rd,wr,push,next,mkOK,nat,zeros,sadd,eqAgg,cut,slc,sslc,strAt,part,app,cpy,putAt,fresh,lowered,bump,wrote,addN,lt,ne,fpAll,fpApp,brk,yn,rng,mget,mput,mnew,bytes,clr,mrng,ment⟩)
include hA
theorem tree_a(hW:LW F){h:AHeap}(hlow:h.low<=h.next){a:Option Addr}{n c:Nat}{l:List Vk}(hl:Vs h a n l)(hn:n<=1000){Q:Value->AHeap->Prop}
  (hQ:∀t pk e h' a' k c',TreeO l (t,pk) e->Rows F2.cells 2 h' a' k t->k<=1000->Ext h h'->Q (.tuple #[.slice a' k c',.int .i64 pk,.int .i64 e]) h'):call 10 [.slice a n c] h Q:=
 tree_ok hA hW hlow hl hn (fun e h' e0 ke x=>hQ [] 0 e h' none 0 0 (.bad e0 ke) (Rows.nil h' f2_len (by omega)) (by omega) x) (fun t pk h' a' k c' ke q r s f x=>hQ t pk 0 h' a' k c' (.ok ke q) r (by have:=r.len;omega) x)
theorem chds_a(hW:LW F){h:AHeap}(hlow:h.low<=h.next){a:Option Addr}{n c:Nat}{l:List Vk}(hl:Vs h a n l)(hn:n<=1000){Q:Value->AHeap->Prop}
  (hQ:∀C e h' a' k c',ChdO l C e->Rows F2.cells 2 h' a' k C->k<=1000->Ext h h'->Q (.tuple #[.slice a' k c',.int .i64 e]) h'):call 12 [.slice a n c] h Q:=
 Chords_ok hA hW hlow hl hn (fun e h' e0 ke x=>hQ [] e h' none 0 0 (.bad e0 ke) (Rows.nil h' f2_len (by omega)) (by omega) x) (fun t pk h' a' k c' ke q r f x=>hQ _ 0 h' a' k c' (.ok ke q) r (by
  have h5:=r.len;have h6:=List.length_filter_le (fun p=>decide (p∉t)) (basP l);have:=basP_len l;unfold chds at h5;omega) x)
theorem bas_a(hW:LW F){h:AHeap}(hlow:h.low<=h.next){a:Option Addr}{n c:Nat}{l:List Vk}(hl:Vs h a n l)(hn:n<=1000){Q:Value->AHeap->Prop}
  (hQ:∀g e h' a' k c' hs,BasO l g e->GrR iC 1 h' a' k hs g->k<=1000->(∀r∈g,r.length<=1000)->Ext h h'->Q (.tuple #[.slice a' k c',.int .i64 e]) h'):call 14 [.slice a n c] h Q:=
 Basis_ok hA hW hlow hl hn (fun e h' e0 ke x=>hQ [] e h' none 0 0 [] (.bad e0 ke) (grr_nil h') (by omega) (fun r hr=>by cases hr) x) (fun t pk h' a' k c' hs' ke q s r f x=>hQ _ 0 h' a' k c' hs' (.ok ke q) r (by
  have h5:=r.len;have h6:=List.length_filter_le (fun p=>decide (p∉t)) (basP l);have:=basP_len l;rw[List.length_map]at h5;unfold chds at h5;omega) (circ_len ke q s) x)
theorem way_a(hW:LW F){h:AHeap}(hlow:h.low<=h.next){a:Option Addr}{n c:Nat}{l:List Vk}(hl:Vs h a n l)(hn:n<=1000){x y:Int}{Q:Value->AHeap->Prop}
  (hQ:∀p e h' a' k c',WayO l x y p e->Rows iC 1 h' a' k p->k<=1000->Ext h h'->Q (.tuple #[.slice a' k c',.int .i64 e]) h'):call 16 [.slice a n c,.int .i64 x,.int .i64 y] h Q:=
 Way_ok hA hW hlow hl hn (fun e h' e0 ke x'=>hQ [] e h' none 0 0 (.bad e0 ke) (Rows.nil h' iC_len (by omega)) (by omega) x') (fun h' ke hn' x'=>hQ [] 2 h' none 0 0 (.arg ke hn') (Rows.nil h' iC_len (by omega)) (by omega) x')
  (fun t pk h' ke s1 s2 q hp x'=>hQ [] 6 h' none 0 0 (.no ke s1 s2 q hp) (Rows.nil h' iC_len (by omega)) (by omega) x') (fun t pk h' a' c' p ke s1 s2 q ht hp r f x'=>hQ p 0 h' a' p.length c' (.ok ke s1 s2 q hp) r (by
   have wl:=path_len (parts_grows q) hp;have htl:(trT t).length=t.length:=by unfold trT;simp
   omega) x')
