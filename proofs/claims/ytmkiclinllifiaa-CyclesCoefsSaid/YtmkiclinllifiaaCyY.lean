import Derived.Test.YtmkiclinllifiaaCyK
import Derived.Test.YtmkiclinllifiaaCxR
set_option linter.unusedSimpArgs false
set_option linter.unusedVariables false
namespace Go.Proofs.Ytmkiclinllifiaa
open Go.Sim
set_option maxRecDepth 100000
def okV(v:Vk):Prop:=0<=v.i/\v.i<v.j/\v.j<8/\0<=v.n/\okC v.re v.im v.den
inductive CkR(l:List Vk):Int->Prop
 |many (h:64<l.length):CkR l 4
 |bad (h:l.length<=64) (v:Vk) (hv:v∈l) (hb:¬okV v):CkR l 8
 |twice (h:l.length<=64) (h1:∀v∈l,okV v) (h2:¬(l.map Vk.pr).Nodup):CkR l 14
 |ok (h:l.length<=64) (h1:∀v∈l,okV v) (h2:(l.map Vk.pr).Nodup):CkR l 0
theorem CkR.uniq{l:List Vk}{e f:Int}(h:CkR l e)(k:CkR l f):e=f:=by
 cases h with
 |many h=>cases k with
  |many _=>rfl
  |bad h'=>omega
  |twice h'=>omega
  |ok h'=>omega
 |bad h v hv hb=>cases k with
  |many _=>omega
  |bad h'=>rfl
  |twice _ h1=>exact absurd (h1 v hv) hb
  |ok _ h1=>exact absurd (h1 v hv) hb
 |twice h h1 h2=>cases k with
  |many _=>omega
  |bad _ v hv hb=>exact absurd (h1 v hv) hb
  |twice _ _ _=>rfl
  |ok _ _ h3=>exact absurd h3 h2
 |ok h h1 h2=>cases k with
  |many _=>omega
  |bad _ v hv hb=>exact absurd (h1 v hv) hb
  |twice _ _ h3=>exact absurd h2 h3
  |ok _ _ _=>rfl
theorem CkR.ok0{l:List Vk}(h:CkR l 0):l.length<=64/\(∀v∈l,okV v)/\(l.map Vk.pr).Nodup:=by
 cases h with
 |ok h h1 h2=>exact⟨h,h1,h2⟩
theorem okV.st{l:List Vk}(h:∀v∈l,okV v):stOK l:=fun i i0 i1=>by
 obtain⟨h1,h2,h3,_⟩:=h _ (gt_mem l i0 i1);exact okP_of h1 (by omega) (by omega) h3
theorem okV.lt{l:List Vk}(h:∀v∈l,okV v):∀v∈l,v.i<v.j:=fun v hv=>(h v hv).2.1
theorem setB{h:AHeap}{b es:Nat}{l:List Bool}(c:Own h b es (l.map Value.bool)){i:Nat}(hi:i<l.length)(x:Bool):∃h',h.write b i [.bool x]=some h'/\Own h' b es ((l.set i x).map Value.bool)/\Wrote h h' b:=by
 obtain⟨h',h1,h2,h3⟩:=c.write (o:=i) (vs:=[.bool x]) (by simp;omega);refine⟨h',h1,?_,h3⟩;rw[List.map_set,<-set_take_drop _ _ _ (by simpa using hi)];exact h2
theorem getB{h:AHeap}{b es:Nat}{l:List Bool}(c:Own h b es (l.map Value.bool)){i:Nat}(hi:i<l.length):h.readG ⟨b,i,none⟩ 1=some [.bool (l.getD i false)]:=by
 rw[c.readG (o:=i) (n:=1) (by simp;omega)];rw[<-List.map_drop,<-List.map_take,List.drop_eq_getElem_cons hi,List.take_succ_cons,List.take_zero];simp[List.getElem?_eq_getElem hi]
variable{F:Prims}{call head arith cmp scmp bnot bsame conv neg imax imin ofNat slen place inR nz geZ rd wr push next mkOK nat zeros sadd eqAgg cut slc sslc strAt part app cpy putAt fresh lowered bump wrote addN lt ne fpAll fpApp brk yn rng mget mput mnew bytes clr mrng ment:_}(hA:AP F ⟨call,head,arith,cmp,scmp,bnot,bsame,conv,neg,imax,imin,ofNat,slen,place,inR,nz,geZ,rd,wr,push,next,mkOK,nat,zeros,sadd,eqAgg,cut,slc,sslc,strAt,part,app,cpy,putAt,fresh,lowered,bump,wrote,addN,lt,ne,fpAll,fpApp,brk,yn,rng,mget,mput,mnew,bytes,clr,mrng,ment⟩)
include hA
theorem station_ok{h:AHeap}(hlow:h.low<=h.next){x:Int}{Q:Value->AHeap->Prop}(hQ:∀r:Bool,(r=true↔0<=x/\x<8)->Q (.bool r) h):call 61 [.int .i64 x] h Q:=by
 refine hA.bodyR Try.func61 r61_ok (hA.alike _ _ _ rfl) hlow (zc ?_);refine br (0<=x) (by rw[e_geq hA]) (fun c=>?_) (fun c=>?_)<;>refine zc ?_
 ·rw[e_lss hA]
  exact hQ _ (by simp;omega)
 ·exact hQ _ (by simp;omega)
theorem ck_loop1{h0:AHeap}(hlow0:h0.low<=h0.next){a:Option Addr}{n c:Nat}{N:Int}(hN:N=n){l:List Vk}(hl:Vs h0 a n l)(hn:n<=1000){Q:Exit->SS->Prop}
  (hbad:∀h' v,v∈l->¬okV v->Ext h0 h'->∀e kn K,Q .ret ⟨(2,.int .i64 8) :: e,kn,K,h'⟩)
  (hok:∀h',(∀v∈l,okV v)->Ext h0 h'->Q (.exit 0) ⟨[(0,.slice a n c)],0,[],h'⟩) :
  ∀(m:Nat) (i:Int) (h:AHeap),(n-i).toNat<=m->0<=i->i<=n->(∀v∈l.take i.toNat,okV v)->Ext h0 h->
   head 35 4 0 ⟨[(0,.slice a n c),(11,.slice a n c),(12,.int .i64 N),(13,.int .i64 i)],0,[],h⟩ Q:=by
 have hlen:=hl.len;refine upTo (fun m ih=>?_);intro i h hm i0 i1 hv he;by_cases ci:i<n
 rotate_left
 ·refine hA.roundR Try.func35 r35_ok (zc ?_)
  refine br (i<N) (by rw[e_lss hA]) (fun c1=>by omega) (fun c1=>?_)<;>refine zc ?_;rw[List.take_of_length_le (by omega)]at hv;exact hok h hv he
 obtain⟨m,rfl⟩:∃k,m=k+1:=⟨m-1,by omega⟩
 replace ih:=ih m rfl
 obtain⟨bb,o,x,y,re,im,d,w,rfl,hbb,hg,r1,_⟩:=vs_at (hl.ext he) (i:=i) i0 ci;have q1:=rd_ok hA r1;have hmem:(⟨x,y,re,im,d,w⟩:Vk)∈l:=by rw[<-hg];exact gt_mem l i0 (by omega)
 have e2:arith .add .i64 i 1=i+1:=add64 hA (by omega) (by omega);have lowh:=he.lowOK hlow0;refine hA.roundR Try.func35 r35_ok (zc ?_);refine br (i<N) (by rw[e_lss hA]) (fun c1=>?_) (fun c1=>by omega)<;>refine zc ?_;refine zq ?_;refine⟨_,_,_,_,_,_,q1,?_⟩;refine zq ?_;have no:∀h',Ext h0 h'->¬okV ⟨x,y,re,im,d,w⟩->∀e kn K,Q .ret ⟨(2,.int .i64 8) :: e,kn,K,h'⟩:=fun h' x' hb e kn K=>hbad h' _ hmem hb x' e kn K
 refine br (x<0) (by rw[e_lss hA]) (fun c2=>?_) (fun c2=>?_)<;>refine zc ?_
 ·exact no h he (fun q=>by have:=q.1;simp only at this;omega) _ _ _
 refine br (y<=x) (by rw[e_geq hA]) (fun c3=>?_) (fun c3=>?_)<;>refine zc ?_
 ·exact no h he (fun q=>by have:=q.2.1;simp only at this;omega) _ _ _
 refine station_ok hA lowh (fun r hr=>⟨_,rfl,?_⟩);refine zc ?_;refine br (r=false) (by rw[e_bnot hA];cases r<;>rfl) (fun c4=>?_) (fun c4=>?_)<;>refine zc ?_
 ·exact no h he (fun q=>by rw[c4]at hr;have:=hr.2 ⟨by have:=q.1;have:=q.2.1;simp only at *;omega,q.2.2.1⟩;cases this) _ _ _
 have k4:=hr.1 (by cases r with|true=>rfl|false=>exact absurd rfl c4);refine br (w<0) (by rw[e_lss hA]) (fun c5=>?_) (fun c5=>?_)<;>refine zc ?_
 ·exact no h he (fun q=>by have:=q.2.2.2.1;simp only at this;omega) _ _ _
 refine ccheck_ok hA lowh (fun e h' ke x'=>⟨_,rfl,?_⟩);refine zc ?_;have xx:=he.trans x';refine br (e≠0) (by rw[e_neq hA]) (fun c6=>?_) (fun c6=>?_)<;>refine zc ?_
 ·refine no h' xx (fun q=>?_) _ _ _
  rcases ke with ⟨z,_⟩|⟨_,z⟩
  ·exact c6 z
  ·exact z q.2.2.2.2
 have ok5:okC re im d:=by
  rcases ke with ⟨_,z⟩|⟨z,_⟩
  ·exact z
  ·omega
 rw[e2];refine ih (i+1) h' (by omega) (by omega) (by omega) (fun v hv'=>?_) xx;rw[gt_take l i0 (by omega),hg]at hv';rcases List.mem_append.1 hv' with z|z
 ·exact hv v z
 ·rw[List.mem_singleton.1 z]
  exact⟨by show 0<=x;omega,by show x<y;omega,k4.2,by show 0<=w;omega,ok5⟩
def seenB(T S:List Bool)(ps:List F2):Prop:=S.length=64/\∀i j:Int,0<=i->i<8->0<=j->j<8->(S.getD (8*i+j).toNat false=true↔(⟨i,j⟩:F2)∈ps)
theorem ck_loop2{h0:AHeap}(hlow0:h0.low<=h0.next){a:Option Addr}{n c:Nat}{N:Int}(hN:N=n){l:List Vk}(hl:Vs h0 a n l)(hn:n<=1000)(hv:∀v∈l,okV v){b5 es:Nat}(hb5:h0.next<=b5){Q:Exit->SS->Prop}
  (hbad:∀h',¬(l.map Vk.pr).Nodup->Ext h0 h'->∀e kn K,Q .ret ⟨(2,.int .i64 14) :: e,kn,K,h'⟩)
  (hok:∀h',(l.map Vk.pr).Nodup->Ext h0 h'->∀e kn K,Q (.exit 2) ⟨e,kn,K,h'⟩) :
  ∀(m:Nat) (i:Int) (h:AHeap) (S:List Bool),(n-i).toNat<=m->0<=i->i<=n->Own h b5 es (S.map Value.bool)->b5<h.next->seenB [] S ((l.take i.toNat).map Vk.pr)->((l.take i.toNat).map Vk.pr).Nodup->Ext h0 h->
   head 35 11 0 ⟨[(5,.pointer (some ⟨b5,0,none⟩)),(45,.slice a n c),(46,.int .i64 N),(47,.int .i64 i)],0,[],h⟩ Q:=by
 have hlen:=hl.len;refine upTo (fun m ih=>?_);intro i h S hm i0 i1 ho hb hs hd he;by_cases ci:i<n
 rotate_left
 ·refine hA.roundR Try.func35 r35_ok (zc ?_)
  refine br (i<N) (by rw[e_lss hA]) (fun c1=>by omega) (fun c1=>?_)<;>refine zc ?_;rw[List.take_of_length_le (by omega)]at hd;exact hok h hd he _ _ _
 obtain⟨m,rfl⟩:∃k,m=k+1:=⟨m-1,by omega⟩
 replace ih:=ih m rfl
 obtain⟨bb,o,x,y,re,im,d,w,rfl,hbb,hg,r1,_⟩:=vs_at (hl.ext he) (i:=i) i0 ci;have q1:=rd_ok hA r1;have hmem:(⟨x,y,re,im,d,w⟩:Vk)∈l:=by rw[<-hg];exact gt_mem l i0 (by omega)
 obtain⟨v1,v2,v3,v4,v5⟩:=hv _ hmem;simp only at v1 v2 v3 v4;have e2:arith .add .i64 i 1=i+1:=add64 hA (by omega) (by omega);have lowh:=he.lowOK hlow0;refine hA.roundR Try.func35 r35_ok (zc ?_);refine br (i<N) (by rw[e_lss hA]) (fun c1=>?_) (fun c1=>by omega)<;>refine zc ?_;refine zq ?_;refine⟨_,_,_,_,_,_,q1,?_⟩;refine zq ?_;obtain⟨h9,hh9⟩:∃z,z=bump h 7:=⟨_,rfl⟩;have e9:Ext h h9:=by rw[hh9];exact ext_bump hA _ _
 rw[<-hh9];have o9:Own h9 b5 es (S.map Value.bool):=ho.ext e9 hb;obtain⟨kk,hkk⟩:∃z,z=(8*x+y).toNat:=⟨_,rfl⟩;have pl:place (place 0 x 8) y 1=kk:=by rw[e_place hA,e_place hA];omega
 obtain⟨sv,hsv⟩:∃z,z=S.getD kk false:=⟨_,rfl⟩;have q9:rd h9 b5 (place (place 0 x 8) y 1) 1 [.bool sv]:=by rw[pl,hsv];exact rd_at hA (getB o9 (by have:=hs.1;omega))
 refine⟨sv,q9,?_⟩;refine zq ?_;have key:=hs.2 x y v1 (by omega) (by omega) v3;rw[<-hkk,<-hsv]at key;have htk:=gt_take l i0 (by omega);rw[hg]at htk;refine br (sv=true) (by simp) (fun c2=>?_) (fun c2=>?_)<;>refine zc ?_
 ·refine hbad h9 (fun hn'=>?_) (he.trans e9) _ _ _
  have hn2:((l.take (i+1).toNat).map Vk.pr).Nodup:=hn'.sublist (List.Sublist.map _ (List.take_sublist _ _));rw[htk,List.map_append,List.nodup_append]at hn2;exact hn2.2.2 _ (key.1 c2) _ (List.mem_singleton.2 rfl) rfl
 ·refine zq ?_
  obtain⟨h10,hh10⟩:∃z,z=bump h9 7:=⟨_,rfl⟩;have e10:Ext h9 h10:=by rw[hh10];exact ext_bump hA _ _
  rw[<-hh10];have nb:=(e9.trans e10).next;have o10:Own h10 b5 es (S.map Value.bool):=o9.ext e10 (by have:=e9.next;omega);obtain⟨h11,w11,o11,k11⟩:=setB o10 (i:=kk) (by have:=hs.1;omega) true;have n11:=k11.next;refine⟨h11,by rw[pl];exact wr_at hA w11,?_⟩;refine zc ?_;rw[e2];refine ih (i+1) h11 (S.set kk true) (by omega) (by omega) (by omega) o11 (by omega) ?_ ?_ (k11.ext (he.trans (e9.trans e10)) hb5)
  ·rw[htk,List.map_append]
   refine⟨by rw[List.length_set];exact hs.1,fun p q p0 p1 q0 q1=>?_⟩;have hl64:=hs.1;have h1:=hs.2 p q p0 p1 q0 q1;rw[List.mem_append,<-h1,List.getD_eq_getElem?_getD,List.getD_eq_getElem?_getD,List.getElem?_set];by_cases cc:kk=(8*p+q).toNat
   ·rw[if_pos cc,if_pos (by omega)]
    have hp:p=x/\q=y:=by omega
    rw[hp.1,hp.2];exact⟨fun _=>.inr (List.mem_singleton.2 rfl),fun _=>rfl⟩
   ·rw[if_neg cc]
    refine⟨.inl,fun z=>z.elim id (fun z=>?_)⟩;have z':=List.mem_singleton.1 z;have z1:p=x:=congrArg F2.n z';have z2:q=y:=congrArg F2.d z';rw[z1,z2]at cc;exact absurd hkk cc
  ·rw[htk,List.map_append,List.nodup_append]
   refine⟨hd,List.nodup_cons.2 ⟨by simp,List.nodup_nil⟩,fun u hu v hv' e=>?_⟩;rw[List.mem_singleton.1 hv']at e;exact c2 (key.2 (by rw[e]at hu;exact hu))
theorem clcheck_ok{h:AHeap}(hlow:h.low<=h.next){a:Option Addr}{n c:Nat}{l:List Vk}(hl:Vs h a n l)(hn:n<=1000){Q:Value->AHeap->Prop}
  (hQ:∀e h',CkR l e->Ext h h'->Q (.int .i64 e) h'):call 35 [.slice a n c] h Q:=by
 have hlen:=hl.len;refine hA.bodyR Try.func35 r35_ok (hA.alike _ _ _ rfl) hlow (zc ?_);refine br (64<n) (by rw[e_gtr hA,e_ofNat hA];simp;omega) (fun c1=>?_) (fun c1=>?_)<;>refine zc ?_
 ·exact hQ 4 h (.many (by omega)) (.refl h)
 refine ck_loop1 hA hlow (e_ofNat hA n) hl hn (fun h' v hv hb x e kn K=>?_) (fun h' hok x=>?_) n 0 h (by omega) (by omega) (by omega) (fun v hv=>by simp at hv) (.refl h)
 ·refine zc ?_
  exact hQ 8 h' (.bad (by omega) v hv hb) x
 ·refine zc ?_
  simp only[e_next hA,e_push hA,e_ofNat hA];have ex:=Ext.push h' 64 ((List.replicate 64 false).map Value.bool);have ox:=Own.push h' 64 ((List.replicate 64 false).map Value.bool);have nx:(h'.push 64 ((List.replicate 64 false).map Value.bool)).next=h'.next+1:=rfl;refine ck_loop2 hA hlow rfl hl hn hok (b5:=h'.next) (es:=64) x.next (fun h2 hd x2 e kn K=>?_) (fun h2 hd x2 e kn K=>?_) n 0 _ (List.replicate 64 false) (by omega) (by omega) (by omega) ox (by show h'.next<h'.next+1;omega) ⟨by simp,fun i j i0 i1 j0 j1=>?_⟩ (by simp) (x.trans ex)
  ·refine zc ?_
   exact hQ 14 h2 (.twice (by omega) hok hd) x2
  ·refine zc ?_
   exact hQ 0 h2 (.ok (by omega) hok hd) x2
  ·rw[List.getD_eq_getElem?_getD,List.getElem?_replicate]
   split<;>simp
end Go.Proofs.Ytmkiclinllifiaa
namespace Go.Proofs.Ytmkiclinllifiaa
open Go.Sim
set_option maxRecDepth 100000
def rowP(i:Nat):List F2:=((List.range 8).filter (fun j=>decide (i<j))).map fun j:Nat=>⟨(i:Int),(j:Int)⟩
def allP:List F2:=(List.range 8).flatMap rowP
def basP(l:List Vk):List F2:=allP.filter (fun p=>decide (p∈l.map Vk.pr))
theorem allP_mem{i j:Int}(h1:0<=i)(h2:i<j)(h3:j<8):(⟨i,j⟩:F2)∈allP:=by
 unfold allP rowP;rw[List.mem_flatMap];refine⟨i.toNat,List.mem_range.2 (by omega),List.mem_map.2 ⟨j.toNat,List.mem_filter.2 ⟨List.mem_range.2 (by omega),decide_eq_true (by omega)⟩,?_⟩⟩;rw[show((i.toNat:Nat):Int)=i by omega,show((j.toNat:Nat):Int)=j by omega]
theorem allP_is:allP=[⟨0,1⟩,⟨0,2⟩,⟨0,3⟩,⟨0,4⟩,⟨0,5⟩,⟨0,6⟩,⟨0,7⟩,⟨1,2⟩,⟨1,3⟩,⟨1,4⟩,⟨1,5⟩,⟨1,6⟩,⟨1,7⟩,⟨2,3⟩,⟨2,4⟩,⟨2,5⟩,⟨2,6⟩,⟨2,7⟩,⟨3,4⟩,⟨3,5⟩,⟨3,6⟩,⟨3,7⟩,⟨4,5⟩,⟨4,6⟩,⟨4,7⟩,⟨5,6⟩,⟨5,7⟩,⟨6,7⟩]:=rfl
theorem allP_pw:allP.Pairwise (fun x y=>8*x.n+x.d<8*y.n+y.d):=by
 rw[allP_is];simp
theorem basP_is{l:List Vk}(h:∀v∈l,okV v):Bas l (basP l):=by
 refine⟨fun i j i0 hij j1=>?_,fun x=>?_⟩
 ·have hp:(basP l).Pairwise (fun x y=>8*x.n+x.d<8*y.n+y.d):=allP_pw.sublist List.filter_sublist
  obtain⟨i',rfl⟩:∃i':Nat,i=i':=⟨i.toNat,by omega⟩;obtain⟨j',rfl⟩:∃j':Nat,j=j':=⟨j.toNat,by omega⟩;have hi':i'<(basP l).length:=by omega
  have hj':j'<(basP l).length:=by omega
  have gi:gt (basP l) (i':Int)=(basP l)[i']:=by unfold gt;simp[List.getElem?_eq_getElem hi']
  have gj:gt (basP l) (j':Int)=(basP l)[j']:=by unfold gt;simp[List.getElem?_eq_getElem hj']
  rw[gi,gj];have:=List.pairwise_iff_getElem.1 hp i' j' hi' hj' (by omega);exact Rat.intCast_lt_intCast.2 this
 ·unfold basP
  rw[List.mem_filter,decide_eq_true_iff,List.mem_map];constructor
  ·rintro⟨_,v,hv,e⟩
   exact⟨v,hv,e.symm⟩
  ·rintro⟨v,hv,rfl⟩
   obtain⟨h1,h2,h3,_⟩:=h v hv;exact⟨allP_mem h1 h2 h3,v,hv,rfl⟩
variable{F:Prims}{call head arith cmp scmp bnot bsame conv neg imax imin ofNat slen place inR nz geZ rd wr push next mkOK nat zeros sadd eqAgg cut slc sslc strAt part app cpy putAt fresh lowered bump wrote addN lt ne fpAll fpApp brk yn rng mget mput mnew bytes clr mrng ment:_}(hA:AP F ⟨call,head,arith,cmp,scmp,bnot,bsame,conv,neg,imax,imin,ofNat,slen,place,inR,nz,geZ,rd,wr,push,next,mkOK,nat,zeros,sadd,eqAgg,cut,slc,sslc,strAt,part,app,cpy,putAt,fresh,lowered,bump,wrote,addN,lt,ne,fpAll,fpApp,brk,yn,rng,mget,mput,mnew,bytes,clr,mrng,ment⟩)
include hA
end Go.Proofs.Ytmkiclinllifiaa
namespace Go.Proofs.Ytmkiclinllifiaa
open Go.Sim
set_option maxRecDepth 100000
theorem guardP:Try.prog.eqGuardType Try.prog.depth 54=false:=by kernel_rfl
theorem eqP(a b a' b':Int):∃r,eqA Try.prog 30 54 (.agg #[.int .i64 a,.int .i64 b]) (.agg #[.int .i64 a',.int .i64 b'])=some r/\(r=true↔a=a'/\b=b'):=by
 have h3:Try.prog.underlying 3=some (.int .i64):=by kernel_rfl
 have hst:Try.prog.stoodInHeld 54=false:=by kernel_rfl
 have i3:isAggB Try.prog 3=some false:=by kernel_rfl
 have e3:∀(n:Nat) (x y:Int),eqA Try.prog (n+1) 3 (.int .i64 x) (.int .i64 y)=some (x == y):=by
  intro n x y;unfold eqA;rw[h3];simp
 have key:eqA Try.prog (28+1+1) 54 (.agg #[.int .i64 a,.int .i64 b]) (.agg #[.int .i64 a',.int .i64 b'])=some ((a == a') && (b == b')):=by
  unfold eqA;rw[Try.underlying54];have e3':∀(x y:Int),eqA Try.prog 29 3 (.int .i64 x) (.int .i64 y)=some (x == y):=e3 28;simp only[hst,cond_false,List.foldr,partA,i3,List.getElem?_cons_zero,List.getElem?_cons_succ,e3',String.reduceEq,if_false];cases a == a'<;>cases b == b'<;>rfl
 refine⟨_,key,?_⟩;simp only[Bool.and_eq_true,beq_iff_eq]
variable{F:Prims}{call head arith cmp scmp bnot bsame conv neg imax imin ofNat slen place inR nz geZ rd wr push next mkOK nat zeros sadd eqAgg cut slc sslc strAt part app cpy putAt fresh lowered bump wrote addN lt ne fpAll fpApp brk yn rng mget mput mnew bytes clr mrng ment:_}(hA:AP F ⟨call,head,arith,cmp,scmp,bnot,bsame,conv,neg,imax,imin,ofNat,slen,place,inR,nz,geZ,rd,wr,push,next,mkOK,nat,zeros,sadd,eqAgg,cut,slc,sslc,strAt,part,app,cpy,putAt,fresh,lowered,bump,wrote,addN,lt,ne,fpAll,fpApp,brk,yn,rng,mget,mput,mnew,bytes,clr,mrng,ment⟩)
include hA
theorem sints_loop{h0:AHeap}(hlow:h0.low<=h0.next){a a':Option Addr}{n c c':Nat}{l:List Int}(hl:Rows iC 1 h0 a n l)(hl':Rows iC 1 h0 a' n l)(hn:n<=100000){Q:Exit->SS->Prop}
  (hok:∀h' kn,Ext h0 h'->Q (.exit 0) ⟨[],kn,[],h'⟩) :
  ∀(m:Nat) (i:Int) (h:AHeap),(n-i).toNat<=m->0<=i->i<=n->Ext h0 h->
   head 20 4 0 ⟨[(0,.slice a n c),(1,.slice a' n c'),(5,.int .i64 i)],0,[],h⟩ Q:=by
 have hlen:=hl.len;refine upTo (fun m ih=>?_);intro i h hm i0 i1 he;by_cases ci:i<n
 rotate_left
 ·refine hA.roundR Try.func20 r20_ok (zc ?_)
  refine br (i<n) (by rw[e_lss hA,e_ofNat hA]) (fun c1=>absurd c1 ci) (fun c1=>?_)<;>refine zc ?_;exact hok h _ he
 obtain⟨m,rfl⟩:∃k,m=k+1:=⟨m-1,by omega⟩
 replace ih:=ih m rfl
 obtain⟨h9,hh9⟩:∃z,z=bump h 9:=⟨_,rfl⟩;have e9:Ext h0 h9:=by rw[hh9];exact he.trans (ext_bump hA _ _)
 obtain⟨b,o,rfl,_,r1⟩:=(hl.ext e9).at (i:=i) i0 (by omega);obtain⟨b',o',rfl,_,q1⟩:=(hl'.ext e9).at (i:=i) i0 (by omega);have r2:rd h9 b (place o i 1) 1 [.int .i64 (gt l i)]:=rd_ok hA (r1 0 1 (by omega) (by omega));have q2:rd h9 b' (place o' i 1) 1 [.int .i64 (gt l i)]:=rd_ok hA (q1 0 1 (by omega) (by omega));obtain⟨v,hv⟩:∃v,v=gt l i:=⟨_,rfl⟩;rw[<-hv]at r2 q2;refine hA.roundR Try.func20 r20_ok (zc ?_);refine br (i<n) (by rw[e_lss hA,e_ofNat hA]) (fun c1=>?_) (fun c1=>absurd ci c1)<;>refine zc ?_;rw[<-hh9];refine zq ?_;refine br (v≠v) (by rw[e_neq hA]) (fun c1=>absurd rfl c1) (fun c1=>?_)<;>refine zc ?_;rw[add64 hA (by omega) (by omega)];exact ih (i+1) h9 (by omega) (by omega) (by omega) e9
theorem sints_ok{h:AHeap}(hlow:h.low<=h.next){a a':Option Addr}{n n' c c':Nat}{l:List Int}(hl:Rows iC 1 h a n l)(hl':Rows iC 1 h a' n' l)(hn:n<=100000){Q:Value->AHeap->Prop}
  (hQ:∀h',Ext h h'->Q (.bool true) h'):call 20 [.slice a n c,.slice a' n' c'] h Q:=by
 have hlen:=hl.len;have hlen':=hl'.len;obtain rfl:n=n':=by omega
 refine hA.bodyR Try.func20 r20_ok (hA.alike _ _ _ rfl) hlow (zc ?_);refine br ((n:Int)≠n) (by rw[e_neq hA,e_ofNat hA]) (fun c1=>absurd rfl c1) (fun c1=>?_)<;>refine zc ?_;refine sints_loop hA hlow hl hl' hn (fun h' kn x'=>?_) n 0 h (by omega) (by omega) (by omega) (.refl h);refine zc ?_;exact hQ h' x'
theorem seen_ok{h:AHeap}(hlow:h.low<=h.next)(v:Vk){Q:Value->AHeap->Prop}(hQ:∀(r:Bool) h',(r=true↔okV v)->Ext h h'->Q (.bool r) h') :
  call 66 [.agg #[.int .i64 v.i,.int .i64 v.j,.int .i64 v.re,.int .i64 v.im,.int .i64 v.den,.int .i64 v.n],.int .i64 8] h Q:=by
 obtain⟨x,y,re,im,d,w⟩:=v;refine hA.bodyR Try.func66 r66_ok (hA.alike _ _ _ rfl) hlow (zc ?_);refine br (0<=x) (by rw[e_geq hA]) (fun c1=>?_) (fun c1=>?_)<;>refine zc ?_
 rotate_left
 ·exact hQ false h (by simp;intro q;exact absurd q.1 c1) (.refl h)
 refine br (x<y) (by rw[e_lss hA]) (fun c2=>?_) (fun c2=>?_)<;>refine zc ?_
 rotate_left
 ·exact hQ false h (by simp;intro q;exact absurd q.2.1 c2) (.refl h)
 refine br (y<8) (by rw[e_lss hA]) (fun c3=>?_) (fun c3=>?_)<;>refine zc ?_
 rotate_left
 ·exact hQ false h (by simp;intro q;exact absurd q.2.2.1 c3) (.refl h)
 refine rccheck_ok hA hlow (fun e h' ke x'=>⟨_,rfl,?_⟩);refine zc ?_;refine br (e=0) (by rw[e_eql hA]) (fun c4=>?_) (fun c4=>?_)<;>refine zc ?_
 rotate_left
 ·refine hQ false h' ⟨(fun q=>by cases q),fun q=>?_⟩ x'
  rcases ke with ⟨z,_⟩|⟨_,z⟩
  ·exact absurd z c4
  ·exact absurd q.2.2.2.2 z
 have ok5:okC re im d:=by
  rcases ke with ⟨_,z⟩|⟨z,_⟩
  ·exact z
  ·omega
 rw[e_geq hA];refine hQ _ h' ?_ x';rw[decide_eq_true_iff];exact⟨fun q=>⟨c1,c2,c3,q,ok5⟩,fun q=>q.2.2.2.1⟩
end Go.Proofs.Ytmkiclinllifiaa
namespace Go.Proofs.Ytmkiclinllifiaa
open Go.Sim
set_option maxRecDepth 100000
def apart(c:List Int):Prop:=(∀s∈c,0<=s/\s<8)/\c.Nodup
structure RB8(B:List Bool)(c:List Int):Prop where
 len:B.length=8
 val:∀x:Int,0<=x->x<8->(B.getD x.toNat false=true↔x∈c)
theorem RB8.set{B:List Bool}{c:List Int}(h:RB8 B c){s:Int}(s0:0<=s)(s1:s<8):RB8 (B.set s.toNat true) (c++[s]):=by
 refine⟨by rw[List.length_set];exact h.len,fun x x0 x1=>?_⟩;rw[List.getD_eq_getElem?_getD,List.getElem?_set,List.mem_append,List.mem_singleton];by_cases e:x=s
 ·rw[e,if_pos rfl,if_pos (by rw[h.len];omega)]
  exact⟨fun _=>.inr rfl,fun _=>rfl⟩
 ·rw[if_neg (by omega),<-List.getD_eq_getElem?_getD,h.val x x0 x1]
  exact⟨.inl,fun q=>q.elim id (fun q=>absurd q e)⟩
variable{F:Prims}{call head arith cmp scmp bnot bsame conv neg imax imin ofNat slen place inR nz geZ rd wr push next mkOK nat zeros sadd eqAgg cut slc sslc strAt part app cpy putAt fresh lowered bump wrote addN lt ne fpAll fpApp brk yn rng mget mput mnew bytes clr mrng ment:_}(hA:AP F ⟨call,head,arith,cmp,scmp,bnot,bsame,conv,neg,imax,imin,ofNat,slen,place,inR,nz,geZ,rd,wr,push,next,mkOK,nat,zeros,sadd,eqAgg,cut,slc,sslc,strAt,part,app,cpy,putAt,fresh,lowered,bump,wrote,addN,lt,ne,fpAll,fpApp,brk,yn,rng,mget,mput,mnew,bytes,clr,mrng,ment⟩)
include hA
theorem df_loop{h0:AHeap}(hlow0:h0.low<=h0.next){a:Option Addr}{n cp:Nat}{N:Int}(hN:N=n){c:List Int}(hl:Rows iC 1 h0 a n c)(hn:n<=1000){b3 es:Nat}(hb3:h0.next<=b3){Q:Exit->SS->Prop}
  (hbad:∀h',¬apart c->Ext h0 h'->∀e kn K,Q .ret ⟨(2,.bool false) :: e,kn,K,h'⟩)
  (hok:∀h',apart c->Ext h0 h'->∀e kn K,Q (.exit 0) ⟨e,kn,K,h'⟩) :
  ∀(m:Nat) (i:Int) (h:AHeap) (B:List Bool),(n-i).toNat<=m->0<=i->i<=n->Own h b3 es (B.map Value.bool)->b3<h.next->RB8 B (c.take i.toNat)->apart (c.take i.toNat)->Ext h0 h->
   head 57 3 0 ⟨[(3,.pointer (some ⟨b3,0,none⟩)),(6,.slice a n cp),(7,.int .i64 N),(8,.int .i64 i)],0,[],h⟩ Q:=by
 have hlen:=hl.len;refine upTo (fun m ih=>?_);intro i h B hm i0 i1 ho hb hr hd he;by_cases ci:i<n
 rotate_left
 ·refine hA.roundR Try.func57 r57_ok (zc ?_)
  refine br (i<N) (by rw[e_lss hA]) (fun c1=>by omega) (fun c1=>?_)<;>refine zc ?_;rw[List.take_of_length_le (by omega)]at hd;exact hok h hd he _ _ _
 obtain⟨m,rfl⟩:∃k,m=k+1:=⟨m-1,by omega⟩
 replace ih:=ih m rfl
 obtain⟨bb,o,rfl,_,r1⟩:=(hl.ext he).at (i:=i) i0 (by omega);obtain⟨v,hv⟩:∃v,v=gt c i:=⟨_,rfl⟩;have q1:rd h bb (place o i 1) 1 [.int .i64 v]:=by rw[hv];exact rd_ok hA (r1 0 1 (by omega) (by omega))
 have e2:arith .add .i64 i 1=i+1:=add64 hA (by omega) (by omega);have htk:=gt_take c i0 (by omega);rw[<-hv]at htk;have hmem:v∈c:=by rw[hv];exact gt_mem c i0 (by omega)
 refine hA.roundR Try.func57 r57_ok (zc ?_);refine br (i<N) (by rw[e_lss hA]) (fun c1=>?_) (fun c1=>by omega)<;>refine zc ?_;refine zq ?_;refine station_ok hA (he.lowOK hlow0) (fun r hr'=>⟨_,rfl,?_⟩);refine zc ?_;refine br (r=false) (by rw[e_bnot hA];cases r<;>rfl) (fun c2=>?_) (fun c2=>?_)<;>refine zc ?_
 ·exact hbad h (fun q=>by have:=hr'.2 (q.1 v hmem);rw[c2]at this;cases this) he _ _ _
 obtain⟨v0,v8⟩:=hr'.1 (by cases r with|true=>rfl|false=>exact absurd rfl c2);obtain⟨vi,hvi⟩:∃z,z=B.getD v.toNat false:=⟨_,rfl⟩;have lb:=hr.len;have p3:rd h b3 (place 0 v 1) 1 [.bool vi]:=by rw[hvi];exact rd_ok hA (by rw[Nat.zero_add,Nat.mul_one];exact getB ho (by omega))
 have hval:=hr.val v v0 v8;rw[<-hvi]at hval;refine zq ?_;refine br (vi=true) (by simp) (fun c3=>?_) (fun c3=>?_)<;>refine zc ?_
 ·refine hbad h (fun q=>?_) he _ _ _
  have nd:(c.take (i+1).toNat).Nodup:=q.2.sublist (List.take_sublist _ _);rw[htk,List.nodup_append]at nd;exact nd.2.2 _ (hval.1 c3) _ (List.mem_singleton.2 rfl) rfl
 obtain⟨h11,w11,o11,k11⟩:=setB ho (i:=v.toNat) (by omega) true;refine zq ?_;refine⟨h11,wr_ok hA (by rw[Nat.zero_add,Nat.mul_one];exact w11),?_⟩;refine zc ?_;rw[e2];have n11:=k11.next;refine ih (i+1) h11 (B.set v.toNat true) (by omega) (by omega) (by omega) o11 (by omega) (by rw[htk];exact hr.set v0 v8) ?_ (k11.ext he hb3);rw[htk];refine⟨fun s hs=>?_,?_⟩
 ·rcases List.mem_append.1 hs with z|z
  ·exact hd.1 s z
  ·rw[List.mem_singleton.1 z];exact⟨v0,v8⟩
 ·rw[List.nodup_append]
  refine⟨hd.2,List.nodup_cons.2 ⟨by simp,List.nodup_nil⟩,fun u hu w hw e=>?_⟩;rw[List.mem_singleton.1 hw]at e;exact c3 (hval.2 (by rw[<-e];exact hu))
theorem different_ok{h:AHeap}(hlow:h.low<=h.next){a:Option Addr}{n cp:Nat}{c:List Int}(hl:Rows iC 1 h a n c)(hn:n<=1000){Q:Value->AHeap->Prop}
  (hQ:∀(r:Bool) h',(r=true↔apart c)->Ext h h'->Q (.bool r) h'):call 57 [.slice a n cp] h Q:=by
 refine hA.bodyR Try.func57 r57_ok (hA.alike _ _ _ rfl) hlow (zc ?_);simp only[e_next hA,e_push hA,e_ofNat hA];have ex:=Ext.push h 8 ((List.replicate 8 false).map Value.bool);have ox:=Own.push h 8 ((List.replicate 8 false).map Value.bool);refine df_loop hA hlow rfl hl hn (b3:=h.next) (es:=8) (Nat.le_refl _) (fun h2 hd x2 e kn K=>?_) (fun h2 hd x2 e kn K=>?_) n 0 _ (List.replicate 8 false) (by omega) (by omega) (by omega) ox (by show h.next<h.next+1;omega) ⟨by simp,fun x x0 x1=>?_⟩ ⟨by simp,by simp⟩ ex
 ·refine zc ?_
  exact hQ false h2 ⟨(fun q=>by cases q),fun q=>absurd q hd⟩ x2
 ·refine zc ?_
  exact hQ true h2 ⟨fun _=>hd,fun _=>rfl⟩ x2
 ·rw[List.getD_eq_getElem?_getD,List.getElem?_replicate]
  split<;>simp
end Go.Proofs.Ytmkiclinllifiaa
namespace Go.Proofs.Ytmkiclinllifiaa
open Go.Sim
set_option maxRecDepth 100000
variable{F:Prims}{call head arith cmp scmp bnot bsame conv neg imax imin ofNat slen place inR nz geZ rd wr push next mkOK nat zeros sadd eqAgg cut slc sslc strAt part app cpy putAt fresh lowered bump wrote addN lt ne fpAll fpApp brk yn rng mget mput mnew bytes clr mrng ment:_}(hA:AP F ⟨call,head,arith,cmp,scmp,bnot,bsame,conv,neg,imax,imin,ofNat,slen,place,inR,nz,geZ,rd,wr,push,next,mkOK,nat,zeros,sadd,eqAgg,cut,slc,sslc,strAt,part,app,cpy,putAt,fresh,lowered,bump,wrote,addN,lt,ne,fpAll,fpApp,brk,yn,rng,mget,mput,mnew,bytes,clr,mrng,ment⟩)
include hA
inductive FndO(l:List Vk)(x y:Int):Int->Int->Int->Int->Prop
 |no (h:∀v∈l,¬(v.i=x/\v.j=y)/\¬(v.i=y/\v.j=x)):FndO l x y 0 0 0 6
 |to (v:Vk) (hv:v∈l) (h:v.i=x/\v.j=y):FndO l x y v.re v.im v.den 0
 |back (v:Vk) (hv:v∈l) (h:v.i=y/\v.j=x):FndO l x y v.re (-v.im) v.den 0
theorem fnd_loop{h0:AHeap}(hlow0:h0.low<=h0.next){a:Option Addr}{n c:Nat}{N:Int}(hN:N=n){l:List Vk}(hl:Vs h0 a n l)(hn:n<=1000)(hv:∀v∈l,okV v){x y:Int}{Q:Exit->SS->Prop}
  (hn0:∀h',(∀v∈l,¬(v.i=x/\v.j=y)/\¬(v.i=y/\v.j=x))->Ext h0 h'->Q (.exit 0) ⟨[(6,.pointer (some ⟨0,0,some 0⟩))],1,[(0,[.int .i64 0,.int .i64 0,.int .i64 0])],h'⟩)
  (hd:∀h' (v:Vk),v∈l->v.i=x/\v.j=y->Ext h0 h'->∀v27 v26 v9 K',Q .ret ⟨[(7,.int .i64 0),(27,v27),(26,v26),(6,.pointer (some ⟨0,0,some 0⟩)),(9,v9)],2,(0,[.int .i64 v.re,.int .i64 v.im,.int .i64 v.den]) :: K',h'⟩)
  (hr:∀h' (v:Vk) (s:Int),v∈l->v.i=y/\v.j=x->s=-v.im->Ext h0 h'->∀v42 v41 v40 v39 v38 v9 K',Q .ret ⟨[(7,.int .i64 0),(42,v42),(41,v41),(40,v40),(39,v39),(38,v38),(6,.pointer (some ⟨0,0,some 0⟩)),(9,v9)],2,(0,[.int .i64 v.re,.int .i64 s,.int .i64 v.den]) :: K',h'⟩) :
  ∀(m:Nat) (i:Int) (h:AHeap),(n-i).toNat<=m->0<=i->i<=n->(∀v∈l.take i.toNat,¬(v.i=x/\v.j=y)/\¬(v.i=y/\v.j=x))->Ext h0 h->
   head 75 2 1 ⟨[(1,.int .i64 x),(2,.int .i64 y),(6,.pointer (some ⟨0,0,some 0⟩)),(10,.slice a n c),(11,.int .i64 N),(12,.int .i64 i)],1,[(0,[.int .i64 0,.int .i64 0,.int .i64 0])],h⟩ Q:=by
 have hlen:=hl.len;refine upTo (fun m ih=>?_);intro i h hm i0 i1 hno he;by_cases ci:i<n
 rotate_left
 ·refine hA.roundR Try.func75 r75_ok (zc ?_)
  refine br (i<N) (by rw[e_lss hA]) (fun c1=>by omega) (fun c1=>?_)<;>refine zc ?_;rw[List.take_of_length_le (by omega)]at hno;exact hn0 h hno he
 obtain⟨m,rfl⟩:∃k,m=k+1:=⟨m-1,by omega⟩
 replace ih:=ih m rfl
 obtain⟨bb,o,u,w,re,im,d,nn,rfl,hbb,hg,r1,_⟩:=vs_at (hl.ext he) (i:=i) i0 ci;have q1:=rd_ok hA r1;have hmem:(⟨u,w,re,im,d,nn⟩:Vk)∈l:=by rw[<-hg];exact gt_mem l i0 (by omega)
 have e2:arith .add .i64 i 1=i+1:=add64 hA (by omega) (by omega);have nxt:¬(u=x/\w=y)->¬(u=y/\w=x)->∀v∈l.take (i+1).toNat,¬(v.i=x/\v.j=y)/\¬(v.i=y/\v.j=x):=fun g1 g2 v hv'=>by
  rw[gt_take l i0 (by omega),hg]at hv';rcases List.mem_append.1 hv' with z|z
  ·exact hno v z
  ·rw[List.mem_singleton.1 z];exact⟨g1,g2⟩
 refine hA.roundR Try.func75 r75_ok (zc ?_);refine br (i<N) (by rw[e_lss hA]) (fun c1=>?_) (fun c1=>by omega)<;>refine zc ?_;refine zq ?_;refine⟨_,_,_,_,_,_,q1,?_⟩;refine zq ?_;refine br (u=x) (by rw[e_eql hA]) (fun c2=>?_) (fun c2=>?_)<;>refine zc ?_
 ·refine br (w=y) (by rw[e_eql hA]) (fun c3=>?_) (fun c3=>?_)<;>refine zc ?_
  ·exact hd h ⟨u,w,re,im,d,nn⟩ hmem ⟨c2,c3⟩ he _ _ _ _
  ·refine zc ?_
   refine br (u=y) (by rw[e_eql hA]) (fun c4=>?_) (fun c4=>?_)<;>refine zc ?_
   ·refine br (w=x) (by rw[e_eql hA]) (fun c5=>?_) (fun c5=>?_)<;>refine zc ?_
    ·refine cconj_ok hA (he.lowOK hlow0) (fun r s t e h' hc x'=>?_)
     have okd:=(hv _ hmem).2.2.2.2;obtain⟨rfl,hs,rfl,rfl⟩:r=re/\s=-im/\t=d/\e=0:=by
      rcases hc with ⟨z,_⟩|⟨_,z⟩
      ·exact absurd okd z
      ·exact z
     refine⟨_,_,_,_,rfl,?_⟩;refine zc ?_;refine hr h' ⟨u,w,r,im,t,nn⟩ s hmem ⟨c4,c5⟩ hs (he.trans x') _ _ _ _ _ _ _
    ·rw[e2]
     exact ih (i+1) h (by omega) (by omega) (by omega) (nxt (fun q=>c3 q.2) (fun q=>c5 q.2)) he
   ·rw[e2]
    exact ih (i+1) h (by omega) (by omega) (by omega) (nxt (fun q=>c3 q.2) (fun q=>c4 q.1)) he
 ·refine zc ?_
  refine br (u=y) (by rw[e_eql hA]) (fun c4=>?_) (fun c4=>?_)<;>refine zc ?_
  ·refine br (w=x) (by rw[e_eql hA]) (fun c5=>?_) (fun c5=>?_)<;>refine zc ?_
   ·refine cconj_ok hA (he.lowOK hlow0) (fun r s t e h' hc x'=>?_)
    have okd:=(hv _ hmem).2.2.2.2;obtain⟨rfl,hs,rfl,rfl⟩:r=re/\s=-im/\t=d/\e=0:=by
     rcases hc with ⟨z,_⟩|⟨_,z⟩
     ·exact absurd okd z
     ·exact z
    refine⟨_,_,_,_,rfl,?_⟩;refine zc ?_;refine hr h' ⟨u,w,r,im,t,nn⟩ s hmem ⟨c4,c5⟩ hs (he.trans x') _ _ _ _ _ _ _
   ·rw[e2]
    exact ih (i+1) h (by omega) (by omega) (by omega) (nxt (fun q=>c2 q.1) (fun q=>c5 q.2)) he
  ·rw[e2]
   exact ih (i+1) h (by omega) (by omega) (by omega) (nxt (fun q=>c2 q.1) (fun q=>c4 q.1)) he
theorem cfind_ok{h:AHeap}(hlow:h.low<=h.next){a:Option Addr}{n c:Nat}{l:List Vk}(hl:Vs h a n l)(hn:n<=1000)(hv:∀v∈l,okV v){x y:Int}{Q:Value->AHeap->Prop}
  (hQ:∀h' u v w e,FndO l x y u v w e->Ext h h'->Q (.tuple #[.agg #[.int .i64 u,.int .i64 v,.int .i64 w],.int .i64 e]) h'):call 75 [.slice a n c,.int .i64 x,.int .i64 y] h Q:=by
 refine hA.bodyR Try.func75 r75_ok (hA.alike _ _ _ rfl) hlow (zc ?_);refine fnd_loop hA hlow (e_ofNat hA n) hl hn hv (fun h' hno x'=>?_) (fun h' v hm e x' v27 v26 v9 K'=>?_) (fun h' v s hm e hs x' v42 v41 v40 v39 v38 v9 K'=>?_) n 0 h (by omega) (by omega) (by omega) (fun v hv'=>by simp at hv') (.refl h)
 ·refine zc ?_
  exact hQ h' 0 0 0 6 (.no hno) x'
 ·refine zc ?_
  exact hQ h' _ _ _ 0 (.to v hm e) x'
 ·refine zc ?_
  subst hs;exact hQ h' _ _ _ 0 (.back v hm e) x'
