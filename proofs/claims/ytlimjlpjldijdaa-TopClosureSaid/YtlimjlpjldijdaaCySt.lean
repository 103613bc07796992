import Derived.Test.YtlimjlpjldijdaaCyK
set_option linter.unusedSimpArgs false
set_option linter.unusedVariables false
namespace Go.Proofs.Ytlimjlpjldijdaa
open Go.Sim
set_option maxRecDepth 100000
def okV(v:Vk):Prop:=0<=v.i/\v.i<v.j/\v.j<8/\0<=v.n/\okC v.re v.im v.den
inductive CkR(l:List Vk):Int->Prop
 |many (h:64<l.length):CkR l 4
 |bad (h:l.length<=64) (v:Vk) (hv:v∈l) (hb:¬okV v):CkR l 8
 |twice (h:l.length<=64) (h1:∀v∈l,okV v) (h2:¬(l.map Vk.pr).Nodup):CkR l 14
 |ok (h:l.length<=64) (h1:∀v∈l,okV v) (h2:(l.map Vk.pr).Nodup):CkR l 0
theorem CkR.uniq{l:List Vk}{e f:Int}(h:CkR l e)(k:CkR l f):e=f:=by
 cases h with
 |many h=>cases k with
  |many _=>rfl
  |bad h'=>omega
  |twice h'=>omega
  |ok h'=>omega
 |bad h v hv hb=>cases k with
  |many _=>omega
  |bad h'=>rfl
  |twice _ h1=>exact absurd (h1 v hv) hb
  |ok _ h1=>exact absurd (h1 v hv) hb
 |twice h h1 h2=>cases k with
  |many _=>omega
  |bad _ v hv hb=>exact absurd (h1 v hv) hb
  |twice _ _ _=>rfl
  |ok _ _ h3=>exact absurd h3 h2
 |ok h h1 h2=>cases k with
  |many _=>omega
  |bad _ v hv hb=>exact absurd (h1 v hv) hb
  |twice _ _ h3=>exact absurd h2 h3
  |ok _ _ _=>rfl
theorem CkR.ok0{l:List Vk}(h:CkR l 0):l.length<=64/\(∀v∈l,okV v)/\(l.map Vk.pr).Nodup:=by
 cases h with
 |ok h h1 h2=>exact⟨h,h1,h2⟩
theorem okV.st{l:List Vk}(h:∀v∈l,okV v):stOK l:=fun i i0 i1=>by
 obtain⟨h1,h2,h3,_⟩:=h _ (gt_mem l i0 i1);exact okP_of h1 (by omega) (by omega) h3
theorem okV.lt{l:List Vk}(h:∀v∈l,okV v):∀v∈l,v.i<v.j:=fun v hv=>(h v hv).2.1
theorem setB{h:AHeap}{b es:Nat}{l:List Bool}(c:Own h b es (l.map Value.bool)){i:Nat}(hi:i<l.length)(x:Bool):∃h',h.write b i [.bool x]=some h'/\Own h' b es ((l.set i x).map Value.bool)/\Wrote h h' b:=by
 obtain⟨h',h1,h2,h3⟩:=c.write (o:=i) (vs:=[.bool x]) (by simp;omega);refine⟨h',h1,?_,h3⟩;rw[List.map_set,<-set_take_drop _ _ _ (by simpa using hi)];exact h2
theorem getB{h:AHeap}{b es:Nat}{l:List Bool}(c:Own h b es (l.map Value.bool)){i:Nat}(hi:i<l.length):h.readG ⟨b,i,none⟩ 1=some [.bool (l.getD i false)]:=by
 rw[c.readG (o:=i) (n:=1) (by simp;omega)];rw[<-List.map_drop,<-List.map_take,List.drop_eq_getElem_cons hi,List.take_succ_cons,List.take_zero];simp[List.getElem?_eq_getElem hi]
variable{F:Prims}{call head arith cmp scmp bnot bsame conv neg imax imin ofNat slen place inR nz geZ rd wr push next mkOK nat zeros sadd eqAgg cut slc sslc strAt part app cpy putAt fresh lowered bump wrote addN lt ne fpAll fpApp brk yn rng mget mput mnew bytes clr mrng ment:_}(hA:AP F ⟨call,head,arith,cmp,scmp,bnot,bsame,conv,neg,imax,imin,ofNat,slen,place,inR,nz,geZ,rd,wr,push,next,mkOK,nat,zeros,sadd,eqAgg,cut,slc,sslc,strAt,part,app,cpy,putAt,fresh,lowered,bump,wrote,addN,lt,ne,fpAll,fpApp,brk,yn,rng,mget,mput,mnew,bytes,clr,mrng,ment⟩)
include hA
theorem station_ok{h:AHeap}(hlow:h.low<=h.next){x:Int}{Q:Value->AHeap->Prop}(hQ:∀r:Bool,(r=true↔0<=x/\x<8)->Q (.bool r) h):call 53 [.int .i64 x] h Q:=by
 refine hA.bodyR Try.func53 r53_ok (hA.alike _ _ _ rfl) hlow (zc ?_);refine br (0<=x) (by rw[e_geq hA]) (fun c=>?_) (fun c=>?_)<;>refine zc ?_
 ·rw[e_lss hA]
  exact hQ _ (by simp;omega)
 ·exact hQ _ (by simp;omega)
theorem ck_loop1{h0:AHeap}(hlow0:h0.low<=h0.next){a:Option Addr}{n c:Nat}{N:Int}(hN:N=n){l:List Vk}(hl:Vs h0 a n l)(hn:n<=1000){Q:Exit->SS->Prop}
  (hbad:∀h' v,v∈l->¬okV v->Ext h0 h'->∀e kn K,Q .ret ⟨(2,.int .i64 8) :: e,kn,K,h'⟩)
  (hok:∀h',(∀v∈l,okV v)->Ext h0 h'->Q (.exit 0) ⟨[(0,.slice a n c)],0,[],h'⟩) :
  ∀(m:Nat) (i:Int) (h:AHeap),(n-i).toNat<=m->0<=i->i<=n->(∀v∈l.take i.toNat,okV v)->Ext h0 h->
   head 33 4 0 ⟨[(0,.slice a n c),(11,.slice a n c),(12,.int .i64 N),(13,.int .i64 i)],0,[],h⟩ Q:=by
 have hlen:=hl.len;refine upTo (fun m ih=>?_);intro i h hm i0 i1 hv he;by_cases ci:i<n
 rotate_left
 ·refine hA.roundR Try.func33 r33_ok (zc ?_)
  refine br (i<N) (by rw[e_lss hA]) (fun c1=>by omega) (fun c1=>?_)<;>refine zc ?_;rw[List.take_of_length_le (by omega)]at hv;exact hok h hv he
 obtain⟨m,rfl⟩:∃k,m=k+1:=⟨m-1,by omega⟩
 replace ih:=ih m rfl
 obtain⟨bb,o,x,y,re,im,d,w,rfl,hbb,hg,r1,_⟩:=vs_at (hl.ext he) (i:=i) i0 ci;have q1:=rd_ok hA r1;have hmem:(⟨x,y,re,im,d,w⟩:Vk)∈l:=by rw[<-hg];exact gt_mem l i0 (by omega)
 have e2:arith .add .i64 i 1=i+1:=add64 hA (by omega) (by omega);have lowh:=he.lowOK hlow0;refine hA.roundR Try.func33 r33_ok (zc ?_);refine br (i<N) (by rw[e_lss hA]) (fun c1=>?_) (fun c1=>by omega)<;>refine zc ?_;refine zq ?_;refine⟨_,_,_,_,_,_,q1,?_⟩;refine zq ?_;have no:∀h',Ext h0 h'->¬okV ⟨x,y,re,im,d,w⟩->∀e kn K,Q .ret ⟨(2,.int .i64 8) :: e,kn,K,h'⟩:=fun h' x' hb e kn K=>hbad h' _ hmem hb x' e kn K
 refine br (x<0) (by rw[e_lss hA]) (fun c2=>?_) (fun c2=>?_)<;>refine zc ?_
 ·exact no h he (fun q=>by have:=q.1;simp only at this;omega) _ _ _
 refine br (y<=x) (by rw[e_geq hA]) (fun c3=>?_) (fun c3=>?_)<;>refine zc ?_
 ·exact no h he (fun q=>by have:=q.2.1;simp only at this;omega) _ _ _
 refine station_ok hA lowh (fun r hr=>⟨_,rfl,?_⟩);refine zc ?_;refine br (r=false) (by rw[e_bnot hA];cases r<;>rfl) (fun c4=>?_) (fun c4=>?_)<;>refine zc ?_
 ·exact no h he (fun q=>by rw[c4]at hr;have:=hr.2 ⟨by have:=q.1;have:=q.2.1;simp only at *;omega,q.2.2.1⟩;cases this) _ _ _
 have k4:=hr.1 (by cases r with|true=>rfl|false=>exact absurd rfl c4);refine br (w<0) (by rw[e_lss hA]) (fun c5=>?_) (fun c5=>?_)<;>refine zc ?_
 ·exact no h he (fun q=>by have:=q.2.2.2.1;simp only at this;omega) _ _ _
 refine ccheck_ok hA lowh (fun e h' ke x'=>⟨_,rfl,?_⟩);refine zc ?_;have xx:=he.trans x';refine br (e≠0) (by rw[e_neq hA]) (fun c6=>?_) (fun c6=>?_)<;>refine zc ?_
 ·refine no h' xx (fun q=>?_) _ _ _
  rcases ke with ⟨z,_⟩|⟨_,z⟩
  ·exact c6 z
  ·exact z q.2.2.2.2
 have ok5:okC re im d:=by
  rcases ke with ⟨_,z⟩|⟨z,_⟩
  ·exact z
  ·omega
 rw[e2];refine ih (i+1) h' (by omega) (by omega) (by omega) (fun v hv'=>?_) xx;rw[gt_take l i0 (by omega),hg]at hv';rcases List.mem_append.1 hv' with z|z
 ·exact hv v z
 ·rw[List.mem_singleton.1 z]
  exact⟨by show 0<=x;omega,by show x<y;omega,k4.2,by show 0<=w;omega,ok5⟩
def seenB(T S:List Bool)(ps:List F2):Prop:=S.length=64/\∀i j:Int,0<=i->i<8->0<=j->j<8->(S.getD (8*i+j).toNat false=true↔(⟨i,j⟩:F2)∈ps)
theorem ck_loop2{h0:AHeap}(hlow0:h0.low<=h0.next){a:Option Addr}{n c:Nat}{N:Int}(hN:N=n){l:List Vk}(hl:Vs h0 a n l)(hn:n<=1000)(hv:∀v∈l,okV v){b5 es:Nat}(hb5:h0.next<=b5){Q:Exit->SS->Prop}
  (hbad:∀h',¬(l.map Vk.pr).Nodup->Ext h0 h'->∀e kn K,Q .ret ⟨(2,.int .i64 14) :: e,kn,K,h'⟩)
  (hok:∀h',(l.map Vk.pr).Nodup->Ext h0 h'->∀e kn K,Q (.exit 2) ⟨e,kn,K,h'⟩) :
  ∀(m:Nat) (i:Int) (h:AHeap) (S:List Bool),(n-i).toNat<=m->0<=i->i<=n->Own h b5 es (S.map Value.bool)->b5<h.next->seenB [] S ((l.take i.toNat).map Vk.pr)->((l.take i.toNat).map Vk.pr).Nodup->Ext h0 h->
   head 33 11 0 ⟨[(5,.pointer (some ⟨b5,0,none⟩)),(45,.slice a n c),(46,.int .i64 N),(47,.int .i64 i)],0,[],h⟩ Q:=by
 have hlen:=hl.len;refine upTo (fun m ih=>?_);intro i h S hm i0 i1 ho hb hs hd he;by_cases ci:i<n
 rotate_left
 ·refine hA.roundR Try.func33 r33_ok (zc ?_)
  refine br (i<N) (by rw[e_lss hA]) (fun c1=>by omega) (fun c1=>?_)<;>refine zc ?_;rw[List.take_of_length_le (by omega)]at hd;exact hok h hd he _ _ _
 obtain⟨m,rfl⟩:∃k,m=k+1:=⟨m-1,by omega⟩
 replace ih:=ih m rfl
 obtain⟨bb,o,x,y,re,im,d,w,rfl,hbb,hg,r1,_⟩:=vs_at (hl.ext he) (i:=i) i0 ci;have q1:=rd_ok hA r1;have hmem:(⟨x,y,re,im,d,w⟩:Vk)∈l:=by rw[<-hg];exact gt_mem l i0 (by omega)
 obtain⟨v1,v2,v3,v4,v5⟩:=hv _ hmem;simp only at v1 v2 v3 v4;have e2:arith .add .i64 i 1=i+1:=add64 hA (by omega) (by omega);have lowh:=he.lowOK hlow0;refine hA.roundR Try.func33 r33_ok (zc ?_);refine br (i<N) (by rw[e_lss hA]) (fun c1=>?_) (fun c1=>by omega)<;>refine zc ?_;refine zq ?_;refine⟨_,_,_,_,_,_,q1,?_⟩;refine zq ?_;obtain⟨h9,hh9⟩:∃z,z=bump h 7:=⟨_,rfl⟩;have e9:Ext h h9:=by rw[hh9];exact ext_bump hA _ _
 rw[<-hh9];have o9:Own h9 b5 es (S.map Value.bool):=ho.ext e9 hb;obtain⟨kk,hkk⟩:∃z,z=(8*x+y).toNat:=⟨_,rfl⟩;have pl:place (place 0 x 8) y 1=kk:=by rw[e_place hA,e_place hA];omega
 obtain⟨sv,hsv⟩:∃z,z=S.getD kk false:=⟨_,rfl⟩;have q9:rd h9 b5 (place (place 0 x 8) y 1) 1 [.bool sv]:=by rw[pl,hsv];exact rd_at hA (getB o9 (by have:=hs.1;omega))
 refine⟨sv,q9,?_⟩;refine zq ?_;have key:=hs.2 x y v1 (by omega) (by omega) v3;rw[<-hkk,<-hsv]at key;have htk:=gt_take l i0 (by omega);rw[hg]at htk;refine br (sv=true) (by simp) (fun c2=>?_) (fun c2=>?_)<;>refine zc ?_
 ·refine hbad h9 (fun hn'=>?_) (he.trans e9) _ _ _
  have hn2:((l.take (i+1).toNat).map Vk.pr).Nodup:=hn'.sublist (List.Sublist.map _ (List.take_sublist _ _));rw[htk,List.map_append,List.nodup_append]at hn2;exact hn2.2.2 _ (key.1 c2) _ (List.mem_singleton.2 rfl) rfl
 ·refine zq ?_
  obtain⟨h10,hh10⟩:∃z,z=bump h9 7:=⟨_,rfl⟩;have e10:Ext h9 h10:=by rw[hh10];exact ext_bump hA _ _
  rw[<-hh10];have nb:=(e9.trans e10).next;have o10:Own h10 b5 es (S.map Value.bool):=o9.ext e10 (by have:=e9.next;omega);obtain⟨h11,w11,o11,k11⟩:=setB o10 (i:=kk) (by have:=hs.1;omega) true;have n11:=k11.next;refine⟨h11,by rw[pl];exact wr_at hA w11,?_⟩;refine zc ?_;rw[e2];refine ih (i+1) h11 (S.set kk true) (by omega) (by omega) (by omega) o11 (by omega) ?_ ?_ (k11.ext (he.trans (e9.trans e10)) hb5)
  ·rw[htk,List.map_append]
   refine⟨by rw[List.length_set];exact hs.1,fun p q p0 p1 q0 q1=>?_⟩;have hl64:=hs.1;have h1:=hs.2 p q p0 p1 q0 q1;rw[List.mem_append,<-h1,List.getD_eq_getElem?_getD,List.getD_eq_getElem?_getD,List.getElem?_set];by_cases cc:kk=(8*p+q).toNat
   ·rw[if_pos cc,if_pos (by omega)]
    have hp:p=x/\q=y:=by omega
    rw[hp.1,hp.2];exact⟨fun _=>.inr (List.mem_singleton.2 rfl),fun _=>rfl⟩
   ·rw[if_neg cc]
    refine⟨.inl,fun z=>z.elim id (fun z=>?_)⟩;have z':=List.mem_singleton.1 z;have z1:p=x:=congrArg F2.n z';have z2:q=y:=congrArg F2.d z';rw[z1,z2]at cc;exact absurd hkk cc
  ·rw[htk,List.map_append,List.nodup_append]
   refine⟨hd,List.nodup_cons.2 ⟨by simp,List.nodup_nil⟩,fun u hu v hv' e=>?_⟩;rw[List.mem_singleton.1 hv']at e;exact c2 (key.2 (by rw[e]at hu;exact hu))
theorem clcheck_ok{h:AHeap}(hlow:h.low<=h.next){a:Option Addr}{n c:Nat}{l:List Vk}(hl:Vs h a n l)(hn:n<=1000){Q:Value->AHeap->Prop}
  (hQ:∀e h',CkR l e->Ext h h'->Q (.int .i64 e) h'):call 33 [.slice a n c] h Q:=by
 have hlen:=hl.len;refine hA.bodyR Try.func33 r33_ok (hA.alike _ _ _ rfl) hlow (zc ?_);refine br (64<n) (by rw[e_gtr hA,e_ofNat hA];simp;omega) (fun c1=>?_) (fun c1=>?_)<;>refine zc ?_
 ·exact hQ 4 h (.many (by omega)) (.refl h)
 refine ck_loop1 hA hlow (e_ofNat hA n) hl hn (fun h' v hv hb x e kn K=>?_) (fun h' hok x=>?_) n 0 h (by omega) (by omega) (by omega) (fun v hv=>by simp at hv) (.refl h)
 ·refine zc ?_
  exact hQ 8 h' (.bad (by omega) v hv hb) x
 ·refine zc ?_
  simp only[e_next hA,e_push hA,e_ofNat hA];have ex:=Ext.push h' 64 ((List.replicate 64 false).map Value.bool);have ox:=Own.push h' 64 ((List.replicate 64 false).map Value.bool);have nx:(h'.push 64 ((List.replicate 64 false).map Value.bool)).next=h'.next+1:=rfl;refine ck_loop2 hA hlow rfl hl hn hok (b5:=h'.next) (es:=64) x.next (fun h2 hd x2 e kn K=>?_) (fun h2 hd x2 e kn K=>?_) n 0 _ (List.replicate 64 false) (by omega) (by omega) (by omega) ox (by show h'.next<h'.next+1;omega) ⟨by simp,fun i j i0 i1 j0 j1=>?_⟩ (by simp) (x.trans ex)
  ·refine zc ?_
   exact hQ 14 h2 (.twice (by omega) hok hd) x2
  ·refine zc ?_
   exact hQ 0 h2 (.ok (by omega) hok hd) x2
  ·rw[List.getD_eq_getElem?_getD,List.getElem?_replicate]
   split<;>simp
end Go.Proofs.Ytlimjlpjldijdaa
namespace Go.Proofs.Ytlimjlpjldijdaa
open Go.Sim
set_option maxRecDepth 100000
def rowP(i:Nat):List F2:=((List.range 8).filter (fun j=>decide (i<j))).map fun j:Nat=>⟨(i:Int),(j:Int)⟩
def allP:List F2:=(List.range 8).flatMap rowP
def basP(l:List Vk):List F2:=allP.filter (fun p=>decide (p∈l.map Vk.pr))
theorem allP_mem{i j:Int}(h1:0<=i)(h2:i<j)(h3:j<8):(⟨i,j⟩:F2)∈allP:=by
 unfold allP rowP;rw[List.mem_flatMap];refine⟨i.toNat,List.mem_range.2 (by omega),List.mem_map.2 ⟨j.toNat,List.mem_filter.2 ⟨List.mem_range.2 (by omega),decide_eq_true (by omega)⟩,?_⟩⟩;rw[show((i.toNat:Nat):Int)=i by omega,show((j.toNat:Nat):Int)=j by omega]
theorem allP_is:allP=[⟨0,1⟩,⟨0,2⟩,⟨0,3⟩,⟨0,4⟩,⟨0,5⟩,⟨0,6⟩,⟨0,7⟩,⟨1,2⟩,⟨1,3⟩,⟨1,4⟩,⟨1,5⟩,⟨1,6⟩,⟨1,7⟩,⟨2,3⟩,⟨2,4⟩,⟨2,5⟩,⟨2,6⟩,⟨2,7⟩,⟨3,4⟩,⟨3,5⟩,⟨3,6⟩,⟨3,7⟩,⟨4,5⟩,⟨4,6⟩,⟨4,7⟩,⟨5,6⟩,⟨5,7⟩,⟨6,7⟩]:=rfl
theorem allP_pw:allP.Pairwise (fun x y=>8*x.n+x.d<8*y.n+y.d):=by
 rw[allP_is];simp
theorem basP_is{l:List Vk}(h:∀v∈l,okV v):Bas l (basP l):=by
 refine⟨fun i j i0 hij j1=>?_,fun x=>?_⟩
 ·have hp:(basP l).Pairwise (fun x y=>8*x.n+x.d<8*y.n+y.d):=allP_pw.sublist List.filter_sublist
  obtain⟨i',rfl⟩:∃i':Nat,i=i':=⟨i.toNat,by omega⟩;obtain⟨j',rfl⟩:∃j':Nat,j=j':=⟨j.toNat,by omega⟩;have hi':i'<(basP l).length:=by omega
  have hj':j'<(basP l).length:=by omega
  have gi:gt (basP l) (i':Int)=(basP l)[i']:=by unfold gt;simp[List.getElem?_eq_getElem hi']
  have gj:gt (basP l) (j':Int)=(basP l)[j']:=by unfold gt;simp[List.getElem?_eq_getElem hj']
  rw[gi,gj];have:=List.pairwise_iff_getElem.1 hp i' j' hi' hj' (by omega);exact Rat.intCast_lt_intCast.2 this
 ·unfold basP
  rw[List.mem_filter,decide_eq_true_iff,List.mem_map];constructor
  ·rintro⟨_,v,hv,e⟩
   exact⟨v,hv,e.symm⟩
  ·rintro⟨v,hv,rfl⟩
   obtain⟨h1,h2,h3,_⟩:=h v hv;exact⟨allP_mem h1 h2 h3,v,hv,rfl⟩
variable{F:Prims}{call head arith cmp scmp bnot bsame conv neg imax imin ofNat slen place inR nz geZ rd wr push next mkOK nat zeros sadd eqAgg cut slc sslc strAt part app cpy putAt fresh lowered bump wrote addN lt ne fpAll fpApp brk yn rng mget mput mnew bytes clr mrng ment:_}(hA:AP F ⟨call,head,arith,cmp,scmp,bnot,bsame,conv,neg,imax,imin,ofNat,slen,place,inR,nz,geZ,rd,wr,push,next,mkOK,nat,zeros,sadd,eqAgg,cut,slc,sslc,strAt,part,app,cpy,putAt,fresh,lowered,bump,wrote,addN,lt,ne,fpAll,fpApp,brk,yn,rng,mget,mput,mnew,bytes,clr,mrng,ment⟩)
include hA
theorem Basis_ok(hW:LW F){h:AHeap}(hlow:h.low<=h.next){a:Option Addr}{n c:Nat}{l:List Vk}(hl:Vs h a n l)(hn:n<=1000){Q:Value->AHeap->Prop}
  (hbad:∀e h',e≠0->CkR l e->Ext h h'->Q (.tuple #[.slice none 0 0,.int .i64 e]) h')
  (hok:∀t pk h' a' k c' hs',CkR l 0->Parts (basP l) (stS l) (fun _=>false) [] 0 t pk->t.length<=8->GrR iC 1 h' a' k hs' ((chds t (basP l)).map (circF t))->From h.next a'->Ext h h'->Q (.tuple #[.slice a' k c',.int .i64 0]) h') :
  call 11 [.slice a n c] h Q:=by
 refine hA.bodyR Try.func11 r11_ok (hA.alike _ _ _ rfl) hlow (zc ?_);refine clcheck_ok hA hlow hl hn (fun e h1 ke x1=>⟨_,rfl,?_⟩);refine zc ?_;refine br (e≠0) (by rw[e_neq hA]) (fun c1=>?_) (fun c1=>?_)<;>refine zc ?_
 ·exact hbad e h1 c1 ke x1
 have e0:e=0:=by omega
 subst e0;obtain⟨k1,k2,k3⟩:=ke.ok0;refine basis_ok hA hW (x1.lowOK hlow) (hl.ext x1) (okV.st k2) (okV.lt k2) hn (basP_is k2) k3 (fun t pk h2 a1 k1' c1' a2 c2 hs' q1 q2 q3 q4 q5 q6 q7=>?_);refine⟨_,_,_,_,_,_,rfl,?_⟩;refine zc ?_;exact hok t pk h2 a2 k1' c2 hs' ke q1 q2 q4 (fun ad had=>by have:=q7 ad had;have:=x1.next;omega) (x1.trans q5)
end Go.Proofs.Ytlimjlpjldijdaa
namespace Go.Proofs.Ytlimjlpjldijdaa
open Go.Sim
set_option maxRecDepth 100000
def apart(c:List Int):Prop:=(∀s∈c,0<=s/\s<8)/\c.Nodup
structure RB8(B:List Bool)(c:List Int):Prop where
 len:B.length=8
 val:∀x:Int,0<=x->x<8->(B.getD x.toNat false=true↔x∈c)
theorem RB8.set{B:List Bool}{c:List Int}(h:RB8 B c){s:Int}(s0:0<=s)(s1:s<8):RB8 (B.set s.toNat true) (c++[s]):=by
 refine⟨by rw[List.length_set];exact h.len,fun x x0 x1=>?_⟩;rw[List.getD_eq_getElem?_getD,List.getElem?_set,List.mem_append,List.mem_singleton];by_cases e:x=s
 ·rw[e,if_pos rfl,if_pos (by rw[h.len];omega)]
  exact⟨fun _=>.inr rfl,fun _=>rfl⟩
 ·rw[if_neg (by omega),<-List.getD_eq_getElem?_getD,h.val x x0 x1]
  exact⟨.inl,fun q=>q.elim id (fun q=>absurd q e)⟩
variable{F:Prims}{call head arith cmp scmp bnot bsame conv neg imax imin ofNat slen place inR nz geZ rd wr push next mkOK nat zeros sadd eqAgg cut slc sslc strAt part app cpy putAt fresh lowered bump wrote addN lt ne fpAll fpApp brk yn rng mget mput mnew bytes clr mrng ment:_}(hA:AP F ⟨call,head,arith,cmp,scmp,bnot,bsame,conv,neg,imax,imin,ofNat,slen,place,inR,nz,geZ,rd,wr,push,next,mkOK,nat,zeros,sadd,eqAgg,cut,slc,sslc,strAt,part,app,cpy,putAt,fresh,lowered,bump,wrote,addN,lt,ne,fpAll,fpApp,brk,yn,rng,mget,mput,mnew,bytes,clr,mrng,ment⟩)
include hA
theorem df_loop{h0:AHeap}(hlow0:h0.low<=h0.next){a:Option Addr}{n cp:Nat}{N:Int}(hN:N=n){c:List Int}(hl:Rows iC 1 h0 a n c)(hn:n<=1000){b3 es:Nat}(hb3:h0.next<=b3){Q:Exit->SS->Prop}
  (hbad:∀h',¬apart c->Ext h0 h'->∀e kn K,Q .ret ⟨(2,.bool false) :: e,kn,K,h'⟩)
  (hok:∀h',apart c->Ext h0 h'->∀e kn K,Q (.exit 0) ⟨e,kn,K,h'⟩) :
  ∀(m:Nat) (i:Int) (h:AHeap) (B:List Bool),(n-i).toNat<=m->0<=i->i<=n->Own h b3 es (B.map Value.bool)->b3<h.next->RB8 B (c.take i.toNat)->apart (c.take i.toNat)->Ext h0 h->
   head 35 3 0 ⟨[(3,.pointer (some ⟨b3,0,none⟩)),(6,.slice a n cp),(7,.int .i64 N),(8,.int .i64 i)],0,[],h⟩ Q:=by
 have hlen:=hl.len;refine upTo (fun m ih=>?_);intro i h B hm i0 i1 ho hb hr hd he;by_cases ci:i<n
 rotate_left
 ·refine hA.roundR Try.func35 r35_ok (zc ?_)
  refine br (i<N) (by rw[e_lss hA]) (fun c1=>by omega) (fun c1=>?_)<;>refine zc ?_;rw[List.take_of_length_le (by omega)]at hd;exact hok h hd he _ _ _
 obtain⟨m,rfl⟩:∃k,m=k+1:=⟨m-1,by omega⟩
 replace ih:=ih m rfl
 obtain⟨bb,o,rfl,_,r1⟩:=(hl.ext he).at (i:=i) i0 (by omega);obtain⟨v,hv⟩:∃v,v=gt c i:=⟨_,rfl⟩;have q1:rd h bb (place o i 1) 1 [.int .i64 v]:=by rw[hv];exact rd_ok hA (r1 0 1 (by omega) (by omega))
 have e2:arith .add .i64 i 1=i+1:=add64 hA (by omega) (by omega);have htk:=gt_take c i0 (by omega);rw[<-hv]at htk;have hmem:v∈c:=by rw[hv];exact gt_mem c i0 (by omega)
 refine hA.roundR Try.func35 r35_ok (zc ?_);refine br (i<N) (by rw[e_lss hA]) (fun c1=>?_) (fun c1=>by omega)<;>refine zc ?_;refine zq ?_;refine station_ok hA (he.lowOK hlow0) (fun r hr'=>⟨_,rfl,?_⟩);refine zc ?_;refine br (r=false) (by rw[e_bnot hA];cases r<;>rfl) (fun c2=>?_) (fun c2=>?_)<;>refine zc ?_
 ·exact hbad h (fun q=>by have:=hr'.2 (q.1 v hmem);rw[c2]at this;cases this) he _ _ _
 obtain⟨v0,v8⟩:=hr'.1 (by cases r with|true=>rfl|false=>exact absurd rfl c2);obtain⟨vi,hvi⟩:∃z,z=B.getD v.toNat false:=⟨_,rfl⟩;have lb:=hr.len;have p3:rd h b3 (place 0 v 1) 1 [.bool vi]:=by rw[hvi];exact rd_ok hA (by rw[Nat.zero_add,Nat.mul_one];exact getB ho (by omega))
 have hval:=hr.val v v0 v8;rw[<-hvi]at hval;refine zq ?_;refine br (vi=true) (by simp) (fun c3=>?_) (fun c3=>?_)<;>refine zc ?_
 ·refine hbad h (fun q=>?_) he _ _ _
  have nd:(c.take (i+1).toNat).Nodup:=q.2.sublist (List.take_sublist _ _);rw[htk,List.nodup_append]at nd;exact nd.2.2 _ (hval.1 c3) _ (List.mem_singleton.2 rfl) rfl
 obtain⟨h11,w11,o11,k11⟩:=setB ho (i:=v.toNat) (by omega) true;refine zq ?_;refine⟨h11,wr_ok hA (by rw[Nat.zero_add,Nat.mul_one];exact w11),?_⟩;refine zc ?_;rw[e2];have n11:=k11.next;refine ih (i+1) h11 (B.set v.toNat true) (by omega) (by omega) (by omega) o11 (by omega) (by rw[htk];exact hr.set v0 v8) ?_ (k11.ext he hb3);rw[htk];refine⟨fun s hs=>?_,?_⟩
 ·rcases List.mem_append.1 hs with z|z
  ·exact hd.1 s z
  ·rw[List.mem_singleton.1 z];exact⟨v0,v8⟩
 ·rw[List.nodup_append]
  refine⟨hd.2,List.nodup_cons.2 ⟨by simp,List.nodup_nil⟩,fun u hu w hw e=>?_⟩;rw[List.mem_singleton.1 hw]at e;exact c3 (hval.2 (by rw[<-e];exact hu))
theorem different_ok{h:AHeap}(hlow:h.low<=h.next){a:Option Addr}{n cp:Nat}{c:List Int}(hl:Rows iC 1 h a n c)(hn:n<=1000){Q:Value->AHeap->Prop}
  (hQ:∀(r:Bool) h',(r=true↔apart c)->Ext h h'->Q (.bool r) h'):call 35 [.slice a n cp] h Q:=by
 refine hA.bodyR Try.func35 r35_ok (hA.alike _ _ _ rfl) hlow (zc ?_);simp only[e_next hA,e_push hA,e_ofNat hA];have ex:=Ext.push h 8 ((List.replicate 8 false).map Value.bool);have ox:=Own.push h 8 ((List.replicate 8 false).map Value.bool);refine df_loop hA hlow rfl hl hn (b3:=h.next) (es:=8) (Nat.le_refl _) (fun h2 hd x2 e kn K=>?_) (fun h2 hd x2 e kn K=>?_) n 0 _ (List.replicate 8 false) (by omega) (by omega) (by omega) ox (by show h.next<h.next+1;omega) ⟨by simp,fun x x0 x1=>?_⟩ ⟨by simp,by simp⟩ ex
 ·refine zc ?_
  exact hQ false h2 ⟨(fun q=>by cases q),fun q=>absurd q hd⟩ x2
 ·refine zc ?_
  exact hQ true h2 ⟨fun _=>hd,fun _=>rfl⟩ x2
 ·rw[List.getD_eq_getElem?_getD,List.getElem?_replicate]
  split<;>simp
end Go.Proofs.Ytlimjlpjldijdaa
namespace Go.Proofs.Ytlimjlpjldijdaa
open Go.Sim
set_option maxRecDepth 100000
def circle(c:List Int):Prop:=3<=c.length/\c.length<=8/\apart c
theorem apart_iff{c:List Int}:apart c↔∀p:Int,0<=p->p<c.length->(0<=gt c p/\gt c p<8)/\∀q:Int,0<=q->q<p->gt c p≠gt c q:=by
 constructor
 ·rintro⟨h1,h2⟩ p p0 p1
  refine⟨h1 _ (gt_mem c p0 p1),fun q q0 q1 e=>?_⟩;obtain⟨p',rfl⟩:∃p':Nat,p=p':=⟨p.toNat,by omega⟩;obtain⟨q',rfl⟩:∃q':Nat,q=q':=⟨q.toNat,by omega⟩;have hp:p'<c.length:=by omega
  have hq:q'<c.length:=by omega
  have gp:gt c (p':Int)=c[p']:=by unfold gt;simp[List.getElem?_eq_getElem hp]
  have gq:gt c (q':Int)=c[q']:=by unfold gt;simp[List.getElem?_eq_getElem hq]
  rw[gp,gq]at e;exact List.pairwise_iff_getElem.1 h2 q' p' hq hp (by omega) e.symm
 ·intro h
  refine⟨fun s hs=>?_,?_⟩
  ·obtain⟨j,j0,j1,rfl⟩:=mem_gt hs
   exact(h j j0 j1).1
  ·refine List.pairwise_iff_getElem.2 (fun i j hi hj hij e=>?_)
   have gp:gt c (j:Int)=c[j]:=by unfold gt;simp[List.getElem?_eq_getElem hj]
   have gq:gt c (i:Int)=c[i]:=by unfold gt;simp[List.getElem?_eq_getElem hi]
   exact(h j (by omega) (by omega)).2 i (by omega) (by omega) (by rw[gp,gq];exact e.symm)
variable{F:Prims}{call head arith cmp scmp bnot bsame conv neg imax imin ofNat slen place inR nz geZ rd wr push next mkOK nat zeros sadd eqAgg cut slc sslc strAt part app cpy putAt fresh lowered bump wrote addN lt ne fpAll fpApp brk yn rng mget mput mnew bytes clr mrng ment:_}(hA:AP F ⟨call,head,arith,cmp,scmp,bnot,bsame,conv,neg,imax,imin,ofNat,slen,place,inR,nz,geZ,rd,wr,push,next,mkOK,nat,zeros,sadd,eqAgg,cut,slc,sslc,strAt,part,app,cpy,putAt,fresh,lowered,bump,wrote,addN,lt,ne,fpAll,fpApp,brk,yn,rng,mget,mput,mnew,bytes,clr,mrng,ment⟩)
include hA
theorem rstation_ok{h:AHeap}(hlow:h.low<=h.next){x:Int}{Q:Value->AHeap->Prop}(hQ:∀r:Bool,(r=true↔0<=x/\x<8)->Q (.bool r) h):call 62 [.int .i64 x] h Q:=by
 refine hA.bodyR Try.func62 r62_ok (hA.alike _ _ _ rfl) hlow (zc ?_);refine br (0<=x) (by rw[e_geq hA]) (fun c=>?_) (fun c=>?_)<;>refine zc ?_
 ·rw[e_lss hA]
  exact hQ _ (by simp;omega)
 ·exact hQ _ (by simp;omega)
theorem ap_in{h0:AHeap}(hlow0:h0.low<=h0.next){a:Option Addr}{n cp:Nat}{c:List Int}(hl:Rows iC 1 h0 a n c)(hn:n<=1000){i:Int}(i0:0<=i)(i1:i<n){Q:Exit->SS->Prop}
  (hbad:∀h' k,0<=k->k<i->gt c i=gt c k->Ext h0 h'->∀e kn K,Q .ret ⟨(2,.bool false) :: e,kn,K,h'⟩)
  (hok:∀h',(∀k,0<=k->k<i->gt c i≠gt c k)->Ext h0 h'->∀kn,Q (.exit 2) ⟨[(0,.slice a n cp),(3,.int .i64 i)],kn,[],h'⟩) :
  ∀(m:Nat) (k:Int) (h:AHeap),(i-k).toNat<=m->0<=k->k<=i->(∀j,0<=j->j<k->gt c i≠gt c j)->Ext h0 h->
   head 50 7 0 ⟨[(0,.slice a n cp),(3,.int .i64 i),(4,.int .i64 k)],0,[],h⟩ Q:=by
 have hlen:=hl.len;refine upTo (fun m ih=>?_);intro k h hm k0 k1 hv he;by_cases ci:k<i
 rotate_left
 ·refine hA.roundR Try.func50 r50_ok (zc ?_)
  refine br (k<i) (by rw[e_lss hA]) (fun c1=>absurd c1 ci) (fun c1=>?_)<;>refine zc ?_;exact hok h (fun j j0 j1=>hv j j0 (by omega)) he _
 obtain⟨m,rfl⟩:∃k,m=k+1:=⟨m-1,by omega⟩
 replace ih:=ih m rfl
 obtain⟨h9,hh9⟩:∃z,z=bump h 9:=⟨_,rfl⟩;have e9:Ext h0 h9:=by rw[hh9];exact he.trans (ext_bump hA _ _)
 obtain⟨bb,o,rfl,_,r1⟩:=(hl.ext e9).at (i:=i) i0 (by omega);obtain⟨_,_,hc',_,r2⟩:=(hl.ext e9).at (i:=k) k0 (by omega);cases hc';obtain⟨u,hu⟩:∃u,u=gt c i:=⟨_,rfl⟩;obtain⟨w,hw⟩:∃w,w=gt c k:=⟨_,rfl⟩;have p1:rd h9 bb (place o i 1) 1 [.int .i64 u]:=by rw[hu];exact rd_ok hA (r1 0 1 (by omega) (by omega))
 have p2:rd h9 bb (place o k 1) 1 [.int .i64 w]:=by rw[hw];exact rd_ok hA (r2 0 1 (by omega) (by omega))
 have e2:arith .add .i64 k 1=k+1:=add64 hA (by omega) (by omega);refine hA.roundR Try.func50 r50_ok (zc ?_);refine br (k<i) (by rw[e_lss hA]) (fun c1=>?_) (fun c1=>absurd ci c1)<;>refine zc ?_;rw[<-hh9];refine zq ?_;refine br (w=u) (by rw[e_eql hA]) (fun c2=>?_) (fun c2=>?_)<;>refine zc ?_
 ·exact hbad h9 k k0 ci (by rw[<-hu,<-hw];exact c2.symm) e9 _ _ _
 ·rw[e2]
  refine ih (k+1) h9 (by omega) (by omega) (by omega) (fun j j0 j1=>?_) e9;by_cases z:j=k
  ·rw[z,<-hu,<-hw];exact fun q=>c2 q.symm
  ·exact hv j j0 (by omega)
theorem ap_out{h0:AHeap}(hlow0:h0.low<=h0.next){a:Option Addr}{n cp:Nat}{c:List Int}(hl:Rows iC 1 h0 a n c)(hn:n<=1000){Q:Exit->SS->Prop}
  (hbad:∀h',¬apart c->Ext h0 h'->∀e kn K,Q .ret ⟨(2,.bool false) :: e,kn,K,h'⟩)
  (hok:∀h',apart c->Ext h0 h'->∀e kn K,Q (.exit 0) ⟨e,kn,K,h'⟩) :
  ∀(m:Nat) (i:Int) (h:AHeap),(n-i).toNat<=m->0<=i->i<=n->(∀p:Int,0<=p->p<i->(0<=gt c p/\gt c p<8)/\∀q:Int,0<=q->q<p->gt c p≠gt c q)->Ext h0 h->
   head 50 2 0 ⟨[(0,.slice a n cp),(3,.int .i64 i)],0,[],h⟩ Q:=by
 have hlen:=hl.len;refine upTo (fun m ih=>?_);intro i h hm i0 i1 hv he;by_cases ci:i<n
 rotate_left
 ·refine hA.roundR Try.func50 r50_ok (zc ?_)
  refine br (i<n) (by rw[e_lss hA,e_ofNat hA]) (fun c1=>absurd c1 ci) (fun c1=>?_)<;>refine zc ?_;exact hok h (apart_iff.2 (fun p p0 p1=>hv p p0 (by omega))) he _ _ _
 obtain⟨m,rfl⟩:∃k,m=k+1:=⟨m-1,by omega⟩
 replace ih:=ih m rfl
 have e2:arith .add .i64 i 1=i+1:=add64 hA (by omega) (by omega);obtain⟨bb,o,rfl,_,r1⟩:=(hl.ext he).at (i:=i) i0 (by omega);obtain⟨u,hu⟩:∃u,u=gt c i:=⟨_,rfl⟩;have p1:rd h bb (place o i 1) 1 [.int .i64 u]:=by rw[hu];exact rd_ok hA (r1 0 1 (by omega) (by omega))
 refine hA.roundR Try.func50 r50_ok (zc ?_);refine br (i<n) (by rw[e_lss hA,e_ofNat hA]) (fun c1=>?_) (fun c1=>absurd ci c1)<;>refine zc ?_;refine zq ?_;refine rstation_ok hA (he.lowOK hlow0) (fun r hr=>⟨_,rfl,?_⟩);refine zc ?_;refine br (r=false) (by rw[e_bnot hA];cases r<;>rfl) (fun c2=>?_) (fun c2=>?_)<;>refine zc ?_
 ·refine hbad h (fun q=>?_) he _ _ _
  have:=hr.2 (by rw[hu];exact(apart_iff.1 q i i0 (by omega)).1);rw[c2]at this;cases this
 have hu8:=hr.1 (by cases r with|true=>rfl|false=>exact absurd rfl c2);refine ap_in hA hlow0 hl hn i0 ci (fun h' k k0 k1 hk x e kn K=>?_) (fun h' hne x kn=>?_) i.toNat 0 h (by omega) (by omega) (by omega) (fun j j0 j1=>by omega) he
 ·refine zc ?_
  exact hbad h' (fun q=>(apart_iff.1 q i i0 (by omega)).2 k k0 k1 hk) x _ _ _
 ·refine zc ?_
  rw[e2];refine ih (i+1) h' (by omega) (by omega) (by omega) (fun p p0 p1=>?_) x;by_cases z:p=i
  ·subst z;exact⟨by rw[<-hu];exact hu8,fun q q0 q1=>hne q q0 q1⟩
  ·exact hv p p0 (by omega)
theorem rapart_ok{h:AHeap}(hlow:h.low<=h.next){a:Option Addr}{n cp:Nat}{c:List Int}(hl:Rows iC 1 h a n c)(hn:n<=1000){Q:Value->AHeap->Prop}
  (hQ:∀(r:Bool) h',(r=true↔apart c)->Ext h h'->Q (.bool r) h'):call 50 [.slice a n cp] h Q:=by
 refine hA.bodyR Try.func50 r50_ok (hA.alike _ _ _ rfl) hlow (zc ?_);refine ap_out hA hlow hl hn (fun h' hb x e kn K=>?_) (fun h' hb x e kn K=>?_) n 0 h (by omega) (by omega) (by omega) (fun p p0 p1=>by omega) (.refl h)
 ·refine zc ?_
  exact hQ false h' ⟨(fun q=>by cases q),fun q=>absurd q hb⟩ x
 ·refine zc ?_
  exact hQ true h' ⟨fun _=>hb,fun _=>rfl⟩ x
theorem rcircle_ok{h:AHeap}(hlow:h.low<=h.next){a:Option Addr}{n cp:Nat}{c:List Int}(hl:Rows iC 1 h a n c)(hn:n<=1000){Q:Value->AHeap->Prop}
  (hQ:∀(r:Bool) h',(r=true↔circle c)->Ext h h'->Q (.bool r) h'):call 31 [.slice a n cp] h Q:=by
 have hlen:=hl.len;refine hA.bodyR Try.func31 r31_ok (hA.alike _ _ _ rfl) hlow (zc ?_);refine br (3<=n) (by rw[e_geq hA,e_ofNat hA];simp;omega) (fun c1=>?_) (fun c1=>?_)<;>refine zc ?_
 rotate_left
 ·exact hQ false h ⟨(fun q=>by cases q),fun q=>absurd q.1 (by omega)⟩ (.refl h)
 refine br (n<=8) (by rw[e_leq hA,e_ofNat hA];simp;omega) (fun c2=>?_) (fun c2=>?_)<;>refine zc ?_
 rotate_left
 ·exact hQ false h ⟨(fun q=>by cases q),fun q=>absurd q.2.1 (by omega)⟩ (.refl h)
 refine rapart_ok hA hlow hl hn (fun r h' hr x=>⟨_,rfl,?_⟩);refine zc ?_;exact hQ r h' ⟨fun q=>⟨by omega,by omega,hr.1 q⟩,fun q=>hr.2 q.2.2⟩ x
end Go.Proofs.Ytlimjlpjldijdaa
namespace Go.Proofs.Ytlimjlpjldijdaa
open Go.Sim
set_option maxRecDepth 100000
def nxC(c:List Int)(k:Int):Int:=gt c ((k+1) % c.length)
def stp(c:List Int)(i j k:Int):Int:=(if gt c k=i/\nxC c k=j then 1 else 0)-(if gt c k=j/\nxC c k=i then 1 else 0)
def stN(c:List Int)(i j:Int):Nat->Int
 |0=>0
 |k+1=>stN c i j k+stp c i j k
def steps(c:List Int)(i j:Int):Int:=stN c i j c.length
variable{F:Prims}{call head arith cmp scmp bnot bsame conv neg imax imin ofNat slen place inR nz geZ rd wr push next mkOK nat zeros sadd eqAgg cut slc sslc strAt part app cpy putAt fresh lowered bump wrote addN lt ne fpAll fpApp brk yn rng mget mput mnew bytes clr mrng ment:_}(hA:AP F ⟨call,head,arith,cmp,scmp,bnot,bsame,conv,neg,imax,imin,ofNat,slen,place,inR,nz,geZ,rd,wr,push,next,mkOK,nat,zeros,sadd,eqAgg,cut,slc,sslc,strAt,part,app,cpy,putAt,fresh,lowered,bump,wrote,addN,lt,ne,fpAll,fpApp,brk,yn,rng,mget,mput,mnew,bytes,clr,mrng,ment⟩)
include hA
