import Derived.Test.YtmkiclinllifiaaCyK
set_option linter.unusedSimpArgs false
set_option linter.unusedVariables false
namespace Go.Proofs.Ytmkiclinllifiaa
open Go.Sim
set_option maxRecDepth 100000
def okV(v:Vk):Prop:=0<=v.i/\v.i<v.j/\v.j<8/\0<=v.n/\okC v.re v.im v.den
inductive CkR(l:List Vk):Int->Prop
 |many (h:64<l.length):CkR l 4
 |bad (h:l.length<=64) (v:Vk) (hv:v∈l) (hb:¬okV v):CkR l 8
 |twice (h:l.length<=64) (h1:∀v∈l,okV v) (h2:¬(l.map Vk.pr).Nodup):CkR l 14
 |ok (h:l.length<=64) (h1:∀v∈l,okV v) (h2:(l.map Vk.pr).Nodup):CkR l 0
theorem CkR.uniq{l:List Vk}{e f:Int}(h:CkR l e)(k:CkR l f):e=f:=by
 cases h with
 |many h=>cases k with
  |many _=>rfl
  |bad h'=>omega
  |twice h'=>omega
  |ok h'=>omega
 |bad h v hv hb=>cases k with
  |many _=>omega
  |bad h'=>rfl
  |twice _ h1=>exact absurd (h1 v hv) hb
  |ok _ h1=>exact absurd (h1 v hv) hb
 |twice h h1 h2=>cases k with
  |many _=>omega
  |bad _ v hv hb=>exact absurd (h1 v hv) hb
  |twice _ _ _=>rfl
  |ok _ _ h3=>exact absurd h3 h2
 |ok h h1 h2=>cases k with
  |many _=>omega
  |bad _ v hv hb=>exact absurd (h1 v hv) hb
  |twice _ _ h3=>exact absurd h2 h3
  |ok _ _ _=>rfl
theorem CkR.ok0{l:List Vk}(h:CkR l 0):l.length<=64/\(∀v∈l,okV v)/\(l.map Vk.pr).Nodup:=by
 cases h with
 |ok h h1 h2=>exact⟨h,h1,h2⟩
theorem okV.st{l:List Vk}(h:∀v∈l,okV v):stOK l:=fun i i0 i1=>by
 obtain⟨h1,h2,h3,_⟩:=h _ (gt_mem l i0 i1);exact okP_of h1 (by omega) (by omega) h3
theorem okV.lt{l:List Vk}(h:∀v∈l,okV v):∀v∈l,v.i<v.j:=fun v hv=>(h v hv).2.1
theorem setB{h:AHeap}{b es:Nat}{l:List Bool}(c:Own h b es (l.map Value.bool)){i:Nat}(hi:i<l.length)(x:Bool):∃h',h.write b i [.bool x]=some h'/\Own h' b es ((l.set i x).map Value.bool)/\Wrote h h' b:=by
 obtain⟨h',h1,h2,h3⟩:=c.write (o:=i) (vs:=[.bool x]) (by simp;omega);refine⟨h',h1,?_,h3⟩;rw[List.map_set,<-set_take_drop _ _ _ (by simpa using hi)];exact h2
theorem getB{h:AHeap}{b es:Nat}{l:List Bool}(c:Own h b es (l.map Value.bool)){i:Nat}(hi:i<l.length):h.readG ⟨b,i,none⟩ 1=some [.bool (l.getD i false)]:=by
 rw[c.readG (o:=i) (n:=1) (by simp;omega)];rw[<-List.map_drop,<-List.map_take,List.drop_eq_getElem_cons hi,List.take_succ_cons,List.take_zero];simp[List.getElem?_eq_getElem hi]
variable{F:Prims}{call head arith a0 b0 c0 d0 e0 f0 g0 k0 l0 m0 place n0 nz o0 rd wr push next r0 s0 t0 u0 v0 w0 x0 y0 z0 a1 b1 d1 e1 f1 g1 bump k1 l1 lt ne m1 n1 o1 yn s1 t1 u1 w1 x1 y1 a2 b2:_}(hA:AP F ⟨call,head,arith,a0,b0,c0,d0,e0,f0,g0,k0,l0,m0,place,n0,nz,o0,rd,wr,push,next,r0,s0,t0,u0,v0,w0,x0,y0,z0,a1,b1,d1,e1,f1,g1,bump,k1,l1,lt,ne,m1,n1,o1,yn,s1,t1,u1,w1,x1,y1,a2,b2⟩)
include hA
theorem station_ok{h:AHeap}(hlow:h.low<=h.next){x:Int}{Q:Value->AHeap->Prop}(hQ:∀r:Bool,(r=true↔0<=x/\x<8)->Q (.bool r) h):call 61 [.int .i64 x] h Q:=by
 refine hA.bodyR Try.func61 r61_ok (hA.alike _ _ _ rfl) hlow (zc ?_);refine br (0<=x) (by rw[e_geq hA]) (fun c=>?_) (fun c=>?_)<;>refine zc ?_
 ·rw[e_lss hA]
  exact hQ _ (by simp;omega)
 ·exact hQ _ (by simp;omega)
theorem ck_loop1{h0:AHeap}(hlow0:h0.low<=h0.next){a:Option Addr}{n c:Nat}{N:Int}(hN:N=n){l:List Vk}(hl:Vs h0 a n l)(hn:n<=1000){Q:Exit->SS->Prop}
  (hbad:∀h' v,v∈l->¬okV v->Ext h0 h'->∀e kn K,Q .ret ⟨(2,.int .i64 8) :: e,kn,K,h'⟩)
  (hok:∀h',(∀v∈l,okV v)->Ext h0 h'->Q (.exit 0) ⟨[(0,.slice a n c)],0,[],h'⟩) :
  ∀(m:Nat) (i:Int) (h:AHeap),(n-i).toNat<=m->0<=i->i<=n->(∀v∈l.take i.toNat,okV v)->Ext h0 h->
   head 35 4 0 ⟨[(0,.slice a n c),(11,.slice a n c),(12,.int .i64 N),(13,.int .i64 i)],0,[],h⟩ Q:=by
 have hlen:=hl.len;refine upTo (fun m ih=>?_);intro i h hm i0 i1 hv he;by_cases ci:i<n
 rotate_left
 ·refine hA.roundR Try.func35 r35_ok (zc ?_)
  refine br (i<N) (by rw[e_lss hA]) (fun c1=>by omega) (fun c1=>?_)<;>refine zc ?_;rw[List.take_of_length_le (by omega)]at hv;exact hok h hv he
 obtain⟨m,rfl⟩:∃k,m=k+1:=⟨m-1,by omega⟩
 replace ih:=ih m rfl
 obtain⟨bb,o,x,y,re,im,d,w,rfl,hbb,hg,r1,_⟩:=vs_at (hl.ext he) (i:=i) i0 ci;have q1:=rd_ok hA r1;have hmem:(⟨x,y,re,im,d,w⟩:Vk)∈l:=by rw[<-hg];exact gt_mem l i0 (by omega)
 have e2:arith .add .i64 i 1=i+1:=add64 hA (by omega) (by omega);have lowh:=he.lowOK hlow0;refine hA.roundR Try.func35 r35_ok (zc ?_);refine br (i<N) (by rw[e_lss hA]) (fun c1=>?_) (fun c1=>by omega)<;>refine zc ?_;refine zq ?_;refine⟨_,_,_,_,_,_,q1,?_⟩;refine zq ?_;have no:∀h',Ext h0 h'->¬okV ⟨x,y,re,im,d,w⟩->∀e kn K,Q .ret ⟨(2,.int .i64 8) :: e,kn,K,h'⟩:=fun h' x' hb e kn K=>hbad h' _ hmem hb x' e kn K
 refine br (x<0) (by rw[e_lss hA]) (fun c2=>?_) (fun c2=>?_)<;>refine zc ?_
 ·exact no h he (fun q=>by have:=q.1;simp only at this;omega) _ _ _
 refine br (y<=x) (by rw[e_geq hA]) (fun c3=>?_) (fun c3=>?_)<;>refine zc ?_
 ·exact no h he (fun q=>by have:=q.2.1;simp only at this;omega) _ _ _
 refine station_ok hA lowh (fun r hr=>⟨_,rfl,?_⟩);refine zc ?_;refine br (r=false) (by rw[e_bnot hA];cases r<;>rfl) (fun c4=>?_) (fun c4=>?_)<;>refine zc ?_
 ·exact no h he (fun q=>by rw[c4]at hr;have:=hr.2 ⟨by have:=q.1;have:=q.2.1;simp only at *;omega,q.2.2.1⟩;cases this) _ _ _
 have k4:=hr.1 (by cases r with|true=>rfl|false=>exact absurd rfl c4);refine br (w<0) (by rw[e_lss hA]) (fun c5=>?_) (fun c5=>?_)<;>refine zc ?_
 ·exact no h he (fun q=>by have:=q.2.2.2.1;simp only at this;omega) _ _ _
 refine ccheck_ok hA lowh (fun e h' ke x'=>⟨_,rfl,?_⟩);refine zc ?_;have xx:=he.trans x';refine br (e≠0) (by rw[e_neq hA]) (fun c6=>?_) (fun c6=>?_)<;>refine zc ?_
 ·refine no h' xx (fun q=>?_) _ _ _
  rcases ke with ⟨z,_⟩|⟨_,z⟩
  ·exact c6 z
  ·exact z q.2.2.2.2
 have ok5:okC re im d:=by
  rcases ke with ⟨_,z⟩|⟨z,_⟩
  ·exact z
  ·omega
 rw[e2];refine ih (i+1) h' (by omega) (by omega) (by omega) (fun v hv'=>?_) xx;rw[gt_take l i0 (by omega),hg]at hv';rcases List.mem_append.1 hv' with z|z
 ·exact hv v z
 ·rw[List.mem_singleton.1 z]
  exact⟨by show 0<=x;omega,by show x<y;omega,k4.2,by show 0<=w;omega,ok5⟩
def seenB(T S:List Bool)(ps:List F2):Prop:=S.length=64/\∀i j:Int,0<=i->i<8->0<=j->j<8->(S.getD (8*i+j).toNat false=true↔(⟨i,j⟩:F2)∈ps)
theorem ck_loop2{h0:AHeap}(hlow0:h0.low<=h0.next){a:Option Addr}{n c:Nat}{N:Int}(hN:N=n){l:List Vk}(hl:Vs h0 a n l)(hn:n<=1000)(hv:∀v∈l,okV v){b5 es:Nat}(hb5:h0.next<=b5){Q:Exit->SS->Prop}
  (hbad:∀h',¬(l.map Vk.pr).Nodup->Ext h0 h'->∀e kn K,Q .ret ⟨(2,.int .i64 14) :: e,kn,K,h'⟩)
  (hok:∀h',(l.map Vk.pr).Nodup->Ext h0 h'->∀e kn K,Q (.exit 2) ⟨e,kn,K,h'⟩) :
  ∀(m:Nat) (i:Int) (h:AHeap) (S:List Bool),(n-i).toNat<=m->0<=i->i<=n->Own h b5 es (S.map Value.bool)->b5<h.next->seenB [] S ((l.take i.toNat).map Vk.pr)->((l.take i.toNat).map Vk.pr).Nodup->Ext h0 h->
   head 35 11 0 ⟨[(5,.pointer (some ⟨b5,0,none⟩)),(45,.slice a n c),(46,.int .i64 N),(47,.int .i64 i)],0,[],h⟩ Q:=by
 have hlen:=hl.len;refine upTo (fun m ih=>?_);intro i h S hm i0 i1 ho hb hs hd he;by_cases ci:i<n
 rotate_left
 ·refine hA.roundR Try.func35 r35_ok (zc ?_)
  refine br (i<N) (by rw[e_lss hA]) (fun c1=>by omega) (fun c1=>?_)<;>refine zc ?_;rw[List.take_of_length_le (by omega)]at hd;exact hok h hd he _ _ _
 obtain⟨m,rfl⟩:∃k,m=k+1:=⟨m-1,by omega⟩
 replace ih:=ih m rfl
 obtain⟨bb,o,x,y,re,im,d,w,rfl,hbb,hg,r1,_⟩:=vs_at (hl.ext he) (i:=i) i0 ci;have q1:=rd_ok hA r1;have hmem:(⟨x,y,re,im,d,w⟩:Vk)∈l:=by rw[<-hg];exact gt_mem l i0 (by omega)
 obtain⟨v1,v2,v3,v4,v5⟩:=hv _ hmem;simp only at v1 v2 v3 v4;have e2:arith .add .i64 i 1=i+1:=add64 hA (by omega) (by omega);have lowh:=he.lowOK hlow0;refine hA.roundR Try.func35 r35_ok (zc ?_);refine br (i<N) (by rw[e_lss hA]) (fun c1=>?_) (fun c1=>by omega)<;>refine zc ?_;refine zq ?_;refine⟨_,_,_,_,_,_,q1,?_⟩;refine zq ?_;obtain⟨h9,hh9⟩:∃z,z=bump h 7:=⟨_,rfl⟩;have e9:Ext h h9:=by rw[hh9];exact ext_bump hA _ _
 rw[<-hh9];have o9:Own h9 b5 es (S.map Value.bool):=ho.ext e9 hb;obtain⟨kk,hkk⟩:∃z,z=(8*x+y).toNat:=⟨_,rfl⟩;have pl:place (place 0 x 8) y 1=kk:=by rw[e_place hA,e_place hA];omega
 obtain⟨sv,hsv⟩:∃z,z=S.getD kk false:=⟨_,rfl⟩;have q9:rd h9 b5 (place (place 0 x 8) y 1) 1 [.bool sv]:=by rw[pl,hsv];exact rd_at hA (getB o9 (by have:=hs.1;omega))
 refine⟨sv,q9,?_⟩;refine zq ?_;have key:=hs.2 x y v1 (by omega) (by omega) v3;rw[<-hkk,<-hsv]at key;have htk:=gt_take l i0 (by omega);rw[hg]at htk;refine br (sv=true) (by simp) (fun c2=>?_) (fun c2=>?_)<;>refine zc ?_
 ·refine hbad h9 (fun hn'=>?_) (he.trans e9) _ _ _
  have hn2:((l.take (i+1).toNat).map Vk.pr).Nodup:=hn'.sublist (List.Sublist.map _ (List.take_sublist _ _));rw[htk,List.map_append,List.nodup_append]at hn2;exact hn2.2.2 _ (key.1 c2) _ (List.mem_singleton.2 rfl) rfl
 ·refine zq ?_
  obtain⟨h10,hh10⟩:∃z,z=bump h9 7:=⟨_,rfl⟩;have e10:Ext h9 h10:=by rw[hh10];exact ext_bump hA _ _
  rw[<-hh10];have nb:=(e9.trans e10).next;have o10:Own h10 b5 es (S.map Value.bool):=o9.ext e10 (by have:=e9.next;omega);obtain⟨h11,w11,o11,k11⟩:=setB o10 (i:=kk) (by have:=hs.1;omega) true;have n11:=k11.next;refine⟨h11,by rw[pl];exact wr_at hA w11,?_⟩;refine zc ?_;rw[e2];refine ih (i+1) h11 (S.set kk true) (by omega) (by omega) (by omega) o11 (by omega) ?_ ?_ (k11.ext (he.trans (e9.trans e10)) hb5)
  ·rw[htk,List.map_append]
   refine⟨by rw[List.length_set];exact hs.1,fun p q p0 p1 q0 q1=>?_⟩;have hl64:=hs.1;have h1:=hs.2 p q p0 p1 q0 q1;rw[List.mem_append,<-h1,List.getD_eq_getElem?_getD,List.getD_eq_getElem?_getD,List.getElem?_set];by_cases cc:kk=(8*p+q).toNat
   ·rw[if_pos cc,if_pos (by omega)]
    have hp:p=x/\q=y:=by omega
    rw[hp.1,hp.2];exact⟨fun _=>.inr (List.mem_singleton.2 rfl),fun _=>rfl⟩
   ·rw[if_neg cc]
    refine⟨.inl,fun z=>z.elim id (fun z=>?_)⟩;have z':=List.mem_singleton.1 z;have z1:p=x:=congrArg F2.n z';have z2:q=y:=congrArg F2.d z';rw[z1,z2]at cc;exact absurd hkk cc
  ·rw[htk,List.map_append,List.nodup_append]
   refine⟨hd,List.nodup_cons.2 ⟨by simp,List.nodup_nil⟩,fun u hu v hv' e=>?_⟩;rw[List.mem_singleton.1 hv']at e;exact c2 (key.2 (by rw[e]at hu;exact hu))
theorem clcheck_ok{h:AHeap}(hlow:h.low<=h.next){a:Option Addr}{n c:Nat}{l:List Vk}(hl:Vs h a n l)(hn:n<=1000){Q:Value->AHeap->Prop}
  (hQ:∀e h',CkR l e->Ext h h'->Q (.int .i64 e) h'):call 35 [.slice a n c] h Q:=by
 have hlen:=hl.len;refine hA.bodyR Try.func35 r35_ok (hA.alike _ _ _ rfl) hlow (zc ?_);refine br (64<n) (by rw[e_gtr hA,e_ofNat hA];simp;omega) (fun c1=>?_) (fun c1=>?_)<;>refine zc ?_
 ·exact hQ 4 h (.many (by omega)) (.refl h)
 refine ck_loop1 hA hlow (e_ofNat hA n) hl hn (fun h' v hv hb x e kn K=>?_) (fun h' hok x=>?_) n 0 h (by omega) (by omega) (by omega) (fun v hv=>by simp at hv) (.refl h)
 ·refine zc ?_
  exact hQ 8 h' (.bad (by omega) v hv hb) x
 ·refine zc ?_
  simp only[e_next hA,e_push hA,e_ofNat hA];have ex:=Ext.push h' 64 ((List.replicate 64 false).map Value.bool);have ox:=Own.push h' 64 ((List.replicate 64 false).map Value.bool);have nx:(h'.push 64 ((List.replicate 64 false).map Value.bool)).next=h'.next+1:=rfl;refine ck_loop2 hA hlow rfl hl hn hok (b5:=h'.next) (es:=64) x.next (fun h2 hd x2 e kn K=>?_) (fun h2 hd x2 e kn K=>?_) n 0 _ (List.replicate 64 false) (by omega) (by omega) (by omega) ox (by show h'.next<h'.next+1;omega) ⟨by simp,fun i j i0 i1 j0 j1=>?_⟩ (by simp) (x.trans ex)
  ·refine zc ?_
   exact hQ 14 h2 (.twice (by omega) hok hd) x2
  ·refine zc ?_
   exact hQ 0 h2 (.ok (by omega) hok hd) x2
  ·rw[List.getD_eq_getElem?_getD,List.getElem?_replicate]
   split<;>simp
