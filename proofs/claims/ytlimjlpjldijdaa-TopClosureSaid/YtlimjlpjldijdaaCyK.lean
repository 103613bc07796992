import Derived.Test.YtlimjlpjldijdaaCyP
import Derived.Test.YtlimjlpjldijdaaCyJ
import Derived.Test.YtlimjlpjldijdaaSymSlc
import Derived.Test.YtlimjlpjldijdaaCxM
set_option linter.unusedSimpArgs false
set_option linter.unusedVariables false
namespace Go.Proofs.Ytlimjlpjldijdaa
open Go.Sim
def Conn(T:List (Int×Int))(x y:Int):Prop:=∃p,pathR T x y=some p
theorem Conn.refl(T:List (Int×Int))(x:Int):Conn T x x:=⟨_,path_self T x⟩
theorem Conn.symm{T:List (Int×Int)}(hg:grows T=true){x y:Int}(h:Conn T x y):Conn T y x:=by
 obtain⟨p,hp⟩:=h;exact⟨_,by rw[path_back hg x y,hp];rfl⟩
theorem conn_suf{T:List (Int×Int)}(hg:grows T=true){y j:Int}:∀(p:List Int) (i:Int),pathR T i y=some p->j∈p->Conn T j y
 | [],i,h,hj=>by cases hj
 | [z],i,h,hj=>by
  rw[List.mem_singleton]at hj;obtain⟨⟨q,h1⟩,_⟩:=path_ends hg h;simp only[List.cons.injEq]at h1;rw[hj,h1.1];exact⟨_,h⟩
 |z :: u :: q,i,h,hj=>by
  obtain⟨⟨q',h1⟩,_⟩:=path_ends hg h;simp only[List.cons.injEq]at h1;have hz:=h1.1;subst hz;rcases List.mem_cons.1 hj with e|hj
  ·rw[e];exact⟨_,h⟩
  ·exact conn_suf hg (u :: q) u (path_rest hg h).1 hj
theorem Conn.step{T:List (Int×Int)}(hg:grows T=true){i j y:Int}(ha:Adj T i j)(h:Conn T i y):Conn T j y:=by
 obtain⟨p,hp⟩:=h;by_cases c:j∈p
 ·exact conn_suf hg p i hp c
 ·exact⟨_,path_step hg ha hp c⟩
theorem conn_trans_aux{T:List (Int×Int)}(hg:grows T=true){y z:Int}(hz:Conn T y z):∀(p:List Int) (x:Int),pathR T x y=some p->Conn T x z
 | [],x,h=>by obtain⟨⟨q,h1⟩,_⟩:=path_ends hg h;cases h1
 | [u],x,h=>by rw[path_one hg h];exact hz
 |u :: v :: q,x,h=>by
  obtain⟨⟨q',h1⟩,_⟩:=path_ends hg h;simp only[List.cons.injEq]at h1;have hx:=h1.1;subst hx;obtain⟨h2,h3⟩:=path_rest hg h;exact(conn_trans_aux hg hz (v :: q) v h2).step hg h3.symm
theorem Conn.trans{T:List (Int×Int)}(hg:grows T=true){x y z:Int}(h:Conn T x y)(k:Conn T y z):Conn T x z:=by
 obtain⟨p,hp⟩:=h;exact conn_trans_aux hg k p x hp
theorem path_more{T:List (Int×Int)}{e:Int×Int}(hg:grows (e :: T)=true){x y:Int}{p:List Int}(h:pathR T x y=some p):pathR (e :: T) x y=some p:=by
 obtain⟨a,b⟩:=e;obtain⟨l,o,L⟩:=leaf_of hg;have hg':=grows_tail hg;by_cases c:x=y
 ·subst c;rw[path_self]at h ⊢;exact h
 rw[L.path,if_neg c];have nl:∀u,u∈p->u≠l:=fun u hu e=>by
  rcases path_mem hg' h u hu with ⟨e1,_⟩|e1
  ·exact c e1
  ·rw[e,L.new]at e1;cases e1
 obtain⟨⟨q1,h1⟩,q2,h2⟩:=path_ends hg' h;rw[if_neg (nl x (by rw[h1];exact List.mem_cons_self)),if_neg (nl y (by rw[h2];simp))];exact h
theorem Conn.more{T:List (Int×Int)}{e:Int×Int}(hg:grows (e :: T)=true){x y:Int}(h:Conn T x y):Conn (e :: T) x y:=by
 obtain⟨p,hp⟩:=h;exact⟨p,path_more hg hp⟩
theorem cut_none{P:List F2}{R:Int->Bool}(h:P.find? (cutP R)=none):∀p∈P,R p.n=R p.d:=fun p hp=>by
 have:=List.find?_eq_none.1 h p hp;unfold cutP at this;simpa using this
theorem Reach.conn{P:List F2}{R0:Int->Bool}{s:Int}(hc:∀p∈P,R0 p.n=R0 p.d){R:Int->Bool}{t:List F2}{R':Int->Bool}{t':List F2}(h:Reach P R t R' t')(hg:Go.Sim.grows (trT t)=true)(hr:InR R t)
  (h0:∀x,R0 x=true->R x=true) (hs:∀x,R x=true->R0 x=true\/Conn (trT t) s x) :
  (∀x,R' x=true->R0 x=true\/Conn (trT t') s x)/\(∀x y,Conn (trT t) x y->Conn (trT t') x y):=by
 induction h with
 |stop h=>exact⟨hs,fun _ _ h=>h⟩
 | @step R t p R' t' h r ih=>
  have hcut:=List.find?_some h;have hmem:=List.mem_of_find?_eq_some h;obtain⟨g1,g2⟩:=cut_grows hg hr hcut;have gg:=g1;rw[trT_add]at gg;have mono:∀x y,Conn (trT t) x y->Conn (trT (t++[p])) x y:=fun x y hxy=>by rw[trT_add];exact hxy.more gg
  have adj:Adj (trT (t++[p])) p.n p.d:=by rw[trT_add];exact .inl List.mem_cons_self
  have hne:R p.n≠R p.d:=by unfold cutP at hcut;simpa using hcut
  have hRs:∀x,R x=true->addR R p x=true:=fun x hx=>by
   unfold addR setR;by_cases c:x=p.d
   ·rw[if_pos c]
   ·rw[if_neg c]
    by_cases c2:x=p.n
    ·rw[if_pos c2]
    ·rw[if_neg c2];exact hx
  obtain⟨k1,k2⟩:=ih g1 g2 (fun x hx=>hRs x (h0 x hx)) (fun x hx=>by
   by_cases c:R x=true
   ·rcases hs x c with q|q
    ·exact .inl q
    ·exact .inr (mono _ _ q)
   ·
    right;have hx':x=p.n\/x=p.d:=by
     unfold addR setR at hx;by_cases c1:x=p.d
     ·exact .inr c1
     ·rw[if_neg c1]at hx
      by_cases c2:x=p.n
      ·exact .inl c2
      ·rw[if_neg c2]at hx;exact absurd hx c
    rcases hx' with rfl|rfl
    ·have hd:R p.d=true:=by
      cases q:R p.d with
      |true=>rfl
      |false=>rw[q]at hne;cases q2:R p.n with
       |true=>exact absurd q2 c
       |false=>exact absurd q2 hne
     rcases hs _ hd with q|q
     ·exact absurd (h0 _ (by rw[hc p hmem];exact q)) c
     ·exact(((mono _ _ q).symm g1).step g1 adj.symm).symm g1
    ·have hd:R p.n=true:=by
      cases q:R p.n with
      |true=>rfl
      |false=>rw[q]at hne;cases q2:R p.d with
       |true=>exact absurd q2 c
       |false=>exact absurd q2.symm hne
     rcases hs _ hd with q|q
     ·exact absurd (h0 _ (by rw[<-hc p hmem];exact q)) c
     ·exact(((mono _ _ q).symm g1).step g1 adj).symm g1)
  exact⟨k1,fun x y hxy=>k2 x y (mono x y hxy)⟩
theorem Parts.conn{P:List F2}{S:Int->Prop}(hS:∀p∈P,S p.n/\S p.d){R:Int->Bool}{t:List F2}{k:Int}{t':List F2}{k':Int}(h:Parts P S R t k t' k')(hg:Go.Sim.grows (trT t)=true)(hr:InR R t)
  (hc:∀p∈P,R p.n=R p.d) (hj:∀p∈P,R p.n=true->Conn (trT t) p.n p.d):∀p∈P,Conn (trT t') p.n p.d:=by
 induction h with
 |stop h=>exact fun p hp=>hj p hp (h _ (hS p hp).1)
 | @part R t k s R1 t1 t' k' h1 h2 h3 r q ih=>
  have hr':InR (setR R s) t:=fun x hx=>by
   unfold setR;by_cases c:x=s
   ·rw[if_pos c]
   ·rw[if_neg c];exact hr x hx
  obtain⟨g1,g2,g3,g4,g5⟩:=r.grows hg hr';obtain⟨k1,k2⟩:=r.conn (R0:=R) (s:=s) hc hg hr' (fun x hx=>by
   unfold setR;by_cases c:x=s
   ·rw[if_pos c]
   ·rw[if_neg c];exact hx) (fun x hx=>by
   unfold setR at hx;by_cases c:x=s
   ·right;rw[c];exact .refl _ _
   ·rw[if_neg c]at hx;exact .inl hx)
  refine ih g1 g2 (cut_none g5) (fun p hp hx=>?_);by_cases c:R p.n=true
  ·exact k2 _ _ (hj p hp c)
  ·have cd:¬R p.d=true:=by rw[<-hc p hp];exact c
   rcases k1 _ hx with q|q
   ·exact absurd q c
   ·rcases k1 _ ((cut_none g5 p hp).symm.trans hx)with q'|q'
    ·exact absurd q' cd
    ·exact(q.symm g1).trans g1 q'
theorem Parts.conn0{P:List F2}{S:Int->Prop}(hS:∀p∈P,S p.n/\S p.d){t:List F2}{k:Int}(h:Parts P S (fun _=>false) [] 0 t k):∀p∈P,Conn (trT t) p.n p.d:=
 h.conn hS rfl (fun x hx=>by cases hx) (fun _ _=>rfl) (fun p hp hx=>by cases hx)
end Go.Proofs.Ytlimjlpjldijdaa
namespace Go.Proofs.Ytlimjlpjldijdaa
open Go.Sim
set_option maxRecDepth 100000
def iC(x:Int):List Value:=[.int .i64 x]
theorem iC_len(x:Int):(iC x).length=1:=rfl
theorem iC_ok(x:Int):(iC x).all cellOK=true:=rfl
theorem iC_flat(p:List Int):p.flatMap iC=p.map (.int .i64):=by
 induction p with
 |nil=>rfl
 |cons x p ih=>rw[List.flatMap_cons,ih];rfl
theorem TI1:SliceT Try.prog 25 3 1:=⟨by kernel_rfl,by kernel_rfl,⟨8,by kernel_rfl,by omega⟩,⟨.int .i64 0,by kernel_rfl,rfl⟩⟩
theorem TL1:SliceT Try.prog 44 25 1:=⟨by kernel_rfl,by kernel_rfl,⟨24,by kernel_rfl,by omega⟩,⟨.slice none 0 0,by kernel_rfl,rfl⟩⟩
theorem pairs_enc:∀(t:List F2),pairsOf (encE pairK boolK (onK t))=some (t.map F2.t)
 | []=>rfl
 |p :: t=>by
  have ih:=pairs_enc t;show(match pairK p.t,pairsOf (encE pairK boolK (onK t))with
   | .agg ⟨[.int .i64 a,.int .i64 b]⟩,some l=>some ((a,b) :: l)
   |_,_=>none)=_
  rw[ih];rfl
def circF(t:List F2)(p:F2):List Int:=p.n :: ((pathR (trT t) p.d p.n).getD []).dropLast
variable{F:Prims}{call head arith a0 b0 c0 d0 e0 f0 g0 j0 k0 l0 m0 n0 nz o0 rd wr push next p0 q0 r0 s0 t0 u0 v0 w0 x0 part z0 b1 d1 f1 j1 l1 m1 n1 lt ne o1 p1 s1 yn u1 v1 x1 z1 d2 f2 i2 j2:_}(hA:AP F ⟨call,head,arith,a0,b0,c0,d0,e0,f0,g0,j0,k0,l0,m0,n0,nz,o0,rd,wr,push,next,p0,q0,r0,s0,t0,u0,v0,w0,x0,part,z0,b1,d1,f1,j1,l1,m1,n1,lt,ne,o1,p1,s1,yn,u1,v1,x1,z1,d2,f2,i2,j2⟩)
include hA
theorem way_call(hW:LW F){h:AHeap}{id:Nat}{t:List F2}(hm:h.m.get id=some (.map (encE pairK boolK (onK t))))(hg:grows (trT t)=true)(ht:t.length<=1000){x y:Int}{Q:Value->AHeap->Prop}
  (hno:pathR (trT t) x y=none->Q (.slice none 0 0) h) (hyes:∀p,pathR (trT t) x y=some p->Q (.slice (some ⟨h.next,0,none⟩) p.length (someCap 1 p.length)) (h.push 1 (p.map (.int .i64)))) :
  call 54 [.map (some id),.int .i64 x,.int .i64 y] h Q:=by
 have hr:(t.map F2.t).reverse=trT t:=rfl;cases c:pathR (trT t) x y with
 |none=>
  refine hA.prim (h':=h) (v:=.slice none 0 0) ?_ (hno c);rw[hW.way];unfold wayF;simp only[hm,pairs_enc,hr,hg,Bool.true_and,ble_true (show(t.map F2.t).length<=1000 by rw[List.length_map];exact ht),cond_true,c]
 |some p=>
  refine hA.prim (h':=h.push 1 (p.map (.int .i64))) (v:=.slice (some ⟨h.next,0,none⟩) p.length (someCap 1 p.length)) ?_ (hyes p c);rw[hW.way];unfold wayF;simp only[hm,pairs_enc,hr,hg,Bool.true_and,ble_true (show(t.map F2.t).length<=1000 by rw[List.length_map];exact ht),cond_true,c]
structure BaI(h0:AHeap)(a':Option Addr)(k c':Nat)(hs:List Hd)(g:List (List Int))(h:AHeap):Prop where
 ext:Ext h0 h
 hd:Apd h 1 a' k c' (hs.flatMap Hd.cells)
 fr:From h0.next a'
 lh:hs.length=k
 lg:g.length=k
 row:∀y:Int,0<=y->y<k->Rows iC 1 h (gt hs y).a (gt hs y).n (gt g y)/\∀ad,(gt hs y).a=some ad->h0.next<ad.block/\∀ad',a'=some ad'->ad.block≠ad'.block
omit hA in
theorem BaI.more{h0:AHeap}{a':Option Addr}{k c':Nat}{hs:List Hd}{g:List (List Int)}{h h':AHeap}(b:BaI h0 a' k c' hs g h)(x:Ext h h'):BaI h0 a' k c' hs g h':=
 ⟨b.ext.trans x,b.hd.ext x,b.fr,b.lh,b.lg,fun y y0 y1=>⟨(b.row y y0 y1).1.ext x,(b.row y y0 y1).2⟩⟩
theorem ba_loop(hW:LW F){h0:AHeap}(hlow0:h0.low<=h0.next){a:Option Addr}{n c:Nat}{N:Int}(hN:N=n){C:List F2}(hl:Rows F2.cells 2 h0 a n C)(hn:n<=1000){id:Nat}(hid:id<h0.next){t:List F2}(hm:h0.m.get id=some (.map (encE pairK boolK (onK t))))(hg:grows (trT t)=true)(ht:t.length<=8)
  (hc:∀p∈C,Conn (trT t) p.d p.n/\p.n≠p.d) {Q:Exit->SS->Prop}
  (hQ:∀h' a' c' hs,BaI h0 a' n c' hs (C.map (circF t)) h'->Q (.exit 0) ⟨[(5,.slice a n c),(6,.slice a' n c')],0,[],h'⟩) :
  ∀(m:Nat) (i:Int) (h:AHeap) (a':Option Addr) (k c':Nat) (hs:List Hd),(n-i).toNat<=m->0<=i->i<=n->(k:Int)=i->BaI h0 a' k c' hs ((C.take i.toNat).map (circF t)) h->
   head 34 5 0 ⟨[(4,.map (some id)),(5,.slice a n c),(6,.slice a' k c'),(16,.slice a n c),(17,.int .i64 N),(18,.int .i64 i)],0,[],h⟩ Q:=by
 have hlen:=hl.len;refine upTo (fun m ih=>?_);intro i h a' k c' hs hm' i0 i1 hk hb;by_cases ci:i<n
 rotate_left
 ·obtain rfl:k=n:=by omega
  refine hA.roundR Try.func34 r34_ok (zc ?_);refine br (i<N) (by rw[e_lss hA]) (fun c1=>by omega) (fun c1=>?_)<;>refine zc ?_;rw[List.take_of_length_le (by omega)]at hb;exact hQ h a' c' hs hb
 obtain⟨m,rfl⟩:∃k,m=k+1:=⟨m-1,by omega⟩
 replace ih:=ih m rfl
 obtain⟨bb,o,x,y,rfl,hbb,hgt,r1,_⟩:=fr_at (hl.ext hb.ext) (i:=i) i0 ci;have q1:=rd_ok hA r1;have e2:arith .add .i64 i 1=i+1:=add64 hA (by omega) (by omega);have hp:=hc ⟨x,y⟩ (by rw[<-hgt];exact gt_mem C i0 (by omega));obtain⟨⟨w,hw⟩,hxy⟩:=hp;have htl:(trT t).length=t.length:=by unfold trT;simp
 obtain⟨⟨w1,hw1⟩,w2,hw2⟩:=path_ends hg hw;have wl:=path_len hg hw;refine hA.roundR Try.func34 r34_ok (zc ?_);refine br (i<N) (by rw[e_lss hA]) (fun c1=>?_) (fun c1=>by omega)<;>refine zc ?_;refine zq ?_;refine way_call hA hW (by rw[hb.ext.get id hid];exact hm) hg (by omega) (fun q=>by rw[hw]at q;cases q) (fun w' q=>?_);obtain rfl:w=w':=by rw[hw]at q;exact Option.some.inj q
 refine⟨_,_,_,rfl,?_⟩;obtain⟨wn,hwn⟩:∃z,z=w.length:=⟨_,rfl⟩;obtain⟨cw,hcw⟩:∃z,z=someCap 1 wn:=⟨_,rfl⟩;have ew:=Ext.push h 1 (w.map (.int .i64));have ow:=Own.push h 1 (w.map (.int .i64));have nw:(h.push 1 (w.map (.int .i64))).next=h.next+1:=rfl;generalize h.push 1 (w.map (.int .i64))=hX at *;obtain⟨bw,hbw⟩:∃z,z=h.next:=⟨_,rfl⟩;rw[<-hwn,<-hcw,<-hbw];rw[<-hbw]at ow;have wpos:2<=wn:=by
  rw[hwn,hw1];cases w1 with
  |nil=>exact absurd (path_one hg (hw.trans (congrArg some hw1))).symm hxy
  |cons=>simp
 refine zc ?_;obtain⟨z,hz⟩:∃z:Int,z=wn-1:=⟨_,rfl⟩;rw[e_ofNat hA,sub64 hA (by omega) (by omega),<-hz];refine⟨by rw[e_cut hA,hcw,capLow_some (by unfold slack;omega)];omega,?_⟩;simp only[e_nat hA,e_next hA,e_push hA];have ex:=Ext.push hX 1 [.int .i64 x];have ox:=Own.push hX 1 [.int .i64 x];have nx:(hX.push 1 [.int .i64 x]).next=hX.next+1:=rfl;generalize hX.push 1 [.int .i64 x]=hY at *;obtain⟨bx,hbx⟩:∃z,z=hX.next:=⟨_,rfl⟩;rw[<-hbx];rw[<-hbx]at ox;obtain⟨zn,hzn⟩:∃q,q=z.toNat:=⟨_,rfl⟩;rw[<-hzn];refine zc ?_;have ow2:Own hY bw 1 (w.map (.int .i64)):=ow.ext ex (by omega);have hnews:Cells hY (some ⟨bw,0,none⟩) zn 1 (w.dropLast.map (.int .i64)):=by
  refine⟨rfl,by show bw<hY.next;omega,?_⟩;rw[ow2.readG (o:=0) (n:=zn*1) (by rw[List.length_map];omega),List.drop_zero,Nat.mul_one,List.dropLast_eq_take,<-List.map_take]
  congr 3
  omega
 obtain⟨c9,a9⟩:=append_full (P:=Try.prog) (t2:=25) TI1 TI1.und (n:=1) ox (by omega) (by rfl) (by omega) hnews (c2:=cw) (by rfl) (by rw[<-iC_flat];exact all_flat iC_ok _) (by omega) (by omega);refine app_ok hA a9 ?_;have hcirc:[Value.int .i64 x]++w.dropLast.map (.int .i64)=(circF t ⟨x,y⟩).map (.int .i64):=by
  unfold circF;simp only[hw,Option.getD_some,List.map_cons];rfl
 rw[hcirc];obtain⟨cn,hcn⟩:∃q,q=1+zn:=⟨_,rfl⟩;have lc:(circF t ⟨x,y⟩).length=cn:=by
  unfold circF;simp only[hw,Option.getD_some,List.length_cons,List.length_dropLast];omega
 rw[<-hcn];have eg:=Ext.push hY 1 ((circF t ⟨x,y⟩).map (.int .i64));have og:=Own.push hY 1 ((circF t ⟨x,y⟩).map (.int .i64));have ng:(hY.push 1 ((circF t ⟨x,y⟩).map (.int .i64))).next=hY.next+1:=rfl;generalize hY.push 1 ((circF t ⟨x,y⟩).map (.int .i64))=hZ at *;obtain⟨bg,hbg⟩:∃z,z=hY.next:=⟨_,rfl⟩;rw[<-hbg];rw[<-hbg]at og;refine zc ?_;have xZ:Ext h hZ:=ew.trans (ex.trans eg);have hk5:k<=100000:=by omega
 have lt0:h0.next<=h.next:=hb.ext.next;refine appK_ok hA TL1 hd_len (by omega) hd_ok (v:=⟨some ⟨bg,0,none⟩,cn,c9⟩) (hb.hd.ext xZ) hk5 (fun b2 hE hp2 hx hnx hb2 hkeep=>?_);generalize someCap 1 (k+1)=sc at *;refine zc ?_;rw[e2];have xE:Ext h0 hE:=hx h0 (hb.ext.trans xZ) hb.fr;have bM:=hb.more xZ;refine ih (i+1) hE (some ⟨b2,0,none⟩) (k+1) sc (hs++[⟨some ⟨bg,0,none⟩,cn,c9⟩]) (by omega) (by omega) (by omega) (by omega) ?_;rw[gt_take C i0 (by omega),List.map_append,hgt,List.map_singleton];have lh:=hb.lh;have lg:=hb.lg;have nZ:=xZ.next;refine⟨xE,hp2,fun ad had=>by cases had;show h0.next<=b2;omega,by simp[lh],by rw[List.length_append,lg];rfl,fun y' y0 y1=>?_⟩;have old:∀{α:Type} [Inhabited α] (l:List α) (v:α),l.length=k->y'<k->gt (l++[v]) y'=gt l y':=fun l v hl hy=>by
  unfold gt;rw[List.getD_eq_getElem?_getD,List.getD_eq_getElem?_getD,List.getElem?_append_left (by omega)]
 have new:∀{α:Type} [Inhabited α] (l:List α) (v:α),l.length=k->¬y'<k->gt (l++[v]) y'=v:=fun l v hl hy=>by
  unfold gt;rw[List.getD_eq_getElem?_getD,List.getElem?_append_right (by omega),show y'.toNat-l.length=0 by omega];rfl
 by_cases cy:y'<k
 ·rw[old hs _ lh cy,old _ _ lg cy]
  obtain⟨r1,r2⟩:=bM.row y' y0 cy;have rl:∀ad,(gt hs y').a=some ad->ad.block<hZ.next:=fun ad had=>by have:=r1.cells;rw[had]at this;exact this.2.1
  refine⟨⟨cells_of' r1.cells (fun ad had=>⟨by have:=rl ad had;omega,hkeep _ (rl ad had) (fun ad' had' e=>(r2 ad had).2 ad' had' e.symm)⟩),r1.each,r1.pos⟩,fun ad had=>⟨(r2 ad had).1,fun ad' had'=>?_⟩⟩;cases had';have:=rl ad had;show ad.block≠b2;omega
 ·rw[new hs _ lh cy,new _ _ lg cy]
  have ogE:Own hE bg 1 ((circF t ⟨x,y⟩).flatMap iC):=by
   rw[iC_flat];unfold Own;rw[hkeep bg (by omega) (fun ad had e=>by have:=hb.hd.lt ad had;omega)];exact og
  refine⟨?_,fun ad had=>⟨by cases had;show h0.next<bg;omega,fun ad' had'=>by cases had;cases had';show bg≠b2;omega⟩⟩;have:=Own.rows ogE iC_len (by omega) (by omega);rw[lc]at this;exact this
def chds(t P:List F2):List F2:=P.filter (fun p=>decide (p∉t))
omit hA in
theorem bas_st{l:List Vk}{P:List F2}(hP:Bas l P):∀p∈P,stS l p.n/\stS l p.d:=fun p hp=>by
 obtain⟨v,hv,e⟩:=(hP.mem p).1 hp;exact⟨⟨v,hv,.inl (by rw[e];rfl)⟩,⟨v,hv,.inr (by rw[e];rfl)⟩⟩
omit hA in
theorem parts_grows{l:List Vk}{P:List F2}{t:List F2}{k:Int}(h:Parts P (stS l) (fun _=>false) [] 0 t k):grows (trT t)=true:=(h.grows rfl (fun x hx=>by cases hx)).1
omit hA in
theorem chds_ok{l:List Vk}(hs:stOK l)(hlt:∀v∈l,v.i<v.j){P:List F2}(hP:Bas l P){t:List F2}{k:Int}(h:Parts P (stS l) (fun _=>false) [] 0 t k):∀p∈chds t P,Conn (trT t) p.d p.n/\p.n≠p.d:=fun p hp=>by
 have hm:=(List.mem_filter.1 hp).1;obtain⟨v,hv,e⟩:=(hP.mem p).1 hm;have:=hlt v hv;exact⟨(h.conn0 (bas_st hP) p hm).symm (parts_grows h),by rw[e];show v.i≠v.j;omega⟩
theorem basis_ok(hW:LW F){h:AHeap}(hlow:h.low<=h.next){a:Option Addr}{n c:Nat}{l:List Vk}(hl:Vs h a n l)(hs:stOK l)(hlt:∀v∈l,v.i<v.j)(hn:n<=1000){P:List F2}(hP:Bas l P)(hd:(l.map Vk.pr).Nodup){Q:Value->AHeap->Prop}
  (hQ:∀t pk h' a1 k1 c1 a2 c2 hs',Parts P (stS l) (fun _=>false) [] 0 t pk->t.length<=8->Rows F2.cells 2 h' a1 k1 (chds t P)->GrR iC 1 h' a2 k1 hs' ((chds t P).map (circF t))->Ext h h'->From h.next a1->From h.next a2->Q (.tuple #[.slice a1 k1 c1,.slice a2 k1 c2]) h') :
  call 34 [.slice a n c] h Q:=by
 refine hA.bodyR Try.func34 r34_ok (hA.alike _ _ _ rfl) hlow (zc ?_);refine joins_ok hA hW hlow hl hs hn hP hd (fun t h1 id pk q1 q2 q3 q4 q5 q6=>?_);refine⟨_,rfl,?_⟩;refine zc ?_;refine chords_ok hA (q3.lowOK hlow) (hl.ext q3) hs hn hP hd q5 q2 (fun h2 a1 k1 c1 y1 y2 y3 y4 y5=>?_);refine⟨_,_,_,rfl,?_⟩;refine zc ?_;have xx:=q3.trans y5;have hk:k1<=1000:=by
  have:=List.length_filter_le (fun p=>decide (p∉t)) P;omega
 have hR:Rows F2.cells 2 h2 a1 k1 (chds t P):=⟨y1.cells,f2_len,by omega⟩;refine ba_loop hA hW (xx.lowOK hlow) (e_ofNat hA k1) hR hk (id:=id) (by have:=y5.next;omega) (by rw[y5.get id q5];exact q2) (parts_grows q1) q6 (chds_ok hs hlt hP q1) (fun h3 a2 c2 hs' b=>?_) k1 0 h2 none 0 0 [] (by omega) (by omega) (by omega) rfl ⟨.refl _,Apd.nil _ _,From.none _,rfl,rfl,fun y y0 y1=>by omega⟩;refine zc ?_;have hx:=b.ext;refine hQ t pk h3 a1 k1 c1 a2 c2 hs' q1 q6 (hR.ext hx) ⟨⟨b.hd.cells,hd_len,by omega⟩,b.lg,fun y y0 y1=>(b.row y y0 y1).1⟩ (xx.trans hx) (fun ad had=>by have:=y2 ad had;have:=q3.next;omega) (fun ad had=>by have:=b.fr ad had;have:=xx.next;omega)
