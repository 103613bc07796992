import Derived.Test.YtdpbiegfljmhmaaSmIn
import Derived.Test.YtdpbiegfljmhmaaSlMd
set_option linter.unusedSimpArgs false
set_option linter.unusedVariables false
namespace Go.Proofs.Ytdpbiegfljmhmaa
open Go.Sim
set_option maxRecDepth 100000
def jc(bs:Nat->Nat)(w k:Nat):List Hd:=gn (fun y=>(⟨some ⟨bs y,0,none⟩,w,ar 1 w⟩:Hd)) k
structure lD(h0 h:af)(sb k n w:Nat)(ra:Option Addr)(rc:Nat)(bs:Nat->Nat)(F:Nat->Ext.aJ):Prop where
 rows:dk h0 h n w bs F
 own:bG h sb 1 [.slice ra k rc]
 apd:jw h 1 ra k rc ((jc bs w k).flatMap Hd.cells)
 kn:k<=n
 s0:h0.next<=sb
 s1:sb<h.next
 fr:gf h0.next ra
 nsb:∀y,y<n->bs y≠sb
 nra:∀ad,ra=some ad->ad.block≠sb/\∀y,y<n->ad.block≠bs y
section
variable{h0 h:af}{sb k n w rc:Nat}{ra:Option Addr}{bs:Nat->Nat}{F:Nat->Ext.aJ}
theorem lD.head(t:lD h0 h sb k n w ra rc bs F){y:Nat}(hy:y<k):∃b,ra=some ⟨b,0,none⟩/\b<h.next/\h.readG ⟨b,0+y*1,none⟩ 1=some [.slice (some ⟨bs y,0,none⟩) w (ar 1 w)]:=by
 rcases t.apd with ⟨_,q,_⟩|⟨b,e,_,hb,hl,ho⟩
 ·omega
 refine⟨b,e,hb,?_⟩;have r:=bG.rows ho dF (by omega) hb;rw[show(jc bs w k).length=k from aL _ _]at r;obtain⟨b',o,e',_,q⟩:=r.at (i:=(y:Int)) (by omega) (by omega);cases e';have:=q 0 1 (by omega) (by omega);unfold jc at this;rw[cO _ hy]at this;exact this
theorem lD.more{h':af}(t:lD h0 h sb k n w ra rc bs F)(e:Ext h h'):lD h0 h' sb k n w ra rc bs F:=
 ⟨t.rows.more e,t.own.ext e t.s1,t.apd.ext e,t.kn,t.s0,Nat.lt_of_lt_of_le t.s1 e.next,t.fr,t.nsb,t.nra⟩
theorem lD.put{h':af}{G:Nat->Ext.aJ}{r:Nat}(t:lD h0 h sb k n w ra rc bs F)(hr:r<n)(m:dk h0 h' n w bs G)(o:iL h h' (bs r)):lD h0 h' sb k n w ra rc bs G:=
 ⟨m,t.own.of_get (o.get sb t.s1 (fun e=>t.nsb r hr e.symm)),t.apd.of_get o.next (fun ad had hl=>o.get _ hl ((t.nra ad had).2 r hr)),t.kn,t.s0,Nat.lt_of_lt_of_le t.s1 o.next,t.fr,t.nsb,t.nra⟩
theorem lD.congr{G:Nat->Ext.aJ}(t:lD h0 h sb k n w ra rc bs F)(e:∀y x,y<n->x<w->F y x=G y x):lD h0 h sb k n w ra rc bs G:=
 ⟨t.rows.congr e,t.own,t.apd,t.kn,t.s0,t.s1,t.fr,t.nsb,t.nra⟩
end
theorem Ext.low_front{w:Nat}{F:Nat->Ext.aJ}{c:Nat}{v:Ext.aJ}:∀y,∀j,j<=c->Ext.bm w F c y v j=v j
 |0,j,_=>rfl
 |y+1,j,hj=>by
  show(if c<Ext.aj w (F y)then(fun j=>Ext.bm w F c y v j-Ext.bm w F c y v (Ext.aj w (F y)) / F y (Ext.aj w (F y))*F y j)else Ext.bm w F c y v) j=v j;split
  ·rename_i q
   show Ext.bm w F c y v j-Ext.bm w F c y v (Ext.aj w (F y)) / F y (Ext.aj w (F y))*F y j=v j;rw[Ext.aW (w:=w) (v:=F y) (j:=j) (by omega),Int.mul_zero,Int.sub_zero];exact Ext.low_front y j hj
  ·exact Ext.low_front y j hj
theorem Ext.low_lead{w:Nat}{F:Nat->Ext.aJ}{v:Ext.aJ}(y:Nat):Ext.aj w (Ext.bm w F (Ext.aj w v) y v)=Ext.aj w v:=
 Ext.gi (Ext.kX _ _) (fun j hj=>by rw[Ext.low_front y j (by omega)];exact Ext.aW hj) (fun q=>by rw[Ext.low_front y _ (Nat.le_refl _)];exact Ext.jB q)
theorem aC.next{α:Type}[Inhabited α]{le:α->α->Prop}(hp:EH le){L:List α}{a i:Int}(h:aC le L a i)(ai:a<i)(w:le (gt L (i-1)) (gt L i)):aC le L a (i+1):=by
 intro p q p0 pq q1;by_cases e:q=i
 ·rw[e]
  by_cases e2:p=i-1
  ·rw[e2];exact w
  ·exact hp.trans _ _ _ (h p (i-1) p0 (by omega) (by omega)) w
 ·exact h p q p0 pq (by omega)
theorem aC.less{α:Type}[Inhabited α]{le:α->α->Prop}{L:List α}{a b a' b':Int}(h:aC le L a b)(ha:a<=a')(hb:b'<=b):aC le L a' b':=fun p q p0 pq q1=>h p q (by omega) pq (by omega)
theorem aC.same{α:Type}[Inhabited α]{le:α->α->Prop}{L M:List α}{a b:Int}(h:aC le L a b)(e:∀k:Int,a<=k->k<b->gt M k=gt L k):aC le M a b:=fun p q p0 pq q1=>by rw[e p p0 (by omega),e q (by omega) q1];exact h p q p0 pq q1
def qD(L:List LE)(A B:Int):Prop:=A=0\/∀k:Int,A<=k->k<B->fu (gt L (A-1)) (gt L k)
theorem qD.perm{L M:List LE}{A B:Int}(a0:0<=A)(h:qD L A B)(k:aD A B L M):qD M A B:=by
 rcases h with h|h
 ·exact .inl h
 ·by_cases c:A=0
  ·exact .inl c
  ·refine .inr (fun j j0 j1=>?_)
   rw[k.out (A-1) (by omega) (by omega)];exact k.all (fun x=>fu (gt L (A-1)) x) h j j0 j1
variable{F:aM}{call head arith c0 d0 e0 f0 conv u0 v0 z0 ofNat a1 place c1 nz d1 rd wr push next f1 u1 v1 z1 a2 d2 j2 k2 l2 u2 v2 z2 a3 fresh lowered bump b3 addN lt ne d3 f3 g3 yn j3 k3 l3 m3 n3 o3:_}(hA:AP F ⟨call,head,arith,c0,d0,e0,f0,conv,u0,v0,z0,ofNat,a1,place,c1,nz,d1,rd,wr,push,next,f1,u1,v1,z1,a2,d2,j2,k2,l2,u2,v2,z2,a3,fresh,lowered,bump,b3,addN,lt,ne,d3,f3,g3,yn,j3,k3,l3,m3,n3,o3⟩)
include hA
theorem BX{h0 hs:af}(hlow:h0.low<=h0.next){sb k n w rc r c:Nat}{ra:Option Addr}{bs:Nat->Nat}{F:Nat->Ext.aJ}(hk:k<=10)(hr:r<n)(hw:w<=1000)(ec:c=Ext.aj w (F r))(hp:∀y,y<k->c<Ext.aj w (F y)->Ext.aj w (F y)<w/\0<F y (Ext.aj w (F y)))(hok:Ext.jD w F c k (F r)){C K:Int}(eC:C=c)(eK:K=k){cw:Nat}(ecw:cw=ar 1 w){Q:Exit->SS->Prop}
  (hQ:∀(h':af) (kn:Nat) (T:List (Nat×List Value)),lD h0 h' sb k n w ra rc bs (Ext.put F r (Ext.bm w F c k (F r)))->iL hs h' (bs r)->Q (.exit 0) ⟨[],kn,T,h'⟩) :
  ∀(d j:Nat) (J:Int) (h:af),k-j<=d->j<=k->J=j->lD h0 h sb k n w ra rc bs (Ext.put F r (Ext.bm w F c j (F r)))->iL hs h (bs r)->
   head 98 2 0 ⟨[(1,.slice (some ⟨bs r,0,none⟩) w cw),(4,.int .i64 C),(13,.slice ra k rc),(14,.int .i64 K),(15,.int .i64 J)],0,[],h⟩ Q:=by
 refine oD (fun d ih=>?_);intro j J h hd hj eJ m st;by_cases cj:j<k
 rotate_left
 ·refine hA.roundR Try.func98 r98_ok (zc ?_)
  refine br (J<K) (by rw[au hA]) (fun q=>by omega) (fun _=>?_)<;>refine zc ?_;obtain rfl:j=k:=by omega
  exact hQ h _ _ m st
 obtain⟨d,rfl⟩:∃k,d=k+1:=⟨d-1,by omega⟩
 replace ih:=ih d rfl
 obtain⟨b,rfl,hb,q1⟩:=m.head cj;rw[<-ecw]at q1;have r1:rd h b (place 0 J 1) 1 [.slice (some ⟨bs j,0,none⟩) w cw]:=az hA (by rw[eJ];exact q1);have hl1:h.low<=h.next:=m.rows.ext.lowOK hlow;refine hA.roundR Try.func98 r98_ok (zc ?_);refine br (J<K) (by rw[au hA]) (fun _=>?_) (fun q=>by omega)<;>refine zc ?_;refine zq ?_;have hjn:j<n:=by have:=m.kn;omega
 refine og hA hl1 hw (fun x hx=>m.rows.el hjn hx) (fun L eL=>?_);refine⟨L,rfl,?_⟩;refine zq ?_;obtain⟨G,eG⟩:∃z,z=Ext.put F r (Ext.bm w F c j (F r)):=⟨_,rfl⟩;have hGr:G r=Ext.bm w F c j (F r):=by rw[eG];exact Ext.eE _
 have hGn:∀y,y≠r->G y=F y:=fun y hy=>by rw[eG];exact Ext.dS _ hy
 rw[<-eG]at m eL;refine br (C<L) (by rw[dc hA]) (fun cq=>?_) (fun cq=>?_)<;>refine zc ?_
 rotate_left
 ·rw[aB hA (by omega) (by omega)]
  refine ih (j+1) (J+1) h (by omega) (by omega) (by omega) ?_ st;have e:Ext.bm w F c (j+1) (F r)=Ext.bm w F c j (F r):=by
   show(if c<Ext.aj w (F j)then _ else _)=_;rw[if_neg];by_cases ej:j=r
   ·rw[ej,<-ec];omega
   ·rw[hGn j ej]at eL;omega
  rw[e,<-eG];exact m
 have hjr:j≠r:=fun e=>by
  rw[e,hGr,ec,Ext.low_lead]at eL;omega
 rw[hGn j hjr]at eL;obtain⟨l,el⟩:∃z,z=Ext.aj w (F j):=⟨_,rfl⟩;rw[<-el]at eL;obtain⟨p1,p2⟩:=hp j cj (by omega);rw[<-el]at p1 p2;have x9:Ext h (bump h 12):=aq hA _ _;have m9:=m.more x9;obtain⟨a,ha⟩:∃z,z=G r l:=⟨_,rfl⟩;obtain⟨b',hb'⟩:∃z,z=F j l:=⟨_,rfl⟩;rw[<-hb']at p2;have r2:rd (bump h 12) (bs r) (place 0 L 1) 1 [.int .i64 a]:=az hA (by rw[eL,ha];exact m9.rows.el hr p1);have r3:rd (bump h 12) (bs j) (place 0 L 1) 1 [.int .i64 b']:=az hA (by
  rw[eL,hb',<-hGn j hjr];exact m9.rows.el hjn p1)
 refine zq ?_;have ho:=hok j cj (by omega);refine ol hA p2 (by have:=(ho l).1;rw[ha,hGr];omega) (by have:=(ho l).1;rw[ha,hGr];omega) (aw hA _) (fun q eq=>⟨q,rfl,?_⟩);refine zq ?_;obtain⟨X,hX⟩:∃z,z=lowered (bump h 12) (fresh (bump h 12)):=⟨_,rfl⟩;have xX:Ext h X:=by rw[hX];exact bP hA hl1 x9 (.refl _)
 rw[<-hX];have eq2:q=Ext.bm w F c j (F r) l / F j l:=by rw[eq,ha,hGr,hb']
 refine xE hA (aw hA X) hr hjn hw (fun x hx=>?_) (m.rows.more (xX.trans (fN hA X))) (fun h' m' st'=>?_)
 ·have:=ho x
  rw[hGr,hGn j hjr,eq2];rw[show Ext.bm w F c (j+1) (F r) x=Ext.bm w F c j (F r) x-Ext.bm w F c j (F r) l / F j l*F j x by
   show(if c<Ext.aj w (F j)then(fun x=>Ext.bm w F c j (F r) x-Ext.bm w F c j (F r) (Ext.aj w (F j)) / F j (Ext.aj w (F j))*F j x)else _) x=_;rw[if_pos (by omega),el]]at this
  rw[<-el]at this;exact this
 refine zq ?_;rw[aB hA (by omega) (by omega)];have st2:=(st.ext (xX.trans (fN hA X))).trans st';have st3:iL hs (lowered X h') (bs r):=by rw[cT hA];exact⟨st2.next,st2.get⟩
 have st4:iL h (lowered X h') (bs r):=by
  have:=((iL.refl h (bs r)).ext (xX.trans (fN hA X))).trans st';rw[cT hA];exact⟨this.next,this.get⟩
 have m2:dk h0 (lowered X h') n w bs (Ext.put G r (fun x=>G r x-q*G j x)):=by
  rw[cT hA];exact⟨Ext.lower' m'.ext (m.rows.ext.trans xX) hlow,m'.row,m'.old,m'.lt,m'.inj⟩
 refine ih (j+1) (J+1) _ (by omega) (by omega) (by omega) ?_ st3;have e:Ext.put G r (fun x=>G r x-q*G j x)=Ext.put F r (Ext.bm w F c (j+1) (F r)):=by
  rw[eG,Ext.gY,<-eG,hGr,hGn j hjr,eq2]
  congr 1
  show _=(if c<Ext.aj w (F j)then(fun x=>Ext.bm w F c j (F r) x-Ext.bm w F c j (F r) (Ext.aj w (F j)) / F j (Ext.aj w (F j))*F j x)else _);rw[if_pos (by omega),el]
 rw[<-e];exact m.put hr m2 st4
theorem pP{h0 h:af}(hl0:h0.low<=h0.next){sb k n w rc r:Nat}{ra:Option Addr}{bs:Nat->Nat}{F:Nat->Ext.aJ}(hk:k<=10)(hr:r<n)(hw:w<=1000)(hp:∀y,y<k->Ext.aj w (F r)<Ext.aj w (F y)->Ext.aj w (F y)<w/\0<F y (Ext.aj w (F y)))(hok:Ext.jD w F (Ext.aj w (F r)) k (F r))(m:lD h0 h sb k n w ra rc bs F){cw:Nat}(ecw:cw=ar 1 w){Q:Value->af->Prop}
  (hQ:∀h',lD h0 h' sb k n w ra rc bs (Ext.put F r (Ext.bm w F (Ext.aj w (F r)) k (F r)))->iL h h' (bs r)->Q (.tuple #[]) h') :
  call 98 [.pointer (some ⟨sb,0,none⟩),.slice (some ⟨bs r,0,none⟩) w cw] h Q:=by
 obtain⟨K,eK⟩:∃z:Int,z=k:=⟨_,rfl⟩;have e1:ofNat k=K:=by rw[eK];exact aF hA k
 have hlow:h.low<=h.next:=m.rows.ext.lowOK hl0;have r1:rd h sb (addN 0 0) 1 [.slice ra k rc]:=by rw[cB hA];exact gP hA (m.own.readG (o:=0) (n:=1) (Nat.le_refl _))
 refine hA.bodyR Try.func98 r98_ok (hA.alike _ _ _ rfl) hlow (zc ?_);refine zq ?_;refine og hA hlow hw (fun x hx=>m.rows.el hr hx) (fun L eL=>?_);refine⟨L,rfl,?_⟩
 (refine zq ?_;repeat ((first|rw[e1]);refine zq ?_))
 refine BX hA (sb:=sb) hl0 hk hr hw rfl hp hok eL eK ecw (fun h' kn T m2 st=>?_) k 0 0 h (by omega) (by omega) rfl ?_ (.refl _ _)
 ·refine zc ?_
  exact hQ h' m2 st
 ·have:Ext.put F r (Ext.bm w F (Ext.aj w (F r)) 0 (F r))=F:=Ext.ig
  rw[this];exact m
theorem uj{h0 h:af}{b n sb:Nat}{L:List LE}{w:Value}(t:aV h0 h b n L)(s:sW h0 h b sb w){i j:Int}(i0:0<=i)(i1:i<n)(j0:0<=j)(j1:j<n){ax ay:Option Addr}{nx cx ny cy:Nat}{x2 y2:List Int}(g1:gt L i=⟨⟨ax,nx,cx⟩,x2⟩)(g2:gt L j=⟨⟨ay,ny,cy⟩,y2⟩) :
  ∃h1 h2,wr h b (place 0 i 1) [.slice ay ny cy] h1/\wr h1 b (place 0 j 1) [.slice ax nx cx] h2/\aV h0 h2 b n (cV L i j)/\sW h0 h2 b sb w:=by
 have o1:=t.ok i i0 i1;have o2:=t.ok j j0 j1;rw[g1]at o1;rw[g2]at o2;have key:∀{h:af} {L:List LE} {i:Int} {x:LE},0<=i->i<n->x.OK h0->aV h0 h b n L->sW h0 h b sb w->∃h',wr h b (place 0 i 1) x.cells h'/\aV h0 h' b n (L.set i.toNat x)/\sW h0 h' b sb w:=fun {h L i x} i0 i1 hx t s=>by
  obtain⟨h',w1,t1,w3⟩:=t.put i0 i1 (x:=x) hx;exact⟨h',pZ hA (by rw[Nat.zero_add];exact w1),t1,⟨w3.own s.own s.ne,by rw[w3.next];exact s.lt,s.old,s.ne⟩⟩
 obtain⟨h1,w1,t1,s1⟩:=key i0 i1 (x:=⟨⟨ay,ny,cy⟩,y2⟩) o2 t s;obtain⟨h2,w2,t2,s2⟩:=key j0 j1 (x:=⟨⟨ax,nx,cx⟩,x2⟩) o1 t1 s1;refine⟨h1,h2,w1,w2,?_,s2⟩;unfold cV;rw[g1,g2];exact t2
theorem Be(a b:Int):0<=arith .xor .u64 a b/\arith .xor .u64 a b<18446744073709551616:=by
 rw[KU hA,lQ];omega
theorem F9{h:af}(hlow:h.low<=h.next){x:Int}(hx:u64 x){Q:Value->af->Prop}(hQ:∀n:Int,Dd x n->Q (.int .i64 n) h):call 87 [.int .u64 x] h Q:=by
 refine hA.bodyR Try.func87 r87_ok (hA.alike _ _ _ rfl) hlow (zc ?_);refine zj hA hlow hx (fun n hn=>⟨_,rfl,?_⟩);refine zc ?_;exact hQ n hn
theorem GS{h:af}(hlow:h.low<=h.next){l:Int}(l0:0<l)(l1:l<=100000){Q:Value->af->Prop}(hQ:∀(k:Nat) (M:Int),k<=40->M=2 ^ k->l<=M->M<=2*l->Q (.int .u64 M) h):call 121 [.int .i64 l] h Q:=by
 refine hA.bodyR Try.func121 r121_ok (hA.alike _ _ _ rfl) hlow (zc ?_);rw[ke hA (by omega) (by omega)];refine F9 hA hlow (by unfold u64;omega) (fun n hn=>⟨_,rfl,?_⟩);obtain⟨n0,n1,n2⟩:=hn;obtain⟨k,hk⟩:∃k:Nat,n=k:=⟨n.toNat,by omega⟩;rw[hk,Int.toNat_natCast]at n1 n2;rw[show max l 1=l by omega]at n2;have k40:k<=40:=by
  by_cases c:k<=40
  ·exact c
  ·have h1:=Nat.pow_le_pow_right (n:=2) (by omega) (show 40<=k by omega)
   have h2:((2 ^ 40:Nat):Int)<=((2 ^ k:Nat):Int):=by exact_mod_cast h1
   have h3:((2 ^ k:Nat):Int)=2 ^ k:=by push_cast;rfl
   have h4:((2 ^ 40:Nat):Int)=1099511627776:=by decide
   omega
 have es:arith .shl .u64 1 n=2 ^ k:=by
  rw[A7 hA 1 k (by omega) hk,Int.one_mul];exact Int.emod_eq_of_lt (Int.le_of_lt (Int.pow_pos (by omega))) (by omega)
 obtain⟨M,hM⟩:∃z:Int,z=2 ^ k:=⟨_,rfl⟩;rw[<-hM]at es n1 n2;refine zq ?_;rw[es];exact hQ k M k40 hM (Int.le_of_lt n1) n2
theorem I6{h0 h:af}(hlow:h0.low<=h0.next){b n sb:Nat}{L:List LE}{w:Int}(t:aV h0 h b n L)(s:sW h0 h b sb (.int .u64 w)){Q:Value->af->Prop}
  (hQ:∀h' r w',u64 r->aV h0 h' b n L->sW h0 h' b sb (.int .u64 w')->Q (.int .u64 r) h'):call 122 [.pointer (some ⟨sb,0,none⟩)] h Q:=by
 have hlow':=hlow
 replace hlow:=t.ext.lowOK hlow
 refine hA.bodyR Try.func122 r122_ok (hA.alike _ _ _ rfl) hlow (zc ?_);obtain⟨g0,hg0⟩:∃z,z=bump h 10:=⟨_,rfl⟩;have x0:Ext h g0:=by rw[hg0];exact aq hA _ _
 have t0:=t.more x0;have s0:=s.more x0;rw[<-hg0];obtain⟨w0,hw0⟩:∃z,z=arith .xor .u64 w (arith .shl .u64 w 13):=⟨_,rfl⟩;have b0:=Be hA w (arith .shl .u64 w 13);have r0:rd g0 sb 0 1 [.int .u64 w]:=gP hA (s0.own.readG (o:=0) (n:=1) (by simp));obtain⟨y0,p0,s0',t0'⟩:=s0.put t0 (.int .u64 w0);have p0':wr g0 sb 0 [.int .u64 w0] y0:=jd hA p0;rw[hw0]at p0';refine zq ?_;rw[<-hw0]at b0;obtain⟨g1,hg1⟩:∃z,z=bump y0 10:=⟨_,rfl⟩;have x1:Ext y0 g1:=by rw[hg1];exact aq hA _ _
 have t1:=t0'.more x1;have s1:=s0'.more x1;rw[<-hg1];obtain⟨w1,hw1⟩:∃z,z=arith .xor .u64 w0 (arith .shr .u64 w0 7):=⟨_,rfl⟩;have b1:=Be hA w0 (arith .shr .u64 w0 7);have r1:rd g1 sb 0 1 [.int .u64 w0]:=gP hA (s1.own.readG (o:=0) (n:=1) (by simp));obtain⟨y1,p1,s1',t1'⟩:=s1.put t1 (.int .u64 w1);have p1':wr g1 sb 0 [.int .u64 w1] y1:=jd hA p1;rw[hw1]at p1';refine zq ?_;rw[<-hw1]at b1;obtain⟨g2,hg2⟩:∃z,z=bump y1 10:=⟨_,rfl⟩;have x2:Ext y1 g2:=by rw[hg2];exact aq hA _ _
 have t2:=t1'.more x2;have s2:=s1'.more x2;rw[<-hg2];obtain⟨w2,hw2⟩:∃z,z=arith .xor .u64 w1 (arith .shl .u64 w1 17):=⟨_,rfl⟩;have b2:=Be hA w1 (arith .shl .u64 w1 17);have r2:rd g2 sb 0 1 [.int .u64 w1]:=gP hA (s2.own.readG (o:=0) (n:=1) (by simp));obtain⟨y2,p2,s2',t2'⟩:=s2.put t2 (.int .u64 w2);have p2':wr g2 sb 0 [.int .u64 w2] y2:=jd hA p2;rw[hw2]at p2';refine zq ?_;rw[<-hw2]at b2;have r9:rd y2 sb 0 1 [.int .u64 w2]:=gP hA (s2'.own.readG (o:=0) (n:=1) (by simp));refine zq ?_;exact hQ y2 w2 w2 ⟨b2.1,b2.2⟩ t2' s2'
theorem AX{h0:af}(hlow:h0.low<=h0.next){b n c sb k:Nat}{L0:List LE}{A B l:Int}(a0:0<=A)(ab:A+12<B)(bn:B<=n)(hl:l=B-A){M:Int}(k40:k<=40)(hM:M=2 ^ k)(k0:l<=M)(k1:M<=2*l){Q:Exit->SS->Prop}
  (hQ:∀h' L e kn,aV h0 h' b n L->aD A B L0 L->Q (.exit 0) ⟨e,kn,[],h'⟩) :
  ∀(m:Nat) (i:Int) (h:af) (L:List LE) (w:Int),(A+l / 4*2+3-i).toNat<=m->i<=A+l / 4*2+2->A+l / 4*2-1<=i->aV h0 h b n L->aD A B L0 L->sW h0 h b sb (.int .u64 w)->
   head 103 5 0 ⟨[(0,.slice (some ⟨b,0,none⟩) n c),(1,.int .i64 A),(8,.int .i64 l),(9,.pointer (some ⟨sb,0,none⟩)),(10,.int .u64 M),(11,.int .i64 i)],0,[],h⟩ Q:=by
 intro m
 induction m with
 |zero=>intro i h L w hm i9 i0 t hp s;omega
 |succ m ih=>
 intro i h L w hm i9 i0 t hp s;have few:=t.few;have e2:arith .quo .i64 l 4=l / 4:=qE hA (by omega) (by omega) (by omega);obtain⟨q,hq⟩:∃z,z=l / 4:=⟨_,rfl⟩;rw[<-hq]at e2 hm i0 i9;obtain⟨q2,hq2⟩:∃z,z=q*2:=⟨_,rfl⟩;have e4:arith .mul .i64 q 2=q2:=by rw[hq2];exact iq hA (by omega) (by omega)
 rw[<-hq2]at hm i0 i9;obtain⟨j,hj⟩:∃z,z=A+q2:=⟨_,rfl⟩;have e7:arith .add .i64 A q2=j:=by rw[hj];exact aB hA (by omega) (by omega)
 obtain⟨j1,hj1⟩:∃z,z=j+1:=⟨_,rfl⟩;have e8:arith .add .i64 j 1=j1:=by rw[hj1];exact aB hA (by omega) (by omega)
 refine hA.roundR Try.func103 r103_ok (zc ?_)
 (refine zq ?_;repeat ((first|rw[e2]|rw[e4]|rw[e7]|rw[e8]);refine zq ?_))
 refine br (i<=j1) (by rw[iw hA]) (fun ci=>?_) (fun _=>?_)<;>refine zc ?_
 rotate_left
 ·exact hQ h L _ _ t hp
 refine I6 hA hlow t s (fun h1 r w1 hr t1 s1=>⟨_,rfl,?_⟩);obtain⟨M1,hM1⟩:∃z,z=M-1:=⟨_,rfl⟩;have e9:arith .sub .u64 M 1=M1:=by rw[hM1];exact sh hA (by omega) (by omega)
 have eA:arith .and .u64 r M1=r % M:=by rw[B7 hA hr.1 hr.2 k (by omega) (by rw[hM1,hM]),hM]
 obtain⟨o,ho⟩:∃z,z=r % M:=⟨_,rfl⟩;have o0:0<=o:=by rw[ho];exact Int.emod_nonneg _ (by omega)
 have o1:o<M:=by rw[ho];exact Int.emod_lt_of_pos _ (by omega)
 rw[<-ho]at eA;have eC:conv .i64 o=o:=i6 hA (by omega) (by omega);refine zc ?_;rw[e9,eA,eC];have e5:arith .add .i64 i 1=i+1:=aB hA (by omega) (by omega);obtain⟨i1,hi1⟩:∃z,z=i+1:=⟨_,rfl⟩;rw[<-hi1]at e5;have go:∀o:Int,0<=o->o<l->∃x:Int,x=A+o/\0<=x/\A<=x/\x<B/\x<n/\arith .add .i64 A o=x:=fun o p1 p2=>⟨A+o,rfl,by omega,by omega,by omega,by omega,aB hA (by omega) (by omega)⟩
 refine br (l<=o) (by rw[bE hA]) (fun co=>?_) (fun co=>?_)<;>refine zc ?_
 ·have eS:arith .sub .i64 o l=o-l:=bD hA (by omega) (by omega)
  obtain⟨o',ho'⟩:∃z,z=o-l:=⟨_,rfl⟩;rw[<-ho']at eS;rw[eS];obtain⟨x,hx,x0,xA,xB,xn,eX⟩:=go o' (by omega) (by omega);obtain⟨h5,hh5⟩:∃z,z=bump h1 20:=⟨_,rfl⟩;have x5:Ext h1 h5:=by rw[hh5];exact aq hA _ _
  have t5:=t1.more x5;obtain⟨a5x,a5y,a5z,b5,g5,f5,r5⟩:=t5.read (i:=i) (by omega) (by omega);obtain⟨a5'x,a5'y,a5'z,b5',g5',f5',r5'⟩:=t5.read (i:=x) (by omega) (by omega);have q5:=az hA r5;have q5':=az hA r5';rw[<-hh5];obtain⟨h5c,h5d,p5,p5',t5d,s5d⟩:=uj hA t5 (s1.more x5) (i:=i) (j:=x) (by omega) (by omega) (by omega) (by omega) g5 g5'
  (refine zq ?_;repeat ((first|rw[eX]|rw[e5]);refine zq ?_))
  exact ih i1 h5d _ w1 (by omega) (by omega) (by omega) t5d (hp.trans (aD.swap L a0 (by have:=t.len;omega) (by omega) (by omega) (by omega) (by omega))) s5d
 ·obtain⟨x,hx,x0,xA,xB,xn,eX⟩:=go o (by omega) (by omega)
  obtain⟨h5,hh5⟩:∃z,z=bump h1 20:=⟨_,rfl⟩;have x5:Ext h1 h5:=by rw[hh5];exact aq hA _ _
  have t5:=t1.more x5;obtain⟨a5x,a5y,a5z,b5,g5,f5,r5⟩:=t5.read (i:=i) (by omega) (by omega);obtain⟨a5'x,a5'y,a5'z,b5',g5',f5',r5'⟩:=t5.read (i:=x) (by omega) (by omega);have q5:=az hA r5;have q5':=az hA r5';rw[<-hh5];obtain⟨h5c,h5d,p5,p5',t5d,s5d⟩:=uj hA t5 (s1.more x5) (i:=i) (j:=x) (by omega) (by omega) (by omega) (by omega) g5 g5'
  (refine zq ?_;repeat ((first|rw[eX]|rw[e5]);refine zq ?_))
  exact ih i1 h5d _ w1 (by omega) (by omega) (by omega) t5d (hp.trans (aD.swap L a0 (by have:=t.len;omega) (by omega) (by omega) (by omega) (by omega))) s5d
theorem Hm{h0 h:af}(hlow:h0.low<=h0.next){b n c:Nat}{L:List LE}{A B:Int}(a0:0<=A)(ab:A+12<B)(bn:B<=n)(t:aV h0 h b n L){Q:Value->af->Prop}
  (hQ:∀h' L',aV h0 h' b n L'->aD A B L L'->Q (.tuple #[]) h'):call 103 [.slice (some ⟨b,0,none⟩) n c,.int .i64 A,.int .i64 B,.func (.func 70) #[] #[]] h Q:=by
 have hlow':=hlow
 replace hlow:=t.ext.lowOK hlow
 have few:=t.few;refine hA.bodyR Try.func103 r103_ok (hA.alike _ _ _ rfl) hlow (zc ?_);obtain⟨l,hl⟩:∃z,z=B-A:=⟨_,rfl⟩;have e1:arith .sub .i64 B A=l:=by rw[hl];exact bD hA (by omega) (by omega)
 rw[e1];have e2:arith .quo .i64 l 4=l / 4:=qE hA (by omega) (by omega) (by omega);obtain⟨q,hq⟩:∃z,z=l / 4:=⟨_,rfl⟩;rw[<-hq]at e2;obtain⟨q2,hq2⟩:∃z,z=q*2:=⟨_,rfl⟩;have e4:arith .mul .i64 q 2=q2:=by rw[hq2];exact iq hA (by omega) (by omega)
 obtain⟨j,hj⟩:∃z,z=A+q2:=⟨_,rfl⟩;have e7:arith .add .i64 A q2=j:=by rw[hj];exact aB hA (by omega) (by omega)
 obtain⟨j1,hj1⟩:∃z,z=j-1:=⟨_,rfl⟩;have e8:arith .sub .i64 j 1=j1:=by rw[hj1];exact bD hA (by omega) (by omega)
 refine br (8<=l) (by rw[bE hA]) (fun _=>?_) (fun z=>by omega)<;>refine zc ?_;rw[bV hA,cM hA,ke hA (by omega) (by omega)];have x1:Ext h (h.push 1 [Value.int .u64 0]):=.push _ _ _;have o1:=bG.push h 1 [Value.int .u64 0];have n1:(h.push 1 [Value.int .u64 0]).next=h.next+1:=rfl;generalize h.push 1 [Value.int .u64 0]=h1 at *;obtain⟨sb,hsb⟩:∃z,z=h.next:=⟨_,rfl⟩;rw[<-hsb]at o1 ⊢;have t1:=t.more x1;have s1:sW h0 h1 b sb (.int .u64 0):=⟨o1,by omega,by have:=t.ext.next;omega,by have:=t.lt;omega⟩;obtain⟨h2,p2,s2,t2⟩:=s1.put t1 (.int .u64 l);have p2':wr h1 sb 0 [.int .u64 l] h2:=jd hA p2;refine zq ?_;have hlow:=t2.ext.lowOK hlow';refine GS hA hlow (by omega) (by omega) (fun k M k40 hM m0 m1=>⟨_,rfl,?_⟩)
 (refine zq ?_;repeat ((first|rw[e2]|rw[e4]|rw[e7]|rw[e8]);refine zq ?_))
 refine AX hA hlow' (L0:=L) (c:=c) (l:=l) (B:=B) (M:=M) (k:=k) a0 ab bn hl k40 hM m0 m1 (fun h' L' e kn t' hp=>?_) (A+l / 4*2+3-j1).toNat j1 h2 L l (Nat.le_refl _) (by omega) (by omega) t2 (.refl _ _ _) s2;refine zc ?_;exact hQ h' L' t' hp
theorem Lp{h0:af}(hlow:h0.low<=h0.next){b n c:Nat}{L:List LE}{A B j:Int}(a0:0<=A)(bn:B<=n){Q:Exit->SS->Prop}
  (hQ:∀h' i,aV h0 h' b n L->A+1<=i->i<=B->aC fu L A i->Q (.exit 2) ⟨[(0,.slice (some ⟨b,0,none⟩) n c),(1,.int .i64 A),(2,.int .i64 B),(3,.func (.func 70) #[] #[]),(9,.int .i64 i),(10,.int .i64 j)],18,[],h'⟩) :
  ∀(m:Nat) (i:Int) (h:af),(B-i).toNat<=m->A+1<=i->i<=B->aV h0 h b n L->aC fu L A i->
   head 106 5 0 ⟨[(0,.slice (some ⟨b,0,none⟩) n c),(1,.int .i64 A),(2,.int .i64 B),(3,.func (.func 70) #[] #[]),(9,.int .i64 i),(10,.int .i64 j)],0,[],h⟩ Q:=by
 intro m
 induction m with
 |zero=>
  intro i h hm i0 i1 t hs;refine hA.roundR Try.func106 r106_ok (zc ?_);refine br (i<B) (by rw[au hA]) (fun q=>by omega) (fun q=>?_)<;>refine zc ?_;exact hQ _ i (t.more (aq hA _ _)) i0 i1 hs
 |succ m ih=>
  intro i h hm i0 i1 t hs;have few:=t.few;refine hA.roundR Try.func106 r106_ok (zc ?_);refine br (i<B) (by rw[au hA]) (fun ci=>?_) (fun q=>?_)<;>refine zc ?_
  rotate_left
  ·exact hQ _ i (t.more (aq hA _ _)) i0 i1 hs
  obtain⟨i',hi'⟩:∃z,z=i-1:=⟨_,rfl⟩;have e1:arith .sub .i64 i 1=i':=by rw[hi'];exact bD hA (by omega) (by omega)
  have e2:arith .add .i64 i 1=i+1:=aB hA (by omega) (by omega);obtain⟨h2,hh2⟩:∃z,z=bump h 18:=⟨_,rfl⟩;have x2:Ext h h2:=by rw[hh2];exact aq hA _ _
  have t2:=t.more x2;obtain⟨a2x,a2y,a2z,b2,g2,f2,r2⟩:=t2.read (i:=i) (by omega) (by omega);obtain⟨a2'x,a2'y,a2'z,b2',g2',f2',r2'⟩:=t2.read (i:=i') (by omega) (by omega);have q2:=az hA r2;have q2':=az hA r2';rw[<-hh2]
  (refine zq ?_;repeat ((first|rw[e1]);refine zq ?_))
  refine dH hA (aw hA h2) (cW hA f2) (cW hA f2') (fun u h2a hu x2a=>⟨_,rfl,?_⟩);have t2b:=de hA hlow t2 x2a;refine zc ?_;generalize lowered h2 h2a=h2b at *;refine br (0<=u) (by rw[cI hA,au hA];by_cases z:u<0<;>simp[z]<;>omega) (fun cu=>?_) (fun cu=>?_)<;>refine zc ?_
  ·rw[hu]at cu
   rw[e2];exact ih (i+1) h2b (by omega) (by omega) (by omega) t2b (hs.next dn (by omega) (by rw[<-hi'];exact LL.not_lt.1 (fun w=>by have:=bZ.2 w;omega)))
  ·exact hQ h2b i t2b i0 i1 hs
theorem Hr{h0:af}(hlow:h0.low<=h0.next){b n c:Nat}{L0:List LE}{A B i j:Int}(a0:0<=A)(bn:B<=n)(ai:A+2<=i)(ib:i<B)(ov:qD L0 A B){Q:Exit->SS->Prop}
  (hQ:∀h' L kn,kn=36\/kn=49->aV h0 h' b n L->aD A B L0 L->aC fu L A i->Q (.exit 4) ⟨[(0,.slice (some ⟨b,0,none⟩) n c),(1,.int .i64 A),(2,.int .i64 B),(3,.func (.func 70) #[] #[]),(9,.int .i64 i),(10,.int .i64 j)],kn,[],h'⟩) {h:af} {L:List LE} (t:aV h0 h b n L) (hp:aD A B L0 L) (hI:mB fu L A (i-1) A) :
   head 106 14 36 ⟨[(0,.slice (some ⟨b,0,none⟩) n c),(1,.int .i64 A),(2,.int .i64 B),(3,.func (.func 70) #[] #[]),(9,.int .i64 i),(10,.int .i64 j),(11,.int .i64 A)],36,[],h⟩ Q:=by
  obtain⟨k,hk⟩:∃z,z=A:=⟨_,rfl⟩;have few:=t.few;show head 106 14 36 ⟨[(0,.slice (some ⟨b,0,none⟩) n c),(1,.int .i64 A),(2,.int .i64 B),(3,.func (.func 70) #[] #[]),(9,.int .i64 i),(10,.int .i64 j),(11,.int .i64 A)],36,[],h⟩ Q;rw[show((11,Value.int .i64 A):Nat×Value)=(11,.int .i64 k) by rw[hk]];rw[<-hk]at hI;have k0:A<=k:=by omega
  refine hA.roundR Try.func106 r106_ok (zc ?_);refine br (1<=k) (by rw[bE hA]) (fun ck=>?_) (fun q=>?_)<;>refine zc ?_
  rotate_left
  ·exact hQ _ _ _ (.inl rfl) t hp (by subst hk;have:=hI.first;rwa [show i-1+1=i by omega]at this)
  obtain⟨k',hk'⟩:∃z,z=k-1:=⟨_,rfl⟩;have e1:arith .sub .i64 k 1=k':=by rw[hk'];exact bD hA (by omega) (by omega)
  obtain⟨h2,hh2⟩:∃z,z=bump h 13:=⟨_,rfl⟩;have x2:Ext h h2:=by rw[hh2];exact aq hA _ _
  have t2:=t.more x2;obtain⟨a2x,a2y,a2z,b2,g2,f2,r2⟩:=t2.read (i:=k) (by omega) (by omega);obtain⟨a2'x,a2'y,a2'z,b2',g2',f2',r2'⟩:=t2.read (i:=k') (by omega) (by omega);have q2:=az hA r2;have q2':=az hA r2';rw[<-hh2]
  (refine zq ?_;repeat ((first|rw[e1]);refine zq ?_))
  refine dH hA (aw hA h2) (cW hA f2) (cW hA f2') (fun u h2a hu x2a=>⟨_,rfl,?_⟩);have t2b:=de hA hlow t2 x2a;refine zc ?_;generalize lowered h2 h2a=h2b at *;refine br (0<=u) (by rw[cI hA,au hA];by_cases z:u<0<;>simp[z]<;>omega) (fun cu=>?_) (fun cu=>?_)<;>refine zc ?_
  rotate_left
  ·exfalso
   have:=(ov.perm a0 hp).resolve_left (by omega) k (by omega) (by omega);rw[show A-1=k' by omega]at this;rw[hu]at cu;exact absurd (bZ.1 (show dU (gt L k).q (gt L k').q<0 by omega)) (LL.not_lt.2 this)
  ·exact hQ _ _ _ (.inr rfl) t2b hp (by subst hk;have:=hI.first;rwa [show i-1+1=i by omega]at this)
theorem KN{h0:af}(hlow:h0.low<=h0.next){b n c:Nat}{L0:List LE}{A B i j:Int}(a0:0<=A)(bn:B<=n)(ai:A+2<=i)(ib:i<B)(ov:qD L0 A B){Q:Exit->SS->Prop}
  (hQ:∀h' L kn,kn=36\/kn=49->aV h0 h' b n L->aD A B L0 L->aC fu L A i->Q (.exit 4) ⟨[(0,.slice (some ⟨b,0,none⟩) n c),(1,.int .i64 A),(2,.int .i64 B),(3,.func (.func 70) #[] #[]),(9,.int .i64 i),(10,.int .i64 j)],kn,[],h'⟩) :
  ∀(m:Nat) (k:Int) (h:af) (L:List LE),(k-A).toNat<=m->A<=k->k<=i-1->aV h0 h b n L->aD A B L0 L->mB fu L A (i-1) k->
   head 106 14 36 ⟨[(0,.slice (some ⟨b,0,none⟩) n c),(1,.int .i64 A),(2,.int .i64 B),(3,.func (.func 70) #[] #[]),(9,.int .i64 i),(10,.int .i64 j),(11,.int .i64 k)],36,[],h⟩ Q:=by
 intro m
 induction m with
 |zero=>
  intro k h L hm k0 k1 t hp hI;obtain rfl:k=A:=by omega
  exact Hr hA hlow a0 bn ai ib ov hQ t hp hI
 |succ m ih=>
  intro k h L hm k0 k1 t hp hI;have few:=t.few;by_cases ck:A<k
  rotate_left
  ·obtain rfl:k=A:=by omega
   exact Hr hA hlow a0 bn ai ib ov hQ t hp hI
  refine hA.roundR Try.func106 r106_ok (zc ?_);refine br (1<=k) (by rw[bE hA]) (fun _=>?_) (fun q=>by omega)<;>refine zc ?_;obtain⟨k',hk'⟩:∃z,z=k-1:=⟨_,rfl⟩;have e1:arith .sub .i64 k 1=k':=by rw[hk'];exact bD hA (by omega) (by omega)
  obtain⟨h2,hh2⟩:∃z,z=bump h 13:=⟨_,rfl⟩;have x2:Ext h h2:=by rw[hh2];exact aq hA _ _
  have t2:=t.more x2;obtain⟨a2x,a2y,a2z,b2,g2,f2,r2⟩:=t2.read (i:=k) (by omega) (by omega);obtain⟨a2'x,a2'y,a2'z,b2',g2',f2',r2'⟩:=t2.read (i:=k') (by omega) (by omega);have q2:=az hA r2;have q2':=az hA r2';rw[<-hh2]
  (refine zq ?_;repeat ((first|rw[e1]);refine zq ?_))
  refine dH hA (aw hA h2) (cW hA f2) (cW hA f2') (fun u h2a hu x2a=>⟨_,rfl,?_⟩);have t2b:=de hA hlow t2 x2a;refine zc ?_;generalize lowered h2 h2a=h2b at *;refine br (0<=u) (by rw[cI hA,au hA];by_cases z:u<0<;>simp[z]<;>omega) (fun cu=>?_) (fun cu=>?_)<;>refine zc ?_
  ·rw[hu]at cu
   exact hQ _ _ _ (.inr rfl) t2b hp (by have:=hI.stop dn ck (by rw[<-hk'];exact LL.not_lt.1 (fun w=>by have:=bZ.2 w;omega));rwa [show i-1+1=i by omega]at this)
  ·rw[hu]at cu
   have w:¬fu (gt L (k-1)) (gt L k):=by rw[<-hk'];exact LL.not_le.2 (bZ.1 (show dU (gt L k).q (gt L k').q<0 by omega))
   obtain⟨h5,hh5⟩:∃z,z=bump h2b 18:=⟨_,rfl⟩;have x5:Ext h2b h5:=by rw[hh5];exact aq hA _ _
   have t5:=t2b.more x5;obtain⟨a5x,a5y,a5z,b5,g5,f5,r5⟩:=t5.read (i:=k) (by omega) (by omega);obtain⟨a5'x,a5'y,a5'z,b5',g5',f5',r5'⟩:=t5.read (i:=k') (by omega) (by omega);have q5:=az hA r5;have q5':=az hA r5';rw[<-hh5];obtain⟨h5c,h5d,p5,p5',t5d⟩:=cF hA t5 (i:=k) (j:=k') (by omega) (by omega) (by omega) (by omega) g5 g5'
   (refine zq ?_;repeat ((first|rw[e1]);refine zq ?_))
   refine ih k' h5d _ (by omega) (by omega) (by omega) t5d (hp.trans (aD.swap L (by omega) (by rw[t.len];exact bn) (by omega) (by omega) (by omega) (by omega))) ?_;have:=hI.step dn (by omega) (by rw[t.len];omega) ck k1 w;rw[<-hk']at this;exact this
theorem G3{h0:af}(hlow:h0.low<=h0.next){b n c:Nat}{L0:List LE}{A B i j:Int}(a0:0<=A)(bn:B<=n)(ai:A<i)(ib:i<B){Q:Exit->SS->Prop}
  (hQ:∀h' L kn,aV h0 h' b n L->aD i B L0 L->Q (.exit 6) ⟨[(0,.slice (some ⟨b,0,none⟩) n c),(1,.int .i64 A),(2,.int .i64 B),(3,.func (.func 70) #[] #[]),(9,.int .i64 i),(10,.int .i64 j)],kn,[],h'⟩) :
  ∀(m:Nat) (k:Int) (h:af) (L:List LE),(B-k).toNat<=m->i+1<=k->aV h0 h b n L->aD i B L0 L->
   head 106 20 36 ⟨[(0,.slice (some ⟨b,0,none⟩) n c),(1,.int .i64 A),(2,.int .i64 B),(3,.func (.func 70) #[] #[]),(9,.int .i64 i),(10,.int .i64 j),(12,.int .i64 k)],36,[],h⟩ Q:=by
 intro m
 induction m with
 |zero=>
  intro k h L hm k0 t hp;refine hA.roundR Try.func106 r106_ok (zc ?_);refine br (k<B) (by rw[au hA]) (fun q=>by omega) (fun q=>?_)<;>refine zc ?_;exact hQ _ _ _ t hp
 |succ m ih=>
  intro k h L hm k0 t hp;have few:=t.few;refine hA.roundR Try.func106 r106_ok (zc ?_);refine br (k<B) (by rw[au hA]) (fun ck=>?_) (fun q=>?_)<;>refine zc ?_
  rotate_left
  ·exact hQ _ _ _ t hp
  obtain⟨k',hk'⟩:∃z,z=k-1:=⟨_,rfl⟩;have e1:arith .sub .i64 k 1=k':=by rw[hk'];exact bD hA (by omega) (by omega)
  have e2:arith .add .i64 k 1=k+1:=aB hA (by omega) (by omega);obtain⟨k1,hk1⟩:∃z,z=k+1:=⟨_,rfl⟩;rw[<-hk1]at e2;obtain⟨h2,hh2⟩:∃z,z=bump h 13:=⟨_,rfl⟩;have x2:Ext h h2:=by rw[hh2];exact aq hA _ _
  have t2:=t.more x2;obtain⟨a2x,a2y,a2z,b2,g2,f2,r2⟩:=t2.read (i:=k) (by omega) (by omega);obtain⟨a2'x,a2'y,a2'z,b2',g2',f2',r2'⟩:=t2.read (i:=k') (by omega) (by omega);have q2:=az hA r2;have q2':=az hA r2';rw[<-hh2]
  (refine zq ?_;repeat ((first|rw[e1]);refine zq ?_))
  refine dH hA (aw hA h2) (cW hA f2) (cW hA f2') (fun u h2a hu x2a=>⟨_,rfl,?_⟩);have t2b:=de hA hlow t2 x2a;refine zc ?_;generalize lowered h2 h2a=h2b at *;refine br (0<=u) (by rw[cI hA,au hA];by_cases z:u<0<;>simp[z]<;>omega) (fun cu=>?_) (fun cu=>?_)<;>refine zc ?_
  ·exact hQ _ _ _ t2b hp
  ·skip
   obtain⟨h5,hh5⟩:∃z,z=bump h2b 18:=⟨_,rfl⟩;have x5:Ext h2b h5:=by rw[hh5];exact aq hA _ _
   have t5:=t2b.more x5;obtain⟨a5x,a5y,a5z,b5,g5,f5,r5⟩:=t5.read (i:=k) (by omega) (by omega);obtain⟨a5'x,a5'y,a5'z,b5',g5',f5',r5'⟩:=t5.read (i:=k') (by omega) (by omega);have q5:=az hA r5;have q5':=az hA r5';rw[<-hh5];obtain⟨h5c,h5d,p5,p5',t5d⟩:=cF hA t5 (i:=k) (j:=k') (by omega) (by omega) (by omega) (by omega) g5 g5'
   (refine zq ?_;repeat ((first|rw[e1]|rw[e2]);refine zq ?_))
   exact ih k1 h5d _ (by omega) (by omega) t5d (hp.trans (aD.swap L (by omega) (by rw[t.len];exact bn) (by omega) (by omega) (by omega) (by omega)))
theorem JZ{h0:af}(hlow:h0.low<=h0.next){b n c:Nat}{L0:List LE}{A B i j:Int}(a0:0<=A)(bn:B<=n)(ai:A<i)(ib:i<B){Q:Exit->SS->Prop}
  (hQ:∀h' L kn,aV h0 h' b n L->aD i B L0 L->Q (.exit 6) ⟨[(0,.slice (some ⟨b,0,none⟩) n c),(1,.int .i64 A),(2,.int .i64 B),(3,.func (.func 70) #[] #[]),(9,.int .i64 i),(10,.int .i64 j)],kn,[],h'⟩) :
  ∀(m:Nat) (k:Int) (h:af) (L:List LE),(B-k).toNat<=m->i+1<=k->aV h0 h b n L->aD i B L0 L->
   head 106 20 49 ⟨[(0,.slice (some ⟨b,0,none⟩) n c),(1,.int .i64 A),(2,.int .i64 B),(3,.func (.func 70) #[] #[]),(9,.int .i64 i),(10,.int .i64 j),(12,.int .i64 k)],49,[],h⟩ Q:=by
 intro m
 induction m with
 |zero=>
  intro k h L hm k0 t hp;refine hA.roundR Try.func106 r106_ok (zc ?_);refine br (k<B) (by rw[au hA]) (fun q=>by omega) (fun q=>?_)<;>refine zc ?_;exact hQ _ _ _ t hp
 |succ m ih=>
  intro k h L hm k0 t hp;have few:=t.few;refine hA.roundR Try.func106 r106_ok (zc ?_);refine br (k<B) (by rw[au hA]) (fun ck=>?_) (fun q=>?_)<;>refine zc ?_
  rotate_left
  ·exact hQ _ _ _ t hp
  obtain⟨k',hk'⟩:∃z,z=k-1:=⟨_,rfl⟩;have e1:arith .sub .i64 k 1=k':=by rw[hk'];exact bD hA (by omega) (by omega)
  have e2:arith .add .i64 k 1=k+1:=aB hA (by omega) (by omega);obtain⟨k1,hk1⟩:∃z,z=k+1:=⟨_,rfl⟩;rw[<-hk1]at e2;obtain⟨h2,hh2⟩:∃z,z=bump h 13:=⟨_,rfl⟩;have x2:Ext h h2:=by rw[hh2];exact aq hA _ _
  have t2:=t.more x2;obtain⟨a2x,a2y,a2z,b2,g2,f2,r2⟩:=t2.read (i:=k) (by omega) (by omega);obtain⟨a2'x,a2'y,a2'z,b2',g2',f2',r2'⟩:=t2.read (i:=k') (by omega) (by omega);have q2:=az hA r2;have q2':=az hA r2';rw[<-hh2]
  (refine zq ?_;repeat ((first|rw[e1]);refine zq ?_))
  refine dH hA (aw hA h2) (cW hA f2) (cW hA f2') (fun u h2a hu x2a=>⟨_,rfl,?_⟩);have t2b:=de hA hlow t2 x2a;refine zc ?_;generalize lowered h2 h2a=h2b at *;refine br (0<=u) (by rw[cI hA,au hA];by_cases z:u<0<;>simp[z]<;>omega) (fun cu=>?_) (fun cu=>?_)<;>refine zc ?_
  ·exact hQ _ _ _ t2b hp
  ·skip
   obtain⟨h5,hh5⟩:∃z,z=bump h2b 18:=⟨_,rfl⟩;have x5:Ext h2b h5:=by rw[hh5];exact aq hA _ _
   have t5:=t2b.more x5;obtain⟨a5x,a5y,a5z,b5,g5,f5,r5⟩:=t5.read (i:=k) (by omega) (by omega);obtain⟨a5'x,a5'y,a5'z,b5',g5',f5',r5'⟩:=t5.read (i:=k') (by omega) (by omega);have q5:=az hA r5;have q5':=az hA r5';rw[<-hh5];obtain⟨h5c,h5d,p5,p5',t5d⟩:=cF hA t5 (i:=k) (j:=k') (by omega) (by omega) (by omega) (by omega) g5 g5'
   (refine zq ?_;repeat ((first|rw[e1]|rw[e2]);refine zq ?_))
   exact ih k1 h5d _ (by omega) (by omega) t5d (hp.trans (aD.swap L (by omega) (by rw[t.len];exact bn) (by omega) (by omega) (by omega) (by omega)))
theorem Ln{h0:af}(hlow:h0.low<=h0.next){b n c:Nat}{L0:List LE}{A B:Int}(a0:0<=A)(ab:A+12<B)(bn:B<=n)(ov:qD L0 A B){Q:Exit->SS->Prop}
  (hQ:∀h' L u e kn,aV h0 h' b n L->aD A B L0 L->(u=true->aC fu L A B)->Q .ret ⟨(8,.bool u) :: e,kn,[],h'⟩) (hQ2:∀h' L kn,aV h0 h' b n L->aD A B L0 L->Q (.exit 0) ⟨[],kn,[],h'⟩) :
  ∀(m:Nat) (j i:Int) (h:af) (L:List LE),(5-j).toNat<=m->0<=j->A+1<=i->i<=B->aV h0 h b n L->aD A B L0 L->aC fu L A i->
   head 106 3 0 ⟨[(0,.slice (some ⟨b,0,none⟩) n c),(1,.int .i64 A),(2,.int .i64 B),(3,.func (.func 70) #[] #[]),(9,.int .i64 i),(10,.int .i64 j)],0,[],h⟩ Q:=by
 intro m
 induction m with
 |zero=>
  intro j i h L hm j0 i0 i1 t hp hs;refine hA.roundR Try.func106 r106_ok (zc ?_);refine br (j<5) (by rw[au hA]) (fun q=>by omega) (fun q=>?_)<;>refine zc ?_;exact hQ2 _ _ _ t hp
 |succ m ih=>
  intro j i h L hm j0 i0 i1 t hp hs;have few:=t.few;refine hA.roundR Try.func106 r106_ok (zc ?_);refine br (j<5) (by rw[au hA]) (fun cj=>?_) (fun q=>?_)<;>refine zc ?_
  rotate_left
  ·exact hQ2 _ _ _ t hp
  refine Lp hA hlow a0 bn (fun h1 i' t1 i2 i3 hs1=>?_) (B-i).toNat i h (Nat.le_refl _) i0 i1 t hs;refine zc ?_;refine br (i'=B) (by rw[cJ hA]) (fun ci=>?_) (fun ci=>?_)<;>refine zc ?_
  ·subst ci
   exact hQ _ _ true _ _ t1 hp (fun _=>hs1)
  have e1:arith .sub .i64 B A=B-A:=bD hA (by omega) (by omega);rw[e1];refine br (B-A<50) (by rw[au hA]) (fun cb=>?_) (fun cb=>?_)<;>refine zc ?_
  ·exact hQ _ _ false _ _ t1 hp (fun z=>by cases z)
  obtain⟨k',hk'⟩:∃z,z=i'-1:=⟨_,rfl⟩;have e2:arith .sub .i64 i' 1=k':=by rw[hk'];exact bD hA (by omega) (by omega)
  obtain⟨h5,hh5⟩:∃z,z=bump h1 18:=⟨_,rfl⟩;have x5:Ext h1 h5:=by rw[hh5];exact aq hA _ _
  have t5:=t1.more x5;obtain⟨a5x,a5y,a5z,b5,g5,f5,r5⟩:=t5.read (i:=i') (by omega) (by omega);obtain⟨a5'x,a5'y,a5'z,b5',g5',f5',r5'⟩:=t5.read (i:=k') (by omega) (by omega);have q5:=az hA r5;have q5':=az hA r5';rw[<-hh5];obtain⟨h5c,h5d,p5,p5',t5d⟩:=cF hA t5 (i:=i') (j:=k') (by omega) (by omega) (by omega) (by omega) g5 g5'
  (refine zq ?_;repeat ((first|rw[e2]);refine zq ?_))
  have e3:arith .sub .i64 i' A=i'-A:=bD hA (by omega) (by omega);have e4:arith .sub .i64 B i'=B-i':=bD hA (by omega) (by omega);have e5:arith .add .i64 i' 1=i'+1:=aB hA (by omega) (by omega);have e6:arith .add .i64 j 1=j+1:=aB hA (by omega) (by omega);have hp5:aD A B L0 (cV L i' k'):=hp.trans (aD.swap L a0 (by rw[t.len];exact bn) (by omega) (by omega) (by omega) (by omega));have hs5:aC fu (cV L i' k') A k':=(hs1.less (Int.le_refl _) (by omega)).same (fun q q0 q1=>by rw[gW L (by omega) (by have:=t.len;omega) (by omega) (by have:=t.len;omega) (by omega),if_neg (by omega),if_neg (by omega)]);generalize cV L i' k'=L5 at *;have go:∀h' L',aV h0 h' b n L'->aD A B L0 L'->aC fu L' A i'->head 106 3 0 ⟨[(0,.slice (some ⟨b,0,none⟩) n c),(1,.int .i64 A),(2,.int .i64 B),(3,.func (.func 70) #[] #[]),(9,.int .i64 i'),(10,.int .i64 (j+1))],0,[],h'⟩ Q:=fun h' L' t' hp' hs'=>ih (j+1) i' h' L' (by omega) (by omega) i2 i3 t' hp' hs'
  rw[e3];refine br (2<=i'-A) (by rw[bE hA]) (fun c2=>?_) (fun c2=>?_)<;>refine zc ?_
  ·rw[e2]
   refine KN hA hlow (L0:=L0) a0 bn (by omega) (by omega) ov (fun h6 L6 kn hk t6 hp6 hs6=>?_) (k'-A).toNat k' h5d L5 (Nat.le_refl _) (by omega) (by omega) t5d hp5 (by rw[<-hk'];exact .start hs5);refine zc ?_;rw[e4];rcases hk with rfl|rfl
   ·refine br (2<=B-i') (by rw[bE hA]) (fun c3=>?_) (fun c3=>?_)<;>refine zc ?_
    ·rw[e5]
     refine G3 hA hlow (L0:=L6) (A:=A) (j:=j) a0 bn (by omega) (by omega) (fun h7 L7 kn t7 hp7=>?_) (B-(i'+1)).toNat (i'+1) h6 L6 (Nat.le_refl _) (by omega) t6 (.refl _ _ _);refine zc ?_;rw[e6];exact go h7 L7 t7 (hp6.trans (hp7.wide a0 (by omega) (by omega))) (hs6.same (fun q q0 q1=>hp7.out q (by omega) (by omega)))
    ·rw[e6]
     exact go h6 L6 t6 hp6 hs6
   ·refine br (2<=B-i') (by rw[bE hA]) (fun c3=>?_) (fun c3=>?_)<;>refine zc ?_
    ·rw[e5]
     refine JZ hA hlow (L0:=L6) (A:=A) (j:=j) a0 bn (by omega) (by omega) (fun h7 L7 kn t7 hp7=>?_) (B-(i'+1)).toNat (i'+1) h6 L6 (Nat.le_refl _) (by omega) t6 (.refl _ _ _);refine zc ?_;rw[e6];exact go h7 L7 t7 (hp6.trans (hp7.wide a0 (by omega) (by omega))) (hs6.same (fun q q0 q1=>hp7.out q (by omega) (by omega)))
    ·rw[e6]
     exact go h6 L6 t6 hp6 hs6
  ·rw[e4]
   obtain⟨h6,hh6⟩:∃z,z=h5d:=⟨_,rfl⟩;obtain⟨L6,hL6⟩:∃z,z=L5:=⟨_,rfl⟩;have t6:=t5d;have hp6:=hp5;have hs6:aC fu L5 A i':=.one (by omega);rw[<-hh6,<-hL6]at *;refine br (2<=B-i') (by rw[bE hA]) (fun c3=>?_) (fun c3=>?_)<;>refine zc ?_
   ·rw[e5]
    refine G3 hA hlow (L0:=L6) (A:=A) (j:=j) a0 bn (by omega) (by omega) (fun h7 L7 kn t7 hp7=>?_) (B-(i'+1)).toNat (i'+1) h6 L6 (Nat.le_refl _) (by omega) t6 (.refl _ _ _);refine zc ?_;rw[e6];exact go h7 L7 t7 (hp6.trans (hp7.wide a0 (by omega) (by omega))) (hs6.same (fun q q0 q1=>hp7.out q (by omega) (by omega)))
   ·rw[e6]
    exact go h6 L6 t6 hp6 hs6
theorem KK{h0 h:af}(hlow:h0.low<=h0.next){b n c:Nat}{L:List LE}{A B:Int}(a0:0<=A)(ab:A+12<B)(bn:B<=n)(ov:qD L A B)(t:aV h0 h b n L){Q:Value->af->Prop}
  (hQ:∀h' L' u,aV h0 h' b n L'->aD A B L L'->(u=true->aC fu L' A B)->Q (.bool u) h'):call 106 [.slice (some ⟨b,0,none⟩) n c,.int .i64 A,.int .i64 B,.func (.func 70) #[] #[]] h Q:=by
 have hlow':=hlow
 replace hlow:=t.ext.lowOK hlow
 have few:=t.few;have e1:arith .add .i64 A 1=A+1:=aB hA (by omega) (by omega);refine hA.bodyR Try.func106 r106_ok (hA.alike _ _ _ rfl) hlow (zc ?_);rw[e1];refine Ln hA hlow' (L0:=L) a0 ab bn ov (fun h' L' u e kn t' hp hs=>?_) (fun h' L' kn t' hp=>?_) 5 0 (A+1) h L (by omega) (by omega) (by omega) (by omega) t (.refl _ _ _) (.one (by omega))
 ·refine zc ?_
  exact hQ h' L' u t' hp hs
 ·refine zc ?_
  exact hQ h' L' false t' hp (fun z=>by cases z)
