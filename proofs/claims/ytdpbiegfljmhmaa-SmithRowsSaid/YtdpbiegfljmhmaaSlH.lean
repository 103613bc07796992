import Derived.Test.YtdpbiegfljmhmaaLsP
import Derived.Test.YtdpbiegfljmhmaaInsP
import Derived.Test.YtdpbiegfljmhmaaFracPure
import Derived.Test.YtdpbiegfljmhmaaSmG
set_option linter.unusedSimpArgs false
set_option linter.unusedVariables false
namespace Go.Proofs.Ytdpbiegfljmhmaa
open Go.cY
set_option maxRecDepth 100000
def kR(bs:Nat->Nat)(w k:Nat):List Hd:=iK (fun y=>(⟨some ⟨bs y,0,none⟩,w,az 1 w⟩:Hd)) k
structure oW(h0 h:af)(sb k n w:Nat)(ra:Option Addr)(rc:Nat)(bs:Nat->Nat)(F:Nat->Ext.aS):Prop where
 rows:dW h0 h n w bs F
 own:bW h sb 1 [.slice ra k rc]
 kA:lE h 1 ra k rc ((kR bs w k).flatMap Hd.cells)
 kn:k<=n
 s0:h0.next<=sb
 s1:sb<h.next
 fr:iJ h0.next ra
 Sx:∀y,y<n->bs y≠sb
 FU:∀ad,ra=some ad->ad.block≠sb/\∀y,y<n->ad.block≠bs y
section
variable{h0 h:af}{sb k n w rc:Nat}{ra:Option Addr}{bs:Nat->Nat}{F:Nat->Ext.aS}
theorem oW.head(t:oW h0 h sb k n w ra rc bs F){y:Nat}(hy:y<k):∃b,ra=some ⟨b,0,none⟩/\b<h.next/\h.aM ⟨b,0+y*1,none⟩ 1=some [.slice (some ⟨bs y,0,none⟩) w (az 1 w)]:=by
 rcases t.kA with ⟨_,q,_⟩|⟨b,e,_,hb,hl,ho⟩
 ·omega
 refine⟨b,e,hb,?_⟩;have r:=bW.rows ho fM om hb;rw[show(kR bs w k).length=k from aW _ _]at r;obtain⟨b',o,e',_,q⟩:=r.at (i:=(y:Int)) om om;cases e';have:=q 0 1 om om;unfold kR at this;rw[dC _ hy]at this;exact this
theorem oW.more{h':af}(t:oW h0 h sb k n w ra rc bs F)(e:Ext h h'):oW h0 h' sb k n w ra rc bs F:=
 ⟨t.rows.more e,t.own.ext e t.s1,t.kA.ext e,t.kn,t.s0,Nat.lt_of_lt_of_le t.s1 e.next,t.fr,t.Sx,t.FU⟩
theorem oW.put{h':af}{G:Nat->Ext.aS}{r:Nat}(t:oW h0 h sb k n w ra rc bs F)(hr:r<n)(m:dW h0 h' n w bs G)(o:ku h h' (bs r)):oW h0 h' sb k n w ra rc bs G:=
 ⟨m,t.own.dj (o.get sb t.s1 (fun e=>t.Sx r hr e.symm)),t.kA.dj o.next (fun ad bQ hl=>o.get _ hl ((t.FU ad bQ).2 r hr)),t.kn,t.s0,Nat.lt_of_lt_of_le t.s1 o.next,t.fr,t.Sx,t.FU⟩
theorem oW.congr{G:Nat->Ext.aS}(t:oW h0 h sb k n w ra rc bs F)(e:∀y x,y<n->x<w->F y x=G y x):oW h0 h sb k n w ra rc bs G:=
 ⟨t.rows.congr e,t.own,t.kA,t.kn,t.s0,t.s1,t.fr,t.Sx,t.FU⟩
end
theorem Ext.rQ{w:Nat}{F:Nat->Ext.aS}{c:Nat}{v:Ext.aS}:∀y,∀j,j<=c->Ext.bJ w F c y v j=v j
 |0,j,_=>rfl
 |y+1,j,hj=>by
  show(if c<Ext.aj w (F y)then(fun j=>Ext.bJ w F c y v j-Ext.bJ w F c y v (Ext.aj w (F y)) / F y (Ext.aj w (F y))*F y j)else Ext.bJ w F c y v) j=v j;split
  ·rename_i q
   show Ext.bJ w F c y v j-Ext.bJ w F c y v (Ext.aj w (F y)) / F y (Ext.aj w (F y))*F y j=v j;rw[Ext.bD (w:=w) (v:=F y) (j:=j) om,Int.mul_zero,Int.sub_zero];exact Ext.rQ y j hj
  ·exact Ext.rQ y j hj
theorem Ext.Fo{w:Nat}{F:Nat->Ext.aS}{v:Ext.aS}(y:Nat):Ext.aj w (Ext.bJ w F (Ext.aj w v) y v)=Ext.aj w v:=
 Ext.iI (Ext.nH _ _) (fun j hj=>by rw[Ext.rQ y j om];exact Ext.bD hj) (fun q=>by rw[Ext.rQ y _ (Nat.le_refl _)];exact Ext.lU q)
theorem dW.perm{h0 h:af}{n w:Nat}{bs:Nat->Nat}{F:Nat->Ext.aS}(t:dW h0 h n w bs F){σ:Nat->Nat}(hs:∀y,y<n->σ y<n)(hi:∀y z,y<n->z<n->σ y=σ z->y=z):dW h0 h n w (fun y=>bs (σ y)) (fun y=>F (σ y)):=
 ⟨t.ext,fun y hy=>t.row _ (hs y hy),fun y hy=>t.cE _ (hs y hy),fun y hy=>t.lt _ (hs y hy),fun y z hy hz e=>hi y z hy hz (t.inj _ _ (hs y hy) (hs z hz) e)⟩
theorem CW{a b n:Nat}(ha:a<n)(hb:b<n):∀y,y<n->Jb a b y<n:=fun y hy=>by unfold Jb;split<;>(try split)<;>omega
theorem Q5{a b:Nat}(y z:Nat)(q:Jb a b y=Jb a b z):y=z:=by unfold Jb at q;split at q<;>(try split at q)<;>(try split at q)<;>(try split at q)<;>omega
theorem oW.swap{h0 h:af}{sb k w rc:Nat}{ra:Option Addr}{bs:Nat->Nat}{F:Nat->Ext.aS}(t:oW h0 h sb k (k+1) w ra rc bs F){a:Nat}(ha:a<k) :
  ∃b h2,ra=some ⟨b,0,none⟩/\h.write b (0+a*1) [.slice (some ⟨bs k,0,none⟩) w (az 1 w)]=some h2/\oW h0 h2 sb k (k+1) w ra rc (fun y=>bs (Jb a k y)) (fun y=>F (Jb a k y)):=by
 rcases t.kA with ⟨_,q,_⟩|⟨b,rfl,ec,hb,hl,ho⟩
 ·omega
 have hlen:(kR bs w k).length=k:=aW _ _;obtain⟨h2,w1,w2,w3⟩:=bW.setRow ho fM (i:=a) (by rw[hlen];exact ha) (⟨some ⟨bs k,0,none⟩,w,az 1 w⟩:Hd);have To:=t.FU ⟨b,0,none⟩ rfl;have e:(kR bs w k).set a ⟨some ⟨bs k,0,none⟩,w,az 1 w⟩=kR (fun y=>bs (Jb a k y)) w k:=by
  unfold kR;rw[tW];refine dX (fun y hy=>?_);by_cases c:y=a
  ·simp only[Jb,if_pos c]
  ·simp only[Jb,if_neg c,if_neg (show ¬y=k by omega)]
 rw[e]at w2;have hp:=t.rows.perm (CW (a:=a) (b:=k) (n:=k+1) om om) (fun y z _ _ q=>Q5 y z q);have xe:Ext h0 h2:=w3.ext t.rows.ext (t.fr _ rfl);refine⟨b,h2,rfl,by rw[Nat.zero_add];exact w1,⟨hp.bj xe (by rw[w3.next];exact Nat.le_refl _) (fun y hy=>w3.get _ (fun q=>To.2 _ (CW (a:=a) (b:=k) (n:=k+1) om om y hy) q.symm)),t.own.dj (w3.get _ (fun q=>To.1 q.symm)),?_,t.kn,t.s0,by rw[w3.next];exact t.s1,t.fr,fun y hy=>t.Sx _ (CW om om y hy),fun ad bQ=>?_⟩⟩
 ·refine .inr ⟨b,rfl,ec,by rw[w3.next];exact hb,?_,w2⟩
  rw[dG fM];unfold kR;rw[aW]
 ·cases bQ
  exact⟨To.1,fun y hy=>To.2 _ (CW om om y hy)⟩
def rX(a k:Nat):Nat->Nat:=fun y=>if y<a then y else if y=a then k else y-1
theorem xD{a k:Nat}(ha:a<=k):∀y,y<k+1->rX a k y<k+1:=fun y hy=>by unfold rX;split<;>(try split)<;>omega
theorem On{a k:Nat}(ha:a<=k)(y z:Nat)(hy:y<k+1)(hz:z<k+1)(q:rX a k y=rX a k z):y=z:=by unfold rX at q;split at q<;>(try split at q)<;>(try split at q)<;>(try split at q)<;>omega
theorem UB{bs:Nat->Nat}{w k a:Nat}(ha:a<=k):(kR bs w k).take a++(⟨some ⟨bs k,0,none⟩,w,az 1 w⟩:Hd) :: (kR bs w k).drop a=kR (fun y=>bs (rX a k y)) w (k+1):=by
 have hlen:(kR bs w k).length=k:=aW _ _;apply List.ext_getElem?;intro j;have ht:((kR bs w k).take a).length=a:=by rw[List.length_take,hlen,Nat.min_eq_left ha]
 by_cases c:j<k+1
 ·rw[show(kR (fun y=>bs (rX a k y)) w (k+1))[j]?=_ from jE _ c]
  rcases Nat.lt_trichotomy j a with q|q|q
  ·rw[List.getElem?_append_left om,List.getElem?_take,if_pos q]
   unfold kR;rw[jE _ om];simp only[rX,if_pos q]
  ·rw[List.getElem?_append_right om,ht,q,Nat.sub_self]
   simp only[rX,if_neg (show ¬a<a by omega),if_true];rfl
  ·rw[List.getElem?_append_right om,ht,show j-a=(j-a-1)+1 by omega,List.getElem?_cons_succ,List.getElem?_drop,show a+(j-a-1)=j-1 by omega]
   unfold kR;rw[jE _ om];simp only[rX,if_neg (show ¬j<a by omega),if_neg (show ¬j=a by omega)]
 ·rw[List.getElem?_eq_none (by rw[List.length_append,List.length_cons,ht,List.length_drop,hlen];omega),List.getElem?_eq_none (by unfold kR;rw[aW];omega)]
theorem KK{F:Nat->Ext.aS}{a k:Nat}(ha:a<=k):∀y,y<k+1->F (rX a k y)=Ext.jY F a (F k) y:=fun y hy=>by
 unfold rX Ext.jY;by_cases c:y<a
 ·rw[if_pos c,if_pos c]
 ·rw[if_neg c,if_neg c]
  by_cases c2:y=a
  ·rw[if_pos c2,if_pos c2]
  ·rw[if_neg c2,if_neg c2]
theorem oW.ins{h0 h h2:af}{sb k w rc:Nat}{ra:Option Addr}{bs:Nat->Nat}{F:Nat->Ext.aS}(t:oW h0 h sb k (k+1) w ra rc bs F){a:Nat}(ha:a<=k){b:Nat}(hx:Ext h0 h2)(hn:h.next<=h2.next)(hg:∀i,i<h.next->(∀ad,ra=some ad->ad.block≠i)->h2.m.get i=h.m.get i)(hb:h.next<=b)(wz:b<h2.next)
  (ho:bW h2 b 1 (((kR bs w k).take a++(⟨some ⟨bs k,0,none⟩,w,az 1 w⟩:Hd) :: (kR bs w k).drop a).flatMap Hd.cells)) :
  ∃h3,h2.write sb 0 [.slice (some ⟨b,0,none⟩) (k+1) (az 1 (k+1))]=some h3/\oW h0 h3 sb (k+1) (k+1) w (some ⟨b,0,none⟩) (az 1 (k+1)) (fun y=>bs (rX a k y)) (fun y=>F (rX a k y)):=by
 rw[UB ha]at ho;have os:bW h2 sb 1 [.slice ra k rc]:=t.own.dj (hg sb t.s1 (fun ad bQ=>(t.FU ad bQ).1));obtain⟨h3,w1,w2,w3⟩:=os.write (o:=0) (vs:=[.slice (some ⟨b,0,none⟩) (k+1) (az 1 (k+1))]) (Nat.le_refl _);have s0:=t.s0;have s1:=t.s1;have hp:=t.rows.perm (xD ha) (On ha);have x3:Ext h0 h3:=w3.ext hx s0;refine⟨h3,w1,hp.bj x3 (by rw[w3.next];exact hn) (fun y hy=>?_),w2,.inr ⟨b,rfl,rfl,by rw[w3.next];exact wz,?_,ho.dj (w3.get _ om)⟩,Nat.le_refl _,s0,by rw[w3.next];omega,?_,fun y hy=>t.Sx _ (xD ha y hy),fun ad bQ=>?_⟩
 ·have S8:=xD ha y hy
  rw[w3.get _ (t.Sx _ S8),hg _ (t.rows.lt _ S8) (fun ad bQ=>(t.FU ad bQ).2 _ S8)]
 ·rw[dG fM];unfold kR;rw[aW]
 ·intro ad bQ;cases bQ;have:=t.rows.ext.next;show h0.next<=b;omega
 ·cases bQ
  exact⟨by show b≠sb;omega,fun y hy=>by have:=t.rows.lt _ (xD ha y hy);show b≠_;omega⟩
structure sT(F:bk):Prop where
 ins:∀a h r,jz a h=some r->F 100 a h=some r
 non:∀a h,jz a h=none->F 100 a h=none
theorem zP:sT gS:=⟨fun a h r q=>by unfold gS qG;rw[Nat.beq_refl];simp only[cond_true,q],fun a h q=>by unfold gS qG;rw[Nat.beq_refl];simp only[cond_true,q];rfl⟩
theorem uC(l:List Hd):l.flatMap Hd.cells=l.map (fun d=>.slice d.a d.n d.c):=by
 induction l with
 |nil=>rfl
 |cons d l ih=>rw[List.flatMap_cons,ih];rfl
theorem Fp{ra:Option Addr}{k rc vb:Nat}(h:af):jz [.slice ra k rc,.int .i64 (k:Int),.slice (some ⟨vb,0,none⟩) 1 1] h=none:=by
 cases hc:jz [.slice ra k rc,.int .i64 (k:Int),.slice (some ⟨vb,0,none⟩) 1 1] h with
 |none=>rfl
 |some p=>
  exfalso;obtain⟨b,n,i,vb2,cs,v,e,_,_,_,hi,_⟩:=oI (r:=p.1) (h':=p.2) hc;simp only[List.cons.injEq,Value.slice.injEq,Value.int.injEq]at e;obtain⟨⟨_,e1,_⟩,⟨_,e2⟩,_⟩:=e;have:(k:Int)=(i:Int):=e2;omega
theorem UC(bs:Nat->Nat)(w k:Nat):((kR bs w k).flatMap Hd.cells).all aE=true:=by
 rw[uC,List.all_eq_true];intro v hv;obtain⟨d,hd,rfl⟩:=List.mem_map.1 hv;unfold kR iK at hd;obtain⟨y,_,rfl⟩:=List.mem_map.1 hd;rfl
theorem Oo:qw ((cH Try.prog BI Hx 10000).call 16 [] kE)=true:=by kernel_rfl
theorem Oq:dF Try.prog vS:=D6 (tF mixed KL Fq named 10000).2.2.1 Try.func16 (by kernel_rfl) (named 16 _ Try.func16) Oo vu
theorem Fs(g:FuncId)(args:List Value)(h:af)(hg:own g=false):vS g args h=sK g args h:=by
 rw[<-we g args h hg];unfold own at hg;simp only[Bool.or_eq_false_iff]at hg;unfold vS nJ;rw[hg.1.1];rfl
theorem Hy(h:af):vS 16 [] h=some (.bool true,h):=rfl
theorem KM:sT vS:=⟨fun a h r q=>zP.ins a h r q,fun a h q=>zP.non a h q⟩
theorem zjh{P:Prop}{G:af->Prop}(ok:af->Prop)(h1:Bx (∀v,ok v->G v)->P)(h2:∀v,ok v->G v):P:=h1 ⟨h2⟩
theorem zjp{P G:Prop}(C:Prop)(h1:Bx (C->G)->P)(h2:C->G):P:=h1 ⟨h2⟩
variable{F:bk}{call head arith d0 e0 g0 m0 n0 o0 q0 t0 ofNat u0 place v0 nz w0 rd wr push next x0 y0 z0 d1 i1 l1 u1 a2 d2 i2 j2 l2 a3 fresh aw aG wrote bT lt ne ph c3 d3 yn i3 j3 l3 p3 a4 c4:_}(hA:AP F ⟨call,head,arith,d0,e0,g0,m0,n0,o0,q0,t0,ofNat,u0,place,v0,nz,w0,rd,wr,push,next,x0,y0,z0,d1,i1,l1,u1,a2,d2,i2,j2,l2,a3,fresh,aw,aG,wrote,bT,lt,ne,ph,c3,d3,yn,i3,j3,l3,p3,a4,c4⟩)
include hA
theorem Hz{h0 hs:af}(aq:h0.low<=h0.next){sb k n w rc r c:Nat}{ra:Option Addr}{bs:Nat->Nat}{F:Nat->Ext.aS}(hk:k<=10)(hr:r<n)(hw:w<=1000)(ec:c=Ext.aj w (F r))(hp:∀y,y<k->c<Ext.aj w (F y)->Ext.aj w (F y)<w/\0<F y (Ext.aj w (F y)))(fD:Ext.mf w F c k (F r)){C K:Int}(eC:C=c)(eK:K=k){cw:Nat}(qU:cw=az 1 w){Q:Exit->SS->Prop}
  (hQ:∀(h':af) (kn:Nat) (T:List (Nat×List Value)),oW h0 h' sb k n w ra rc bs (Ext.put F r (Ext.bJ w F c k (F r)))->ku hs h' (bs r)->Q (.exit 0) ⟨[],kn,T,h'⟩) :
  ∀(d j:Nat) (J:Int) (h:af),k-j<=d->j<=k->J=j->oW h0 h sb k n w ra rc bs (Ext.put F r (Ext.bJ w F c j (F r)))->ku hs h (bs r)->
   head 98 2 0 ⟨[(1,.slice (some ⟨bs r,0,none⟩) w cw),(4,.int .i64 C),(13,.slice ra k rc),(14,.int .i64 K),(15,.int .i64 J)],0,[],h⟩ Q:=by
 refine rS (fun d ih=>?_);intro j J h hd hj eJ m st;by_cases cj:j<k
 rotate_left
 ·refine hA.ar Try.func98 x98.2 (zc ?_)
  refine br (J<K) (by rw[aA hA]) (fun q=>om) (fun _=>?_)<;>refine zc ?_;obtain rfl:j=k:=om
  exact hQ h _ _ m st
 obtain⟨d,rfl⟩:∃k,d=k+1:=⟨d-1,om⟩
 replace ih:=ih d rfl
 obtain⟨b,rfl,hb,q1⟩:=m.head cj;rw[<-qU]at q1;have r1:rd h b (place 0 J 1) 1 [.slice (some ⟨bs j,0,none⟩) w cw]:=aC hA (by rw[eJ];exact q1);have Ah:h.low<=h.next:=m.rows.ext.aD aq;refine hA.ar Try.func98 x98.2 (zc ?_);refine br (J<K) (by rw[aA hA]) (fun _=>?_) (fun q=>om)<;>refine zc ?_;refine zq ?_;have hjn:j<n:=by have:=m.kn;omega
 refine rI hA Ah hw (fun x hx=>m.rows.el hjn hx) (fun L eL=>?_);refine⟨L,rfl,?_⟩;refine zq ?_;obtain⟨G,eG⟩:∃z,z=Ext.put F r (Ext.bJ w F c j (F r)):=⟨_,rfl⟩;have VB:G r=Ext.bJ w F c j (F r):=by rw[eG];exact Ext.gE _
 have XU:∀y,y≠r->G y=F y:=fun y hy=>by rw[eG];exact Ext.gf _ hy
 rw[<-eG]at m eL;refine br (C<L) (by rw[dP hA]) (fun cq=>?_) (fun cq=>?_)<;>refine zc ?_
 rotate_left
 ·rw[aH hA om om]
  refine ih (j+1) (J+1) h om om om ?_ st;have e:Ext.bJ w F c (j+1) (F r)=Ext.bJ w F c j (F r):=by
   show(if c<Ext.aj w (F j)then _ else _)=_;rw[if_neg];by_cases ej:j=r
   ·rw[ej,<-ec];omega
   ·rw[XU j ej]at eL;omega
  rw[e,<-eG];exact m
 have ZA:j≠r:=fun e=>by
  rw[e,VB,ec,Ext.Fo]at eL;omega
 rw[XU j ZA]at eL;obtain⟨l,el⟩:∃z,z=Ext.aj w (F j):=⟨_,rfl⟩;rw[<-el]at eL;obtain⟨p1,p2⟩:=hp j cj om;rw[<-el]at p1 p2;have x9:Ext h (aG h 12):=au hA _ _;have m9:=m.more x9;obtain⟨a,ha⟩:∃z,z=G r l:=⟨_,rfl⟩;obtain⟨b',uX⟩:∃z,z=F j l:=⟨_,rfl⟩;rw[<-uX]at p2;have r2:rd (aG h 12) (bs r) (place 0 L 1) 1 [.int .i64 a]:=aC hA (by rw[eL,ha];exact m9.rows.el hr p1);have r3:rd (aG h 12) (bs j) (place 0 L 1) 1 [.int .i64 b']:=aC hA (by
  rw[eL,uX,<-XU j ZA];exact m9.rows.el hjn p1)
 refine zq ?_;have ho:=fD j cj om;refine rJ hA p2 (by have:=(ho l).1;rw[ha,VB];omega) (by have:=(ho l).1;rw[ha,VB];omega) (aB hA _) (fun q eq=>⟨q,rfl,?_⟩);refine zq ?_;obtain⟨X,hX⟩:∃z,z=aw (aG h 12) (fresh (aG h 12)):=⟨_,rfl⟩;have xX:Ext h X:=by rw[hX];exact cG hA Ah x9 (.refl _)
 rw[<-hX];have Zy:q=Ext.bJ w F c j (F r) l / F j l:=by rw[eq,ha,VB,uX]
 refine Cz hA (aB hA X) hr hjn hw (fun x hx=>?_) (m.rows.more (xX.trans (iu hA X))) (fun h' m' ZB=>?_)
 ·have:=ho x
  rw[VB,XU j ZA,Zy];rw[show Ext.bJ w F c (j+1) (F r) x=Ext.bJ w F c j (F r) x-Ext.bJ w F c j (F r) l / F j l*F j x by
   show(if c<Ext.aj w (F j)then(fun x=>Ext.bJ w F c j (F r) x-Ext.bJ w F c j (F r) (Ext.aj w (F j)) / F j (Ext.aj w (F j))*F j x)else _) x=_;rw[if_pos om,el]]at this
  rw[<-el]at this;exact this
 refine zq ?_;rw[aH hA om om];have VC:=(st.ext (xX.trans (iu hA X))).trans ZB;have st3:ku hs (aw X h') (bs r):=by rw[dH hA];exact⟨VC.next,VC.get⟩
 have st4:ku h (aw X h') (bs r):=by
  have:=((ku.refl h (bs r)).ext (xX.trans (iu hA X))).trans ZB;rw[dH hA];exact⟨this.next,this.get⟩
 have m2:dW h0 (aw X h') n w bs (Ext.put G r (fun x=>G r x-q*G j x)):=by
  rw[dH hA];exact⟨Ext.vk m'.ext (m.rows.ext.trans xX) aq,m'.row,m'.cE,m'.lt,m'.inj⟩
 refine ih (j+1) (J+1) _ om om om ?_ st3;have e:Ext.put G r (fun x=>G r x-q*G j x)=Ext.put F r (Ext.bJ w F c (j+1) (F r)):=by
  rw[eG,Ext.jx,<-eG,VB,XU j ZA,Zy]
  congr 1
  show _=(if c<Ext.aj w (F j)then(fun x=>Ext.bJ w F c j (F r) x-Ext.bJ w F c j (F r) (Ext.aj w (F j)) / F j (Ext.aj w (F j))*F j x)else _);rw[if_pos om,el]
 rw[<-e];exact m.put hr m2 st4
theorem uD{h0 h:af}(fF:h0.low<=h0.next){sb k n w rc r:Nat}{ra:Option Addr}{bs:Nat->Nat}{F:Nat->Ext.aS}(hk:k<=10)(hr:r<n)(hw:w<=1000)(hp:∀y,y<k->Ext.aj w (F r)<Ext.aj w (F y)->Ext.aj w (F y)<w/\0<F y (Ext.aj w (F y)))(fD:Ext.mf w F (Ext.aj w (F r)) k (F r))(m:oW h0 h sb k n w ra rc bs F){cw:Nat}(qU:cw=az 1 w){Q:Value->af->Prop}
  (hQ:∀h',oW h0 h' sb k n w ra rc bs (Ext.put F r (Ext.bJ w F (Ext.aj w (F r)) k (F r)))->ku h h' (bs r)->Q (.tuple #[]) h') :
  call 98 [.pointer (some ⟨sb,0,none⟩),.slice (some ⟨bs r,0,none⟩) w cw] h Q:=by
 obtain⟨K,eK⟩:∃z:Int,z=k:=⟨_,rfl⟩;have e1:ofNat k=K:=by rw[eK];exact aL hA k
 have aq:h.low<=h.next:=m.rows.ext.aD fF;have r1:rd h sb (bT 0 0) 1 [.slice ra k rc]:=by rw[cZ hA];exact jj hA (m.own.aM (o:=0) (n:=1) (Nat.le_refl _))
 refine hA.aU Try.func98 x98.2 (hA.alike _ _ _ rfl) aq (zc ?_);refine zq ?_;refine rI hA aq hw (fun x hx=>m.rows.el hr hx) (fun L eL=>?_);refine⟨L,rfl,?_⟩
 (refine zq ?_;repeat ((first|rw[e1]);refine zq ?_))
 refine Hz hA (sb:=sb) fF hk hr hw rfl hp fD eL eK qU (fun h' kn T m2 st=>?_) k 0 0 h om om rfl ?_ (.refl _ _)
 ·refine zc ?_
  exact hQ h' m2 st
 ·have:Ext.put F r (Ext.bJ w F (Ext.aj w (F r)) 0 (F r))=F:=Ext.jw
  rw[this];exact m
theorem KN{h0 h:af}(fF:h0.low<=h0.next){sb k n w rc c r:Nat}{ra:Option Addr}{bs:Nat->Nat}{F:Nat->Ext.aS}(hk:k<=10)(hr:r<n)(hw:w<=1000)(m:oW h0 h sb k n w ra rc bs F){C:Int}(eC:C=c){cw:Nat}(qU:cw=az 1 w){Q:Exit->SS->Prop}
  (hQ:∀(kn:Nat) (T:List (Nat×List Value)) (a:Nat) (I:Int),I=a->a<=k->(∀y,y<a->Ext.aj w (F y)<c)->(a<k->c<=Ext.aj w (F a))->Q (.exit 2) ⟨[(0,.pointer (some ⟨sb,0,none⟩)),(1,.slice (some ⟨bs r,0,none⟩) w cw),(4,.func (.func 98) #[.pointer (some ⟨sb,0,none⟩)] #[]),(5,.int .i64 C),(6,.int .i64 I)],kn,T,h⟩) :
  ∀(d j:Nat) (J:Int),k-j<=d->j<=k->J=j->(∀y,y<j->Ext.aj w (F y)<c)->
   head 85 5 0 ⟨[(0,.pointer (some ⟨sb,0,none⟩)),(1,.slice (some ⟨bs r,0,none⟩) w cw),(4,.func (.func 98) #[.pointer (some ⟨sb,0,none⟩)] #[]),(5,.int .i64 C),(6,.int .i64 J)],0,[],h⟩ Q:=by
 intro d;have aq:h.low<=h.next:=m.rows.ext.aD fF;obtain⟨K,eK⟩:∃z:Int,z=k:=⟨_,rfl⟩;have e1:ofNat k=K:=by rw[eK];exact aL hA k
 have r1:rd h sb (bT 0 0) 1 [.slice ra k rc]:=by rw[cZ hA];exact jj hA (m.own.aM (o:=0) (n:=1) (Nat.le_refl _))
 have hkn:=m.kn
 induction d with
 |zero=>
  intro j J hd hj eJ hz;refine hA.ar Try.func85 vi (zc ?_)
  (refine zq ?_;repeat ((first|rw[e1]);refine zq ?_))
  refine br (J<K) (by rw[aA hA]) (fun q=>om) (fun _=>?_)<;>refine zc ?_;refine zq ?_;exact hQ _ _ j J eJ hj hz (fun q=>om)
 |succ d ih=>
 intro j J hd hj eJ hz;refine hA.ar Try.func85 vi (zc ?_)
 (refine zq ?_;repeat ((first|rw[e1]);refine zq ?_))
 refine br (J<K) (by rw[aA hA]) (fun cj=>?_) (fun cj=>?_)<;>refine zc ?_
 rotate_left
 ·refine zq ?_
  exact hQ _ _ j J eJ hj hz (fun q=>om)
 obtain⟨b,rfl,hb,q1⟩:=m.head (y:=j) om;rw[<-qU]at q1;have r2:rd h b (place 0 J 1) 1 [.slice (some ⟨bs j,0,none⟩) w cw]:=aC hA (by rw[eJ];exact q1);refine zq ?_;refine rI hA aq hw (fun x hx=>m.rows.el (show j<n by omega) hx) (fun L eL=>⟨L,rfl,?_⟩);refine zq ?_;refine br (L<C) (by rw[aA hA]) (fun cl=>?_) (fun cl=>?_)<;>refine zc ?_
 ·refine zq ?_
  rw[aH hA om om];exact ih (j+1) (J+1) om om om (fun y hy=>by
   by_cases e:y=j
   ·rw[e];omega
   ·exact hz y om)
 ·refine zq ?_
  exact hQ _ _ j J eJ hj hz (fun _=>om)
theorem Ot(hI:sT F){h0 h:af}(fF:h0.low<=h0.next){k w rc vb a:Nat}{ra:Option Addr}{bs:Nat->Nat}(hx:Ext h0 h)(hk:k<=10)(hp:lE h 1 ra k rc ((kR bs w k).flatMap Hd.cells))(fr:iJ h0.next ra)(ha:a<=k){I:Int}(eI:I=a)(hv:bW h vb 1 (Hd.cells ⟨some ⟨bs k,0,none⟩,w,az 1 w⟩))(Vg:vb<h.next)(ff:∀ad,ra=some ad->ad.block≠vb){Q:Value->af->Prop}
  (hQ:∀b h2,Ext h0 h2->h.next<=h2.next->(∀i,i<h.next->(∀ad,ra=some ad->ad.block≠i)->h2.m.get i=h.m.get i)->h.next<=b->b<h2.next->
   bW h2 b 1 (((kR bs w k).take a++(⟨some ⟨bs k,0,none⟩,w,az 1 w⟩:Hd) :: (kR bs w k).drop a).flatMap Hd.cells)->Q (.slice (some ⟨b,0,none⟩) (k+1) (az 1 (k+1))) h2) :
  call 100 [.slice ra k rc,.int .i64 I,.slice (some ⟨vb,0,none⟩) 1 1] h Q:=by
 have aq:h.low<=h.next:=hx.aD fF;have hlen:(kR bs w k).length=k:=aW _ _;by_cases c:a<k
 ·rcases hp with ⟨_,q,_⟩|⟨b0,rfl,ec,hb,hl,ho⟩
  ·omega
  have mw:h0.next<=b0:=fr _ rfl;have e:(((kR bs w k).take a++(⟨some ⟨bs k,0,none⟩,w,az 1 w⟩:Hd) :: (kR bs w k).drop a).flatMap Hd.cells)=((kR bs w k).flatMap Hd.cells).take a++(.slice (some ⟨bs k,0,none⟩) w (az 1 w)) :: ((kR bs w k).flatMap Hd.cells).drop a:=by
   rw[uC,uC,List.map_append,List.map_cons,List.map_take,List.map_drop]
  have key:jz [.slice (some ⟨b0,0,none⟩) k rc,.int .i64 I,.slice (some ⟨vb,0,none⟩) 1 1] h=some (.slice (some ⟨h.next,0,none⟩) (k+1) (az 1 (k+1)),(h.kill b0).push 1 (((kR bs w k).flatMap Hd.cells).take a++(.slice (some ⟨bs k,0,none⟩) w (az 1 w)) :: ((kR bs w k).flatMap Hd.cells).drop a)):=by
   unfold jz;have q1:h.m.get b0=some (.live true 1 ((kR bs w k).flatMap Hd.cells)):=ho;have q2:h.m.get vb=some (.live true 1 [.slice (some ⟨bs k,0,none⟩) w (az 1 w)]):=hv;simp only[q1,q2];have z1:Nat.beq rc (az 1 k)=true:=by rw[ec];exact Nat.beq_refl _
   have z2:Nat.beq ((kR bs w k).flatMap Hd.cells).length k=true:=by rw[hl,Nat.mul_one];exact Nat.beq_refl _
   have z3:decide (0<=I/\I<k)=true:=by simp;omega
   have z4:((kR bs w k).flatMap Hd.cells).all AB=true:=by
    rw[uC,List.all_eq_true];intro v hv;obtain⟨d,hd,rfl⟩:=List.mem_map.1 hv;unfold kR iK at hd;obtain⟨y,_,rfl⟩:=List.mem_map.1 hd;rfl
   have z5:Nat.beq b0 vb=false:=J8 (ff _ rfl);have z6:Nat.ble k 1000=true:=bq om;simp only[z1,z2,z3,z4,z5,z6,AB,Bool.and_self,Bool.not_false,cond_true];rw[show I.toNat=a by omega]
  refine hA.Mz (hI.ins _ _ _ key) ?_;have x1:Ext h0 ((h.kill b0).push 1 (((kR bs w k).flatMap Hd.cells).take a++(.slice (some ⟨bs k,0,none⟩) w (az 1 w)) :: ((kR bs w k).flatMap Hd.cells).drop a)):=(hx.kill mw).trans (.push _ _ _);refine hQ h.next _ x1 (Nat.le_succ _) (fun i hi hni=>?_) (Nat.le_refl _) (Nat.lt_succ_self _) ?_
  ·show((h.m.set b0 .dead).set h.next _).get i=_
   rw[cW.aR _ _ om,cW.aR _ _ (hni _ rfl)]
  ·rw[e];exact bW.push (h.kill b0) 1 _
 ·obtain rfl:a=k:=om
  have XV:F 100 [.slice ra a rc,.int .i64 I,.slice (some ⟨vb,0,none⟩) 1 1] h=none:=by rw[eI];exact hI.non _ _ (Fp h)
  have e1:ofNat 1=1:=aL hA 1;have e2:ofNat a=I:=by rw[eI];exact aL hA a
  have nB:rc=az 1 a\/(a=0/\ra=none/\rc=0):=by
   rcases hp with ⟨q1,q2,q3,_⟩|⟨b0,_,ec,_⟩
   ·exact .inr ⟨q2,q1,q3⟩
   ·exact .inl ec
  refine hA.aU Try.func100 x100.2 XV aq (zc ?_);rw[eI];refine MH hA zf om nB hp.cells (Nat.le_refl a) (fun a' c' _=>?_);rw[<-eI]
  (refine zq ?_;repeat ((first|rw[e1]);refine zq ?_))
  refine br ((1:Int)=0) (by rw[dn hA]) (fun q=>om) (fun _=>?_)<;>refine zc ?_
  (refine zq ?_;repeat ((first|rw[e2]);refine zq ?_))
  refine br (I=I) (by rw[dn hA]) (fun _=>?_) (fun q=>absurd rfl q)<;>refine zc ?_;refine zq ?_;rw[sz hA];have hs:Cells h (some ⟨vb,0,none⟩) 1 1 (Hd.cells ⟨some ⟨bs a,0,none⟩,w,az 1 w⟩):=⟨rfl,Vg,hv.aM (o:=0) (n:=1) (Nat.le_refl _)⟩;obtain⟨a',c',h',q1,q2,q3,q4,q5,q6⟩:=qE zf zf.vR (c2:=1) hp hs (UC bs w a) rfl om om;obtain⟨x1,_⟩:=q3 h0 hx fr;rcases q2 with ⟨_,w',_⟩|⟨b',rfl,rfl,w1,w2,w3⟩
  ·omega
  refine⟨_,_,_,h',q1,?_⟩;have hq:=hQ b' h' x1 q4 (fun i hi hni=>q6 i hi hni) (q5 _ rfl) w1 (by
   rw[List.take_of_length_le om,List.drop_eq_nil_of_le om,List.flatMap_append];simpa using w3)
  generalize az 1 (a+1)=cc at *;generalize a+1=a1 at *;refine zq ?_;exact hq
set_option maxHeartbeats 1000000 in
theorem Ou(hI:sT F){h0:af}(fF:h0.low<=h0.next){sb k w cw:Nat}{F0:Nat->Ext.aS}(hw:w<=1000)(qU:cw=az 1 w)(hM:∀i,i<k+1->∀j,(F0 i j).natAbs<=9){Q:Exit->SS->Prop}
  (hQ:∀(h':af) (kn:Nat) (T:List (Nat×List Value)) ra rc bs A,oW h0 h' sb (k+1) (k+1) w ra rc bs A->Ext.sR w (k+1) (k+1) A F0->Q (.exit 0) ⟨[(0,.pointer (some ⟨sb,0,none⟩)),(4,.func (.func 98) #[.pointer (some ⟨sb,0,none⟩)] #[])],kn,T,h'⟩) :
  ∀(D M:Nat) (h:af) (ra:Option Addr) (rc:Nat) (bs:Nat->Nat) (A:Nat->Ext.aS),oW h0 h sb k (k+1) w ra rc bs A->Ext.FQ w k A F0 D M->
   head 85 1 0 ⟨[(0,.pointer (some ⟨sb,0,none⟩)),(1,.slice (some ⟨bs k,0,none⟩) w cw),(4,.func (.func 98) #[.pointer (some ⟨sb,0,none⟩)] #[])],0,[],h⟩ Q:=by
 intro D
 induction D using Nat.strongRecOn with
 |_ D ihD=>
 intro M
 induction M using Nat.strongRecOn with
 |_ M ihM=>
 intro h ra rc bs A m r;have k3:=r.base.k3;have aq:h.low<=h.next:=m.rows.ext.aD fF;obtain⟨lo1,b1⟩:=r.low;have Lf:=r.base.lead;refine hA.ar Try.func85 vi (zc ?_);refine uD hA (sb:=sb) (r:=k) fF om om hw (fun y hy _=>⟨r.base.gJ.lt y hy,r.base.gJ.pos y hy⟩) lo1 m qU (fun h1 m1 _=>?_);have Jc:h1.low<=h1.next:=m1.rows.ext.aD fF;obtain⟨u,eu⟩:∃z,z=Ext.bJ w A (Ext.aj w (A k)) k (A k):=⟨_,rfl⟩;rw[<-eu]at m1 b1;obtain⟨A1,eA⟩:∃z,z=Ext.put A k u:=⟨_,rfl⟩;have SA:A1 k=u:=by rw[eA];exact Ext.gE u
 have UD:∀y,y<k->A1 y=A y:=fun y hy=>by rw[eA];exact Ext.gf u om
 rw[<-eA]at m1;have Xg:Ext.aj w u=Ext.aj w (A k):=by rw[eu];exact Ext.Fo k
 refine zq ?_;refine rI hA Jc hw (fun x hx=>m1.rows.el (show k<k+1 by omega) hx) (fun C eC=>⟨C,rfl,?_⟩);rw[SA,Xg]at eC;obtain⟨W,eW⟩:∃z:Int,z=w:=⟨_,rfl⟩;have e1:ofNat w=W:=by rw[eW];exact aL hA w
 (refine zq ?_;repeat ((first|rw[e1]);refine zq ?_))
 refine br (C=W) (by rw[dn hA]) (fun q=>om) (fun _=>?_)<;>refine zc ?_;refine zq ?_;refine KN hA (sb:=sb) (r:=k) fF om om hw m1 eC qU (fun kn T a I eI ak lo hi=>?_) k 0 0 om om rfl (fun y hy=>om);obtain⟨K,eK⟩:∃z:Int,z=k:=⟨_,rfl⟩;have e2:ofNat k=K:=by rw[eK];exact aL hA k
 have r1:rd h1 sb (bT 0 0) 1 [.slice ra k rc]:=by rw[cZ hA];exact jj hA (m1.own.aM (o:=0) (n:=1) (Nat.le_refl _))
 (refine zq ?_;repeat ((first|rw[e2]);refine zq ?_))
 apply zjp (∀z,a<=z->z<k->Ext.aj w (A k)<Ext.aj w (A z))
 ·intro bx
  refine br (I=K) (by rw[dn hA]) (fun ca=>?_) (fun ca=>?_)<;>refine zc ?_
  ·refine zq ?_
   exact bx.o (fun z h1 h2=>om)
  have ha:a<k:=om
  obtain⟨b,rfl,hb,q1⟩:=m1.head ha;rw[<-qU]at q1;have r2:rd h1 b (place 0 I 1) 1 [.slice (some ⟨bs a,0,none⟩) w cw]:=aC hA (by rw[eI];exact q1);refine zq ?_;refine rI hA Jc hw (fun x hx=>m1.rows.el (show a<k+1 by omega) hx) (fun L eL=>⟨L,rfl,?_⟩);rw[UD a ha]at eL;refine zq ?_;refine br (C<L) (by rw[dP hA]) (fun cl=>?_) (fun cl=>?_)<;>refine zc ?_
  ·refine zq ?_
   exact bx.o (fun z h1 h2=>by
    by_cases e:z=a
    ·rw[e];omega
    ·have:=r.base.gJ.inc a z om h2;omega)
  ·have he:Ext.aj w (A a)=Ext.aj w (A k):=by have:=hi ha;rw[UD a ha]at this;omega
   obtain⟨q,eq⟩:∃z,z=u (Ext.aj w (A k)) / A a (Ext.aj w (A k)):=⟨_,rfl⟩;obtain⟨u2,XW⟩:∃z,z=fun j=>u j-q*A a j:=⟨_,rfl⟩
   obtain⟨sr,sn⟩:=r.step ha he eu eq XW;obtain⟨x,ex⟩:∃z,z=u (Ext.aj w (A k)):=⟨_,rfl⟩;obtain⟨y,ey⟩:∃z,z=A a (Ext.aj w (A k)):=⟨_,rfl⟩;have hy:0<y:=by rw[ey,<-he];exact r.base.gJ.pos a ha
   have x9:Ext h1 (aG h1 24):=au hA _ _;have m9:=m1.more x9;have s1:rd (aG h1 24) sb (bT 0 0) 1 [.slice (some ⟨b,0,none⟩) k rc]:=by rw[cZ hA];exact jj hA (m9.own.aM (o:=0) (n:=1) (Nat.le_refl _))
   have s2:rd (aG h1 24) b (place 0 I 1) 1 [.slice (some ⟨bs a,0,none⟩) w cw]:=aC hA (by
    rw[eI];obtain⟨b',e',_,q2⟩:=m9.head ha;cases e';rw[<-qU]at q2;exact q2)
   have s3:rd (aG h1 24) (bs k) (place 0 C 1) 1 [.int .i64 x]:=aC hA (by
    rw[eC,ex,<-SA];exact m9.rows.el (show k<k+1 by omega) Lf)
   have s4:rd (aG h1 24) (bs a) (place 0 C 1) 1 [.int .i64 y]:=aC hA (by
    rw[eC,ey,<-UD a ha];exact m9.rows.el (show a<k+1 by omega) Lf)
   refine zq ?_;have hx:=(sr (Ext.aj w (A k))).1;rw[<-ex]at hx;refine rJ hA hy om om (aB hA _) (fun q' XS=>⟨q',rfl,?_⟩);obtain rfl:q'=q:=by rw[XS,eq,ex,ey]
   refine zq ?_;obtain⟨X,hX⟩:∃z,z=aw (aG h1 24) (fresh (aG h1 24)):=⟨_,rfl⟩;have xX:Ext h1 X:=by rw[hX];exact cG hA Jc x9 (.refl _)
   rw[<-hX];refine Cz hA (aB hA X) (show k<k+1 by omega) (show a<k+1 by omega) hw (fun j hj=>by rw[SA,UD a ha];exact sr j) (m1.rows.more (xX.trans (iu hA X))) (fun h' m' ZB=>?_);rw[SA,UD a ha,<-XW,eA,Ext.jx]at m';obtain⟨h2,I7⟩:∃z,z=aw X h':=⟨_,rfl⟩;have m2:dW h0 h2 (k+1) w bs (Ext.put A k u2):=by
    rw[I7,dH hA];exact⟨Ext.vk m'.ext (m1.rows.ext.trans xX) fF,m'.row,m'.cE,m'.lt,m'.inj⟩
   have VC:ku h1 h2 (bs k):=by
    have:=((ku.refl h1 (bs k)).ext (xX.trans (iu hA X))).trans ZB;rw[I7,dH hA];exact⟨this.next,this.get⟩
   have M2:=m1.put (show k<k+1 by omega) m2 VC;have abm:h2.low<=h2.next:=M2.rows.ext.aD fF;obtain⟨x2,Ps⟩:∃z,z=u2 (Ext.aj w (A k)):=⟨_,rfl⟩;have t1:rd h2 (bs k) (place 0 C 1) 1 [.int .i64 x2]:=aC hA (by
    have:=m2.el (show k<k+1 by omega) Lf;rw[Ext.gE]at this;rw[eC,Ps];exact this)
   have fp:∀b0,b0<h1.next->ph false (wrote (aG h1 24) (fresh (aG h1 24))) false b0 (bT (next h1) 24):=fun b0 mw=>Uf hA (by rw[iq hA,kI hA]) (by rw[cZ hA,cQ hA];omega)
   refine zq ?_;refine⟨fp sb m1.s1,fp b hb,?_⟩;refine zc ?_;rw[<-I7];refine zq ?_;refine br (x2≠0) (by rw[cB hA]) (fun c0=>?_) (fun c0=>?_)<;>refine zc ?_
   rotate_left
   ·rcases sn with ⟨_,D',M',Wz,rn⟩|⟨n1,_⟩
    ·exact ihD D' Wz M' h2 _ rc bs _ M2 rn
    ·exfalso;rw[he,<-Ps]at n1;exact c0 n1
   rcases sn with ⟨n1,_⟩|⟨n1,n2,n3,n4,M',Ab,rn⟩
   ·exfalso;rw[he,<-Ps]at n1;exact c0 n1
   have p2k:Ext.put A k u2 k=u2:=Ext.gE u2;have p2n:∀z,z<k->Ext.put A k u2 z=A z:=fun z hz=>Ext.gf u2 om
   refine uD hA (sb:=sb) (r:=k) fF om om hw (fun z hz _=>by rw[p2n z hz];exact⟨r.base.gJ.lt z hz,r.base.gJ.pos z hz⟩) (by rw[p2k,n2];exact n3.congr p2n) M2 qU (fun h3 m3 _=>?_);rw[p2k,n2,Ext.mg p2n k (Nat.le_refl _),Ext.jx]at m3;obtain⟨u3,ZC⟩:∃z,z=Ext.bJ w A (Ext.aj w (A a)) k u2:=⟨_,rfl⟩;rw[<-ZC]at m3 rn;have abn:h3.low<=h3.next:=m3.rows.ext.aD fF;have x16:Ext h3 (aG h3 16):=au hA _ _;have m16:=m3.more x16;have y1:rd (aG h3 16) sb (bT 0 0) 1 [.slice (some ⟨b,0,none⟩) k rc]:=by rw[cZ hA];exact jj hA (m16.own.aM (o:=0) (n:=1) (Nat.le_refl _))
   have y2:rd (aG h3 16) b (place 0 I 1) 1 [.slice (some ⟨bs a,0,none⟩) w cw]:=aC hA (by
    rw[eI];obtain⟨b',e',_,q2⟩:=m16.head ha;cases e';rw[<-qU]at q2;exact q2)
   obtain⟨b4,h4,e4,w4,m4⟩:=m16.swap ha;cases e4;have y3:wr (aG h3 16) b (place 0 I 1) [.slice (some ⟨bs k,0,none⟩) w cw] h4:=uc hA (by rw[eI,qU];exact w4);refine zq ?_;have fin:=ihM M' Ab h4 _ rc (fun y=>bs (Jb a k y)) (Ext.put (Ext.put A a u3) k (A a)) (m4.congr (fun y x hy hx=>?_)) rn
   ·rw[show Jb a k k=a by unfold Jb;rw[if_neg om,if_pos rfl]]at fin
    exact fin
   ·unfold Jb
    by_cases c1:y=a
    ·rw[if_pos c1,c1,Ext.gE,Ext.gf _ om,Ext.gE]
    ·rw[if_neg c1]
     by_cases c2:y=k
     ·rw[if_pos c2,c2,Ext.gE,Ext.gf _ om]
     ·rw[if_neg c2,Ext.gf _ c2,Ext.gf _ c2,Ext.gf _ c1]
 ·intro FM
  have Zf:∀y,y<a->Ext.aj w (A y)<Ext.aj w (A k):=fun y hy=>by have:=lo y hy;rw[UD y om]at this;exact this
  obtain⟨o1,o2,o3,o4⟩:=r.own hM ak Zf FM eu;obtain⟨x,ex⟩:∃z,z=u (Ext.aj w (A k)):=⟨_,rfl⟩;have r3:rd h1 (bs k) (place 0 C 1) 1 [.int .i64 x]:=aC hA (by
   rw[eC,ex,<-SA];exact m1.rows.el (show k<k+1 by omega) Lf)
  have hu0:u (Ext.aj w (A k))≠0:=by
   have:=Ext.lU (w:=w) (v:=u) (by rw[Xg];exact Lf);rw[Xg]at this;exact this
  refine zq ?_;apply zjh (fun hh=>∃A',oW h0 hh sb k (k+1) w ra rc bs A'/\(∀z,z<k->A' z=A z)/\Ext.sR w (k+1) (k+1) (Ext.jY A a (A' k)) F0)
  ·intro bx
   refine br (x<0) (by rw[aA hA]) (fun c0=>?_) (fun c0=>?_)<;>refine zc ?_
   rotate_left
   ·refine zq ?_
    obtain⟨g,eg⟩:∃g,g=h1:=⟨_,rfl⟩;rw[<-eg];exact bx.o g ⟨A1,by rw[eg];exact m1,UD,by rw[SA];exact o3 om⟩
   obtain⟨v,ev⟩:∃z,z=fun j=>u j-2*u j:=⟨_,rfl⟩
   obtain⟨v1,v2,v3⟩:=o4 om v ev;refine zq ?_;refine Cz hA Jc (show k<k+1 by omega) (show k<k+1 by omega) hw (fun j hj=>by rw[SA];have:=o2 j;omega) m1.rows (fun h2 m2 VC=>?_);rw[SA,<-ev,eA,Ext.jx]at m2;have M2:=m1.put (show k<k+1 by omega) m2 VC;have pk:Ext.put A k v k=v:=Ext.gE v;have pn:∀z,z<k->Ext.put A k v z=A z:=fun z hz=>Ext.gf v om
   refine zq ?_;refine uD hA (sb:=sb) (r:=k) fF om om hw (fun z hz _=>by rw[pn z hz];exact⟨r.base.gJ.lt z hz,r.base.gJ.pos z hz⟩) (by rw[pk,v1];exact v2.congr pn) M2 qU (fun h3 m3 _=>?_);rw[pk,v1,Ext.mg pn k (Nat.le_refl _),Ext.jx]at m3;have r5:rd h3 sb (bT 0 0) 1 [.slice ra k rc]:=by rw[cZ hA];exact jj hA (m3.own.aM (o:=0) (n:=1) (Nat.le_refl _))
   refine zq ?_;exact bx.o h3 ⟨_,m3,fun z hz=>Ext.gf _ om,by rw[Ext.gE];exact v3⟩
  rintro hh ⟨A',m2,a2n,sk⟩;have abo:hh.low<=hh.next:=m2.rows.ext.aD fF;have xp:Ext hh (push hh 1 [.slice (some ⟨bs k,0,none⟩) w cw]):=by rw[dB hA];exact .push _ _ _
  have mp:=m2.more xp;have ov:bW (push hh 1 [.slice (some ⟨bs k,0,none⟩) w cw]) (next hh) 1 [.slice (some ⟨bs k,0,none⟩) w cw]:=by rw[dB hA,cQ hA];exact bW.push _ _ _
  have np:(push hh 1 [.slice (some ⟨bs k,0,none⟩) w cw]).next=hh.next+1:=by rw[dB hA];rfl
  have nv:next hh=hh.next:=cQ hA hh;have fg:=m2.kA.lt;generalize push hh 1 [.slice (some ⟨bs k,0,none⟩) w cw]=hp at *;rw[nv]at ov ⊢;generalize hh.next=vb at *;refine Ot hA hI fF mp.rows.ext om mp.kA mp.fr ak eI (by rw[qU]at ov;exact ov) om (fun ad bQ=>by have:=fg ad bQ;omega) (fun b h2 x2 n2 g2 b1 b2 o2=>?_);obtain⟨h3,w3,m3⟩:=mp.ins ak x2 n2 g2 b1 b2 o2;have m4:oW h0 h3 sb (k+1) (k+1) w (some ⟨b,0,none⟩) (az 1 (k+1)) (fun y=>bs (rX a k y)) (Ext.jY A a (A' k)):=m3.congr (fun y x hy hx=>by
   show A' (rX a k y) x=Ext.jY A a (A' k) y x;rw[KK (F:=A') (k:=k) ak y hy];unfold Ext.jY;by_cases c1:y<a
   ·rw[if_pos c1,if_pos c1,a2n y om]
   ·rw[if_neg c1,if_neg c1]
    by_cases c2:y=a
    ·rw[if_pos c2,if_pos c2]
    ·rw[if_neg c2,if_neg c2,a2n _ om])
  have hq:=fun kn T=>hQ h3 kn T _ _ _ _ m4 sk
  generalize az 1 (k+1)=cc at *;generalize k+1=k1 at *;have w3:wr h2 sb (bT 0 0) [.slice (some ⟨b,0,none⟩) k1 cc] h3:=by rw[cZ hA];exact kQ hA w3
  refine⟨_,_,_,rfl,?_⟩;refine zq ?_;exact hq _ _
theorem KO{h0:af}(fF:h0.low<=h0.next){sb K w:Nat}{ra:Option Addr}{rc kn:Nat}{T:List (Nat×List Value)}{bs:Nat->Nat}{F0:Nat->Ext.aS}(hw:w<=1000){Q:Exit->SS->Prop}
  (hQ:∀(h':af) A,oW h0 h' sb K K w ra rc bs A->Ext.sR w K 0 A F0->Q (.exit 4) ⟨[],kn,T,h'⟩) :
  ∀(i:Nat) (I:Int) (h:af) (A:Nat->Ext.aS),i<=K->I=(i:Int)-1->oW h0 h sb K K w ra rc bs A->Ext.sR w K i A F0->
   head 85 17 kn ⟨[(0,.pointer (some ⟨sb,0,none⟩)),(4,.func (.func 98) #[.pointer (some ⟨sb,0,none⟩)] #[]),(7,.int .i64 I)],kn,T,h⟩ Q:=by
 intro i
 induction i with
 |zero=>
  intro I h A hi eI m sk;refine hA.ar Try.func85 vi (zc ?_);refine br (0<=I) (by rw[bR hA]) (fun q=>om) (fun _=>?_)<;>refine zc ?_;exact hQ h A m sk
 |succ i ih=>
 intro I h A hi eI m sk;have k4:=sk.k4;have aq:h.low<=h.next:=m.rows.ext.aD fF;obtain⟨lo,sk2⟩:=sk.step om;obtain⟨b,rfl,hb,q1⟩:=m.head (y:=i) om;obtain⟨cw,qU⟩:∃z,z=az 1 w:=⟨_,rfl⟩;rw[<-qU]at q1;have r1:rd h sb (bT 0 0) 1 [.slice (some ⟨b,0,none⟩) K rc]:=by rw[cZ hA];exact jj hA (m.own.aM (o:=0) (n:=1) (Nat.le_refl _))
 have r2:rd h b (place 0 I 1) 1 [.slice (some ⟨bs i,0,none⟩) w cw]:=aC hA (by rw[show I.toNat=i by omega];exact q1);refine hA.ar Try.func85 vi (zc ?_);refine br (0<=I) (by rw[bR hA]) (fun _=>?_) (fun q=>om)<;>refine zc ?_;refine zq ?_;refine uD hA (sb:=sb) (r:=i) fF om om hw (fun y hy _=>⟨sk.gJ.lt y hy,sk.gJ.pos y hy⟩) lo m qU (fun h1 m1 _=>?_);refine zq ?_;rw[bO hA om om];exact ih (I-1) h1 _ om om m1 sk2
theorem Ui(hI:sT F){h0 h:af}(fF:h0.low<=h0.next){sb k w cw rc D M:Nat}{ra:Option Addr}{bs:Nat->Nat}{A F0:Nat->Ext.aS}(hw:w<=1000)(qU:cw=az 1 w)(hM:∀i,i<k+1->∀j,(F0 i j).natAbs<=9)(m:oW h0 h sb k (k+1) w ra rc bs A)(r:Ext.FQ w k A F0 D M){Q:Value->af->Prop}
  (hQ:∀h' Vw Vx XG A',oW h0 h' sb (k+1) (k+1) w Vw Vx XG A'->Ext.sR w (k+1) 0 A' F0->Q (.tuple #[]) h') :
  call 85 [.pointer (some ⟨sb,0,none⟩),.slice (some ⟨bs k,0,none⟩) w cw] h Q:=by
 have aq:h.low<=h.next:=m.rows.ext.aD fF;refine hA.aU Try.func85 vi (hA.alike _ _ _ rfl) aq (zc ?_);refine zq ?_;refine Ou hA hI (sb:=sb) fF hw qU hM (fun h1 kn T Vw Vx XG A1 m1 sk=>?_) D M h ra rc bs A m r;obtain⟨K,eK⟩:∃z:Int,z=((k+1:Nat):Int):=⟨_,rfl⟩;have e1:ofNat (k+1)=K:=by rw[eK];exact aL hA _
 have r1:rd h1 sb (bT 0 0) 1 [.slice Vw (k+1) Vx]:=by rw[cZ hA];exact jj hA (m1.own.aM (o:=0) (n:=1) (Nat.le_refl _))
 have k3:=sk.k4;generalize FJ:k+1=k1 at *
 (refine zq ?_;repeat ((first|rw[e1]);refine zq ?_))
 rw[bO hA om om];refine KO hA (sb:=sb) fF hw (fun h2 A2 m2 sk2=>?_) k1 (K-1) h1 A1 (Nat.le_refl _) om m1 sk;refine zc ?_;exact hQ h2 Vw Vx XG A2 m2 sk2
theorem KP{h0:af}(aq:h0.low<=h0.next){b n c:Nat}{L0:List LE}{A B i:Int}(a0:0<=A)(ab:B<=n)(ai:A<i)(ib:i<B){Q:Exit->SS->Prop}
  (hQ:∀h' L kn,bB h0 h' b n L->aJ A B L0 L->aI gN L A (i+1)->Q (.exit 2) ⟨[(0,.slice (some ⟨b,0,none⟩) n c),(1,.int .i64 A),(2,.int .i64 B),(3,.func (.func 70) #[] #[]),(8,.int .i64 i)],kn,[],h'⟩) :
  ∀(m:Nat) (j:Int) (h:af) (L:List LE),(j-A).toNat<=m->A<=j->j<=i->bB h0 h b n L->aJ A B L0 L->pA gN L A i j->
   head 101 4 0 ⟨[(0,.slice (some ⟨b,0,none⟩) n c),(1,.int .i64 A),(2,.int .i64 B),(3,.func (.func 70) #[] #[]),(8,.int .i64 i),(9,.int .i64 j)],0,[],h⟩ Q:=by
 intro m
 induction m with
 |zero=>
  intro j h L hm j0 j1 t hp hI;obtain rfl:j=A:=om
  refine hA.ar Try.func101 x101.2 (zc ?_);refine br (j<j) (by rw[dP hA]) (fun q=>om) (fun _=>?_)<;>refine zc ?_;exact hQ _ _ _ (t.more (au hA _ _)) hp hI.first
 |succ m ih=>
  intro j h L hm j0 j1 t hp hI;by_cases cj:A<j
  rotate_left
  ·obtain rfl:j=A:=om
   refine hA.ar Try.func101 x101.2 (zc ?_);refine br (j<j) (by rw[dP hA]) (fun q=>om) (fun _=>?_)<;>refine zc ?_;exact hQ _ _ _ (t.more (au hA _ _)) hp hI.first
  have gi:=t.gi;have e1:arith .sub .i64 j 1=j-1:=bO hA om om;obtain⟨j',ZD⟩:∃z,z=j-1:=⟨_,rfl⟩;rw[<-ZD]at e1;obtain⟨h9,iF⟩:∃z,z=aG h 17:=⟨_,rfl⟩;have x9:Ext h h9:=by rw[iF];exact au hA _ _
  have t9:=t.more x9;have l9:=t9.ext.aD aq;obtain⟨x1x,x1y,x1z,y1,g1,f1,r1⟩:=t9.read (i:=j) om om;obtain⟨x2x,x2y,x2z,y2,g2,f2,r2⟩:=t9.read (i:=j') om om;have q1:=aC hA r1;have q2:=aC hA r2;refine hA.ar Try.func101 x101.2 (zc ?_);refine br (A<j) (by rw[dP hA]) (fun _=>?_) (fun q=>absurd cj q)<;>refine zc ?_;rw[<-iF]
  (refine zq ?_;repeat ((first|rw[e1]);refine zq ?_))
  refine fN hA (aB hA h9) (dL hA f1) (dL hA f2) (fun u Bn hu x10=>⟨_,rfl,?_⟩);refine zc ?_;obtain⟨Nu,NB⟩:∃z,z=aw h9 Bn:=⟨_,rfl⟩;have T4:Ext h9 Nu:=by rw[NB];exact cG hA l9 (.refl h9) x10
  have t11:=t9.more T4;rw[<-NB];refine br (u<0) (by rw[aA hA]) (fun c1=>?_) (fun c1=>?_)<;>refine zc ?_
  rotate_left
  ·refine hQ _ _ _ t11 hp (hI.stop eE cj ?_)
   rw[<-ZD];rw[hu]at c1;exact LL.not_lt.1 (fun w=>c1 (cU.2 w))
  have w:¬gN (gt L (j-1)) (gt L j):=by
   rw[<-ZD];rw[hu]at c1;exact LL.not_le.2 (cU.1 c1)
  obtain⟨Pn,EV⟩:∃z,z=aG Nu 18:=⟨_,rfl⟩;have x12:Ext Nu Pn:=by rw[EV];exact au hA _ _
  have t12:=t11.more x12;obtain⟨x1'x,x1'y,x1'z,y1',g1',_,r1'⟩:=t12.read (i:=j) om om;obtain⟨x2'x,x2'y,x2'z,y2',AM,_,rY⟩:=t12.read (i:=j') om om;rw[g1]at g1';rw[g2]at AM;cases g1';cases AM;have q1':=aC hA r1';have FZ:=aC hA rY;obtain⟨Zg,Xp,p1,p2,t14⟩:=df hA t12 (i:=j) (j:=j') om om om om g1 g2;rw[<-EV]
  (refine zq ?_;repeat ((first|rw[e1]);refine zq ?_))
  refine ih j' Xp _ om om om t14 (hp.trans (aJ.swap L om (by rw[t.len];exact ab) om om om om)) ?_;have:=hI.step eE om (by rw[t.len];omega) cj j1 w;rw[<-ZD]at this;exact this
theorem KQ{h0:af}(aq:h0.low<=h0.next){b n c:Nat}{L0:List LE}{A B:Int}(a0:0<=A)(ab:B<=n){Q:Exit->SS->Prop}
  (hQ:∀h' L e kn,bB h0 h' b n L->aJ A B L0 L->aI gN L A B->Q (.exit 0) ⟨e,kn,[],h'⟩) :
  ∀(m:Nat) (i:Int) (h:af) (L:List LE),(B-i).toNat<=m->A<i->bB h0 h b n L->aJ A B L0 L->aI gN L A i->
   head 101 1 0 ⟨[(0,.slice (some ⟨b,0,none⟩) n c),(1,.int .i64 A),(2,.int .i64 B),(3,.func (.func 70) #[] #[]),(8,.int .i64 i)],0,[],h⟩ Q:=by
 intro m
 induction m with
 |zero=>
  intro i h L hm i0 t hp hs;refine hA.ar Try.func101 x101.2 (zc ?_);refine br (i<B) (by rw[aA hA]) (fun q=>om) (fun _=>?_)<;>refine zc ?_;exact hQ _ _ _ _ t hp (fun p q p0 pq q1=>hs p q p0 pq om)
 |succ m ih=>
  intro i h L hm i0 t hp hs;have gi:=t.gi;refine hA.ar Try.func101 x101.2 (zc ?_);refine br (i<B) (by rw[aA hA]) (fun ci=>?_) (fun _=>?_)<;>refine zc ?_
  rotate_left
  ·exact hQ _ _ _ _ t hp (fun p q p0 pq q1=>hs p q p0 pq om)
  refine KP hA aq (L0:=L0) a0 ab i0 ci (fun h' L' kn t' sZ pZ=>?_) (i-A).toNat i h L (Nat.le_refl _) om om t hp (.start hs);refine zc ?_;rw[aH hA om om];exact ih (i+1) h' L' om om t' sZ pZ
theorem zB{h0 h:af}(aq:h0.low<=h0.next){b n c:Nat}{L:List LE}{A B:Int}(a0:0<=A)(an:A<=n)(ab:B<=n)(t:bB h0 h b n L){Q:Value->af->Prop}
  (hQ:∀h' L',bB h0 h' b n L'->aJ A B L L'->aI gN L' A B->Q (.tuple #[]) h'):call 101 [.slice (some ⟨b,0,none⟩) n c,.int .i64 A,.int .i64 B,.func (.func 70) #[] #[]] h Q:=by
 have dg:=aq
 replace aq:=t.ext.aD aq
 have gi:=t.gi;refine hA.aU Try.func101 x101.2 (hA.alike _ _ _ rfl) aq (zc ?_);rw[aH hA om om];refine KQ hA dg (L0:=L) a0 ab (fun h' L' e kn t' hp hs=>?_) (B-(A+1)).toNat (A+1) h L (Nat.le_refl _) om t (.refl _ _ _) (.one om);refine zc ?_;exact hQ h' L' t' hp hs
set_option maxHeartbeats 4000000 in
theorem KR{h0:af}(aq:h0.low<=h0.next){b n c':Nat}{L0:List LE}{f lo hi:Int}(f0:0<=f)(l0:0<=lo)(hn:f+hi<=n){Q:Exit->SS->Prop}
  (hQ:∀h' L x e kn,(x=.exit 0\/x=.ret)->bB h0 h' b n L->aJ f (f+hi) L0 L->ng gN L f lo hi->Q x ⟨e,kn,[],h'⟩) :
  ∀(m:Nat) (r:Int) (h:af) (L:List LE),(hi-r).toNat<=m->lo<=r->r<=100000->bB h0 h b n L->aJ f (f+hi) L0 L->pB gN L f lo hi r->
   head 120 1 0 ⟨[(0,.slice (some ⟨b,0,none⟩) n c'),(2,.int .i64 hi),(3,.int .i64 f),(4,.func (.func 70) #[] #[]),(10,.int .i64 r)],0,[],h⟩ Q:=by
 intro m
 induction m with
 |zero=>
  intro r h L hm r0 r1 t hp hX;have gi:=t.gi;have e1:arith .mul .i64 2 r=2*r:=jG hA om om;obtain⟨c,hc⟩:∃z,z=2*r+1:=⟨_,rfl⟩;have e2:arith .add .i64 (2*r) 1=c:=by rw[hc];exact aH hA om om
  refine hA.ar Try.func120 Cp (zc ?_);rw[e1,e2];refine br (hi<=c) (by rw[bR hA]) (fun _=>?_) (fun q=>om)<;>refine zc ?_;exact hQ _ L _ _ _ (.inl rfl) t hp (hX.leaf om)
 |succ m ih=>
  intro r h L hm r0 r1 t hp hX;have gi:=t.gi;have e1:arith .mul .i64 2 r=2*r:=jG hA om om;obtain⟨k,hk⟩:∃z,z=2*r+1:=⟨_,rfl⟩;have e2:arith .add .i64 (2*r) 1=k:=by rw[hk];exact aH hA om om
  refine hA.ar Try.func120 Cp (zc ?_);rw[e1,e2];refine br (hi<=k) (by rw[bR hA]) (fun _=>?_) (fun ck=>?_)<;>refine zc ?_
  ·exact hQ _ L _ _ _ (.inl rfl) t hp (hX.leaf om)
  obtain⟨k1,FJ⟩:∃z,z=k+1:=⟨_,rfl⟩;have e3:arith .add .i64 k 1=k1:=by rw[FJ];exact aH hA om om
  rw[e3];refine br (k1<hi) (by rw[aA hA]) (fun ck1=>?_) (fun ck1=>?_)<;>refine zc ?_
  rotate_left
  ·obtain⟨hT,XD⟩:∃z,z=aG h 22:=⟨_,rfl⟩
   have tT:=t.more (show Ext h hT by rw[XD];exact au hA _ _);rw[<-XD];obtain⟨c,XX⟩:∃z,z=k:=⟨_,rfl⟩;rw[<-XX];have Pb:c=2*r+1\/c=2*r+2:=om
   have XY:c<hi:=om
   have hc:∀k:Int,0<k->k<hi->par k=r->gN (gt L (f+k)) (gt L (f+c)):=fun k' k0 Zx k2=>by
    have:=Cr k2 k0;rw[show k'=c by omega];exact eE.refl _
   have Ov:arith .add .i64 f r=f+r:=aH hA om om;have Ow:arith .add .i64 f c=f+c:=aH hA om om;obtain⟨fr,vD⟩:∃z,z=f+r:=⟨_,rfl⟩;obtain⟨fc,Jd⟩:∃z,z=f+c:=⟨_,rfl⟩;rw[<-vD]at Ov;rw[<-Jd]at Ow;obtain⟨h3,SB⟩:∃z,z=aG hT 16:=⟨_,rfl⟩;have x3:Ext hT h3:=by rw[SB];exact au hA _ _
   have t3:=tT.more x3;obtain⟨a3x,a3y,a3z,b3,g3,f3,r3⟩:=t3.read (i:=fr) om om;obtain⟨XZ,X3,X4,b3',g3',X5,X6⟩:=t3.read (i:=fc) om om;have q3:=aC hA r3;have X7:=aC hA X6;rw[<-SB]
   (refine zq ?_;repeat ((first|rw[Ov]|rw[Ow]);refine zq ?_))
   refine fN hA (aB hA h3) (dL hA f3) (dL hA X5) (fun v X8 hv x3a=>⟨_,rfl,?_⟩);have SC:=dR hA aq t3 x3a;refine zc ?_;generalize aw h3 X8=SD at *;refine br (0<=v) (by rw[dk hA,aA hA];by_cases z:v<0<;>simp[z]<;>omega) (fun cv=>?_) (fun cv=>?_)<;>refine zc ?_
   ·refine hQ _ L _ _ _ (.inr rfl) SC hp (hX.stop eE hc ?_)
    rw[hv]at cv;rw[<-vD,<-Jd];exact LL.not_lt.1 (fun w=>by have:=cU.2 w;omega)
   have w:gN (gt L (f+r)) (gt L (f+c)):=by
    rw[hv]at cv;rw[<-vD,<-Jd];exact LL.le_of_lt (cU.1 om)
   obtain⟨h4,SE⟩:∃z,z=aG SD 24:=⟨_,rfl⟩;have x4:Ext SD h4:=by rw[SE];exact au hA _ _
   have t4:=SC.more x4;obtain⟨a4x,a4y,a4z,b4,g4,f4,r4⟩:=t4.read (i:=fr) om om;obtain⟨X9,Ya,Yb,b4',Yc,f4',Yd⟩:=t4.read (i:=fc) om om;have q4:=aC hA r4;have q4':=aC hA Yd;rw[<-SE];obtain⟨h4c,Ye,p4,p4',Yf⟩:=df hA t4 (i:=fr) (j:=fc) om om om om g4 Yc
   (refine zq ?_;repeat ((first|rw[Ov]|rw[Ow]);refine zq ?_))
   refine ih c Ye _ om om om Yf (hp.trans (aJ.swap L om (by have:=t.len;omega) om om om om)) ?_;rw[vD,Jd];exact hX.step eE om l0 (by have:=t.len;omega) r0 Pb XY hc w
  have efk:arith .add .i64 f k=f+k:=aH hA om om;obtain⟨fk,hfk⟩:∃z,z=f+k:=⟨_,rfl⟩;rw[<-hfk]at efk;obtain⟨ZE,aaZ⟩:∃z,z=fk+1:=⟨_,rfl⟩;have aa0:arith .add .i64 fk 1=ZE:=by rw[aaZ];exact aH hA om om
  obtain⟨h2,mm⟩:∃z,z=aG h 22:=⟨_,rfl⟩;have x2:Ext h h2:=by rw[mm];exact au hA _ _
  have t2:=t.more x2;obtain⟨HA,HB,HC,b2,g2,f2,r2⟩:=t2.read (i:=fk) om om;obtain⟨sU,sV,sW,Bg,AM,uO,rY⟩:=t2.read (i:=ZE) om om;have q2:=aC hA r2;have FZ:=aC hA rY;rw[<-mm]
  (refine zq ?_;repeat ((first|rw[efk]|rw[aa0]);refine zq ?_))
  refine fN hA (aB hA h2) (dL hA f2) (dL hA uO) (fun u wG hu x2a=>⟨_,rfl,?_⟩);have pK:=dR hA aq t2 x2a;refine zc ?_;generalize aw h2 wG=pL at *;have tT:=pK;generalize pL=hT at *;refine br (u<0) (by rw[aA hA]) (fun cu=>?_) (fun cu=>?_)<;>refine zc ?_
  ·rw[hu]at cu
   rw[e3];obtain⟨c,XX⟩:∃z,z=k1:=⟨_,rfl⟩;rw[<-XX];have Pb:c=2*r+1\/c=2*r+2:=om
   have XY:c<hi:=om
   have hc:∀k:Int,0<k->k<hi->par k=r->gN (gt L (f+k)) (gt L (f+c)):=fun k' k0 Zx k2=>by
    rcases Cr k2 k0 with e|e
    ·rw[show f+k'=fk by omega,show f+c=ZE by omega]
     exact LL.le_of_lt (cU.1 cu)
    ·rw[show k'=c by omega]
     exact eE.refl _
   have Ov:arith .add .i64 f r=f+r:=aH hA om om;have Ow:arith .add .i64 f c=f+c:=aH hA om om;obtain⟨fr,vD⟩:∃z,z=f+r:=⟨_,rfl⟩;obtain⟨fc,Jd⟩:∃z,z=f+c:=⟨_,rfl⟩;rw[<-vD]at Ov;rw[<-Jd]at Ow;obtain⟨h3,SB⟩:∃z,z=aG hT 16:=⟨_,rfl⟩;have x3:Ext hT h3:=by rw[SB];exact au hA _ _
   have t3:=tT.more x3;obtain⟨a3x,a3y,a3z,b3,g3,f3,r3⟩:=t3.read (i:=fr) om om;obtain⟨XZ,X3,X4,b3',g3',X5,X6⟩:=t3.read (i:=fc) om om;have q3:=aC hA r3;have X7:=aC hA X6;rw[<-SB]
   (refine zq ?_;repeat ((first|rw[Ov]|rw[Ow]);refine zq ?_))
   refine fN hA (aB hA h3) (dL hA f3) (dL hA X5) (fun v X8 hv x3a=>⟨_,rfl,?_⟩);have SC:=dR hA aq t3 x3a;refine zc ?_;generalize aw h3 X8=SD at *;refine br (0<=v) (by rw[dk hA,aA hA];by_cases z:v<0<;>simp[z]<;>omega) (fun cv=>?_) (fun cv=>?_)<;>refine zc ?_
   ·refine hQ _ L _ _ _ (.inr rfl) SC hp (hX.stop eE hc ?_)
    rw[hv]at cv;rw[<-vD,<-Jd];exact LL.not_lt.1 (fun w=>by have:=cU.2 w;omega)
   have w:gN (gt L (f+r)) (gt L (f+c)):=by
    rw[hv]at cv;rw[<-vD,<-Jd];exact LL.le_of_lt (cU.1 om)
   obtain⟨h4,SE⟩:∃z,z=aG SD 24:=⟨_,rfl⟩;have x4:Ext SD h4:=by rw[SE];exact au hA _ _
   have t4:=SC.more x4;obtain⟨a4x,a4y,a4z,b4,g4,f4,r4⟩:=t4.read (i:=fr) om om;obtain⟨X9,Ya,Yb,b4',Yc,f4',Yd⟩:=t4.read (i:=fc) om om;have q4:=aC hA r4;have q4':=aC hA Yd;rw[<-SE];obtain⟨h4c,Ye,p4,p4',Yf⟩:=df hA t4 (i:=fr) (j:=fc) om om om om g4 Yc
   (refine zq ?_;repeat ((first|rw[Ov]|rw[Ow]);refine zq ?_))
   refine ih c Ye _ om om om Yf (hp.trans (aJ.swap L om (by have:=t.len;omega) om om om om)) ?_;rw[vD,Jd];exact hX.step eE om l0 (by have:=t.len;omega) r0 Pb XY hc w
  ·rw[hu]at cu
   obtain⟨c,XX⟩:∃z,z=k:=⟨_,rfl⟩;rw[<-XX];have Pb:c=2*r+1\/c=2*r+2:=om
   have XY:c<hi:=om
   have hc:∀k:Int,0<k->k<hi->par k=r->gN (gt L (f+k)) (gt L (f+c)):=fun k' k0 Zx k2=>by
    rcases Cr k2 k0 with e|e
    ·rw[show k'=c by omega]
     exact eE.refl _
    ·rw[show f+k'=ZE by omega,show f+c=fk by omega]
     exact LL.not_lt.1 (fun w=>cu (cU.2 w))
   have Ov:arith .add .i64 f r=f+r:=aH hA om om;have Ow:arith .add .i64 f c=f+c:=aH hA om om;obtain⟨fr,vD⟩:∃z,z=f+r:=⟨_,rfl⟩;obtain⟨fc,Jd⟩:∃z,z=f+c:=⟨_,rfl⟩;rw[<-vD]at Ov;rw[<-Jd]at Ow;obtain⟨h3,SB⟩:∃z,z=aG hT 16:=⟨_,rfl⟩;have x3:Ext hT h3:=by rw[SB];exact au hA _ _
   have t3:=tT.more x3;obtain⟨a3x,a3y,a3z,b3,g3,f3,r3⟩:=t3.read (i:=fr) om om;obtain⟨XZ,X3,X4,b3',g3',X5,X6⟩:=t3.read (i:=fc) om om;have q3:=aC hA r3;have X7:=aC hA X6;rw[<-SB]
   (refine zq ?_;repeat ((first|rw[Ov]|rw[Ow]);refine zq ?_))
   refine fN hA (aB hA h3) (dL hA f3) (dL hA X5) (fun v X8 hv x3a=>⟨_,rfl,?_⟩);have SC:=dR hA aq t3 x3a;refine zc ?_;generalize aw h3 X8=SD at *;refine br (0<=v) (by rw[dk hA,aA hA];by_cases z:v<0<;>simp[z]<;>omega) (fun cv=>?_) (fun cv=>?_)<;>refine zc ?_
   ·refine hQ _ L _ _ _ (.inr rfl) SC hp (hX.stop eE hc ?_)
    rw[hv]at cv;rw[<-vD,<-Jd];exact LL.not_lt.1 (fun w=>by have:=cU.2 w;omega)
   have w:gN (gt L (f+r)) (gt L (f+c)):=by
    rw[hv]at cv;rw[<-vD,<-Jd];exact LL.le_of_lt (cU.1 om)
   obtain⟨h4,SE⟩:∃z,z=aG SD 24:=⟨_,rfl⟩;have x4:Ext SD h4:=by rw[SE];exact au hA _ _
   have t4:=SC.more x4;obtain⟨a4x,a4y,a4z,b4,g4,f4,r4⟩:=t4.read (i:=fr) om om;obtain⟨X9,Ya,Yb,b4',Yc,f4',Yd⟩:=t4.read (i:=fc) om om;have q4:=aC hA r4;have q4':=aC hA Yd;rw[<-SE];obtain⟨h4c,Ye,p4,p4',Yf⟩:=df hA t4 (i:=fr) (j:=fc) om om om om g4 Yc
   (refine zq ?_;repeat ((first|rw[Ov]|rw[Ow]);refine zq ?_))
   refine ih c Ye _ om om om Yf (hp.trans (aJ.swap L om (by have:=t.len;omega) om om om om)) ?_;rw[vD,Jd];exact hX.step eE om l0 (by have:=t.len;omega) r0 Pb XY hc w
