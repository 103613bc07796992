import Derived.Test.YtdpbiegfljmhmaaFracPure
import Derived.Test.YtdpbiegfljmhmaaLsP
import Derived.Test.YtdpbiegfljmhmaaDetF
import Derived.Test.YtdpbiegfljmhmaaSimD
import Derived.Test.YtdpbiegfljmhmaaInsP
set_option linter.unusedSimpArgs false
set_option linter.unusedVariables false
namespace Go.Proofs.Ytdpbiegfljmhmaa
open Go.cY
set_option maxRecDepth 100000
structure nR(g:List (List Int))(m n:Nat):Prop where
 m1:1<=m
 m4:m<=4
 n1:1<=n
 n4:n<=4
 len:g.length=m
 row:∀i:Int,0<=i->i<m->(gt g i).length=n
 nine:∀i j,(gt (gt g i) j).natAbs<=9
theorem CO{α:Type}[Inhabited α](l:List α){i:Int}(h:¬(0<=i/\i<l.length))(h0:0<=i):gt l i=default:=by
 unfold gt;rw[List.getD_eq_getElem?_getD,List.getElem?_eq_none om];rfl
theorem Good.Zs{g:List (List Int)}{B:List Fc}(h:Good g B)(hm:¬Hp g):∃m n,nR g m n:=by
 have m1:=h.m1;have n1:=h.n1;have m4:g.length<=4:=Nat.le_of_not_lt (fun q=>hm (.inl q));have n4:(gt g 0).length<=4:=Nat.le_of_not_lt (fun q=>hm (.inr ⟨0,om,om,q⟩));refine⟨g.length,(gt g 0).length,m1,m4,n1,n4,rfl,h.row,fun i j=>?_⟩;have neg:∀{α:Type} [Inhabited α] (l:List α) (i:Int),i<0->gt l i=gt l 0:=fun l i q=>by unfold gt;rw[show i.toNat=0 by omega];rfl
 have key:∀i j:Int,0<=i->0<=j->(gt (gt g i) j).natAbs<=9:=fun i j i0 j0=>by
  by_cases ci:i<g.length
  ·by_cases cj:j<(gt g i).length
   ·have:=h.Ul i i0 ci j j0 cj;omega
   ·rw[CO _ om j0];decide
  ·rw[CO g om i0]
   show(gt ([]:List Int) j).natAbs<=9;rw[CO ([]:List Int) (fun q=>by have:=q.2;simp at this;omega) j0];decide
 by_cases ci:0<=i
 ·by_cases cj:0<=j
  ·exact key i j ci cj
  ·rw[neg _ j om];exact key i 0 ci om
 ·rw[neg _ i om]
  by_cases cj:0<=j
  ·exact key 0 j om cj
  ·rw[neg _ j om];exact key 0 0 om om
structure bM(g:List (List Int))(m n r s:Nat)(A:Nat->Ext.aS):Prop where
 Qp:Ext.GC (n+m) m A
 Df:Ext.kX (n+m) m A (gU g n)
 sum:r+s=m
 lo:∀y,y<r->Ext.aj (n+m) (A y)<n
 hi:∀y,r<=y->y<m->n<=Ext.aj (n+m) (A y)
end Go.Proofs.Ytdpbiegfljmhmaa
namespace Go.Proofs.Ytdpbiegfljmhmaa.Ext
structure Pl where
 β:Nat->Nat->Nat
 K:Nat->Nat->Nat
 μ:Nat->Nat->Nat
 U:Nat->Nat
end Go.Proofs.Ytdpbiegfljmhmaa.Ext
namespace Go.Proofs.Ytdpbiegfljmhmaa
open Go.cY
namespace Ext
def bC:Nat->Nat
 |0=>9|1=>162|2=>52488|_=>157464
def bU:Nat->Nat
 |0=>1|1=>18|2=>5832|_=>157464
def uU:Nat->Nat
 |0=>0|1=>162|2=>8503218|3=>1338959222370|_=>210839243950492050
def P1(n:Nat):Pl:=⟨fun a c=>if c<n then bC a else bU a,fun a c=>if c<n then bC (a+1)else bU (a+1),fun a c=>if c<n then bC (a+1)else bU (a+1),uU⟩
end Ext
namespace Ext
def b2(s b:Nat):Nat->Nat
 |0=>b
 |a+1=>if a+1<s then 2*(b2 s b a*b2 s b a)else b2 s b a
def u2(s b:Nat):Nat->Nat
 |0=>0
 |a+1=>u2 s b a+u2 s b a*b2 s b (a+1)+b2 s b (a+1)
end Ext
namespace Ext
theorem zO(f:Nat->Int)(r:Nat):∀s,aV f (r+s)=aV f r+aV (fun i=>f (r+i)) s
 |0=>by show aV f r=aV f r+0;omega
 |s+1=>by
  show aV f (r+s)+f (r+s)=aV f r+(aV (fun i=>f (r+i)) s+f (r+s));rw[zO f r s];omega
theorem Sp.rest{n m r s:Nat}{F:Nat->aS}{v:aS}(hs:r+s=m)(top:pJ (n+m) r F)(lead:∀y,y<r->aj (n+m) (F y)<n)(low:∀i c,r<=i->i<m->c<n->F i c=0)(hv:Sp (n+m) m F v)(hz:∀c,c<n->v c=0):Sp m s (fun y j=>F (r+y) (n+j)) (fun j=>v (n+j)):=by
 obtain⟨y,hy⟩:=hv;have z:∀i,i<r->y i=0:=by
  intro i
  induction i using Nat.strongRecOn with
  |_ i ih=>
  intro hi;have p1:=lead i hi;have h1:=hy (aj (n+m) (F i)) om;rw[hz _ p1,JM (i:=i) m om (fun k hk=>by rw[ih k hk om];omega) (fun k h1 h2=>by
   by_cases c:k<r
   ·rw[bD (w:=n+m) (v:=F k) (top.inc i k h1 c)];omega
   ·rw[low k _ om h2 p1];omega)]at h1
  have h2:=top.pos i hi;rcases Int.mul_eq_zero.1 h1.symm with q|q
  ·exact q
  ·omega
 refine⟨fun i=>y (r+i),fun j hj=>?_⟩;have h1:=hy (n+j) om;rw[<-hs,zO]at h1;rw[aN (g:=fun _=>0) r (fun i hi=>by rw[z i hi];omega),rB,Int.zero_add]at h1;exact h1
end Ext
set_option maxRecDepth 100000
structure FX(g:List (List Int))(n R C i j:Nat)(M:Nat->Nat->Int):Prop where
 up:∀r c,r<(Ext.bl i R).length->c<(Ext.bl n C).length->M r c=Ext.el g (gt (Ext.bl i R) (r:Int)) (gt (Ext.bl n C) (c:Int))
 cur:∀c,c<(Ext.bl j C).length->M (Ext.bl i R).length c=Ext.el g i (gt (Ext.bl j C) (c:Int))
theorem FX.skip{g:List (List Int)}{n R C i j:Nat}{M:Nat->Nat->Int}(t:FX g n R C i j M)(h:C.testBit j=false):FX g n R C i (j+1) M:=by
 refine⟨t.up,fun c hc=>?_⟩;rw[Ext.mN,if_neg (by rw[h];decide)]at hc ⊢;exact t.cur c hc
theorem FX.put{g:List (List Int)}{n R C i j:Nat}{M:Nat->Nat->Int}(t:FX g n R C i j M)(h:C.testBit j=true):FX g n R C i (j+1) (tV M (Ext.bl i R).length (Ext.bl j C).length (Ext.el g i j)):=by
 refine⟨fun r c hr hc=>?_,fun c hc=>?_⟩
 ·unfold tV;rw[if_neg om];exact t.up r c hr hc
 ·rw[Ext.mN,if_pos h]at hc ⊢
  rw[List.length_append,List.length_singleton]at hc;rw[Ext.IF _ _ om];unfold tV;by_cases e:c<(Ext.bl j C).length
  ·rw[if_neg om,if_pos e];exact t.cur c e
  ·rw[if_pos om,if_neg e]
theorem FX.next{g:List (List Int)}{n R C i:Nat}{M:Nat->Nat->Int}(t:FX g n R C i n M)(h:R.testBit i=true):FX g n R C (i+1) 0 M:=by
 refine⟨fun r c hr hc=>?_,fun c hc=>absurd hc (by show ¬c<0;omega)⟩;rw[Ext.mN,if_pos h]at hr ⊢;rw[List.length_append,List.length_singleton]at hr;rw[Ext.IF _ _ om];by_cases e:r<(Ext.bl i R).length
 ·rw[if_pos e];exact t.up r c e hc
 ·rw[if_neg e,show r=(Ext.bl i R).length by omega];exact t.cur c hc
theorem FX.aaU{g:List (List Int)}{n R C i:Nat}{M:Nat->Nat->Int}(t:FX g n R C i 0 M)(h:R.testBit i=false):FX g n R C (i+1) 0 M:=by
 refine⟨fun r c hr hc=>?_,fun c hc=>absurd hc (by show ¬c<0;omega)⟩;rw[Ext.mN,if_neg (by rw[h];decide)]at hr ⊢;exact t.up r c hr hc
structure I8(h:af)(es b n c:Nat)(cells:List Value):Prop where
 own:bW h b es cells
 lt:b<h.next
 len:cells.length=n*es
 cap:c=n\/c=az es n
theorem I8.ext{h h':af}{es b n c:Nat}{cells:List Value}(p:I8 h es b n c cells)(e:Ext h h'):I8 h' es b n c cells:=⟨p.own.ext e p.lt,Nat.lt_of_lt_of_le p.lt e.next,p.len,p.cap⟩
theorem CP{P:Program}{t t2 e es:Nat}(hT:fx P t e es)(GR:P.underlying t2=some (.slice e)){h:af}{b n n2 c2:Nat}{a2:Option Addr}{cells news:List Value}(ho:bW h b es cells)(hb:b<h.next)(hl:cells.length=n*es)(hn:n<=1000)(hs:Cells h a2 n2 es news)(fD:cells.all aE=true)(pG:news.all aE=true)(h0:0<n2)(tv:n2<=1000000) :
  cF P h [t,t2] [.slice (some ⟨b,0,none⟩) n n,.slice a2 n2 c2]=some (.slice (some ⟨h.next,0,none⟩) (n+n2) (az es (n+n2)),h.push es (cells++news)):=by
 obtain⟨by_,rj,mU⟩:=hT.bytes;obtain⟨z,hz,wV⟩:=hT.zero;have sh:=hs.length;have gH:iW P h e es false (.slice a2 n2 c2)=some (n2,news):=(vj.of (P:=P) (e:=e) c2 hs).1;have JJ:cL n=n:=Nat.mod_eq_of_lt (by unfold aP;omega);unfold cF;simp only[hT.vR,hT.size,rj,GR,hz,cX,gH];rw[JJ,dU om];simp only[cond_false];rw[bq (show n+n2<=1073741824 by omega),bq mU,pG,wV,sh];simp only[Bool.and_self,Nat.beq_refl,cond_true];have hr:h.aM ⟨b,0,none⟩ (n*es)=some cells:=by rw[ho.aM om];simp[<-hl]
 simp only[hr];rw[dN (show n<aP by unfold aP;omega),fD];simp only[cond_true]
theorem Hq{P:Program}{t t2 e es:Nat}(hT:fx P t e es)(GR:P.underlying t2=some (.slice e)){h:af}{b n c n2 c2:Nat}{a2:Option Addr}{cells news:List Value}(hp:I8 h es b n c cells)(hn:n<=1000)(hs:Cells h a2 n2 es news)(fD:cells.all aE=true)(pG:news.all aE=true)(tv:n2<=100000) :
  ∃b' c' h',cF P h [t,t2] [.slice (some ⟨b,0,none⟩) n c,.slice a2 n2 c2]=some (.slice (some ⟨b',0,none⟩) (n+n2) c',h')/\I8 h' es b' (n+n2) c' (cells++news)/\h.next<=h'.next/\(b'=b\/h.next<=b')/\(∀j,j<h.next->j≠b->h'.m.get j=h.m.get j)/\(∀h0,Ext h0 h->h0.next<=b->Ext h0 h'/\h0.next<=b'):=by
 have sh:=hs.length;rcases hp.cap with e|e
 ·subst e
  by_cases h2:n2=0
  ·subst h2
   have en:news=[]:=by simpa using sh
   subst en;obtain⟨by_,rj,mU⟩:=hT.bytes;obtain⟨z,hz,wV⟩:=hT.zero;have gH:iW P h e es false (.slice a2 0 c2)=some (0,[]):=(vj.of (P:=P) (e:=e) c2 hs).1;have JJ:cL c=c:=Nat.mod_eq_of_lt (by unfold aP;omega);obtain⟨h',hw,my,n8⟩:=hp.own.write (o:=c*es) (vs:=[]) (by simp[hp.len]);have TB:h.gP (fV ⟨b,0,none⟩ (c*es)) []=some h':=by
    unfold af.gP fV;simp only[List.all_nil,cond_true,Nat.zero_add];exact hw
   refine⟨b,c,h',?_,⟨?_,by rw[n8.next];exact hp.lt,by simpa using hp.len,.inl rfl⟩,by rw[n8.next];exact Nat.le_refl _,.inl rfl,fun j _ j1=>n8.get j j1,fun h0 e0 mw=>⟨n8.ext e0 mw,mw⟩⟩
   ·unfold cF
    simp only[hT.vR,hT.size,rj,GR,hz,cX,gH];rw[JJ,bq (show c+0<=c by omega)];simp only[cond_true,TB]
   ·have:List.take (c*es) cells++([]++List.drop (c*es+([]:List Value).length) cells)=cells++[]:=by
     simp[<-hp.len]
    rw[this]at my;exact my
  ·have:=CP hT GR (c2:=c2) hp.own hp.lt hp.len hn hs fD pG om om
   refine⟨_,_,_,this,⟨bW.push _ _ _,by simp[af.push],by rw[List.length_append,hp.len,sh,Nat.add_mul],.inr rfl⟩,(Ext.push _ _ _).next,.inr (Nat.le_refl _),fun j j0 _=>(Ext.push _ _ _).get j j0,fun h0 e0 mw=>⟨e0.trans (.push _ _ _),e0.next⟩⟩
 ·obtain⟨b',c',h',h1,⟨o1,o2,o3,o4⟩,h3,h4,h5,h6⟩:=Er hT GR (c2:=c2) (show GS h es b n c cells from⟨hp.own,hp.lt,hp.len,.inr e⟩) (vj.of c2 hs) fD pG om
  exact⟨b',c',h',h1,⟨o1,o2,o3,by rcases o4 with ⟨q1,q2⟩|q;left;omega;exact .inr q⟩,h3,h4,h5,h6⟩
structure nu(g:List (List Int))(m n r:Nat):Prop where
 lm:r<=m
 ln:r<=n
 nz:∀k,k<r->Ext.Dv g m n (k+1)≠0
 fin:r=m\/r=n\/Ext.Dv g m n (r+1)=0
theorem nu.uniq{g:List (List Int)}{m n r s:Nat}(h:nu g m n r)(k:nu g m n s):r=s:=by
 have one:∀{r s:Nat},nu g m n r->nu g m n s->¬r<s:=fun {r s} h k q=>by
  rcases h.fin with e|e|e
  ·have:=k.lm;omega
  ·have:=k.ln;omega
  ·exact k.nz r q e
 have:=one h k;have:=one k h;omega
def Hr(g:List (List Int))(m n:Nat)(k:Nat):List Int:=iK (fun x=>(Ext.Dv g m n x:Int)) k
def AK(g:List (List Int))(m n:Nat)(r:Nat):List Int:=iK (fun x=>((Ext.Dv g m n (x+1) / Ext.Dv g m n x:Nat):Int)) r
variable{F:bk}{call head arith a0 d0 gM f0 conv neg k0 B8 ofNat l0 place n0 nz o0 rd wr push next p0 s0 t0 u0 v0 w0 z0 b1 c1 d1 app f1 g1 fresh aw aG wrote bT lt ne ph l1 s1 yn u1 v1 z1 d2 bytes f2:_}(hA:AP F ⟨call,head,arith,a0,d0,gM,f0,conv,neg,k0,B8,ofNat,l0,place,n0,nz,o0,rd,wr,push,next,p0,s0,t0,u0,v0,w0,z0,b1,c1,d1,app,f1,g1,fresh,aw,aG,wrote,bT,lt,ne,ph,l1,s1,yn,u1,v1,z1,d2,bytes,f2⟩)
include hA
theorem NY{h:af}{m ac k bc:Nat}{aa ba:Option Addr}{cT:List Hd}{g:List (List Int)}(hg:Ai nC 1 h aa m cT g)(hm:m<=1000){M:Int}(eM:M=m){Q:Exit->SS->Prop}
  (jl:(∃i:Int,0<=i/\i<m/\4<(gt g i).length)->∀env,Q .ret ⟨(2,.int .i64 4) :: env,1,[(0,[.slice aa m ac,.slice ba k bc])],h⟩)
  (fI:(∀i:Int,0<=i->i<m->(gt g i).length<=4)->Q (.exit 0) ⟨[(1,.pointer (some ⟨0,0,some 0⟩))],1,[(0,[.slice aa m ac,.slice ba k bc])],h⟩) :
  ∀(d i:Nat) (I:Int),m-i<=d->i<=m->I=i->(∀j:Int,0<=j->j<i->(gt g j).length<=4)->
   head 12 4 1 ⟨[(1,.pointer (some ⟨0,0,some 0⟩)),(16,.slice aa m ac),(17,.int .i64 M),(18,.int .i64 I)],1,[(0,[.slice aa m ac,.slice ba k bc])],h⟩ Q:=by
 refine rS (fun d ih=>?_);intro i I hd hi eI hp;by_cases ci:i<m
 rotate_left
 ·refine hA.ar Try.func12 x12.2 (zc ?_)
  refine br (I<M) (by rw[aA hA]) (fun q=>om) (fun _=>?_)<;>refine zc ?_;exact fI (fun j j0 j1=>hp j j0 om)
 obtain⟨d,rfl⟩:∃k,d=k+1:=⟨d-1,om⟩
 replace ih:=ih d rfl
 obtain⟨b,o,rfl,hb,q1⟩:=hg.mj (i:=I) om om;obtain⟨ra,era⟩:∃z,z=(gt cT I).a:=⟨_,rfl⟩;obtain⟨rn,FY⟩:∃z,z=(gt cT I).n:=⟨_,rfl⟩;obtain⟨rc,Fe⟩:∃z,z=(gt cT I).c:=⟨_,rfl⟩;rw[<-era,<-FY,<-Fe]at q1;have r1:rd h b (place o I 1) 1 [.slice ra rn rc]:=aC hA q1;have Zt:(gt g I).length=rn:=by rw[FY];exact hg.vp om om
 obtain⟨R,eR⟩:∃z:Int,z=rn:=⟨_,rfl⟩;have e1:ofNat rn=R:=by rw[eR];exact aL hA rn
 refine hA.ar Try.func12 x12.2 (zc ?_);refine br (I<M) (by rw[aA hA]) (fun _=>?_) (fun q=>om)<;>refine zc ?_
 (refine zq ?_;repeat ((first|rw[e1]);refine zq ?_))
 refine br (4<R) (by rw[dP hA]) (fun c4=>?_) (fun c4=>?_)<;>refine zc ?_
 ·refine zq ?_
  exact jl ⟨I,om,om,om⟩ _
 refine zq ?_;rw[aH hA om om];exact ih (i+1) (I+1) om om om (fun j j0 j1=>by
  by_cases e:j=I
  ·rw[e];omega
  ·exact hp j j0 om)
theorem Um{h:af}{m ac k bc rn rc:Nat}{aa ba ra:Option Addr}{row:List Int}{J0 M:Int}(hr:0<rn->Rows nC 1 h ra rn row)(hn:rn<=1000){R:Int}(eR:R=rn){Q:Exit->SS->Prop}
  (jl:(∃j:Int,0<=j/\j<rn/\¬(-9<=gt row j/\gt row j<=9))->∀env,Q .ret ⟨(2,.int .i64 8) :: env,1,[(0,[.slice aa m ac,.slice ba k bc])],h⟩)
  (fI:(∀j:Int,0<=j->j<rn->-9<=gt row j/\gt row j<=9)->Q (.exit 4) ⟨[(1,.pointer (some ⟨0,0,some 0⟩)),(48,.slice aa m ac),(49,.int .i64 M),(50,.int .i64 J0)],1,[(0,[.slice aa m ac,.slice ba k bc])],h⟩) :
  ∀(d i:Nat) (I:Int),rn-i<=d->i<=rn->I=i->(∀j:Int,0<=j->j<i->-9<=gt row j/\gt row j<=9)->
   head 12 17 1 ⟨[(1,.pointer (some ⟨0,0,some 0⟩)),(48,.slice aa m ac),(49,.int .i64 M),(50,.int .i64 J0),(62,.slice ra rn rc),(63,.int .i64 R),(64,.int .i64 I)],1,[(0,[.slice aa m ac,.slice ba k bc])],h⟩ Q:=by
 refine rS (fun d ih=>?_);intro i I hd hi eI hp;by_cases ci:i<rn
 rotate_left
 ·refine hA.ar Try.func12 x12.2 (zc ?_)
  refine br (I<R) (by rw[aA hA]) (fun q=>om) (fun _=>?_)<;>refine zc ?_;exact fI (fun j j0 j1=>hp j j0 om)
 obtain⟨d,rfl⟩:∃k,d=k+1:=⟨d-1,om⟩
 replace ih:=ih d rfl
 obtain⟨b,o,rfl,hb,q1⟩:=(hr om).at (i:=I) om om;have q2:=q1 0 1 om om;obtain⟨x,ex⟩:∃z,z=gt row I:=⟨_,rfl⟩;rw[<-ex]at q2;have r1:rd h b (place o I 1) 1 [.int .i64 x]:=aC hA q2;refine hA.ar Try.func12 x12.2 (zc ?_);refine br (I<R) (by rw[aA hA]) (fun _=>?_) (fun q=>om)<;>refine zc ?_;refine zq ?_;refine br (x < -9) (by rw[aA hA]) (fun c4=>?_) (fun c4=>?_)<;>refine zc ?_
 ·refine zq ?_
  exact jl ⟨I,om,om,om⟩ _
 refine zq ?_;refine br (9<x) (by rw[dP hA]) (fun c5=>?_) (fun c5=>?_)<;>refine zc ?_
 ·refine zq ?_
  exact jl ⟨I,om,om,om⟩ _
 refine zq ?_;rw[aH hA om om];exact ih (i+1) (I+1) om om om (fun j j0 j1=>by
  by_cases e:j=I
  ·rw[e,<-ex];omega
  ·exact hp j j0 om)
theorem QR{h:af}{m ac k bc:Nat}{aa ba:Option Addr}{cT:List Hd}{g:List (List Int)}(hg:Ai nC 1 h aa m cT g)(m0:0<m)(hm:m<=1000)(hl:∀i:Int,0<=i->i<m->(gt g i).length<=1000){M:Int}(eM:M=m){Q:Exit->SS->Prop}
  (jl:(∃i:Int,0<=i/\i<m/\¬((gt g i).length=(gt g 0).length/\∀j:Int,0<=j->j<(gt g i).length->-9<=gt (gt g i) j/\gt (gt g i) j<=9))->∀env,Q .ret ⟨(2,.int .i64 8) :: env,1,[(0,[.slice aa m ac,.slice ba k bc])],h⟩)
  (fI:(∀i:Int,0<=i->i<m->(gt g i).length=(gt g 0).length/\∀j:Int,0<=j->j<(gt g i).length->-9<=gt (gt g i) j/\gt (gt g i) j<=9)->Q (.exit 2) ⟨[(1,.pointer (some ⟨0,0,some 0⟩))],1,[(0,[.slice aa m ac,.slice ba k bc])],h⟩) :
  ∀(d i:Nat) (I:Int),m-i<=d->i<=m->I=i->(∀j:Int,0<=j->j<i->(gt g j).length=(gt g 0).length/\∀x:Int,0<=x->x<(gt g j).length->-9<=gt (gt g j) x/\gt (gt g j) x<=9)->
   head 12 12 1 ⟨[(1,.pointer (some ⟨0,0,some 0⟩)),(48,.slice aa m ac),(49,.int .i64 M),(50,.int .i64 I)],1,[(0,[.slice aa m ac,.slice ba k bc])],h⟩ Q:=by
 refine rS (fun d ih=>?_);intro i I hd hi eI hp;by_cases ci:i<m
 rotate_left
 ·refine hA.ar Try.func12 x12.2 (zc ?_)
  refine br (I<M) (by rw[aA hA]) (fun q=>om) (fun _=>?_)<;>refine zc ?_;exact fI (fun j j0 j1=>hp j j0 om)
 obtain⟨d,rfl⟩:∃k,d=k+1:=⟨d-1,om⟩
 replace ih:=ih d rfl
 obtain⟨b,o,rfl,hb,q1⟩:=hg.mj (i:=I) om om;obtain⟨b',o',e',_,q0⟩:=hg.mj (i:=0) om om;cases e';obtain⟨ra,era⟩:∃z,z=(gt cT I).a:=⟨_,rfl⟩;obtain⟨rn,FY⟩:∃z,z=(gt cT I).n:=⟨_,rfl⟩;obtain⟨rc,Fe⟩:∃z,z=(gt cT I).c:=⟨_,rfl⟩;obtain⟨sa,Un⟩:∃z,z=(gt cT 0).a:=⟨_,rfl⟩;obtain⟨sn,NZ⟩:∃z,z=(gt cT 0).n:=⟨_,rfl⟩;obtain⟨sc,Uo⟩:∃z,z=(gt cT 0).c:=⟨_,rfl⟩;rw[<-era,<-FY,<-Fe]at q1;rw[<-Un,<-NZ,<-Uo]at q0;have r1:rd h b (place o I 1) 1 [.slice ra rn rc]:=aC hA q1;have r0:rd h b (place o 0 1) 1 [.slice sa sn sc]:=aC hA q0;have row:=(hg.row I om om).2;rw[<-era,<-FY]at row;have Zt:(gt g I).length=rn:=by rw[FY];exact hg.vp om om
 have Dd:(gt g 0).length=sn:=by rw[NZ];exact hg.vp om om
 have Ah:=hl I om om;have fF:=hl 0 om om;obtain⟨R,eR⟩:∃z:Int,z=rn:=⟨_,rfl⟩;have e1:ofNat rn=R:=by rw[eR];exact aL hA rn
 obtain⟨S,eS⟩:∃z:Int,z=sn:=⟨_,rfl⟩;have e2:ofNat sn=S:=by rw[eS];exact aL hA sn
 refine hA.ar Try.func12 x12.2 (zc ?_);refine br (I<M) (by rw[aA hA]) (fun _=>?_) (fun q=>om)<;>refine zc ?_
 (refine zq ?_;repeat ((first|rw[e1]|rw[e2]);refine zq ?_))
 refine br (R≠S) (by rw[cB hA]) (fun c4=>?_) (fun c4=>?_)<;>refine zc ?_
 ·refine zq ?_
  exact jl ⟨I,om,om,fun q=>c4 (by have:=q.1;omega)⟩ _
 (refine zq ?_;repeat ((first|rw[e1]);refine zq ?_))
 refine Um hA row om eR (fun c env=>?_) (fun c=>?_) rn 0 0 om om rfl (fun j j0 j1=>om)
 ·obtain⟨j,j0,j1,j2⟩:=c
  exact jl ⟨I,om,om,fun q=>j2 (q.2 j j0 om)⟩ env
 refine zq ?_;rw[aH hA om om];exact ih (i+1) (I+1) om om om (fun j j0 j1=>by
  by_cases e:j=I
  ·rw[e];exact⟨om,fun x x0 x1=>c x x0 om⟩
  ·exact hp j j0 om)
theorem N4{h0:af}(fF:h0.low<=h0.next){k bc:Nat}{ba:Option Addr}{B:List Fc}{cells:List Value}(hB:Rows fC 2 h0 ba k B)(hk:k<=1000)(hi:∀i:Int,0<=i->i<k->i64 (gt B i).n/\i64 (gt B i).d){K:Int}(eK:K=k){Q:Exit->SS->Prop}
  (jl:(∃i:Int,0<=i/\i<k/\¬(cI (gt B i)/\(gt B i).d<=60))->∀env kn T h',Ext h0 h'->Q .ret ⟨(2,.int .i64 8) :: env,kn,T,h'⟩)
  (fI:(∀i:Int,0<=i->i<k->cI (gt B i)/\(gt B i).d<=60)->∀kn T h',Ext h0 h'->Q (.exit 6) ⟨[],kn,T,h'⟩) :
  ∀(d i:Nat) (I:Int) (h:af),k-i<=d->i<=k->I=i->Ext h0 h->(∀j:Int,0<=j->j<i->cI (gt B j)/\(gt B j).d<=60)->
   head 12 24 1 ⟨[(77,.slice ba k bc),(78,.int .i64 K),(79,.int .i64 I)],1,[(0,cells)],h⟩ Q:=by
 refine rS (fun d ih=>?_);intro i I h hd FM eI x hp;by_cases ci:i<k
 rotate_left
 ·refine hA.ar Try.func12 x12.2 (zc ?_)
  refine br (I<K) (by rw[aA hA]) (fun q=>om) (fun _=>?_)<;>refine zc ?_;exact fI (fun j j0 j1=>hp j j0 om) _ _ h x
 obtain⟨d,rfl⟩:∃k,d=k+1:=⟨d-1,om⟩
 replace ih:=ih d rfl
 have aq:h.low<=h.next:=x.aD fF;obtain⟨b,o,rfl,hb,q1⟩:=(hB.ext x).at (i:=I) om om;have q2:=q1 0 2 om om;obtain⟨y,ey⟩:∃z,z=gt B I:=⟨_,rfl⟩;obtain⟨i1,i2⟩:=hi I om om;rw[<-ey]at q2 i1 i2;obtain⟨yn,yd⟩:=y;have r1:rd h b (place o I 2) 2 [.int .i64 yn,.int .i64 yd]:=aC hA q2;refine hA.ar Try.func12 x12.2 (zc ?_);refine br (I<K) (by rw[aA hA]) (fun _=>?_) (fun q=>om)<;>refine zc ?_;refine zq ?_;refine QS hA (x:=⟨yn,yd⟩) aq i1 i2 (fun t h1 ht x1=>⟨t,rfl,?_⟩);have x2:=x.trans x1;refine zq ?_;cases t with
 |false=>
  have nt:¬cI ⟨yn,yd⟩:=fun q=>by have:=ht.2 q;cases this
  rw[show gM false=true by rw[dk hA];rfl];refine zq ?_;exact jl ⟨I,om,om,fun q=>nt (by rw[ey];exact q.1)⟩ _ _ _ h1 x2
 |true=>
  have tt:cI ⟨yn,yd⟩:=ht.1 rfl;rw[show gM true=false by rw[dk hA];rfl];refine zq ?_;refine br (60<yd) (by rw[dP hA]) (fun c=>?_) (fun c=>?_)<;>refine zc ?_
  ·refine zq ?_
   exact jl ⟨I,om,om,fun q=>by rw[<-ey]at q;have:=q.2;simp only at this;omega⟩ _ _ _ h1 x2
  ·refine zq ?_
   rw[aH hA om om];exact ih (i+1) (I+1) h1 om om om x2 (fun j j0 j1=>by
    by_cases e:j=I
    ·rw[e,<-ey];exact⟨tt,by show yd<=60;omega⟩
    ·exact hp j j0 om)
theorem Ff{h:af}(aq:h.low<=h.next){m ac k bc:Nat}{aa ba:Option Addr}{cT:List Hd}{g:List (List Int)}{B:List Fc}(hg:Ai nC 1 h aa m cT g)(hB:Rows fC 2 h ba k B)(hi:∀i:Int,0<=i->i<k->i64 (gt B i).n/\i64 (gt B i).d){Q:Value->af->Prop}
  (hQ:∀e h',jK g B e->Ext h h'->Q (.int .i64 e) h'):call 12 [.agg #[.slice aa m ac,.slice ba k bc]] h Q:=by
 have hgm:=hg.len;have hbk:=hB.len;obtain⟨M,eM⟩:∃z:Int,z=m:=⟨_,rfl⟩;have e1:ofNat m=M:=by rw[eM];exact aL hA m
 obtain⟨K,eK⟩:∃z:Int,z=k:=⟨_,rfl⟩;have e2:ofNat k=K:=by rw[eK];exact aL hA k
 refine hA.aU Try.func12 x12.2 (hA.alike _ _ _ rfl) aq (zc ?_)
 (refine zq ?_;repeat ((first|rw[e1]);refine zq ?_))
 refine br (4<M) (by rw[dP hA]) (fun c=>?_) (fun c=>?_)<;>refine zc ?_
 ·refine zq ?_
  exact hQ _ _ (.inl ⟨.inl om,rfl⟩) (.refl h)
 have XL:m<=1000:=om
 (refine zq ?_;repeat ((first|rw[e1]);refine zq ?_))
 refine NY hA hg XL eM (fun q env=>?_) (fun XM=>?_) m 0 0 om om rfl (fun j j0 j1=>om)
 ·refine zq ?_
  obtain⟨i,i0,i1,i2⟩:=q;exact hQ _ _ (.inl ⟨.inr ⟨i,i0,om,i2⟩,rfl⟩) (.refl h)
 have nm:¬Hp g:=fun q=>by
  rcases q with q|⟨i,i0,i1,i2⟩
  ·omega
  ·have:=XM i i0 om;omega
 have hl:∀i:Int,0<=i->i<m->(gt g i).length<=1000:=fun i i0 i1=>by have:=XM i i0 i1;omega
 have bad:¬Good g B->∀h',Ext h h'->Q (.int .i64 8) h':=fun q h' x=>hQ _ _ (.inr (.inr ⟨nm,q,rfl⟩)) x
 (refine zq ?_;repeat ((first|rw[e1]);refine zq ?_))
 refine br (M=0) (by rw[dn hA]) (fun c0=>?_) (fun c0=>?_)<;>refine zc ?_
 ·refine zq ?_
  exact bad (fun q=>by have:=q.m1;omega) h (.refl h)
 obtain⟨b,o,rfl,hb,q0⟩:=hg.mj (i:=0) om om;obtain⟨sa,Un⟩:∃z,z=(gt cT 0).a:=⟨_,rfl⟩;obtain⟨sn,NZ⟩:∃z,z=(gt cT 0).n:=⟨_,rfl⟩;obtain⟨sc,Uo⟩:∃z,z=(gt cT 0).c:=⟨_,rfl⟩;rw[<-Un,<-NZ,<-Uo]at q0;have r0:rd h b (place o 0 1) 1 [.slice sa sn sc]:=aC hA q0;have Dd:(gt g 0).length=sn:=by rw[NZ];exact hg.vp om om
 have fF:=hl 0 om om;obtain⟨S,eS⟩:∃z:Int,z=sn:=⟨_,rfl⟩;have e3:ofNat sn=S:=by rw[eS];exact aL hA sn
 (refine zq ?_;repeat ((first|rw[e3]);refine zq ?_))
 refine br (S=0) (by rw[dn hA]) (fun cs=>?_) (fun cs=>?_)<;>refine zc ?_
 ·refine zq ?_
  exact bad (fun q=>by have:=q.n1;omega) h (.refl h)
 (refine zq ?_;repeat ((first|rw[e1]|rw[e2]);refine zq ?_))
 refine br (K≠M) (by rw[cB hA]) (fun ck=>?_) (fun ck=>?_)<;>refine zc ?_
 ·refine zq ?_
  exact bad (fun q=>by have:=q.len;omega) h (.refl h)
 (refine zq ?_;repeat ((first|rw[e1]);refine zq ?_))
 refine QR hA hg om XL hl eM (fun q env=>?_) (fun KB=>?_) m 0 0 om om rfl (fun j j0 j1=>om)
 ·refine zq ?_
  obtain⟨i,i0,i1,i2⟩:=q;exact bad (fun w=>i2 ⟨w.row i i0 om,w.Ul i i0 om⟩) h (.refl h)
 (refine zq ?_;repeat ((first|rw[e2]);refine zq ?_))
 refine N4 hA aq hB om hi eK (fun q env kn T h' x=>?_) (fun q kn T h' x=>?_) k 0 0 h om om rfl (.refl h) (fun j j0 j1=>om)
 ·refine zq ?_
  obtain⟨i,i0,i1,i2⟩:=q;exact bad (fun w=>i2 (w.turn i i0 om)) h' x
 ·refine zq ?_
  exact hQ _ _ (.inr (.inl ⟨nm,⟨om,om,om,fun i i0 i1=>(KB i i0 om).1,fun i i0 i1=>(KB i i0 om).2,fun i i0 i1=>q i i0 om⟩,rfl⟩)) x
theorem N5{h:af}(aq:h.low<=h.next){x:Fc}(hn:i64 x.n)(hd:i64 x.d){Q:Value->af->Prop}(hQ:∀b h',(b=true↔cI x)->Ext h h'->Q (.bool b) h'):call 32 [.agg #[.int .i64 x.n,.int .i64 x.d]] h Q:=by
 obtain⟨n,d⟩:=x;simp only at hn hd;refine hA.aU Try.func32 x32.2 (hA.alike _ _ _ rfl) aq (zc ?_);refine lG hA aq hn hd (fun e h' k x1=>?_);refine⟨e,rfl,?_⟩;refine zq ?_;refine br (e=0) (by rw[dn hA]) (fun c=>?_) (fun c=>?_)<;>refine zc ?_
 rotate_left
 ·refine zq ?_
  refine hQ false h' ⟨(fun q=>by cases q),fun q=>?_⟩ x1;rcases k with ⟨k,_⟩|⟨_,k⟩
  ·exact absurd k c
  ·exact absurd q.1 k
 have ok:okF n d:=by rcases k with ⟨_,k⟩|⟨k,_⟩;exact k;omega
 refine zq ?_;refine br (0<=n) (by rw[bR hA]) (fun c2=>?_) (fun c2=>?_)<;>refine zc ?_
 rotate_left
 ·refine zq ?_
  exact hQ false h' ⟨(fun q=>by cases q),fun q=>absurd q.2.1 c2⟩ x1
 refine zq ?_;rw[aA hA];exact hQ _ h' ⟨fun q=>⟨ok,c2,of_decide_eq_true q⟩,fun q=>decide_eq_true q.2.2⟩ x1
theorem KC{h:af}{m ac k bc:Nat}{aa ba:Option Addr}{cT:List Hd}{g:List (List Int)}(hg:Ai nC 1 h aa m cT g)(hm:m<=1000){Q:Exit->SS->Prop}
  (jl:(∃i:Int,0<=i/\i<m/\4<(gt g i).length)->∀env,Q .ret ⟨(2,.int .i64 4) :: env,1,[(0,[.slice aa m ac,.slice ba k bc])],h⟩)
  (fI:(∀i:Int,0<=i->i<m->(gt g i).length<=4)->Q (.exit 0) ⟨[(1,.pointer (some ⟨0,0,some 0⟩))],1,[(0,[.slice aa m ac,.slice ba k bc])],h⟩) :
  ∀(d i:Nat) (I:Int),m-i<=d->i<=m->I=i->(∀j:Int,0<=j->j<i->(gt g j).length<=4)->
   head 13 4 1 ⟨[(1,.pointer (some ⟨0,0,some 0⟩)),(3,.int .i64 I)],1,[(0,[.slice aa m ac,.slice ba k bc])],h⟩ Q:=by
 intro d;obtain⟨M,eM⟩:∃z:Int,z=m:=⟨_,rfl⟩;have e0:ofNat m=M:=by rw[eM];exact aL hA m
 induction d with
 |zero=>
  intro i I hd hi eI hp;refine hA.ar Try.func13 na (zc ?_)
  (refine zq ?_;repeat ((first|rw[e0]);refine zq ?_))
  refine br (I<M) (by rw[aA hA]) (fun q=>om) (fun _=>?_)<;>refine zc ?_;exact fI (fun j j0 j1=>hp j j0 om)
 |succ d ih=>
 intro i I hd hi eI hp;by_cases ci:i<m
 rotate_left
 ·refine hA.ar Try.func13 na (zc ?_)
  (refine zq ?_;repeat ((first|rw[e0]);refine zq ?_))
  refine br (I<M) (by rw[aA hA]) (fun q=>om) (fun _=>?_)<;>refine zc ?_;exact fI (fun j j0 j1=>hp j j0 om)
 obtain⟨b,o,rfl,hb,q1⟩:=hg.mj (i:=I) om om;obtain⟨ra,era⟩:∃z,z=(gt cT I).a:=⟨_,rfl⟩;obtain⟨rn,FY⟩:∃z,z=(gt cT I).n:=⟨_,rfl⟩;obtain⟨rc,Fe⟩:∃z,z=(gt cT I).c:=⟨_,rfl⟩;rw[<-era,<-FY,<-Fe]at q1;have r1:rd h b (place o I 1) 1 [.slice ra rn rc]:=aC hA q1;have Zt:(gt g I).length=rn:=by rw[FY];exact hg.vp om om
 obtain⟨R,eR⟩:∃z:Int,z=rn:=⟨_,rfl⟩;have e1:ofNat rn=R:=by rw[eR];exact aL hA rn
 refine hA.ar Try.func13 na (zc ?_)
 (refine zq ?_;repeat ((first|rw[e0]);refine zq ?_))
 refine br (I<M) (by rw[aA hA]) (fun _=>?_) (fun q=>om)<;>refine zc ?_
 (refine zq ?_;repeat ((first|rw[e1]);refine zq ?_))
 refine br (4<R) (by rw[dP hA]) (fun c4=>?_) (fun c4=>?_)<;>refine zc ?_
 ·refine zq ?_
  exact jl ⟨I,om,om,om⟩ _
 refine zq ?_;rw[aH hA om om];exact ih (i+1) (I+1) om om om (fun j j0 j1=>by
  by_cases e:j=I
  ·rw[e];omega
  ·exact hp j j0 om)
theorem QT{h:af}{m ac k bc:Nat}{aa ba:Option Addr}{cT:List Hd}{g:List (List Int)}{I:Int}(hg:Ai nC 1 h aa m cT g)(I0:0<=I)(I1:I<m)(hn:(gt g I).length<=1000){Q:Exit->SS->Prop}
  (jl:(∃j:Int,0<=j/\j<(gt g I).length/\¬(-9<=gt (gt g I) j/\gt (gt g I) j<=9))->∀env,Q .ret ⟨(2,.int .i64 8) :: env,31,[(0,[.slice aa m ac,.slice ba k bc])],h⟩)
  (fI:(∀j:Int,0<=j->j<(gt g I).length->-9<=gt (gt g I) j/\gt (gt g I) j<=9)->Q (.exit 4) ⟨[(1,.pointer (some ⟨0,0,some 0⟩)),(4,.int .i64 I)],31,[(0,[.slice aa m ac,.slice ba k bc])],h⟩) :
  ∀(d j:Nat) (J:Int),(gt g I).length-j<=d->j<=(gt g I).length->J=j->(∀x:Int,0<=x->x<j->-9<=gt (gt g I) x/\gt (gt g I) x<=9)->
   head 13 16 31 ⟨[(1,.pointer (some ⟨0,0,some 0⟩)),(4,.int .i64 I),(5,.int .i64 J)],31,[(0,[.slice aa m ac,.slice ba k bc])],h⟩ Q:=by
 intro d;obtain⟨b,o,rfl,hb,q1⟩:=hg.mj (i:=I) I0 I1;obtain⟨ra,era⟩:∃z,z=(gt cT I).a:=⟨_,rfl⟩;obtain⟨rn,FY⟩:∃z,z=(gt cT I).n:=⟨_,rfl⟩;obtain⟨rc,Fe⟩:∃z,z=(gt cT I).c:=⟨_,rfl⟩;have row:=(hg.row I I0 I1).2;have XN:(gt g I).length=rn:=by rw[FY];exact hg.vp I0 I1
 rw[<-era,<-FY]at row;rw[<-era,<-FY,<-Fe]at q1;have r1:rd h b (place o I 1) 1 [.slice ra rn rc]:=aC hA q1;obtain⟨w,ew⟩:∃z,z=gt g I:=⟨_,rfl⟩;rw[<-ew]at row hn jl fI XN ⊢;have Zt:w.length=rn:=XN;obtain⟨R,eR⟩:∃z:Int,z=rn:=⟨_,rfl⟩;have e1:ofNat rn=R:=by rw[eR];exact aL hA rn
 induction d with
 |zero=>
  intro j J hd hi eI hp;refine hA.ar Try.func13 na (zc ?_)
  (refine zq ?_;repeat ((first|rw[e1]);refine zq ?_))
  refine br (J<R) (by rw[aA hA]) (fun q=>om) (fun _=>?_)<;>refine zc ?_;exact fI (fun x j0 j1=>hp x j0 om)
 |succ d ih=>
 intro j J hd hi eI hp;by_cases ci:j<rn
 rotate_left
 ·refine hA.ar Try.func13 na (zc ?_)
  (refine zq ?_;repeat ((first|rw[e1]);refine zq ?_))
  refine br (J<R) (by rw[aA hA]) (fun q=>om) (fun _=>?_)<;>refine zc ?_;exact fI (fun x j0 j1=>hp x j0 om)
 obtain⟨b2,o2,rfl,wz,q2⟩:=(row om).at (i:=J) om om;have q3:=q2 0 1 om om;obtain⟨x,ex⟩:∃z,z=gt w J:=⟨_,rfl⟩;rw[<-ex]at q3;have r2:rd h b2 (place o2 J 1) 1 [.int .i64 x]:=aC hA q3;refine hA.ar Try.func13 na (zc ?_)
 (refine zq ?_;repeat ((first|rw[e1]);refine zq ?_))
 refine br (J<R) (by rw[aA hA]) (fun _=>?_) (fun q=>om)<;>refine zc ?_
 (refine zq ?_;repeat ((first|rw[e1]);refine zq ?_))
 refine br (x < -9) (by rw[aA hA]) (fun c4=>?_) (fun c4=>?_)<;>refine zc ?_
 ·refine zq ?_
  exact jl ⟨J,om,om,om⟩ _
 (refine zq ?_;repeat ((first|rw[e1]);refine zq ?_))
 refine br (9<x) (by rw[dP hA]) (fun c5=>?_) (fun c5=>?_)<;>refine zc ?_
 ·refine zq ?_
  exact jl ⟨J,om,om,om⟩ _
 refine zq ?_;rw[aH hA om om];exact ih (j+1) (J+1) om om om (fun y j0 j1=>by
  by_cases e:y=J
  ·rw[e,<-ex];omega
  ·exact hp y j0 om)
theorem N6{h0:af}(fF:h0.low<=h0.next){m ac k bc:Nat}{aa ba:Option Addr}{cT:List Hd}{g:List (List Int)}{B:List Fc}(hg:Ai nC 1 h0 aa m cT g)(hB:Rows fC 2 h0 ba k B)(m0:0<m)(hm:m<=1000)(Vz:k=m)(hl:∀i:Int,0<=i->i<m->(gt g i).length<=1000)(hi:∀i:Int,0<=i->i<k->i64 (gt B i).n/\i64 (gt B i).d){Q:Exit->SS->Prop}
  (jl:(∃i:Int,0<=i/\i<m/\¬((gt g i).length=(gt g 0).length/\(cI (gt B i)/\(gt B i).d<=60)/\∀j:Int,0<=j->j<(gt g i).length->-9<=gt (gt g i) j/\gt (gt g i) j<=9))->∀env kn T h',Ext h0 h'->Q .ret ⟨(2,.int .i64 8) :: env,kn,T,h'⟩)
  (fI:(∀i:Int,0<=i->i<m->(gt g i).length=(gt g 0).length/\(cI (gt B i)/\(gt B i).d<=60)/\∀j:Int,0<=j->j<(gt g i).length->-9<=gt (gt g i) j/\gt (gt g i) j<=9)->∀kn T h',Ext h0 h'->Q (.exit 2) ⟨[],kn,T,h'⟩) :
  ∀(d i:Nat) (I:Int) (h:af),m-i<=d->i<=m->I=i->Ext h0 h->(∀j:Int,0<=j->j<i->(gt g j).length=(gt g 0).length/\(cI (gt B j)/\(gt B j).d<=60)/\∀x:Int,0<=x->x<(gt g j).length->-9<=gt (gt g j) x/\gt (gt g j) x<=9)->
   head 13 11 1 ⟨[(1,.pointer (some ⟨0,0,some 0⟩)),(4,.int .i64 I)],1,[(0,[.slice aa m ac,.slice ba k bc])],h⟩ Q:=by
 intro d;obtain⟨M,eM⟩:∃z:Int,z=m:=⟨_,rfl⟩;have e0:ofNat m=M:=by rw[eM];exact aL hA m
 induction d with
 |zero=>
  intro i I h hd FM eI x hp;refine hA.ar Try.func13 na (zc ?_)
  (refine zq ?_;repeat ((first|rw[e0]);refine zq ?_))
  refine br (I<M) (by rw[aA hA]) (fun q=>om) (fun _=>?_)<;>refine zc ?_;exact fI (fun j j0 j1=>hp j j0 om) _ _ h x
 |succ d ih=>
 intro i I h hd FM eI x hp;by_cases ci:i<m
 rotate_left
 ·refine hA.ar Try.func13 na (zc ?_)
  (refine zq ?_;repeat ((first|rw[e0]);refine zq ?_))
  refine br (I<M) (by rw[aA hA]) (fun q=>om) (fun _=>?_)<;>refine zc ?_;exact fI (fun j j0 j1=>hp j j0 om) _ _ h x
 have aq:h.low<=h.next:=x.aD fF;have xb:Ext h (aG h 30):=au hA _ _;have gb:=hg.ext (x.trans xb);obtain⟨b,o,rfl,hb,q1⟩:=gb.mj (i:=I) om om;obtain⟨b',o',e',_,q0⟩:=gb.mj (i:=0) om om;cases e';obtain⟨b2,o2,rfl,wz,q2⟩:=(hB.ext (x.trans xb)).at (i:=I) om om;obtain⟨y,ey⟩:∃z,z=gt B I:=⟨_,rfl⟩;obtain⟨i1,i2⟩:=hi I om om;have q3:=q2 0 2 om om;have q4:=q2 1 1 om om;rw[<-ey]at q3 q4 i1 i2;obtain⟨yn,yd⟩:=y;have r3:rd (aG h 30) b2 (place o2 I 2) 2 [.int .i64 yn,.int .i64 yd]:=aC hA q3;have r4:rd (aG h 30) b2 (bT (place o2 I 2) 1) 1 [.int .i64 yd]:=NN hA q4;obtain⟨ra,era⟩:∃z,z=(gt cT I).a:=⟨_,rfl⟩;obtain⟨rn,FY⟩:∃z,z=(gt cT I).n:=⟨_,rfl⟩;obtain⟨rc,Fe⟩:∃z,z=(gt cT I).c:=⟨_,rfl⟩;obtain⟨sa,Un⟩:∃z,z=(gt cT 0).a:=⟨_,rfl⟩;obtain⟨sn,NZ⟩:∃z,z=(gt cT 0).n:=⟨_,rfl⟩;obtain⟨sc,Uo⟩:∃z,z=(gt cT 0).c:=⟨_,rfl⟩;rw[<-era,<-FY,<-Fe]at q1;rw[<-Un,<-NZ,<-Uo]at q0;have r1:rd (aG h 30) b (place o I 1) 1 [.slice ra rn rc]:=aC hA q1;have r0:rd (aG h 30) b (place o 0 1) 1 [.slice sa sn sc]:=aC hA q0;have Zt:(gt g I).length=rn:=by rw[FY];exact hg.vp om om
 have Dd:(gt g 0).length=sn:=by rw[NZ];exact hg.vp om om
 have Ah:=hl I om om;have hl0':=hl 0 om om;obtain⟨R,eR⟩:∃z:Int,z=rn:=⟨_,rfl⟩;have e1:ofNat rn=R:=by rw[eR];exact aL hA rn
 obtain⟨S,eS⟩:∃z:Int,z=sn:=⟨_,rfl⟩;have e2:ofNat sn=S:=by rw[eS];exact aL hA sn
 refine hA.ar Try.func13 na (zc ?_)
 (refine zq ?_;repeat ((first|rw[e0]);refine zq ?_))
 refine br (I<M) (by rw[aA hA]) (fun _=>?_) (fun q=>om)<;>refine zc ?_
 (refine zq ?_;repeat ((first|rw[e1]|rw[e2]);refine zq ?_))
 refine br (R≠S) (by rw[cB hA]) (fun c4=>?_) (fun c4=>?_)<;>refine zc ?_
 ·refine zq ?_
  exact jl ⟨I,om,om,fun q=>c4 (by have:=q.1;omega)⟩ _ _ _ _ (x.trans xb)
 refine zq ?_;refine N5 hA (x:=⟨yn,yd⟩) (aB hA _) i1 i2 (fun t h1 ht x1=>⟨t,rfl,?_⟩);obtain⟨h2,I7⟩:∃z,z=aw (aG h 30) h1:=⟨_,rfl⟩;have x2:Ext h h2:=by rw[I7];exact cG hA aq xb x1
 have g2:=(hB.ext (x.trans x2)).at (i:=I) om om;obtain⟨b3,o3,e3,_,q5⟩:=g2;cases e3;have q6:=q5 1 1 om om;rw[<-ey]at q6;have r5:rd h2 b2 (bT (place o2 I 2) 1) 1 [.int .i64 yd]:=NN hA q6;refine zq ?_;have fp:∀b0,b0<h.next->ph false (wrote (aG h 30) h1) false b0 (bT (next h) 30):=fun b0 mw=>by
  rw[I3 hA];refine⟨rfl,?_,.inr (by rw[cZ hA,cQ hA];omega)⟩;rw[xj hA];exact cM (by
   have q1:=x1.vf;have q2:(aG h 30).next<=(fresh (aG h 30)).next:=by rw[iq hA];exact Nat.le_refl _
   have q3:(fresh (aG h 30)).low=(aG h 30).next:=by rw[iq hA];rfl
   have:Nat.min (fresh (aG h 30)).low (fresh (aG h 30)).next<=h1.low:=q1;rw[q3]at this;exact Nat.le_trans (Nat.le_min.2 ⟨Nat.le_refl _,q2⟩) this)
 cases t with
 |false=>
  have nt:¬cI ⟨yn,yd⟩:=fun q=>by have:=ht.2 q;cases this
  rw[show gM false=true by rw[dk hA];rfl];refine zq ?_;first|rw[<-I7]|skip
  exact jl ⟨I,om,om,fun q=>nt (by rw[ey];exact q.2.1.1)⟩ _ _ _ _ (x.trans x2)
 |true=>
  have tt:cI ⟨yn,yd⟩:=ht.1 rfl;rw[show gM true=false by rw[dk hA];rfl];refine zc ?_;rw[<-I7];refine zq ?_;refine br (60<yd) (by rw[dP hA]) (fun c5=>?_) (fun c5=>?_)<;>refine zc ?_
  ·refine zq ?_
   exact jl ⟨I,om,om,fun q=>by rw[<-ey]at q;have:=q.2.1.2;simp only at this;omega⟩ _ _ _ _ (x.trans x2)
  refine zq ?_;have gx:=hg.ext (x.trans x2);refine QT hA gx (I:=I) om om om (fun c env=>?_) (fun c=>?_) (gt g I).length 0 0 om om rfl (fun j j0 j1=>om)
  ·obtain⟨j,j0,j1,j2⟩:=c
   exact jl ⟨I,om,om,fun q=>j2 (q.2.2 j j0 j1)⟩ _ _ _ _ (x.trans x2)
  refine zq ?_;rw[aH hA om om];exact ih (i+1) (I+1) h2 om om om (x.trans x2) (fun j j0 j1=>by
   by_cases e:j=I
   ·rw[e,<-ey];exact⟨om,⟨tt,by show yd<=60;omega⟩,c⟩
   ·exact hp j j0 om)
theorem BA{h:af}(aq:h.low<=h.next){m ac k bc:Nat}{aa ba:Option Addr}{cT:List Hd}{g:List (List Int)}{B:List Fc}(hg:Ai nC 1 h aa m cT g)(hB:Rows fC 2 h ba k B)(hi:∀i:Int,0<=i->i<k->i64 (gt B i).n/\i64 (gt B i).d){Q:Value->af->Prop}
  (hQ:∀e h',jK g B e->Ext h h'->Q (.int .i64 e) h'):call 13 [.agg #[.slice aa m ac,.slice ba k bc]] h Q:=by
 have hgm:=hg.len;have hbk:=hB.len;obtain⟨M,eM⟩:∃z:Int,z=m:=⟨_,rfl⟩;have e1:ofNat m=M:=by rw[eM];exact aL hA m
 obtain⟨K,eK⟩:∃z:Int,z=k:=⟨_,rfl⟩;have e2:ofNat k=K:=by rw[eK];exact aL hA k
 refine hA.aU Try.func13 na (hA.alike _ _ _ rfl) aq (zc ?_)
 (refine zq ?_;repeat ((first|rw[e1]);refine zq ?_))
 refine br (4<M) (by rw[dP hA]) (fun c=>?_) (fun c=>?_)<;>refine zc ?_
 ·refine zq ?_
  exact hQ _ _ (.inl ⟨.inl om,rfl⟩) (.refl h)
 have XL:m<=1000:=om
 (refine zq ?_;repeat ((first|rw[e1]);refine zq ?_))
 refine KC hA hg XL (fun q env=>?_) (fun XM=>?_) m 0 0 om om rfl (fun j j0 j1=>om)
 ·refine zq ?_
  obtain⟨i,i0,i1,i2⟩:=q;exact hQ _ _ (.inl ⟨.inr ⟨i,i0,om,i2⟩,rfl⟩) (.refl h)
 have nm:¬Hp g:=fun q=>by
  rcases q with q|⟨i,i0,i1,i2⟩
  ·omega
  ·have:=XM i i0 om;omega
 have hl:∀i:Int,0<=i->i<m->(gt g i).length<=1000:=fun i i0 i1=>by have:=XM i i0 i1;omega
 have bad:¬Good g B->∀h',Ext h h'->Q (.int .i64 8) h':=fun q h' x=>hQ _ _ (.inr (.inr ⟨nm,q,rfl⟩)) x
 (refine zq ?_;repeat ((first|rw[e1]);refine zq ?_))
 refine br (M=0) (by rw[dn hA]) (fun c0=>?_) (fun c0=>?_)<;>refine zc ?_
 ·refine zq ?_
  exact bad (fun q=>by have:=q.m1;omega) h (.refl h)
 obtain⟨b,o,rfl,hb,q0⟩:=hg.mj (i:=0) om om;obtain⟨sa,Un⟩:∃z,z=(gt cT 0).a:=⟨_,rfl⟩;obtain⟨sn,NZ⟩:∃z,z=(gt cT 0).n:=⟨_,rfl⟩;obtain⟨sc,Uo⟩:∃z,z=(gt cT 0).c:=⟨_,rfl⟩;rw[<-Un,<-NZ,<-Uo]at q0;have r0:rd h b (place o 0 1) 1 [.slice sa sn sc]:=aC hA q0;have Dd:(gt g 0).length=sn:=by rw[NZ];exact hg.vp om om
 have fF:=hl 0 om om;obtain⟨S,eS⟩:∃z:Int,z=sn:=⟨_,rfl⟩;have e3:ofNat sn=S:=by rw[eS];exact aL hA sn
 (refine zq ?_;repeat ((first|rw[e3]);refine zq ?_))
 refine br (S=0) (by rw[dn hA]) (fun cs=>?_) (fun cs=>?_)<;>refine zc ?_
 ·refine zq ?_
  exact bad (fun q=>by have:=q.n1;omega) h (.refl h)
 (refine zq ?_;repeat ((first|rw[e1]|rw[e2]);refine zq ?_))
 refine br (K≠M) (by rw[cB hA]) (fun ck=>?_) (fun ck=>?_)<;>refine zc ?_
 ·refine zq ?_
  exact bad (fun q=>by have:=q.len;omega) h (.refl h)
 (refine zq ?_;repeat ((first|rw[e1]);refine zq ?_))
 refine N6 hA aq hg hB om XL om hl hi (fun q env kn T h' x=>?_) (fun KB kn T h' x=>?_) m 0 0 h om om rfl (.refl h) (fun j j0 j1=>om)
 ·refine zq ?_
  obtain⟨i,i0,i1,i2⟩:=q;exact bad (fun w=>i2 ⟨w.row i i0 om,w.turn i i0 om,w.Ul i i0 om⟩) h' x
 ·refine zq ?_
  exact hQ _ _ (.inr (.inl ⟨nm,⟨om,om,om,fun i i0 i1=>(KB i i0 om).1,fun i i0 i1=>(KB i i0 om).2.2,fun i i0 i1=>(KB i i0 om).2.1⟩,rfl⟩)) x
theorem Fg(hI:sT F){h:af}(aq:h.low<=h.next){m n ac:Nat}{aa:Option Addr}{cT:List Hd}{g:List (List Int)}(hM:nR g m n)(hg:mP nC 1 h aa m cT g){Q:Value->af->Prop}
  (hQ:∀h' r s pa pc qa qc bs rb A,bM g m n r s A->dW h h' m (n+m) bs A->Vv h h' r (n+m) pa pc bs->FV h h' s m qa qc rb (fun y j=>A (r+y) (n+j))->(∀ad,pa=some ad->∀y,y<m->ad.block≠bs y)->Q (.tuple #[.slice pa r pc,.slice qa s qc]) h') :
  call 29 [.slice aa m ac] h Q:=
 KA hA hI aq rfl hM.n1 hM.n4 hM.m1 hM.m4 hg (fun y y0 y1=>by rw[<-hg.vp y0 y1];exact hM.row y y0 y1) hM.nine
  (fun h' r s pa pc qa qc bs rb A a1 a2 a3 a4 a5 a6 a7 a8 a9=>hQ h' r s pa pc qa qc bs rb A ⟨a1,a2,a3,a4,a5⟩ a6 a7 a8 a9)
theorem N7{x i:Nat}{X I:Int}(eX:X=x)(eI:I=i)(hx:x<16)(hi:i<4):arith .and .i64 (arith .shr .i64 X I) 1=if x.testBit i then 1 else 0:=by
 rw[M4 hA,M3 hA,eX,eI];have h1:x=0\/x=1\/x=2\/x=3\/x=4\/x=5\/x=6\/x=7\/x=8\/x=9\/x=10\/x=11\/x=12\/x=13\/x=14\/x=15:=om
 have h2:i=0\/i=1\/i=2\/i=3:=om
 rcases h1 with rfl|rfl|rfl|rfl|rfl|rfl|rfl|rfl|rfl|rfl|rfl|rfl|rfl|rfl|rfl|rfl<;>rcases h2 with rfl|rfl|rfl|rfl<;>rfl
theorem XO{h0 h1:af}(fF:h0.low<=h0.next){m n ac b s R C i:Nat}{aa:Option Addr}{cT:List Hd}{g:List (List Int)}(hM:nR g m n)(hg:mP nC 1 h0 aa m cT g){RI CI S MI I N:Int}(eS:S=s)(eR:RI=R)(eC:CI=C)(eI:I=i)(eN:N=n)(es:s=(Ext.bl i R).length)(hi:i<m)(hC:C<16){rc:Nat}{ra:Option Addr}(era:ra=(gt cT I).a){Q:Exit->SS->Prop}
  (hQ:∀(h':af) (P:Nat->Nat->Int) (kn:Nat) (T:List (Nat×List Value)),Sq h0 h' b s P->FX g n R C i n P->Q (.exit 2) ⟨[(0,.slice aa m ac),(1,.int .i64 RI),(2,.int .i64 CI),(7,.pointer (some ⟨b,0,none⟩)),(15,.int .i64 MI),(16,.int .i64 I)],kn,T,h'⟩) :
  ∀(d j k:Nat) (J K:Int) (h:af) (P:Nat->Nat->Int),n-j<=d->j<=n->J=j->k=(Ext.bl j C).length->K=k->Sq h0 h b s P->FX g n R C i j P->
   head 80 8 0 ⟨[(0,.slice aa m ac),(1,.int .i64 RI),(2,.int .i64 CI),(7,.pointer (some ⟨b,0,none⟩)),(9,.int .i64 K),(15,.int .i64 MI),(16,.int .i64 I),(27,.slice ra n rc),(28,.int .i64 N),(29,.int .i64 J)],0,[],h⟩ Q:=by
 intro d;have m4:=hM.m4;have n4:=hM.n4
 induction d with
 |zero=>
  intro j k J K h P hd hj eJ ek eK t p;refine hA.ar Try.func80 x80.2 (zc ?_);refine br (J<N) (by rw[aA hA]) (fun q=>om) (fun _=>?_)<;>refine zc ?_;obtain rfl:j=n:=om
  exact hQ h P _ _ t p
 |succ d ih=>
 intro j k J K h P hd hj eJ ek eK t p;by_cases cj:j<n
 rotate_left
 ·refine hA.ar Try.func80 x80.2 (zc ?_)
  refine br (J<N) (by rw[aA hA]) (fun q=>om) (fun _=>?_)<;>refine zc ?_;obtain rfl:j=n:=om
  exact hQ h P _ _ t p
 have gh:=hg.ext t.ext;have row:=gh.row I om om;rw[<-era]at row;have KD:(gt g I).length=n:=hM.row I om om;have tM:=row.len;rw[KD]at tM;rw[<-tM]at row;obtain⟨b2,o2,Zq,_,w⟩:=row.at (i:=J) om om;obtain⟨v,ev⟩:∃z,z=gt (gt g I) J:=⟨_,rfl⟩;have q1:=w 0 1 om om;rw[<-ev]at q1;cases ra with
 |none=>cases Zq
 |some ad=>
 cases Zq;have r1:rd h b2 (place o2 J 1) 1 [.int .i64 v]:=aC hA q1;obtain⟨B,eB⟩:∃z:Int,z=if C.testBit j then 1 else 0:=⟨_,rfl⟩
 have m1:=N7 hA eC eJ hC (show j<4 by omega);rw[<-eB]at m1;have kl:=Ext.MX j C;have sl:=Ext.MX i R;refine hA.ar Try.func80 x80.2 (zc ?_);refine br (J<N) (by rw[aA hA]) (fun _=>?_) (fun q=>om)<;>refine zc ?_
 (refine zq ?_;repeat ((first|rw[m1]);refine zq ?_))
 refine br (B=1) (by rw[dn hA]) (fun c=>?_) (fun c=>?_)<;>refine zc ?_
 ·have tb:C.testBit j=true:=by
   cases h:C.testBit j with
   |true=>rfl
   |false=>rw[h]at eB;simp at eB;omega
  obtain⟨h9,zN⟩:∃z,z=aG h 12:=⟨_,rfl⟩;have t9:=t.more (show Ext h h9 by rw[zN];exact au hA _ _);have r2:=jJ hA t9 eS;obtain⟨h2,w1,t2,_⟩:=CN hA t9 (i:=s) (j:=k) om om eS eK (v:=v);rw[<-zN];refine zq ?_;rw[aH hA om om,aH hA om om];refine ih (j+1) (k+1) (J+1) (K+1) h2 _ om om om (by rw[Ext.mN,if_pos tb,List.length_append,ek];rfl) om t2 ?_;have:=p.put tb;rw[<-es,<-ek,show Ext.el g i j=v by rw[ev,eI,eJ];rfl]at this;exact this
 ·have tb:C.testBit j=false:=by
   cases h:C.testBit j with
   |false=>rfl
   |true=>rw[h]at eB;simp at eB;omega
  refine zq ?_;rw[aH hA om om];exact ih (j+1) k (J+1) K h P om om om (by rw[Ext.mN,if_neg (by rw[tb];decide),ek]) eK t (p.skip tb)
theorem Uq{h0:af}(fF:h0.low<=h0.next){m n ac b R C:Nat}{aa:Option Addr}{cT:List Hd}{g:List (List Int)}(hM:nR g m n)(hg:mP nC 1 h0 aa m cT g){RI CI M:Int}(eR:RI=R)(eC:CI=C)(eM:M=m)(hR:R<16)(hC:C<16){Q:Exit->SS->Prop}
  (hQ:∀(h':af) (P:Nat->Nat->Int) (kn:Nat) (T:List (Nat×List Value)),Sq h0 h' b (Ext.bl m R).length P->FX g n R C m 0 P->Q (.exit 0) ⟨[(7,.pointer (some ⟨b,0,none⟩))],kn,T,h'⟩) :
  ∀(d i s:Nat) (I:Int) (h:af) (P:Nat->Nat->Int),m-i<=d->i<=m->I=i->s=(Ext.bl i R).length->Sq h0 h b s P->FX g n R C i 0 P->
   head 80 3 0 ⟨[(0,.slice aa m ac),(1,.int .i64 RI),(2,.int .i64 CI),(7,.pointer (some ⟨b,0,none⟩)),(15,.int .i64 M),(16,.int .i64 I)],0,[],h⟩ Q:=by
 intro d;have m4:=hM.m4;have n4:=hM.n4
 induction d with
 |zero=>
  intro i s I h P hd hi eI es t p;refine hA.ar Try.func80 x80.2 (zc ?_);refine br (I<M) (by rw[aA hA]) (fun q=>om) (fun _=>?_)<;>refine zc ?_;obtain rfl:i=m:=om
  exact hQ h P _ _ (es ▸ t) p
 |succ d ih=>
 intro i s I h P hd hi eI es t p;by_cases ci:i<m
 rotate_left
 ·refine hA.ar Try.func80 x80.2 (zc ?_)
  refine br (I<M) (by rw[aA hA]) (fun q=>om) (fun _=>?_)<;>refine zc ?_;obtain rfl:i=m:=om
  exact hQ h P _ _ (es ▸ t) p
 obtain⟨B,eB⟩:∃z:Int,z=if R.testBit i then 1 else 0:=⟨_,rfl⟩
 have m1:=N7 hA eR eI hR (show i<4 by omega);rw[<-eB]at m1;obtain⟨S,eS⟩:∃z:Int,z=s:=⟨_,rfl⟩;obtain⟨N,eN⟩:∃z:Int,z=n:=⟨_,rfl⟩;have sl:=Ext.MX i R;obtain⟨ab,ao,rfl,MD,q1⟩:=(hg.ext t.ext).mj (i:=I) om om;have row:=hg.row I om om;have KD:(gt g I).length=n:=hM.row I om om;have tM:=row.len;rw[KD]at tM;rw[<-tM]at q1;obtain⟨ra,era⟩:∃z,z=(gt cT I).a:=⟨_,rfl⟩;obtain⟨rc,Fe⟩:∃z,z=(gt cT I).c:=⟨_,rfl⟩;rw[<-era,<-Fe]at q1;have r1:rd h ab (place ao I 1) 1 [.slice ra n rc]:=aC hA q1;have e0:ofNat n=N:=by rw[eN];exact aL hA n
 refine hA.ar Try.func80 x80.2 (zc ?_);refine br (I<M) (by rw[aA hA]) (fun _=>?_) (fun q=>om)<;>refine zc ?_
 (refine zq ?_;repeat ((first|rw[m1]);refine zq ?_))
 refine br (B=0) (by rw[dn hA]) (fun c=>?_) (fun c=>?_)<;>refine zc ?_
 ·have tb:R.testBit i=false:=by
   cases h:R.testBit i with
   |false=>rfl
   |true=>rw[h]at eB;simp at eB;omega
  refine zq ?_;rw[aH hA om om];exact ih (i+1) s (I+1) h P om om om (by rw[Ext.mN,if_neg (by rw[tb];decide),es]) t (p.aaU tb)
 ·have tb:R.testBit i=true:=by
   cases h:R.testBit i with
   |true=>rfl
   |false=>rw[h]at eB;simp at eB;omega
  (refine zq ?_;repeat ((first|rw[e0]);refine zq ?_))
  refine XO hA (h1:=h) fF hM hg eS eR eC eI eN es ci hC era (fun h' P' kn T t' p'=>?_) n 0 0 0 0 h P om om rfl rfl rfl t p;have r2:=jJ hA t' eS;obtain⟨h2,w1,t2,_⟩:=t'.grow (S:=S+1) om;have w1:wr h' b (bT 0 0) [.int .i64 (S+1)] h2:=QF hA w1;refine zq ?_;rw[aH hA om om];refine zq ?_;rw[aH hA om om];exact ih (i+1) (s+1) (I+1) h2 P' om om om (by rw[Ext.mN,if_pos tb,List.length_append,es];rfl) t2 (p'.next tb)
theorem N8{h:af}(aq:h.low<=h.next){m n ac R C:Nat}{aa:Option Addr}{cT:List Hd}{g:List (List Int)}(hM:nR g m n)(hg:mP nC 1 h aa m cT g){RI CI:Int}(eR:RI=R)(eC:CI=C)(hR:R<16)(hC:C<16){Q:Value->af->Prop}
  (hQ:∀b h' P,Sq h h' b (Ext.bl m R).length P->(∀r c,r<(Ext.bl m R).length->c<(Ext.bl n C).length->P r c=Ext.el g (gt (Ext.bl m R) (r:Int)) (gt (Ext.bl n C) (c:Int)))->Q (.pointer (some ⟨b,0,none⟩)) h') :
  call 80 [.slice aa m ac,.int .i64 RI,.int .i64 CI] h Q:=by
 obtain⟨M,eM⟩:∃z:Int,z=m:=⟨_,rfl⟩;have e1:ofNat m=M:=by rw[eM];exact aL hA m
 refine hA.aU Try.func80 x80.2 (hA.alike _ _ _ rfl) aq (zc ?_)
 (refine zq ?_;repeat ((first|rw[e1]);refine zq ?_))
 rw[dB hA,cQ hA];refine Uq hA aq hM hg eR eC eM hR hC (fun h' P kn T t p=>?_) m 0 0 0 _ (fun _ _=>0) om om rfl rfl (Sq.new h) ⟨fun r c hr=>absurd hr (by show ¬r<0;omega),fun c hc=>absurd hc (by show ¬c<0;omega)⟩;refine zq ?_;exact hQ h.next h' P t p.up
theorem N9{m:Nat}(hm:m<=4){M:Int}(eM:M=m):arith .shl .i64 1 M=((2 ^ m:Nat):Int):=by
 rw[Sj hA,eM];have h1:m=0\/m=1\/m=2\/m=3\/m=4:=om
 rcases h1 with rfl|rfl|rfl|rfl|rfl<;>rfl
theorem XP{h0:af}(fF:h0.low<=h0.next){m n ac k R g0 p2:Nat}{aa:Option Addr}{cT:List Hd}{g:List (List Int)}(hM:nR g m n)(hg:mP nC 1 h0 aa m cT g){K RI P W:Int}(eK:K=k)(eR:RI=R)(hR:R<2 ^ m)(hk:k<=4)(lR:(Ext.bl m R).length=k)(Zu:p2=2 ^ n)(eP:P=p2){Q:Exit->SS->Prop}
  (hQ:∀(h':af) (gg:Nat) (G:Int),Ext h0 h'->G=gg->gg<=157464->(∀d:Nat,d∣gg↔d∣g0/\∀C,C<p2->(Ext.bl n C).length=k->d∣(Ext.Cw g k (Ext.bl m R) (Ext.bl n C)).natAbs)->Q (.exit 2) ⟨[(0,.slice aa m ac),(1,.int .i64 K),(5,.int .i64 G),(10,.int .i64 W),(11,.int .i64 RI)],0,[],h'⟩) :
  ∀(d C gg:Nat) (CI G:Int) (h:af),p2-C<=d->C<=p2->CI=C->Ext h0 h->G=gg->gg<=157464->(∀d:Nat,d∣gg↔d∣g0/\∀x,x<C->(Ext.bl n x).length=k->d∣(Ext.Cw g k (Ext.bl m R) (Ext.bl n x)).natAbs)->
   head 53 7 0 ⟨[(0,.slice aa m ac),(1,.int .i64 K),(5,.int .i64 G),(6,.int .i64 RI),(10,.int .i64 W),(11,.int .i64 RI),(23,.int .i64 P),(24,.int .i64 CI)],0,[],h⟩ Q:=by
 intro d;have m4:=hM.m4;have n4:=hM.n4;have pw:∀x,x<=4->2 ^ x<=16:=fun x hx=>Nat.pow_le_pow_right (n:=2) om hx
 have pn:=pw n n4;have pm:=pw m m4
 induction d with
 |zero=>
  intro C gg CI G h hd hC eC x eG hb Fh;refine hA.ar Try.func53 x53.2 (zc ?_);refine br (CI<P) (by rw[aA hA]) (fun q=>om) (fun _=>?_)<;>refine zc ?_;obtain rfl:C=p2:=om
  exact hQ h gg G x eG hb Fh
 |succ d ih=>
 intro C gg CI G h hd hC eC x eG hb Fh;by_cases cC:C<p2
 rotate_left
 ·refine hA.ar Try.func53 x53.2 (zc ?_)
  refine br (CI<P) (by rw[aA hA]) (fun q=>om) (fun _=>?_)<;>refine zc ?_;obtain rfl:C=p2:=om
  exact hQ h gg G x eG hb Fh
 have aq:=x.aD fF;have m1:conv .u64 CI=CI:=mO hA om om;have l4:=Ext.IE n C n4 om;refine hA.ar Try.func53 x53.2 (zc ?_);refine br (CI<P) (by rw[aA hA]) (fun _=>?_) (fun q=>om)<;>refine zc ?_
 (refine zq ?_;repeat ((first|rw[m1]);refine zq ?_))
 refine IK hA om om aq (fun v ev=>⟨v,rfl,?_⟩);rw[eC,Int.toNat_natCast,l4]at ev;refine zq ?_;refine br (v=K) (by rw[dn hA]) (fun c=>?_) (fun c=>?_)<;>refine zc ?_
 ·have lC:(Ext.bl n C).length=k:=om
  refine zq ?_;refine N8 hA aq hM (hg.ext x) eR eC om om (fun b h1 P1 t1 p1=>⟨_,_,rfl,?_⟩);rw[lR]at t1 p1;refine zq ?_;refine Ho hA aq t1 hk (fun i j hi hj=>by rw[p1 i j hi om];exact hM.nine _ _) (fun w h2 ew wb x2=>⟨w,rfl,?_⟩);have ed:Ext.dt k P1=Ext.Cw g k (Ext.bl m R) (Ext.bl n C):=by
   unfold Ext.Cw;exact Ext.fK (fun i j hi hj=>p1 i j hi om)
  rw[ed]at ew;refine zq ?_;refine II hA (x2.aD aq) (a:=G) (b:=w) om om (fun h3 x3=>⟨_,rfl,?_⟩);have eg2:Int.gcd G w=Nat.gcd gg (Ext.Cw g k (Ext.bl m R) (Ext.bl n C)).natAbs:=by
   rw[eG,ew];rfl
  rw[eg2];have wz:Nat.gcd gg (Ext.Cw g k (Ext.bl m R) (Ext.bl n C)).natAbs<=157464:=Ext.TU hb om;have Ur:∀d:Nat,d∣Nat.gcd gg (Ext.Cw g k (Ext.bl m R) (Ext.bl n C)).natAbs↔d∣g0/\∀x,x<C+1->(Ext.bl n x).length=k->d∣(Ext.Cw g k (Ext.bl m R) (Ext.bl n x)).natAbs:=fun d=>by
   rw[Nat.dvd_gcd_iff,Fh d];constructor
   ·rintro⟨⟨a1,a2⟩,a3⟩
    refine⟨a1,fun y hy ly=>?_⟩;by_cases e:y=C
    ·rw[e];exact a3
    ·exact a2 y om ly
   ·rintro⟨a1,a2⟩
    exact⟨⟨a1,fun y hy ly=>a2 y om ly⟩,a2 C om lC⟩
  generalize Nat.gcd gg (Ext.Cw g k (Ext.bl m R) (Ext.bl n C)).natAbs=g2 at *;obtain⟨G2,Zv⟩:∃z:Int,z=g2:=⟨_,rfl⟩;rw[<-Zv];refine zq ?_;rw[aH hA om om];exact ih (C+1) g2 (CI+1) G2 h3 om om om ((x.trans x2).trans x3) Zv wz Ur
 ·refine zq ?_
  rw[aH hA om om];refine ih (C+1) gg (CI+1) G h om om om x eG hb (fun d=>?_);rw[Fh d];refine and_congr Iff.rfl ⟨fun a y hy ly=>?_,fun a y hy ly=>a y om ly⟩;by_cases e:y=C
  ·rw[e]at ly;omega
  ·exact a y om ly
theorem Us{h0:af}(fF:h0.low<=h0.next){m n ac k pm:Nat}{aa:Option Addr}{cT:List Hd}{g:List (List Int)}(hM:nR g m n)(hg:mP nC 1 h0 aa m cT g){K W:Int}(eK:K=k)(hk:k<=4)(Zw:pm=2 ^ m)(eW:W=pm){Q:Exit->SS->Prop}
  (hQ:∀(h':af) (gg:Nat) (G:Int) (kn:Nat) (T:List (Nat×List Value)),Ext h0 h'->G=gg->(∀d:Nat,d∣gg↔∀R,R<pm->(Ext.bl m R).length=k->∀C,C<2 ^ n->(Ext.bl n C).length=k->d∣(Ext.Cw g k (Ext.bl m R) (Ext.bl n C)).natAbs)->Q (.exit 0) ⟨[(5,.int .i64 G)],kn,T,h'⟩) :
  ∀(d R gg:Nat) (RI G:Int) (h:af),pm-R<=d->R<=pm->RI=R->Ext h0 h->G=gg->gg<=157464->(∀d:Nat,d∣gg↔∀x,x<R->(Ext.bl m x).length=k->∀C,C<2 ^ n->(Ext.bl n C).length=k->d∣(Ext.Cw g k (Ext.bl m x) (Ext.bl n C)).natAbs)->
   head 53 3 0 ⟨[(0,.slice aa m ac),(1,.int .i64 K),(5,.int .i64 G),(10,.int .i64 W),(11,.int .i64 RI)],0,[],h⟩ Q:=by
 intro d;have m4:=hM.m4;have n4:=hM.n4;have pw:∀x,x<=4->2 ^ x<=16:=fun x hx=>Nat.pow_le_pow_right (n:=2) om hx
 have pm16:=pw m m4;have mpos:=hM.m1
 induction d with
 |zero=>
  intro R gg RI G h hd hR eR x eG hb Fh;refine hA.ar Try.func53 x53.2 (zc ?_);refine br (RI<W) (by rw[aA hA]) (fun q=>om) (fun _=>?_)<;>refine zc ?_;obtain rfl:R=pm:=om
  exact hQ h gg G _ _ x eG Fh
 |succ d ih=>
 intro R gg RI G h hd hR eR x eG hb Fh;by_cases cR:R<pm
 rotate_left
 ·refine hA.ar Try.func53 x53.2 (zc ?_)
  refine br (RI<W) (by rw[aA hA]) (fun q=>om) (fun _=>?_)<;>refine zc ?_;obtain rfl:R=pm:=om
  exact hQ h gg G _ _ x eG Fh
 have aq:=x.aD fF;have m1:conv .u64 RI=RI:=mO hA om om;have l4:=Ext.IE m R m4 om;obtain⟨N,eN⟩:∃z:Int,z=n:=⟨_,rfl⟩;have e0:ofNat n=N:=by rw[eN];exact aL hA n
 obtain⟨p2,Zu⟩:∃z:Nat,z=2 ^ n:=⟨_,rfl⟩;obtain⟨P,eP⟩:∃z:Int,z=p2:=⟨_,rfl⟩;have m2:arith .shl .i64 1 N=P:=by rw[eP,Zu];exact N9 hA hM.n4 eN
 obtain⟨ab,ao,rfl,MD,q1⟩:=(hg.ext x).mj (i:=0) om (by have:=hM.m1;omega);have row:=hg.row 0 om (by have:=hM.m1;omega);have KD:(gt g 0).length=n:=hM.row 0 om (by have:=hM.m1;omega);have tM:=row.len;rw[KD]at tM;rw[<-tM]at q1;obtain⟨ra,era⟩:∃z,z=(gt cT 0).a:=⟨_,rfl⟩;obtain⟨rc,Fe⟩:∃z,z=(gt cT 0).c:=⟨_,rfl⟩;rw[<-era,<-Fe]at q1;have r1:rd h ab (place ao 0 1) 1 [.slice ra n rc]:=aC hA q1;refine hA.ar Try.func53 x53.2 (zc ?_);refine br (RI<W) (by rw[aA hA]) (fun _=>?_) (fun q=>om)<;>refine zc ?_
 (refine zq ?_;repeat ((first|rw[m1]);refine zq ?_))
 refine IK hA om om aq (fun v ev=>⟨v,rfl,?_⟩);rw[eR,Int.toNat_natCast,l4]at ev;refine zq ?_;refine br (v≠K) (by rw[cB hA]) (fun c=>?_) (fun c=>?_)<;>refine zc ?_
 ·refine zq ?_
  rw[aH hA om om];refine ih (R+1) gg (RI+1) G h om om om x eG hb (fun d=>?_);rw[Fh d];refine⟨fun a y hy ly=>?_,fun a y hy ly=>a y om ly⟩;by_cases e:y=R
  ·rw[e]at ly;omega
  ·exact a y om ly
 ·have lR:(Ext.bl m R).length=k:=om
  (refine zq ?_;repeat ((first|rw[e0]|rw[m2]);refine zq ?_))
  refine XP hA fF hM hg eK eR om hk lR Zu eP (g0:=gg) (fun h' g2 G2 x' Zv wz Ur=>?_) p2 0 gg 0 G h om om rfl x eG hb (fun d=>⟨fun a=>⟨a,fun y hy=>om⟩,fun a=>a.1⟩);refine zq ?_;rw[aH hA om om];refine ih (R+1) g2 (RI+1) G2 h' om om om x' Zv wz (fun d=>?_);rw[Ur d,Fh d,<-Zu];constructor
  ·rintro⟨a1,a2⟩ y hy ly
   by_cases e:y=R
   ·rw[e];exact a2
   ·exact a1 y om ly
  ·intro a
   exact⟨fun y hy ly=>a y om ly,a R om lR⟩
theorem Hs{h:af}(aq:h.low<=h.next){m n ac k:Nat}{aa:Option Addr}{cT:List Hd}{g:List (List Int)}(hM:nR g m n)(hg:mP nC 1 h aa m cT g){K:Int}(eK:K=k)(hk:k<=4){Q:Value->af->Prop}
  (hQ:∀(v:Int) h',v=Ext.Dv g m n k->Ext h h'->Q (.int .i64 v) h'):call 53 [.slice aa m ac,.int .i64 K] h Q:=by
 obtain⟨M,eM⟩:∃z:Int,z=m:=⟨_,rfl⟩;have e1:ofNat m=M:=by rw[eM];exact aL hA m
 obtain⟨pm,Zw⟩:∃z:Nat,z=2 ^ m:=⟨_,rfl⟩;obtain⟨W,eW⟩:∃z:Int,z=pm:=⟨_,rfl⟩;have m2:arith .shl .i64 1 M=W:=by rw[eW,Zw];exact N9 hA hM.m4 eM
 refine hA.aU Try.func53 x53.2 (hA.alike _ _ _ rfl) aq (zc ?_)
 (refine zq ?_;repeat ((first|rw[e1]|rw[m2]);refine zq ?_))
 refine Us hA aq hM hg eK hk Zw eW (fun h' gg G kn T x eG Fh=>?_) pm 0 0 0 0 h om om rfl (.refl h) rfl om (fun d=>⟨fun _ y hy=>om,fun _=>Nat.dvd_zero d⟩);have:=Ext.W8 hM.m4 hM.n4 hk (fun d=>by rw[<-Zw];exact Fh d);refine zq ?_;exact hQ G h' (by rw[eG,this]) x
theorem QU{t e es:Nat}(hT:fx Try.prog t e es){h:af}{b n c n2 c2:Nat}{a2:Option Addr}{cells news:List Value}(hp:I8 h es b n c cells)(hn:n<=1000)(hs:Cells h a2 n2 es news)(fD:cells.all aE=true)(pG:news.all aE=true)(tv:n2<=100000){C:Option Addr->Nat->Nat->af->Prop}
  (hC:∀b' c' h',I8 h' es b' (n+n2) c' (cells++news)->h.next<=h'.next->(b'=b\/h.next<=b')->(∀j,j<h.next->j≠b->h'.m.get j=h.m.get j)->(∀h0,Ext h0 h->h0.next<=b->Ext h0 h'/\h0.next<=b')->C (some ⟨b',0,none⟩) (n+n2) c' h') :
  app [t,t] [.slice (some ⟨b,0,none⟩) n c,.slice a2 n2 c2] h C:=by
 rw[sz hA];obtain⟨b',c',h',h1,h2,h3,h4,h5,h6⟩:=Hq hT hT.vR (c2:=c2) hp hn hs fD pG tv;exact⟨_,_,_,h',h1,hC b' c' h' h2 h3 h4 h5 h6⟩
theorem Oa{h X:af}{b n c nb:Nat}{l:List Int}{v:Int}(hp:I8 h 1 b n c (l.flatMap nC))(hn:n<=1000)(eX:X=push h 1 [.int .i64 v])(FW:nb=next h){C:Option Addr->Nat->Nat->af->Prop}
  (hC:∀b' c' h',I8 h' 1 b' (n+1) c' ((l++[v]).flatMap nC)->(∀h0,Ext h0 h->h0.next<=b->Ext h0 h'/\h0.next<=b')->(∀j,j<h.next->j≠b->h'.m.get j=h.m.get j)->h.next<=h'.next->C (some ⟨b',0,none⟩) (n+1) c' h') :
  app [27,27] [.slice (some ⟨b,0,none⟩) n c,.slice (some ⟨nb,0,none⟩) 1 1] X C:=by
 rw[dB hA]at eX;rw[cQ hA]at FW;subst eX FW;have xp:Ext h (h.push 1 [.int .i64 v]):=Ext.push h 1 _;have hs:Cells (h.push 1 [.int .i64 v]) (some ⟨h.next,0,none⟩) 1 1 [.int .i64 v]:=⟨rfl,by simp[af.push],(bW.push h 1 [.int .i64 v]).aM (o:=0) (n:=1*1) (by show 0+1*1<=1;omega)⟩;have fg:=hp.lt;have nx:(h.push 1 [.int .i64 v]).next=h.next+1:=rfl;refine QU hA Pq (hp.ext xp) hn hs (mc zl l) rfl om (fun b' c' h' k1 k2 k3 k4 k5=>hC b' c' h' ?_ (fun h0 e0 hb=>k5 h0 (e0.trans xp) hb) (fun j j0 j1=>(k4 j om j1).trans (xp.get j j0)) om);rw[List.flatMap_append];exact k1
theorem QV{h0:af}(fF:h0.low<=h0.next){m n ac:Nat}{aa:Option Addr}{cT:List Hd}{g:List (List Int)}(hM:nR g m n)(hg:mP nC 1 h0 aa m cT g){Q:Exit->SS->Prop}
  (hQ:∀(h':af) (b k c r:Nat),k=r+1->nu g m n r->I8 h' 1 b k c ((Hr g m n k).flatMap nC)->h0.next<=b->Ext h0 h'->Q (.exit 0) ⟨[(3,.slice (some ⟨b,0,none⟩) k c)],0,[],h'⟩) :
  ∀(d k b c:Nat) (K:Int) (h:af),6-k<=d->1<=k->k<=m+1->k<=n+1->K=k->(∀x,x+1<k->Ext.Dv g m n (x+1)≠0)->I8 h 1 b k c ((Hr g m n k).flatMap nC)->h0.next<=b->Ext h0 h->
   head 27 3 0 ⟨[(0,.slice aa m ac),(3,.slice (some ⟨b,0,none⟩) k c),(4,.int .i64 K)],0,[],h⟩ Q:=by
 intro d;have m4:=hM.m4;have n4:=hM.n4;have m1:=hM.m1;have n1:=hM.n1;obtain⟨M,eM⟩:∃z:Int,z=m:=⟨_,rfl⟩;have e1:ofNat m=M:=by rw[eM];exact aL hA m
 obtain⟨N,eN⟩:∃z:Int,z=n:=⟨_,rfl⟩;have e2:ofNat n=N:=by rw[eN];exact aL hA n
 obtain⟨W,eW⟩:∃z:Int,z=if N<M then N else M:=⟨_,rfl⟩
 have e3:B8 M N=W:=by rw[eW,Ue hA]
 have hW:W=N/\N<=M\/W=M/\M<=N:=by rw[eW];split<;>omega
 have KD:(gt g 0).length=n:=hM.row 0 om om;have row:=hg.row 0 om om;have tM:=row.len;rw[KD]at tM
 induction d with
 |zero=>intro k b c K h hd k1 km kn;omega
 |succ d ih=>
 intro k b c K h hd k1 km kn eK hz B hb x;have aq:=x.aD fF;obtain⟨ab,ao,rfl,MD,q1⟩:=(hg.ext x).mj (i:=0) om om;rw[<-tM]at q1;obtain⟨ra,era⟩:∃z,z=(gt cT 0).a:=⟨_,rfl⟩;obtain⟨rc,Fe⟩:∃z,z=(gt cT 0).c:=⟨_,rfl⟩;rw[<-era,<-Fe]at q1;have r1:rd h ab (place ao 0 1) 1 [.slice ra n rc]:=aC hA q1;refine hA.ar Try.func27 x27.2 (zc ?_)
 (refine zq ?_;repeat ((first|rw[e1]|rw[e2]|rw[e3]);refine zq ?_))
 refine br (K<=W) (by rw[jO hA]) (fun ck=>?_) (fun ck=>?_)<;>refine zc ?_
 rotate_left
 ·exact hQ h b k c (k-1) om ⟨om,om,fun y hy=>hz y om,om⟩ B hb x
 refine zq ?_;refine Hs hA aq hM (hg.ext x) eK om (fun v h1 ev x1=>⟨v,rfl,?_⟩);refine zq ?_;refine br (v=0) (by rw[dn hA]) (fun cz=>?_) (fun cz=>?_)<;>refine zc ?_
 ·refine hQ h1 b k c (k-1) om ⟨om,om,fun y hy=>hz y om,?_⟩ (B.ext x1) hb (x.trans x1)
  rw[show k-1+1=k by omega];omega
 obtain⟨nb,FW⟩:∃z,z=next h1:=⟨_,rfl⟩;obtain⟨X,eX⟩:∃z,z=push h1 1 [.int .i64 v]:=⟨_,rfl⟩;refine zc ?_;rw[<-FW,<-eX];refine zq ?_;refine Oa hA (B.ext x1) om eX FW (fun b' c' h' B2 k2 k3 k4=>?_);obtain⟨x2,wz⟩:=k2 h0 (x.trans x1) hb;have ed:Hr g m n k++[v]=Hr g m n (k+1):=by
  unfold Hr;rw[iM,ev]
 rw[ed]at B2;obtain⟨Zx,ek1⟩:∃z,z=k+1:=⟨_,rfl⟩;rw[<-ek1]at B2 ⊢;refine zq ?_;rw[aH hA om om];refine ih Zx b' c' (K+1) h' om om om om om (fun y hy=>?_) B2 wz x2;by_cases e:y+1=k
 ·rw[e];omega
 ·exact hz y om
theorem v7{h:af}(aq:h.low<=h.next){m n ac:Nat}{aa:Option Addr}{cT:List Hd}{g:List (List Int)}(hM:nR g m n)(hg:mP nC 1 h aa m cT g){Q:Value->af->Prop}
  (hQ:∀(h':af) (b k c r:Nat),k=r+1->nu g m n r->I8 h' 1 b k c ((Hr g m n k).flatMap nC)->Ext h h'->Q (.slice (some ⟨b,0,none⟩) k c) h'):call 27 [.slice aa m ac] h Q:=by
 obtain⟨nb,FW⟩:∃z,z=next h:=⟨_,rfl⟩;obtain⟨X,eX⟩:∃z,z=push h 1 [.int .i64 1]:=⟨_,rfl⟩;refine hA.aU Try.func27 x27.2 (hA.alike _ _ _ rfl) aq (zc ?_);rw[<-FW,<-eX];refine zq ?_;rw[dB hA]at eX;rw[cQ hA]at FW;have xp:Ext h X:=by rw[eX];exact Ext.push h 1 _
 have B:I8 X 1 nb 1 1 ((Hr g m n 1).flatMap nC):=by
  have:(Hr g m n 1).flatMap nC=[.int .i64 1]:=by
   unfold Hr iK;simp[List.range_succ,nC,Ext.ID]
  rw[this,eX,FW];exact⟨bW.push h 1 _,by simp[af.push],rfl,.inl rfl⟩
 refine QV hA aq hM hg (fun h' b k c r ek ir B' hb x=>?_) 5 1 nb 1 1 X om om om om rfl (fun y hy=>om) B om xp;refine zq ?_;exact hQ h' b k c r ek ir B' x
