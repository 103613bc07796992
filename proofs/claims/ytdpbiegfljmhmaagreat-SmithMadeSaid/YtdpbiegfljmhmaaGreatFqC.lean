import Derived.Test.YtdpbiegfljmhmaaGreatSlA
import Derived.Test.YtdpbiegfljmhmaaGreatSmS
import Derived.Test.YtdpbiegfljmhmaaGreatDetF
import Derived.Test.YtdpbiegfljmhmaaGreatSimD
set_option linter.unusedSimpArgs false
set_option linter.unusedVariables false
namespace Go.Proofs.YtdpbiegfljmhmaaGreat
open Go.cS
set_option maxRecDepth 100000
structure rV(g:List (List Int))(m n:Nat):Prop where
 m1:1<=m
 m4:m<=4
 n1:1<=n
 n4:n<=4
 len:g.length=m
 row:∀i:Int,0<=i->i<m->(gt g i).length=n
 nine:∀i j,(gt (gt g i) j).natAbs<=9
theorem BU{α:Type}[Inhabited α](l:List α){i:Int}(h:¬(0<=i/\i<l.length))(h0:0<=i):gt l i=default:=by
 unfold gt;rw[List.getD_eq_getElem?_getD,List.getElem?_eq_none om];rfl
theorem Good.Zy{g:List (List Int)}{B:List Fc}(h:Good g B)(hm:¬Gj g):∃m n,rV g m n:=by
 have m1:=h.m1;have n1:=h.n1;have m4:g.length<=4:=Nat.le_of_not_lt (fun q=>hm (.inl q));have n4:(gt g 0).length<=4:=Nat.le_of_not_lt (fun q=>hm (.inr ⟨0,om,om,q⟩));refine⟨g.length,(gt g 0).length,m1,m4,n1,n4,rfl,h.row,fun i j=>?_⟩;have neg:∀{α:Type} [Inhabited α] (l:List α) (i:Int),i<0->gt l i=gt l 0:=fun l i q=>by unfold gt;rw[show i.toNat=0 by omega];rfl
 have key:∀i j:Int,0<=i->0<=j->(gt (gt g i) j).natAbs<=9:=fun i j i0 j0=>by
  by_cases ci:i<g.length
  ·by_cases cj:j<(gt g i).length
   ·have:=h.SL i i0 ci j j0 cj;omega
   ·rw[BU _ om j0];decide
  ·rw[BU g om i0]
   show(gt ([]:List Int) j).natAbs<=9;rw[BU ([]:List Int) (fun q=>by have:=q.2;simp at this;omega) j0];decide
 by_cases ci:0<=i
 ·by_cases cj:0<=j
  ·exact key i j ci cj
  ·rw[neg _ j om];exact key i 0 ci om
 ·rw[neg _ i om]
  by_cases cj:0<=j
  ·exact key 0 j om cj
  ·rw[neg _ j om];exact key 0 0 om om
structure bJ(g:List (List Int))(m n r s:Nat)(A:Nat->Ext.aQ):Prop where
 O7:Ext.Ft (n+m) m A
 Ck:Ext.kM (n+m) m A (gM g n)
 sum:r+s=m
 lo:∀y,y<r->Ext.aj (n+m) (A y)<n
 hi:∀y,r<=y->y<m->n<=Ext.aj (n+m) (A y)
structure EM(g:List (List Int))(n R C i j:Nat)(M:Nat->Nat->Int):Prop where
 up:∀r c,r<(Ext.bl i R).length->c<(Ext.bl n C).length->M r c=Ext.el g (gt (Ext.bl i R) (r:Int)) (gt (Ext.bl n C) (c:Int))
 cur:∀c,c<(Ext.bl j C).length->M (Ext.bl i R).length c=Ext.el g i (gt (Ext.bl j C) (c:Int))
theorem EM.skip{g:List (List Int)}{n R C i j:Nat}{M:Nat->Nat->Int}(t:EM g n R C i j M)(h:C.testBit j=false):EM g n R C i (j+1) M:=by
 refine⟨t.up,fun c hc=>?_⟩;rw[Ext.ml,if_neg (by rw[h];decide)]at hc ⊢;exact t.cur c hc
theorem EM.put{g:List (List Int)}{n R C i j:Nat}{M:Nat->Nat->Int}(t:EM g n R C i j M)(h:C.testBit j=true):EM g n R C i (j+1) (th M (Ext.bl i R).length (Ext.bl j C).length (Ext.el g i j)):=by
 refine⟨fun r c hr hc=>?_,fun c hc=>?_⟩
 ·unfold th;rw[if_neg om];exact t.up r c hr hc
 ·rw[Ext.ml,if_pos h]at hc ⊢
  rw[List.length_append,List.length_singleton]at hc;rw[Ext.HK _ _ om];unfold th;by_cases e:c<(Ext.bl j C).length
  ·rw[if_neg om,if_pos e];exact t.cur c e
  ·rw[if_pos om,if_neg e]
theorem EM.next{g:List (List Int)}{n R C i:Nat}{M:Nat->Nat->Int}(t:EM g n R C i n M)(h:R.testBit i=true):EM g n R C (i+1) 0 M:=by
 refine⟨fun r c hr hc=>?_,fun c hc=>absurd hc (by show ¬c<0;omega)⟩;rw[Ext.ml,if_pos h]at hr ⊢;rw[List.length_append,List.length_singleton]at hr;rw[Ext.HK _ _ om];by_cases e:r<(Ext.bl i R).length
 ·rw[if_pos e];exact t.up r c e hc
 ·rw[if_neg e,show r=(Ext.bl i R).length by omega];exact t.cur c hc
theorem EM.Zz{g:List (List Int)}{n R C i:Nat}{M:Nat->Nat->Int}(t:EM g n R C i 0 M)(h:R.testBit i=false):EM g n R C (i+1) 0 M:=by
 refine⟨fun r c hr hc=>?_,fun c hc=>absurd hc (by show ¬c<0;omega)⟩;rw[Ext.ml,if_neg (by rw[h];decide)]at hr ⊢;exact t.up r c hr hc
theorem SM(a b:Int):rq a b=Rat.divInt a b:=by unfold rq;rw[Rat.divInt_eq_div]
theorem mm{a b:Int}(ha:a.natAbs<=1000000000000000000)(hb:b.natAbs<=1000000000000000000)(h0:b≠0):fits (rq a b):=by
 unfold fits;rw[SM,Rat.num_divInt,Rat.den_divInt,if_neg h0];have h1:(b.sign*a / (Int.gcd b a:Int)).natAbs<=a.natAbs:=by
  refine Nat.le_trans (Int.natAbs_ediv_le_natAbs _ _) ?_;rw[Int.natAbs_mul];have:b.sign.natAbs<=1:=by
   rcases Int.lt_trichotomy b 0 with q|q|q
   ·rw[Int.sign_eq_neg_one_of_neg q];decide
   ·omega
   ·rw[Int.sign_eq_one_of_pos q];decide
  calc b.sign.natAbs*a.natAbs<=1*a.natAbs:=Nat.mul_le_mul_right _ this
   _=a.natAbs:=Nat.one_mul _
 have h2:b.natAbs / Int.gcd b a<=b.natAbs:=Nat.div_le_self _ _;omega
theorem pX{b:Int}(h:b≠0):(b:Rat)≠0:=fun q=>h (Rat.intCast_eq_zero_iff.1 q)
theorem pY{a b d:Int}(hd:d≠0):rq a d+rq b d=rq (a+b) d:=by
 have:=pX hd;unfold rq;rw[Rat.intCast_add];grind
theorem BV{a b d:Int}(hd:d≠0):rq a d-rq b d=rq (a-b) d:=by
 have:=pX hd;unfold rq;rw[Rat.intCast_sub];grind
theorem uz(l a d:Int):(l:Rat)*rq a d=rq (l*a) d:=by
 unfold rq;rw[Rat.intCast_mul];grind
theorem jt{l d:Int}(hd:d≠0):(l:Rat)=rq (l*d) d:=by
 have:=pX hd;unfold rq;rw[Rat.intCast_mul];grind
theorem wh{a d c:Int}(hc:c≠0):rq (a*c) (d*c)=rq a d:=by
 have:=pX hc;unfold rq;rw[Rat.intCast_mul,Rat.intCast_mul];by_cases h:(d:Rat)=0
 ·rw[h];simp[Rat.div_def,Rat.inv_zero]
 ·grind
theorem MD{a b d e:Int}(hd:d≠0)(he:e≠0):rq a d=rq b e↔a*e=b*d:=by
 have h1:=pX hd;have h2:=pX he;rw[<-Rat.intCast_inj (a:=a*e),Rat.intCast_mul,Rat.intCast_mul];unfold rq;constructor<;>intro h<;>grind
theorem ME{a b d:Int}(hd:d≠0):rq a d=rq b d↔a=b:=by
 rw[MD hd hd];exact⟨fun h=>Int.eq_of_mul_eq_mul_right hd h,fun h=>by rw[h]⟩
theorem Pw{n d z D:Int}(h:gA n d (rq z D))(hD:D≠0):n*D=z*d:=by
 have h1:=h.val;have hd:=h.den;exact(MD (a:=n) (b:=z) om hD).1 h1.symm
theorem wi{n d z D:Int}(h:gA n d (rq z D))(hD:0<D):n / d=z / D:=by
 have hd:=h.den;have hc:=Pw h om;rw[<-Int.mul_ediv_mul_of_pos_left n d hD,hc,Int.mul_comm d D,Int.mul_ediv_mul_of_pos_left z D om]
theorem SN{n d m e:Int}{p q:Rat}(h:gA n d p)(k:gA m e q):(n=m/\d=e)↔p=q:=by
 constructor
 ·rintro⟨rfl,rfl⟩;exact h.uniq k
 ·rintro rfl;exact⟨h.1.trans k.1.symm,h.2.1.trans k.2.1.symm⟩
structure vG(g:List (List Int))(m n r:Nat):Prop where
 lm:r<=m
 ln:r<=n
 nz:∀k,k<r->Ext.Dv g m n (k+1)≠0
 fin:r=m\/r=n\/Ext.Dv g m n (r+1)=0
theorem vG.uniq{g:List (List Int)}{m n r s:Nat}(h:vG g m n r)(k:vG g m n s):r=s:=by
 have one:∀{r s:Nat},vG g m n r->vG g m n s->¬r<s:=fun {r s} h k q=>by
  rcases h.fin with e|e|e
  ·have:=k.lm;omega
  ·have:=k.ln;omega
  ·exact k.nz r q e
 have:=one h k;have:=one k h;omega
def MF(g:List (List Int))(m n:Nat)(k:Nat):List Int:=kW (fun x=>(Ext.Dv g m n x:Int)) k
variable{F:aZ}{call head arith a0 b0 dH d0 conv neg f0 uf ofNat k0 place l0 nz o0 rd wr push next p0 s0 u0 v0 w0 z0 c1 f1 g1 o1 s1 u1 v1 fresh az aG wrote bX lt ne z1 c2 f2 yn l2 s2 u2 v2 z2 c3:_}(hA:AP F ⟨call,head,arith,a0,b0,dH,d0,conv,neg,f0,uf,ofNat,k0,place,l0,nz,o0,rd,wr,push,next,p0,s0,u0,v0,w0,z0,c1,f1,g1,o1,s1,u1,v1,fresh,az,aG,wrote,bX,lt,ne,z1,c2,f2,yn,l2,s2,u2,v2,z2,c3⟩)
include hA
theorem MG{h:af}{m ac k bc:Nat}{aa ba:Option Addr}{dA:List Hd}{g:List (List Int)}(hg:zb nC 1 h aa m dA g)(hm:m<=1000){M:Int}(eM:M=m){Q:Exit->SS->Prop}
  (fO:(∃i:Int,0<=i/\i<m/\4<(gt g i).length)->∀env,Q .ret ⟨(2,.int .i64 4) :: env,1,[(0,[.slice aa m ac,.slice ba k bc])],h⟩)
  (cW:(∀i:Int,0<=i->i<m->(gt g i).length<=4)->Q (.exit 0) ⟨[(1,.pointer (some ⟨0,0,some 0⟩))],1,[(0,[.slice aa m ac,.slice ba k bc])],h⟩) :
  ∀(d i:Nat) (I:Int),m-i<=d->i<=m->I=i->(∀j:Int,0<=j->j<i->(gt g j).length<=4)->
   head 25 4 1 ⟨[(1,.pointer (some ⟨0,0,some 0⟩)),(16,.slice aa m ac),(17,.int .i64 M),(18,.int .i64 I)],1,[(0,[.slice aa m ac,.slice ba k bc])],h⟩ Q:=by
 refine oG (fun d ih=>?_);intro i I hd hi eI hp;by_cases ci:i<m
 rotate_left
 ·refine hA.ar Tryz.func25 x25.2 (zc ?_)
  refine br (I<M) (by rw[aA hA]) (fun q=>om) (fun _=>?_)<;>refine zc ?_;exact cW (fun j j0 j1=>hp j j0 om)
 obtain⟨d,rfl⟩:∃k,d=k+1:=⟨d-1,om⟩
 replace ih:=ih d rfl
 obtain⟨b,o,rfl,hb,q1⟩:=hg.mG (i:=I) om om;obtain⟨ra,era⟩:∃z,z=(gt dA I).a:=⟨_,rfl⟩;obtain⟨rn,EN⟩:∃z,z=(gt dA I).n:=⟨_,rfl⟩;obtain⟨rc,vH⟩:∃z,z=(gt dA I).c:=⟨_,rfl⟩;rw[<-era,<-EN,<-vH]at q1;have r1:rd h b (place o I 1) 1 [.slice ra rn rc]:=aD hA q1;have Xw:(gt g I).length=rn:=by rw[EN];exact hg.uA om om
 obtain⟨R,eR⟩:∃z:Int,z=rn:=⟨_,rfl⟩;have e1:ofNat rn=R:=by rw[eR];exact aI hA rn
 refine hA.ar Tryz.func25 x25.2 (zc ?_);refine br (I<M) (by rw[aA hA]) (fun _=>?_) (fun q=>om)<;>refine zc ?_
 (refine zq ?_;repeat ((first|rw[e1]);refine zq ?_))
 refine br (4<R) (by rw[dc hA]) (fun c4=>?_) (fun c4=>?_)<;>refine zc ?_
 ·refine zq ?_
  exact fO ⟨I,om,om,om⟩ _
 refine zq ?_;rw[aF hA om om];exact ih (i+1) (I+1) om om om (fun j j0 j1=>by
  by_cases e:j=I
  ·rw[e];omega
  ·exact hp j j0 om)
theorem SO{h:af}{m ac k bc rn rc:Nat}{aa ba ra:Option Addr}{row:List Int}{J0 M:Int}(hr:0<rn->Rows nC 1 h ra rn row)(hn:rn<=1000){R:Int}(eR:R=rn){Q:Exit->SS->Prop}
  (fO:(∃j:Int,0<=j/\j<rn/\¬(-9<=gt row j/\gt row j<=9))->∀env,Q .ret ⟨(2,.int .i64 8) :: env,1,[(0,[.slice aa m ac,.slice ba k bc])],h⟩)
  (cW:(∀j:Int,0<=j->j<rn->-9<=gt row j/\gt row j<=9)->Q (.exit 4) ⟨[(1,.pointer (some ⟨0,0,some 0⟩)),(48,.slice aa m ac),(49,.int .i64 M),(50,.int .i64 J0)],1,[(0,[.slice aa m ac,.slice ba k bc])],h⟩) :
  ∀(d i:Nat) (I:Int),rn-i<=d->i<=rn->I=i->(∀j:Int,0<=j->j<i->-9<=gt row j/\gt row j<=9)->
   head 25 17 1 ⟨[(1,.pointer (some ⟨0,0,some 0⟩)),(48,.slice aa m ac),(49,.int .i64 M),(50,.int .i64 J0),(62,.slice ra rn rc),(63,.int .i64 R),(64,.int .i64 I)],1,[(0,[.slice aa m ac,.slice ba k bc])],h⟩ Q:=by
 refine oG (fun d ih=>?_);intro i I hd hi eI hp;by_cases ci:i<rn
 rotate_left
 ·refine hA.ar Tryz.func25 x25.2 (zc ?_)
  refine br (I<R) (by rw[aA hA]) (fun q=>om) (fun _=>?_)<;>refine zc ?_;exact cW (fun j j0 j1=>hp j j0 om)
 obtain⟨d,rfl⟩:∃k,d=k+1:=⟨d-1,om⟩
 replace ih:=ih d rfl
 obtain⟨b,o,rfl,hb,q1⟩:=(hr om).at (i:=I) om om;have q2:=q1 0 1 om om;obtain⟨x,ex⟩:∃z,z=gt row I:=⟨_,rfl⟩;rw[<-ex]at q2;have r1:rd h b (place o I 1) 1 [.int .i64 x]:=aD hA q2;refine hA.ar Tryz.func25 x25.2 (zc ?_);refine br (I<R) (by rw[aA hA]) (fun _=>?_) (fun q=>om)<;>refine zc ?_;refine zq ?_;refine br (x < -9) (by rw[aA hA]) (fun c4=>?_) (fun c4=>?_)<;>refine zc ?_
 ·refine zq ?_
  exact fO ⟨I,om,om,om⟩ _
 refine zq ?_;refine br (9<x) (by rw[dc hA]) (fun c5=>?_) (fun c5=>?_)<;>refine zc ?_
 ·refine zq ?_
  exact fO ⟨I,om,om,om⟩ _
 refine zq ?_;rw[aF hA om om];exact ih (i+1) (I+1) om om om (fun j j0 j1=>by
  by_cases e:j=I
  ·rw[e,<-ex];omega
  ·exact hp j j0 om)
theorem Px{h:af}{m ac k bc:Nat}{aa ba:Option Addr}{dA:List Hd}{g:List (List Int)}(hg:zb nC 1 h aa m dA g)(m0:0<m)(hm:m<=1000)(hl:∀i:Int,0<=i->i<m->(gt g i).length<=1000){M:Int}(eM:M=m){Q:Exit->SS->Prop}
  (fO:(∃i:Int,0<=i/\i<m/\¬((gt g i).length=(gt g 0).length/\∀j:Int,0<=j->j<(gt g i).length->-9<=gt (gt g i) j/\gt (gt g i) j<=9))->∀env,Q .ret ⟨(2,.int .i64 8) :: env,1,[(0,[.slice aa m ac,.slice ba k bc])],h⟩)
  (cW:(∀i:Int,0<=i->i<m->(gt g i).length=(gt g 0).length/\∀j:Int,0<=j->j<(gt g i).length->-9<=gt (gt g i) j/\gt (gt g i) j<=9)->Q (.exit 2) ⟨[(1,.pointer (some ⟨0,0,some 0⟩))],1,[(0,[.slice aa m ac,.slice ba k bc])],h⟩) :
  ∀(d i:Nat) (I:Int),m-i<=d->i<=m->I=i->(∀j:Int,0<=j->j<i->(gt g j).length=(gt g 0).length/\∀x:Int,0<=x->x<(gt g j).length->-9<=gt (gt g j) x/\gt (gt g j) x<=9)->
   head 25 12 1 ⟨[(1,.pointer (some ⟨0,0,some 0⟩)),(48,.slice aa m ac),(49,.int .i64 M),(50,.int .i64 I)],1,[(0,[.slice aa m ac,.slice ba k bc])],h⟩ Q:=by
 refine oG (fun d ih=>?_);intro i I hd hi eI hp;by_cases ci:i<m
 rotate_left
 ·refine hA.ar Tryz.func25 x25.2 (zc ?_)
  refine br (I<M) (by rw[aA hA]) (fun q=>om) (fun _=>?_)<;>refine zc ?_;exact cW (fun j j0 j1=>hp j j0 om)
 obtain⟨d,rfl⟩:∃k,d=k+1:=⟨d-1,om⟩
 replace ih:=ih d rfl
 obtain⟨b,o,rfl,hb,q1⟩:=hg.mG (i:=I) om om;obtain⟨b',o',e',_,q0⟩:=hg.mG (i:=0) om om;cases e';obtain⟨ra,era⟩:∃z,z=(gt dA I).a:=⟨_,rfl⟩;obtain⟨rn,EN⟩:∃z,z=(gt dA I).n:=⟨_,rfl⟩;obtain⟨rc,vH⟩:∃z,z=(gt dA I).c:=⟨_,rfl⟩;obtain⟨sa,SP⟩:∃z,z=(gt dA 0).a:=⟨_,rfl⟩;obtain⟨sn,MH⟩:∃z,z=(gt dA 0).n:=⟨_,rfl⟩;obtain⟨sc,SQ⟩:∃z,z=(gt dA 0).c:=⟨_,rfl⟩;rw[<-era,<-EN,<-vH]at q1;rw[<-SP,<-MH,<-SQ]at q0;have r1:rd h b (place o I 1) 1 [.slice ra rn rc]:=aD hA q1;have r0:rd h b (place o 0 1) 1 [.slice sa sn sc]:=aD hA q0;have row:=(hg.row I om om).2;rw[<-era,<-EN]at row;have Xw:(gt g I).length=rn:=by rw[EN];exact hg.uA om om
 have Cj:(gt g 0).length=sn:=by rw[MH];exact hg.uA om om
 have y8:=hl I om om;have fw:=hl 0 om om;obtain⟨R,eR⟩:∃z:Int,z=rn:=⟨_,rfl⟩;have e1:ofNat rn=R:=by rw[eR];exact aI hA rn
 obtain⟨S,eS⟩:∃z:Int,z=sn:=⟨_,rfl⟩;have e2:ofNat sn=S:=by rw[eS];exact aI hA sn
 refine hA.ar Tryz.func25 x25.2 (zc ?_);refine br (I<M) (by rw[aA hA]) (fun _=>?_) (fun q=>om)<;>refine zc ?_
 (refine zq ?_;repeat ((first|rw[e1]|rw[e2]);refine zq ?_))
 refine br (R≠S) (by rw[bT hA]) (fun c4=>?_) (fun c4=>?_)<;>refine zc ?_
 ·refine zq ?_
  exact fO ⟨I,om,om,fun q=>c4 (by have:=q.1;omega)⟩ _
 (refine zq ?_;repeat ((first|rw[e1]);refine zq ?_))
 refine SO hA row om eR (fun c env=>?_) (fun c=>?_) rn 0 0 om om rfl (fun j j0 j1=>om)
 ·obtain⟨j,j0,j1,j2⟩:=c
  exact fO ⟨I,om,om,fun q=>j2 (q.2 j j0 om)⟩ env
 refine zq ?_;rw[aF hA om om];exact ih (i+1) (I+1) om om om (fun j j0 j1=>by
  by_cases e:j=I
  ·rw[e];exact⟨om,fun x x0 x1=>c x x0 om⟩
  ·exact hp j j0 om)
theorem MJ{h0:af}(fw:h0.low<=h0.next){k bc:Nat}{ba:Option Addr}{B:List Fc}{cells:List Value}(hB:Rows fC 2 h0 ba k B)(hk:k<=1000)(hi:∀i:Int,0<=i->i<k->i64 (gt B i).n/\i64 (gt B i).d){K:Int}(eK:K=k){Q:Exit->SS->Prop}
  (fO:(∃i:Int,0<=i/\i<k/\¬(ct (gt B i)/\(gt B i).d<=60))->∀env kn T h',Ext h0 h'->Q .ret ⟨(2,.int .i64 8) :: env,kn,T,h'⟩)
  (cW:(∀i:Int,0<=i->i<k->ct (gt B i)/\(gt B i).d<=60)->∀kn T h',Ext h0 h'->Q (.exit 6) ⟨[],kn,T,h'⟩) :
  ∀(d i:Nat) (I:Int) (h:af),k-i<=d->i<=k->I=i->Ext h0 h->(∀j:Int,0<=j->j<i->ct (gt B j)/\(gt B j).d<=60)->
   head 25 24 1 ⟨[(77,.slice ba k bc),(78,.int .i64 K),(79,.int .i64 I)],1,[(0,cells)],h⟩ Q:=by
 refine oG (fun d ih=>?_);intro i I h hd zZ eI x hp;by_cases ci:i<k
 rotate_left
 ·refine hA.ar Tryz.func25 x25.2 (zc ?_)
  refine br (I<K) (by rw[aA hA]) (fun q=>om) (fun _=>?_)<;>refine zc ?_;exact cW (fun j j0 j1=>hp j j0 om) _ _ h x
 obtain⟨d,rfl⟩:∃k,d=k+1:=⟨d-1,om⟩
 replace ih:=ih d rfl
 have aq:h.low<=h.next:=x.aC fw;obtain⟨b,o,rfl,hb,q1⟩:=(hB.ext x).at (i:=I) om om;have q2:=q1 0 2 om om;obtain⟨y,ey⟩:∃z,z=gt B I:=⟨_,rfl⟩;obtain⟨i1,i2⟩:=hi I om om;rw[<-ey]at q2 i1 i2;obtain⟨yn,yd⟩:=y;have r1:rd h b (place o I 2) 2 [.int .i64 yn,.int .i64 yd]:=aD hA q2;refine hA.ar Tryz.func25 x25.2 (zc ?_);refine br (I<K) (by rw[aA hA]) (fun _=>?_) (fun q=>om)<;>refine zc ?_;refine zq ?_;refine HO hA (x:=⟨yn,yd⟩) aq i1 i2 (fun t h1 ht x1=>⟨t,rfl,?_⟩);have x2:=x.trans x1;refine zq ?_;cases t with
 |false=>
  have nt:¬ct ⟨yn,yd⟩:=fun q=>by have:=ht.2 q;cases this
  rw[show dH false=true by rw[bZ hA];rfl];refine zq ?_;exact fO ⟨I,om,om,fun q=>nt (by rw[ey];exact q.1)⟩ _ _ _ h1 x2
 |true=>
  have tt:ct ⟨yn,yd⟩:=ht.1 rfl;rw[show dH true=false by rw[bZ hA];rfl];refine zq ?_;refine br (60<yd) (by rw[dc hA]) (fun c=>?_) (fun c=>?_)<;>refine zc ?_
  ·refine zq ?_
   exact fO ⟨I,om,om,fun q=>by rw[<-ey]at q;have:=q.2;simp only at this;omega⟩ _ _ _ h1 x2
  ·refine zq ?_
   rw[aF hA om om];exact ih (i+1) (I+1) h1 om om om x2 (fun j j0 j1=>by
    by_cases e:j=I
    ·rw[e,<-ey];exact⟨tt,by show yd<=60;omega⟩
    ·exact hp j j0 om)
theorem yF{h:af}(aq:h.low<=h.next){m ac k bc:Nat}{aa ba:Option Addr}{dA:List Hd}{g:List (List Int)}{B:List Fc}(hg:zb nC 1 h aa m dA g)(hB:Rows fC 2 h ba k B)(hi:∀i:Int,0<=i->i<k->i64 (gt B i).n/\i64 (gt B i).d){Q:Value->af->Prop}
  (hQ:∀e h',ju g B e->Ext h h'->Q (.int .i64 e) h'):call 25 [.agg #[.slice aa m ac,.slice ba k bc]] h Q:=by
 have hgm:=hg.len;have hbk:=hB.len;obtain⟨M,eM⟩:∃z:Int,z=m:=⟨_,rfl⟩;have e1:ofNat m=M:=by rw[eM];exact aI hA m
 obtain⟨K,eK⟩:∃z:Int,z=k:=⟨_,rfl⟩;have e2:ofNat k=K:=by rw[eK];exact aI hA k
 refine hA.aN Tryz.func25 x25.2 (hA.alike _ _ _ rfl) aq (zc ?_)
 (refine zq ?_;repeat ((first|rw[e1]);refine zq ?_))
 refine br (4<M) (by rw[dc hA]) (fun c=>?_) (fun c=>?_)<;>refine zc ?_
 ·refine zq ?_
  exact hQ _ _ (.inl ⟨.inl om,rfl⟩) (.refl h)
 have VU:m<=1000:=om
 (refine zq ?_;repeat ((first|rw[e1]);refine zq ?_))
 refine MG hA hg VU eM (fun q env=>?_) (fun VW=>?_) m 0 0 om om rfl (fun j j0 j1=>om)
 ·refine zq ?_
  obtain⟨i,i0,i1,i2⟩:=q;exact hQ _ _ (.inl ⟨.inr ⟨i,i0,om,i2⟩,rfl⟩) (.refl h)
 have nm:¬Gj g:=fun q=>by
  rcases q with q|⟨i,i0,i1,i2⟩
  ·omega
  ·have:=VW i i0 om;omega
 have hl:∀i:Int,0<=i->i<m->(gt g i).length<=1000:=fun i i0 i1=>by have:=VW i i0 i1;omega
 have bad:¬Good g B->∀h',Ext h h'->Q (.int .i64 8) h':=fun q h' x=>hQ _ _ (.inr (.inr ⟨nm,q,rfl⟩)) x
 (refine zq ?_;repeat ((first|rw[e1]);refine zq ?_))
 refine br (M=0) (by rw[de hA]) (fun c0=>?_) (fun c0=>?_)<;>refine zc ?_
 ·refine zq ?_
  exact bad (fun q=>by have:=q.m1;omega) h (.refl h)
 obtain⟨b,o,rfl,hb,q0⟩:=hg.mG (i:=0) om om;obtain⟨sa,SP⟩:∃z,z=(gt dA 0).a:=⟨_,rfl⟩;obtain⟨sn,MH⟩:∃z,z=(gt dA 0).n:=⟨_,rfl⟩;obtain⟨sc,SQ⟩:∃z,z=(gt dA 0).c:=⟨_,rfl⟩;rw[<-SP,<-MH,<-SQ]at q0;have r0:rd h b (place o 0 1) 1 [.slice sa sn sc]:=aD hA q0;have Cj:(gt g 0).length=sn:=by rw[MH];exact hg.uA om om
 have fw:=hl 0 om om;obtain⟨S,eS⟩:∃z:Int,z=sn:=⟨_,rfl⟩;have e3:ofNat sn=S:=by rw[eS];exact aI hA sn
 (refine zq ?_;repeat ((first|rw[e3]);refine zq ?_))
 refine br (S=0) (by rw[de hA]) (fun cs=>?_) (fun cs=>?_)<;>refine zc ?_
 ·refine zq ?_
  exact bad (fun q=>by have:=q.n1;omega) h (.refl h)
 (refine zq ?_;repeat ((first|rw[e1]|rw[e2]);refine zq ?_))
 refine br (K≠M) (by rw[bT hA]) (fun ck=>?_) (fun ck=>?_)<;>refine zc ?_
 ·refine zq ?_
  exact bad (fun q=>by have:=q.len;omega) h (.refl h)
 (refine zq ?_;repeat ((first|rw[e1]);refine zq ?_))
 refine Px hA hg om VU hl eM (fun q env=>?_) (fun Jx=>?_) m 0 0 om om rfl (fun j j0 j1=>om)
 ·refine zq ?_
  obtain⟨i,i0,i1,i2⟩:=q;exact bad (fun w=>i2 ⟨w.row i i0 om,w.SL i i0 om⟩) h (.refl h)
 (refine zq ?_;repeat ((first|rw[e2]);refine zq ?_))
 refine MJ hA aq hB om hi eK (fun q env kn T h' x=>?_) (fun q kn T h' x=>?_) k 0 0 h om om rfl (.refl h) (fun j j0 j1=>om)
 ·refine zq ?_
  obtain⟨i,i0,i1,i2⟩:=q;exact bad (fun w=>i2 (w.turn i i0 om)) h' x
 ·refine zq ?_
  exact hQ _ _ (.inr (.inl ⟨nm,⟨om,om,om,fun i i0 i1=>(Jx i i0 om).1,fun i i0 i1=>(Jx i i0 om).2,fun i i0 i1=>q i i0 om⟩,rfl⟩)) x
theorem Ee(hI:rT F){h:af}(aq:h.low<=h.next){m n ac:Nat}{aa:Option Addr}{dA:List Hd}{g:List (List Int)}(hM:rV g m n)(hg:qT nC 1 h aa m dA g){Q:Value->af->Prop}
  (hQ:∀h' r s pa pc qa qc bs rb A,bJ g m n r s A->dM h h' m (n+m) bs A->TX h h' r (n+m) pa pc bs->EK h h' s m qa qc rb (fun y j=>A (r+y) (n+j))->(∀ad,pa=some ad->∀y,y<m->ad.block≠bs y)->Q (.tuple #[.slice pa r pc,.slice qa s qc]) h') :
  call 29 [.slice aa m ac] h Q:=
 Ju hA hI aq rfl hM.n1 hM.n4 hM.m1 hM.m4 hg (fun y y0 y1=>by rw[<-hg.uA y0 y1];exact hM.row y y0 y1) hM.nine
  (fun h' r s pa pc qa qc bs rb A a1 a2 a3 a4 a5 a6 a7 a8 a9=>hQ h' r s pa pc qa qc bs rb A ⟨a1,a2,a3,a4,a5⟩ a6 a7 a8 a9)
theorem MK{x i:Nat}{X I:Int}(eX:X=x)(eI:I=i)(hx:x<16)(hi:i<4):arith .and .i64 (arith .shr .i64 X I) 1=if x.testBit i then 1 else 0:=by
 rw[LB hA,LC hA,eX,eI];have h1:x=0\/x=1\/x=2\/x=3\/x=4\/x=5\/x=6\/x=7\/x=8\/x=9\/x=10\/x=11\/x=12\/x=13\/x=14\/x=15:=om
 have h2:i=0\/i=1\/i=2\/i=3:=om
 rcases h1 with rfl|rfl|rfl|rfl|rfl|rfl|rfl|rfl|rfl|rfl|rfl|rfl|rfl|rfl|rfl|rfl<;>rcases h2 with rfl|rfl|rfl|rfl<;>rfl
theorem VX{h0 h1:af}(fw:h0.low<=h0.next){m n ac b s R C i:Nat}{aa:Option Addr}{dA:List Hd}{g:List (List Int)}(hM:rV g m n)(hg:qT nC 1 h0 aa m dA g){RI CI S MI I N:Int}(eS:S=s)(eR:RI=R)(eC:CI=C)(eI:I=i)(eN:N=n)(es:s=(Ext.bl i R).length)(hi:i<m)(hC:C<16){rc:Nat}{ra:Option Addr}(era:ra=(gt dA I).a){Q:Exit->SS->Prop}
  (hQ:∀(h':af) (P:Nat->Nat->Int) (kn:Nat) (T:List (Nat×List Value)),Sq h0 h' b s P->EM g n R C i n P->Q (.exit 2) ⟨[(0,.slice aa m ac),(1,.int .i64 RI),(2,.int .i64 CI),(7,.pointer (some ⟨b,0,none⟩)),(15,.int .i64 MI),(16,.int .i64 I)],kn,T,h'⟩) :
  ∀(d j k:Nat) (J K:Int) (h:af) (P:Nat->Nat->Int),n-j<=d->j<=n->J=j->k=(Ext.bl j C).length->K=k->Sq h0 h b s P->EM g n R C i j P->
   head 71 8 0 ⟨[(0,.slice aa m ac),(1,.int .i64 RI),(2,.int .i64 CI),(7,.pointer (some ⟨b,0,none⟩)),(9,.int .i64 K),(15,.int .i64 MI),(16,.int .i64 I),(27,.slice ra n rc),(28,.int .i64 N),(29,.int .i64 J)],0,[],h⟩ Q:=by
 intro d;have m4:=hM.m4;have n4:=hM.n4
 induction d with
 |zero=>
  intro j k J K h P hd hj eJ ek eK t p;refine hA.ar Tryz.func71 x71.2 (zc ?_);refine br (J<N) (by rw[aA hA]) (fun q=>om) (fun _=>?_)<;>refine zc ?_;obtain rfl:j=n:=om
  exact hQ h P _ _ t p
 |succ d ih=>
 intro j k J K h P hd hj eJ ek eK t p;by_cases cj:j<n
 rotate_left
 ·refine hA.ar Tryz.func71 x71.2 (zc ?_)
  refine br (J<N) (by rw[aA hA]) (fun q=>om) (fun _=>?_)<;>refine zc ?_;obtain rfl:j=n:=om
  exact hQ h P _ _ t p
 have gh:=hg.ext t.ext;have row:=gh.row I om om;rw[<-era]at row;have Ef:(gt g I).length=n:=hM.row I om om;have zz:=row.len;rw[Ef]at zz;rw[<-zz]at row;obtain⟨b2,o2,Xv,_,w⟩:=row.at (i:=J) om om;obtain⟨v,ev⟩:∃z,z=gt (gt g I) J:=⟨_,rfl⟩;have q1:=w 0 1 om om;rw[<-ev]at q1;cases ra with
 |none=>cases Xv
 |some ad=>
 cases Xv;have r1:rd h b2 (place o2 J 1) 1 [.int .i64 v]:=aD hA q1;obtain⟨B,eB⟩:∃z:Int,z=if C.testBit j then 1 else 0:=⟨_,rfl⟩
 have m1:=MK hA eC eJ hC (show j<4 by omega);rw[<-eB]at m1;have kl:=Ext.Mw j C;have sl:=Ext.Mw i R;refine hA.ar Tryz.func71 x71.2 (zc ?_);refine br (J<N) (by rw[aA hA]) (fun _=>?_) (fun q=>om)<;>refine zc ?_
 (refine zq ?_;repeat ((first|rw[m1]);refine zq ?_))
 refine br (B=1) (by rw[de hA]) (fun c=>?_) (fun c=>?_)<;>refine zc ?_
 ·have tb:C.testBit j=true:=by
   cases h:C.testBit j with
   |true=>rfl
   |false=>rw[h]at eB;simp at eB;omega
  obtain⟨h9,Ay⟩:∃z,z=aG h 12:=⟨_,rfl⟩;have t9:=t.more (show Ext h h9 by rw[Ay];exact au hA _ _);have r2:=js hA t9 eS;obtain⟨h2,w1,t2,_⟩:=BT hA t9 (i:=s) (j:=k) om om eS eK (v:=v);rw[<-Ay];refine zq ?_;rw[aF hA om om,aF hA om om];refine ih (j+1) (k+1) (J+1) (K+1) h2 _ om om om (by rw[Ext.ml,if_pos tb,List.length_append,ek];rfl) om t2 ?_;have:=p.put tb;rw[<-es,<-ek,show Ext.el g i j=v by rw[ev,eI,eJ];rfl]at this;exact this
 ·have tb:C.testBit j=false:=by
   cases h:C.testBit j with
   |false=>rfl
   |true=>rw[h]at eB;simp at eB;omega
  refine zq ?_;rw[aF hA om om];exact ih (j+1) k (J+1) K h P om om om (by rw[Ext.ml,if_neg (by rw[tb];decide),ek]) eK t (p.skip tb)
theorem SR{h0:af}(fw:h0.low<=h0.next){m n ac b R C:Nat}{aa:Option Addr}{dA:List Hd}{g:List (List Int)}(hM:rV g m n)(hg:qT nC 1 h0 aa m dA g){RI CI M:Int}(eR:RI=R)(eC:CI=C)(eM:M=m)(hR:R<16)(hC:C<16){Q:Exit->SS->Prop}
  (hQ:∀(h':af) (P:Nat->Nat->Int) (kn:Nat) (T:List (Nat×List Value)),Sq h0 h' b (Ext.bl m R).length P->EM g n R C m 0 P->Q (.exit 0) ⟨[(7,.pointer (some ⟨b,0,none⟩))],kn,T,h'⟩) :
  ∀(d i s:Nat) (I:Int) (h:af) (P:Nat->Nat->Int),m-i<=d->i<=m->I=i->s=(Ext.bl i R).length->Sq h0 h b s P->EM g n R C i 0 P->
   head 71 3 0 ⟨[(0,.slice aa m ac),(1,.int .i64 RI),(2,.int .i64 CI),(7,.pointer (some ⟨b,0,none⟩)),(15,.int .i64 M),(16,.int .i64 I)],0,[],h⟩ Q:=by
 intro d;have m4:=hM.m4;have n4:=hM.n4
 induction d with
 |zero=>
  intro i s I h P hd hi eI es t p;refine hA.ar Tryz.func71 x71.2 (zc ?_);refine br (I<M) (by rw[aA hA]) (fun q=>om) (fun _=>?_)<;>refine zc ?_;obtain rfl:i=m:=om
  exact hQ h P _ _ (es ▸ t) p
 |succ d ih=>
 intro i s I h P hd hi eI es t p;by_cases ci:i<m
 rotate_left
 ·refine hA.ar Tryz.func71 x71.2 (zc ?_)
  refine br (I<M) (by rw[aA hA]) (fun q=>om) (fun _=>?_)<;>refine zc ?_;obtain rfl:i=m:=om
  exact hQ h P _ _ (es ▸ t) p
 obtain⟨B,eB⟩:∃z:Int,z=if R.testBit i then 1 else 0:=⟨_,rfl⟩
 have m1:=MK hA eR eI hR (show i<4 by omega);rw[<-eB]at m1;obtain⟨S,eS⟩:∃z:Int,z=s:=⟨_,rfl⟩;obtain⟨N,eN⟩:∃z:Int,z=n:=⟨_,rfl⟩;have sl:=Ext.Mw i R;obtain⟨ab,ao,rfl,QB,q1⟩:=(hg.ext t.ext).mG (i:=I) om om;have row:=hg.row I om om;have Ef:(gt g I).length=n:=hM.row I om om;have zz:=row.len;rw[Ef]at zz;rw[<-zz]at q1;obtain⟨ra,era⟩:∃z,z=(gt dA I).a:=⟨_,rfl⟩;obtain⟨rc,vH⟩:∃z,z=(gt dA I).c:=⟨_,rfl⟩;rw[<-era,<-vH]at q1;have r1:rd h ab (place ao I 1) 1 [.slice ra n rc]:=aD hA q1;have e0:ofNat n=N:=by rw[eN];exact aI hA n
 refine hA.ar Tryz.func71 x71.2 (zc ?_);refine br (I<M) (by rw[aA hA]) (fun _=>?_) (fun q=>om)<;>refine zc ?_
 (refine zq ?_;repeat ((first|rw[m1]);refine zq ?_))
 refine br (B=0) (by rw[de hA]) (fun c=>?_) (fun c=>?_)<;>refine zc ?_
 ·have tb:R.testBit i=false:=by
   cases h:R.testBit i with
   |false=>rfl
   |true=>rw[h]at eB;simp at eB;omega
  refine zq ?_;rw[aF hA om om];exact ih (i+1) s (I+1) h P om om om (by rw[Ext.ml,if_neg (by rw[tb];decide),es]) t (p.Zz tb)
 ·have tb:R.testBit i=true:=by
   cases h:R.testBit i with
   |true=>rfl
   |false=>rw[h]at eB;simp at eB;omega
  (refine zq ?_;repeat ((first|rw[e0]);refine zq ?_))
  refine VX hA (h1:=h) fw hM hg eS eR eC eI eN es ci hC era (fun h' P' kn T t' p'=>?_) n 0 0 0 0 h P om om rfl rfl rfl t p;have r2:=js hA t' eS;obtain⟨h2,w1,t2,_⟩:=t'.grow (S:=S+1) om;have w1:wr h' b (bX 0 0) [.int .i64 (S+1)] h2:=OY hA w1;refine zq ?_;rw[aF hA om om];refine zq ?_;rw[aF hA om om];exact ih (i+1) (s+1) (I+1) h2 P' om om om (by rw[Ext.ml,if_pos tb,List.length_append,es];rfl) t2 (p'.next tb)
theorem ML{h:af}(aq:h.low<=h.next){m n ac R C:Nat}{aa:Option Addr}{dA:List Hd}{g:List (List Int)}(hM:rV g m n)(hg:qT nC 1 h aa m dA g){RI CI:Int}(eR:RI=R)(eC:CI=C)(hR:R<16)(hC:C<16){Q:Value->af->Prop}
  (hQ:∀b h' P,Sq h h' b (Ext.bl m R).length P->(∀r c,r<(Ext.bl m R).length->c<(Ext.bl n C).length->P r c=Ext.el g (gt (Ext.bl m R) (r:Int)) (gt (Ext.bl n C) (c:Int)))->Q (.pointer (some ⟨b,0,none⟩)) h') :
  call 71 [.slice aa m ac,.int .i64 RI,.int .i64 CI] h Q:=by
 obtain⟨M,eM⟩:∃z:Int,z=m:=⟨_,rfl⟩;have e1:ofNat m=M:=by rw[eM];exact aI hA m
 refine hA.aN Tryz.func71 x71.2 (hA.alike _ _ _ rfl) aq (zc ?_)
 (refine zq ?_;repeat ((first|rw[e1]);refine zq ?_))
 rw[df hA,cM hA];refine SR hA aq hM hg eR eC eM hR hC (fun h' P kn T t p=>?_) m 0 0 0 _ (fun _ _=>0) om om rfl rfl (Sq.new h) ⟨fun r c hr=>absurd hr (by show ¬r<0;omega),fun c hc=>absurd hc (by show ¬c<0;omega)⟩;refine zq ?_;exact hQ h.next h' P t p.up
theorem Py{h:af}(aq:h.low<=h.next){n d:Int}(hn:i64 n)(n0:-9223372036854775808<n)(hd:0<d){Q:Value->af->Prop}(hQ:Q (.int .i64 (n / d)) h):call 63 [.int .i64 n,.int .i64 d] h Q:=by
 unfold i64 at hn;have t0:=Int.natAbs_tdiv_le_natAbs n d;refine hA.aN Tryz.func63 x63.2 (hA.alike _ _ _ rfl) aq (zc ?_);have e1:arith .quo .i64 n d=n.tdiv d:=by rw[Al hA,wrap64 om om]
 have e2:arith .rem .i64 n d=n.tmod d:=DD hA _ _ _;have key:=Int.mul_tdiv_add_tmod n d;have ZA:-d<n.tmod d:=Int.lt_tmod_of_pos n hd;have lt2:n.tmod d<d:=Int.tmod_lt_of_pos n hd;generalize n.tdiv d=t at *;generalize n.tmod d=s at *;have ed:=Int.mul_ediv_add_emod n d;have m0:=Int.emod_nonneg n (show d≠0 by omega);have m1:=Int.emod_lt_of_pos n hd
 (refine zq ?_;repeat ((first|rw[e1]|rw[e2]);refine zq ?_))
 refine br (s<0) (by rw[aA hA]) (fun c=>?_) (fun c=>?_)<;>refine zc ?_
 ·have e3:t-1=n / d:=by
   have w:s+d+d*(t-1)=n:=by rw[Int.mul_sub,Int.mul_one];omega
   exact((Int.ediv_emod_unique hd).2 ⟨w,om,om⟩).1.symm
  have t1:-9223372036854775808<=t-1:=om
  refine zq ?_;rw[bP hA om om,e3];exact hQ
 ·have e3:t=n / d:=((Int.ediv_emod_unique (r:=s) hd).2 ⟨om,om,om⟩).1.symm
  refine zq ?_;rw[e3];exact hQ
theorem Jy{h:af}(aq:h.low<=h.next){n d:Int}{q:Rat}(hq:gA n d q){Q:Value->af->Prop}(hQ:∀h',Ext h h'->Q (.tuple #[.int .i64 (n / d),.int .i64 0]) h'):call 36 [.agg #[.int .i64 n,.int .i64 d]] h Q:=by
 have d1:=hq.den;have n1:=hq.2.2.1;rw[<-hq.1]at n1;refine hA.aN Tryz.func36 x36.2 (hA.alike _ _ _ rfl) aq (zc ?_);refine kX hA aq hq.kf hq.kQ (fun e h1 k1 x1=>⟨_,rfl,?_⟩);obtain rfl:e=0:=by
  rcases k1 with ⟨q,_⟩|⟨_,w⟩
  ·exact q
  ·exact absurd hq.ok w
 refine zq ?_;refine br False (by rw[bT hA];rfl) (fun q=>q.elim) (fun _=>?_)<;>refine zc ?_;refine zq ?_;refine Py hA (x1.aC aq) hq.kf om om ⟨_,rfl,?_⟩;refine zq ?_;exact hQ _ x1
theorem Pz{h:af}(aq:h.low<=h.next){n d z D:Int}(hq:gA n d (rq z D))(hD:0<D)(hD2:D<=1000000000000000000){Q:Value->af->Prop}(hQ:∀n' d' h',gA n' d' (rq (z % D) D)->Ext h h'->Q (.agg #[.int .i64 n',.int .i64 d']) h'):call 14 [.agg #[.int .i64 n,.int .i64 d]] h Q:=by
 have fl:=wi hq hD;have d1:=hq.den;have n1:=hq.2.2.1;have n2:=hq.2.2.2.1;rw[<-hq.1]at n1 n2;obtain⟨w,ew⟩:∃w,w=n / d:=⟨_,rfl⟩;have wb:-1000000000000000000<=w/\w<=1000000000000000000:=by
  have:=Int.natAbs_ediv_le_natAbs n d;rw[<-ew]at this;omega
 have hw:=qK wb.1 wb.2;have m0:=Int.emod_nonneg z (show D≠0 by omega);have m1:=Int.emod_lt_of_pos z hD;have ev:rq z D-(w:Rat)=rq (z % D) D:=by
  rw[ew,fl,jt (l:=z / D) (show D≠0 by omega),BV om]
  congr 1
  have:=Int.mul_ediv_add_emod z D;rw[Int.mul_comm]at this;omega
 refine hA.aN Tryz.func14 x14.2 (hA.alike _ _ _ rfl) aq (zc ?_);refine zq ?_;refine Jy hA aq hq (fun h1 x1=>⟨_,_,rfl,?_⟩);rw[<-ew];obtain⟨X,eX⟩:∃z,z=aG h1 10:=⟨_,rfl⟩;have xb:Ext h1 X:=by rw[eX];exact au hA _ _
 have lX:X.low<=X.next:=(x1.trans xb).aC aq;refine zq ?_;rw[<-eX];refine Gk hA (aB hA X) ⟨_,_,rfl,?_⟩;refine zq ?_;rw[bR hA lX];refine HH hA (aB hA X) hq.kf hq.kQ hw.kf hw.kQ (fun a b r k h2 x2=>⟨_,_,_,rfl,?_⟩);obtain⟨k1,rfl⟩:=qL hq hw (f:=(· - ·)) (by show fits (rq z D-(w:Rat));rw[ev];exact mm om om om) k
 replace k1:gA a b (rq z D-(w:Rat)):=k1
 rw[ev]at k1;obtain⟨X2,MN⟩:∃z,z=az X h2:=⟨_,rfl⟩;have x3:Ext h X2:=by rw[MN];exact cI hA aq (x1.trans xb) x2
 refine zq ?_;rw[<-MN];exact hQ a b X2 k1 x3
theorem MO{h0:af}(fw:h0.low<=h0.next){L xn lc xc:Nat}{la xa:Option Addr}{l:List Int}{X:List Fc}(hl:Rows nC 1 h0 la L l)(hx:Rows fC 2 h0 xa xn X)(hL:L<=xn)(hn:L<=1000){D:Int}(hD:0<D){z:Nat->Int}(hz:∀k:Nat,k<L->gA (gt X (k:Int)).n (gt X (k:Int)).d (rq (z k) D)){B:Nat}(h9:∀k:Nat,k<L->(gt l (k:Int)).natAbs<=1000000000000000000)(hb:∀k:Nat,k<L->(gt l (k:Int)*z k).natAbs<=B)(hB:B+D.natAbs<=1000000000000000000){M:Int}(eM:M=L){Q:Exit->SS->Prop}
  (hQ:∀n d h',gA n d (rq (Ext.aP (fun k=>gt l (k:Int)*z k) L % D) D)->Ext h0 h'->Q (.exit 0) ⟨[(4,.pointer (some ⟨0,0,some 0⟩)),(6,.pointer (some ⟨1,0,some 0⟩))],2,[(0,[.int .i64 0,.int .i64 0]),(1,[.int .i64 n,.int .i64 d])],h'⟩) :
  ∀(d k:Nat) (K sn sd:Int) (h:af),L-k<=d->k<=L->K=k->gA sn sd (rq (Ext.aP (fun k=>gt l (k:Int)*z k) k % D) D)->Ext h0 h->
   head 18 3 2 ⟨[(0,.slice la L lc),(1,.slice xa xn xc),(4,.pointer (some ⟨0,0,some 0⟩)),(6,.pointer (some ⟨1,0,some 0⟩)),(7,.int .i64 K)],2,[(0,[.int .i64 0,.int .i64 0]),(1,[.int .i64 sn,.int .i64 sd])],h⟩ Q:=by
 intro d;have e0:ofNat L=M:=by rw[eM];exact aI hA L
 induction d with
 |zero=>
  intro k K sn sd h hd hk eK hs x;refine hA.ar Tryz.func18 x18.2 (zc ?_)
  (refine zq ?_;repeat ((first|rw[e0]);refine zq ?_))
  refine br (K<M) (by rw[aA hA]) (fun q=>om) (fun _=>?_)<;>refine zc ?_;obtain rfl:k=L:=om
  exact hQ sn sd h hs x
 |succ d ih=>
 intro k K sn sd h hd hk eK hs x;by_cases ck:k<L
 rotate_left
 ·refine hA.ar Tryz.func18 x18.2 (zc ?_)
  (refine zq ?_;repeat ((first|rw[e0]);refine zq ?_))
  refine br (K<M) (by rw[aA hA]) (fun q=>om) (fun _=>?_)<;>refine zc ?_;obtain rfl:k=L:=om
  exact hQ sn sd h hs x
 obtain⟨X1,PA⟩:∃z,z=aG h 16:=⟨_,rfl⟩;have xb:Ext h X1:=by rw[PA];exact au hA _ _
 have y1:=x.trans xb;have l1:=y1.aC fw;obtain⟨lb,lo,rfl,SU,w1⟩:=(hl.ext y1).at (i:=K) om om;have w1:=w1 0 1 om om;obtain⟨SV,xo,rfl,hxb,w2⟩:=(hx.ext y1).at (i:=K) om om;have w2:=w2 0 2 om om;have zk:=hz k ck;have b9:=h9 k ck;have bb:=hb k ck;obtain⟨c,ec⟩:∃z,z=gt l (k:Int):=⟨_,rfl⟩;obtain⟨f,ef⟩:∃z,z=gt X (k:Int):=⟨_,rfl⟩;obtain⟨S,eS⟩:∃s,s=Ext.aP (fun k=>gt l (k:Int)*z k) k:=⟨_,rfl⟩;have VY:Ext.aP (fun k=>gt l (k:Int)*z k) (k+1)=S+c*z k:=by rw[eS,ec];rfl
 rw[eK,<-ec]at w1;rw[eK,<-ef]at w2;rw[<-ef]at zk;rw[<-ec]at b9 bb;rw[<-eS]at hs;obtain⟨fn,fd⟩:=f;obtain⟨v,ev⟩:∃v,v=z k:=⟨_,rfl⟩;rw[<-ev]at zk bb VY;have zk:gA fn fd (rq v D):=zk;rw[<-eK]at w1 w2;have r1:rd X1 lb (place lo K 1) 1 [.int .i64 c]:=aD hA w1;have r2:rd X1 SV (place xo K 2) 2 [.int .i64 fn,.int .i64 fd]:=aD hA w2;have hc:=qK (n:=c) om om;refine hA.ar Tryz.func18 x18.2 (zc ?_)
 (refine zq ?_;repeat ((first|rw[e0]);refine zq ?_))
 refine br (K<M) (by rw[aA hA]) (fun _=>?_) (fun q=>om)<;>refine zc ?_;rw[<-PA];refine zq ?_;refine Gk hA (aB hA X1) ⟨_,_,rfl,?_⟩;refine zq ?_;rw[bR hA l1];refine HF hA (aB hA X1) hc.kf hc.kQ zk.kf zk.kQ (fun a b r q h2 x2=>⟨_,_,_,rfl,?_⟩);obtain⟨q1,rfl⟩:=qL hc zk (f:=(· * ·)) (by show fits ((c:Rat)*rq v D);rw[uz];exact mm om om om) q
 replace q1:gA a b ((c:Rat)*rq v D):=q1
 rw[uz]at q1;obtain⟨X2,MN⟩:∃z,z=az X1 h2:=⟨_,rfl⟩;have y2:Ext h0 X2:=by rw[MN];exact cI hA fw y1 x2
 have elim:bX (next h) 16=X1.next:=by rw[dj hA,cM hA,PA,nW hA];rfl
 have nw0:wrote X1 (fresh X1)=false:=s8 hA (.refl _);have nw:=s8 hA x2;refine zq ?_;refine⟨SW hA nw0 (by rw[elim];exact hxb),nw0,nw,?_⟩;rw[<-MN];refine zq ?_;refine br ((0:Int)=0) (by rw[de hA]) (fun _=>?_) (fun q=>absurd rfl q)<;>refine zc ?_;refine zq ?_;have em:=Int.emod_nonneg S (show D≠0 by omega);have QL:=Int.emod_lt_of_pos S hD;refine BM hA (y2.aC fw) hs.kf hs.kQ q1.kf q1.kQ (fun a2 b2 r2 q2 h3 x3=>⟨_,_,_,rfl,?_⟩);have MP:rq (S % D) D+rq (c*v) D=rq (S % D+c*v) D:=pY om;obtain⟨q3,rfl⟩:=qL hs q1 (f:=(· + ·)) (by show fits (rq (S % D) D+rq (c*v) D);rw[MP];exact mm om om om) q2
 replace q3:gA a2 b2 (rq (S % D) D+rq (c*v) D):=q3
 rw[MP]at q3;refine zq ?_;refine br ((0:Int)≠0) (by rw[bT hA]) (fun q=>absurd rfl q) (fun _=>?_)<;>refine zc ?_;refine zq ?_;refine Pz hA (x3.aC (y2.aC fw)) q3 hD om (fun a3 b3 h4 q4 x4=>⟨_,_,rfl,?_⟩);have ZB:(S % D+c*v) % D=(S+c*v) % D:=Int.emod_add_emod ..;rw[ZB,<-VY]at q4;refine zq ?_;rw[aF hA om om];exact ih (k+1) (K+1) a3 b3 h4 om om om q4 ((y2.trans x3).trans x4)
theorem PB{h:af}(aq:h.low<=h.next){L xn lc xc:Nat}{la xa:Option Addr}{l:List Int}{X:List Fc}(hl:Rows nC 1 h la L l)(hx:Rows fC 2 h xa xn X)(hL:L<=xn)(hn:L<=1000){D:Int}(hD:0<D){z:Nat->Int}(hz:∀k:Nat,k<L->gA (gt X (k:Int)).n (gt X (k:Int)).d (rq (z k) D)){B:Nat}(h9:∀k:Nat,k<L->(gt l (k:Int)).natAbs<=1000000000000000000)(hb:∀k:Nat,k<L->(gt l (k:Int)*z k).natAbs<=B)(hB:B+D.natAbs<=1000000000000000000){Q:Value->af->Prop}
  (hQ:∀n d h',gA n d (rq (Ext.aP (fun k=>gt l (k:Int)*z k) L % D) D)->Ext h h'->Q (.tuple #[.agg #[.int .i64 n,.int .i64 d],.bool true]) h'):call 18 [.slice la L lc,.slice xa xn xc] h Q:=by
 refine hA.aN Tryz.func18 x18.2 (hA.alike _ _ _ rfl) aq (zc ?_);refine zq ?_;refine Gk hA aq ⟨_,_,rfl,?_⟩;refine zq ?_;refine MO hA aq hl hx hL hn hD hz h9 hb hB (M:=(L:Int)) rfl (fun n d h' q x=>?_) L 0 0 0 1 h om om rfl ?_ (.refl h)
 ·refine zq ?_
  exact hQ n d h' q x
 ·show gA 0 1 (rq ((0:Int) % D) D)
  rw[Int.zero_emod];have e:rq 0 D=((0:Int):Rat):=by rw[jt (l:=0) (show D≠0 by omega),Int.zero_mul]
  rw[e];exact qK om om
theorem MQ{m:Nat}(hm:m<=4){M:Int}(eM:M=m):arith .shl .i64 1 M=((2 ^ m:Nat):Int):=by
 rw[QC hA,eM];have h1:m=0\/m=1\/m=2\/m=3\/m=4:=om
 rcases h1 with rfl|rfl|rfl|rfl|rfl<;>rfl
theorem VZ{h0:af}(fw:h0.low<=h0.next){m n ac k R g0 p2:Nat}{aa:Option Addr}{dA:List Hd}{g:List (List Int)}(hM:rV g m n)(hg:qT nC 1 h0 aa m dA g){K RI P W:Int}(eK:K=k)(eR:RI=R)(hR:R<2 ^ m)(hk:k<=4)(lR:(Ext.bl m R).length=k)(Xx:p2=2 ^ n)(eP:P=p2){Q:Exit->SS->Prop}
  (hQ:∀(h':af) (gg:Nat) (G:Int),Ext h0 h'->G=gg->gg<=157464->(∀d:Nat,d∣gg↔d∣g0/\∀C,C<p2->(Ext.bl n C).length=k->d∣(Ext.D9 g k (Ext.bl m R) (Ext.bl n C)).natAbs)->Q (.exit 2) ⟨[(0,.slice aa m ac),(1,.int .i64 K),(5,.int .i64 G),(10,.int .i64 W),(11,.int .i64 RI)],0,[],h'⟩) :
  ∀(d C gg:Nat) (CI G:Int) (h:af),p2-C<=d->C<=p2->CI=C->Ext h0 h->G=gg->gg<=157464->(∀d:Nat,d∣gg↔d∣g0/\∀x,x<C->(Ext.bl n x).length=k->d∣(Ext.D9 g k (Ext.bl m R) (Ext.bl n x)).natAbs)->
   head 43 7 0 ⟨[(0,.slice aa m ac),(1,.int .i64 K),(5,.int .i64 G),(6,.int .i64 RI),(10,.int .i64 W),(11,.int .i64 RI),(23,.int .i64 P),(24,.int .i64 CI)],0,[],h⟩ Q:=by
 intro d;have m4:=hM.m4;have n4:=hM.n4;have pw:∀x,x<=4->2 ^ x<=16:=fun x hx=>Nat.pow_le_pow_right (n:=2) om hx
 have pn:=pw n n4;have pm:=pw m m4
 induction d with
 |zero=>
  intro C gg CI G h hd hC eC x eG hb Eg;refine hA.ar Tryz.func43 x43.2 (zc ?_);refine br (CI<P) (by rw[aA hA]) (fun q=>om) (fun _=>?_)<;>refine zc ?_;obtain rfl:C=p2:=om
  exact hQ h gg G x eG hb Eg
 |succ d ih=>
 intro C gg CI G h hd hC eC x eG hb Eg;by_cases cC:C<p2
 rotate_left
 ·refine hA.ar Tryz.func43 x43.2 (zc ?_)
  refine br (CI<P) (by rw[aA hA]) (fun q=>om) (fun _=>?_)<;>refine zc ?_;obtain rfl:C=p2:=om
  exact hQ h gg G x eG hb Eg
 have aq:=x.aC fw;have m1:conv .u64 CI=CI:=mj hA om om;have l4:=Ext.HJ n C n4 om;refine hA.ar Tryz.func43 x43.2 (zc ?_);refine br (CI<P) (by rw[aA hA]) (fun _=>?_) (fun q=>om)<;>refine zc ?_
 (refine zq ?_;repeat ((first|rw[m1]);refine zq ?_))
 refine HN hA om om aq (fun v ev=>⟨v,rfl,?_⟩);rw[eC,Int.toNat_natCast,l4]at ev;refine zq ?_;refine br (v=K) (by rw[de hA]) (fun c=>?_) (fun c=>?_)<;>refine zc ?_
 ·have lC:(Ext.bl n C).length=k:=om
  refine zq ?_;refine ML hA aq hM (hg.ext x) eR eC om om (fun b h1 P1 t1 p1=>⟨_,_,rfl,?_⟩);rw[lR]at t1 p1;refine zq ?_;refine Gi hA aq t1 hk (fun i j hi hj=>by rw[p1 i j hi om];exact hM.nine _ _) (fun w h2 ew wb x2=>⟨w,rfl,?_⟩);have ed:Ext.dt k P1=Ext.D9 g k (Ext.bl m R) (Ext.bl n C):=by
   unfold Ext.D9;exact Ext.fv (fun i j hi hj=>p1 i j hi om)
  rw[ed]at ew;refine zq ?_;refine HM hA (x2.aC aq) (a:=G) (b:=w) om om (fun h3 x3=>⟨_,rfl,?_⟩);have eg2:Int.gcd G w=Nat.gcd gg (Ext.D9 g k (Ext.bl m R) (Ext.bl n C)).natAbs:=by
   rw[eG,ew];rfl
  rw[eg2];have vw:Nat.gcd gg (Ext.D9 g k (Ext.bl m R) (Ext.bl n C)).natAbs<=157464:=Ext.SF hb om;have SX:∀d:Nat,d∣Nat.gcd gg (Ext.D9 g k (Ext.bl m R) (Ext.bl n C)).natAbs↔d∣g0/\∀x,x<C+1->(Ext.bl n x).length=k->d∣(Ext.D9 g k (Ext.bl m R) (Ext.bl n x)).natAbs:=fun d=>by
   rw[Nat.dvd_gcd_iff,Eg d];constructor
   ·rintro⟨⟨a1,a2⟩,a3⟩
    refine⟨a1,fun y hy ly=>?_⟩;by_cases e:y=C
    ·rw[e];exact a3
    ·exact a2 y om ly
   ·rintro⟨a1,a2⟩
    exact⟨⟨a1,fun y hy ly=>a2 y om ly⟩,a2 C om lC⟩
  generalize Nat.gcd gg (Ext.D9 g k (Ext.bl m R) (Ext.bl n C)).natAbs=g2 at *;obtain⟨G2,Xy⟩:∃z:Int,z=g2:=⟨_,rfl⟩;rw[<-Xy];refine zq ?_;rw[aF hA om om];exact ih (C+1) g2 (CI+1) G2 h3 om om om ((x.trans x2).trans x3) Xy vw SX
 ·refine zq ?_
  rw[aF hA om om];refine ih (C+1) gg (CI+1) G h om om om x eG hb (fun d=>?_);rw[Eg d];refine and_congr Iff.rfl ⟨fun a y hy ly=>?_,fun a y hy ly=>a y om ly⟩;by_cases e:y=C
  ·rw[e]at ly;omega
  ·exact a y om ly
theorem SY{h0:af}(fw:h0.low<=h0.next){m n ac k pm:Nat}{aa:Option Addr}{dA:List Hd}{g:List (List Int)}(hM:rV g m n)(hg:qT nC 1 h0 aa m dA g){K W:Int}(eK:K=k)(hk:k<=4)(Xz:pm=2 ^ m)(eW:W=pm){Q:Exit->SS->Prop}
  (hQ:∀(h':af) (gg:Nat) (G:Int) (kn:Nat) (T:List (Nat×List Value)),Ext h0 h'->G=gg->(∀d:Nat,d∣gg↔∀R,R<pm->(Ext.bl m R).length=k->∀C,C<2 ^ n->(Ext.bl n C).length=k->d∣(Ext.D9 g k (Ext.bl m R) (Ext.bl n C)).natAbs)->Q (.exit 0) ⟨[(5,.int .i64 G)],kn,T,h'⟩) :
  ∀(d R gg:Nat) (RI G:Int) (h:af),pm-R<=d->R<=pm->RI=R->Ext h0 h->G=gg->gg<=157464->(∀d:Nat,d∣gg↔∀x,x<R->(Ext.bl m x).length=k->∀C,C<2 ^ n->(Ext.bl n C).length=k->d∣(Ext.D9 g k (Ext.bl m x) (Ext.bl n C)).natAbs)->
   head 43 3 0 ⟨[(0,.slice aa m ac),(1,.int .i64 K),(5,.int .i64 G),(10,.int .i64 W),(11,.int .i64 RI)],0,[],h⟩ Q:=by
 intro d;have m4:=hM.m4;have n4:=hM.n4;have pw:∀x,x<=4->2 ^ x<=16:=fun x hx=>Nat.pow_le_pow_right (n:=2) om hx
 have pm16:=pw m m4;have mpos:=hM.m1
 induction d with
 |zero=>
  intro R gg RI G h hd hR eR x eG hb Eg;refine hA.ar Tryz.func43 x43.2 (zc ?_);refine br (RI<W) (by rw[aA hA]) (fun q=>om) (fun _=>?_)<;>refine zc ?_;obtain rfl:R=pm:=om
  exact hQ h gg G _ _ x eG Eg
 |succ d ih=>
 intro R gg RI G h hd hR eR x eG hb Eg;by_cases cR:R<pm
 rotate_left
 ·refine hA.ar Tryz.func43 x43.2 (zc ?_)
  refine br (RI<W) (by rw[aA hA]) (fun q=>om) (fun _=>?_)<;>refine zc ?_;obtain rfl:R=pm:=om
  exact hQ h gg G _ _ x eG Eg
 have aq:=x.aC fw;have m1:conv .u64 RI=RI:=mj hA om om;have l4:=Ext.HJ m R m4 om;obtain⟨N,eN⟩:∃z:Int,z=n:=⟨_,rfl⟩;have e0:ofNat n=N:=by rw[eN];exact aI hA n
 obtain⟨p2,Xx⟩:∃z:Nat,z=2 ^ n:=⟨_,rfl⟩;obtain⟨P,eP⟩:∃z:Int,z=p2:=⟨_,rfl⟩;have m2:arith .shl .i64 1 N=P:=by rw[eP,Xx];exact MQ hA hM.n4 eN
 obtain⟨ab,ao,rfl,QB,q1⟩:=(hg.ext x).mG (i:=0) om (by have:=hM.m1;omega);have row:=hg.row 0 om (by have:=hM.m1;omega);have Ef:(gt g 0).length=n:=hM.row 0 om (by have:=hM.m1;omega);have zz:=row.len;rw[Ef]at zz;rw[<-zz]at q1;obtain⟨ra,era⟩:∃z,z=(gt dA 0).a:=⟨_,rfl⟩;obtain⟨rc,vH⟩:∃z,z=(gt dA 0).c:=⟨_,rfl⟩;rw[<-era,<-vH]at q1;have r1:rd h ab (place ao 0 1) 1 [.slice ra n rc]:=aD hA q1;refine hA.ar Tryz.func43 x43.2 (zc ?_);refine br (RI<W) (by rw[aA hA]) (fun _=>?_) (fun q=>om)<;>refine zc ?_
 (refine zq ?_;repeat ((first|rw[m1]);refine zq ?_))
 refine HN hA om om aq (fun v ev=>⟨v,rfl,?_⟩);rw[eR,Int.toNat_natCast,l4]at ev;refine zq ?_;refine br (v≠K) (by rw[bT hA]) (fun c=>?_) (fun c=>?_)<;>refine zc ?_
 ·refine zq ?_
  rw[aF hA om om];refine ih (R+1) gg (RI+1) G h om om om x eG hb (fun d=>?_);rw[Eg d];refine⟨fun a y hy ly=>?_,fun a y hy ly=>a y om ly⟩;by_cases e:y=R
  ·rw[e]at ly;omega
  ·exact a y om ly
 ·have lR:(Ext.bl m R).length=k:=om
  (refine zq ?_;repeat ((first|rw[e0]|rw[m2]);refine zq ?_))
  refine VZ hA fw hM hg eK eR om hk lR Xx eP (g0:=gg) (fun h' g2 G2 x' Xy vw SX=>?_) p2 0 gg 0 G h om om rfl x eG hb (fun d=>⟨fun a=>⟨a,fun y hy=>om⟩,fun a=>a.1⟩);refine zq ?_;rw[aF hA om om];refine ih (R+1) g2 (RI+1) G2 h' om om om x' Xy vw (fun d=>?_);rw[SX d,Eg d,<-Xx];constructor
  ·rintro⟨a1,a2⟩ y hy ly
   by_cases e:y=R
   ·rw[e];exact a2
   ·exact a1 y om ly
  ·intro a
   exact⟨fun y hy ly=>a y om ly,a R om lR⟩
theorem Gl{h:af}(aq:h.low<=h.next){m n ac k:Nat}{aa:Option Addr}{dA:List Hd}{g:List (List Int)}(hM:rV g m n)(hg:qT nC 1 h aa m dA g){K:Int}(eK:K=k)(hk:k<=4){Q:Value->af->Prop}
  (hQ:∀(v:Int) h',v=Ext.Dv g m n k->Ext h h'->Q (.int .i64 v) h'):call 43 [.slice aa m ac,.int .i64 K] h Q:=by
 obtain⟨M,eM⟩:∃z:Int,z=m:=⟨_,rfl⟩;have e1:ofNat m=M:=by rw[eM];exact aI hA m
 obtain⟨pm,Xz⟩:∃z:Nat,z=2 ^ m:=⟨_,rfl⟩;obtain⟨W,eW⟩:∃z:Int,z=pm:=⟨_,rfl⟩;have m2:arith .shl .i64 1 M=W:=by rw[eW,Xz];exact MQ hA hM.m4 eM
 refine hA.aN Tryz.func43 x43.2 (hA.alike _ _ _ rfl) aq (zc ?_)
 (refine zq ?_;repeat ((first|rw[e1]|rw[m2]);refine zq ?_))
 refine SY hA aq hM hg eK hk Xz eW (fun h' gg G kn T x eG Eg=>?_) pm 0 0 0 0 h om om rfl (.refl h) rfl om (fun d=>⟨fun _ y hy=>om,fun _=>Nat.dvd_zero d⟩);have:=Ext.VO hM.m4 hM.n4 hk (fun d=>by rw[<-Xz];exact Eg d);refine zq ?_;exact hQ G h' (by rw[eG,this]) x
theorem PC{h0:af}(fw:h0.low<=h0.next){m n ac:Nat}{aa:Option Addr}{dA:List Hd}{g:List (List Int)}(hM:rV g m n)(hg:qT nC 1 h0 aa m dA g){Q:Exit->SS->Prop}
  (hQ:∀(h':af) (b k c r:Nat),k=r+1->vG g m n r->Js h' 1 b k c ((MF g m n k).flatMap nC)->h0.next<=b->Ext h0 h'->Q (.exit 0) ⟨[(3,.slice (some ⟨b,0,none⟩) k c)],0,[],h'⟩) :
  ∀(d k b c:Nat) (K:Int) (h:af),6-k<=d->1<=k->k<=m+1->k<=n+1->K=k->(∀x,x+1<k->Ext.Dv g m n (x+1)≠0)->Js h 1 b k c ((MF g m n k).flatMap nC)->h0.next<=b->Ext h0 h->
   head 26 3 0 ⟨[(0,.slice aa m ac),(3,.slice (some ⟨b,0,none⟩) k c),(4,.int .i64 K)],0,[],h⟩ Q:=by
 intro d;have m4:=hM.m4;have n4:=hM.n4;have m1:=hM.m1;have n1:=hM.n1;obtain⟨M,eM⟩:∃z:Int,z=m:=⟨_,rfl⟩;have e1:ofNat m=M:=by rw[eM];exact aI hA m
 obtain⟨N,eN⟩:∃z:Int,z=n:=⟨_,rfl⟩;have e2:ofNat n=N:=by rw[eN];exact aI hA n
 obtain⟨W,eW⟩:∃z:Int,z=if N<M then N else M:=⟨_,rfl⟩
 have e3:uf M N=W:=by rw[eW,Si hA]
 have hW:W=N/\N<=M\/W=M/\M<=N:=by rw[eW];split<;>omega
 have Ef:(gt g 0).length=n:=hM.row 0 om om;have row:=hg.row 0 om om;have zz:=row.len;rw[Ef]at zz
 induction d with
 |zero=>intro k b c K h hd k1 km kn;omega
 |succ d ih=>
 intro k b c K h hd k1 km kn eK hz B hb x;have aq:=x.aC fw;obtain⟨ab,ao,rfl,QB,q1⟩:=(hg.ext x).mG (i:=0) om om;rw[<-zz]at q1;obtain⟨ra,era⟩:∃z,z=(gt dA 0).a:=⟨_,rfl⟩;obtain⟨rc,vH⟩:∃z,z=(gt dA 0).c:=⟨_,rfl⟩;rw[<-era,<-vH]at q1;have r1:rd h ab (place ao 0 1) 1 [.slice ra n rc]:=aD hA q1;refine hA.ar Tryz.func26 x26.2 (zc ?_)
 (refine zq ?_;repeat ((first|rw[e1]|rw[e2]|rw[e3]);refine zq ?_))
 refine br (K<=W) (by rw[jA hA]) (fun ck=>?_) (fun ck=>?_)<;>refine zc ?_
 rotate_left
 ·exact hQ h b k c (k-1) om ⟨om,om,fun y hy=>hz y om,om⟩ B hb x
 refine zq ?_;refine Gl hA aq hM (hg.ext x) eK om (fun v h1 ev x1=>⟨v,rfl,?_⟩);refine zq ?_;refine br (v=0) (by rw[de hA]) (fun cz=>?_) (fun cz=>?_)<;>refine zc ?_
 ·refine hQ h1 b k c (k-1) om ⟨om,om,fun y hy=>hz y om,?_⟩ (B.ext x1) hb (x.trans x1)
  rw[show k-1+1=k by omega];omega
 obtain⟨nb,EL⟩:∃z,z=next h1:=⟨_,rfl⟩;obtain⟨X,eX⟩:∃z,z=push h1 1 [.int .i64 v]:=⟨_,rfl⟩;refine zc ?_;rw[<-EL,<-eX];refine zq ?_;refine My hA (B.ext x1) om eX EL (fun b' c' h' B2 k2 k3 k4=>?_);obtain⟨x2,vw⟩:=k2 h0 (x.trans x1) hb;have ed:MF g m n k++[v]=MF g m n (k+1):=by
  unfold MF;rw[tq,ev]
 rw[ed]at B2;obtain⟨XA,ek1⟩:∃z,z=k+1:=⟨_,rfl⟩;rw[<-ek1]at B2 ⊢;refine zq ?_;rw[aF hA om om];refine ih XA b' c' (K+1) h' om om om om om (fun y hy=>?_) B2 vw x2;by_cases e:y+1=k
 ·rw[e];omega
 ·exact hz y om
theorem Eh{h:af}(aq:h.low<=h.next){m n ac:Nat}{aa:Option Addr}{dA:List Hd}{g:List (List Int)}(hM:rV g m n)(hg:qT nC 1 h aa m dA g){Q:Value->af->Prop}
  (hQ:∀(h':af) (b k c r:Nat),k=r+1->vG g m n r->Js h' 1 b k c ((MF g m n k).flatMap nC)->Ext h h'->Q (.slice (some ⟨b,0,none⟩) k c) h'):call 26 [.slice aa m ac] h Q:=by
 obtain⟨nb,EL⟩:∃z,z=next h:=⟨_,rfl⟩;obtain⟨X,eX⟩:∃z,z=push h 1 [.int .i64 1]:=⟨_,rfl⟩;refine hA.aN Tryz.func26 x26.2 (hA.alike _ _ _ rfl) aq (zc ?_);rw[<-EL,<-eX];refine zq ?_;rw[df hA]at eX;rw[cM hA]at EL;have xp:Ext h X:=by rw[eX];exact Ext.push h 1 _
 have B:Js X 1 nb 1 1 ((MF g m n 1).flatMap nC):=by
  have:(MF g m n 1).flatMap nC=[.int .i64 1]:=by
   unfold MF kW;simp[List.range_succ,nC,Ext.Po]
  rw[this,eX,EL];exact⟨bW.push h 1 _,by simp[af.push],rfl,.inl rfl⟩
 refine PC hA aq hM hg (fun h' b k c r ek ir B' hb x=>?_) 5 1 nb 1 1 X om om om om rfl (fun y hy=>om) B om xp;refine zq ?_;exact hQ h' b k c r ek ir B' x
theorem MS{h:af}{n k nc kc:Nat}{ba pa:Option Addr}{b p:List Int}(hb:Rows nC 1 h ba n b)(hp:Rows nC 1 h pa k p)(hk:k<=n)(k4:k<=1000){B:Nat}(hB:∀i:Nat,i<k->(gt b (i:Int)*gt p (i:Int)).natAbs<=B)(Xo:k*B<=4000000000000000000){W M:Int}(eM:M=k){Q:Exit->SS->Prop}
  (hQ:∀t kn T,t=Ext.aP (fun i=>gt b (i:Int)*gt p (i:Int)) k->t.natAbs<=k*B->Q (.exit 0) ⟨[(2,.int .i64 W),(7,.int .i64 t)],kn,T,h⟩) :
  ∀(d i:Nat) (I t:Int),k-i<=d->i<=k->I=i->t=Ext.aP (fun i=>gt b (i:Int)*gt p (i:Int)) i->t.natAbs<=i*B->
   head 44 3 0 ⟨[(0,.slice ba n nc),(2,.int .i64 W),(7,.int .i64 t),(10,.slice pa k kc),(11,.int .i64 M),(12,.int .i64 I)],0,[],h⟩ Q:=by
 refine oG (fun d ih=>?_);intro i I t hd hi eI et bt;by_cases ci:i<k
 rotate_left
 ·refine hA.ar Tryz.func44 x44.2 (zc ?_)
  refine br (I<M) (by rw[aA hA]) (fun q=>om) (fun _=>?_)<;>refine zc ?_;obtain rfl:i=k:=om
  exact hQ t _ _ et bt
 obtain⟨d,rfl⟩:∃k,d=k+1:=⟨d-1,om⟩
 replace ih:=ih d rfl
 obtain⟨bb,bo,rfl,_,w1⟩:=hb.at (i:=I) om om;have w1:=w1 0 1 om om;obtain⟨pb,po,rfl,_,w2⟩:=hp.at (i:=I) om om;have w2:=w2 0 1 om om;have b1:=hB i ci;obtain⟨x,ex⟩:∃s,s=gt b (i:Int):=⟨_,rfl⟩;obtain⟨y,ey⟩:∃s,s=gt p (i:Int):=⟨_,rfl⟩;rw[eI,<-ex,<-eI]at w1;rw[eI,<-ey,<-eI]at w2;rw[<-ex,<-ey]at b1;have r1:rd h bb (place bo I 1) 1 [.int .i64 x]:=aD hA w1;have r2:rd h pb (place po I 1) 1 [.int .i64 y]:=aD hA w2;have h1:(i+1)*B<=k*B:=Nat.mul_le_mul_right _ ci;rw[Nat.add_mul]at h1;obtain⟨u,eu⟩:∃s,s=x*y:=⟨_,rfl⟩;rw[<-eu]at b1;have m1:arith .mul .i64 x y=u:=by rw[eu];exact jn hA (by rw[<-eu];omega) (by rw[<-eu];omega)
 obtain⟨t2,et2⟩:∃s,s=t+u:=⟨_,rfl⟩;have m2:arith .add .i64 t u=t2:=by clear et;rw[et2];exact aF hA om om
 have bt2:t2.natAbs<=(i+1)*B:=by clear et;rw[Nat.add_mul];omega
 have et3:t2=Ext.aP (fun i=>gt b (i:Int)*gt p (i:Int)) (i+1):=by
  show t2=Ext.aP (fun i=>gt b (i:Int)*gt p (i:Int)) i+gt b (i:Int)*gt p (i:Int);rw[et2,et,eu,ex,ey]
 refine hA.ar Tryz.func44 x44.2 (zc ?_);refine br (I<M) (by rw[aA hA]) (fun _=>?_) (fun q=>om)<;>refine zc ?_
 (refine zq ?_;repeat ((first|rw[m1]|rw[m2]);refine zq ?_))
 rw[aF hA om om];exact ih (i+1) (I+1) t2 om om om et3 bt2
theorem BW{h:af}(aq:h.low<=h.next){n k nc kc:Nat}{ba pa:Option Addr}{b p:List Int}(hb:Rows nC 1 h ba n b)(hp:Rows nC 1 h pa k p)(hk:k<=n)(k4:k<=1000){B:Nat}(hB:∀i:Nat,i<k->(gt b (i:Int)*gt p (i:Int)).natAbs<=B)(Xo:k*B<=4000000000000000000){W:Int}(hW:0<W)(hW2:W<=4000000000000000000){Q:Value->af->Prop}
  (hQ:∀v,v=Ext.aP (fun i=>gt b (i:Int)*gt p (i:Int)) k % W->Q (.int .i64 v) h):call 44 [.slice ba n nc,.slice pa k kc,.int .i64 W] h Q:=by
 obtain⟨M,eM⟩:∃s:Int,s=k:=⟨_,rfl⟩;have e0:ofNat k=M:=by rw[eM];exact aI hA k
 refine hA.aN Tryz.func44 x44.2 (hA.alike _ _ _ rfl) aq (zc ?_)
 (refine zq ?_;repeat ((first|rw[e0]);refine zq ?_))
 refine MS hA hb hp hk k4 hB Xo eM (fun t kn T et bt=>?_) k 0 0 0 om om rfl rfl (by show(0:Int).natAbs<=_;exact Nat.zero_le _);have d1:=Int.mul_ediv_add_emod t W;have d2:=Int.emod_nonneg t (show W≠0 by omega);have d3:=Int.emod_lt_of_pos t hW;obtain⟨q,eq⟩:∃s,s=t / W:=⟨_,rfl⟩;obtain⟨r,er⟩:∃s,s=t % W:=⟨_,rfl⟩;obtain⟨u,eu⟩:∃s,s=W*q:=⟨_,rfl⟩;rw[<-eq,<-er,<-eu]at d1;rw[<-er]at d2 d3;have hv:r=Ext.aP (fun i=>gt b (i:Int)*gt p (i:Int)) k % W:=by rw[er,et]
 have hq:=hQ r hv;clear hv et;have m1:arith .mul .i64 W q=u:=by rw[eu];exact jn hA (by rw[<-eu];omega) (by rw[<-eu];omega)
 have m2:arith .sub .i64 t u=r:=by rw[bP hA om om];omega
 refine zq ?_;refine qE hA hW om om aq (fun q' Vo=>⟨q',rfl,?_⟩);obtain rfl:q'=q:=by rw[Vo,eq]
 (refine zq ?_;repeat ((first|rw[m1]|rw[m2]);refine zq ?_))
 exact hq
