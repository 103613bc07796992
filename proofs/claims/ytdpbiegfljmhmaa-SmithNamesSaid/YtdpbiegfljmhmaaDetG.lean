import Derived.Test.YtdpbiegfljmhmaaSmAl
import Derived.Test.YtdpbiegfljmhmaaSmO
import Derived.Test.YtdpbiegfljmhmaaSmV
import Derived.Test.YtdpbiegfljmhmaaSmB
import Derived.Test.YtdpbiegfljmhmaaDetF
set_option linter.unusedSimpArgs false
set_option linter.unusedVariables false
namespace Go.Proofs.Ytdpbiegfljmhmaa
open Go.cL
set_option maxRecDepth 100000
theorem zjh{P:Prop}{G:af->Prop}(ok:af->Prop)(h1:Bx (∀v,ok v->G v)->P)(h2:∀v,ok v->G v):P:=h1 ⟨h2⟩
theorem zjp{P G:Prop}(C:Prop)(h1:Bx (C->G)->P)(h2:C->G):P:=h1 ⟨h2⟩
def gR(g:List (List Int))(n:Nat):Nat->Ext.aN:=fun i j=>if j<n then gt (gt g (i:Int)) (j:Int)else if j=n+i then 1 else 0
theorem QS(g:List (List Int))(n i w:Nat)(hw:n+i<w):∃d J I,(∀x,x<d->J x<w)/\Ext.prod d (Ext.rv (i+1) (gR g n) J) (i+1) I≠0:=by
 refine⟨i+1,fun x=>n+(i-x),Ext.top (i+1),fun x hx=>by show n+(i-x)<w;omega,?_⟩;rw[Ext.fK (i+1) (V:=Ext.E) (fun y hy x hx=>?_)]
 ·have:=Ext.Dm (i+1)
  unfold Ext.vol at this;rw[this];decide
 ·show gR g n (i+1-1-y) (n+(i-x))=Ext.E y x
  unfold gR Ext.E;rw[if_neg om];by_cases c:x=y
  ·rw[if_pos om,if_pos c]
  ·rw[if_neg om,if_neg c]
theorem join_le{g:List (List Int)}{n:Nat}(h:∀i j,(gt (gt g i) j).natAbs<=9)(i j:Nat):(gR g n i j).natAbs<=9:=by
 unfold gR;split
 ·exact h _ _
 ·split<;>decide
theorem SU:fW Try.prog 27 3 1:=⟨by kernel_rfl,by kernel_rfl,⟨8,by kernel_rfl,om⟩,⟨.int .i64 0,by kernel_rfl,rfl⟩⟩
theorem zI:il Try.prog 3=some (.int .i64 0):=by kernel_rfl
theorem At{h:af}{b n m:Nat}{M:Int}(eM:M=m){cells:List Value}(ho:aJ h b 1 cells)(hb:b<h.next)(hl:cells.length=n)(hn:n<=1000)(hm:m<=1000)(m0:0<m)(fz:cells.all aD=true) :
  cO Try.prog h [27,3] [.slice (some ⟨b,0,none⟩) n (au 1 n),.int .i64 M]=some (.slice (some ⟨h.next,0,none⟩) (n+m) (au 1 (n+m)),(h.kill b).push 1 (cells++List.replicate m (.int .i64 0))):=by
 subst eM;have hT:=SU;obtain⟨by_,rF,nG⟩:=hT.bytes;have hs:n<aS:=by unfold aS;omega
 have gP:jC Try.prog h 3 1 true (.int .i64 (m:Int))=some (m,List.replicate m (.int .i64 0)):=by
  unfold jC;simp only[zI,rF,cond_true];rw[if_pos ⟨om,om,nG,rfl⟩];show some (_,bF [.int .i64 0] _)=_;rw[si];rfl
 have hr:h.aL ⟨b,0,none⟩ n=some cells:=by rw[ho.aL om];simp[<-hl]
 have Gh:(List.replicate m (Value.int IntKind.i64 0)).all aD=true:=by simp[aD]
 unfold cO;simp only[hT.wT,hT.size,rF,uI,zI,cV,gP,ct hs];rw[eQ om,bz (show n+m<=1073741824 by omega),bz nG];have hg:h.m.get b=some (.live true 1 cells):=ho;simp only[cond_false,cond_true,hr,Gh,fz,cT (dr 1 n),Bool.and_self,Bool.true_and,List.length_replicate,Nat.mul_one,Nat.beq_refl,hg,show(Value.int IntKind.i64 0).cells.toList.length.beq 1=true from rfl]
theorem QT(l:List Int){j:Nat}(h:j<l.length):l[j]?=some (gt l (j:Int)):=by
 unfold gt;rw[List.getD_eq_getElem?_getD,show((j:Int)).toNat=j from rfl,List.getElem?_eq_getElem h];rfl
theorem Ext.FO.congr{w k:Nat}{F G:Nat->Ext.aN}(e:∀z,z<k->G z=F z)(h:Ext.FO w k F):Ext.FO w k G:=
 ⟨fun i hi=>by rw[e i hi];exact h.lt i hi,fun i hi=>by rw[e i hi];exact h.pos i hi,fun i j hi hj=>by rw[e i om,e j hj];exact h.inc i j hi hj,fun i j hi hj=>by rw[e i om,e j hj];exact h.red i j hi hj⟩
theorem oC.loose{h0 h h3:af}{sb k w rc nb:Nat}{ra:Option Addr}{bs:Nat->Nat}{A:Nat->Ext.aN}(t:oC h0 h sb k k w ra rc bs A)(x:Ext h h3){v:Ext.aN}(ho:aJ h3 nb 1 ((kM v w).flatMap nC))(hb:h.next<=nb)(xM:nb<h3.next) :
  oC h0 h3 sb k (k+1) w ra rc (fun y=>if y=k then nb else bs y) (Ext.put A k v):=by
 have t3:=t.more x;have en:∀y,y≠k->(if y=k then nb else bs y)=bs y:=fun y hy=>if_neg hy
 have hd:kN (fun y=>if y=k then nb else bs y) w k=kN bs w k:=ik (fun y hy=>by simp only[if_neg (show ¬y=k by omega)]);have dV:=t.rows.lt;have h0n:=t.rows.ext.next;refine⟨⟨t3.rows.ext,fun y hy=>?_,fun y hy=>?_,fun y hy=>?_,fun y z hy hz e=>?_⟩,t3.own,by rw[hd];exact t3.o8,om,t3.s0,t3.s1,t3.fr,fun y hy=>?_,fun ad cW=>⟨(t3.F5 ad cW).1,fun y hy=>?_⟩⟩
 ·by_cases c:y=k
  ·rw[c,if_pos rfl,Ext.gn];exact ho
  ·rw[if_neg c,Ext.fO v c];exact t3.rows.row y om
 ·by_cases c:y=k
  ·rw[if_pos c];omega
  ·rw[if_neg c];exact t3.rows.cJ y om
 ·by_cases c:y=k
  ·rw[if_pos c];exact xM
  ·rw[if_neg c];exact t3.rows.lt y om
 ·by_cases c:y=k<;>by_cases d:z=k
  ·rw[c,d]
  ·rw[if_pos c,if_neg d]at e;have:=dV z om;omega
  ·rw[if_neg c,if_pos d]at e;have:=dV y om;omega
  ·rw[if_neg c,if_neg d]at e;exact t.rows.inj y z om om e
 ·by_cases c:y=k
  ·rw[if_pos c];have:=t.s1;omega
  ·rw[if_neg c];exact t3.SR y om
 ·by_cases c:y=k
  ·rw[if_pos c];have:=t.o8.lt ad cW;omega
  ·rw[if_neg c];exact(t3.F5 ad cW).2 y om
structure Fh(h0 h:af)(k w:Nat)(a:Option Addr)(c:Nat)(bs:Nat->Nat)(F:Nat->Ext.aN):Prop where
 rows:dK h0 h k w bs F
 o8:nK h 1 a k c ((kN bs w k).flatMap Hd.cells)
 fr:jY h0.next a
 F5:∀ad,a=some ad->∀y,y<k->ad.block≠bs y
theorem Fh.more{h0 h h':af}{k w c:Nat}{a:Option Addr}{bs:Nat->Nat}{F:Nat->Ext.aN}(t:Fh h0 h k w a c bs F)(e:Ext h h'):Fh h0 h' k w a c bs F:=⟨t.rows.more e,t.o8.ext e,t.fr,t.F5⟩
theorem Fh.head{h0 h:af}{k w c:Nat}{a:Option Addr}{bs:Nat->Nat}{F:Nat->Ext.aN}(t:Fh h0 h k w a c bs F){y:Nat}(hy:y<k):∃b,a=some ⟨b,0,none⟩/\b<h.next/\h.aL ⟨b,0+y*1,none⟩ 1=some [.slice (some ⟨bs y,0,none⟩) w (au 1 w)]:=by
 rcases t.o8 with ⟨_,q,_⟩|⟨b,e,_,hb,hl,ho⟩
 ·omega
 refine⟨b,e,hb,?_⟩;have r:=aJ.rows ho fF om hb;rw[show(kN bs w k).length=k from bP _ _]at r;obtain⟨b',o,e',_,q⟩:=r.at (i:=(y:Int)) om om;cases e';have:=q 0 1 om om;unfold kN at this;rw[gm _ hy]at this;exact this
theorem oC.grd{h0 h:af}{sb k n w rc:Nat}{ra:Option Addr}{bs:Nat->Nat}{F:Nat->Ext.aN}(t:oC h0 h sb k n w ra rc bs F):Fh h0 h k w ra rc bs F:=
 ⟨⟨t.rows.ext,fun y hy=>t.rows.row y (by have:=t.kn;omega),fun y hy=>t.rows.cJ y (by have:=t.kn;omega),fun y hy=>t.rows.lt y (by have:=t.kn;omega),fun y z hy hz=>t.rows.inj y z (by have:=t.kn;omega) (by have:=t.kn;omega)⟩,t.o8,t.fr,fun ad cW y hy=>(t.F5 ad cW).2 y (by have:=t.kn;omega)⟩
structure VX(h0 h:af)(k w:Nat)(a:Option Addr)(c:Nat)(bs:Nat->Nat):Prop where
 o8:nK h 1 a k c ((kN bs w k).flatMap Hd.cells)
 fr:jY h0.next a
theorem Fi(bs:Nat->Nat)(w k:Nat):kN bs w (k+1)=kN bs w k++[⟨some ⟨bs k,0,none⟩,w,au 1 w⟩]:=tJ _ _
theorem dK.tail{h0 h:af}{k w n m:Nat}{bs:Nat->Nat}{F:Nat->Ext.aN}(t:dK h0 h k w bs F){y:Nat}(hy:y<k)(hw:w=n+m):Rows nC 1 h (some ⟨bs y,0+n*1,none⟩) m (kM (fun j=>F y (n+j)) m):=by
 have r:=t.jB hy;refine⟨?_,fv,om⟩;have:=r.cells.part (i:=n) (m:=m) om;have e:((kM (F y) w).flatMap nC).drop (n*1)=(kM (fun j=>F y (n+j)) m).flatMap nC:=by
  have el:kM (F y) w=kM (F y) n++kM (fun j=>F y (n+j)) m:=by
   apply List.ext_getElem?;intro j;by_cases c:j<w
   ·rw[jO _ c]
    by_cases d:j<n
    ·rw[List.getElem?_append_left (by rw[bP];exact d),jO _ d]
    ·rw[List.getElem?_append_right (by rw[bP];omega),bP,jO _ om,show n+(j-n)=j by omega]
   ·rw[List.getElem?_eq_none (by rw[bP];omega),List.getElem?_eq_none (by rw[List.length_append,bP,bP];omega)]
  rw[el,List.flatMap_append,List.drop_append_of_le_length (by rw[fU fv,bP];omega),List.drop_eq_nil_of_le (by rw[fU fv,bP];omega),List.nil_append]
 rw[e,List.take_of_length_le (by rw[fU fv,bP];omega)]at this;exact this
structure oD(g:List (List Int))(m n:Nat):Prop where
 m1:1<=m
 m4:m<=4
 n1:1<=n
 n4:n<=4
 len:g.length=m
 row:∀i:Int,0<=i->i<m->(gt g i).length=n
 nine:∀i j,(gt (gt g i) j).natAbs<=9
theorem CH{α:Type}[Inhabited α](l:List α){i:Int}(h:¬(0<=i/\i<l.length))(h0:0<=i):gt l i=default:=by
 unfold gt;rw[List.getD_eq_getElem?_getD,List.getElem?_eq_none om];rfl
theorem Good.mat{g:List (List Int)}{B:List Fc}(h:Good g B)(hm:¬Hj g):∃m n,oD g m n:=by
 have m1:=h.m1;have n1:=h.n1;have m4:g.length<=4:=Nat.le_of_not_lt (fun q=>hm (.inl q));have n4:(gt g 0).length<=4:=Nat.le_of_not_lt (fun q=>hm (.inr ⟨0,om,om,q⟩));refine⟨g.length,(gt g 0).length,m1,m4,n1,n4,rfl,h.row,fun i j=>?_⟩;have neg:∀{α:Type} [Inhabited α] (l:List α) (i:Int),i<0->gt l i=gt l 0:=fun l i q=>by unfold gt;rw[show i.toNat=0 by omega];rfl
 have key:∀i j:Int,0<=i->0<=j->(gt (gt g i) j).natAbs<=9:=fun i j i0 j0=>by
  by_cases ci:i<g.length
  ·by_cases cj:j<(gt g i).length
   ·have:=h.UC i i0 ci j j0 cj;omega
   ·rw[CH _ om j0];decide
  ·rw[CH g om i0]
   show(gt ([]:List Int) j).natAbs<=9;rw[CH ([]:List Int) (fun q=>by have:=q.2;simp at this;omega) j0];decide
 by_cases ci:0<=i
 ·by_cases cj:0<=j
  ·exact key i j ci cj
  ·rw[neg _ j om];exact key i 0 ci om
 ·rw[neg _ i om]
  by_cases cj:0<=j
  ·exact key 0 j om cj
  ·rw[neg _ j om];exact key 0 0 om om
structure bH(g:List (List Int))(m n r s:Nat)(A:Nat->Ext.aN):Prop where
 N6:Ext.FO (n+m) m A
 CC:Ext.kH (n+m) m A (gR g n)
 sum:r+s=m
 lo:∀y,y<r->Ext.aj (n+m) (A y)<n
 hi:∀y,r<=y->y<m->n<=Ext.aj (n+m) (A y)
end Go.Proofs.Ytdpbiegfljmhmaa
namespace Go.Proofs.Ytdpbiegfljmhmaa.Ext
structure Pl where
 β:Nat->Nat->Nat
 K:Nat->Nat->Nat
 μ:Nat->Nat->Nat
 U:Nat->Nat
section
variable{P:Pl}{w n m a k:Nat}{F0 F:Nat->aN}
structure Dn(P:Pl)(w m:Nat)(F0:Nat->aN)(a k:Nat)(F:Nat->aN):Prop where
 am:a<m
 CC:kH w m F F0
 top:FO w a F
 lead:∀y,y<a->aj w (F y)<k
 low:∀i c,a<=i->i<m->c<k->F i c=0
 zero:∀i,a<i->i<m->F i k=0
 ne:F a k≠0
 upb:∀y c,y<a->c<w->(F y c).natAbs<=P.U a
 kb:∀c,c<w->(F a c).natAbs<=P.K a c
 lob:∀i c,a<i->i<m->c<w->(F i c).natAbs<=P.β (a+1) c
end
end Go.Proofs.Ytdpbiegfljmhmaa.Ext
namespace Go.Proofs.Ytdpbiegfljmhmaa
open Go.cL
namespace Ext
def bC:Nat->Nat
 |0=>9|1=>162|2=>52488|_=>157464
def bU:Nat->Nat
 |0=>1|1=>18|2=>5832|_=>157464
def uU:Nat->Nat
 |0=>0|1=>162|2=>8503218|3=>1338959222370|_=>210839243950492050
def P1(n:Nat):Pl:=⟨fun a c=>if c<n then bC a else bU a,fun a c=>if c<n then bC (a+1)else bU (a+1),fun a c=>if c<n then bC (a+1)else bU (a+1),uU⟩
end Ext
namespace Ext
def b2(s b:Nat):Nat->Nat
 |0=>b
 |a+1=>if a+1<s then 2*(b2 s b a*b2 s b a)else b2 s b a
def u2(s b:Nat):Nat->Nat
 |0=>0
 |a+1=>u2 s b a+u2 s b a*b2 s b (a+1)+b2 s b (a+1)
end Ext
namespace Ext
theorem zf(f:Nat->Int)(r:Nat):∀s,aT f (r+s)=aT f r+aT (fun i=>f (r+i)) s
 |0=>by show aT f r=aT f r+0;omega
 |s+1=>by
  show aT f (r+s)+f (r+s)=aT f r+(aT (fun i=>f (r+i)) s+f (r+s));rw[zf f r s];omega
theorem Sp.rest{n m r s:Nat}{F:Nat->aN}{v:aN}(hs:r+s=m)(top:Br (n+m) r F)(lead:∀y,y<r->aj (n+m) (F y)<n)(low:∀i c,r<=i->i<m->c<n->F i c=0)(hv:Sp (n+m) m F v)(hz:∀c,c<n->v c=0):Sp m s (fun y j=>F (r+y) (n+j)) (fun j=>v (n+j)):=by
 obtain⟨y,hy⟩:=hv;have z:∀i,i<r->y i=0:=by
  intro i
  induction i using Nat.strongRecOn with
  |_ i ih=>
  intro hi;have p1:=lead i hi;have h1:=hy (aj (n+m) (F i)) om;rw[hz _ p1,Jw (i:=i) m om (fun k hk=>by rw[ih k hk om];omega) (fun k h1 h2=>by
   by_cases c:k<r
   ·rw[bD (w:=n+m) (v:=F k) (top.inc i k h1 c)];omega
   ·rw[low k _ om h2 p1];omega)]at h1
  have h2:=top.pos i hi;rcases Int.mul_eq_zero.1 h1.symm with q|q
  ·exact q
  ·omega
 refine⟨fun i=>y (r+i),fun j hj=>?_⟩;have h1:=hy (n+j) om;rw[<-hs,zf]at h1;rw[aO (g:=fun _=>0) r (fun i hi=>by rw[z i hi];omega),mS,Int.zero_add]at h1;exact h1
end Ext
set_option maxRecDepth 100000
structure F6(g:List (List Int))(n R C i j:Nat)(M:Nat->Nat->Int):Prop where
 up:∀r c,r<(Ext.bl i R).length->c<(Ext.bl n C).length->M r c=Ext.el g (gt (Ext.bl i R) (r:Int)) (gt (Ext.bl n C) (c:Int))
 cur:∀c,c<(Ext.bl j C).length->M (Ext.bl i R).length c=Ext.el g i (gt (Ext.bl j C) (c:Int))
theorem F6.skip{g:List (List Int)}{n R C i j:Nat}{M:Nat->Nat->Int}(t:F6 g n R C i j M)(h:C.testBit j=false):F6 g n R C i (j+1) M:=by
 refine⟨t.up,fun c hc=>?_⟩;rw[Ext.my,if_neg (by rw[h];decide)]at hc ⊢;exact t.cur c hc
theorem F6.put{g:List (List Int)}{n R C i j:Nat}{M:Nat->Nat->Int}(t:F6 g n R C i j M)(h:C.testBit j=true):F6 g n R C i (j+1) (tD M (Ext.bl i R).length (Ext.bl j C).length (Ext.el g i j)):=by
 refine⟨fun r c hr hc=>?_,fun c hc=>?_⟩
 ·unfold tD;rw[if_neg om];exact t.up r c hr hc
 ·rw[Ext.my,if_pos h]at hc ⊢
  rw[List.length_append,List.length_singleton]at hc;rw[Ext.IM _ _ om];unfold tD;by_cases e:c<(Ext.bl j C).length
  ·rw[if_neg om,if_pos e];exact t.cur c e
  ·rw[if_pos om,if_neg e]
theorem F6.next{g:List (List Int)}{n R C i:Nat}{M:Nat->Nat->Int}(t:F6 g n R C i n M)(h:R.testBit i=true):F6 g n R C (i+1) 0 M:=by
 refine⟨fun r c hr hc=>?_,fun c hc=>absurd hc (by show ¬c<0;omega)⟩;rw[Ext.my,if_pos h]at hr ⊢;rw[List.length_append,List.length_singleton]at hr;rw[Ext.IM _ _ om];by_cases e:r<(Ext.bl i R).length
 ·rw[if_pos e];exact t.up r c e hc
 ·rw[if_neg e,show r=(Ext.bl i R).length by omega];exact t.cur c hc
theorem F6.aaT{g:List (List Int)}{n R C i:Nat}{M:Nat->Nat->Int}(t:F6 g n R C i 0 M)(h:R.testBit i=false):F6 g n R C (i+1) 0 M:=by
 refine⟨fun r c hr hc=>?_,fun c hc=>absurd hc (by show ¬c<0;omega)⟩;rw[Ext.my,if_neg (by rw[h];decide)]at hr ⊢;exact t.up r c hr hc
variable{F:bg}{call head arith a0 d0 fP f0 g0 neg k0 l0 ofNat n0 place o0 nz p0 rd wr push next u0 v0 w0 z0 d1 f1 g1 l1 d2 part f2 l2 b3 fresh aw aH wrote bZ lt ne mU c3 d3 yn f3 g3 i3 j3 bytes l3:_}(hA:AP F ⟨call,head,arith,a0,d0,fP,f0,g0,neg,k0,l0,ofNat,n0,place,o0,nz,p0,rd,wr,push,next,u0,v0,w0,z0,d1,f1,g1,l1,d2,part,f2,l2,b3,fresh,aw,aH,wrote,bZ,lt,ne,mU,c3,d3,yn,f3,g3,i3,j3,bytes,l3⟩)
include hA
set_option maxHeartbeats 1000000 in
theorem N8(hI:sz F){h0:af}(gq:h0.low<=h0.next){sb k w cw:Nat}{F0:Nat->Ext.aN}(hw:w<=1000)(qv:cw=au 1 w)(hM:∀i,i<k+1->∀j,(F0 i j).natAbs<=9){Q:Exit->SS->Prop}
  (hQ:∀(h':af) (kn:Nat) (T:List (Nat×List Value)) ra rc bs A,oC h0 h' sb (k+1) (k+1) w ra rc bs A->Ext.su w (k+1) (k+1) A F0->Q (.exit 0) ⟨[(0,.pointer (some ⟨sb,0,none⟩)),(4,.func (.func 98) #[.pointer (some ⟨sb,0,none⟩)] #[])],kn,T,h'⟩) :
  ∀(D M:Nat) (h:af) (ra:Option Addr) (rc:Nat) (bs:Nat->Nat) (A:Nat->Ext.aN),oC h0 h sb k (k+1) w ra rc bs A->Ext.F4 w k A F0 D M->
   head 85 1 0 ⟨[(0,.pointer (some ⟨sb,0,none⟩)),(1,.slice (some ⟨bs k,0,none⟩) w cw),(4,.func (.func 98) #[.pointer (some ⟨sb,0,none⟩)] #[])],0,[],h⟩ Q:=by
 intro D
 induction D using Nat.strongRecOn with
 |_ D ihD=>
 intro M
 induction M using Nat.strongRecOn with
 |_ M ihM=>
 intro h ra rc bs A m r;have k3:=r.base.k3;have aq:h.low<=h.next:=m.rows.ext.az gq;obtain⟨lo1,b1⟩:=r.low;have Lp:=r.base.lead;refine hA.ar Try.func85 uK (zc ?_);refine tL hA (sb:=sb) (r:=k) gq om om hw (fun y hy _=>⟨r.base.gD.lt y hy,r.base.gD.pos y hy⟩) lo1 m qv (fun h1 m1 _=>?_);have I6:h1.low<=h1.next:=m1.rows.ext.az gq;obtain⟨u,eu⟩:∃z,z=Ext.bK w A (Ext.aj w (A k)) k (A k):=⟨_,rfl⟩;rw[<-eu]at m1 b1;obtain⟨A1,eA⟩:∃z,z=Ext.put A k u:=⟨_,rfl⟩;have SV:A1 k=u:=by rw[eA];exact Ext.gn u
 have UE:∀y,y<k->A1 y=A y:=fun y hy=>by rw[eA];exact Ext.fO u om
 rw[<-eA]at m1;have XX:Ext.aj w u=Ext.aj w (A k):=by rw[eu];exact Ext.Fg k
 refine zq ?_;refine rh hA I6 hw (fun x hx=>m1.rows.el (show k<k+1 by omega) hx) (fun C eC=>⟨C,rfl,?_⟩);rw[SV,XX]at eC;obtain⟨W,eW⟩:∃z:Int,z=w:=⟨_,rfl⟩;have e1:ofNat w=W:=by rw[eW];exact aR hA w
 (refine zq ?_;repeat ((first|rw[e1]);refine zq ?_))
 refine br (C=W) (by rw[dg hA]) (fun q=>om) (fun _=>?_)<;>refine zc ?_;refine zq ?_;refine KG hA (sb:=sb) (r:=k) gq om om hw m1 eC qv (fun kn T a I eI ak lo hi=>?_) k 0 0 om om rfl (fun y hy=>om);obtain⟨K,eK⟩:∃z:Int,z=k:=⟨_,rfl⟩;have e2:ofNat k=K:=by rw[eK];exact aR hA k
 have r1:rd h1 sb (bZ 0 0) 1 [.slice ra k rc]:=by rw[cN hA];exact iQ hA (m1.own.aL (o:=0) (n:=1) (Nat.le_refl _))
 (refine zq ?_;repeat ((first|rw[e2]);refine zq ?_))
 apply zjp (∀z,a<=z->z<k->Ext.aj w (A k)<Ext.aj w (A z))
 ·intro bx
  refine br (I=K) (by rw[dg hA]) (fun ca=>?_) (fun ca=>?_)<;>refine zc ?_
  ·refine zq ?_
   exact bx.o (fun z h1 h2=>om)
  have ha:a<k:=om
  obtain⟨b,rfl,hb,q1⟩:=m1.head ha;rw[<-qv]at q1;have r2:rd h1 b (place 0 I 1) 1 [.slice (some ⟨bs a,0,none⟩) w cw]:=aC hA (by rw[eI];exact q1);refine zq ?_;refine rh hA I6 hw (fun x hx=>m1.rows.el (show a<k+1 by omega) hx) (fun L eL=>⟨L,rfl,?_⟩);rw[UE a ha]at eL;refine zq ?_;refine br (C<L) (by rw[fg hA]) (fun cl=>?_) (fun cl=>?_)<;>refine zc ?_
  ·refine zq ?_
   exact bx.o (fun z h1 h2=>by
    by_cases e:z=a
    ·rw[e];omega
    ·have:=r.base.gD.inc a z om h2;omega)
  ·have he:Ext.aj w (A a)=Ext.aj w (A k):=by have:=hi ha;rw[UE a ha]at this;omega
   obtain⟨q,eq⟩:∃z,z=u (Ext.aj w (A k)) / A a (Ext.aj w (A k)):=⟨_,rfl⟩;obtain⟨u2,eu2⟩:∃z,z=fun j=>u j-q*A a j:=⟨_,rfl⟩
   obtain⟨sr,sn⟩:=r.step ha he eu eq eu2;obtain⟨x,ex⟩:∃z,z=u (Ext.aj w (A k)):=⟨_,rfl⟩;obtain⟨y,ey⟩:∃z,z=A a (Ext.aj w (A k)):=⟨_,rfl⟩;have hy:0<y:=by rw[ey,<-he];exact r.base.gD.pos a ha
   have x9:Ext h1 (aH h1 24):=av hA _ _;have m9:=m1.more x9;have s1:rd (aH h1 24) sb (bZ 0 0) 1 [.slice (some ⟨b,0,none⟩) k rc]:=by rw[cN hA];exact iQ hA (m9.own.aL (o:=0) (n:=1) (Nat.le_refl _))
   have s2:rd (aH h1 24) b (place 0 I 1) 1 [.slice (some ⟨bs a,0,none⟩) w cw]:=aC hA (by
    rw[eI];obtain⟨b',e',_,q2⟩:=m9.head ha;cases e';rw[<-qv]at q2;exact q2)
   have s3:rd (aH h1 24) (bs k) (place 0 C 1) 1 [.int .i64 x]:=aC hA (by
    rw[eC,ex,<-SV];exact m9.rows.el (show k<k+1 by omega) Lp)
   have s4:rd (aH h1 24) (bs a) (place 0 C 1) 1 [.int .i64 y]:=aC hA (by
    rw[eC,ey,<-UE a ha];exact m9.rows.el (show a<k+1 by omega) Lp)
   refine zq ?_;have hx:=(sr (Ext.aj w (A k))).1;rw[<-ex]at hx;refine ri hA hy om om (aA hA _) (fun q' XZ=>⟨q',rfl,?_⟩);obtain rfl:q'=q:=by rw[XZ,eq,ex,ey]
   refine zq ?_;obtain⟨X,hX⟩:∃z,z=aw (aH h1 24) (fresh (aH h1 24)):=⟨_,rfl⟩;have xX:Ext h1 X:=by rw[hX];exact cU hA I6 x9 (.refl _)
   rw[<-hX];refine CG hA (aA hA X) (show k<k+1 by omega) (show a<k+1 by omega) hw (fun j hj=>by rw[SV,UE a ha];exact sr j) (m1.rows.more (xX.trans (gK hA X))) (fun h' m' ZU=>?_);rw[SV,UE a ha,<-eu2,eA,Ext.jg]at m';obtain⟨h2,PD⟩:∃z,z=aw X h':=⟨_,rfl⟩;have m2:dK h0 h2 (k+1) w bs (Ext.put A k u2):=by
    rw[PD,eV hA];exact⟨Ext.Bq m'.ext (m1.rows.ext.trans xX) gq,m'.row,m'.cJ,m'.lt,m'.inj⟩
   have VW:kp h1 h2 (bs k):=by
    have:=((kp.refl h1 (bs k)).ext (xX.trans (gK hA X))).trans ZU;rw[PD,eV hA];exact⟨this.next,this.get⟩
   have M2:=m1.put (show k<k+1 by omega) m2 VW;have abp:h2.low<=h2.next:=M2.rows.ext.az gq;obtain⟨x2,Pz⟩:∃z,z=u2 (Ext.aj w (A k)):=⟨_,rfl⟩;have t1:rd h2 (bs k) (place 0 C 1) 1 [.int .i64 x2]:=aC hA (by
    have:=m2.el (show k<k+1 by omega) Lp;rw[Ext.gn]at this;rw[eC,Pz];exact this)
   have fp:∀b0,b0<h1.next->mU false (wrote (aH h1 24) (fresh (aH h1 24))) false b0 (bZ (next h1) 24):=fun b0 nE=>Ti hA (by rw[mj hA,kv hA]) (by rw[cN hA,aW hA];omega)
   refine zq ?_;refine⟨fp sb m1.s1,fp b hb,?_⟩;refine zc ?_;rw[<-PD];refine zq ?_;refine br (x2≠0) (by rw[cD hA]) (fun c0=>?_) (fun c0=>?_)<;>refine zc ?_
   rotate_left
   ·rcases sn with ⟨_,D',M',Xb,rn⟩|⟨n1,_⟩
    ·exact ihD D' Xb M' h2 _ rc bs _ M2 rn
    ·exfalso;rw[he,<-Pz]at n1;exact c0 n1
   rcases sn with ⟨n1,_⟩|⟨n1,n2,n3,n4,M',m7,rn⟩
   ·exfalso;rw[he,<-Pz]at n1;exact c0 n1
   have p2k:Ext.put A k u2 k=u2:=Ext.gn u2;have p2n:∀z,z<k->Ext.put A k u2 z=A z:=fun z hz=>Ext.fO u2 om
   refine tL hA (sb:=sb) (r:=k) gq om om hw (fun z hz _=>by rw[p2n z hz];exact⟨r.base.gD.lt z hz,r.base.gD.pos z hz⟩) (by rw[p2k,n2];exact n3.congr p2n) M2 qv (fun h3 m3 _=>?_);rw[p2k,n2,Ext.lQ p2n k (Nat.le_refl _),Ext.jg]at m3;obtain⟨u3,eu3⟩:∃z,z=Ext.bK w A (Ext.aj w (A a)) k u2:=⟨_,rfl⟩;rw[<-eu3]at m3 rn;have abq:h3.low<=h3.next:=m3.rows.ext.az gq;have x16:Ext h3 (aH h3 16):=av hA _ _;have m16:=m3.more x16;have y1:rd (aH h3 16) sb (bZ 0 0) 1 [.slice (some ⟨b,0,none⟩) k rc]:=by rw[cN hA];exact iQ hA (m16.own.aL (o:=0) (n:=1) (Nat.le_refl _))
   have y2:rd (aH h3 16) b (place 0 I 1) 1 [.slice (some ⟨bs a,0,none⟩) w cw]:=aC hA (by
    rw[eI];obtain⟨b',e',_,q2⟩:=m16.head ha;cases e';rw[<-qv]at q2;exact q2)
   obtain⟨b4,h4,e4,w4,m4⟩:=m16.swap ha;cases e4;have y3:wr (aH h3 16) b (place 0 I 1) [.slice (some ⟨bs k,0,none⟩) w cw] h4:=wZ hA (by rw[eI,qv];exact w4);refine zq ?_;have fin:=ihM M' m7 h4 _ rc (fun y=>bs (I2 a k y)) (Ext.put (Ext.put A a u3) k (A a)) (m4.congr (fun y x hy hx=>?_)) rn
   ·rw[show I2 a k k=a by unfold I2;rw[if_neg om,if_pos rfl]]at fin
    exact fin
   ·unfold I2
    by_cases c1:y=a
    ·rw[if_pos c1,c1,Ext.gn,Ext.fO _ om,Ext.gn]
    ·rw[if_neg c1]
     by_cases c2:y=k
     ·rw[if_pos c2,c2,Ext.gn,Ext.fO _ om]
     ·rw[if_neg c2,Ext.fO _ c2,Ext.fO _ c2,Ext.fO _ c1]
 ·intro Ei
  have ZR:∀y,y<a->Ext.aj w (A y)<Ext.aj w (A k):=fun y hy=>by have:=lo y hy;rw[UE y om]at this;exact this
  obtain⟨o1,o2,o3,o4⟩:=r.own hM ak ZR Ei eu;obtain⟨x,ex⟩:∃z,z=u (Ext.aj w (A k)):=⟨_,rfl⟩;have r3:rd h1 (bs k) (place 0 C 1) 1 [.int .i64 x]:=aC hA (by
   rw[eC,ex,<-SV];exact m1.rows.el (show k<k+1 by omega) Lp)
  have hu0:u (Ext.aj w (A k))≠0:=by
   have:=Ext.lg (w:=w) (v:=u) (by rw[XX];exact Lp);rw[XX]at this;exact this
  refine zq ?_;apply zjh (fun hh=>∃A',oC h0 hh sb k (k+1) w ra rc bs A'/\(∀z,z<k->A' z=A z)/\Ext.su w (k+1) (k+1) (Ext.jP A a (A' k)) F0)
  ·intro bx
   refine br (x<0) (by rw[aB hA]) (fun c0=>?_) (fun c0=>?_)<;>refine zc ?_
   rotate_left
   ·refine zq ?_
    obtain⟨g,eg⟩:∃g,g=h1:=⟨_,rfl⟩;rw[<-eg];exact bx.o g ⟨A1,by rw[eg];exact m1,UE,by rw[SV];exact o3 om⟩
   obtain⟨v,ev⟩:∃z,z=fun j=>u j-2*u j:=⟨_,rfl⟩
   obtain⟨v1,v2,v3⟩:=o4 om v ev;refine zq ?_;refine CG hA I6 (show k<k+1 by omega) (show k<k+1 by omega) hw (fun j hj=>by rw[SV];have:=o2 j;omega) m1.rows (fun h2 m2 VW=>?_);rw[SV,<-ev,eA,Ext.jg]at m2;have M2:=m1.put (show k<k+1 by omega) m2 VW;have pk:Ext.put A k v k=v:=Ext.gn v;have pn:∀z,z<k->Ext.put A k v z=A z:=fun z hz=>Ext.fO v om
   refine zq ?_;refine tL hA (sb:=sb) (r:=k) gq om om hw (fun z hz _=>by rw[pn z hz];exact⟨r.base.gD.lt z hz,r.base.gD.pos z hz⟩) (by rw[pk,v1];exact v2.congr pn) M2 qv (fun h3 m3 _=>?_);rw[pk,v1,Ext.lQ pn k (Nat.le_refl _),Ext.jg]at m3;have r5:rd h3 sb (bZ 0 0) 1 [.slice ra k rc]:=by rw[cN hA];exact iQ hA (m3.own.aL (o:=0) (n:=1) (Nat.le_refl _))
   refine zq ?_;exact bx.o h3 ⟨_,m3,fun z hz=>Ext.fO _ om,by rw[Ext.gn];exact v3⟩
  rintro hh ⟨A',m2,a2n,sk⟩;have abr:hh.low<=hh.next:=m2.rows.ext.az gq;have xp:Ext hh (push hh 1 [.slice (some ⟨bs k,0,none⟩) w cw]):=by rw[aV hA];exact .push _ _ _
  have mp:=m2.more xp;have ov:aJ (push hh 1 [.slice (some ⟨bs k,0,none⟩) w cw]) (next hh) 1 [.slice (some ⟨bs k,0,none⟩) w cw]:=by rw[aV hA,aW hA];exact aJ.push _ _ _
  have np:(push hh 1 [.slice (some ⟨bs k,0,none⟩) w cw]).next=hh.next+1:=by rw[aV hA];rfl
  have nv:next hh=hh.next:=aW hA hh;have dV:=m2.o8.lt;generalize push hh 1 [.slice (some ⟨bs k,0,none⟩) w cw]=hp at *;rw[nv]at ov ⊢;generalize hh.next=vb at *;refine N9 hA hI gq mp.rows.ext om mp.o8 mp.fr ak eI (by rw[qv]at ov;exact ov) om (fun ad cW=>by have:=dV ad cW;omega) (fun b h2 x2 n2 g2 b1 b2 o2=>?_);obtain⟨h3,w3,m3⟩:=mp.ins ak x2 n2 g2 b1 b2 o2;have m4:oC h0 h3 sb (k+1) (k+1) w (some ⟨b,0,none⟩) (au 1 (k+1)) (fun y=>bs (rD a k y)) (Ext.jP A a (A' k)):=m3.congr (fun y x hy hx=>by
   show A' (rD a k y) x=Ext.jP A a (A' k) y x;rw[KH (F:=A') (k:=k) ak y hy];unfold Ext.jP;by_cases c1:y<a
   ·rw[if_pos c1,if_pos c1,a2n y om]
   ·rw[if_neg c1,if_neg c1]
    by_cases c2:y=a
    ·rw[if_pos c2,if_pos c2]
    ·rw[if_neg c2,if_neg c2,a2n _ om])
  have hq:=fun kn T=>hQ h3 kn T _ _ _ _ m4 sk
  generalize au 1 (k+1)=cc at *;generalize k+1=k1 at *;have w3:wr h2 sb (bZ 0 0) [.slice (some ⟨b,0,none⟩) k1 cc] h3:=by rw[cN hA];exact kI hA w3
  refine⟨_,_,_,rfl,?_⟩;refine zq ?_;exact hq _ _
theorem KI{h0:af}(gq:h0.low<=h0.next){sb K w:Nat}{ra:Option Addr}{rc kn:Nat}{T:List (Nat×List Value)}{bs:Nat->Nat}{F0:Nat->Ext.aN}(hw:w<=1000){Q:Exit->SS->Prop}
  (hQ:∀(h':af) A,oC h0 h' sb K K w ra rc bs A->Ext.su w K 0 A F0->Q (.exit 4) ⟨[],kn,T,h'⟩) :
  ∀(i:Nat) (I:Int) (h:af) (A:Nat->Ext.aN),i<=K->I=(i:Int)-1->oC h0 h sb K K w ra rc bs A->Ext.su w K i A F0->
   head 85 17 kn ⟨[(0,.pointer (some ⟨sb,0,none⟩)),(4,.func (.func 98) #[.pointer (some ⟨sb,0,none⟩)] #[]),(7,.int .i64 I)],kn,T,h⟩ Q:=by
 intro i
 induction i with
 |zero=>
  intro I h A hi eI m sk;refine hA.ar Try.func85 uK (zc ?_);refine br (0<=I) (by rw[cA hA]) (fun q=>om) (fun _=>?_)<;>refine zc ?_;exact hQ h A m sk
 |succ i ih=>
 intro I h A hi eI m sk;have k4:=sk.k4;have aq:h.low<=h.next:=m.rows.ext.az gq;obtain⟨lo,sk2⟩:=sk.step om;obtain⟨b,rfl,hb,q1⟩:=m.head (y:=i) om;obtain⟨cw,qv⟩:∃z,z=au 1 w:=⟨_,rfl⟩;rw[<-qv]at q1;have r1:rd h sb (bZ 0 0) 1 [.slice (some ⟨b,0,none⟩) K rc]:=by rw[cN hA];exact iQ hA (m.own.aL (o:=0) (n:=1) (Nat.le_refl _))
 have r2:rd h b (place 0 I 1) 1 [.slice (some ⟨bs i,0,none⟩) w cw]:=aC hA (by rw[show I.toNat=i by omega];exact q1);refine hA.ar Try.func85 uK (zc ?_);refine br (0<=I) (by rw[cA hA]) (fun _=>?_) (fun q=>om)<;>refine zc ?_;refine zq ?_;refine tL hA (sb:=sb) (r:=i) gq om om hw (fun y hy _=>⟨sk.gD.lt y hy,sk.gD.pos y hy⟩) lo m qv (fun h1 m1 _=>?_);refine zq ?_;rw[bR hA om om];exact ih (I-1) h1 _ om om m1 sk2
theorem UF(hI:sz F){h0 h:af}(gq:h0.low<=h0.next){sb k w cw rc D M:Nat}{ra:Option Addr}{bs:Nat->Nat}{A F0:Nat->Ext.aN}(hw:w<=1000)(qv:cw=au 1 w)(hM:∀i,i<k+1->∀j,(F0 i j).natAbs<=9)(m:oC h0 h sb k (k+1) w ra rc bs A)(r:Ext.F4 w k A F0 D M){Q:Value->af->Prop}
  (hQ:∀h' VY VZ X0 A',oC h0 h' sb (k+1) (k+1) w VY VZ X0 A'->Ext.su w (k+1) 0 A' F0->Q (.tuple #[]) h') :
  call 85 [.pointer (some ⟨sb,0,none⟩),.slice (some ⟨bs k,0,none⟩) w cw] h Q:=by
 have aq:h.low<=h.next:=m.rows.ext.az gq;refine hA.aQ Try.func85 uK (hA.alike _ _ _ rfl) aq (zc ?_);refine zq ?_;refine N8 hA hI (sb:=sb) gq hw qv hM (fun h1 kn T VY VZ X0 A1 m1 sk=>?_) D M h ra rc bs A m r;obtain⟨K,eK⟩:∃z:Int,z=((k+1:Nat):Int):=⟨_,rfl⟩;have e1:ofNat (k+1)=K:=by rw[eK];exact aR hA _
 have r1:rd h1 sb (bZ 0 0) 1 [.slice VY (k+1) VZ]:=by rw[cN hA];exact iQ hA (m1.own.aL (o:=0) (n:=1) (Nat.le_refl _))
 have k3:=sk.k4;generalize FW:k+1=k1 at *
 (refine zq ?_;repeat ((first|rw[e1]);refine zq ?_))
 rw[bR hA om om];refine KI hA (sb:=sb) gq hw (fun h2 A2 m2 sk2=>?_) k1 (K-1) h1 A1 (Nat.le_refl _) om m1 sk;refine zc ?_;exact hQ h2 VY VZ X0 A2 m2 sk2
theorem zg{h:af}(aq:h.low<=h.next){b o n c:Nat}{l:List Int}(hl:Rows nC 1 h (some ⟨b,o,none⟩) n l)(hn:n<=1000){Q:Value->af->Prop}
  (hQ:∀h' b' c',Ge h' 1 b' n c' (l.flatMap nC)->Ext h h'->h.next<=b'->Q (.slice (some ⟨b',0,none⟩) n c') h'):call 57 [.slice (some ⟨b,o,none⟩) n c] h Q:=by
 refine hA.aQ Try.func57 x57.2 (hA.alike _ _ _ rfl) aq (zc ?_);rw[u9 hA,aV hA,aW hA];have hp:Ge (h.push 1 []) 1 h.next 0 0 []:=⟨aJ.push h 1 [],by simp[af.push],rfl,.inl ⟨rfl,rfl⟩⟩;obtain⟨b',c',h',k1,k2,k3⟩:=G9 SU SU.wT (c2:=c) hp (hl.ext (.push h 1 [])).cells rfl (ph Ff l) om;obtain⟨x1,x2⟩:=k3 h (.push h 1 []) (Nat.le_refl _);rw[Nat.zero_add]at k1 k2;refine⟨_,_,_,h',k1,?_⟩;refine zc ?_;exact hQ h' b' c' (by simpa using k2) x1 x2
set_option maxHeartbeats 1000000 in
theorem Oa(hI:sz F){h0:af}(gq:h0.low<=h0.next){sb m n w ac:Nat}{aa:Option Addr}{gA:List Hd}{g:List (List Int)}(hw:w=n+m)(n1:1<=n)(n4:n<=4)(m4:m<=4)(hg:rC nC 1 h0 aa m gA g)(hn:∀y:Int,0<=y->y<m->(gt gA y).n=n)(h9:∀i j,(gt (gt g i) j).natAbs<=9){M:Int}(eM:M=m){Q:Exit->SS->Prop}
  (hQ:∀(h':af) (kn:Nat) (T:List (Nat×List Value)) ra rc bs A,oC h0 h' sb m m w ra rc bs A->Ext.FO w m A->Ext.kH w m A (gR g n)->Q (.exit 0) ⟨[(3,.pointer (some ⟨sb,0,none⟩))],kn,T,h'⟩) :
  ∀(d i:Nat) (I:Int) (h:af) (ra:Option Addr) (rc:Nat) (bs:Nat->Nat) (A:Nat->Ext.aN),m-i<=d->i<=m->I=i->oC h0 h sb i i w ra rc bs A->Ext.FO w i A->Ext.kH w i A (gR g n)->
   head 55 3 0 ⟨[(0,.slice aa m ac),(3,.pointer (some ⟨sb,0,none⟩)),(7,.slice aa m ac),(8,.int .i64 M),(9,.int .i64 I)],0,[],h⟩ Q:=by
 refine oR (fun d ih=>?_);intro i I h ra rc bs A hd hi eI t hf hl;by_cases ci:i<m
 rotate_left
 ·refine hA.ar Try.func55 x55.2 (zc ?_)
  refine br (I<M) (by rw[aB hA]) (fun q=>om) (fun _=>?_)<;>refine zc ?_;obtain rfl:i=m:=om
  exact hQ h _ _ ra rc bs A t hf hl
 obtain⟨d,rfl⟩:∃k,d=k+1:=⟨d-1,om⟩
 replace ih:=ih d rfl
 have aq:h.low<=h.next:=t.rows.ext.az gq;have gh:=hg.ext t.rows.ext;obtain⟨ab,ao,rfl,_,q1⟩:=gh.hd.at (i:=I) om om;have q2:=q1 0 1 om om;have row:=gh.row I om om;have rl:=hn I om om;obtain⟨b,o,eb,_⟩:=row.at (i:=0) om (by rw[rl];omega);obtain⟨hc,ehc⟩:∃z,z=(gt gA I).c:=⟨_,rfl⟩;have DO:((gt gA I).cells.drop 0).take 1=[.slice (some ⟨b,o,none⟩) n hc]:=by
  unfold Hd.cells;rw[eb,rl,ehc];rfl
 rw[DO]at q2;have r1:rd h ab (place ao I 1) 1 [.slice (some ⟨b,o,none⟩) n hc]:=aC hA q2;rw[eb,rl]at row;have e1:ofNat m=M:=by rw[eM];exact aR hA m
 obtain⟨N,eN⟩:∃z:Int,z=n:=⟨_,rfl⟩;have e2:ofNat n=N:=by rw[eN];exact aR hA n
 refine hA.ar Try.func55 x55.2 (zc ?_);refine br (I<M) (by rw[aB hA]) (fun _=>?_) (fun q=>om)<;>refine zc ?_;refine zq ?_;refine zg hA aq row om (fun h1 b1 c1 o1 x1 lb=>⟨_,_,_,rfl,?_⟩)
 (refine zq ?_;repeat ((first|rw[e1]);refine zq ?_))
 rw[u9 hA];obtain⟨k1,k2,k3,k4⟩:=o1;have X5:c1=au 1 n:=by rcases k4 with ⟨_,q⟩|q;omega;exact q
 have aaU:(gt g I).length=n:=row.len;refine⟨_,_,_,_,by rw[X5];exact At (m:=m) eM k1 k2 om om om om (ph Ff _),?_⟩;obtain⟨h2,PD⟩:∃z,z=(h1.kill b1).push 1 ((gt g I).flatMap nC++List.replicate m (Value.int IntKind.i64 0)):=⟨_,rfl⟩;have x2:Ext h h2:=by rw[PD];exact(x1.kill lb).trans (.push _ _ _)
 have nb0:h.next<=h1.next:=x1.next;have nb1:h1.next<h2.next:=by rw[PD];exact Nat.lt_succ_self _
 have o2:aJ h2 h1.next 1 ((gt g I).flatMap nC++List.replicate m (Value.int IntKind.i64 0)):=by rw[PD];exact aJ.push (h1.kill b1) 1 _
 rw[<-PD];obtain⟨f,ef⟩:∃z:Nat->Int,z=fun j=>if j<n then gt (gt g I) (j:Int)else 0:=⟨_,rfl⟩
 have ecs:(gt g I).flatMap nC++List.replicate m (Value.int IntKind.i64 0)=(kM f w).flatMap nC:=by
  have e1:List.replicate m (Value.int IntKind.i64 0)=(List.replicate m (0:Int)).flatMap nC:=by
   have:∀k,List.replicate k (Value.int IntKind.i64 0)=(List.replicate k (0:Int)).flatMap nC:=fun k=>by
    induction k with
    |zero=>rfl
    |succ k ih=>rw[List.replicate_succ,List.replicate_succ,List.flatMap_cons,<-ih];rfl
   exact this m
  rw[e1,<-List.flatMap_append]
  congr 1
  apply List.ext_getElem?;intro j;by_cases c:j<w
  ·rw[jO f c,ef]
   by_cases c2:j<n
   ·rw[List.getElem?_append_left om,QT _ om]
    simp only[if_pos c2]
   ·rw[List.getElem?_append_right om,List.getElem?_replicate,if_pos om]
    simp only[if_neg c2]
  ·rw[List.getElem?_eq_none (by rw[List.length_append,List.length_replicate,aaU];omega),List.getElem?_eq_none (by rw[bP];omega)]
 rw[ecs]at o2;obtain⟨h3,w1,w2,w3⟩:=aJ.setRow o2 fv (i:=n+i) (by rw[bP];omega) (1:Int);have x3:Ext h h3:=w3.ext x2 nb0;have e3:(kM f w).set (n+i) 1=kM (gR g n i) w:=by
  rw[wv];refine ik (fun j hj=>?_);unfold gR;rw[ef,<-eI];by_cases c:j=n+i
  ·rw[if_pos c,if_neg om,if_pos c]
  ·rw[if_neg c]
   by_cases c2:j<n
   ·simp only[if_pos c2]
   ·simp only[if_neg c2,if_neg c]
 rw[e3]at w2;have t3:=t.loose x3 w2 nb0 (by rw[w3.next];exact nb1);generalize hnb:h1.next=nb at *;have a3:arith .add .i64 N I=N+I:=aF hA om om;obtain⟨J,eJ⟩:∃z:Int,z=N+I:=⟨_,rfl⟩;rw[<-eJ]at a3;have w1:wr h2 nb (place 0 J 1) [.int .i64 1] h3:=wZ hA (by rw[show 0+J.toNat*1=(n+i)*1 by omega];exact w1);obtain⟨cw,qv⟩:∃z,z=au 1 (n+m):=⟨_,rfl⟩;rw[<-qv];obtain⟨wn,ewn⟩:∃z,z=n+m:=⟨_,rfl⟩;rw[<-ewn]
 (refine zq ?_;repeat ((first|rw[e2]|rw[a3]);refine zq ?_))
 have en:∀z,z<i->Ext.put A i (gR g n i) z=A z:=fun z hz=>Ext.fO _ om
 obtain⟨D,MM,rn⟩:=Ext.F4.start (w:=w) (k:=i) (A:=Ext.put A i (gR g n i)) (F0:=gR g n) (hf.congr en) ((Ext.kH.of_eq en).trans hl) (fun y _ j=>join_le h9 y j) om (QS g n i w om) (Ext.gn _);obtain⟨bs2,ebs⟩:∃z,z=fun y=>if y=i then nb else bs y:=⟨_,rfl⟩
 rw[<-ebs]at t3;have ZV:nb=bs2 i:=by rw[ebs];simp only[if_true]
 have aaV:wn=w:=om
 rw[aaV,ZV];refine UF hA hI (sb:=sb) (bs:=bs2) gq om (by rw[qv,hw]) (fun y _ j=>join_le h9 y j) t3 rn (fun h4 VY VZ X0 A' t4 sk=>?_);refine zq ?_;rw[aF hA om om];exact ih (i+1) (I+1) h4 VY VZ X0 A' om om om t4 sk.N6 sk.CC
theorem Hn(hI:sz F){h:af}(aq:h.low<=h.next){m n w ac:Nat}{aa:Option Addr}{gA:List Hd}{g:List (List Int)}(hw:w=n+m)(n1:1<=n)(n4:n<=4)(m4:m<=4)(hg:rC nC 1 h aa m gA g)(hn:∀y:Int,0<=y->y<m->(gt gA y).n=n)(h9:∀i j,(gt (gt g i) j).natAbs<=9){Q:Value->af->Prop}
  (hQ:∀h' sb ra rc bs A,oC h h' sb m m w ra rc bs A->Ext.FO w m A->Ext.kH w m A (gR g n)->Q (.slice ra m rc) h') :
  call 55 [.slice aa m ac] h Q:=by
 obtain⟨M,eM⟩:∃z:Int,z=m:=⟨_,rfl⟩;have e1:ofNat m=M:=by rw[eM];exact aR hA m
 refine hA.aQ Try.func55 x55.2 (hA.alike _ _ _ rfl) aq (zc ?_)
 (refine zq ?_;repeat ((first|rw[e1]);refine zq ?_))
 have xp:Ext h (push h 1 [.slice none 0 0]):=by rw[aV hA];exact .push _ _ _
 have t0:oC h (push h 1 [.slice none 0 0]) (next h) 0 0 w none 0 (fun _=>0) (fun _ _=>0):=by
  rw[aV hA,aW hA];exact⟨⟨.push _ _ _,fun y hy=>om,fun y hy=>om,fun y hy=>om,fun y z hy=>om⟩,aJ.push _ _ _,.nil _ _,Nat.le_refl _,Nat.le_refl _,Nat.lt_succ_self _,.none _,fun y hy=>om,fun ad cW=>by cases cW⟩
 refine Oa hA hI (sb:=next h) aq hw n1 n4 m4 hg hn h9 eM (fun h' kn T ra rc bs A t hf hl=>?_) m 0 0 _ none 0 (fun _=>0) (fun _ _=>0) om om rfl t0 ⟨fun i hi=>om,fun i hi=>om,fun i j hi hj=>om,fun i j hi hj=>om⟩ ⟨fun i hi=>om,fun i hi=>om,1,.inl rfl,fun d J I=>?_⟩
 ·have r1:rd h' (next h) (bZ 0 0) 1 [.slice ra m rc]:=by rw[cN hA];exact iQ hA (t.own.aL (o:=0) (n:=1) (Nat.le_refl _))
  have hq:=hQ h' (next h) ra rc bs A t hf hl;generalize next h=sb at *;refine zq ?_;exact hq
 ·show Ext.unit I=1*Ext.unit I
  omega
set_option maxHeartbeats 1000000 in
theorem Fj{h0:af}(gq:h0.low<=h0.next){m n w r s rc:Nat}{ra:Option Addr}{bs:Nat->Nat}{A:Nat->Ext.aN}(hw:w=n+m)(n4:n<=4)(m1:1<=m)(m4:m<=4)(hr:r<=m)(es:r+s=m)(lo:∀y,y<r->Ext.aj w (A y)<n)(hi:∀y,r<=y->y<m->n<=Ext.aj w (A y)){M N:Int}(eM:M=m)(eN:N=n){Q:Exit->SS->Prop}
  (hQ:∀(h':af) (kn:Nat) (T:List (Nat×List Value)) pa pc qa qc rb,dK h0 h' m w bs A->VX h0 h' r w pa pc bs->Fh h0 h' s m qa qc rb (fun y j=>A (r+y) (n+j))->(∀ad,pa=some ad->∀y,y<m->ad.block≠bs y)->Q (.exit 0) ⟨[(2,.slice pa r pc),(3,.slice qa s qc)],kn,T,h'⟩) :
  ∀(d i u v:Nat) (I:Int) (h:af) (pa qa:Option Addr) (pc qc:Nat) (rb:Nat->Nat),m-i<=d->i<=m->I=i->u=min i r->v=i-r->Fh h0 h m w ra rc bs A->VX h0 h u w pa pc bs->Fh h0 h v m qa qc rb (fun y j=>A (r+y) (n+j))->
   (∀ad,pa=some ad->(∀y,y<m->ad.block≠bs y)/\(∀y,y<v->ad.block≠rb y)/\∀bd,qa=some bd->ad.block≠bd.block)->(∀ad,qa=some ad->∀y,y<m->ad.block≠bs y)->
   (∀ad,ra=some ad->(∀bd,pa=some bd->ad.block≠bd.block)/\∀bd,qa=some bd->ad.block≠bd.block)->
   head 29 3 0 ⟨[(2,.slice pa u pc),(3,.slice qa v qc),(4,.int .i64 N),(12,.slice ra m rc),(13,.int .i64 M),(14,.int .i64 I)],0,[],h⟩ Q:=by
 refine oR (fun d ih=>?_);intro i u v I h pa qa pc qc rb hd Ei eI eu ev t p q z1 z2 z5;by_cases ci:i<m
 rotate_left
 ·refine hA.ar Try.func29 x29.2 (zc ?_)
  refine br (I<M) (by rw[aB hA]) (fun q=>om) (fun _=>?_)<;>refine zc ?_;obtain rfl:u=r:=om
  obtain rfl:v=s:=om
  exact hQ h _ _ pa pc qa qc rb t.rows p q (fun ad cW=>(z1 ad cW).1)
 obtain⟨d,rfl⟩:∃k,d=k+1:=⟨d-1,om⟩
 replace ih:=ih d rfl
 have aq:h.low<=h.next:=t.rows.ext.az gq;obtain⟨ab,rfl,Su,q1⟩:=t.head ci;obtain⟨cw,qv⟩:∃z,z=au 1 w:=⟨_,rfl⟩;rw[<-qv]at q1;have r1:rd h ab (place 0 I 1) 1 [.slice (some ⟨bs i,0,none⟩) w cw]:=aC hA (by rw[eI];exact q1);obtain⟨z6,z7⟩:=z5 _ rfl;refine hA.ar Try.func29 x29.2 (zc ?_);refine br (I<M) (by rw[aB hA]) (fun _=>?_) (fun q=>om)<;>refine zc ?_;refine zq ?_;refine rh hA aq om (fun x hx=>t.rows.el ci hx) (fun L eL=>⟨L,rfl,?_⟩);refine zq ?_;refine br (L<N) (by rw[aB hA]) (fun cl=>?_) (fun cl=>?_)<;>refine zc ?_
 ·have hir:i<r:=by
   rcases Nat.lt_or_ge i r with c|c
   ·exact c
   ·have:=hi i c ci;omega
  obtain rfl:u=i:=om
  obtain rfl:v=0:=om
  refine zq ?_;refine wB hA Bd fF om I0 (v:=(⟨some ⟨bs u,0,none⟩,w,cw⟩:Hd)) p.o8 om (fun b' h' a' x' n' UG k'=>?_);rw[qv,<-Fi]at a';have xe:Ext h0 h':=x' h0 t.rows.ext p.fr;have kr:∀y,y<m->h'.m.get (bs y)=h.m.get (bs y):=fun y hy=>k' _ (t.rows.lt y hy) (fun ad cW=>(z1 ad cW).1 y hy)
  have t2:Fh h0 h' m w (some ⟨ab,0,none⟩) rc bs A:=⟨t.rows.dF xe (Nat.le_of_lt n') kr,t.o8.gF (Nat.le_of_lt n') (fun ad cW hl=>by cases cW;exact k' ab Su (fun ad cW=>(z6 ad cW).symm)),t.fr,t.F5⟩;have q2:Fh h0 h' 0 m qa qc rb (fun y j=>A (r+y) (n+j)):=⟨q.rows.dF xe (Nat.le_of_lt n') (fun y hy=>om),q.o8.gF (Nat.le_of_lt n') (fun ad cW hl=>k' _ hl (fun bd mg=>(z1 bd mg).2.2 ad cW)),q.fr,q.F5⟩;have xq:=t.rows.ext.next;have p2:VX h0 h' (u+1) w (some ⟨b',0,none⟩) (au 1 (u+1)) bs:=⟨a',fun ad cW=>by cases cW;show h0.next<=b';omega⟩;generalize au 1 (u+1)=cc at *;obtain⟨u1,eu1⟩:∃z,z=u+1:=⟨_,rfl⟩;rw[<-eu1]at p2 ⊢;refine zq ?_;rw[aF hA om om];refine ih (u+1) u1 0 (I+1) h' (some ⟨b',0,none⟩) qa cc qc rb om om om om om t2 p2 q2 (fun ad cW=>?_) z2 (fun ad cW=>?_)
  ·cases cW
   exact⟨fun y hy=>by have:=t.rows.lt y hy;show b'≠_;omega,fun y hy=>om,fun bd mg=>by have:=q.o8.lt bd mg;show b'≠_;omega⟩
  ·cases cW
   exact⟨fun bd mg=>by cases mg;show ab≠b';omega,z7⟩
 ·have hir:r<=i:=by
   rcases Nat.lt_or_ge i r with c|c
   ·have:=lo i c;omega
   ·exact c
  obtain rfl:u=r:=om
  refine zq ?_;rw[qv];refine By hA SU (n:=w) (i:=N) om om om (fun c'=>?_);rw[show 0+N.toNat*1=0+n*1 by omega,show w-N.toNat=m by omega,<-qv];obtain⟨o,eo⟩:∃z,z=0+n*1:=⟨_,rfl⟩;have tl:=t.rows.tail ci hw;rw[<-eo]at tl ⊢;refine zq ?_;refine zg hA aq tl om (fun h1 b1 c1 o1 x1 lb=>⟨_,_,_,rfl,?_⟩);obtain⟨k1,k2,k3,k4⟩:=o1;have X5:c1=au 1 m:=by rcases k4 with ⟨_,q⟩|q;omega;exact q
  have t1:=t.more x1;have p1:=p.o8.ext x1;have q1:=q.more x1;have n1:=x1.next;refine zq ?_;refine wB hA Bd fF om I0 (v:=(⟨some ⟨b1,0,none⟩,m,c1⟩:Hd)) q1.o8 om (fun b' h' a' x' n' UG k'=>?_);have xe:Ext h0 h':=x' h0 t1.rows.ext q.fr;have xq:=t1.rows.ext.next;have kr:∀y,y<m->h'.m.get (bs y)=h1.m.get (bs y):=fun y hy=>k' _ (t1.rows.lt y hy) (fun ad cW=>z2 ad cW y hy)
  have t2:Fh h0 h' m w (some ⟨ab,0,none⟩) rc bs A:=⟨t1.rows.dF xe (Nat.le_of_lt n') kr,t1.o8.gF (Nat.le_of_lt n') (fun ad cW hl=>by cases cW;exact k' ab om (fun ad cW=>(z7 ad cW).symm)),t.fr,t.F5⟩;have p2:VX h0 h' u w pa pc bs:=⟨p1.gF (Nat.le_of_lt n') (fun ad cW hl=>k' _ hl (fun bd mg=>((z1 ad cW).2.2 bd mg).symm)),p.fr⟩;obtain⟨X7,erb⟩:∃z,z=fun y=>if y=v then b1 else rb y:=⟨_,rfl⟩
  have SW:X7 v=b1:=by rw[erb];simp only[if_true]
  have PE:∀y,y<v->X7 y=rb y:=fun y hy=>by rw[erb];simp only[if_neg (show ¬y=v by omega)]
  have ehd:kN rb m v++[(⟨some ⟨b1,0,none⟩,m,c1⟩:Hd)]=kN X7 m (v+1):=by
   rw[Fi,SW,X5]
   congr 1
   exact ik (fun y hy=>by rw[PE y hy])
  rw[ehd]at a';have dV:=q.rows.lt;have ev2:u+v=i:=om
  have q2:Fh h0 h' (v+1) m (some ⟨b',0,none⟩) (au 1 (v+1)) X7 (fun y j=>A (u+y) (n+j)):=by
   refine⟨⟨xe,fun y hy=>?_,fun y hy=>?_,fun y hy=>?_,fun y z hy hz e=>?_⟩,a',fun ad cW=>by cases cW;show h0.next<=b';omega,fun ad cW y hy=>?_⟩
   ·by_cases c:y=v
    ·rw[c,SW,ev2];exact k1.gF (k' b1 k2 (fun ad cW=>by have:=q.o8.lt ad cW;omega))
    ·rw[PE y om];exact(q1.rows.row y om).gF (k' _ (q1.rows.lt y om) (fun ad cW=>q.F5 ad cW y om))
   ·by_cases c:y=v
    ·rw[c,SW];have:=t.rows.ext.next;omega
    ·rw[PE y om];exact q.rows.cJ y om
   ·by_cases c:y=v
    ·rw[c,SW];omega
    ·rw[PE y om];have:=dV y om;omega
   ·by_cases c:y=v<;>by_cases d:z=v
    ·rw[c,d]
    ·rw[c,SW,PE z om]at e;have:=dV z om;omega
    ·rw[d,SW,PE y om]at e;have:=dV y om;omega
    ·rw[PE y om,PE z om]at e;exact q.rows.inj y z om om e
   ·cases cW
    by_cases c:y=v
    ·rw[c,SW];show b'≠b1;omega
    ·rw[PE y om];have:=dV y om;show b'≠_;omega
  have pl:=p.o8.lt;generalize au 1 (v+1)=cc at *;obtain⟨v1,ev1⟩:∃z,z=v+1:=⟨_,rfl⟩;rw[<-ev1]at q2 ⊢;refine zq ?_;rw[aF hA om om];refine ih (i+1) u v1 (I+1) h' pa (some ⟨b',0,none⟩) pc cc X7 om om om om om t2 p2 q2 (fun ad cW=>⟨(z1 ad cW).1,fun y hy=>?_,fun bd mg=>?_⟩) (fun ad cW y hy=>?_) (fun ad cW=>?_)
  ·by_cases c:y=v
   ·rw[c,SW];have:=pl ad cW;omega
   ·rw[PE y om];exact(z1 ad cW).2.1 y om
  ·cases mg;have:=pl ad cW;show _≠b';omega
  ·cases cW;have:=t1.rows.lt y hy;show b'≠_;omega
  ·cases cW
   exact⟨z6,fun bd mg=>by cases mg;show ab≠b';omega⟩
theorem KJ(hI:sz F){h:af}(aq:h.low<=h.next){m n w ac:Nat}{aa:Option Addr}{gA:List Hd}{g:List (List Int)}(hw:w=n+m)(n1:1<=n)(n4:n<=4)(m1:1<=m)(m4:m<=4)(hg:rC nC 1 h aa m gA g)(hn:∀y:Int,0<=y->y<m->(gt gA y).n=n)(h9:∀i j,(gt (gt g i) j).natAbs<=9){Q:Value->af->Prop}
  (hQ:∀h' r s pa pc qa qc bs rb A,Ext.FO w m A->Ext.kH w m A (gR g n)->r+s=m->(∀y,y<r->Ext.aj w (A y)<n)->(∀y,r<=y->y<m->n<=Ext.aj w (A y))->dK h h' m w bs A->VX h h' r w pa pc bs->Fh h h' s m qa qc rb (fun y j=>A (r+y) (n+j))->(∀ad,pa=some ad->∀y,y<m->ad.block≠bs y)->Q (.tuple #[.slice pa r pc,.slice qa s qc]) h') :
  call 29 [.slice aa m ac] h Q:=by
 obtain⟨ab,ao,rfl,_,q1⟩:=hg.hd.at (i:=0) om om;have q2:=q1 0 1 om om;have row:=hg.row 0 om om;have rl:=hn 0 om om;obtain⟨b,o,eb,_⟩:=row.at (i:=0) om (by rw[rl];omega);obtain⟨hc,ehc⟩:∃z,z=(gt gA 0).c:=⟨_,rfl⟩;have DO:((gt gA 0).cells.drop 0).take 1=[.slice (some ⟨b,o,none⟩) n hc]:=by
  unfold Hd.cells;rw[eb,rl,ehc];rfl
 rw[DO]at q2;have r1:rd h ab (place ao 0 1) 1 [.slice (some ⟨b,o,none⟩) n hc]:=aC hA q2;obtain⟨N,eN⟩:∃z:Int,z=n:=⟨_,rfl⟩;have e2:ofNat n=N:=by rw[eN];exact aR hA n
 obtain⟨M,eM⟩:∃z:Int,z=m:=⟨_,rfl⟩;have e1:ofNat m=M:=by rw[eM];exact aR hA m
 refine hA.aQ Try.func29 x29.2 (hA.alike _ _ _ rfl) aq (zc ?_)
 (refine zq ?_;repeat ((first|rw[e2]);refine zq ?_))
 refine Hn hA hI aq hw n1 n4 m4 hg hn h9 (fun h1 sb ra rc bs A st hf hl=>?_);obtain⟨r,hr,lo,hi⟩:=hf.gD.parts n;refine⟨_,_,_,rfl,?_⟩
 (refine zq ?_;repeat ((first|rw[e1]);refine zq ?_))
 refine Fj hA (h0:=h) (s:=m-r) aq hw n4 m1 m4 hr om lo hi eM eN (fun h' kn T pa pc qa qc rb x1 x2 x3 x4=>?_) m 0 0 0 0 h1 none none 0 0 (fun _=>0) om om rfl om om st.grd ⟨.nil _ _,.none _⟩ ⟨⟨st.rows.ext,fun y hy=>om,fun y hy=>om,fun y hy=>om,fun y z hy=>om⟩,.nil _ _,.none _,fun ad cW=>by cases cW⟩ (fun ad cW=>by cases cW) (fun ad cW=>by cases cW) (fun ad cW=>⟨(fun bd mg=>by cases mg),(fun bd mg=>by cases mg)⟩);have hq:=hQ h' r (m-r) pa pc qa qc bs rb A hf hl om lo hi x1 x2 x3 x4;generalize m-r=s at *;refine zq ?_;exact hq
theorem Ob{h:af}{m ac k bc:Nat}{aa ba:Option Addr}{gA:List Hd}{g:List (List Int)}(hg:Da nC 1 h aa m gA g)(hm:m<=1000){M:Int}(eM:M=m){Q:Exit->SS->Prop}
  (lM:(∃i:Int,0<=i/\i<m/\4<(gt g i).length)->∀env,Q .ret ⟨(2,.int .i64 4) :: env,1,[(0,[.slice aa m ac,.slice ba k bc])],h⟩)
  (fQ:(∀i:Int,0<=i->i<m->(gt g i).length<=4)->Q (.exit 0) ⟨[(1,.pointer (some ⟨0,0,some 0⟩))],1,[(0,[.slice aa m ac,.slice ba k bc])],h⟩) :
  ∀(d i:Nat) (I:Int),m-i<=d->i<=m->I=i->(∀j:Int,0<=j->j<i->(gt g j).length<=4)->
   head 12 4 1 ⟨[(1,.pointer (some ⟨0,0,some 0⟩)),(16,.slice aa m ac),(17,.int .i64 M),(18,.int .i64 I)],1,[(0,[.slice aa m ac,.slice ba k bc])],h⟩ Q:=by
 refine oR (fun d ih=>?_);intro i I hd hi eI hp;by_cases ci:i<m
 rotate_left
 ·refine hA.ar Try.func12 x12.2 (zc ?_)
  refine br (I<M) (by rw[aB hA]) (fun q=>om) (fun _=>?_)<;>refine zc ?_;exact fQ (fun j j0 j1=>hp j j0 om)
 obtain⟨d,rfl⟩:∃k,d=k+1:=⟨d-1,om⟩
 replace ih:=ih d rfl
 obtain⟨b,o,rfl,hb,q1⟩:=hg.uR (i:=I) om om;obtain⟨ra,era⟩:∃z,z=(gt gA I).a:=⟨_,rfl⟩;obtain⟨rn,V2⟩:∃z,z=(gt gA I).n:=⟨_,rfl⟩;obtain⟨rc,KK⟩:∃z,z=(gt gA I).c:=⟨_,rfl⟩;rw[<-era,<-V2,<-KK]at q1;have r1:rd h b (place o I 1) 1 [.slice ra rn rc]:=aC hA q1;have hrl:(gt g I).length=rn:=by rw[V2];exact hg.Fb om om
 obtain⟨R,eR⟩:∃z:Int,z=rn:=⟨_,rfl⟩;have e1:ofNat rn=R:=by rw[eR];exact aR hA rn
 refine hA.ar Try.func12 x12.2 (zc ?_);refine br (I<M) (by rw[aB hA]) (fun _=>?_) (fun q=>om)<;>refine zc ?_
 (refine zq ?_;repeat ((first|rw[e1]);refine zq ?_))
 refine br (4<R) (by rw[fg hA]) (fun c4=>?_) (fun c4=>?_)<;>refine zc ?_
 ·refine zq ?_
  exact lM ⟨I,om,om,om⟩ _
 refine zq ?_;rw[aF hA om om];exact ih (i+1) (I+1) om om om (fun j j0 j1=>by
  by_cases e:j=I
  ·rw[e];omega
  ·exact hp j j0 om)
theorem UH{h:af}{m ac k bc rn rc:Nat}{aa ba ra:Option Addr}{row:List Int}{J0 M:Int}(hr:0<rn->Rows nC 1 h ra rn row)(hn:rn<=1000){R:Int}(eR:R=rn){Q:Exit->SS->Prop}
  (lM:(∃j:Int,0<=j/\j<rn/\¬(-9<=gt row j/\gt row j<=9))->∀env,Q .ret ⟨(2,.int .i64 8) :: env,1,[(0,[.slice aa m ac,.slice ba k bc])],h⟩)
  (fQ:(∀j:Int,0<=j->j<rn->-9<=gt row j/\gt row j<=9)->Q (.exit 4) ⟨[(1,.pointer (some ⟨0,0,some 0⟩)),(48,.slice aa m ac),(49,.int .i64 M),(50,.int .i64 J0)],1,[(0,[.slice aa m ac,.slice ba k bc])],h⟩) :
  ∀(d i:Nat) (I:Int),rn-i<=d->i<=rn->I=i->(∀j:Int,0<=j->j<i->-9<=gt row j/\gt row j<=9)->
   head 12 17 1 ⟨[(1,.pointer (some ⟨0,0,some 0⟩)),(48,.slice aa m ac),(49,.int .i64 M),(50,.int .i64 J0),(62,.slice ra rn rc),(63,.int .i64 R),(64,.int .i64 I)],1,[(0,[.slice aa m ac,.slice ba k bc])],h⟩ Q:=by
 refine oR (fun d ih=>?_);intro i I hd hi eI hp;by_cases ci:i<rn
 rotate_left
 ·refine hA.ar Try.func12 x12.2 (zc ?_)
  refine br (I<R) (by rw[aB hA]) (fun q=>om) (fun _=>?_)<;>refine zc ?_;exact fQ (fun j j0 j1=>hp j j0 om)
 obtain⟨d,rfl⟩:∃k,d=k+1:=⟨d-1,om⟩
 replace ih:=ih d rfl
 obtain⟨b,o,rfl,hb,q1⟩:=(hr om).at (i:=I) om om;have q2:=q1 0 1 om om;obtain⟨x,ex⟩:∃z,z=gt row I:=⟨_,rfl⟩;rw[<-ex]at q2;have r1:rd h b (place o I 1) 1 [.int .i64 x]:=aC hA q2;refine hA.ar Try.func12 x12.2 (zc ?_);refine br (I<R) (by rw[aB hA]) (fun _=>?_) (fun q=>om)<;>refine zc ?_;refine zq ?_;refine br (x < -9) (by rw[aB hA]) (fun c4=>?_) (fun c4=>?_)<;>refine zc ?_
 ·refine zq ?_
  exact lM ⟨I,om,om,om⟩ _
 refine zq ?_;refine br (9<x) (by rw[fg hA]) (fun c5=>?_) (fun c5=>?_)<;>refine zc ?_
 ·refine zq ?_
  exact lM ⟨I,om,om,om⟩ _
 refine zq ?_;rw[aF hA om om];exact ih (i+1) (I+1) om om om (fun j j0 j1=>by
  by_cases e:j=I
  ·rw[e,<-ex];omega
  ·exact hp j j0 om)
theorem QU{h:af}{m ac k bc:Nat}{aa ba:Option Addr}{gA:List Hd}{g:List (List Int)}(hg:Da nC 1 h aa m gA g)(m0:0<m)(hm:m<=1000)(hl:∀i:Int,0<=i->i<m->(gt g i).length<=1000){M:Int}(eM:M=m){Q:Exit->SS->Prop}
  (lM:(∃i:Int,0<=i/\i<m/\¬((gt g i).length=(gt g 0).length/\∀j:Int,0<=j->j<(gt g i).length->-9<=gt (gt g i) j/\gt (gt g i) j<=9))->∀env,Q .ret ⟨(2,.int .i64 8) :: env,1,[(0,[.slice aa m ac,.slice ba k bc])],h⟩)
  (fQ:(∀i:Int,0<=i->i<m->(gt g i).length=(gt g 0).length/\∀j:Int,0<=j->j<(gt g i).length->-9<=gt (gt g i) j/\gt (gt g i) j<=9)->Q (.exit 2) ⟨[(1,.pointer (some ⟨0,0,some 0⟩))],1,[(0,[.slice aa m ac,.slice ba k bc])],h⟩) :
  ∀(d i:Nat) (I:Int),m-i<=d->i<=m->I=i->(∀j:Int,0<=j->j<i->(gt g j).length=(gt g 0).length/\∀x:Int,0<=x->x<(gt g j).length->-9<=gt (gt g j) x/\gt (gt g j) x<=9)->
   head 12 12 1 ⟨[(1,.pointer (some ⟨0,0,some 0⟩)),(48,.slice aa m ac),(49,.int .i64 M),(50,.int .i64 I)],1,[(0,[.slice aa m ac,.slice ba k bc])],h⟩ Q:=by
 refine oR (fun d ih=>?_);intro i I hd hi eI hp;by_cases ci:i<m
 rotate_left
 ·refine hA.ar Try.func12 x12.2 (zc ?_)
  refine br (I<M) (by rw[aB hA]) (fun q=>om) (fun _=>?_)<;>refine zc ?_;exact fQ (fun j j0 j1=>hp j j0 om)
 obtain⟨d,rfl⟩:∃k,d=k+1:=⟨d-1,om⟩
 replace ih:=ih d rfl
 obtain⟨b,o,rfl,hb,q1⟩:=hg.uR (i:=I) om om;obtain⟨b',o',e',_,q0⟩:=hg.uR (i:=0) om om;cases e';obtain⟨ra,era⟩:∃z,z=(gt gA I).a:=⟨_,rfl⟩;obtain⟨rn,V2⟩:∃z,z=(gt gA I).n:=⟨_,rfl⟩;obtain⟨rc,KK⟩:∃z,z=(gt gA I).c:=⟨_,rfl⟩;obtain⟨sa,esa⟩:∃z,z=(gt gA 0).a:=⟨_,rfl⟩;obtain⟨sn,Ya⟩:∃z,z=(gt gA 0).n:=⟨_,rfl⟩;obtain⟨sc,esc⟩:∃z,z=(gt gA 0).c:=⟨_,rfl⟩;rw[<-era,<-V2,<-KK]at q1;rw[<-esa,<-Ya,<-esc]at q0;have r1:rd h b (place o I 1) 1 [.slice ra rn rc]:=aC hA q1;have r0:rd h b (place o 0 1) 1 [.slice sa sn sc]:=aC hA q0;have row:=(hg.row I om om).2;rw[<-era,<-V2]at row;have hrl:(gt g I).length=rn:=by rw[V2];exact hg.Fb om om
 have FR:(gt g 0).length=sn:=by rw[Ya];exact hg.Fb om om
 have B5:=hl I om om;have gq:=hl 0 om om;obtain⟨R,eR⟩:∃z:Int,z=rn:=⟨_,rfl⟩;have e1:ofNat rn=R:=by rw[eR];exact aR hA rn
 obtain⟨S,eS⟩:∃z:Int,z=sn:=⟨_,rfl⟩;have e2:ofNat sn=S:=by rw[eS];exact aR hA sn
 refine hA.ar Try.func12 x12.2 (zc ?_);refine br (I<M) (by rw[aB hA]) (fun _=>?_) (fun q=>om)<;>refine zc ?_
 (refine zq ?_;repeat ((first|rw[e1]|rw[e2]);refine zq ?_))
 refine br (R≠S) (by rw[cD hA]) (fun c4=>?_) (fun c4=>?_)<;>refine zc ?_
 ·refine zq ?_
  exact lM ⟨I,om,om,fun q=>c4 (by have:=q.1;omega)⟩ _
 (refine zq ?_;repeat ((first|rw[e1]);refine zq ?_))
 refine UH hA row om eR (fun c env=>?_) (fun c=>?_) rn 0 0 om om rfl (fun j j0 j1=>om)
 ·obtain⟨j,j0,j1,j2⟩:=c
  exact lM ⟨I,om,om,fun q=>j2 (q.2 j j0 om)⟩ env
 refine zq ?_;rw[aF hA om om];exact ih (i+1) (I+1) om om om (fun j j0 j1=>by
  by_cases e:j=I
  ·rw[e];exact⟨om,fun x x0 x1=>c x x0 om⟩
  ·exact hp j j0 om)
theorem Oc{h0:af}(gq:h0.low<=h0.next){k bc:Nat}{ba:Option Addr}{B:List Fc}{cells:List Value}(hB:Rows fC 2 h0 ba k B)(hk:k<=1000)(hi:∀i:Int,0<=i->i<k->i64 (gt B i).n/\i64 (gt B i).d){K:Int}(eK:K=k){Q:Exit->SS->Prop}
  (lM:(∃i:Int,0<=i/\i<k/\¬(cZ (gt B i)/\(gt B i).d<=60))->∀env kn T h',Ext h0 h'->Q .ret ⟨(2,.int .i64 8) :: env,kn,T,h'⟩)
  (fQ:(∀i:Int,0<=i->i<k->cZ (gt B i)/\(gt B i).d<=60)->∀kn T h',Ext h0 h'->Q (.exit 6) ⟨[],kn,T,h'⟩) :
  ∀(d i:Nat) (I:Int) (h:af),k-i<=d->i<=k->I=i->Ext h0 h->(∀j:Int,0<=j->j<i->cZ (gt B j)/\(gt B j).d<=60)->
   head 12 24 1 ⟨[(77,.slice ba k bc),(78,.int .i64 K),(79,.int .i64 I)],1,[(0,cells)],h⟩ Q:=by
 refine oR (fun d ih=>?_);intro i I h hd Ei eI x hp;by_cases ci:i<k
 rotate_left
 ·refine hA.ar Try.func12 x12.2 (zc ?_)
  refine br (I<K) (by rw[aB hA]) (fun q=>om) (fun _=>?_)<;>refine zc ?_;exact fQ (fun j j0 j1=>hp j j0 om) _ _ h x
 obtain⟨d,rfl⟩:∃k,d=k+1:=⟨d-1,om⟩
 replace ih:=ih d rfl
 have aq:h.low<=h.next:=x.az gq;obtain⟨b,o,rfl,hb,q1⟩:=(hB.ext x).at (i:=I) om om;have q2:=q1 0 2 om om;obtain⟨y,ey⟩:∃z,z=gt B I:=⟨_,rfl⟩;obtain⟨i1,i2⟩:=hi I om om;rw[<-ey]at q2 i1 i2;obtain⟨yn,yd⟩:=y;have r1:rd h b (place o I 2) 2 [.int .i64 yn,.int .i64 yd]:=aC hA q2;refine hA.ar Try.func12 x12.2 (zc ?_);refine br (I<K) (by rw[aB hA]) (fun _=>?_) (fun q=>om)<;>refine zc ?_;refine zq ?_;refine I3 hA (x:=⟨yn,yd⟩) aq i1 i2 (fun t h1 ht x1=>⟨t,rfl,?_⟩);have x2:=x.trans x1;refine zq ?_;cases t with
 |false=>
  have nt:¬cZ ⟨yn,yd⟩:=fun q=>by have:=ht.2 q;cases this
  rw[show fP false=true by rw[df hA];rfl];refine zq ?_;exact lM ⟨I,om,om,fun q=>nt (by rw[ey];exact q.1)⟩ _ _ _ h1 x2
 |true=>
  have tt:cZ ⟨yn,yd⟩:=ht.1 rfl;rw[show fP true=false by rw[df hA];rfl];refine zq ?_;refine br (60<yd) (by rw[fg hA]) (fun c=>?_) (fun c=>?_)<;>refine zc ?_
  ·refine zq ?_
   exact lM ⟨I,om,om,fun q=>by rw[<-ey]at q;have:=q.2;simp only at this;omega⟩ _ _ _ h1 x2
  ·refine zq ?_
   rw[aF hA om om];exact ih (i+1) (I+1) h1 om om om x2 (fun j j0 j1=>by
    by_cases e:j=I
    ·rw[e,<-ey];exact⟨tt,by show yd<=60;omega⟩
    ·exact hp j j0 om)
theorem lS{h:af}(aq:h.low<=h.next){m ac k bc:Nat}{aa ba:Option Addr}{gA:List Hd}{g:List (List Int)}{B:List Fc}(hg:Da nC 1 h aa m gA g)(hB:Rows fC 2 h ba k B)(hi:∀i:Int,0<=i->i<k->i64 (gt B i).n/\i64 (gt B i).d){Q:Value->af->Prop}
  (hQ:∀e h',dB g B e->Ext h h'->Q (.int .i64 e) h'):call 12 [.agg #[.slice aa m ac,.slice ba k bc]] h Q:=by
 have hgm:=hg.len;have hbk:=hB.len;obtain⟨M,eM⟩:∃z:Int,z=m:=⟨_,rfl⟩;have e1:ofNat m=M:=by rw[eM];exact aR hA m
 obtain⟨K,eK⟩:∃z:Int,z=k:=⟨_,rfl⟩;have e2:ofNat k=K:=by rw[eK];exact aR hA k
 refine hA.aQ Try.func12 x12.2 (hA.alike _ _ _ rfl) aq (zc ?_)
 (refine zq ?_;repeat ((first|rw[e1]);refine zq ?_))
 refine br (4<M) (by rw[fg hA]) (fun c=>?_) (fun c=>?_)<;>refine zc ?_
 ·refine zq ?_
  exact hQ _ _ (.inl ⟨.inl om,rfl⟩) (.refl h)
 have hm4:m<=1000:=om
 (refine zq ?_;repeat ((first|rw[e1]);refine zq ?_))
 refine Ob hA hg hm4 eM (fun q env=>?_) (fun hr4=>?_) m 0 0 om om rfl (fun j j0 j1=>om)
 ·refine zq ?_
  obtain⟨i,i0,i1,i2⟩:=q;exact hQ _ _ (.inl ⟨.inr ⟨i,i0,om,i2⟩,rfl⟩) (.refl h)
 have nm:¬Hj g:=fun q=>by
  rcases q with q|⟨i,i0,i1,i2⟩
  ·omega
  ·have:=hr4 i i0 om;omega
 have hl:∀i:Int,0<=i->i<m->(gt g i).length<=1000:=fun i i0 i1=>by have:=hr4 i i0 i1;omega
 have bad:¬Good g B->∀h',Ext h h'->Q (.int .i64 8) h':=fun q h' x=>hQ _ _ (.inr (.inr ⟨nm,q,rfl⟩)) x
 (refine zq ?_;repeat ((first|rw[e1]);refine zq ?_))
 refine br (M=0) (by rw[dg hA]) (fun c0=>?_) (fun c0=>?_)<;>refine zc ?_
 ·refine zq ?_
  exact bad (fun q=>by have:=q.m1;omega) h (.refl h)
 obtain⟨b,o,rfl,hb,q0⟩:=hg.uR (i:=0) om om;obtain⟨sa,esa⟩:∃z,z=(gt gA 0).a:=⟨_,rfl⟩;obtain⟨sn,Ya⟩:∃z,z=(gt gA 0).n:=⟨_,rfl⟩;obtain⟨sc,esc⟩:∃z,z=(gt gA 0).c:=⟨_,rfl⟩;rw[<-esa,<-Ya,<-esc]at q0;have r0:rd h b (place o 0 1) 1 [.slice sa sn sc]:=aC hA q0;have FR:(gt g 0).length=sn:=by rw[Ya];exact hg.Fb om om
 have gq:=hl 0 om om;obtain⟨S,eS⟩:∃z:Int,z=sn:=⟨_,rfl⟩;have e3:ofNat sn=S:=by rw[eS];exact aR hA sn
 (refine zq ?_;repeat ((first|rw[e3]);refine zq ?_))
 refine br (S=0) (by rw[dg hA]) (fun cs=>?_) (fun cs=>?_)<;>refine zc ?_
 ·refine zq ?_
  exact bad (fun q=>by have:=q.n1;omega) h (.refl h)
 (refine zq ?_;repeat ((first|rw[e1]|rw[e2]);refine zq ?_))
 refine br (K≠M) (by rw[cD hA]) (fun ck=>?_) (fun ck=>?_)<;>refine zc ?_
 ·refine zq ?_
  exact bad (fun q=>by have:=q.len;omega) h (.refl h)
 (refine zq ?_;repeat ((first|rw[e1]);refine zq ?_))
 refine QU hA hg om hm4 hl eM (fun q env=>?_) (fun Yb=>?_) m 0 0 om om rfl (fun j j0 j1=>om)
 ·refine zq ?_
  obtain⟨i,i0,i1,i2⟩:=q;exact bad (fun w=>i2 ⟨w.row i i0 om,w.UC i i0 om⟩) h (.refl h)
 (refine zq ?_;repeat ((first|rw[e2]);refine zq ?_))
 refine Oc hA aq hB om hi eK (fun q env kn T h' x=>?_) (fun q kn T h' x=>?_) k 0 0 h om om rfl (.refl h) (fun j j0 j1=>om)
 ·refine zq ?_
  obtain⟨i,i0,i1,i2⟩:=q;exact bad (fun w=>i2 (w.turn i i0 om)) h' x
 ·refine zq ?_
  exact hQ _ _ (.inr (.inl ⟨nm,⟨om,om,om,fun i i0 i1=>(Yb i i0 om).1,fun i i0 i1=>(Yb i i0 om).2,fun i i0 i1=>q i i0 om⟩,rfl⟩)) x
theorem zh(hI:sz F){h:af}(aq:h.low<=h.next){m n ac:Nat}{aa:Option Addr}{gA:List Hd}{g:List (List Int)}(hM:oD g m n)(hg:rC nC 1 h aa m gA g){Q:Value->af->Prop}
  (hQ:∀h' r s pa pc qa qc bs rb A,bH g m n r s A->dK h h' m (n+m) bs A->VX h h' r (n+m) pa pc bs->Fh h h' s m qa qc rb (fun y j=>A (r+y) (n+j))->(∀ad,pa=some ad->∀y,y<m->ad.block≠bs y)->Q (.tuple #[.slice pa r pc,.slice qa s qc]) h') :
  call 29 [.slice aa m ac] h Q:=
 KJ hA hI aq rfl hM.n1 hM.n4 hM.m1 hM.m4 hg (fun y y0 y1=>by rw[<-hg.Fb y0 y1];exact hM.row y y0 y1) hM.nine
  (fun h' r s pa pc qa qc bs rb A a1 a2 a3 a4 a5 a6 a7 a8 a9=>hQ h' r s pa pc qa qc bs rb A ⟨a1,a2,a3,a4,a5⟩ a6 a7 a8 a9)
theorem CJ(hI:sz F){h:af}(aq:h.low<=h.next){m ac k bc:Nat}{aa ba:Option Addr}{gA:List Hd}{g:List (List Int)}{B:List Fc}(hg:Da nC 1 h aa m gA g)(hB:Rows fC 2 h ba k B)(hi:∀i:Int,0<=i->i<k->i64 (gt B i).n/\i64 (gt B i).d){Q:Value->af->Prop}
  (UI:∀e h',dB g B e->e≠0->Ext h h'->Q (.tuple #[.slice none 0 0,.int .i64 e]) h')
  (QV:∀h0 h' n r s qa qc rb A,dB g B 0->oD g m n->Ext h h0->bH g m n r s A->Fh h0 h' s m qa qc rb (fun y j=>A (r+y) (n+j))->Q (.tuple #[.slice qa s qc,.int .i64 0]) h'):call 10 [.agg #[.slice aa m ac,.slice ba k bc]] h Q:=by
 refine hA.aQ Try.func10 x10.2 (hA.alike _ _ _ rfl) aq (zc ?_);refine lS hA aq hg hB hi (fun e h1 he x1=>⟨e,rfl,?_⟩);refine zq ?_;refine br (e≠0) (by rw[cD hA]) (fun c=>?_) (fun c=>?_)<;>refine zc ?_
 ·refine zq ?_
  exact UI e h1 he c x1
 obtain rfl:e=0:=om
 obtain⟨gd,nm⟩:=he.rz;obtain⟨m',n,hM⟩:=gd.mat nm;obtain rfl:m=m':=by have:=hg.len;have:=hM.len;omega
 have GJ:=hg.full (fun y y0 y1=>by rw[hM.row y y0 y1];exact hM.n1);refine zq ?_;refine zh hA hI (x1.az aq) hM (GJ.ext x1) (fun h' r s pa pc qa qc bs rb A a1 a2 a3 a4 a5=>⟨_,_,_,_,_,_,rfl,?_⟩);refine zq ?_;exact QV h1 h' n r s qa qc rb A he hM x1 a1 a4
theorem Od{x i:Nat}{X I:Int}(eX:X=x)(eI:I=i)(hx:x<16)(hi:i<4):arith .and .i64 (arith .shr .i64 X I) 1=if x.testBit i then 1 else 0:=by
 rw[LO hA,LP hA,eX,eI];have h1:x=0\/x=1\/x=2\/x=3\/x=4\/x=5\/x=6\/x=7\/x=8\/x=9\/x=10\/x=11\/x=12\/x=13\/x=14\/x=15:=om
 have h2:i=0\/i=1\/i=2\/i=3:=om
 rcases h1 with rfl|rfl|rfl|rfl|rfl|rfl|rfl|rfl|rfl|rfl|rfl|rfl|rfl|rfl|rfl|rfl<;>rcases h2 with rfl|rfl|rfl|rfl<;>rfl
theorem Yc{h0 h1:af}(gq:h0.low<=h0.next){m n ac b s R C i:Nat}{aa:Option Addr}{gA:List Hd}{g:List (List Int)}(hM:oD g m n)(hg:rC nC 1 h0 aa m gA g){RI CI S MI I N:Int}(eS:S=s)(eR:RI=R)(eC:CI=C)(eI:I=i)(eN:N=n)(es:s=(Ext.bl i R).length)(hi:i<m)(hC:C<16){rc:Nat}{ra:Option Addr}(era:ra=(gt gA I).a){Q:Exit->SS->Prop}
  (hQ:∀(h':af) (P:Nat->Nat->Int) (kn:Nat) (T:List (Nat×List Value)),Sq h0 h' b s P->F6 g n R C i n P->Q (.exit 2) ⟨[(0,.slice aa m ac),(1,.int .i64 RI),(2,.int .i64 CI),(7,.pointer (some ⟨b,0,none⟩)),(15,.int .i64 MI),(16,.int .i64 I)],kn,T,h'⟩) :
  ∀(d j k:Nat) (J K:Int) (h:af) (P:Nat->Nat->Int),n-j<=d->j<=n->J=j->k=(Ext.bl j C).length->K=k->Sq h0 h b s P->F6 g n R C i j P->
   head 80 8 0 ⟨[(0,.slice aa m ac),(1,.int .i64 RI),(2,.int .i64 CI),(7,.pointer (some ⟨b,0,none⟩)),(9,.int .i64 K),(15,.int .i64 MI),(16,.int .i64 I),(27,.slice ra n rc),(28,.int .i64 N),(29,.int .i64 J)],0,[],h⟩ Q:=by
 intro d;have m4:=hM.m4;have n4:=hM.n4
 induction d with
 |zero=>
  intro j k J K h P hd hj eJ ek eK t p;refine hA.ar Try.func80 x80.2 (zc ?_);refine br (J<N) (by rw[aB hA]) (fun q=>om) (fun _=>?_)<;>refine zc ?_;obtain rfl:j=n:=om
  exact hQ h P _ _ t p
 |succ d ih=>
 intro j k J K h P hd hj eJ ek eK t p;by_cases cj:j<n
 rotate_left
 ·refine hA.ar Try.func80 x80.2 (zc ?_)
  refine br (J<N) (by rw[aB hA]) (fun q=>om) (fun _=>?_)<;>refine zc ?_;obtain rfl:j=n:=om
  exact hQ h P _ _ t p
 have gh:=hg.ext t.ext;have row:=gh.row I om om;rw[<-era]at row;have KL:(gt g I).length=n:=hM.row I om om;have yV:=row.len;rw[KL]at yV;rw[<-yV]at row;obtain⟨b2,o2,ZV,_,w⟩:=row.at (i:=J) om om;obtain⟨v,ev⟩:∃z,z=gt (gt g I) J:=⟨_,rfl⟩;have q1:=w 0 1 om om;rw[<-ev]at q1;cases ra with
 |none=>cases ZV
 |some ad=>
 cases ZV;have r1:rd h b2 (place o2 J 1) 1 [.int .i64 v]:=aC hA q1;obtain⟨B,eB⟩:∃z:Int,z=if C.testBit j then 1 else 0:=⟨_,rfl⟩
 have m1:=Od hA eC eJ hC (show j<4 by omega);rw[<-eB]at m1;have kl:=Ext.No j C;have sl:=Ext.No i R;refine hA.ar Try.func80 x80.2 (zc ?_);refine br (J<N) (by rw[aB hA]) (fun _=>?_) (fun q=>om)<;>refine zc ?_
 (refine zq ?_;repeat ((first|rw[m1]);refine zq ?_))
 refine br (B=1) (by rw[dg hA]) (fun c=>?_) (fun c=>?_)<;>refine zc ?_
 ·have tb:C.testBit j=true:=by
   cases h:C.testBit j with
   |true=>rfl
   |false=>rw[h]at eB;simp at eB;omega
  obtain⟨h9,yW⟩:∃z,z=aH h 12:=⟨_,rfl⟩;have t9:=t.more (show Ext h h9 by rw[yW];exact av hA _ _);have r2:=jw hA t9 eS;obtain⟨h2,w1,t2,_⟩:=Ct hA t9 (i:=s) (j:=k) om om eS eK (v:=v);rw[<-yW];refine zq ?_;rw[aF hA om om,aF hA om om];refine ih (j+1) (k+1) (J+1) (K+1) h2 _ om om om (by rw[Ext.my,if_pos tb,List.length_append,ek];rfl) om t2 ?_;have:=p.put tb;rw[<-es,<-ek,show Ext.el g i j=v by rw[ev,eI,eJ];rfl]at this;exact this
 ·have tb:C.testBit j=false:=by
   cases h:C.testBit j with
   |false=>rfl
   |true=>rw[h]at eB;simp at eB;omega
  refine zq ?_;rw[aF hA om om];exact ih (j+1) k (J+1) K h P om om om (by rw[Ext.my,if_neg (by rw[tb];decide),ek]) eK t (p.skip tb)
theorem UJ{h0:af}(gq:h0.low<=h0.next){m n ac b R C:Nat}{aa:Option Addr}{gA:List Hd}{g:List (List Int)}(hM:oD g m n)(hg:rC nC 1 h0 aa m gA g){RI CI M:Int}(eR:RI=R)(eC:CI=C)(eM:M=m)(hR:R<16)(hC:C<16){Q:Exit->SS->Prop}
  (hQ:∀(h':af) (P:Nat->Nat->Int) (kn:Nat) (T:List (Nat×List Value)),Sq h0 h' b (Ext.bl m R).length P->F6 g n R C m 0 P->Q (.exit 0) ⟨[(7,.pointer (some ⟨b,0,none⟩))],kn,T,h'⟩) :
  ∀(d i s:Nat) (I:Int) (h:af) (P:Nat->Nat->Int),m-i<=d->i<=m->I=i->s=(Ext.bl i R).length->Sq h0 h b s P->F6 g n R C i 0 P->
   head 80 3 0 ⟨[(0,.slice aa m ac),(1,.int .i64 RI),(2,.int .i64 CI),(7,.pointer (some ⟨b,0,none⟩)),(15,.int .i64 M),(16,.int .i64 I)],0,[],h⟩ Q:=by
 intro d;have m4:=hM.m4;have n4:=hM.n4
 induction d with
 |zero=>
  intro i s I h P hd hi eI es t p;refine hA.ar Try.func80 x80.2 (zc ?_);refine br (I<M) (by rw[aB hA]) (fun q=>om) (fun _=>?_)<;>refine zc ?_;obtain rfl:i=m:=om
  exact hQ h P _ _ (es ▸ t) p
 |succ d ih=>
 intro i s I h P hd hi eI es t p;by_cases ci:i<m
 rotate_left
 ·refine hA.ar Try.func80 x80.2 (zc ?_)
  refine br (I<M) (by rw[aB hA]) (fun q=>om) (fun _=>?_)<;>refine zc ?_;obtain rfl:i=m:=om
  exact hQ h P _ _ (es ▸ t) p
 obtain⟨B,eB⟩:∃z:Int,z=if R.testBit i then 1 else 0:=⟨_,rfl⟩
 have m1:=Od hA eR eI hR (show i<4 by omega);rw[<-eB]at m1;obtain⟨S,eS⟩:∃z:Int,z=s:=⟨_,rfl⟩;obtain⟨N,eN⟩:∃z:Int,z=n:=⟨_,rfl⟩;have sl:=Ext.No i R;obtain⟨ab,ao,rfl,Su,q1⟩:=(hg.ext t.ext).uR (i:=I) om om;have row:=hg.row I om om;have KL:(gt g I).length=n:=hM.row I om om;have yV:=row.len;rw[KL]at yV;rw[<-yV]at q1;obtain⟨ra,era⟩:∃z,z=(gt gA I).a:=⟨_,rfl⟩;obtain⟨rc,KK⟩:∃z,z=(gt gA I).c:=⟨_,rfl⟩;rw[<-era,<-KK]at q1;have r1:rd h ab (place ao I 1) 1 [.slice ra n rc]:=aC hA q1;have e0:ofNat n=N:=by rw[eN];exact aR hA n
 refine hA.ar Try.func80 x80.2 (zc ?_);refine br (I<M) (by rw[aB hA]) (fun _=>?_) (fun q=>om)<;>refine zc ?_
 (refine zq ?_;repeat ((first|rw[m1]);refine zq ?_))
 refine br (B=0) (by rw[dg hA]) (fun c=>?_) (fun c=>?_)<;>refine zc ?_
 ·have tb:R.testBit i=false:=by
   cases h:R.testBit i with
   |false=>rfl
   |true=>rw[h]at eB;simp at eB;omega
  refine zq ?_;rw[aF hA om om];exact ih (i+1) s (I+1) h P om om om (by rw[Ext.my,if_neg (by rw[tb];decide),es]) t (p.aaT tb)
 ·have tb:R.testBit i=true:=by
   cases h:R.testBit i with
   |true=>rfl
   |false=>rw[h]at eB;simp at eB;omega
  (refine zq ?_;repeat ((first|rw[e0]);refine zq ?_))
  refine Yc hA (h1:=h) gq hM hg eS eR eC eI eN es ci hC era (fun h' P' kn T t' p'=>?_) n 0 0 0 0 h P om om rfl rfl rfl t p;have r2:=jw hA t' eS;obtain⟨h2,w1,t2,_⟩:=t'.grow (S:=S+1) om;have w1:wr h' b (bZ 0 0) [.int .i64 (S+1)] h2:=PM hA w1;refine zq ?_;rw[aF hA om om];refine zq ?_;rw[aF hA om om];exact ih (i+1) (s+1) (I+1) h2 P' om om om (by rw[Ext.my,if_pos tb,List.length_append,es];rfl) t2 (p'.next tb)
theorem Oe{h:af}(aq:h.low<=h.next){m n ac R C:Nat}{aa:Option Addr}{gA:List Hd}{g:List (List Int)}(hM:oD g m n)(hg:rC nC 1 h aa m gA g){RI CI:Int}(eR:RI=R)(eC:CI=C)(hR:R<16)(hC:C<16){Q:Value->af->Prop}
  (hQ:∀b h' P,Sq h h' b (Ext.bl m R).length P->(∀r c,r<(Ext.bl m R).length->c<(Ext.bl n C).length->P r c=Ext.el g (gt (Ext.bl m R) (r:Int)) (gt (Ext.bl n C) (c:Int)))->Q (.pointer (some ⟨b,0,none⟩)) h') :
  call 80 [.slice aa m ac,.int .i64 RI,.int .i64 CI] h Q:=by
 obtain⟨M,eM⟩:∃z:Int,z=m:=⟨_,rfl⟩;have e1:ofNat m=M:=by rw[eM];exact aR hA m
 refine hA.aQ Try.func80 x80.2 (hA.alike _ _ _ rfl) aq (zc ?_)
 (refine zq ?_;repeat ((first|rw[e1]);refine zq ?_))
 rw[aV hA,aW hA];refine UJ hA aq hM hg eR eC eM hR hC (fun h' P kn T t p=>?_) m 0 0 0 _ (fun _ _=>0) om om rfl rfl (Sq.new h) ⟨fun r c hr=>absurd hr (by show ¬r<0;omega),fun c hc=>absurd hc (by show ¬c<0;omega)⟩;refine zq ?_;exact hQ h.next h' P t p.up
