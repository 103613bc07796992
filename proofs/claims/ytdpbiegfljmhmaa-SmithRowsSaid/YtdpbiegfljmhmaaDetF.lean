import Derived.Test.YtdpbiegfljmhmaaSlH
import Derived.Test.YtdpbiegfljmhmaaLsP
import Derived.KernelRfl
set_option linter.unusedSimpArgs false
set_option linter.unusedVariables false
namespace Go.Proofs.Ytdpbiegfljmhmaa
open Go.cY
set_option maxRecDepth 100000
def gU(g:List (List Int))(n:Nat):Nat->Ext.aS:=fun i j=>if j<n then gt (gt g (i:Int)) (j:Int)else if j=n+i then 1 else 0
theorem QJ(g:List (List Int))(n i w:Nat)(hw:n+i<w):∃d J I,(∀x,x<d->J x<w)/\Ext.prod d (Ext.rv (i+1) (gU g n) J) (i+1) I≠0:=by
 refine⟨i+1,fun x=>n+(i-x),Ext.top (i+1),fun x hx=>by show n+(i-x)<w;omega,?_⟩;rw[Ext.fY (i+1) (V:=Ext.E) (fun y hy x hx=>?_)]
 ·have:=Ext.DZ (i+1)
  unfold Ext.vol at this;rw[this];decide
 ·show gU g n (i+1-1-y) (n+(i-x))=Ext.E y x
  unfold gU Ext.E;rw[if_neg om];by_cases c:x=y
  ·rw[if_pos om,if_pos c]
  ·rw[if_neg om,if_neg c]
theorem join_le{g:List (List Int)}{n:Nat}(h:∀i j,(gt (gt g i) j).natAbs<=9)(i j:Nat):(gU g n i j).natAbs<=9:=by
 unfold gU;split
 ·exact h _ _
 ·split<;>decide
theorem Pq:fx Try.prog 27 3 1:=⟨by kernel_rfl,by kernel_rfl,⟨8,by kernel_rfl,om⟩,⟨.int .i64 0,by kernel_rfl,rfl⟩⟩
theorem zI:iw Try.prog 3=some (.int .i64 0):=by kernel_rfl
theorem AI{h:af}{b n m:Nat}{M:Int}(eM:M=m){cells:List Value}(ho:bW h b 1 cells)(hb:b<h.next)(hl:cells.length=n)(hn:n<=1000)(hm:m<=1000)(m0:0<m)(fD:cells.all aE=true) :
  cF Try.prog h [27,3] [.slice (some ⟨b,0,none⟩) n (az 1 n),.int .i64 M]=some (.slice (some ⟨h.next,0,none⟩) (n+m) (az 1 (n+m)),(h.kill b).push 1 (cells++List.replicate m (.int .i64 0))):=by
 subst eM;have hT:=Pq;obtain⟨by_,rj,mU⟩:=hT.bytes;have hs:n<aP:=by unfold aP;omega
 have gH:iW Try.prog h 3 1 true (.int .i64 (m:Int))=some (m,List.replicate m (.int .i64 0)):=by
  unfold iW;simp only[zI,rj,cond_true];rw[if_pos ⟨om,om,mU,rfl⟩];show some (_,bF [.int .i64 0] _)=_;rw[sL];rfl
 have hr:h.aM ⟨b,0,none⟩ n=some cells:=by rw[ho.aM om];simp[<-hl]
 have Gx:(List.replicate m (Value.int IntKind.i64 0)).all aE=true:=by simp[aE]
 unfold cF;simp only[hT.vR,hT.size,rj,uI,zI,cX,gH,cA hs];rw[dU om,bq (show n+m<=1073741824 by omega),bq mU];have hg:h.m.get b=some (.live true 1 cells):=ho;simp only[cond_false,cond_true,hr,Gx,fD,cM (dE 1 n),Bool.and_self,Bool.true_and,List.length_replicate,Nat.mul_one,Nat.beq_refl,hg,show(Value.int IntKind.i64 0).cells.toList.length.beq 1=true from rfl]
theorem QK(l:List Int){j:Nat}(h:j<l.length):l[j]?=some (gt l (j:Int)):=by
 unfold gt;rw[List.getD_eq_getElem?_getD,show((j:Int)).toNat=j from rfl,List.getElem?_eq_getElem h];rfl
theorem Ext.GC.congr{w k:Nat}{F G:Nat->Ext.aS}(e:∀z,z<k->G z=F z)(h:Ext.GC w k F):Ext.GC w k G:=
 ⟨fun i hi=>by rw[e i hi];exact h.lt i hi,fun i hi=>by rw[e i hi];exact h.pos i hi,fun i j hi hj=>by rw[e i om,e j hj];exact h.inc i j hi hj,fun i j hi hj=>by rw[e i om,e j hj];exact h.red i j hi hj⟩
theorem oW.loose{h0 h h3:af}{sb k w rc nb:Nat}{ra:Option Addr}{bs:Nat->Nat}{A:Nat->Ext.aS}(t:oW h0 h sb k k w ra rc bs A)(x:Ext h h3){v:Ext.aS}(ho:bW h3 nb 1 ((iK v w).flatMap nC))(hb:h.next<=nb)(wz:nb<h3.next) :
  oW h0 h3 sb k (k+1) w ra rc (fun y=>if y=k then nb else bs y) (Ext.put A k v):=by
 have t3:=t.more x;have en:∀y,y≠k->(if y=k then nb else bs y)=bs y:=fun y hy=>if_neg hy
 have hd:kR (fun y=>if y=k then nb else bs y) w k=kR bs w k:=dX (fun y hy=>by simp only[if_neg (show ¬y=k by omega)]);have fg:=t.rows.lt;have XE:=t.rows.ext.next;refine⟨⟨t3.rows.ext,fun y hy=>?_,fun y hy=>?_,fun y hy=>?_,fun y z hy hz e=>?_⟩,t3.own,by rw[hd];exact t3.kA,om,t3.s0,t3.s1,t3.fr,fun y hy=>?_,fun ad bQ=>⟨(t3.FU ad bQ).1,fun y hy=>?_⟩⟩
 ·by_cases c:y=k
  ·rw[c,if_pos rfl,Ext.gE];exact ho
  ·rw[if_neg c,Ext.gf v c];exact t3.rows.row y om
 ·by_cases c:y=k
  ·rw[if_pos c];omega
  ·rw[if_neg c];exact t3.rows.cE y om
 ·by_cases c:y=k
  ·rw[if_pos c];exact wz
  ·rw[if_neg c];exact t3.rows.lt y om
 ·by_cases c:y=k<;>by_cases d:z=k
  ·rw[c,d]
  ·rw[if_pos c,if_neg d]at e;have:=fg z om;omega
  ·rw[if_neg c,if_pos d]at e;have:=fg y om;omega
  ·rw[if_neg c,if_neg d]at e;exact t.rows.inj y z om om e
 ·by_cases c:y=k
  ·rw[if_pos c];have:=t.s1;omega
  ·rw[if_neg c];exact t3.Sx y om
 ·by_cases c:y=k
  ·rw[if_pos c];have:=t.kA.lt ad bQ;omega
  ·rw[if_neg c];exact(t3.FU ad bQ).2 y om
structure FV(h0 h:af)(k w:Nat)(a:Option Addr)(c:Nat)(bs:Nat->Nat)(F:Nat->Ext.aS):Prop where
 rows:dW h0 h k w bs F
 kA:lE h 1 a k c ((kR bs w k).flatMap Hd.cells)
 fr:iJ h0.next a
 FU:∀ad,a=some ad->∀y,y<k->ad.block≠bs y
theorem FV.more{h0 h h':af}{k w c:Nat}{a:Option Addr}{bs:Nat->Nat}{F:Nat->Ext.aS}(t:FV h0 h k w a c bs F)(e:Ext h h'):FV h0 h' k w a c bs F:=⟨t.rows.more e,t.kA.ext e,t.fr,t.FU⟩
theorem FV.head{h0 h:af}{k w c:Nat}{a:Option Addr}{bs:Nat->Nat}{F:Nat->Ext.aS}(t:FV h0 h k w a c bs F){y:Nat}(hy:y<k):∃b,a=some ⟨b,0,none⟩/\b<h.next/\h.aM ⟨b,0+y*1,none⟩ 1=some [.slice (some ⟨bs y,0,none⟩) w (az 1 w)]:=by
 rcases t.kA with ⟨_,q,_⟩|⟨b,e,_,hb,hl,ho⟩
 ·omega
 refine⟨b,e,hb,?_⟩;have r:=bW.rows ho fM om hb;rw[show(kR bs w k).length=k from aW _ _]at r;obtain⟨b',o,e',_,q⟩:=r.at (i:=(y:Int)) om om;cases e';have:=q 0 1 om om;unfold kR at this;rw[dC _ hy]at this;exact this
theorem oW.grd{h0 h:af}{sb k n w rc:Nat}{ra:Option Addr}{bs:Nat->Nat}{F:Nat->Ext.aS}(t:oW h0 h sb k n w ra rc bs F):FV h0 h k w ra rc bs F:=
 ⟨⟨t.rows.ext,fun y hy=>t.rows.row y (by have:=t.kn;omega),fun y hy=>t.rows.cE y (by have:=t.kn;omega),fun y hy=>t.rows.lt y (by have:=t.kn;omega),fun y z hy hz=>t.rows.inj y z (by have:=t.kn;omega) (by have:=t.kn;omega)⟩,t.kA,t.fr,fun ad bQ y hy=>(t.FU ad bQ).2 y (by have:=t.kn;omega)⟩
structure Vv(h0 h:af)(k w:Nat)(a:Option Addr)(c:Nat)(bs:Nat->Nat):Prop where
 kA:lE h 1 a k c ((kR bs w k).flatMap Hd.cells)
 fr:iJ h0.next a
theorem E6(bs:Nat->Nat)(w k:Nat):kR bs w (k+1)=kR bs w k++[⟨some ⟨bs k,0,none⟩,w,az 1 w⟩]:=iM _ _
theorem dW.tail{h0 h:af}{k w n m:Nat}{bs:Nat->Nat}{F:Nat->Ext.aS}(t:dW h0 h k w bs F){y:Nat}(hy:y<k)(hw:w=n+m):Rows nC 1 h (some ⟨bs y,0+n*1,none⟩) m (iK (fun j=>F y (n+j)) m):=by
 have r:=t.jW hy;refine⟨?_,dQ,om⟩;have:=r.cells.part (i:=n) (m:=m) om;have e:((iK (F y) w).flatMap nC).drop (n*1)=(iK (fun j=>F y (n+j)) m).flatMap nC:=by
  have el:iK (F y) w=iK (F y) n++iK (fun j=>F y (n+j)) m:=by
   apply List.ext_getElem?;intro j;by_cases c:j<w
   ·rw[jE _ c]
    by_cases d:j<n
    ·rw[List.getElem?_append_left (by rw[aW];exact d),jE _ d]
    ·rw[List.getElem?_append_right (by rw[aW];omega),aW,jE _ om,show n+(j-n)=j by omega]
   ·rw[List.getElem?_eq_none (by rw[aW];omega),List.getElem?_eq_none (by rw[List.length_append,aW,aW];omega)]
  rw[el,List.flatMap_append,List.drop_append_of_le_length (by rw[dG dQ,aW];omega),List.drop_eq_nil_of_le (by rw[dG dQ,aW];omega),List.nil_append]
 rw[e,List.take_of_length_le (by rw[dG dQ,aW];omega)]at this;exact this
def Bw(s:Nat)(C:Nat->Nat->Int)(k:Nat)(last:Int)(i j:Nat):Nat->Nat->Int:=fun x y=>if k<x/\k<y/\y<s/\(x<i\/x=i/\y<j)then(C k k*C x y-C x k*C k y).tdiv last else C x y
theorem By(s:Nat)(C:Nat->Nat->Int)(k:Nat)(last:Int)(x y:Nat):Bw s C k last (k+1) (k+1) x y=C x y:=by unfold Bw;rw[if_neg om]
theorem QL(s:Nat)(C:Nat->Nat->Int)(k:Nat)(last:Int)(i x y:Nat):Bw s C k last i s x y=Bw s C k last (i+1) (k+1) x y:=by
 unfold Bw;by_cases c:k<x/\k<y/\y<s/\(x<i\/x=i/\y<s)
 ·rw[if_pos c,if_pos om]
 ·rw[if_neg c,if_neg om]
theorem Uh:Try.prog.eqGuardType Try.prog.depth 126=false:=by kernel_rfl
theorem eqP(a b c d:Int):∃r,pI Try.prog 30 126 (.agg #[.int .i64 a,.int .i64 b]) (.agg #[.int .i64 c,.int .i64 d])=some r/\(r=true↔a=c/\b=d):=by
 have h3:Try.prog.underlying 3=some (.int .i64):=by kernel_rfl
 have h4:Try.prog.underlying 126=some (.array 2 3):=by kernel_rfl
 have i3:iQ Try.prog 3=some false:=by kernel_rfl
 have s3:bY Try.prog 3=some 1:=by kernel_rfl
 have e3:∀(n:Nat) (x y:Int),pI Try.prog (n+1) 3 (.int .i64 x) (.int .i64 y)=some (x == y):=by
  intro n x y;unfold pI;rw[h3];simp
 have e4:pI Try.prog (29+1) 126 (.agg #[.int .i64 a,.int .i64 b]) (.agg #[.int .i64 c,.int .i64 d])=some ((a == c) && (b == d)):=by
  unfold pI;rw[h4];have Pj:∀(x y:Int),pI Try.prog 29 3 (.int .i64 x) (.int .i64 y)=some (x == y):=e3 28;simp only[s3,List.range,List.range.loop,List.foldr,kL,i3,List.getElem?_cons_zero,List.getElem?_cons_succ,Pj,Nat.mul_one];cases a == c<;>cases b == d<;>rfl
 refine⟨_,e4,?_⟩;simp only[Bool.and_eq_true,beq_iff_eq]
variable{F:bk}{call head arith b0 d0 gM f0 g0 neg imax k0 ofNat l0 place n0 nz o0 rd wr push next p0 q0 r0 u0 v0 w0 z0 d1 f1 part g1 l1 d2 f2 g2 aG wrote bT lt ne i2 j2 l2 yn s2 u2 b3 c3 bytes d3:_}(hA:AP F ⟨call,head,arith,b0,d0,gM,f0,g0,neg,imax,k0,ofNat,l0,place,n0,nz,o0,rd,wr,push,next,p0,q0,r0,u0,v0,w0,z0,d1,f1,part,g1,l1,d2,f2,g2,aG,wrote,bT,lt,ne,i2,j2,l2,yn,s2,u2,b3,c3,bytes,d3⟩)
include hA
theorem zL{h:af}(aq:h.low<=h.next){b o n c:Nat}{l:List Int}(hl:Rows nC 1 h (some ⟨b,o,none⟩) n l)(hn:n<=1000){Q:Value->af->Prop}
  (hQ:∀h' b' c',GS h' 1 b' n c' (l.flatMap nC)->Ext h h'->h.next<=b'->Q (.slice (some ⟨b',0,none⟩) n c') h'):call 57 [.slice (some ⟨b,o,none⟩) n c] h Q:=by
 refine hA.aU Try.func57 x57.2 (hA.alike _ _ _ rfl) aq (zc ?_);rw[sz hA,dB hA,cQ hA];have hp:GS (h.push 1 []) 1 h.next 0 0 []:=⟨bW.push h 1 [],by simp[af.push],rfl,.inl ⟨rfl,rfl⟩⟩;obtain⟨b',c',h',k1,k2,k3⟩:=GU Pq Pq.vR (c2:=c) hp (hl.ext (.push h 1 [])).cells rfl (mc zl l) om;obtain⟨x1,x2⟩:=k3 h (.push h 1 []) (Nat.le_refl _);rw[Nat.zero_add]at k1 k2;refine⟨_,_,_,h',k1,?_⟩;refine zc ?_;exact hQ h' b' c' (by simpa using k2) x1 x2
set_option maxHeartbeats 1000000 in
theorem NT(hI:sT F){h0:af}(fF:h0.low<=h0.next){sb m n w ac:Nat}{aa:Option Addr}{cT:List Hd}{g:List (List Int)}(hw:w=n+m)(n1:1<=n)(n4:n<=4)(m4:m<=4)(hg:mP nC 1 h0 aa m cT g)(hn:∀y:Int,0<=y->y<m->(gt cT y).n=n)(h9:∀i j,(gt (gt g i) j).natAbs<=9){M:Int}(eM:M=m){Q:Exit->SS->Prop}
  (hQ:∀(h':af) (kn:Nat) (T:List (Nat×List Value)) ra rc bs A,oW h0 h' sb m m w ra rc bs A->Ext.GC w m A->Ext.kX w m A (gU g n)->Q (.exit 0) ⟨[(3,.pointer (some ⟨sb,0,none⟩))],kn,T,h'⟩) :
  ∀(d i:Nat) (I:Int) (h:af) (ra:Option Addr) (rc:Nat) (bs:Nat->Nat) (A:Nat->Ext.aS),m-i<=d->i<=m->I=i->oW h0 h sb i i w ra rc bs A->Ext.GC w i A->Ext.kX w i A (gU g n)->
   head 55 3 0 ⟨[(0,.slice aa m ac),(3,.pointer (some ⟨sb,0,none⟩)),(7,.slice aa m ac),(8,.int .i64 M),(9,.int .i64 I)],0,[],h⟩ Q:=by
 refine rS (fun d ih=>?_);intro i I h ra rc bs A hd hi eI t hf hl;by_cases ci:i<m
 rotate_left
 ·refine hA.ar Try.func55 x55.2 (zc ?_)
  refine br (I<M) (by rw[aA hA]) (fun q=>om) (fun _=>?_)<;>refine zc ?_;obtain rfl:i=m:=om
  exact hQ h _ _ ra rc bs A t hf hl
 obtain⟨d,rfl⟩:∃k,d=k+1:=⟨d-1,om⟩
 replace ih:=ih d rfl
 have aq:h.low<=h.next:=t.rows.ext.aD fF;have gh:=hg.ext t.rows.ext;obtain⟨ab,ao,rfl,_,q1⟩:=gh.hd.at (i:=I) om om;have q2:=q1 0 1 om om;have row:=gh.row I om om;have rl:=hn I om om;obtain⟨b,o,eb,_⟩:=row.at (i:=0) om (by rw[rl];omega);obtain⟨hc,ehc⟩:∃z,z=(gt cT I).c:=⟨_,rfl⟩;have Dx:((gt cT I).cells.drop 0).take 1=[.slice (some ⟨b,o,none⟩) n hc]:=by
  unfold Hd.cells;rw[eb,rl,ehc];rfl
 rw[Dx]at q2;have r1:rd h ab (place ao I 1) 1 [.slice (some ⟨b,o,none⟩) n hc]:=aC hA q2;rw[eb,rl]at row;have e1:ofNat m=M:=by rw[eM];exact aL hA m
 obtain⟨N,eN⟩:∃z:Int,z=n:=⟨_,rfl⟩;have e2:ofNat n=N:=by rw[eN];exact aL hA n
 refine hA.ar Try.func55 x55.2 (zc ?_);refine br (I<M) (by rw[aA hA]) (fun _=>?_) (fun q=>om)<;>refine zc ?_;refine zq ?_;refine zL hA aq row om (fun h1 b1 c1 o1 x1 lb=>⟨_,_,_,rfl,?_⟩)
 (refine zq ?_;repeat ((first|rw[e1]);refine zq ?_))
 rw[sz hA];obtain⟨k1,k2,k3,k4⟩:=o1;have XF:c1=az 1 n:=by rcases k4 with ⟨_,q⟩|q;omega;exact q
 have aaR:(gt g I).length=n:=row.len;refine⟨_,_,_,_,by rw[XF];exact AI (m:=m) eM k1 k2 om om om om (mc zl _),?_⟩;obtain⟨h2,I7⟩:∃z,z=(h1.kill b1).push 1 ((gt g I).flatMap nC++List.replicate m (Value.int IntKind.i64 0)):=⟨_,rfl⟩;have x2:Ext h h2:=by rw[I7];exact(x1.kill lb).trans (.push _ _ _)
 have nb0:h.next<=h1.next:=x1.next;have nb1:h1.next<h2.next:=by rw[I7];exact Nat.lt_succ_self _
 have o2:bW h2 h1.next 1 ((gt g I).flatMap nC++List.replicate m (Value.int IntKind.i64 0)):=by rw[I7];exact bW.push (h1.kill b1) 1 _
 rw[<-I7];obtain⟨f,ef⟩:∃z:Nat->Int,z=fun j=>if j<n then gt (gt g I) (j:Int)else 0:=⟨_,rfl⟩
 have ecs:(gt g I).flatMap nC++List.replicate m (Value.int IntKind.i64 0)=(iK f w).flatMap nC:=by
  have e1:List.replicate m (Value.int IntKind.i64 0)=(List.replicate m (0:Int)).flatMap nC:=by
   have:∀k,List.replicate k (Value.int IntKind.i64 0)=(List.replicate k (0:Int)).flatMap nC:=fun k=>by
    induction k with
    |zero=>rfl
    |succ k ih=>rw[List.replicate_succ,List.replicate_succ,List.flatMap_cons,<-ih];rfl
   exact this m
  rw[e1,<-List.flatMap_append]
  congr 1
  apply List.ext_getElem?;intro j;by_cases c:j<w
  ·rw[jE f c,ef]
   by_cases c2:j<n
   ·rw[List.getElem?_append_left om,QK _ om]
    simp only[if_pos c2]
   ·rw[List.getElem?_append_right om,List.getElem?_replicate,if_pos om]
    simp only[if_neg c2]
  ·rw[List.getElem?_eq_none (by rw[List.length_append,List.length_replicate,aaR];omega),List.getElem?_eq_none (by rw[aW];omega)]
 rw[ecs]at o2;obtain⟨h3,w1,w2,w3⟩:=bW.setRow o2 dQ (i:=n+i) (by rw[aW];omega) (1:Int);have x3:Ext h h3:=w3.ext x2 nb0;have e3:(iK f w).set (n+i) 1=iK (gU g n i) w:=by
  rw[tW];refine dX (fun j hj=>?_);unfold gU;rw[ef,<-eI];by_cases c:j=n+i
  ·rw[if_pos c,if_neg om,if_pos c]
  ·rw[if_neg c]
   by_cases c2:j<n
   ·simp only[if_pos c2]
   ·simp only[if_neg c2,if_neg c]
 rw[e3]at w2;have t3:=t.loose x3 w2 nb0 (by rw[w3.next];exact nb1);generalize hnb:h1.next=nb at *;have a3:arith .add .i64 N I=N+I:=aH hA om om;obtain⟨J,eJ⟩:∃z:Int,z=N+I:=⟨_,rfl⟩;rw[<-eJ]at a3;have w1:wr h2 nb (place 0 J 1) [.int .i64 1] h3:=uc hA (by rw[show 0+J.toNat*1=(n+i)*1 by omega];exact w1);obtain⟨cw,qU⟩:∃z,z=az 1 (n+m):=⟨_,rfl⟩;rw[<-qU];obtain⟨wn,ewn⟩:∃z,z=n+m:=⟨_,rfl⟩;rw[<-ewn]
 (refine zq ?_;repeat ((first|rw[e2]|rw[a3]);refine zq ?_))
 have en:∀z,z<i->Ext.put A i (gU g n i) z=A z:=fun z hz=>Ext.gf _ om
 obtain⟨D,MM,rn⟩:=Ext.FQ.start (w:=w) (k:=i) (A:=Ext.put A i (gU g n i)) (F0:=gU g n) (hf.congr en) ((Ext.kX.of_eq en).trans hl) (fun y _ j=>join_le h9 y j) om (QJ g n i w om) (Ext.gE _);obtain⟨bs2,ebs⟩:∃z,z=fun y=>if y=i then nb else bs y:=⟨_,rfl⟩
 rw[<-ebs]at t3;have Zq:nb=bs2 i:=by rw[ebs];simp only[if_true]
 have aaS:wn=w:=om
 rw[aaS,Zq];refine Ui hA hI (sb:=sb) (bs:=bs2) fF om (by rw[qU,hw]) (fun y _ j=>join_le h9 y j) t3 rn (fun h4 Vw Vx XG A' t4 sk=>?_);refine zq ?_;rw[aH hA om om];exact ih (i+1) (I+1) h4 Vw Vx XG A' om om om t4 sk.Qp sk.Df
theorem Hn(hI:sT F){h:af}(aq:h.low<=h.next){m n w ac:Nat}{aa:Option Addr}{cT:List Hd}{g:List (List Int)}(hw:w=n+m)(n1:1<=n)(n4:n<=4)(m4:m<=4)(hg:mP nC 1 h aa m cT g)(hn:∀y:Int,0<=y->y<m->(gt cT y).n=n)(h9:∀i j,(gt (gt g i) j).natAbs<=9){Q:Value->af->Prop}
  (hQ:∀h' sb ra rc bs A,oW h h' sb m m w ra rc bs A->Ext.GC w m A->Ext.kX w m A (gU g n)->Q (.slice ra m rc) h') :
  call 55 [.slice aa m ac] h Q:=by
 obtain⟨M,eM⟩:∃z:Int,z=m:=⟨_,rfl⟩;have e1:ofNat m=M:=by rw[eM];exact aL hA m
 refine hA.aU Try.func55 x55.2 (hA.alike _ _ _ rfl) aq (zc ?_)
 (refine zq ?_;repeat ((first|rw[e1]);refine zq ?_))
 have xp:Ext h (push h 1 [.slice none 0 0]):=by rw[dB hA];exact .push _ _ _
 have t0:oW h (push h 1 [.slice none 0 0]) (next h) 0 0 w none 0 (fun _=>0) (fun _ _=>0):=by
  rw[dB hA,cQ hA];exact⟨⟨.push _ _ _,fun y hy=>om,fun y hy=>om,fun y hy=>om,fun y z hy=>om⟩,bW.push _ _ _,.nil _ _,Nat.le_refl _,Nat.le_refl _,Nat.lt_succ_self _,.none _,fun y hy=>om,fun ad bQ=>by cases bQ⟩
 refine NT hA hI (sb:=next h) aq hw n1 n4 m4 hg hn h9 eM (fun h' kn T ra rc bs A t hf hl=>?_) m 0 0 _ none 0 (fun _=>0) (fun _ _=>0) om om rfl t0 ⟨fun i hi=>om,fun i hi=>om,fun i j hi hj=>om,fun i j hi hj=>om⟩ ⟨fun i hi=>om,fun i hi=>om,1,.inl rfl,fun d J I=>?_⟩
 ·have r1:rd h' (next h) (bT 0 0) 1 [.slice ra m rc]:=by rw[cZ hA];exact jj hA (t.own.aM (o:=0) (n:=1) (Nat.le_refl _))
  have hq:=hQ h' (next h) ra rc bs A t hf hl;generalize next h=sb at *;refine zq ?_;exact hq
 ·show Ext.unit I=1*Ext.unit I
  omega
set_option maxHeartbeats 1000000 in
theorem E7{h0:af}(fF:h0.low<=h0.next){m n w r s rc:Nat}{ra:Option Addr}{bs:Nat->Nat}{A:Nat->Ext.aS}(hw:w=n+m)(n4:n<=4)(m1:1<=m)(m4:m<=4)(hr:r<=m)(es:r+s=m)(lo:∀y,y<r->Ext.aj w (A y)<n)(hi:∀y,r<=y->y<m->n<=Ext.aj w (A y)){M N:Int}(eM:M=m)(eN:N=n){Q:Exit->SS->Prop}
  (hQ:∀(h':af) (kn:Nat) (T:List (Nat×List Value)) pa pc qa qc rb,dW h0 h' m w bs A->Vv h0 h' r w pa pc bs->FV h0 h' s m qa qc rb (fun y j=>A (r+y) (n+j))->(∀ad,pa=some ad->∀y,y<m->ad.block≠bs y)->Q (.exit 0) ⟨[(2,.slice pa r pc),(3,.slice qa s qc)],kn,T,h'⟩) :
  ∀(d i u v:Nat) (I:Int) (h:af) (pa qa:Option Addr) (pc qc:Nat) (rb:Nat->Nat),m-i<=d->i<=m->I=i->u=min i r->v=i-r->FV h0 h m w ra rc bs A->Vv h0 h u w pa pc bs->FV h0 h v m qa qc rb (fun y j=>A (r+y) (n+j))->
   (∀ad,pa=some ad->(∀y,y<m->ad.block≠bs y)/\(∀y,y<v->ad.block≠rb y)/\∀bd,qa=some bd->ad.block≠bd.block)->(∀ad,qa=some ad->∀y,y<m->ad.block≠bs y)->
   (∀ad,ra=some ad->(∀bd,pa=some bd->ad.block≠bd.block)/\∀bd,qa=some bd->ad.block≠bd.block)->
   head 29 3 0 ⟨[(2,.slice pa u pc),(3,.slice qa v qc),(4,.int .i64 N),(12,.slice ra m rc),(13,.int .i64 M),(14,.int .i64 I)],0,[],h⟩ Q:=by
 refine rS (fun d ih=>?_);intro i u v I h pa qa pc qc rb hd FM eI eu ev t p q z1 z2 z5;by_cases ci:i<m
 rotate_left
 ·refine hA.ar Try.func29 x29.2 (zc ?_)
  refine br (I<M) (by rw[aA hA]) (fun q=>om) (fun _=>?_)<;>refine zc ?_;obtain rfl:u=r:=om
  obtain rfl:v=s:=om
  exact hQ h _ _ pa pc qa qc rb t.rows p q (fun ad bQ=>(z1 ad bQ).1)
 obtain⟨d,rfl⟩:∃k,d=k+1:=⟨d-1,om⟩
 replace ih:=ih d rfl
 have aq:h.low<=h.next:=t.rows.ext.aD fF;obtain⟨ab,rfl,MD,q1⟩:=t.head ci;obtain⟨cw,qU⟩:∃z,z=az 1 w:=⟨_,rfl⟩;rw[<-qU]at q1;have r1:rd h ab (place 0 I 1) 1 [.slice (some ⟨bs i,0,none⟩) w cw]:=aC hA (by rw[eI];exact q1);obtain⟨z6,z7⟩:=z5 _ rfl;refine hA.ar Try.func29 x29.2 (zc ?_);refine br (I<M) (by rw[aA hA]) (fun _=>?_) (fun q=>om)<;>refine zc ?_;refine zq ?_;refine rI hA aq om (fun x hx=>t.rows.el ci hx) (fun L eL=>⟨L,rfl,?_⟩);refine zq ?_;refine br (L<N) (by rw[aA hA]) (fun cl=>?_) (fun cl=>?_)<;>refine zc ?_
 ·have hir:i<r:=by
   rcases Nat.lt_or_ge i r with c|c
   ·exact c
   ·have:=hi i c ci;omega
  obtain rfl:u=i:=om
  obtain rfl:v=0:=om
  refine zq ?_;refine xk hA zf fM om zM (v:=(⟨some ⟨bs u,0,none⟩,w,cw⟩:Hd)) p.kA om (fun b' h' a' x' n' Uj k'=>?_);rw[qU,<-E6]at a';have xe:Ext h0 h':=x' h0 t.rows.ext p.fr;have kr:∀y,y<m->h'.m.get (bs y)=h.m.get (bs y):=fun y hy=>k' _ (t.rows.lt y hy) (fun ad bQ=>(z1 ad bQ).1 y hy)
  have t2:FV h0 h' m w (some ⟨ab,0,none⟩) rc bs A:=⟨t.rows.bj xe (Nat.le_of_lt n') kr,t.kA.dj (Nat.le_of_lt n') (fun ad bQ hl=>by cases bQ;exact k' ab MD (fun ad bQ=>(z6 ad bQ).symm)),t.fr,t.FU⟩;have q2:FV h0 h' 0 m qa qc rb (fun y j=>A (r+y) (n+j)):=⟨q.rows.bj xe (Nat.le_of_lt n') (fun y hy=>om),q.kA.dj (Nat.le_of_lt n') (fun ad bQ hl=>k' _ hl (fun bd mC=>(z1 bd mC).2.2 ad bQ)),q.fr,q.FU⟩;have xQ:=t.rows.ext.next;have p2:Vv h0 h' (u+1) w (some ⟨b',0,none⟩) (az 1 (u+1)) bs:=⟨a',fun ad bQ=>by cases bQ;show h0.next<=b';omega⟩;generalize az 1 (u+1)=cc at *;obtain⟨u1,Zr⟩:∃z,z=u+1:=⟨_,rfl⟩;rw[<-Zr]at p2 ⊢;refine zq ?_;rw[aH hA om om];refine ih (u+1) u1 0 (I+1) h' (some ⟨b',0,none⟩) qa cc qc rb om om om om om t2 p2 q2 (fun ad bQ=>?_) z2 (fun ad bQ=>?_)
  ·cases bQ
   exact⟨fun y hy=>by have:=t.rows.lt y hy;show b'≠_;omega,fun y hy=>om,fun bd mC=>by have:=q.kA.lt bd mC;show b'≠_;omega⟩
  ·cases bQ
   exact⟨fun bd mC=>by cases mC;show ab≠b';omega,z7⟩
 ·have hir:r<=i:=by
   rcases Nat.lt_or_ge i r with c|c
   ·have:=lo i c;omega
   ·exact c
  obtain rfl:u=r:=om
  refine zq ?_;rw[qU];refine Ct hA Pq (n:=w) (i:=N) om om om (fun c'=>?_);rw[show 0+N.toNat*1=0+n*1 by omega,show w-N.toNat=m by omega,<-qU];obtain⟨o,eo⟩:∃z,z=0+n*1:=⟨_,rfl⟩;have tl:=t.rows.tail ci hw;rw[<-eo]at tl ⊢;refine zq ?_;refine zL hA aq tl om (fun h1 b1 c1 o1 x1 lb=>⟨_,_,_,rfl,?_⟩);obtain⟨k1,k2,k3,k4⟩:=o1;have XF:c1=az 1 m:=by rcases k4 with ⟨_,q⟩|q;omega;exact q
  have t1:=t.more x1;have p1:=p.kA.ext x1;have q1:=q.more x1;have n1:=x1.next;refine zq ?_;refine xk hA zf fM om zM (v:=(⟨some ⟨b1,0,none⟩,m,c1⟩:Hd)) q1.kA om (fun b' h' a' x' n' Uj k'=>?_);have xe:Ext h0 h':=x' h0 t1.rows.ext q.fr;have xQ:=t1.rows.ext.next;have kr:∀y,y<m->h'.m.get (bs y)=h1.m.get (bs y):=fun y hy=>k' _ (t1.rows.lt y hy) (fun ad bQ=>z2 ad bQ y hy)
  have t2:FV h0 h' m w (some ⟨ab,0,none⟩) rc bs A:=⟨t1.rows.bj xe (Nat.le_of_lt n') kr,t1.kA.dj (Nat.le_of_lt n') (fun ad bQ hl=>by cases bQ;exact k' ab om (fun ad bQ=>(z7 ad bQ).symm)),t.fr,t.FU⟩;have p2:Vv h0 h' u w pa pc bs:=⟨p1.dj (Nat.le_of_lt n') (fun ad bQ hl=>k' _ hl (fun bd mC=>((z1 ad bQ).2.2 bd mC).symm)),p.fr⟩;obtain⟨XH,erb⟩:∃z,z=fun y=>if y=v then b1 else rb y:=⟨_,rfl⟩
  have Sy:XH v=b1:=by rw[erb];simp only[if_true]
  have Pr:∀y,y<v->XH y=rb y:=fun y hy=>by rw[erb];simp only[if_neg (show ¬y=v by omega)]
  have ehd:kR rb m v++[(⟨some ⟨b1,0,none⟩,m,c1⟩:Hd)]=kR XH m (v+1):=by
   rw[E6,Sy,XF]
   congr 1
   exact dX (fun y hy=>by rw[Pr y hy])
  rw[ehd]at a';have fg:=q.rows.lt;have ev2:u+v=i:=om
  have q2:FV h0 h' (v+1) m (some ⟨b',0,none⟩) (az 1 (v+1)) XH (fun y j=>A (u+y) (n+j)):=by
   refine⟨⟨xe,fun y hy=>?_,fun y hy=>?_,fun y hy=>?_,fun y z hy hz e=>?_⟩,a',fun ad bQ=>by cases bQ;show h0.next<=b';omega,fun ad bQ y hy=>?_⟩
   ·by_cases c:y=v
    ·rw[c,Sy,ev2];exact k1.dj (k' b1 k2 (fun ad bQ=>by have:=q.kA.lt ad bQ;omega))
    ·rw[Pr y om];exact(q1.rows.row y om).dj (k' _ (q1.rows.lt y om) (fun ad bQ=>q.FU ad bQ y om))
   ·by_cases c:y=v
    ·rw[c,Sy];have:=t.rows.ext.next;omega
    ·rw[Pr y om];exact q.rows.cE y om
   ·by_cases c:y=v
    ·rw[c,Sy];omega
    ·rw[Pr y om];have:=fg y om;omega
   ·by_cases c:y=v<;>by_cases d:z=v
    ·rw[c,d]
    ·rw[c,Sy,Pr z om]at e;have:=fg z om;omega
    ·rw[d,Sy,Pr y om]at e;have:=fg y om;omega
    ·rw[Pr y om,Pr z om]at e;exact q.rows.inj y z om om e
   ·cases bQ
    by_cases c:y=v
    ·rw[c,Sy];show b'≠b1;omega
    ·rw[Pr y om];have:=fg y om;show b'≠_;omega
  have pl:=p.kA.lt;generalize az 1 (v+1)=cc at *;obtain⟨v1,ev1⟩:∃z,z=v+1:=⟨_,rfl⟩;rw[<-ev1]at q2 ⊢;refine zq ?_;rw[aH hA om om];refine ih (i+1) u v1 (I+1) h' pa (some ⟨b',0,none⟩) pc cc XH om om om om om t2 p2 q2 (fun ad bQ=>⟨(z1 ad bQ).1,fun y hy=>?_,fun bd mC=>?_⟩) (fun ad bQ y hy=>?_) (fun ad bQ=>?_)
  ·by_cases c:y=v
   ·rw[c,Sy];have:=pl ad bQ;omega
   ·rw[Pr y om];exact(z1 ad bQ).2.1 y om
  ·cases mC;have:=pl ad bQ;show _≠b';omega
  ·cases bQ;have:=t1.rows.lt y hy;show b'≠_;omega
  ·cases bQ
   exact⟨z6,fun bd mC=>by cases mC;show ab≠b';omega⟩
theorem KA(hI:sT F){h:af}(aq:h.low<=h.next){m n w ac:Nat}{aa:Option Addr}{cT:List Hd}{g:List (List Int)}(hw:w=n+m)(n1:1<=n)(n4:n<=4)(m1:1<=m)(m4:m<=4)(hg:mP nC 1 h aa m cT g)(hn:∀y:Int,0<=y->y<m->(gt cT y).n=n)(h9:∀i j,(gt (gt g i) j).natAbs<=9){Q:Value->af->Prop}
  (hQ:∀h' r s pa pc qa qc bs rb A,Ext.GC w m A->Ext.kX w m A (gU g n)->r+s=m->(∀y,y<r->Ext.aj w (A y)<n)->(∀y,r<=y->y<m->n<=Ext.aj w (A y))->dW h h' m w bs A->Vv h h' r w pa pc bs->FV h h' s m qa qc rb (fun y j=>A (r+y) (n+j))->(∀ad,pa=some ad->∀y,y<m->ad.block≠bs y)->Q (.tuple #[.slice pa r pc,.slice qa s qc]) h') :
  call 29 [.slice aa m ac] h Q:=by
 obtain⟨ab,ao,rfl,_,q1⟩:=hg.hd.at (i:=0) om om;have q2:=q1 0 1 om om;have row:=hg.row 0 om om;have rl:=hn 0 om om;obtain⟨b,o,eb,_⟩:=row.at (i:=0) om (by rw[rl];omega);obtain⟨hc,ehc⟩:∃z,z=(gt cT 0).c:=⟨_,rfl⟩;have Dx:((gt cT 0).cells.drop 0).take 1=[.slice (some ⟨b,o,none⟩) n hc]:=by
  unfold Hd.cells;rw[eb,rl,ehc];rfl
 rw[Dx]at q2;have r1:rd h ab (place ao 0 1) 1 [.slice (some ⟨b,o,none⟩) n hc]:=aC hA q2;obtain⟨N,eN⟩:∃z:Int,z=n:=⟨_,rfl⟩;have e2:ofNat n=N:=by rw[eN];exact aL hA n
 obtain⟨M,eM⟩:∃z:Int,z=m:=⟨_,rfl⟩;have e1:ofNat m=M:=by rw[eM];exact aL hA m
 refine hA.aU Try.func29 x29.2 (hA.alike _ _ _ rfl) aq (zc ?_)
 (refine zq ?_;repeat ((first|rw[e2]);refine zq ?_))
 refine Hn hA hI aq hw n1 n4 m4 hg hn h9 (fun h1 sb ra rc bs A st hf hl=>?_);obtain⟨r,hr,lo,hi⟩:=hf.gJ.parts n;refine⟨_,_,_,rfl,?_⟩
 (refine zq ?_;repeat ((first|rw[e1]);refine zq ?_))
 refine E7 hA (h0:=h) (s:=m-r) aq hw n4 m1 m4 hr om lo hi eM eN (fun h' kn T pa pc qa qc rb x1 x2 x3 x4=>?_) m 0 0 0 0 h1 none none 0 0 (fun _=>0) om om rfl om om st.grd ⟨.nil _ _,.none _⟩ ⟨⟨st.rows.ext,fun y hy=>om,fun y hy=>om,fun y hy=>om,fun y z hy=>om⟩,.nil _ _,.none _,fun ad bQ=>by cases bQ⟩ (fun ad bQ=>by cases bQ) (fun ad bQ=>by cases bQ) (fun ad bQ=>⟨(fun bd mC=>by cases mC),(fun bd mC=>by cases mC)⟩);have hq:=hQ h' r (m-r) pa pc qa qc bs rb A hf hl om lo hi x1 x2 x3 x4;generalize m-r=s at *;refine zq ?_;exact hq
theorem jJ{h0 h:af}{b s:Nat}{M:Nat->Nat->Int}(t:Sq h0 h b s M){S:Int}(eS:S=s):rd h b (bT 0 0) 1 [.int .i64 S]:=QD hA (by rw[eS];exact t.size)
theorem uz{h0 h:af}{b s:Nat}{M:Nat->Nat->Int}(t:Sq h0 h b s M){i j:Nat}(hi:i<4)(hj:j<4){I J v:Int}(eI:I=i)(eJ:J=j)(ev:v=M i j):rd h b (place (place (bT 0 1) I 4) J 1) 1 [.int .i64 v]:=by
 rw[CK hA,gq hA,gq hA,cZ hA,eI,eJ,ev];exact t.el hi hj
theorem NU{h0 h:af}{b s:Nat}{M:Nat->Nat->Int}(t:Sq h0 h b s M){i:Nat}(hi:i<4){I:Int}(eI:I=i):rd h b (place (bT 0 1) I 4) 4 [.int .i64 (M i 0),.int .i64 (M i 1),.int .i64 (M i 2),.int .i64 (M i 3)]:=by
 rw[CK hA,gq hA,cZ hA,eI];exact t.row hi
theorem CN{h0 h:af}{b s:Nat}{M:Nat->Nat->Int}(t:Sq h0 h b s M){i j:Nat}(hi:i<4)(hj:j<4){I J v:Int}(eI:I=i)(eJ:J=j):∃h',wr h b (place (place (bT 0 1) I 4) J 1) [.int .i64 v] h'/\Sq h0 h' b s (tV M i j v)/\jf h h' b:=by
 obtain⟨h',w1,w2,w3⟩:=t.set hi hj v;refine⟨h',?_,w2,w3⟩;rw[NK hA,gq hA,gq hA,cZ hA,eI,eJ];exact w1
theorem Bz{h0 h:af}{b s:Nat}{M:Nat->Nat->Int}(t:Sq h0 h b s M){i:Nat}(hi:i<4){I:Int}(eI:I=i)(w:Nat->Int){a0 a1 a2 a3:Int}(e0:a0=w 0)(e1:a1=w 1)(e2:a2=w 2)(e3:a3=w 3):∃h',wr h b (place (bT 0 1) I 4) [.int .i64 a0,.int .i64 a1,.int .i64 a2,.int .i64 a3] h'/\Sq h0 h' b s (TV M i w)/\jf h h' b:=by
 obtain⟨h',w1,w2,w3⟩:=t.setRow hi w;refine⟨h',?_,w2,w3⟩;rw[NK hA,gq hA,cZ hA,eI,e0,e1,e2,e3];exact w1
theorem QM{h0:af}{b s k i:Nat}{M:Nat->Nat->Int}(hs:s<=4)(hi:i<s){K I S:Int}(eK:K=k)(eI:I=i)(eS:S=s){c0 c1:Int}{Q:Exit->SS->Prop}
  (NV:∀(j:Nat) (J:Int) (h':af),k<=j->j<s->J=j->M i j≠0->Sq h0 h' b s M->Q .ret ⟨[(5,.bool true),(37,.agg #[.int .i64 I,.int .i64 J]),(36,.int .i64 J),(35,.int .i64 I),(4,.pointer (some ⟨0,0,some 0⟩)),(6,.int .i64 I),(7,.int .i64 J)],1,[(0,[.int .i64 I,.int .i64 J]),(0,[.int .i64 c0,.int .i64 c1])],h'⟩)
  (Gh:∀(h':af),(∀j,k<=j->j<s->M i j=0)->Sq h0 h' b s M->Q (.exit 2) ⟨[(0,.pointer (some ⟨b,0,none⟩)),(1,.int .i64 K),(4,.pointer (some ⟨0,0,some 0⟩)),(6,.int .i64 I)],1,[(0,[.int .i64 c0,.int .i64 c1])],h'⟩) :
  ∀(d j:Nat) (J:Int) (h:af),s-j<=d->k<=j->j<=s->J=j->(∀x,k<=x->x<j->M i x=0)->Sq h0 h b s M->
   head 97 5 1 ⟨[(0,.pointer (some ⟨b,0,none⟩)),(1,.int .i64 K),(4,.pointer (some ⟨0,0,some 0⟩)),(6,.int .i64 I),(7,.int .i64 J)],1,[(0,[.int .i64 c0,.int .i64 c1])],h⟩ Q:=by
 intro d
 induction d with
 |zero=>
  intro j J h hd kj hj eJ hz t;have r1:=jJ hA t eS;refine hA.ar Try.func97 x97.2 (zc ?_);refine zq ?_;refine br (J<S) (by rw[aA hA]) (fun q=>om) (fun _=>?_)<;>refine zc ?_;exact Gh h (fun x x0 x1=>hz x x0 om) t
 |succ d ih=>
 intro j J h hd kj hj eJ hz t;have r1:=jJ hA t eS;by_cases cj:j<s
 rotate_left
 ·refine hA.ar Try.func97 x97.2 (zc ?_)
  refine zq ?_;refine br (J<S) (by rw[aA hA]) (fun q=>om) (fun _=>?_)<;>refine zc ?_;exact Gh h (fun x x0 x1=>hz x x0 om) t
 obtain⟨v,ev⟩:∃z,z=M i j:=⟨_,rfl⟩;have r2:=uz hA t (i:=i) (j:=j) om om eI eJ ev;refine hA.ar Try.func97 x97.2 (zc ?_);refine zq ?_;refine br (J<S) (by rw[aA hA]) (fun _=>?_) (fun q=>om)<;>refine zc ?_;refine zq ?_;refine br (v≠0) (by rw[cB hA]) (fun c=>?_) (fun c=>?_)<;>refine zc ?_
 ·refine zq ?_
  exact NV j J h kj cj eJ (by rw[<-ev];exact c) t
 refine zq ?_;rw[aH hA om om];refine ih (j+1) (J+1) h om om om om (fun x x0 x1=>?_) t;by_cases e:x=j
 ·rw[e,<-ev];omega
 ·exact hz x x0 om
theorem NW{h0:af}{b s k:Nat}{M:Nat->Nat->Int}(hs:s<=4){K S:Int}(eK:K=k)(eS:S=s){c0 c1:Int}{Q:Exit->SS->Prop}
  (NV:∀(i j:Nat) (I J:Int) (h':af),k<=i->i<s->k<=j->j<s->I=i->J=j->M i j≠0->Sq h0 h' b s M->Q .ret ⟨[(5,.bool true),(37,.agg #[.int .i64 I,.int .i64 J]),(36,.int .i64 J),(35,.int .i64 I),(4,.pointer (some ⟨0,0,some 0⟩)),(6,.int .i64 I),(7,.int .i64 J)],1,[(0,[.int .i64 I,.int .i64 J]),(0,[.int .i64 c0,.int .i64 c1])],h'⟩)
  (Gh:∀(h':af),(∀i j,k<=i->i<s->k<=j->j<s->M i j=0)->Sq h0 h' b s M->Q (.exit 0) ⟨[(4,.pointer (some ⟨0,0,some 0⟩))],1,[(0,[.int .i64 c0,.int .i64 c1])],h'⟩) :
  ∀(d i:Nat) (I:Int) (h:af),s-i<=d->k<=i->i<=s->I=i->(∀x j,k<=x->x<i->k<=j->j<s->M x j=0)->Sq h0 h b s M->
   head 97 2 1 ⟨[(0,.pointer (some ⟨b,0,none⟩)),(1,.int .i64 K),(4,.pointer (some ⟨0,0,some 0⟩)),(6,.int .i64 I)],1,[(0,[.int .i64 c0,.int .i64 c1])],h⟩ Q:=by
 intro d
 induction d with
 |zero=>
  intro i I h hd ki hi eI hz t;have r1:=jJ hA t eS;refine hA.ar Try.func97 x97.2 (zc ?_);refine zq ?_;refine br (I<S) (by rw[aA hA]) (fun q=>om) (fun _=>?_)<;>refine zc ?_;exact Gh h (fun x j x0 x1=>hz x j x0 om) t
 |succ d ih=>
 intro i I h hd ki hi eI hz t;have r1:=jJ hA t eS;by_cases ci:i<s
 rotate_left
 ·refine hA.ar Try.func97 x97.2 (zc ?_)
  refine zq ?_;refine br (I<S) (by rw[aA hA]) (fun q=>om) (fun _=>?_)<;>refine zc ?_;exact Gh h (fun x j x0 x1=>hz x j x0 om) t
 refine hA.ar Try.func97 x97.2 (zc ?_);refine zq ?_;refine br (I<S) (by rw[aA hA]) (fun _=>?_) (fun q=>om)<;>refine zc ?_;refine zq ?_;refine QM hA hs ci eK eI eS (fun j J h' j0 j1 eJ nz t'=>?_) (fun h' Tl t'=>?_) (s-k) k K h om om om eK (fun x x0 x1=>om) t
 ·exact NV i j I J h' ki ci j0 j1 eI eJ nz t'
 refine zq ?_;rw[aH hA om om];refine ih (i+1) (I+1) h' om om om om (fun x j x0 x1 j0 j1=>?_) t';by_cases e:x=i
 ·rw[e];exact Tl j j0 j1
 ·exact hz x j x0 om j0 j1
theorem QN{h0 h:af}(aq:h.low<=h.next){b s k:Nat}{M:Nat->Nat->Int}(t:Sq h0 h b s M)(hs:s<=4)(hk:k<=s){K:Int}(eK:K=k){Q:Value->af->Prop}
  (NV:∀(i j:Nat) (I J:Int) (h':af),k<=i->i<s->k<=j->j<s->I=i->J=j->M i j≠0->Sq h0 h' b s M->Q (.tuple #[.agg #[.int .i64 I,.int .i64 J],.bool true]) h')
  (Gh:∀(h':af),(∀i j,k<=i->i<s->k<=j->j<s->M i j=0)->Sq h0 h' b s M->Q (.tuple #[.agg #[.int .i64 0,.int .i64 0],.bool false]) h') :
  call 97 [.pointer (some ⟨b,0,none⟩),.int .i64 K] h Q:=by
 obtain⟨S,eS⟩:∃z:Int,z=s:=⟨_,rfl⟩;refine hA.aU Try.func97 x97.2 (hA.alike _ _ _ rfl) aq (zc ?_);refine NW hA (h0:=h0) hs eK eS (fun i j I J h' i0 i1 j0 j1 eI eJ nz t'=>?_) (fun h' hz t'=>?_) (s-k) k K h om om hk eK (fun x j x0 x1=>om) t
 ·refine zq ?_
  exact NV i j I J h' i0 i1 j0 j1 eI eJ nz t'
 ·refine zq ?_
  exact Gh h' hz t'
theorem E8{h0 h:af}(aq:h.low<=h.next){b s x y:Nat}{M:Nat->Nat->Int}(t:Sq h0 h b s M)(hx:x<4)(hy:y<4){X Y:Int}(eX:X=x)(eY:Y=y){Q:Value->af->Prop}
  (hQ:∀h',Sq h0 h' b s (fun i j=>M (Ext.sw x y i) j)->ku h h' b->Q (.tuple #[]) h') :
  call 95 [.pointer (some ⟨b,0,none⟩),.int .i64 X,.int .i64 Y] h Q:=by
 obtain⟨h9,zN⟩:∃z,z=aG h 24:=⟨_,rfl⟩;have x9:Ext h h9:=by rw[zN];exact au hA _ _
 have t9:=t.more x9;have r1:=NU hA t9 hx eX;have r2:=NU hA t9 hy eY;obtain⟨x0,ex0⟩:∃z,z=M x 0:=⟨_,rfl⟩;obtain⟨x1,QO⟩:∃z,z=M x 1:=⟨_,rfl⟩;obtain⟨x2,Ps⟩:∃z,z=M x 2:=⟨_,rfl⟩;obtain⟨x3,XI⟩:∃z,z=M x 3:=⟨_,rfl⟩;obtain⟨y0,ey0⟩:∃z,z=M y 0:=⟨_,rfl⟩;obtain⟨y1,XJ⟩:∃z,z=M y 1:=⟨_,rfl⟩;obtain⟨y2,ey2⟩:∃z,z=M y 2:=⟨_,rfl⟩;obtain⟨y3,ey3⟩:∃z,z=M y 3:=⟨_,rfl⟩;rw[<-ex0,<-QO,<-Ps,<-XI]at r1;rw[<-ey0,<-XJ,<-ey2,<-ey3]at r2;obtain⟨h1,w1,t1,v1⟩:=Bz hA t9 hx eX (M y) ey0 XJ ey2 ey3;obtain⟨h2,w2,t2,v2⟩:=Bz hA t1 hy eY (M x) ex0 QO Ps XI;refine hA.aU Try.func95 x95.2 (hA.alike _ _ _ rfl) aq (zc ?_);rw[<-zN];refine zq ?_;refine hQ h2 (t2.congr (fun i j hi hj=>?_)) ((((ku.refl h b).ext x9).wrote v1).wrote v2);unfold TV Ext.sw;by_cases c:i=y
 ·rw[if_pos c]
  by_cases d:i=x
  ·rw[if_pos d,<-c,<-d]
  ·rw[if_neg d,if_pos c]
 ·rw[if_neg c]
  by_cases d:i=x
  ·rw[if_pos d,if_pos d]
  ·rw[if_neg d,if_neg d,if_neg c]
def Vy(M:Nat->Nat->Int)(x y n:Nat):Nat->Nat->Int:=fun i j=>if i<n then M i (Ext.sw x y j)else M i j
theorem AJ{h0:af}{b s x y:Nat}{M:Nat->Nat->Int}(hx:x<4)(hy:y<4){X Y:Int}(eX:X=x)(eY:Y=y){Q:Exit->SS->Prop}
  (hQ:∀h',Sq h0 h' b s (fun i j=>M i (Ext.sw x y j))->Q (.exit 0) ⟨[],0,[],h'⟩) :
  ∀(d i:Nat) (I:Int) (h:af),4-i<=d->i<=4->I=i->Sq h0 h b s (Vy M x y i)->
   head 96 1 0 ⟨[(0,.pointer (some ⟨b,0,none⟩)),(1,.int .i64 X),(2,.int .i64 Y),(7,.int .i64 I)],0,[],h⟩ Q:=by
 refine rS (fun d ih=>?_);intro i I h hd hi eI t;by_cases ci:i<4
 rotate_left
 ·refine hA.ar Try.func96 GX (zc ?_)
  refine br (I<4) (by rw[aA hA]) (fun q=>om) (fun _=>?_)<;>refine zc ?_;exact hQ h (t.congr (fun i' j FM hj=>by unfold Vy;rw[if_pos om]))
 obtain⟨d,rfl⟩:∃k,d=k+1:=⟨d-1,om⟩
 replace ih:=ih d rfl
 obtain⟨h9,zN⟩:∃z,z=aG h 32:=⟨_,rfl⟩;have t9:=t.more (show Ext h h9 by rw[zN];exact au hA _ _);obtain⟨u,eu⟩:∃z,z=Vy M x y i i x:=⟨_,rfl⟩;obtain⟨v,ev⟩:∃z,z=Vy M x y i i y:=⟨_,rfl⟩;have r1:=uz hA t9 ci hx eI eX eu;have r2:=uz hA t9 ci hy eI eY ev;obtain⟨h1,w1,t1,_⟩:=CN hA t9 ci hx eI eX (v:=v);obtain⟨h2,w2,t2,_⟩:=CN hA t1 ci hy eI eY (v:=u);refine hA.ar Try.func96 GX (zc ?_);refine br (I<4) (by rw[aA hA]) (fun _=>?_) (fun q=>om)<;>refine zc ?_;rw[<-zN];refine zq ?_;rw[aH hA om om];refine ih (i+1) (I+1) h2 om om om (t2.congr (fun i' j FM hj=>?_));rw[eu,ev];unfold tV Vy Ext.sw;by_cases c:i'=i
 ·subst c
  simp only[Nat.lt_irrefl,if_false,true_and,Nat.lt_succ_self,if_true];by_cases c1:j=y
  ·rw[if_pos c1]
   by_cases c2:j=x
   ·rw[if_pos c2,<-c1,<-c2]
   ·rw[if_neg c2,if_pos c1]
  ·rw[if_neg c1]
   by_cases c2:j=x
   ·rw[if_pos c2,if_pos c2]
   ·rw[if_neg c2,if_neg c2,if_neg c1]
 ·rw[if_neg om,if_neg om]
  by_cases c1:i'<i
  ·rw[if_pos c1,if_pos (show i'<i+1 by omega)]
  ·rw[if_neg c1,if_neg (show ¬i'<i+1 by omega)]
theorem E9{h0 h:af}(aq:h.low<=h.next){b s x y:Nat}{M:Nat->Nat->Int}(t:Sq h0 h b s M)(hx:x<4)(hy:y<4){X Y:Int}(eX:X=x)(eY:Y=y){Q:Value->af->Prop}
  (hQ:∀h',Sq h0 h' b s (fun i j=>M i (Ext.sw x y j))->Q (.tuple #[]) h') :
  call 96 [.pointer (some ⟨b,0,none⟩),.int .i64 X,.int .i64 Y] h Q:=by
 refine hA.aU Try.func96 GX (hA.alike _ _ _ rfl) aq (zc ?_);refine AJ hA hx hy eX eY (fun h' t'=>?_) 4 0 0 h om om rfl (t.congr (fun i j hi hj=>by unfold Vy;rw[if_neg om]));refine zq ?_;exact hQ h' t'
theorem XK{h0:af}{b s k i:Nat}{C:Nat->Nat->Int}{last:Int}(hs:s<=4)(hk:k<i)(hi:i<s){K I S:Int}(eK:K=k)(eI:I=i)(eS:S=s)(hb:∀x y,k<=x->x<s->k<=y->y<s->(C x y).natAbs<=157464)(lz:last≠0){Q:Exit->SS->Prop}
  (hQ:∀(h':af),Sq h0 h' b s (Bw s C k last i s)->Q (.exit 4) ⟨[(0,.pointer (some ⟨b,0,none⟩)),(3,.func (.func 95) #[.pointer (some ⟨b,0,none⟩)] #[]),(4,.func (.func 96) #[.pointer (some ⟨b,0,none⟩)] #[]),(5,.int .i64 last),(6,.int .i64 K),(9,.int .i64 I),(18,.int .i64 S),(19,.int .i64 K)],0,[],h'⟩) :
  ∀(d j:Nat) (J:Int) (h:af),s-j<=d->k<j->j<=s->J=j->Sq h0 h b s (Bw s C k last i j)->
   head 81 16 0 ⟨[(0,.pointer (some ⟨b,0,none⟩)),(3,.func (.func 95) #[.pointer (some ⟨b,0,none⟩)] #[]),(4,.func (.func 96) #[.pointer (some ⟨b,0,none⟩)] #[]),(5,.int .i64 last),(6,.int .i64 K),(9,.int .i64 I),(10,.int .i64 J),(18,.int .i64 S),(19,.int .i64 K)],0,[],h⟩ Q:=by
 intro d
 induction d with
 |zero=>
  intro j J h hd kj hj eJ t;have r1:=jJ hA t eS;refine hA.ar Try.func81 oJ (zc ?_);refine zq ?_;refine br (J<S) (by rw[aA hA]) (fun q=>om) (fun _=>?_)<;>refine zc ?_;obtain rfl:j=s:=om
  exact hQ h t
 |succ d ih=>
 intro j J h hd kj hj eJ t;have r1:=jJ hA t eS;by_cases cj:j<s
 rotate_left
 ·refine hA.ar Try.func81 oJ (zc ?_)
  refine zq ?_;refine br (J<S) (by rw[aA hA]) (fun q=>om) (fun _=>?_)<;>refine zc ?_;obtain rfl:j=s:=om
  exact hQ h t
 obtain⟨h9,zN⟩:∃z,z=aG h 45:=⟨_,rfl⟩;have t9:=t.more (show Ext h h9 by rw[zN];exact au hA _ _);obtain⟨p,ep⟩:∃z,z=C k k:=⟨_,rfl⟩;obtain⟨v,ev⟩:∃z,z=C i j:=⟨_,rfl⟩;obtain⟨u,eu⟩:∃z,z=C i k:=⟨_,rfl⟩;obtain⟨w,ew⟩:∃z,z=C k j:=⟨_,rfl⟩;have bp:=hb k k om om om om;have bv:=hb i j om om om om;have bu:=hb i k om om om om;have bw:=hb k j om om om om;rw[<-ep]at bp;rw[<-ev]at bv;rw[<-eu]at bu;rw[<-ew]at bw;have r2:=uz hA t9 (i:=k) (j:=k) om om eK eK (v:=p) (by unfold Bw;rw[if_neg om,ep]);have r3:=uz hA t9 (i:=i) (j:=j) om om eI eJ (v:=v) (by unfold Bw;rw[if_neg om,ev]);have r4:=uz hA t9 (i:=i) (j:=k) om om eI eK (v:=u) (by unfold Bw;rw[if_neg om,eu]);have r5:=uz hA t9 (i:=k) (j:=j) om om eK eJ (v:=w) (by unfold Bw;rw[if_neg om,ew]);have b1:=Ext.jX bp bv;have b2:=Ext.jX bu bw;obtain⟨x1,QO⟩:∃z,z=p*v:=⟨_,rfl⟩;obtain⟨x2,Ps⟩:∃z,z=u*w:=⟨_,rfl⟩;rw[<-QO]at b1;rw[<-Ps]at b2;have m1:arith .mul .i64 p v=x1:=by rw[QO];exact jG hA om om
 have m2:arith .mul .i64 u w=x2:=by rw[Ps];exact jG hA om om
 obtain⟨x3,XI⟩:∃z,z=x1-x2:=⟨_,rfl⟩;have m3:arith .sub .i64 x1 x2=x3:=by rw[XI];exact bO hA om om
 obtain⟨g,eg⟩:∃z,z=x3.tdiv last:=⟨_,rfl⟩;have m4:arith .quo .i64 x3 last=g:=by
  rw[EG hA,<-eg];have:=Int.natAbs_tdiv_le_natAbs x3 last;rw[<-eg]at this;exact wrap64 om om
 obtain⟨h2,w1,t2,_⟩:=CN hA t9 (i:=i) (j:=j) om om eI eJ (v:=g);refine hA.ar Try.func81 oJ (zc ?_);refine zq ?_;refine br (J<S) (by rw[aA hA]) (fun _=>?_) (fun q=>om)<;>refine zc ?_;rw[<-zN]
 (refine zq ?_;repeat ((first|rw[m1]|rw[m2]|rw[m3]|rw[m4]);refine zq ?_))
 rw[aH hA om om];refine ih (j+1) (J+1) h2 om om om om (t2.congr (fun x y hx hy=>?_));unfold tV Bw;by_cases c:x=i/\y=j
 ·rw[if_pos c,if_pos om,eg,XI,QO,Ps,ep,ev,eu,ew,c.1,c.2]
 ·rw[if_neg c]
  by_cases c2:k<x/\k<y/\y<s/\(x<i\/x=i/\y<j)
  ·rw[if_pos c2,if_pos om]
  ·rw[if_neg c2,if_neg om]
theorem NX{h0:af}{b s k:Nat}{C:Nat->Nat->Int}{last:Int}(hs:s<=4)(hk:k<s){K S:Int}(eK:K=k)(eS:S=s)(hb:∀x y,k<=x->x<s->k<=y->y<s->(C x y).natAbs<=157464)(lz:last≠0){Q:Exit->SS->Prop}
  (hQ:∀(h':af),Sq h0 h' b s (Bw s C k last s (k+1))->Q (.exit 2) ⟨[(0,.pointer (some ⟨b,0,none⟩)),(3,.func (.func 95) #[.pointer (some ⟨b,0,none⟩)] #[]),(4,.func (.func 96) #[.pointer (some ⟨b,0,none⟩)] #[]),(6,.int .i64 K),(18,.int .i64 S),(19,.int .i64 K)],0,[],h'⟩) :
  ∀(d i:Nat) (I:Int) (h:af),s-i<=d->k<i->i<=s->I=i->Sq h0 h b s (Bw s C k last i (k+1))->
   head 81 13 0 ⟨[(0,.pointer (some ⟨b,0,none⟩)),(3,.func (.func 95) #[.pointer (some ⟨b,0,none⟩)] #[]),(4,.func (.func 96) #[.pointer (some ⟨b,0,none⟩)] #[]),(5,.int .i64 last),(6,.int .i64 K),(9,.int .i64 I),(18,.int .i64 S),(19,.int .i64 K)],0,[],h⟩ Q:=by
 intro d
 induction d with
 |zero=>
  intro i I h hd ki hi eI t;have r1:=jJ hA t eS;refine hA.ar Try.func81 oJ (zc ?_);refine zq ?_;refine br (I<S) (by rw[aA hA]) (fun q=>om) (fun _=>?_)<;>refine zc ?_;obtain rfl:i=s:=om
  exact hQ h t
 |succ d ih=>
 intro i I h hd ki hi eI t;have r1:=jJ hA t eS;by_cases ci:i<s
 rotate_left
 ·refine hA.ar Try.func81 oJ (zc ?_)
  refine zq ?_;refine br (I<S) (by rw[aA hA]) (fun q=>om) (fun _=>?_)<;>refine zc ?_;obtain rfl:i=s:=om
  exact hQ h t
 refine hA.ar Try.func81 oJ (zc ?_);refine zq ?_;refine br (I<S) (by rw[aA hA]) (fun _=>?_) (fun q=>om)<;>refine zc ?_;refine zq ?_;rw[aH hA om om];refine XK hA hs ki ci eK eI eS hb lz (fun h' t'=>?_) (s-(k+1)) (k+1) (K+1) h om om om om t;refine zq ?_;rw[aH hA om om];exact ih (i+1) (I+1) h' om om om om (t'.congr (fun x y _ _=>QL s C k last i x y))
theorem Fb{h0 h' X:af}{b s nb:Nat}{C:Nat->Nat->Int}(t:Sq h0 h' b s C)(eX:X=push h' 2 [.int .i64 0,.int .i64 0])(en:nb=next h')(I J:Int):∃h2,wr X nb 0 [.int .i64 I,.int .i64 J] h2/\Sq h0 h2 b s C/\bW h2 nb 2 [.int .i64 I,.int .i64 J]/\nb<h2.next:=by
 rw[dB hA]at eX;rw[cQ hA]at en;subst eX en;obtain⟨h2,w1,w2,w3⟩:=(bW.push h' 2 [.int .i64 0,.int .i64 0]).write (o:=0) (vs:=[.int .i64 I,.int .i64 J]) (by show 0+2<=2;omega);have t1:=t.more (Ext.push h' 2 [.int .i64 0,.int .i64 0]);have fg:=t.lt;have n1:h2.next=h'.next+1:=w3.next;refine⟨h2,kQ hA w1,⟨w3.ext t1.ext t.ext.next,w3.own t1.own om,t.cE,om⟩,w2,om⟩
set_option maxHeartbeats 1000000 in
theorem QP{h0:af}(fF:h0.low<=h0.next){b s:Nat}{P:Nat->Nat->Int}(hs:s<=4){S:Int}(eS:S=s){Q:Exit->SS->Prop}
  (jl:∀h' env kn T,(Ext.dt s P).natAbs=0->Ext h0 h'->Q .ret ⟨(2,.int .i64 0) :: env,kn,T,h'⟩)
  (hQ:∀(h':af) (last:Int),last.natAbs=(Ext.dt s P).natAbs->last.natAbs<=157464->Ext h0 h'->Q (.exit 0) ⟨[(5,.int .i64 last)],0,[],h'⟩) :
  ∀(d k:Nat) (K last:Int) (h:af) (C:Nat->Nat->Int),s-k<=d->k<=s->K=k->Ext.Bl s P k last C->Sq h0 h b s C->
   head 81 4 0 ⟨[(0,.pointer (some ⟨b,0,none⟩)),(3,.func (.func 95) #[.pointer (some ⟨b,0,none⟩)] #[]),(4,.func (.func 96) #[.pointer (some ⟨b,0,none⟩)] #[]),(5,.int .i64 last),(18,.int .i64 S),(19,.int .i64 K)],0,[],h⟩ Q:=by
 refine rS (fun d ih=>?_);intro k K last h C hd hk eK B t;by_cases ck:k<s
 rotate_left
 ·refine hA.ar Try.func81 oJ (zc ?_)
  refine br (K<S) (by rw[aA hA]) (fun q=>om) (fun _=>?_)<;>refine zc ?_;obtain rfl:k=s:=om
  exact hQ h last B.fin (B.last (Nat.le_refl _)).1 t.ext
 obtain⟨d,rfl⟩:∃k,d=k+1:=⟨d-1,om⟩
 replace ih:=ih d rfl
 refine hA.ar Try.func81 oJ (zc ?_);refine br (K<S) (by rw[aA hA]) (fun _=>?_) (fun q=>om)<;>refine zc ?_;refine zq ?_;refine QN hA (t.ext.aD fF) t hs hk eK (fun i j I J h' i0 i1 j0 j1 eI eJ nz t'=>⟨_,_,_,rfl,?_⟩) (fun h' hz t'=>⟨_,_,_,rfl,?_⟩)
 ·obtain⟨nb,FW⟩:∃z,z=next h':=⟨_,rfl⟩
  obtain⟨X,eX⟩:∃z,z=push h' 2 [.int .i64 0,.int .i64 0]:=⟨_,rfl⟩;obtain⟨h2,w1,t2,QQ,n2⟩:=Fb hA t' eX FW I J;have r2:=jj hA (QQ.aM (o:=0) (n:=2) (by show 0+2<=2;omega));have r3:rd h2 nb (place 0 0 1) 1 [.int .i64 I]:=aC hA (QQ.aM (o:=0+(0:Int).toNat*1) (n:=1) (by show 0+0*1+1<=2;omega));refine zc ?_;rw[<-eX,<-FW];refine zq ?_;rw[show gM true=false by rw[dk hA];rfl];refine zq ?_;rw[ux hA];obtain⟨r,er,hr⟩:=eqP I J K K;refine⟨Uh,r,er,?_⟩;refine zc ?_;refine br (¬(I=K/\J=K)) (by rw[dk hA];cases r<;>simp_all) (fun c=>?_) (fun c=>?_)<;>refine zc ?_
  ·refine zq ?_
   refine E8 hA (t2.ext.aD fF) t2 (show k<4 by omega) (show i<4 by omega) eK eI (fun h3 t3 o3=>?_);have aaT:=QQ.dj (o3.get nb n2 (by have:=t'.lt;rw[FW,cQ hA];omega));have r4:rd h3 nb (place 0 1 1) 1 [.int .i64 J]:=aC hA (aaT.aM (o:=0+(1:Int).toNat*1) (n:=1) (by show 0+1*1+1<=2;omega));refine zq ?_;refine E9 hA (t3.ext.aD fF) t3 (show k<4 by omega) (show j<4 by omega) eK eJ (fun h4 t4=>?_);obtain⟨C1,Uk⟩:∃z:Nat->Nat->Int,z=fun x y=>C (Ext.sw k i x) (Ext.sw k j y):=⟨_,rfl⟩
   have t1:Sq h0 h4 b s C1:=by rw[Uk];exact t4
   have B1:Ext.Bl s P k last C1:=by rw[Uk];exact B.swap ck i0 i1 j0 j1
   have nz1:C1 k k≠0:=by
    rw[Uk];show C (Ext.sw k i k) (Ext.sw k j k)≠0;unfold Ext.sw;rw[if_pos rfl,if_pos rfl];exact nz
   refine zq ?_;rw[aH hA om om];refine NX hA hs ck eK eS (fun x y x0 x1 y0 y1=>B1.le hk x0 x1 y0 y1) (B.last hk).2 (fun h5 t5=>?_) (s-(k+1)) (k+1) (K+1) _ om om om om (t1.congr (fun x y _ _=>(By s C1 k last x y).symm));obtain⟨p,ep⟩:∃z,z=C1 k k:=⟨_,rfl⟩;have r5:=uz hA t5 (i:=k) (j:=k) om om eK eK (v:=p) (by unfold Bw;rw[if_neg om,ep]);have B2:=B1.step hs ck nz1 (D:=Bw s C1 k last s (k+1)) (fun x y x0 x1 y0 y1=>by unfold Bw;rw[if_pos om]);rw[<-ep]at B2;refine zq ?_;rw[aH hA om om];exact ih (k+1) (K+1) p h5 _ om om om B2 t5
  ·obtain⟨C1,Uk⟩:∃z:Nat->Nat->Int,z=C:=⟨_,rfl⟩
   have t1:Sq h0 h2 b s C1:=by rw[Uk];exact t2
   have B1:Ext.Bl s P k last C1:=by rw[Uk];exact B
   have nz1:C1 k k≠0:=by
    have:I=K/\J=K:=Classical.byContradiction c;rw[Uk];rw[show i=k by omega,show j=k by omega]at nz;exact nz
   refine zq ?_;rw[aH hA om om];refine NX hA hs ck eK eS (fun x y x0 x1 y0 y1=>B1.le hk x0 x1 y0 y1) (B.last hk).2 (fun h5 t5=>?_) (s-(k+1)) (k+1) (K+1) _ om om om om (t1.congr (fun x y _ _=>(By s C1 k last x y).symm));obtain⟨p,ep⟩:∃z,z=C1 k k:=⟨_,rfl⟩;have r5:=uz hA t5 (i:=k) (j:=k) om om eK eK (v:=p) (by unfold Bw;rw[if_neg om,ep]);have B2:=B1.step hs ck nz1 (D:=Bw s C1 k last s (k+1)) (fun x y x0 x1 y0 y1=>by unfold Bw;rw[if_pos om]);rw[<-ep]at B2;refine zq ?_;rw[aH hA om om];exact ih (k+1) (K+1) p h5 _ om om om B2 t5
 ·obtain⟨nb,FW⟩:∃z,z=next h':=⟨_,rfl⟩
  obtain⟨X,eX⟩:∃z,z=push h' 2 [.int .i64 0,.int .i64 0]:=⟨_,rfl⟩;obtain⟨h2,w1,t2,QQ,n2⟩:=Fb hA t' eX FW 0 0;refine zc ?_;rw[<-eX,<-FW];refine zq ?_;rw[show gM false=true by rw[dk hA];rfl];refine zq ?_;exact jl h2 _ _ _ (B.none hs ck hz) t2.ext
theorem Ho{h0 h:af}(fF:h0.low<=h0.next){b s:Nat}{M:Nat->Nat->Int}(t:Sq h0 h b s M)(hs:s<=4)(h9:∀i j,i<s->j<s->(M i j).natAbs<=9){Q:Value->af->Prop}
  (hQ:∀(v:Int) h',v=((Ext.dt s M).natAbs:Int)->v<=157464->Ext h0 h'->Q (.int .i64 v) h'):call 81 [.pointer (some ⟨b,0,none⟩)] h Q:=by
 have aq:=t.ext.aD fF;obtain⟨S,eS⟩:∃z:Int,z=s:=⟨_,rfl⟩;have r1:=jJ hA t eS;refine hA.aU Try.func81 oJ (hA.alike _ _ _ rfl) aq (zc ?_);refine zq ?_;refine QP hA fF hs eS (fun h' env kn T z x=>?_) (fun h' last e e2 x=>?_) s 0 0 1 h M om om rfl (Ext.Bl.start h9) t
 ·refine zq ?_
  exact hQ 0 h' (by rw[z];rfl) om x
 ·obtain⟨v,ev⟩:∃z:Int,z=(last.natAbs:Int):=⟨_,rfl⟩
  have m1:imax last (neg .i64 last)=v:=by rw[M0 hA,vV hA,wrap64 om om];omega
  (refine zq ?_;repeat ((first|rw[m1]);refine zq ?_))
  exact hQ v h' (by rw[ev,e]) om x
