import Derived.Test.YtdpbiegfljmhmaaGreatSmS
import Derived.Test.YtdpbiegfljmhmaaGreatSlA
set_option linter.unusedSimpArgs false
set_option linter.unusedVariables false
namespace Go.Proofs.YtdpbiegfljmhmaaGreat
open Go.cV
set_option maxRecDepth 100000
def gU(g:List (List Int))(n:Nat):Nat->Ext.aR:=fun i j=>if j<n then gt (gt g (i:Int)) (j:Int)else if j=n+i then 1 else 0
theorem Qw(g:List (List Int))(n i w:Nat)(hw:n+i<w):∃d J I,(∀x,x<d->J x<w)/\Ext.prod d (Ext.rv (i+1) (gU g n) J) (i+1) I≠0:=by
 refine⟨i+1,fun x=>n+(i-x),Ext.top (i+1),fun x hx=>by show n+(i-x)<w;omega,?_⟩;rw[Ext.fR (i+1) (V:=Ext.E) (fun y hy x hx=>?_)]
 ·have:=Ext.DQ (i+1)
  unfold Ext.vol at this;rw[this];decide
 ·show gU g n (i+1-1-y) (n+(i-x))=Ext.E y x
  unfold gU Ext.E;rw[if_neg om];by_cases c:x=y
  ·rw[if_pos om,if_pos c]
  ·rw[if_neg om,if_neg c]
theorem join_le{g:List (List Int)}{n:Nat}(h:∀i j,(gt (gt g i) j).natAbs<=9)(i j:Nat):(gU g n i j).natAbs<=9:=by
 unfold gU;split
 ·exact h _ _
 ·split<;>decide
theorem RW:gA Tryz.prog 28 3 1:=⟨by kernel_rfl,by kernel_rfl,⟨8,by kernel_rfl,om⟩,⟨.int .i64 0,by kernel_rfl,rfl⟩⟩
theorem zI:iv Tryz.prog 3=some (.int .i64 0):=by kernel_rfl
theorem Ay{h:af}{b n m:Nat}{M:Int}(eM:M=m){cells:List Value}(ho:ct h b 1 cells)(hb:b<h.next)(hl:cells.length=n)(hn:n<=1000)(hm:m<=1000)(m0:0<m)(fF:cells.all aF=true) :
  cQ Tryz.prog h [28,3] [.slice (some ⟨b,0,none⟩) n (az 1 n),.int .i64 M]=some (.slice (some ⟨h.next,0,none⟩) (n+m) (az 1 (n+m)),(h.kill b).push 1 (cells++List.replicate m (.int .i64 0))):=by
 subst eM;have hT:=RW;obtain⟨by_,rN,nV⟩:=hT.bytes;have hs:n<aS:=by unfold aS;omega
 have gS:jK Tryz.prog h 3 1 true (.int .i64 (m:Int))=some (m,List.replicate m (.int .i64 0)):=by
  unfold jK;simp only[zI,rN,cond_true];rw[if_pos ⟨om,om,nV,rfl⟩];show some (_,bE [.int .i64 0] _)=_;rw[sJ];rfl
 have hr:h.aN ⟨b,0,none⟩ n=some cells:=by rw[ho.aN om];simp[<-hl]
 have F9:(List.replicate m (Value.int IntKind.i64 0)).all aF=true:=by simp[aF]
 unfold cQ;simp only[hT.yE,hT.size,rN,uI,zI,cZ,gS,cA hs];rw[ft om,bz (show n+m<=1073741824 by omega),bz nV];have hg:h.m.get b=some (.live true 1 cells):=ho;simp only[cond_false,cond_true,hr,F9,fF,cJ (dB 1 n),Bool.and_self,Bool.true_and,List.length_replicate,Nat.mul_one,Nat.beq_refl,hg,show(Value.int IntKind.i64 0).cells.toList.length.beq 1=true from rfl]
theorem Qx(l:List Int){j:Nat}(h:j<l.length):l[j]?=some (gt l (j:Int)):=by
 unfold gt;rw[List.getD_eq_getElem?_getD,show((j:Int)).toNat=j from rfl,List.getElem?_eq_getElem h];rfl
theorem Ext.Gc.congr{w k:Nat}{F G:Nat->Ext.aR}(e:∀z,z<k->G z=F z)(h:Ext.Gc w k F):Ext.Gc w k G:=
 ⟨fun i hi=>by rw[e i hi];exact h.lt i hi,fun i hi=>by rw[e i hi];exact h.pos i hi,fun i j hi hj=>by rw[e i om,e j hj];exact h.inc i j hi hj,fun i j hi hj=>by rw[e i om,e j hj];exact h.red i j hi hj⟩
theorem oK.loose{h0 h h3:af}{sb k w rc nb:Nat}{ra:Option Addr}{bs:Nat->Nat}{A:Nat->Ext.aR}(t:oK h0 h sb k k w ra rc bs A)(x:Ext h h3){v:Ext.aR}(ho:ct h3 nb 1 ((kR v w).flatMap nC))(hb:h.next<=nb)(vZ:nb<h3.next) :
  oK h0 h3 sb k (k+1) w ra rc (fun y=>if y=k then nb else bs y) (Ext.put A k v):=by
 have t3:=t.more x;have en:∀y,y≠k->(if y=k then nb else bs y)=bs y:=fun y hy=>if_neg hy
 have hd:kS (fun y=>if y=k then nb else bs y) w k=kS bs w k:=iq (fun y hy=>by simp only[if_neg (show ¬y=k by omega)]);have dW:=t.rows.lt;have h0n:=t.rows.ext.next;refine⟨⟨t3.rows.ext,fun y hy=>?_,fun y hy=>?_,fun y hy=>?_,fun y z hy hz e=>?_⟩,t3.own,by rw[hd];exact t3.qD,om,t3.s0,t3.s1,t3.fr,fun y hy=>?_,fun ad dc=>⟨(t3.Fw ad dc).1,fun y hy=>?_⟩⟩
 ·by_cases c:y=k
  ·rw[c,if_pos rfl,Ext.gB];exact ho
  ·rw[if_neg c,Ext.fT v c];exact t3.rows.row y om
 ·by_cases c:y=k
  ·rw[if_pos c];omega
  ·rw[if_neg c];exact t3.rows.cI y om
 ·by_cases c:y=k
  ·rw[if_pos c];exact vZ
  ·rw[if_neg c];exact t3.rows.lt y om
 ·by_cases c:y=k<;>by_cases d:z=k
  ·rw[c,d]
  ·rw[if_pos c,if_neg d]at e;have:=dW z om;omega
  ·rw[if_neg c,if_pos d]at e;have:=dW y om;omega
  ·rw[if_neg c,if_neg d]at e;exact t.rows.inj y z om om e
 ·by_cases c:y=k
  ·rw[if_pos c];have:=t.s1;omega
  ·rw[if_neg c];exact t3.RT y om
 ·by_cases c:y=k
  ·rw[if_pos c];have:=t.qD.lt ad dc;omega
  ·rw[if_neg c];exact(t3.Fw ad dc).2 y om
structure Fz(h0 h:af)(k w:Nat)(a:Option Addr)(c:Nat)(bs:Nat->Nat)(F:Nat->Ext.aR):Prop where
 rows:dQ h0 h k w bs F
 qD:mT h 1 a k c ((kS bs w k).flatMap Hd.cells)
 fr:jm h0.next a
 Fw:∀ad,a=some ad->∀y,y<k->ad.block≠bs y
theorem Fz.more{h0 h h':af}{k w c:Nat}{a:Option Addr}{bs:Nat->Nat}{F:Nat->Ext.aR}(t:Fz h0 h k w a c bs F)(e:Ext h h'):Fz h0 h' k w a c bs F:=⟨t.rows.more e,t.qD.ext e,t.fr,t.Fw⟩
theorem Fz.head{h0 h:af}{k w c:Nat}{a:Option Addr}{bs:Nat->Nat}{F:Nat->Ext.aR}(t:Fz h0 h k w a c bs F){y:Nat}(hy:y<k):∃b,a=some ⟨b,0,none⟩/\b<h.next/\h.aN ⟨b,0+y*1,none⟩ 1=some [.slice (some ⟨bs y,0,none⟩) w (az 1 w)]:=by
 rcases t.qD with ⟨_,q,_⟩|⟨b,e,_,hb,hl,ho⟩
 ·omega
 refine⟨b,e,hb,?_⟩;have r:=ct.rows ho iF om hb;rw[show(kS bs w k).length=k from bP _ _]at r;obtain⟨b',o,e',_,q⟩:=r.at (i:=(y:Int)) om om;cases e';have:=q 0 1 om om;unfold kS at this;rw[fU _ hy]at this;exact this
theorem oK.grd{h0 h:af}{sb k n w rc:Nat}{ra:Option Addr}{bs:Nat->Nat}{F:Nat->Ext.aR}(t:oK h0 h sb k n w ra rc bs F):Fz h0 h k w ra rc bs F:=
 ⟨⟨t.rows.ext,fun y hy=>t.rows.row y (by have:=t.kn;omega),fun y hy=>t.rows.cI y (by have:=t.kn;omega),fun y hy=>t.rows.lt y (by have:=t.kn;omega),fun y z hy hz=>t.rows.inj y z (by have:=t.kn;omega) (by have:=t.kn;omega)⟩,t.qD,t.fr,fun ad dc y hy=>(t.Fw ad dc).2 y (by have:=t.kn;omega)⟩
structure UW(h0 h:af)(k w:Nat)(a:Option Addr)(c:Nat)(bs:Nat->Nat):Prop where
 qD:mT h 1 a k c ((kS bs w k).flatMap Hd.cells)
 fr:jm h0.next a
theorem E7(bs:Nat->Nat)(w k:Nat):kS bs w (k+1)=kS bs w k++[⟨some ⟨bs k,0,none⟩,w,az 1 w⟩]:=nH _ _
theorem dQ.tail{h0 h:af}{k w n m:Nat}{bs:Nat->Nat}{F:Nat->Ext.aR}(t:dQ h0 h k w bs F){y:Nat}(hy:y<k)(hw:w=n+m):Rows nC 1 h (some ⟨bs y,0+n*1,none⟩) m (kR (fun j=>F y (n+j)) m):=by
 have r:=t.jU hy;refine⟨?_,gC,om⟩;have:=r.cells.part (i:=n) (m:=m) om;have e:((kR (F y) w).flatMap nC).drop (n*1)=(kR (fun j=>F y (n+j)) m).flatMap nC:=by
  have el:kR (F y) w=kR (F y) n++kR (fun j=>F y (n+j)) m:=by
   apply List.ext_getElem?;intro j;by_cases c:j<w
   ·rw[jV _ c]
    by_cases d:j<n
    ·rw[List.getElem?_append_left (by rw[bP];exact d),jV _ d]
    ·rw[List.getElem?_append_right (by rw[bP];omega),bP,jV _ om,show n+(j-n)=j by omega]
   ·rw[List.getElem?_eq_none (by rw[bP];omega),List.getElem?_eq_none (by rw[List.length_append,bP,bP];omega)]
  rw[el,List.flatMap_append,List.drop_append_of_le_length (by rw[gD gC,bP];omega),List.drop_eq_nil_of_le (by rw[gD gC,bP];omega),List.nil_append]
 rw[e,List.take_of_length_le (by rw[gD gC,bP];omega)]at this;exact this
end Go.Proofs.YtdpbiegfljmhmaaGreat
namespace Go.Proofs.YtdpbiegfljmhmaaGreat.Ext
def d2(a b c d:Int):Int:=a*d-b*c
def d3(a b c d e f g h i:Int):Int:=a*d2 e f h i-b*d2 d f g i+c*d2 d e g h
def d4(a b c d e f g h i j k l m n o p:Int):Int:=a*d3 f g h j k l n o p-b*d3 e g h i k l m o p+c*d3 e f h i j l m n p-d*d3 e f g i j k m n o
def dt(s:Nat)(M:Nat->Nat->Int):Int:=
 match s with
 |0=>1
 |1=>M 0 0
 |2=>d2 (M 0 0) (M 0 1) (M 1 0) (M 1 1)
 |3=>d3 (M 0 0) (M 0 1) (M 0 2) (M 1 0) (M 1 1) (M 1 2) (M 2 0) (M 2 1) (M 2 2)
 |4=>d4 (M 0 0) (M 0 1) (M 0 2) (M 0 3) (M 1 0) (M 1 1) (M 1 2) (M 1 3) (M 2 0) (M 2 1) (M 2 2) (M 2 3) (M 3 0) (M 3 1) (M 3 2) (M 3 3)
 |_=>0
def mi(k:Nat)(M:Nat->Nat->Int)(i j:Nat):Int:=dt (k+1) (fun x y=>M (if x=k then i else x) (if y=k then j else y))
theorem eV{s:Nat}{M N:Nat->Nat->Int}(h:∀x y,x<s->y<s->M x y=N x y):dt s M=dt s N:=by
 match s with
 |0=>rfl
 |1=>exact h 0 0 om om
 |2=>simp only[dt,h _ _ (show 0<2 by omega) (show 0<2 by omega),h _ _ (show 0<2 by omega) (show 1<2 by omega),h _ _ (show 1<2 by omega) (show 0<2 by omega),h _ _ (show 1<2 by omega) (show 1<2 by omega)]
 |3=>
  have a0:0<3:=om
  have a1:1<3:=om
  have a2:2<3:=om
  simp only[dt,h _ _ a0 a0,h _ _ a0 a1,h _ _ a0 a2,h _ _ a1 a0,h _ _ a1 a1,h _ _ a1 a2,h _ _ a2 a0,h _ _ a2 a1,h _ _ a2 a2]
 |4=>
  have a0:0<4:=om
  have a1:1<4:=om
  have a2:2<4:=om
  have a3:3<4:=om
  simp only[dt,h _ _ a0 a0,h _ _ a0 a1,h _ _ a0 a2,h _ _ a0 a3,h _ _ a1 a0,h _ _ a1 a1,h _ _ a1 a2,h _ _ a1 a3,h _ _ a2 a0,h _ _ a2 a1,h _ _ a2 a2,h _ _ a2 a3,h _ _ a3 a0,h _ _ a3 a1,h _ _ a3 a2,h _ _ a3 a3]
 |s+5=>rfl
def sw(a b x:Nat):Nat:=if x=a then b else if x=b then a else x
theorem IM{s:Nat}(M:Nat->Nat->Int){a b:Nat}(ha:a<s)(hb:b<s):dt s (fun x y=>M (sw a b x) y)=dt s M\/dt s (fun x y=>M (sw a b x) y)=- dt s M:=by
 by_cases e:a=b
 ·left
  refine eV fun x y hx hy=>?_
  subst e;unfold sw;by_cases c:x=a
  ·rw[if_pos c,c]
  ·rw[if_neg c,if_neg c]
 right;have h4:s<=4\/5<=s:=om
 rcases h4 with h4|h4
 rotate_left
 ·obtain⟨t,rfl⟩:∃t,s=t+5:=⟨s-5,om⟩
  rfl
 have hs:s=0\/s=1\/s=2\/s=3\/s=4:=om
 have Rm:a=0\/a=1\/a=2\/a=3:=om
 have vr:b=0\/b=1\/b=2\/b=3:=om
 rcases hs with rfl|rfl|rfl|rfl|rfl<;>rcases Rm with rfl|rfl|rfl|rfl<;>rcases vr with rfl|rfl|rfl|rfl<;>first|(exfalso;omega)|(simp only[dt,sw,d4,d3,d2];grind)
theorem GG{s:Nat}(M:Nat->Nat->Int):dt s (fun x y=>M y x)=dt s M:=by
 match s with
 |0=>rfl
 |1=>rfl
 |2=>simp only[dt,d2];grind
 |3=>simp only[dt,d3,d2];grind
 |4=>simp only[dt,d4,d3,d2];grind
 |s+5=>rfl
theorem Qy{s:Nat}(M:Nat->Nat->Int){a b:Nat}(ha:a<s)(hb:b<s):dt s (fun x y=>M x (sw a b y))=dt s M\/dt s (fun x y=>M x (sw a b y))=- dt s M:=by
 have h:=IM (fun x y=>M y x) ha hb;rw[GG M]at h;rw[<-GG (fun x y=>M x (sw a b y))];exact h
theorem W9{k:Nat}(hk:k<=2)(M:Nat->Nat->Int)(i j:Nat)(hi:k<i)(hj:k<j):mi k M k k*mi k M i j-mi k M i k*mi k M k j=dt k M*mi (k+1) M i j:=by
 have h:k=0\/k=1\/k=2:=om
 rcases h with rfl|rfl|rfl
 ·simp[mi,dt,d2];grind
 ·simp[mi,dt,d2,d3];grind
 ·simp[mi,dt,d2,d3,d4];grind
theorem uf(k:Nat)(M:Nat->Nat->Int):mi k M k k=dt (k+1) M:=by
 unfold mi;refine eV fun x y hx hy=>?_
 have ex:(if x=k then k else x)=x:=by split<;>omega
 have ey:(if y=k then k else y)=y:=by split<;>omega
 rw[ex,ey]
theorem Qz{s k:Nat}(hs:s<=4)(hk:k<s)(M:Nat->Nat->Int)(nz:dt k M≠0)(h:∀i j,k<=i->i<s->k<=j->j<s->mi k M i j=0):dt s M=0:=by
 have Am:k=0\/k=1\/k=2\/k=3:=om
 have rG:s=1\/s=2\/s=3\/s=4:=om
 have mz:∀{a b:Int},a≠0->a*b=0->b=0:=fun ha hb=>(Int.mul_eq_zero.1 hb).resolve_left ha
 rcases Am with rfl|rfl|rfl|rfl
 ·have h0:∀i j,i<s->j<s->M i j=0:=fun i j hi hj=>by
   have:=h i j om hi om hj;simpa[mi,dt]using this
  have z:=eV (s:=s) (M:=M) (N:=fun _ _=>0) (fun x y hx hy=>h0 x y hx hy);rw[z];rcases rG with rfl|rfl|rfl|rfl<;>simp[dt,d4,d3,d2]
 ·rcases rG with rfl|rfl|rfl|rfl
  ·omega
  ·rw[<-uf];exact h 1 1 om om om om
  ·have a:=h 1 1 om om om om
   have b:=h 1 2 om om om om;refine mz nz ?_;simp[mi,dt,d2]at a b;simp only[dt,d2,d3];grind
  ·have a:=h 1 1 om om om om
   have b:=h 1 2 om om om om;have c:=h 1 3 om om om om;refine mz nz (mz nz ?_);simp[mi,dt,d2]at a b c;simp only[dt,d2,d3,d4];grind
 ·rcases rG with rfl|rfl|rfl|rfl
  ·omega
  ·omega
  ·rw[<-uf];exact h 2 2 om om om om
  ·have a:=h 2 2 om om om om
   have b:=h 2 3 om om om om;refine mz nz ?_;have e:=W9 (k:=2) om M 3 3 om om;rw[<-uf 3,<-e,a,b];grind
 ·rcases rG with rfl|rfl|rfl|rfl
  ·omega
  ·omega
  ·omega
  ·rw[<-uf];exact h 3 3 om om om om
theorem jW{a b:Int}{A B:Nat}(ha:a.natAbs<=A)(hb:b.natAbs<=B):(a*b).natAbs<=A*B:=by rw[Int.natAbs_mul];exact Nat.mul_le_mul ha hb
theorem N7{s:Nat}{M:Nat->Nat->Int}(h:∀x y,x<s->y<s->(M x y).natAbs<=9):(dt s M).natAbs<=157464:=by
 have YN:∀{a b c d:Int},a.natAbs<=9->b.natAbs<=9->c.natAbs<=9->d.natAbs<=9->(d2 a b c d).natAbs<=162:=fun ha hb hc hd=>by
  have:=jW ha hd;have:=jW hb hc;unfold d2;omega
 have Xa:∀{a b c d e f g h i:Int},a.natAbs<=9->b.natAbs<=9->c.natAbs<=9->d.natAbs<=9->e.natAbs<=9->f.natAbs<=9->g.natAbs<=9->h.natAbs<=9->i.natAbs<=9->(d3 a b c d e f g h i).natAbs<=4374:=fun ha hb hc hd he hf hg hh hi=>by
  have:=jW ha (YN he hf hh hi);have:=jW hb (YN hd hf hg hi);have:=jW hc (YN hd he hg hh);unfold d3;omega
 match s with
 |0=>show(1:Int).natAbs<=_;decide
 |1=>have:=h 0 0 om om;show(M 0 0).natAbs<=_;omega
 |2=>
  have:=YN (h 0 0 om om) (h 0 1 om om) (h 1 0 om om) (h 1 1 om om);simp only[dt];omega
 |3=>
  have a0:0<3:=om
  have a1:1<3:=om
  have a2:2<3:=om
  have:=Xa (h _ _ a0 a0) (h _ _ a0 a1) (h _ _ a0 a2) (h _ _ a1 a0) (h _ _ a1 a1) (h _ _ a1 a2) (h _ _ a2 a0) (h _ _ a2 a1) (h _ _ a2 a2);simp only[dt];omega
 |4=>
  have a0:0<4:=om
  have a1:1<4:=om
  have a2:2<4:=om
  have a3:3<4:=om
  have m1:=jW (h _ _ a0 a0) (Xa (h _ _ a1 a1) (h _ _ a1 a2) (h _ _ a1 a3) (h _ _ a2 a1) (h _ _ a2 a2) (h _ _ a2 a3) (h _ _ a3 a1) (h _ _ a3 a2) (h _ _ a3 a3));have m2:=jW (h _ _ a0 a1) (Xa (h _ _ a1 a0) (h _ _ a1 a2) (h _ _ a1 a3) (h _ _ a2 a0) (h _ _ a2 a2) (h _ _ a2 a3) (h _ _ a3 a0) (h _ _ a3 a2) (h _ _ a3 a3));have m3:=jW (h _ _ a0 a2) (Xa (h _ _ a1 a0) (h _ _ a1 a1) (h _ _ a1 a3) (h _ _ a2 a0) (h _ _ a2 a1) (h _ _ a2 a3) (h _ _ a3 a0) (h _ _ a3 a1) (h _ _ a3 a3));have m4:=jW (h _ _ a0 a3) (Xa (h _ _ a1 a0) (h _ _ a1 a1) (h _ _ a1 a2) (h _ _ a2 a0) (h _ _ a2 a1) (h _ _ a2 a2) (h _ _ a3 a0) (h _ _ a3 a1) (h _ _ a3 a2));simp only[dt,d4];omega
 |s+5=>simp[dt]
structure Bi(s:Nat)(P0:Nat->Nat->Int)(k:Nat)(last:Int)(C:Nat->Nat->Int):Prop where
 ex:∃P:Nat->Nat->Int,(∀x y,x<s->y<s->(P x y).natAbs<=9)/\(dt s P).natAbs=(dt s P0).natAbs/\last=dt k P/\last≠0/\∀i j,k<=i->i<s->k<=j->j<s->C i j=mi k P i j
theorem Bi.start{s:Nat}{P:Nat->Nat->Int}(h:∀x y,x<s->y<s->(P x y).natAbs<=9):Bi s P 0 1 P:=
 ⟨P,h,rfl,rfl,by decide,fun i j _ _ _ _=>by simp[mi,dt]⟩
theorem Bi.le{s k:Nat}{P0 C:Nat->Nat->Int}{last:Int}(b:Bi s P0 k last C)(hk:k<=s){i j:Nat}(i0:k<=i)(i1:i<s)(j0:k<=j)(j1:j<s):(C i j).natAbs<=157464:=by
 obtain⟨P,h,_,_,_,e⟩:=b.ex;rw[e i j i0 i1 j0 j1];unfold mi;refine N7 fun x y hx hy=>?_
 refine h _ _ ?_ ?_<;>split<;>omega
theorem Bi.last{s k:Nat}{P0 C:Nat->Nat->Int}{last:Int}(b:Bi s P0 k last C)(hk:k<=s):last.natAbs<=157464/\last≠0:=by
 obtain⟨P,h,_,rfl,nz,e⟩:=b.ex;exact⟨N7 fun x y hx hy=>h _ _ om om,nz⟩
theorem Bi.none{s k:Nat}{P0 C:Nat->Nat->Int}{last:Int}(b:Bi s P0 k last C)(hs:s<=4)(hk:k<s)(h:∀i j,k<=i->i<s->k<=j->j<s->C i j=0):(dt s P0).natAbs=0:=by
 obtain⟨P,_,d,rfl,nz,e⟩:=b.ex;rw[<-d,Qz hs hk P nz (fun i j i0 i1 j0 j1=>by rw[<-e i j i0 i1 j0 j1];exact h i j i0 i1 j0 j1)];rfl
theorem Bi.fin{s:Nat}{P0 C:Nat->Nat->Int}{last:Int}(b:Bi s P0 s last C):last.natAbs=(dt s P0).natAbs:=by
 obtain⟨P,_,d,rfl,_⟩:=b.ex;exact d
theorem Eh{s a b x:Nat}(ha:a<s)(hb:b<s)(hx:x<s):sw a b x<s:=by unfold sw;split;exact hb;split;exact ha;exact hx
theorem RY{k b x:Nat}(hb:k<=b)(hx:k<=x):k<=sw k b x:=by unfold sw;split;exact hb;split<;>omega
theorem CM{k b x:Nat}(hb:k<=b)(hx:x<k):sw k b x=x:=by unfold sw;rw[if_neg om,if_neg om]
theorem Bi.swap{s k:Nat}{P0 C:Nat->Nat->Int}{last:Int}(b:Bi s P0 k last C){p q:Nat}(hk:k<s)(p0:k<=p)(p1:p<s)(q0:k<=q)(q1:q<s):Bi s P0 k last (fun i j=>C (sw k p i) (sw k q j)):=by
 obtain⟨P,h,d,l,nz,e⟩:=b.ex;refine⟨fun i j=>P (sw k p i) (sw k q j),fun x y hx hy=>h _ _ (Eh hk p1 hx) (Eh hk q1 hy),?_,?_,nz,fun i j i0 i1 j0 j1=>?_⟩
 ·have h1:=IM (s:=s) (fun i j=>P i (sw k q j)) hk p1
  have h2:=Qy (s:=s) P hk q1;rw[<-d];rcases h1 with e1|e1<;>rcases h2 with e2|e2<;>rw[e1,e2]<;>omega
 ·rw[l]
  refine eV fun x y hx hy=>?_
  rw[CM p0 hx,CM q0 hy]
 ·show C (sw k p i) (sw k q j)=_
  rw[e _ _ (RY p0 i0) (Eh hk p1 i1) (RY q0 j0) (Eh hk q1 j1)];unfold mi;refine eV fun x y hx hy=>?_
  have ex:(if x=k then sw k p i else x)=sw k p (if x=k then i else x):=by
   by_cases c:x=k
   ·rw[if_pos c,if_pos c]
   ·rw[if_neg c,if_neg c,CM p0 om]
  have ey:(if y=k then sw k q j else y)=sw k q (if y=k then j else y):=by
   by_cases c:y=k
   ·rw[if_pos c,if_pos c]
   ·rw[if_neg c,if_neg c,CM q0 om]
  rw[ex,ey]
theorem Bi.step{s k:Nat}{P0 C D:Nat->Nat->Int}{last:Int}(b:Bi s P0 k last C)(hs:s<=4)(hk:k<s)(nz:C k k≠0)(hD:∀i j,k<i->i<s->k<j->j<s->D i j=(C k k*C i j-C i k*C k j).tdiv last):Bi s P0 (k+1) (C k k) D:=by
 obtain⟨P,h,d,l,lz,e⟩:=b.ex;have ek:=e k k om hk om hk;refine⟨P,h,d,?_,nz,fun i j i0 i1 j0 j1=>?_⟩
 ·rw[ek,uf]
 ·rw[hD i j om i1 om j1,ek,e i j om i1 om j1,e i k om i1 om hk,e k j om hk om j1,W9 om P i j om om,l,Int.mul_tdiv_cancel_left _ (by rw[<-l];exact lz)]
end Go.Proofs.YtdpbiegfljmhmaaGreat.Ext
namespace Go.Proofs.YtdpbiegfljmhmaaGreat
open Go.cV
set_option maxRecDepth 100000
structure H7(h:af)(es b n c:Nat)(cells:List Value):Prop where
 own:ct h b es cells
 lt:b<h.next
 len:cells.length=n*es
 cap:c=n\/c=az es n
theorem H7.ext{h h':af}{es b n c:Nat}{cells:List Value}(p:H7 h es b n c cells)(e:Ext h h'):H7 h' es b n c cells:=⟨p.own.ext e p.lt,Nat.lt_of_lt_of_le p.lt e.next,p.len,p.cap⟩
theorem CN{P:Program}{t t2 e es:Nat}(hT:gA P t e es)(JG:P.underlying t2=some (.slice e)){h:af}{b n n2 c2:Nat}{a2:Option Addr}{cells news:List Value}(ho:ct h b es cells)(hb:b<h.next)(hl:cells.length=n*es)(hn:n<=1000)(hs:Cells h a2 n2 es news)(fF:cells.all aF=true)(rH:news.all aF=true)(h0:0<n2)(uE:n2<=1000000) :
  cQ P h [t,t2] [.slice (some ⟨b,0,none⟩) n n,.slice a2 n2 c2]=some (.slice (some ⟨h.next,0,none⟩) (n+n2) (az es (n+n2)),h.push es (cells++news)):=by
 obtain⟨by_,rN,nV⟩:=hT.bytes;obtain⟨z,hz,zO⟩:=hT.zero;have ta:=hs.length;have gS:jK P h e es false (.slice a2 n2 c2)=some (n2,news):=(va.of (P:=P) (e:=e) c2 hs).1;have Jl:cO n=n:=Nat.mod_eq_of_lt (by unfold aS;omega);unfold cQ;simp only[hT.yE,hT.size,rN,JG,hz,cZ,gS];rw[Jl,ft om];simp only[cond_false];rw[bz (show n+n2<=1073741824 by omega),bz nV,rH,zO,ta];simp only[Bool.and_self,Nat.beq_refl,cond_true];have hr:h.aN ⟨b,0,none⟩ (n*es)=some cells:=by rw[ho.aN om];simp[<-hl]
 simp only[hr];rw[eE (show n<aS by unfold aS;omega),fF];simp only[cond_true]
theorem He{P:Program}{t t2 e es:Nat}(hT:gA P t e es)(JG:P.underlying t2=some (.slice e)){h:af}{b n c n2 c2:Nat}{a2:Option Addr}{cells news:List Value}(hp:H7 h es b n c cells)(hn:n<=1000)(hs:Cells h a2 n2 es news)(fF:cells.all aF=true)(rH:news.all aF=true)(uE:n2<=100000) :
  ∃b' c' h',cQ P h [t,t2] [.slice (some ⟨b,0,none⟩) n c,.slice a2 n2 c2]=some (.slice (some ⟨b',0,none⟩) (n+n2) c',h')/\H7 h' es b' (n+n2) c' (cells++news)/\h.next<=h'.next/\(b'=b\/h.next<=b')/\(∀j,j<h.next->j≠b->h'.m.get j=h.m.get j)/\(∀h0,Ext h0 h->h0.next<=b->Ext h0 h'/\h0.next<=b'):=by
 have ta:=hs.length;rcases hp.cap with e|e
 ·subst e
  by_cases h2:n2=0
  ·subst h2
   have en:news=[]:=by simpa using ta
   subst en;obtain⟨by_,rN,nV⟩:=hT.bytes;obtain⟨z,hz,zO⟩:=hT.zero;have gS:jK P h e es false (.slice a2 0 c2)=some (0,[]):=(va.of (P:=P) (e:=e) c2 hs).1;have Jl:cO c=c:=Nat.mod_eq_of_lt (by unfold aS;omega);obtain⟨h',hw,mR,pN⟩:=hp.own.write (o:=c*es) (vs:=[]) (by simp[hp.len]);have VW:h.iA (gi ⟨b,0,none⟩ (c*es)) []=some h':=by
    unfold af.iA gi;simp only[List.all_nil,cond_true,Nat.zero_add];exact hw
   refine⟨b,c,h',?_,⟨?_,by rw[pN.next];exact hp.lt,by simpa using hp.len,.inl rfl⟩,by rw[pN.next];exact Nat.le_refl _,.inl rfl,fun j _ j1=>pN.get j j1,fun h0 e0 ng=>⟨pN.ext e0 ng,ng⟩⟩
   ·unfold cQ
    simp only[hT.yE,hT.size,rN,JG,hz,cZ,gS];rw[Jl,bz (show c+0<=c by omega)];simp only[cond_true,VW]
   ·have:List.take (c*es) cells++([]++List.drop (c*es+([]:List Value).length) cells)=cells++[]:=by
     simp[<-hp.len]
    rw[this]at mR;exact mR
  ·have:=CN hT JG (c2:=c2) hp.own hp.lt hp.len hn hs fF rH om om
   refine⟨_,_,_,this,⟨ct.push _ _ _,by simp[af.push],by rw[List.length_append,hp.len,ta,Nat.add_mul],.inr rfl⟩,(Ext.push _ _ _).next,.inr (Nat.le_refl _),fun j j0 _=>(Ext.push _ _ _).get j j0,fun h0 e0 ng=>⟨e0.trans (.push _ _ _),e0.next⟩⟩
 ·obtain⟨b',c',h',h1,⟨o1,o2,o3,o4⟩,h3,h4,h5,h6⟩:=E0 hT JG (c2:=c2) (show Gu h es b n c cells from⟨hp.own,hp.lt,hp.len,.inr e⟩) (va.of c2 hs) fF rH om
  exact⟨b',c',h',h1,⟨o1,o2,o3,by rcases o4 with ⟨q1,q2⟩|q;left;omega;exact .inr q⟩,h3,h4,h5,h6⟩
end Go.Proofs.YtdpbiegfljmhmaaGreat
namespace Go.Proofs.YtdpbiegfljmhmaaGreat.Ext
def sg(x:Nat):Int:=if x % 2=0 then 1 else -1
def el(g:List (List Int))(i j:Int):Int:=gt (gt g i) j
def Ch(g:List (List Int))(k:Nat)(r c:List Int):Int:=dt k (fun i j=>el g (gt r i) (gt c j))
theorem TY{g:List (List Int)}(h9:∀i j,(gt (gt g i) j).natAbs<=9)(k:Nat)(r c:List Int):(Ch g k r c).natAbs<=157464:=N7 fun _ _ _ _=>h9 _ _
def ch(n:Nat):Nat->Nat->List (List Int)
 |0,_=>[[]]
 |k+1,f=>(List.range' f (n-f)).flatMap fun i=>(ch n k (i+1)).map (fun l=>(i:Int) :: l)
def bl(n w:Nat):List Int:=((List.range n).filter (fun i=>w.testBit i)).map Int.ofNat
theorem Cj(n:Nat):∀(k f:Nat),∀l∈ch n k f,l.length=k:=by
 intro k
 induction k with
 |zero=>intro f l hl;simp[ch]at hl;simp[hl]
 |succ k ih=>
  intro f l hl;simp only[ch,List.mem_flatMap,List.mem_map]at hl;obtain⟨i,_,l',K8,rfl⟩:=hl;simp[ih _ l' K8]
theorem Ru(n:Nat):∀(k f:Nat),∀l∈ch n k f,∀x∈l,0<=x/\x<n:=by
 intro k
 induction k with
 |zero=>intro f l hl;simp[ch]at hl;simp[hl]
 |succ k ih=>
  intro f l hl x hx;simp only[ch,List.mem_flatMap,List.mem_map]at hl;obtain⟨i,hi,l',K8,rfl⟩:=hl;rcases List.mem_cons.1 hx with e|e
  ·have:=List.mem_range'_1.1 hi;omega
  ·exact ih _ l' K8 x e
theorem TZ:((List.range 5).all fun n=>(List.range 5).all fun k=>((List.range (2 ^ n)).all fun w=>!((bl n w).length == k) || (ch n k 0).contains (bl n w)) && (ch n k 0).all fun l=>(List.range (2 ^ n)).any fun w=>bl n w == l)=true:=by decide +kernel
theorem RZ(n:Nat)(hn:n<=4)(k:Nat)(hk:k<=4):(∀w,w<2 ^ n->(bl n w).length=k->bl n w∈ch n k 0)/\∀l∈ch n k 0,∃w,w<2 ^ n/\bl n w=l:=by
 have h:=TZ;simp only[List.all_eq_true,Bool.and_eq_true]at h;obtain⟨a,b⟩:=h n (List.mem_range.2 om) k (List.mem_range.2 om);refine⟨fun w hw hl=>?_,fun l hl=>?_⟩
 ·have:=a w (List.mem_range.2 hw)
  simpa[hl]using this
 ·obtain⟨w,hw,e⟩:=List.any_eq_true.1 (b l hl)
  exact⟨w,List.mem_range.1 hw,by simpa using e⟩
def Xb(g:List (List Int))(m n k G:Nat):Prop:=∀d:Nat,d∣G↔∀r∈ch m k 0,∀c∈ch n k 0,d∣(Ch g k r c).natAbs
theorem Xb.uniq{g:List (List Int)}{m n k G H:Nat}(a:Xb g m n k G)(b:Xb g m n k H):G=H:=
 Nat.dvd_antisymm ((b G).2 ((a G).1 (Nat.dvd_refl G))) ((a H).2 ((b H).1 (Nat.dvd_refl H)))
def Dv(g:List (List Int))(m n k:Nat):Nat:=(ch m k 0).foldl (fun s r=>(ch n k 0).foldl (fun s c=>Nat.gcd s (Ch g k r c).natAbs) s) 0
theorem N8{α:Type}(f:α->Nat)(l:List α):∀s d:Nat,d∣l.foldl (fun s c=>Nat.gcd s (f c)) s↔d∣s/\∀c∈l,d∣f c:=by
 induction l with
 |nil=>intro s d;simp
 |cons x l ih=>intro s d;rw[List.foldl_cons,ih,Nat.dvd_gcd_iff];simp only[List.mem_cons,forall_eq_or_imp,and_assoc]
theorem Kt{α β:Type}(f:β->α->Nat)(l:List α)(l':List β):∀s d:Nat,d∣l'.foldl (fun s r=>l.foldl (fun s c=>Nat.gcd s (f r c)) s) s↔d∣s/\∀r∈l',∀c∈l,d∣f r c:=by
 induction l' with
 |nil=>intro s d;simp
 |cons x l' ih=>intro s d;rw[List.foldl_cons,ih,N8];simp only[List.mem_cons,forall_eq_or_imp,and_assoc]
theorem H6(g:List (List Int))(m n k:Nat):Xb g m n k (Dv g m n k):=by
 intro d;unfold Dv;rw[Kt (fun r c=>(Ch g k r c).natAbs)];simp
theorem WZ{g:List (List Int)}{m n k G:Nat}(hm:m<=4)(hn:n<=4)(hk:k<=4)(h:∀d:Nat,d∣G↔∀R,R<2 ^ m->(bl m R).length=k->∀C,C<2 ^ n->(bl n C).length=k->d∣(Ch g k (bl m R) (bl n C)).natAbs):G=Dv g m n k:=by
 refine Xb.uniq (g:=g) (m:=m) (n:=n) (k:=k) (fun d=>?_) (H6 g m n k);rw[h d];obtain⟨a1,a2⟩:=RZ m hm k hk;obtain⟨b1,b2⟩:=RZ n hn k hk;constructor
 ·intro q r hr c hc
  obtain⟨R,hR,eR⟩:=a2 r hr;obtain⟨C,hC,eC⟩:=b2 c hc;have:=q R hR (by rw[eR];exact Cj m k 0 r hr) C hC (by rw[eC];exact Cj n k 0 c hc)
  rwa [eR,eC]at this
 ·intro q R hR lR C hC lC
  exact q _ (a1 R hR lR) _ (b1 C hC lC)
theorem Cl(g:List (List Int))(m n:Nat):Dv g m n 0=1:=by
 simp[Dv,ch,Ch,dt]
theorem TF{a b B:Nat}(ha:a<=B)(hb:b<=B):Nat.gcd a b<=B:=by
 rcases Nat.eq_zero_or_pos a with e|e
 ·rw[e,Nat.gcd_zero_left];exact hb
 ·exact Nat.le_trans (Nat.gcd_le_left b e) ha
theorem NU{g:List (List Int)}(h9:∀i j,(gt (gt g i) j).natAbs<=9)(m n k:Nat):Dv g m n k<=157464:=by
 rcases Nat.eq_zero_or_pos (Dv g m n k)with e|e
 ·omega
 ·refine Classical.byContradiction fun q=>?_
  have h:=(H6 g m n k (Dv g m n k)).1 (Nat.dvd_refl _);have z:Dv g m n k=0:=by
   have:(0:Nat)∣Dv g m n k:=(H6 g m n k 0).2 (fun r hr c hc=>by
    have hd:=h r hr c hc;have hle:=TY h9 k r c;rcases Nat.eq_zero_or_pos (Ch g k r c).natAbs with e0|e0
    ·rw[e0]
     exact Nat.dvd_refl 0
    ·have:=Nat.le_of_dvd e0 hd
     omega)
   exact Nat.eq_zero_of_zero_dvd this
  omega
theorem mJ(n w:Nat):bl (n+1) w=if w.testBit n then bl n w++[(n:Int)] else bl n w:=by
 unfold bl;rw[List.range_succ,List.filter_append,List.map_append];by_cases c:w.testBit n
 ·simp[c]
 ·simp[c]
theorem NH(n w:Nat):(bl n w).length<=n:=by
 unfold bl;rw[List.length_map];exact Nat.le_trans (List.length_filter_le _ _) (by rw[List.length_range];exact Nat.le_refl _)
theorem ID:∀n w:Nat,n<=4->w<2 ^ n->(bl 4 w).length=(bl n w).length:=by
 have h:((List.range 5).all fun n=>(List.range (2 ^ n)).all fun w=>(bl 4 w).length == (bl n w).length)=true:=by decide +kernel
 intro n w hn hw;simp only[List.all_eq_true]at h;simpa using h n (List.mem_range.2 om) w (List.mem_range.2 hw)
theorem Iz(l:List Int)(x:Int){i:Nat}(h:i<=l.length):gt (l++[x]) (i:Int)=if i<l.length then gt l (i:Int)else x:=by
 unfold gt;rw[List.getD_eq_getElem?_getD,List.getD_eq_getElem?_getD];show(l++[x])[i]?.getD default=_;by_cases c:i<l.length
 ·rw[List.getElem?_append_left c,if_pos c];rfl
 ·rw[if_neg c,show i=l.length by omega,List.getElem?_concat_length];rfl
end Go.Proofs.YtdpbiegfljmhmaaGreat.Ext
namespace Go.Proofs.YtdpbiegfljmhmaaGreat
open Go.cV
set_option maxRecDepth 100000
theorem Rows.lt{α:Type}{enc:α->List Value}{es:Nat}{h:af}{a:Option Addr}{n:Nat}{l:List α}(p:Rows enc es h a n l):∀ad,a=some ad->ad.block<h.next:=fun ad dc=>by
 subst dc;exact p.cells.2.1
theorem Rows.dL{α:Type}{enc:α->List Value}{es:Nat}{h h':af}{a:Option Addr}{n:Nat}{l:List α}(p:Rows enc es h a n l)(hn:h.next<=h'.next)(hk:∀ad,a=some ad->h'.m.get ad.block=h.m.get ad.block):Rows enc es h' a n l:=by
 refine⟨?_,p.each,p.pos⟩;cases a with
 |none=>exact p.cells
 |some ad=>
  obtain⟨h1,h2,h3⟩:=p.cells;refine⟨h1,Nat.lt_of_lt_of_le h2 hn,?_⟩;unfold af.aN af.cells? at h3 ⊢;rw[hk ad rfl];exact h3
def R0(k:Hd):Prop:=0<k.n->k.c=k.n\/k.c=az 1 k.n
structure KS(h0 h:af)(a:Option Addr)(N:Nat)(hd:List Hd)(g:List (List Int)):Prop where
 ext:Ext h0 h
 gr:pz nC 1 h a N hd g
 cap:∀y:Int,0<=y->y<N->R0 (gt hd y)
 fr:jm h0.next a
 rfr:∀y:Int,0<=y->y<N->jm h0.next (gt hd y).a
theorem KS.more{h0 h h':af}{a:Option Addr}{N:Nat}{hd:List Hd}{g:List (List Int)}(t:KS h0 h a N hd g)(e:Ext h h'):KS h0 h' a N hd g:=⟨t.ext.trans e,t.gr.ext e,t.cap,t.fr,t.rfr⟩
theorem KS.back{h0 h1 h:af}{a:Option Addr}{N:Nat}{hd:List Hd}{g:List (List Int)}(t:KS h1 h a N hd g)(e:Ext h0 h1):KS h0 h a N hd g:=
 ⟨e.trans t.ext,t.gr,t.cap,fun ad dc=>Nat.le_trans e.next (t.fr ad dc),fun y y0 y1 ad dc=>Nat.le_trans e.next (t.rfr y y0 y1 ad dc)⟩
structure CO(h0 h:af)(a:Option Addr)(N c:Nat)(hd:List Hd)(g:List (List Int)):Prop where
 s:KS h0 h a N hd g
 qD:mT h 1 a N c (hd.flatMap Hd.cells)
 Js:∀ad,a=some ad->∀y:Int,0<=y->y<N->∀bd,(gt hd y).a=some bd->bd.block<ad.block
theorem CO.sep{h0 h:af}{a:Option Addr}{N c:Nat}{hd:List Hd}{g:List (List Int)}(t:CO h0 h a N c hd g):∀ad,a=some ad->∀y:Int,0<=y->y<N->∀bd,(gt hd y).a=some bd->bd.block≠ad.block:=fun ad dc y y0 y1 bd mu=>Nat.ne_of_lt (t.Js ad dc y y0 y1 bd mu)
theorem CO.more{h0 h h':af}{a:Option Addr}{N c:Nat}{hd:List Hd}{g:List (List Int)}(t:CO h0 h a N c hd g)(e:Ext h h'):CO h0 h' a N c hd g:=⟨t.s.more e,t.qD.ext e,t.Js⟩
theorem CO.nil(h:af):CO h h none 0 0 [] []:=
 ⟨⟨.refl h,⟨Rows.nil h iF om,rfl,fun y y0 y1=>om⟩,fun y y0 y1=>om,.none _,fun y y0 y1=>om⟩,.nil _ _,fun ad dc=>by cases dc⟩
theorem wV{α:Type}[Inhabited α](l:List α)(x:α){i:Int}(i0:0<=i)(hi:i<=l.length):gt (l++[x]) i=if i<l.length then gt l i else x:=by
 unfold gt;rw[List.getD_eq_getElem?_getD,List.getD_eq_getElem?_getD];by_cases c:i<l.length
 ·rw[if_pos c,List.getElem?_append_left om]
 ·rw[if_neg c,show i.toNat=l.length by omega,List.getElem?_concat_length];rfl
theorem CO.add{h0 h h':af}{a:Option Addr}{N c b':Nat}{hd:List Hd}{g:List (List Int)}(t:CO h0 h a N c hd g){k:Hd}{r:List Int}(row:Rows nC 1 h k.a k.n r)(ck:R0 k)(fk:jm h0.next k.a)(sk:∀ad,a=some ad->∀bd,k.a=some bd->bd.block≠ad.block)
  (a':mT h' 1 (some ⟨b',0,none⟩) (N+1) (az 1 (N+1)) ((hd++[k]).flatMap Hd.cells)) (xe:Ext h0 h') (n':h.next<h'.next) (T2:h.next<b') (k':∀i,i<h.next->(∀ad,a=some ad->ad.block≠i)->h'.m.get i=h.m.get i) :
  CO h0 h' (some ⟨b',0,none⟩) (N+1) (az 1 (N+1)) (hd++[k]) (g++[r]):=by
 have hl:hd.length=N:=t.s.gr.hd.len;have gl:=t.s.gr.len;have xh:=t.s.ext.next;have eh:∀y:Int,0<=y->y<((N+1:Nat):Int)->gt (hd++[k]) y=if y<N then gt hd y else k:=fun y y0 y1=>by
  rw[wV hd k y0 om,hl]
 have eg:∀y:Int,0<=y->y<((N+1:Nat):Int)->gt (g++[r]) y=if y<N then gt g y else r:=fun y y0 y1=>by
  rw[wV g r y0 om,gl]
 refine⟨⟨xe,⟨⟨a'.cells,iF,om⟩,by simp[gl],fun y y0 y1=>?_⟩,fun y y0 y1=>?_,fun ad dc=>by cases dc;show h0.next<=b';omega,fun y y0 y1=>?_⟩,a',fun ad dc y y0 y1 bd mu=>?_⟩
 ·rw[eh y y0 y1,eg y y0 y1]
  by_cases c:y<N
  ·rw[if_pos c,if_pos c]
   have q:=t.s.gr.row y y0 c;exact q.dL (Nat.le_of_lt n') (fun bd mu=>k' _ (q.lt bd mu) (fun ad dc=>(t.sep ad dc y y0 c bd mu).symm))
  ·rw[if_neg c,if_neg c]
   exact row.dL (Nat.le_of_lt n') (fun bd mu=>k' _ (row.lt bd mu) (fun ad dc=>(sk ad dc bd mu).symm))
 ·rw[eh y y0 y1]
  by_cases c:y<N
  ·rw[if_pos c];exact t.s.cap y y0 c
  ·rw[if_neg c];exact ck
 ·rw[eh y y0 y1]
  by_cases c:y<N
  ·rw[if_pos c];exact t.s.rfr y y0 c
  ·rw[if_neg c];exact fk
 ·cases dc
  rw[eh y y0 y1]at mu;show bd.block<b';by_cases c:y<N
  ·rw[if_pos c]at mu;have:=(t.s.gr.row y y0 c).lt bd mu;omega
  ·rw[if_neg c]at mu;have:=row.lt bd mu;omega
variable{F:bg}{call head arith b0 c0 d0 f0 g0 k0 l0 n0 ofNat o0 place r0 nz u0 rd wr push next v0 w0 x0 z0 d1 f1 g1 l1 f2 part app g2 i2 j2 l2 r2 s2 bZ lt ne u2 v2 y2 yn b3 c3 f3 g3 bytes i3:_}(hA:AP F ⟨call,head,arith,b0,c0,d0,f0,g0,k0,l0,n0,ofNat,o0,place,r0,nz,u0,rd,wr,push,next,v0,w0,x0,z0,d1,f1,g1,l1,f2,part,app,g2,i2,j2,l2,r2,s2,bZ,lt,ne,u2,v2,y2,yn,b3,c3,f3,g3,bytes,i3⟩)
include hA
theorem zx{h:af}(ar:h.low<=h.next){b o n c:Nat}{l:List Int}(hl:Rows nC 1 h (some ⟨b,o,none⟩) n l)(hn:n<=1000){Q:Value->af->Prop}
  (hQ:∀h' b' c',Gu h' 1 b' n c' (l.flatMap nC)->Ext h h'->h.next<=b'->Q (.slice (some ⟨b',0,none⟩) n c') h'):call 48 [.slice (some ⟨b,o,none⟩) n c] h Q:=by
 refine hA.aO Tryz.func48 x48.2 (hA.alike _ _ _ rfl) ar (zc ?_);rw[vF hA,dy hA,cX hA];have hp:Gu (h.push 1 []) 1 h.next 0 0 []:=⟨ct.push h 1 [],by simp[af.push],rfl,.inl ⟨rfl,rfl⟩⟩;obtain⟨b',c',h',k1,k2,k3⟩:=Gv RW RW.yE (c2:=c) hp (hl.ext (.push h 1 [])).cells rfl (qH EH l) om;obtain⟨x1,x2⟩:=k3 h (.push h 1 []) (Nat.le_refl _);rw[Nat.zero_add]at k1 k2;refine⟨_,_,_,h',k1,?_⟩;refine zc ?_;exact hQ h' b' c' (by simpa using k2) x1 x2
set_option maxHeartbeats 1000000 in
theorem N9(hI:sH F){h0:af}(dE:h0.low<=h0.next){sb m n w ac:Nat}{aa:Option Addr}{dk:List Hd}{g:List (List Int)}(hw:w=n+m)(n1:1<=n)(n4:n<=4)(m4:m<=4)(hg:pz nC 1 h0 aa m dk g)(hn:∀y:Int,0<=y->y<m->(gt dk y).n=n)(h9:∀i j,(gt (gt g i) j).natAbs<=9){M:Int}(eM:M=m){Q:Exit->SS->Prop}
  (hQ:∀(h':af) (kn:Nat) (T:List (Nat×List Value)) ra rc bs A,oK h0 h' sb m m w ra rc bs A->Ext.Gc w m A->Ext.kY w m A (gU g n)->Q (.exit 0) ⟨[(3,.pointer (some ⟨sb,0,none⟩))],kn,T,h'⟩) :
  ∀(d i:Nat) (I:Int) (h:af) (ra:Option Addr) (rc:Nat) (bs:Nat->Nat) (A:Nat->Ext.aR),m-i<=d->i<=m->I=i->oK h0 h sb i i w ra rc bs A->Ext.Gc w i A->Ext.kY w i A (gU g n)->
   head 46 3 0 ⟨[(0,.slice aa m ac),(3,.pointer (some ⟨sb,0,none⟩)),(7,.slice aa m ac),(8,.int .i64 M),(9,.int .i64 I)],0,[],h⟩ Q:=by
 refine o8 (fun d ih=>?_);intro i I h ra rc bs A hd hi eI t hf hl;by_cases ci:i<m
 rotate_left
 ·refine hA.au Tryz.func46 x46.2 (zc ?_)
  refine br (I<M) (by rw[aA hA]) (fun q=>om) (fun _=>?_)<;>refine zc ?_;obtain rfl:i=m:=om
  exact hQ h _ _ ra rc bs A t hf hl
 obtain⟨d,rfl⟩:∃k,d=k+1:=⟨d-1,om⟩
 replace ih:=ih d rfl
 have ar:h.low<=h.next:=t.rows.ext.aD dE;have gh:=hg.ext t.rows.ext;obtain⟨ab,ao,rfl,_,q1⟩:=gh.hd.at (i:=I) om om;have q2:=q1 0 1 om om;have row:=gh.row I om om;have rl:=hn I om om;obtain⟨b,o,eb,_⟩:=row.at (i:=0) om (by rw[rl];omega);obtain⟨hc,ehc⟩:∃z,z=(gt dk I).c:=⟨_,rfl⟩;have Di:((gt dk I).cells.drop 0).take 1=[.slice (some ⟨b,o,none⟩) n hc]:=by
  unfold Hd.cells;rw[eb,rl,ehc];rfl
 rw[Di]at q2;have r1:rd h ab (place ao I 1) 1 [.slice (some ⟨b,o,none⟩) n hc]:=aE hA q2;rw[eb,rl]at row;have e1:ofNat m=M:=by rw[eM];exact aJ hA m
 obtain⟨N,eN⟩:∃z:Int,z=n:=⟨_,rfl⟩;have e2:ofNat n=N:=by rw[eN];exact aJ hA n
 refine hA.au Tryz.func46 x46.2 (zc ?_);refine br (I<M) (by rw[aA hA]) (fun _=>?_) (fun q=>om)<;>refine zc ?_;refine zq ?_;refine zx hA ar row om (fun h1 b1 c1 o1 x1 lb=>⟨_,_,_,rfl,?_⟩)
 (refine zq ?_;repeat ((first|rw[e1]);refine zq ?_))
 rw[vF hA];obtain⟨k1,k2,k3,k4⟩:=o1;have Xc:c1=az 1 n:=by rcases k4 with ⟨_,q⟩|q;omega;exact q
 have aao:(gt g I).length=n:=row.len;refine⟨_,_,_,_,by rw[Xc];exact Ay (m:=m) eM k1 k2 om om om om (qH EH _),?_⟩;obtain⟨h2,Iy⟩:∃z,z=(h1.kill b1).push 1 ((gt g I).flatMap nC++List.replicate m (Value.int IntKind.i64 0)):=⟨_,rfl⟩;have x2:Ext h h2:=by rw[Iy];exact(x1.kill lb).trans (.push _ _ _)
 have nb0:h.next<=h1.next:=x1.next;have nb1:h1.next<h2.next:=by rw[Iy];exact Nat.lt_succ_self _
 have o2:ct h2 h1.next 1 ((gt g I).flatMap nC++List.replicate m (Value.int IntKind.i64 0)):=by rw[Iy];exact ct.push (h1.kill b1) 1 _
 rw[<-Iy];obtain⟨f,ef⟩:∃z:Nat->Int,z=fun j=>if j<n then gt (gt g I) (j:Int)else 0:=⟨_,rfl⟩
 have ecs:(gt g I).flatMap nC++List.replicate m (Value.int IntKind.i64 0)=(kR f w).flatMap nC:=by
  have e1:List.replicate m (Value.int IntKind.i64 0)=(List.replicate m (0:Int)).flatMap nC:=by
   have:∀k,List.replicate k (Value.int IntKind.i64 0)=(List.replicate k (0:Int)).flatMap nC:=fun k=>by
    induction k with
    |zero=>rfl
    |succ k ih=>rw[List.replicate_succ,List.replicate_succ,List.flatMap_cons,<-ih];rfl
   exact this m
  rw[e1,<-List.flatMap_append]
  congr 1
  apply List.ext_getElem?;intro j;by_cases c:j<w
  ·rw[jV f c,ef]
   by_cases c2:j<n
   ·rw[List.getElem?_append_left om,Qx _ om]
    simp only[if_pos c2]
   ·rw[List.getElem?_append_right om,List.getElem?_replicate,if_pos om]
    simp only[if_neg c2]
  ·rw[List.getElem?_eq_none (by rw[List.length_append,List.length_replicate,aao];omega),List.getElem?_eq_none (by rw[bP];omega)]
 rw[ecs]at o2;obtain⟨h3,w1,w2,w3⟩:=ct.setRow o2 gC (i:=n+i) (by rw[bP];omega) (1:Int);have x3:Ext h h3:=w3.ext x2 nb0;have e3:(kR f w).set (n+i) 1=kR (gU g n i) w:=by
  rw[wN];refine iq (fun j hj=>?_);unfold gU;rw[ef,<-eI];by_cases c:j=n+i
  ·rw[if_pos c,if_neg om,if_pos c]
  ·rw[if_neg c]
   by_cases c2:j<n
   ·simp only[if_pos c2]
   ·simp only[if_neg c2,if_neg c]
 rw[e3]at w2;have t3:=t.loose x3 w2 nb0 (by rw[w3.next];exact nb1);generalize hnb:h1.next=nb at *;have a3:arith .add .i64 N I=N+I:=aG hA om om;obtain⟨J,eJ⟩:∃z:Int,z=N+I:=⟨_,rfl⟩;rw[<-eJ]at a3;have w1:wr h2 nb (place 0 J 1) [.int .i64 1] h3:=yL hA (by rw[show 0+J.toNat*1=(n+i)*1 by omega];exact w1);obtain⟨cw,qE⟩:∃z,z=az 1 (n+m):=⟨_,rfl⟩;rw[<-qE];obtain⟨wn,ewn⟩:∃z,z=n+m:=⟨_,rfl⟩;rw[<-ewn]
 (refine zq ?_;repeat ((first|rw[e2]|rw[a3]);refine zq ?_))
 have en:∀z,z<i->Ext.put A i (gU g n i) z=A z:=fun z hz=>Ext.fT _ om
 obtain⟨D,MM,rn⟩:=Ext.Fv.start (w:=w) (k:=i) (A:=Ext.put A i (gU g n i)) (F0:=gU g n) (hf.congr en) ((Ext.kY.of_eq en).trans hl) (fun y _ j=>join_le h9 y j) om (Qw g n i w om) (Ext.gB _);obtain⟨bs2,ebs⟩:∃z,z=fun y=>if y=i then nb else bs y:=⟨_,rfl⟩
 rw[<-ebs]at t3;have YC:nb=bs2 i:=by rw[ebs];simp only[if_true]
 have aap:wn=w:=om
 rw[aap,YC];refine Ty hA hI (sb:=sb) (bs:=bs2) dE om (by rw[qE,hw]) (fun y _ j=>join_le h9 y j) t3 rn (fun h4 US UT WM A' t4 sk=>?_);refine zq ?_;rw[aG hA om om];exact ih (i+1) (I+1) h4 US UT WM A' om om om t4 sk.PV sk.C2
theorem Hg(hI:sH F){h:af}(ar:h.low<=h.next){m n w ac:Nat}{aa:Option Addr}{dk:List Hd}{g:List (List Int)}(hw:w=n+m)(n1:1<=n)(n4:n<=4)(m4:m<=4)(hg:pz nC 1 h aa m dk g)(hn:∀y:Int,0<=y->y<m->(gt dk y).n=n)(h9:∀i j,(gt (gt g i) j).natAbs<=9){Q:Value->af->Prop}
  (hQ:∀h' sb ra rc bs A,oK h h' sb m m w ra rc bs A->Ext.Gc w m A->Ext.kY w m A (gU g n)->Q (.slice ra m rc) h') :
  call 46 [.slice aa m ac] h Q:=by
 obtain⟨M,eM⟩:∃z:Int,z=m:=⟨_,rfl⟩;have e1:ofNat m=M:=by rw[eM];exact aJ hA m
 refine hA.aO Tryz.func46 x46.2 (hA.alike _ _ _ rfl) ar (zc ?_)
 (refine zq ?_;repeat ((first|rw[e1]);refine zq ?_))
 have xp:Ext h (push h 1 [.slice none 0 0]):=by rw[dy hA];exact .push _ _ _
 have t0:oK h (push h 1 [.slice none 0 0]) (next h) 0 0 w none 0 (fun _=>0) (fun _ _=>0):=by
  rw[dy hA,cX hA];exact⟨⟨.push _ _ _,fun y hy=>om,fun y hy=>om,fun y hy=>om,fun y z hy=>om⟩,ct.push _ _ _,.nil _ _,Nat.le_refl _,Nat.le_refl _,Nat.lt_succ_self _,.none _,fun y hy=>om,fun ad dc=>by cases dc⟩
 refine N9 hA hI (sb:=next h) ar hw n1 n4 m4 hg hn h9 eM (fun h' kn T ra rc bs A t hf hl=>?_) m 0 0 _ none 0 (fun _=>0) (fun _ _=>0) om om rfl t0 ⟨fun i hi=>om,fun i hi=>om,fun i j hi hj=>om,fun i j hi hj=>om⟩ ⟨fun i hi=>om,fun i hi=>om,1,.inl rfl,fun d J I=>?_⟩
 ·have r1:rd h' (next h) (bZ 0 0) 1 [.slice ra m rc]:=by rw[dj hA];exact jf hA (t.own.aN (o:=0) (n:=1) (Nat.le_refl _))
  have hq:=hQ h' (next h) ra rc bs A t hf hl;generalize next h=sb at *;refine zq ?_;exact hq
 ·show Ext.unit I=1*Ext.unit I
  omega
set_option maxHeartbeats 1000000 in
theorem E8{h0:af}(dE:h0.low<=h0.next){m n w r s rc:Nat}{ra:Option Addr}{bs:Nat->Nat}{A:Nat->Ext.aR}(hw:w=n+m)(n4:n<=4)(m1:1<=m)(m4:m<=4)(hr:r<=m)(es:r+s=m)(lo:∀y,y<r->Ext.aj w (A y)<n)(hi:∀y,r<=y->y<m->n<=Ext.aj w (A y)){M N:Int}(eM:M=m)(eN:N=n){Q:Exit->SS->Prop}
  (hQ:∀(h':af) (kn:Nat) (T:List (Nat×List Value)) pa pc qa qc rb,dQ h0 h' m w bs A->UW h0 h' r w pa pc bs->Fz h0 h' s m qa qc rb (fun y j=>A (r+y) (n+j))->(∀ad,pa=some ad->∀y,y<m->ad.block≠bs y)->Q (.exit 0) ⟨[(2,.slice pa r pc),(3,.slice qa s qc)],kn,T,h'⟩) :
  ∀(d i u v:Nat) (I:Int) (h:af) (pa qa:Option Addr) (pc qc:Nat) (rb:Nat->Nat),m-i<=d->i<=m->I=i->u=min i r->v=i-r->Fz h0 h m w ra rc bs A->UW h0 h u w pa pc bs->Fz h0 h v m qa qc rb (fun y j=>A (r+y) (n+j))->
   (∀ad,pa=some ad->(∀y,y<m->ad.block≠bs y)/\(∀y,y<v->ad.block≠rb y)/\∀bd,qa=some bd->ad.block≠bd.block)->(∀ad,qa=some ad->∀y,y<m->ad.block≠bs y)->
   (∀ad,ra=some ad->(∀bd,pa=some bd->ad.block≠bd.block)/\∀bd,qa=some bd->ad.block≠bd.block)->
   head 29 3 0 ⟨[(2,.slice pa u pc),(3,.slice qa v qc),(4,.int .i64 N),(12,.slice ra m rc),(13,.int .i64 M),(14,.int .i64 I)],0,[],h⟩ Q:=by
 refine o8 (fun d ih=>?_);intro i u v I h pa qa pc qc rb hd zZ eI eu ev t p q z1 z2 z5;by_cases ci:i<m
 rotate_left
 ·refine hA.au Tryz.func29 x29.2 (zc ?_)
  refine br (I<M) (by rw[aA hA]) (fun q=>om) (fun _=>?_)<;>refine zc ?_;obtain rfl:u=r:=om
  obtain rfl:v=s:=om
  exact hQ h _ _ pa pc qa qc rb t.rows p q (fun ad dc=>(z1 ad dc).1)
 obtain⟨d,rfl⟩:∃k,d=k+1:=⟨d-1,om⟩
 replace ih:=ih d rfl
 have ar:h.low<=h.next:=t.rows.ext.aD dE;obtain⟨ab,rfl,Rp,q1⟩:=t.head ci;obtain⟨cw,qE⟩:∃z,z=az 1 w:=⟨_,rfl⟩;rw[<-qE]at q1;have r1:rd h ab (place 0 I 1) 1 [.slice (some ⟨bs i,0,none⟩) w cw]:=aE hA (by rw[eI];exact q1);obtain⟨z6,z7⟩:=z5 _ rfl;refine hA.au Tryz.func29 x29.2 (zc ?_);refine br (I<M) (by rw[aA hA]) (fun _=>?_) (fun q=>om)<;>refine zc ?_;refine zq ?_;refine rC hA ar om (fun x hx=>t.rows.el ci hx) (fun L eL=>⟨L,rfl,?_⟩);refine zq ?_;refine br (L<N) (by rw[aA hA]) (fun cl=>?_) (fun cl=>?_)<;>refine zc ?_
 ·have hir:i<r:=by
   rcases Nat.lt_or_ge i r with c|c
   ·exact c
   ·have:=hi i c ci;omega
  obtain rfl:u=i:=om
  obtain rfl:v=0:=om
  refine zq ?_;refine wU hA Bd iF om IK (v:=(⟨some ⟨bs u,0,none⟩,w,cw⟩:Hd)) p.qD om (fun b' h' a' x' n' T2 k'=>?_);rw[qE,<-E7]at a';have xe:Ext h0 h':=x' h0 t.rows.ext p.fr;have kr:∀y,y<m->h'.m.get (bs y)=h.m.get (bs y):=fun y hy=>k' _ (t.rows.lt y hy) (fun ad dc=>(z1 ad dc).1 y hy)
  have t2:Fz h0 h' m w (some ⟨ab,0,none⟩) rc bs A:=⟨t.rows.dL xe (Nat.le_of_lt n') kr,t.qD.gQ (Nat.le_of_lt n') (fun ad dc hl=>by cases dc;exact k' ab Rp (fun ad dc=>(z6 ad dc).symm)),t.fr,t.Fw⟩;have q2:Fz h0 h' 0 m qa qc rb (fun y j=>A (r+y) (n+j)):=⟨q.rows.dL xe (Nat.le_of_lt n') (fun y hy=>om),q.qD.gQ (Nat.le_of_lt n') (fun ad dc hl=>k' _ hl (fun bd mu=>(z1 bd mu).2.2 ad dc)),q.fr,q.Fw⟩;have xh:=t.rows.ext.next;have p2:UW h0 h' (u+1) w (some ⟨b',0,none⟩) (az 1 (u+1)) bs:=⟨a',fun ad dc=>by cases dc;show h0.next<=b';omega⟩;generalize az 1 (u+1)=cc at *;obtain⟨u1,eu1⟩:∃z,z=u+1:=⟨_,rfl⟩;rw[<-eu1]at p2 ⊢;refine zq ?_;rw[aG hA om om];refine ih (u+1) u1 0 (I+1) h' (some ⟨b',0,none⟩) qa cc qc rb om om om om om t2 p2 q2 (fun ad dc=>?_) z2 (fun ad dc=>?_)
  ·cases dc
   exact⟨fun y hy=>by have:=t.rows.lt y hy;show b'≠_;omega,fun y hy=>om,fun bd mu=>by have:=q.qD.lt bd mu;show b'≠_;omega⟩
  ·cases dc
   exact⟨fun bd mu=>by cases mu;show ab≠b';omega,z7⟩
 ·have hir:r<=i:=by
   rcases Nat.lt_or_ge i r with c|c
   ·have:=lo i c;omega
   ·exact c
  obtain rfl:u=r:=om
  refine zq ?_;rw[qE];refine CK hA RW (n:=w) (i:=N) om om om (fun c'=>?_);rw[show 0+N.toNat*1=0+n*1 by omega,show w-N.toNat=m by omega,<-qE];obtain⟨o,eo⟩:∃z,z=0+n*1:=⟨_,rfl⟩;have tl:=t.rows.tail ci hw;rw[<-eo]at tl ⊢;refine zq ?_;refine zx hA ar tl om (fun h1 b1 c1 o1 x1 lb=>⟨_,_,_,rfl,?_⟩);obtain⟨k1,k2,k3,k4⟩:=o1;have Xc:c1=az 1 m:=by rcases k4 with ⟨_,q⟩|q;omega;exact q
  have t1:=t.more x1;have p1:=p.qD.ext x1;have q1:=q.more x1;have n1:=x1.next;refine zq ?_;refine wU hA Bd iF om IK (v:=(⟨some ⟨b1,0,none⟩,m,c1⟩:Hd)) q1.qD om (fun b' h' a' x' n' T2 k'=>?_);have xe:Ext h0 h':=x' h0 t1.rows.ext q.fr;have xh:=t1.rows.ext.next;have kr:∀y,y<m->h'.m.get (bs y)=h1.m.get (bs y):=fun y hy=>k' _ (t1.rows.lt y hy) (fun ad dc=>z2 ad dc y hy)
  have t2:Fz h0 h' m w (some ⟨ab,0,none⟩) rc bs A:=⟨t1.rows.dL xe (Nat.le_of_lt n') kr,t1.qD.gQ (Nat.le_of_lt n') (fun ad dc hl=>by cases dc;exact k' ab om (fun ad dc=>(z7 ad dc).symm)),t.fr,t.Fw⟩;have p2:UW h0 h' u w pa pc bs:=⟨p1.gQ (Nat.le_of_lt n') (fun ad dc hl=>k' _ hl (fun bd mu=>((z1 ad dc).2.2 bd mu).symm)),p.fr⟩;obtain⟨Xd,erb⟩:∃z,z=fun y=>if y=v then b1 else rb y:=⟨_,rfl⟩
  have R1:Xd v=b1:=by rw[erb];simp only[if_true]
  have O0:∀y,y<v->Xd y=rb y:=fun y hy=>by rw[erb];simp only[if_neg (show ¬y=v by omega)]
  have ehd:kS rb m v++[(⟨some ⟨b1,0,none⟩,m,c1⟩:Hd)]=kS Xd m (v+1):=by
   rw[E7,R1,Xc]
   congr 1
   exact iq (fun y hy=>by rw[O0 y hy])
  rw[ehd]at a';have dW:=q.rows.lt;have ev2:u+v=i:=om
  have q2:Fz h0 h' (v+1) m (some ⟨b',0,none⟩) (az 1 (v+1)) Xd (fun y j=>A (u+y) (n+j)):=by
   refine⟨⟨xe,fun y hy=>?_,fun y hy=>?_,fun y hy=>?_,fun y z hy hz e=>?_⟩,a',fun ad dc=>by cases dc;show h0.next<=b';omega,fun ad dc y hy=>?_⟩
   ·by_cases c:y=v
    ·rw[c,R1,ev2];exact k1.gQ (k' b1 k2 (fun ad dc=>by have:=q.qD.lt ad dc;omega))
    ·rw[O0 y om];exact(q1.rows.row y om).gQ (k' _ (q1.rows.lt y om) (fun ad dc=>q.Fw ad dc y om))
   ·by_cases c:y=v
    ·rw[c,R1];have:=t.rows.ext.next;omega
    ·rw[O0 y om];exact q.rows.cI y om
   ·by_cases c:y=v
    ·rw[c,R1];omega
    ·rw[O0 y om];have:=dW y om;omega
   ·by_cases c:y=v<;>by_cases d:z=v
    ·rw[c,d]
    ·rw[c,R1,O0 z om]at e;have:=dW z om;omega
    ·rw[d,R1,O0 y om]at e;have:=dW y om;omega
    ·rw[O0 y om,O0 z om]at e;exact q.rows.inj y z om om e
   ·cases dc
    by_cases c:y=v
    ·rw[c,R1];show b'≠b1;omega
    ·rw[O0 y om];have:=dW y om;show b'≠_;omega
  have pl:=p.qD.lt;generalize az 1 (v+1)=cc at *;obtain⟨v1,ev1⟩:∃z,z=v+1:=⟨_,rfl⟩;rw[<-ev1]at q2 ⊢;refine zq ?_;rw[aG hA om om];refine ih (i+1) u v1 (I+1) h' pa (some ⟨b',0,none⟩) pc cc Xd om om om om om t2 p2 q2 (fun ad dc=>⟨(z1 ad dc).1,fun y hy=>?_,fun bd mu=>?_⟩) (fun ad dc y hy=>?_) (fun ad dc=>?_)
  ·by_cases c:y=v
   ·rw[c,R1];have:=pl ad dc;omega
   ·rw[O0 y om];exact(z1 ad dc).2.1 y om
  ·cases mu;have:=pl ad dc;show _≠b';omega
  ·cases dc;have:=t1.rows.lt y hy;show b'≠_;omega
  ·cases dc
   exact⟨z6,fun bd mu=>by cases mu;show ab≠b';omega⟩
theorem Kl(hI:sH F){h:af}(ar:h.low<=h.next){m n w ac:Nat}{aa:Option Addr}{dk:List Hd}{g:List (List Int)}(hw:w=n+m)(n1:1<=n)(n4:n<=4)(m1:1<=m)(m4:m<=4)(hg:pz nC 1 h aa m dk g)(hn:∀y:Int,0<=y->y<m->(gt dk y).n=n)(h9:∀i j,(gt (gt g i) j).natAbs<=9){Q:Value->af->Prop}
  (hQ:∀h' r s pa pc qa qc bs rb A,Ext.Gc w m A->Ext.kY w m A (gU g n)->r+s=m->(∀y,y<r->Ext.aj w (A y)<n)->(∀y,r<=y->y<m->n<=Ext.aj w (A y))->dQ h h' m w bs A->UW h h' r w pa pc bs->Fz h h' s m qa qc rb (fun y j=>A (r+y) (n+j))->(∀ad,pa=some ad->∀y,y<m->ad.block≠bs y)->Q (.tuple #[.slice pa r pc,.slice qa s qc]) h') :
  call 29 [.slice aa m ac] h Q:=by
 obtain⟨ab,ao,rfl,_,q1⟩:=hg.hd.at (i:=0) om om;have q2:=q1 0 1 om om;have row:=hg.row 0 om om;have rl:=hn 0 om om;obtain⟨b,o,eb,_⟩:=row.at (i:=0) om (by rw[rl];omega);obtain⟨hc,ehc⟩:∃z,z=(gt dk 0).c:=⟨_,rfl⟩;have Di:((gt dk 0).cells.drop 0).take 1=[.slice (some ⟨b,o,none⟩) n hc]:=by
  unfold Hd.cells;rw[eb,rl,ehc];rfl
 rw[Di]at q2;have r1:rd h ab (place ao 0 1) 1 [.slice (some ⟨b,o,none⟩) n hc]:=aE hA q2;obtain⟨N,eN⟩:∃z:Int,z=n:=⟨_,rfl⟩;have e2:ofNat n=N:=by rw[eN];exact aJ hA n
 obtain⟨M,eM⟩:∃z:Int,z=m:=⟨_,rfl⟩;have e1:ofNat m=M:=by rw[eM];exact aJ hA m
 refine hA.aO Tryz.func29 x29.2 (hA.alike _ _ _ rfl) ar (zc ?_)
 (refine zq ?_;repeat ((first|rw[e2]);refine zq ?_))
 refine Hg hA hI ar hw n1 n4 m4 hg hn h9 (fun h1 sb ra rc bs A st hf hl=>?_);obtain⟨r,hr,lo,hi⟩:=hf.gI.parts n;refine⟨_,_,_,rfl,?_⟩
 (refine zq ?_;repeat ((first|rw[e1]);refine zq ?_))
 refine E8 hA (h0:=h) (s:=m-r) ar hw n4 m1 m4 hr om lo hi eM eN (fun h' kn T pa pc qa qc rb x1 x2 x3 x4=>?_) m 0 0 0 0 h1 none none 0 0 (fun _=>0) om om rfl om om st.grd ⟨.nil _ _,.none _⟩ ⟨⟨st.rows.ext,fun y hy=>om,fun y hy=>om,fun y hy=>om,fun y z hy=>om⟩,.nil _ _,.none _,fun ad dc=>by cases dc⟩ (fun ad dc=>by cases dc) (fun ad dc=>by cases dc) (fun ad dc=>⟨(fun bd mu=>by cases mu),(fun bd mu=>by cases mu)⟩);have hq:=hQ h' r (m-r) pa pc qa qc bs rb A hf hl om lo hi x1 x2 x3 x4;generalize m-r=s at *;refine zq ?_;exact hq
theorem QA{t e es:Nat}(hT:gA Tryz.prog t e es){h:af}{b n c n2 c2:Nat}{a2:Option Addr}{cells news:List Value}(hp:H7 h es b n c cells)(hn:n<=1000)(hs:Cells h a2 n2 es news)(fF:cells.all aF=true)(rH:news.all aF=true)(uE:n2<=100000){C:Option Addr->Nat->Nat->af->Prop}
  (hC:∀b' c' h',H7 h' es b' (n+n2) c' (cells++news)->h.next<=h'.next->(b'=b\/h.next<=b')->(∀j,j<h.next->j≠b->h'.m.get j=h.m.get j)->(∀h0,Ext h0 h->h0.next<=b->Ext h0 h'/\h0.next<=b')->C (some ⟨b',0,none⟩) (n+n2) c' h') :
  app [t,t] [.slice (some ⟨b,0,none⟩) n c,.slice a2 n2 c2] h C:=by
 rw[vF hA];obtain⟨b',c',h',h1,h2,h3,h4,h5,h6⟩:=He hT hT.yE (c2:=c2) hp hn hs fF rH uE;exact⟨_,_,_,h',h1,hC b' c' h' h2 h3 h4 h5 h6⟩
theorem MB{h X:af}{b n c nb:Nat}{l:List Int}{v:Int}(hp:H7 h 1 b n c (l.flatMap nC))(hn:n<=1000)(eX:X=push h 1 [.int .i64 v])(Fs:nb=next h){C:Option Addr->Nat->Nat->af->Prop}
  (hC:∀b' c' h',H7 h' 1 b' (n+1) c' ((l++[v]).flatMap nC)->(∀h0,Ext h0 h->h0.next<=b->Ext h0 h'/\h0.next<=b')->(∀j,j<h.next->j≠b->h'.m.get j=h.m.get j)->h.next<=h'.next->C (some ⟨b',0,none⟩) (n+1) c' h') :
  app [28,28] [.slice (some ⟨b,0,none⟩) n c,.slice (some ⟨nb,0,none⟩) 1 1] X C:=by
 rw[dy hA]at eX;rw[cX hA]at Fs;subst eX Fs;have xp:Ext h (h.push 1 [.int .i64 v]):=Ext.push h 1 _;have hs:Cells (h.push 1 [.int .i64 v]) (some ⟨h.next,0,none⟩) 1 1 [.int .i64 v]:=⟨rfl,by simp[af.push],(ct.push h 1 [.int .i64 v]).aN (o:=0) (n:=1*1) (by show 0+1*1<=1;omega)⟩;have dW:=hp.lt;have nx:(h.push 1 [.int .i64 v]).next=h.next+1:=rfl;refine QA hA RW (hp.ext xp) hn hs (qH EH l) rfl om (fun b' c' h' k1 k2 k3 k4 k5=>hC b' c' h' ?_ (fun h0 e0 hb=>k5 h0 (e0.trans xp) hb) (fun j j0 j1=>(k4 j om j1).trans (xp.get j j0)) om);rw[List.flatMap_append];exact k1
