import Derived.Test.YtdpbiegfljmhmaaGreatSmS
import Derived.Test.YtdpbiegfljmhmaaGreatSlA
import Derived.KernelRfl
set_option linter.unusedSimpArgs false
set_option linter.unusedVariables false
namespace Go.Proofs.YtdpbiegfljmhmaaGreat
open Go.cS
set_option maxRecDepth 100000
def gM(g:List (List Int))(n:Nat):Nat->Ext.aQ:=fun i j=>if j<n then gt (gt g (i:Int)) (j:Int)else if j=n+i then 1 else 0
theorem Pj(g:List (List Int))(n i w:Nat)(hw:n+i<w):∃d J I,(∀x,x<d->J x<w)/\Ext.prod d (Ext.rv (i+1) (gM g n) J) (i+1) I≠0:=by
 refine⟨i+1,fun x=>n+(i-x),Ext.top (i+1),fun x hx=>by show n+(i-x)<w;omega,?_⟩;rw[Ext.fL (i+1) (V:=Ext.E) (fun y hy x hx=>?_)]
 ·have:=Ext.C5 (i+1)
  unfold Ext.vol at this;rw[this];decide
 ·show gM g n (i+1-1-y) (n+(i-x))=Ext.E y x
  unfold gM Ext.E;rw[if_neg om];by_cases c:x=y
  ·rw[if_pos om,if_pos c]
  ·rw[if_neg om,if_neg c]
theorem join_le{g:List (List Int)}{n:Nat}(h:∀i j,(gt (gt g i) j).natAbs<=9)(i j:Nat):(gM g n i j).natAbs<=9:=by
 unfold gM;split
 ·exact h _ _
 ·split<;>decide
theorem SD:fZ Tryz.prog 28 3 1:=⟨by kernel_rfl,by kernel_rfl,⟨8,by kernel_rfl,om⟩,⟨.int .i64 0,by kernel_rfl,rfl⟩⟩
theorem zI:ia Tryz.prog 3=some (.int .i64 0):=by kernel_rfl
theorem zG{h:af}{b n m:Nat}{M:Int}(eM:M=m){cells:List Value}(ho:bW h b 1 cells)(hb:b<h.next)(hl:cells.length=n)(hn:n<=1000)(hm:m<=1000)(m0:0<m)(fz:cells.all aE=true) :
  cN Tryz.prog h [28,3] [.slice (some ⟨b,0,none⟩) n (aw 1 n),.int .i64 M]=some (.slice (some ⟨h.next,0,none⟩) (n+m) (aw 1 (n+m)),(h.kill b).push 1 (cells++List.replicate m (.int .i64 0))):=by
 subst eM;have hT:=SD;obtain⟨by_,qY,nB⟩:=hT.bytes;have hs:n<aR:=by unfold aR;omega
 have gK:jy Tryz.prog h 3 1 true (.int .i64 (m:Int))=some (m,List.replicate m (.int .i64 0)):=by
  unfold jy;simp only[zI,qY,cond_true];rw[if_pos ⟨om,om,nB,rfl⟩];show some (_,bB [.int .i64 0] _)=_;rw[rU];rfl
 have hr:h.aM ⟨b,0,none⟩ n=some cells:=by rw[ho.aM om];simp[<-hl]
 have Fp:(List.replicate m (Value.int IntKind.i64 0)).all aE=true:=by simp[aE]
 unfold cN;simp only[hT.ye,hT.size,qY,uI,zI,cT,gK,cg hs];rw[fe om,bm (show n+m<=1073741824 by omega),bm nB];have hg:h.m.get b=some (.live true 1 cells):=ho;simp only[cond_false,cond_true,hr,Fp,fz,cF (dv 1 n),Bool.and_self,Bool.true_and,List.length_replicate,Nat.mul_one,Nat.beq_refl,hg,show(Value.int IntKind.i64 0).cells.toList.length.beq 1=true from rfl]
theorem Pk(l:List Int){j:Nat}(h:j<l.length):l[j]?=some (gt l (j:Int)):=by
 unfold gt;rw[List.getD_eq_getElem?_getD,show((j:Int)).toNat=j from rfl,List.getElem?_eq_getElem h];rfl
theorem Ext.Ft.congr{w k:Nat}{F G:Nat->Ext.aQ}(e:∀z,z<k->G z=F z)(h:Ext.Ft w k F):Ext.Ft w k G:=
 ⟨fun i hi=>by rw[e i hi];exact h.lt i hi,fun i hi=>by rw[e i hi];exact h.pos i hi,fun i j hi hj=>by rw[e i om,e j hj];exact h.inc i j hi hj,fun i j hi hj=>by rw[e i om,e j hj];exact h.red i j hi hj⟩
theorem nZ.loose{h0 h h3:af}{sb k w rc nb:Nat}{ra:Option Addr}{bs:Nat->Nat}{A:Nat->Ext.aQ}(t:nZ h0 h sb k k w ra rc bs A)(x:Ext h h3){v:Ext.aQ}(ho:bW h3 nb 1 ((kW v w).flatMap nC))(hb:h.next<=nb)(vw:nb<h3.next) :
  nZ h0 h3 sb k (k+1) w ra rc (fun y=>if y=k then nb else bs y) (Ext.put A k v):=by
 have t3:=t.more x;have en:∀y,y≠k->(if y=k then nb else bs y)=bs y:=fun y hy=>if_neg hy
 have hd:kG (fun y=>if y=k then nb else bs y) w k=kG bs w k:=hO (fun y hy=>by simp only[if_neg (show ¬y=k by omega)]);have dR:=t.rows.lt;have h0n:=t.rows.ext.next;refine⟨⟨t3.rows.ext,fun y hy=>?_,fun y hy=>?_,fun y hy=>?_,fun y z hy hz e=>?_⟩,t3.own,by rw[hd];exact t3.pQ,om,t3.s0,t3.s1,t3.fr,fun y hy=>?_,fun ad cX=>⟨(t3.EI ad cX).1,fun y hy=>?_⟩⟩
 ·by_cases c:y=k
  ·rw[c,if_pos rfl,Ext.gf];exact ho
  ·rw[if_neg c,Ext.fN v c];exact t3.rows.row y om
 ·by_cases c:y=k
  ·rw[if_pos c];omega
  ·rw[if_neg c];exact t3.rows.cJ y om
 ·by_cases c:y=k
  ·rw[if_pos c];exact vw
  ·rw[if_neg c];exact t3.rows.lt y om
 ·by_cases c:y=k<;>by_cases d:z=k
  ·rw[c,d]
  ·rw[if_pos c,if_neg d]at e;have:=dR z om;omega
  ·rw[if_neg c,if_pos d]at e;have:=dR y om;omega
  ·rw[if_neg c,if_neg d]at e;exact t.rows.inj y z om om e
 ·by_cases c:y=k
  ·rw[if_pos c];have:=t.s1;omega
  ·rw[if_neg c];exact t3.QH y om
 ·by_cases c:y=k
  ·rw[if_pos c];have:=t.pQ.lt ad cX;omega
  ·rw[if_neg c];exact(t3.EI ad cX).2 y om
structure EK(h0 h:af)(k w:Nat)(a:Option Addr)(c:Nat)(bs:Nat->Nat)(F:Nat->Ext.aQ):Prop where
 rows:dM h0 h k w bs F
 pQ:oD h 1 a k c ((kG bs w k).flatMap Hd.cells)
 fr:ky h0.next a
 EI:∀ad,a=some ad->∀y,y<k->ad.block≠bs y
theorem EK.more{h0 h h':af}{k w c:Nat}{a:Option Addr}{bs:Nat->Nat}{F:Nat->Ext.aQ}(t:EK h0 h k w a c bs F)(e:Ext h h'):EK h0 h' k w a c bs F:=⟨t.rows.more e,t.pQ.ext e,t.fr,t.EI⟩
theorem EK.head{h0 h:af}{k w c:Nat}{a:Option Addr}{bs:Nat->Nat}{F:Nat->Ext.aQ}(t:EK h0 h k w a c bs F){y:Nat}(hy:y<k):∃b,a=some ⟨b,0,none⟩/\b<h.next/\h.aM ⟨b,0+y*1,none⟩ 1=some [.slice (some ⟨bs y,0,none⟩) w (aw 1 w)]:=by
 rcases t.pQ with ⟨_,q,_⟩|⟨b,e,_,hb,hl,ho⟩
 ·omega
 refine⟨b,e,hb,?_⟩;have r:=bW.rows ho gJ om hb;rw[show(kG bs w k).length=k from bN _ _]at r;obtain⟨b',o,e',_,q⟩:=r.at (i:=(y:Int)) om om;cases e';have:=q 0 1 om om;unfold kG at this;rw[jq _ hy]at this;exact this
theorem nZ.grd{h0 h:af}{sb k n w rc:Nat}{ra:Option Addr}{bs:Nat->Nat}{F:Nat->Ext.aQ}(t:nZ h0 h sb k n w ra rc bs F):EK h0 h k w ra rc bs F:=
 ⟨⟨t.rows.ext,fun y hy=>t.rows.row y (by have:=t.kn;omega),fun y hy=>t.rows.cJ y (by have:=t.kn;omega),fun y hy=>t.rows.lt y (by have:=t.kn;omega),fun y z hy hz=>t.rows.inj y z (by have:=t.kn;omega) (by have:=t.kn;omega)⟩,t.pQ,t.fr,fun ad cX y hy=>(t.EI ad cX).2 y (by have:=t.kn;omega)⟩
structure TX(h0 h:af)(k w:Nat)(a:Option Addr)(c:Nat)(bs:Nat->Nat):Prop where
 pQ:oD h 1 a k c ((kG bs w k).flatMap Hd.cells)
 fr:ky h0.next a
theorem D5(bs:Nat->Nat)(w k:Nat):kG bs w (k+1)=kG bs w k++[⟨some ⟨bs k,0,none⟩,w,aw 1 w⟩]:=tq _ _
theorem dM.tail{h0 h:af}{k w n m:Nat}{bs:Nat->Nat}{F:Nat->Ext.aQ}(t:dM h0 h k w bs F){y:Nat}(hy:y<k)(hw:w=n+m):Rows nC 1 h (some ⟨bs y,0+n*1,none⟩) m (kW (fun j=>F y (n+j)) m):=by
 have r:=t.jJ hy;refine⟨?_,gV,om⟩;have:=r.cells.part (i:=n) (m:=m) om;have e:((kW (F y) w).flatMap nC).drop (n*1)=(kW (fun j=>F y (n+j)) m).flatMap nC:=by
  have el:kW (F y) w=kW (F y) n++kW (fun j=>F y (n+j)) m:=by
   apply List.ext_getElem?;intro j;by_cases c:j<w
   ·rw[jK _ c]
    by_cases d:j<n
    ·rw[List.getElem?_append_left (by rw[bN];exact d),jK _ d]
    ·rw[List.getElem?_append_right (by rw[bN];omega),bN,jK _ om,show n+(j-n)=j by omega]
   ·rw[List.getElem?_eq_none (by rw[bN];omega),List.getElem?_eq_none (by rw[List.length_append,bN,bN];omega)]
  rw[el,List.flatMap_append,List.drop_append_of_le_length (by rw[gi gV,bN];omega),List.drop_eq_nil_of_le (by rw[gi gV,bN];omega),List.nil_append]
 rw[e,List.take_of_length_le (by rw[gi gV,bN];omega)]at this;exact this
end Go.Proofs.YtdpbiegfljmhmaaGreat
namespace Go.Proofs.YtdpbiegfljmhmaaGreat.Ext
def d2(a b c d:Int):Int:=a*d-b*c
def d3(a b c d e f g h i:Int):Int:=a*d2 e f h i-b*d2 d f g i+c*d2 d e g h
def d4(a b c d e f g h i j k l m n o p:Int):Int:=a*d3 f g h j k l n o p-b*d3 e g h i k l m o p+c*d3 e f h i j l m n p-d*d3 e f g i j k m n o
def dt(s:Nat)(M:Nat->Nat->Int):Int:=
 match s with
 |0=>1
 |1=>M 0 0
 |2=>d2 (M 0 0) (M 0 1) (M 1 0) (M 1 1)
 |3=>d3 (M 0 0) (M 0 1) (M 0 2) (M 1 0) (M 1 1) (M 1 2) (M 2 0) (M 2 1) (M 2 2)
 |4=>d4 (M 0 0) (M 0 1) (M 0 2) (M 0 3) (M 1 0) (M 1 1) (M 1 2) (M 1 3) (M 2 0) (M 2 1) (M 2 2) (M 2 3) (M 3 0) (M 3 1) (M 3 2) (M 3 3)
 |_=>0
def mi(k:Nat)(M:Nat->Nat->Int)(i j:Nat):Int:=dt (k+1) (fun x y=>M (if x=k then i else x) (if y=k then j else y))
theorem fv{s:Nat}{M N:Nat->Nat->Int}(h:∀x y,x<s->y<s->M x y=N x y):dt s M=dt s N:=by
 match s with
 |0=>rfl
 |1=>exact h 0 0 om om
 |2=>simp only[dt,h _ _ (show 0<2 by omega) (show 0<2 by omega),h _ _ (show 0<2 by omega) (show 1<2 by omega),h _ _ (show 1<2 by omega) (show 0<2 by omega),h _ _ (show 1<2 by omega) (show 1<2 by omega)]
 |3=>
  have a0:0<3:=om
  have a1:1<3:=om
  have a2:2<3:=om
  simp only[dt,h _ _ a0 a0,h _ _ a0 a1,h _ _ a0 a2,h _ _ a1 a0,h _ _ a1 a1,h _ _ a1 a2,h _ _ a2 a0,h _ _ a2 a1,h _ _ a2 a2]
 |4=>
  have a0:0<4:=om
  have a1:1<4:=om
  have a2:2<4:=om
  have a3:3<4:=om
  simp only[dt,h _ _ a0 a0,h _ _ a0 a1,h _ _ a0 a2,h _ _ a0 a3,h _ _ a1 a0,h _ _ a1 a1,h _ _ a1 a2,h _ _ a1 a3,h _ _ a2 a0,h _ _ a2 a1,h _ _ a2 a2,h _ _ a2 a3,h _ _ a3 a0,h _ _ a3 a1,h _ _ a3 a2,h _ _ a3 a3]
 |s+5=>rfl
def sw(a b x:Nat):Nat:=if x=a then b else if x=b then a else x
theorem HI{s:Nat}(M:Nat->Nat->Int){a b:Nat}(ha:a<s)(hb:b<s):dt s (fun x y=>M (sw a b x) y)=dt s M\/dt s (fun x y=>M (sw a b x) y)=- dt s M:=by
 by_cases e:a=b
 ·left
  refine fv fun x y hx hy=>?_
  subst e;unfold sw;by_cases c:x=a
  ·rw[if_pos c,c]
  ·rw[if_neg c,if_neg c]
 right;have h4:s<=4\/5<=s:=om
 rcases h4 with h4|h4
 rotate_left
 ·obtain⟨t,rfl⟩:∃t,s=t+5:=⟨s-5,om⟩
  rfl
 have hs:s=0\/s=1\/s=2\/s=3\/s=4:=om
 have Qx:a=0\/a=1\/a=2\/a=3:=om
 have uP:b=0\/b=1\/b=2\/b=3:=om
 rcases hs with rfl|rfl|rfl|rfl|rfl<;>rcases Qx with rfl|rfl|rfl|rfl<;>rcases uP with rfl|rfl|rfl|rfl<;>first|(exfalso;omega)|(simp only[dt,sw,d4,d3,d2];grind)
theorem Mt{s:Nat}(M:Nat->Nat->Int):dt s (fun x y=>M y x)=dt s M:=by
 match s with
 |0=>rfl
 |1=>rfl
 |2=>simp only[dt,d2];grind
 |3=>simp only[dt,d3,d2];grind
 |4=>simp only[dt,d4,d3,d2];grind
 |s+5=>rfl
theorem Pm{s:Nat}(M:Nat->Nat->Int){a b:Nat}(ha:a<s)(hb:b<s):dt s (fun x y=>M x (sw a b y))=dt s M\/dt s (fun x y=>M x (sw a b y))=- dt s M:=by
 have h:=HI (fun x y=>M y x) ha hb;rw[Mt M]at h;rw[<-Mt (fun x y=>M x (sw a b y))];exact h
theorem VL{k:Nat}(hk:k<=2)(M:Nat->Nat->Int)(i j:Nat)(hi:k<i)(hj:k<j):mi k M k k*mi k M i j-mi k M i k*mi k M k j=dt k M*mi (k+1) M i j:=by
 have h:k=0\/k=1\/k=2:=om
 rcases h with rfl|rfl|rfl
 ·simp[mi,dt,d2];grind
 ·simp[mi,dt,d2,d3];grind
 ·simp[mi,dt,d2,d3,d4];grind
theorem tr(k:Nat)(M:Nat->Nat->Int):mi k M k k=dt (k+1) M:=by
 unfold mi;refine fv fun x y hx hy=>?_
 have ex:(if x=k then k else x)=x:=by split<;>omega
 have ey:(if y=k then k else y)=y:=by split<;>omega
 rw[ex,ey]
theorem Pn{s k:Nat}(hs:s<=4)(hk:k<s)(M:Nat->Nat->Int)(nz:dt k M≠0)(h:∀i j,k<=i->i<s->k<=j->j<s->mi k M i j=0):dt s M=0:=by
 have D6:k=0\/k=1\/k=2\/k=3:=om
 have qO:s=1\/s=2\/s=3\/s=4:=om
 have mz:∀{a b:Int},a≠0->a*b=0->b=0:=fun ha hb=>(Int.mul_eq_zero.1 hb).resolve_left ha
 rcases D6 with rfl|rfl|rfl|rfl
 ·have h0:∀i j,i<s->j<s->M i j=0:=fun i j hi hj=>by
   have:=h i j om hi om hj;simpa[mi,dt]using this
  have z:=fv (s:=s) (M:=M) (N:=fun _ _=>0) (fun x y hx hy=>h0 x y hx hy);rw[z];rcases qO with rfl|rfl|rfl|rfl<;>simp[dt,d4,d3,d2]
 ·rcases qO with rfl|rfl|rfl|rfl
  ·omega
  ·rw[<-tr];exact h 1 1 om om om om
  ·have a:=h 1 1 om om om om
   have b:=h 1 2 om om om om;refine mz nz ?_;simp[mi,dt,d2]at a b;simp only[dt,d2,d3];grind
  ·have a:=h 1 1 om om om om
   have b:=h 1 2 om om om om;have c:=h 1 3 om om om om;refine mz nz (mz nz ?_);simp[mi,dt,d2]at a b c;simp only[dt,d2,d3,d4];grind
 ·rcases qO with rfl|rfl|rfl|rfl
  ·omega
  ·omega
  ·rw[<-tr];exact h 2 2 om om om om
  ·have a:=h 2 2 om om om om
   have b:=h 2 3 om om om om;refine mz nz ?_;have e:=VL (k:=2) om M 3 3 om om;rw[<-tr 3,<-e,a,b];grind
 ·rcases qO with rfl|rfl|rfl|rfl
  ·omega
  ·omega
  ·omega
  ·rw[<-tr];exact h 3 3 om om om om
theorem jL{a b:Int}{A B:Nat}(ha:a.natAbs<=A)(hb:b.natAbs<=B):(a*b).natAbs<=A*B:=by rw[Int.natAbs_mul];exact Nat.mul_le_mul ha hb
theorem QY{s:Nat}{M:Nat->Nat->Int}(h:∀x y,x<s->y<s->(M x y).natAbs<=9):(dt s M).natAbs<=157464:=by
 have Xu:∀{a b c d:Int},a.natAbs<=9->b.natAbs<=9->c.natAbs<=9->d.natAbs<=9->(d2 a b c d).natAbs<=162:=fun ha hb hc hd=>by
  have:=jL ha hd;have:=jL hb hc;unfold d2;omega
 have VM:∀{a b c d e f g h i:Int},a.natAbs<=9->b.natAbs<=9->c.natAbs<=9->d.natAbs<=9->e.natAbs<=9->f.natAbs<=9->g.natAbs<=9->h.natAbs<=9->i.natAbs<=9->(d3 a b c d e f g h i).natAbs<=4374:=fun ha hb hc hd he hf hg hh hi=>by
  have:=jL ha (Xu he hf hh hi);have:=jL hb (Xu hd hf hg hi);have:=jL hc (Xu hd he hg hh);unfold d3;omega
 match s with
 |0=>show(1:Int).natAbs<=_;decide
 |1=>have:=h 0 0 om om;show(M 0 0).natAbs<=_;omega
 |2=>
  have:=Xu (h 0 0 om om) (h 0 1 om om) (h 1 0 om om) (h 1 1 om om);simp only[dt];omega
 |3=>
  have a0:0<3:=om
  have a1:1<3:=om
  have a2:2<3:=om
  have:=VM (h _ _ a0 a0) (h _ _ a0 a1) (h _ _ a0 a2) (h _ _ a1 a0) (h _ _ a1 a1) (h _ _ a1 a2) (h _ _ a2 a0) (h _ _ a2 a1) (h _ _ a2 a2);simp only[dt];omega
 |4=>
  have a0:0<4:=om
  have a1:1<4:=om
  have a2:2<4:=om
  have a3:3<4:=om
  have m1:=jL (h _ _ a0 a0) (VM (h _ _ a1 a1) (h _ _ a1 a2) (h _ _ a1 a3) (h _ _ a2 a1) (h _ _ a2 a2) (h _ _ a2 a3) (h _ _ a3 a1) (h _ _ a3 a2) (h _ _ a3 a3));have m2:=jL (h _ _ a0 a1) (VM (h _ _ a1 a0) (h _ _ a1 a2) (h _ _ a1 a3) (h _ _ a2 a0) (h _ _ a2 a2) (h _ _ a2 a3) (h _ _ a3 a0) (h _ _ a3 a2) (h _ _ a3 a3));have m3:=jL (h _ _ a0 a2) (VM (h _ _ a1 a0) (h _ _ a1 a1) (h _ _ a1 a3) (h _ _ a2 a0) (h _ _ a2 a1) (h _ _ a2 a3) (h _ _ a3 a0) (h _ _ a3 a1) (h _ _ a3 a3));have m4:=jL (h _ _ a0 a3) (VM (h _ _ a1 a0) (h _ _ a1 a1) (h _ _ a1 a2) (h _ _ a2 a0) (h _ _ a2 a1) (h _ _ a2 a2) (h _ _ a3 a0) (h _ _ a3 a1) (h _ _ a3 a2));simp only[dt,d4];omega
 |s+5=>simp[dt]
structure Au(s:Nat)(P0:Nat->Nat->Int)(k:Nat)(last:Int)(C:Nat->Nat->Int):Prop where
 ex:∃P:Nat->Nat->Int,(∀x y,x<s->y<s->(P x y).natAbs<=9)/\(dt s P).natAbs=(dt s P0).natAbs/\last=dt k P/\last≠0/\∀i j,k<=i->i<s->k<=j->j<s->C i j=mi k P i j
theorem Au.start{s:Nat}{P:Nat->Nat->Int}(h:∀x y,x<s->y<s->(P x y).natAbs<=9):Au s P 0 1 P:=
 ⟨P,h,rfl,rfl,by decide,fun i j _ _ _ _=>by simp[mi,dt]⟩
theorem Au.le{s k:Nat}{P0 C:Nat->Nat->Int}{last:Int}(b:Au s P0 k last C)(hk:k<=s){i j:Nat}(i0:k<=i)(i1:i<s)(j0:k<=j)(j1:j<s):(C i j).natAbs<=157464:=by
 obtain⟨P,h,_,_,_,e⟩:=b.ex;rw[e i j i0 i1 j0 j1];unfold mi;refine QY fun x y hx hy=>?_
 refine h _ _ ?_ ?_<;>split<;>omega
theorem Au.last{s k:Nat}{P0 C:Nat->Nat->Int}{last:Int}(b:Au s P0 k last C)(hk:k<=s):last.natAbs<=157464/\last≠0:=by
 obtain⟨P,h,_,rfl,nz,e⟩:=b.ex;exact⟨QY fun x y hx hy=>h _ _ om om,nz⟩
theorem Au.none{s k:Nat}{P0 C:Nat->Nat->Int}{last:Int}(b:Au s P0 k last C)(hs:s<=4)(hk:k<s)(h:∀i j,k<=i->i<s->k<=j->j<s->C i j=0):(dt s P0).natAbs=0:=by
 obtain⟨P,_,d,rfl,nz,e⟩:=b.ex;rw[<-d,Pn hs hk P nz (fun i j i0 i1 j0 j1=>by rw[<-e i j i0 i1 j0 j1];exact h i j i0 i1 j0 j1)];rfl
theorem Au.fin{s:Nat}{P0 C:Nat->Nat->Int}{last:Int}(b:Au s P0 s last C):last.natAbs=(dt s P0).natAbs:=by
 obtain⟨P,_,d,rfl,_⟩:=b.ex;exact d
theorem D7{s a b x:Nat}(ha:a<s)(hb:b<s)(hx:x<s):sw a b x<s:=by unfold sw;split;exact hb;split;exact ha;exact hx
theorem QZ{k b x:Nat}(hb:k<=b)(hx:k<=x):k<=sw k b x:=by unfold sw;split;exact hb;split<;>omega
theorem BN{k b x:Nat}(hb:k<=b)(hx:x<k):sw k b x=x:=by unfold sw;rw[if_neg om,if_neg om]
theorem Au.swap{s k:Nat}{P0 C:Nat->Nat->Int}{last:Int}(b:Au s P0 k last C){p q:Nat}(hk:k<s)(p0:k<=p)(p1:p<s)(q0:k<=q)(q1:q<s):Au s P0 k last (fun i j=>C (sw k p i) (sw k q j)):=by
 obtain⟨P,h,d,l,nz,e⟩:=b.ex;refine⟨fun i j=>P (sw k p i) (sw k q j),fun x y hx hy=>h _ _ (D7 hk p1 hx) (D7 hk q1 hy),?_,?_,nz,fun i j i0 i1 j0 j1=>?_⟩
 ·have h1:=HI (s:=s) (fun i j=>P i (sw k q j)) hk p1
  have h2:=Pm (s:=s) P hk q1;rw[<-d];rcases h1 with e1|e1<;>rcases h2 with e2|e2<;>rw[e1,e2]<;>omega
 ·rw[l]
  refine fv fun x y hx hy=>?_
  rw[BN p0 hx,BN q0 hy]
 ·show C (sw k p i) (sw k q j)=_
  rw[e _ _ (QZ p0 i0) (D7 hk p1 i1) (QZ q0 j0) (D7 hk q1 j1)];unfold mi;refine fv fun x y hx hy=>?_
  have ex:(if x=k then sw k p i else x)=sw k p (if x=k then i else x):=by
   by_cases c:x=k
   ·rw[if_pos c,if_pos c]
   ·rw[if_neg c,if_neg c,BN p0 om]
  have ey:(if y=k then sw k q j else y)=sw k q (if y=k then j else y):=by
   by_cases c:y=k
   ·rw[if_pos c,if_pos c]
   ·rw[if_neg c,if_neg c,BN q0 om]
  rw[ex,ey]
theorem Au.step{s k:Nat}{P0 C D:Nat->Nat->Int}{last:Int}(b:Au s P0 k last C)(hs:s<=4)(hk:k<s)(nz:C k k≠0)(hD:∀i j,k<i->i<s->k<j->j<s->D i j=(C k k*C i j-C i k*C k j).tdiv last):Au s P0 (k+1) (C k k) D:=by
 obtain⟨P,h,d,l,lz,e⟩:=b.ex;have ek:=e k k om hk om hk;refine⟨P,h,d,?_,nz,fun i j i0 i1 j0 j1=>?_⟩
 ·rw[ek,tr]
 ·rw[hD i j om i1 om j1,ek,e i j om i1 om j1,e i k om i1 om hk,e k j om hk om j1,VL om P i j om om,l,Int.mul_tdiv_cancel_left _ (by rw[<-l];exact lz)]
end Go.Proofs.YtdpbiegfljmhmaaGreat.Ext
namespace Go.Proofs.YtdpbiegfljmhmaaGreat
open Go.cS
set_option maxRecDepth 100000
structure Js(h:af)(es b n c:Nat)(cells:List Value):Prop where
 own:bW h b es cells
 lt:b<h.next
 len:cells.length=n*es
 cap:c=n\/c=aw es n
theorem Js.ext{h h':af}{es b n c:Nat}{cells:List Value}(p:Js h es b n c cells)(e:Ext h h'):Js h' es b n c cells:=⟨p.own.ext e p.lt,Nat.lt_of_lt_of_le p.lt e.next,p.len,p.cap⟩
theorem BO{P:Program}{t t2 e es:Nat}(hT:fZ P t e es)(I2:P.underlying t2=some (.slice e)){h:af}{b n n2 c2:Nat}{a2:Option Addr}{cells news:List Value}(ho:bW h b es cells)(hb:b<h.next)(hl:cells.length=n*es)(hn:n<=1000)(hs:Cells h a2 n2 es news)(fz:cells.all aE=true)(qQ:news.all aE=true)(h0:0<n2)(tV:n2<=1000000) :
  cN P h [t,t2] [.slice (some ⟨b,0,none⟩) n n,.slice a2 n2 c2]=some (.slice (some ⟨h.next,0,none⟩) (n+n2) (aw es (n+n2)),h.push es (cells++news)):=by
 obtain⟨by_,qY,nB⟩:=hT.bytes;obtain⟨z,hz,za⟩:=hT.zero;have sF:=hs.length;have gK:jy P h e es false (.slice a2 n2 c2)=some (n2,news):=(uy.of (P:=P) (e:=e) c2 hs).1;have Iz:cL n=n:=Nat.mod_eq_of_lt (by unfold aR;omega);unfold cN;simp only[hT.ye,hT.size,qY,I2,hz,cT,gK];rw[Iz,fe om];simp only[cond_false];rw[bm (show n+n2<=1073741824 by omega),bm nB,qQ,za,sF];simp only[Bool.and_self,Nat.beq_refl,cond_true];have hr:h.aM ⟨b,0,none⟩ (n*es)=some cells:=by rw[ho.aM om];simp[<-hl]
 simp only[hr];rw[dW (show n<aR by unfold aR;omega),fz];simp only[cond_true]
theorem Gg{P:Program}{t t2 e es:Nat}(hT:fZ P t e es)(I2:P.underlying t2=some (.slice e)){h:af}{b n c n2 c2:Nat}{a2:Option Addr}{cells news:List Value}(hp:Js h es b n c cells)(hn:n<=1000)(hs:Cells h a2 n2 es news)(fz:cells.all aE=true)(qQ:news.all aE=true)(tV:n2<=100000) :
  ∃b' c' h',cN P h [t,t2] [.slice (some ⟨b,0,none⟩) n c,.slice a2 n2 c2]=some (.slice (some ⟨b',0,none⟩) (n+n2) c',h')/\Js h' es b' (n+n2) c' (cells++news)/\h.next<=h'.next/\(b'=b\/h.next<=b')/\(∀j,j<h.next->j≠b->h'.m.get j=h.m.get j)/\(∀h0,Ext h0 h->h0.next<=b->Ext h0 h'/\h0.next<=b'):=by
 have sF:=hs.length;rcases hp.cap with e|e
 ·subst e
  by_cases h2:n2=0
  ·subst h2
   have en:news=[]:=by simpa using sF
   subst en;obtain⟨by_,qY,nB⟩:=hT.bytes;obtain⟨z,hz,za⟩:=hT.zero;have gK:jy P h e es false (.slice a2 0 c2)=some (0,[]):=(uy.of (P:=P) (e:=e) c2 hs).1;have Iz:cL c=c:=Nat.mod_eq_of_lt (by unfold aR;omega);obtain⟨h',hw,mB,o7⟩:=hp.own.write (o:=c*es) (vs:=[]) (by simp[hp.len]);have U3:h.ik (fT ⟨b,0,none⟩ (c*es)) []=some h':=by
    unfold af.ik fT;simp only[List.all_nil,cond_true,Nat.zero_add];exact hw
   refine⟨b,c,h',?_,⟨?_,by rw[o7.next];exact hp.lt,by simpa using hp.len,.inl rfl⟩,by rw[o7.next];exact Nat.le_refl _,.inl rfl,fun j _ j1=>o7.get j j1,fun h0 e0 mL=>⟨o7.ext e0 mL,mL⟩⟩
   ·unfold cN
    simp only[hT.ye,hT.size,qY,I2,hz,cT,gK];rw[Iz,bm (show c+0<=c by omega)];simp only[cond_true,U3]
   ·have:List.take (c*es) cells++([]++List.drop (c*es+([]:List Value).length) cells)=cells++[]:=by
     simp[<-hp.len]
    rw[this]at mB;exact mB
  ·have:=BO hT I2 (c2:=c2) hp.own hp.lt hp.len hn hs fz qQ om om
   refine⟨_,_,_,this,⟨bW.push _ _ _,by simp[af.push],by rw[List.length_append,hp.len,sF,Nat.add_mul],.inr rfl⟩,(Ext.push _ _ _).next,.inr (Nat.le_refl _),fun j j0 _=>(Ext.push _ _ _).get j j0,fun h0 e0 mL=>⟨e0.trans (.push _ _ _),e0.next⟩⟩
 ·obtain⟨b',c',h',h1,⟨o1,o2,o3,o4⟩,h3,h4,h5,h6⟩:=D8 hT I2 (c2:=c2) (show FO h es b n c cells from⟨hp.own,hp.lt,hp.len,.inr e⟩) (uy.of c2 hs) fz qQ om
  exact⟨b',c',h',h1,⟨o1,o2,o3,by rcases o4 with ⟨q1,q2⟩|q;left;omega;exact .inr q⟩,h3,h4,h5,h6⟩
end Go.Proofs.YtdpbiegfljmhmaaGreat
namespace Go.Proofs.YtdpbiegfljmhmaaGreat.Ext
def sg(x:Nat):Int:=if x % 2=0 then 1 else -1
def el(g:List (List Int))(i j:Int):Int:=gt (gt g i) j
def D9(g:List (List Int))(k:Nat)(r c:List Int):Int:=dt k (fun i j=>el g (gt r i) (gt c j))
def ch(n:Nat):Nat->Nat->List (List Int)
 |0,_=>[[]]
 |k+1,f=>(List.range' f (n-f)).flatMap fun i=>(ch n k (i+1)).map (fun l=>(i:Int) :: l)
def bl(n w:Nat):List Int:=((List.range n).filter (fun i=>w.testBit i)).map Int.ofNat
theorem BP(n:Nat):∀(k f:Nat),∀l∈ch n k f,l.length=k:=by
 intro k
 induction k with
 |zero=>intro f l hl;simp[ch]at hl;simp[hl]
 |succ k ih=>
  intro f l hl;simp only[ch,List.mem_flatMap,List.mem_map]at hl;obtain⟨i,_,l',Kk,rfl⟩:=hl;simp[ih _ l' Kk]
theorem Q1(n:Nat):∀(k f:Nat),∀l∈ch n k f,∀x∈l,0<=x/\x<n:=by
 intro k
 induction k with
 |zero=>intro f l hl;simp[ch]at hl;simp[hl]
 |succ k ih=>
  intro f l hl x hx;simp only[ch,List.mem_flatMap,List.mem_map]at hl;obtain⟨i,hi,l',Kk,rfl⟩:=hl;rcases List.mem_cons.1 hx with e|e
  ·have:=List.mem_range'_1.1 hi;omega
  ·exact ih _ l' Kk x e
theorem SE:((List.range 5).all fun n=>(List.range 5).all fun k=>((List.range (2 ^ n)).all fun w=>!((bl n w).length == k) || (ch n k 0).contains (bl n w)) && (ch n k 0).all fun l=>(List.range (2 ^ n)).any fun w=>bl n w == l)=true:=by decide +kernel
theorem Q2(n:Nat)(hn:n<=4)(k:Nat)(hk:k<=4):(∀w,w<2 ^ n->(bl n w).length=k->bl n w∈ch n k 0)/\∀l∈ch n k 0,∃w,w<2 ^ n/\bl n w=l:=by
 have h:=SE;simp only[List.all_eq_true,Bool.and_eq_true]at h;obtain⟨a,b⟩:=h n (List.mem_range.2 om) k (List.mem_range.2 om);refine⟨fun w hw hl=>?_,fun l hl=>?_⟩
 ·have:=a w (List.mem_range.2 hw)
  simpa[hl]using this
 ·obtain⟨w,hw,e⟩:=List.any_eq_true.1 (b l hl)
  exact⟨w,List.mem_range.1 hw,by simpa using e⟩
def VN(g:List (List Int))(m n k G:Nat):Prop:=∀d:Nat,d∣G↔∀r∈ch m k 0,∀c∈ch n k 0,d∣(D9 g k r c).natAbs
theorem VN.uniq{g:List (List Int)}{m n k G H:Nat}(a:VN g m n k G)(b:VN g m n k H):G=H:=
 Nat.dvd_antisymm ((b G).2 ((a G).1 (Nat.dvd_refl G))) ((a H).2 ((b H).1 (Nat.dvd_refl H)))
def Dv(g:List (List Int))(m n k:Nat):Nat:=(ch m k 0).foldl (fun s r=>(ch n k 0).foldl (fun s c=>Nat.gcd s (D9 g k r c).natAbs) s) 0
theorem Mu{α:Type}(f:α->Nat)(l:List α):∀s d:Nat,d∣l.foldl (fun s c=>Nat.gcd s (f c)) s↔d∣s/\∀c∈l,d∣f c:=by
 induction l with
 |nil=>intro s d;simp
 |cons x l ih=>intro s d;rw[List.foldl_cons,ih,Nat.dvd_gcd_iff];simp only[List.mem_cons,forall_eq_or_imp,and_assoc]
theorem Jt{α β:Type}(f:β->α->Nat)(l:List α)(l':List β):∀s d:Nat,d∣l'.foldl (fun s r=>l.foldl (fun s c=>Nat.gcd s (f r c)) s) s↔d∣s/\∀r∈l',∀c∈l,d∣f r c:=by
 induction l' with
 |nil=>intro s d;simp
 |cons x l' ih=>intro s d;rw[List.foldl_cons,ih,Mu];simp only[List.mem_cons,forall_eq_or_imp,and_assoc]
theorem Q3(g:List (List Int))(m n k:Nat):VN g m n k (Dv g m n k):=by
 intro d;unfold Dv;rw[Jt (fun r c=>(D9 g k r c).natAbs)];simp
theorem VO{g:List (List Int)}{m n k G:Nat}(hm:m<=4)(hn:n<=4)(hk:k<=4)(h:∀d:Nat,d∣G↔∀R,R<2 ^ m->(bl m R).length=k->∀C,C<2 ^ n->(bl n C).length=k->d∣(D9 g k (bl m R) (bl n C)).natAbs):G=Dv g m n k:=by
 refine VN.uniq (g:=g) (m:=m) (n:=n) (k:=k) (fun d=>?_) (Q3 g m n k);rw[h d];obtain⟨a1,a2⟩:=Q2 m hm k hk;obtain⟨b1,b2⟩:=Q2 n hn k hk;constructor
 ·intro q r hr c hc
  obtain⟨R,hR,eR⟩:=a2 r hr;obtain⟨C,hC,eC⟩:=b2 c hc;have:=q R hR (by rw[eR];exact BP m k 0 r hr) C hC (by rw[eC];exact BP n k 0 c hc)
  rwa [eR,eC]at this
 ·intro q R hR lR C hC lC
  exact q _ (a1 R hR lR) _ (b1 C hC lC)
theorem Po(g:List (List Int))(m n:Nat):Dv g m n 0=1:=by
 simp[Dv,ch,D9,dt]
theorem SF{a b B:Nat}(ha:a<=B)(hb:b<=B):Nat.gcd a b<=B:=by
 rcases Nat.eq_zero_or_pos a with e|e
 ·rw[e,Nat.gcd_zero_left];exact hb
 ·exact Nat.le_trans (Nat.gcd_le_left b e) ha
theorem ml(n w:Nat):bl (n+1) w=if w.testBit n then bl n w++[(n:Int)] else bl n w:=by
 unfold bl;rw[List.range_succ,List.filter_append,List.map_append];by_cases c:w.testBit n
 ·simp[c]
 ·simp[c]
theorem Mw(n w:Nat):(bl n w).length<=n:=by
 unfold bl;rw[List.length_map];exact Nat.le_trans (List.length_filter_le _ _) (by rw[List.length_range];exact Nat.le_refl _)
theorem HJ:∀n w:Nat,n<=4->w<2 ^ n->(bl 4 w).length=(bl n w).length:=by
 have h:((List.range 5).all fun n=>(List.range (2 ^ n)).all fun w=>(bl 4 w).length == (bl n w).length)=true:=by decide +kernel
 intro n w hn hw;simp only[List.all_eq_true]at h;simpa using h n (List.mem_range.2 om) w (List.mem_range.2 hw)
theorem HK(l:List Int)(x:Int){i:Nat}(h:i<=l.length):gt (l++[x]) (i:Int)=if i<l.length then gt l (i:Int)else x:=by
 unfold gt;rw[List.getD_eq_getElem?_getD,List.getD_eq_getElem?_getD];show(l++[x])[i]?.getD default=_;by_cases c:i<l.length
 ·rw[List.getElem?_append_left c,if_pos c];rfl
 ·rw[if_neg c,show i=l.length by omega,List.getElem?_concat_length];rfl
end Go.Proofs.YtdpbiegfljmhmaaGreat.Ext
namespace Go.Proofs.YtdpbiegfljmhmaaGreat
open Go.cS
set_option maxRecDepth 100000
theorem Rows.lt{α:Type}{enc:α->List Value}{es:Nat}{h:af}{a:Option Addr}{n:Nat}{l:List α}(p:Rows enc es h a n l):∀ad,a=some ad->ad.block<h.next:=fun ad cX=>by
 subst cX;exact p.cells.2.1
theorem Rows.dG{α:Type}{enc:α->List Value}{es:Nat}{h h':af}{a:Option Addr}{n:Nat}{l:List α}(p:Rows enc es h a n l)(hn:h.next<=h'.next)(hk:∀ad,a=some ad->h'.m.get ad.block=h.m.get ad.block):Rows enc es h' a n l:=by
 refine⟨?_,p.each,p.pos⟩;cases a with
 |none=>exact p.cells
 |some ad=>
  obtain⟨h1,h2,h3⟩:=p.cells;refine⟨h1,Nat.lt_of_lt_of_le h2 hn,?_⟩;unfold af.aM af.cells? at h3 ⊢;rw[hk ad rfl];exact h3
def Q4(k:Hd):Prop:=0<k.n->k.c=k.n\/k.c=aw 1 k.n
structure J5(h0 h:af)(a:Option Addr)(N:Nat)(hd:List Hd)(g:List (List Int)):Prop where
 ext:Ext h0 h
 gr:qT nC 1 h a N hd g
 cap:∀y:Int,0<=y->y<N->Q4 (gt hd y)
 fr:ky h0.next a
 Zs:∀y:Int,0<=y->y<N->ky h0.next (gt hd y).a
theorem J5.more{h0 h h':af}{a:Option Addr}{N:Nat}{hd:List Hd}{g:List (List Int)}(t:J5 h0 h a N hd g)(e:Ext h h'):J5 h0 h' a N hd g:=⟨t.ext.trans e,t.gr.ext e,t.cap,t.fr,t.Zs⟩
theorem J5.back{h0 h1 h:af}{a:Option Addr}{N:Nat}{hd:List Hd}{g:List (List Int)}(t:J5 h1 h a N hd g)(e:Ext h0 h1):J5 h0 h a N hd g:=
 ⟨e.trans t.ext,t.gr,t.cap,fun ad cX=>Nat.le_trans e.next (t.fr ad cX),fun y y0 y1 ad cX=>Nat.le_trans e.next (t.Zs y y0 y1 ad cX)⟩
structure BQ(h0 h:af)(a:Option Addr)(N c:Nat)(hd:List Hd)(g:List (List Int)):Prop where
 s:J5 h0 h a N hd g
 pQ:oD h 1 a N c (hd.flatMap Hd.cells)
 G5:∀ad,a=some ad->∀y:Int,0<=y->y<N->∀bd,(gt hd y).a=some bd->bd.block<ad.block
theorem BQ.sep{h0 h:af}{a:Option Addr}{N c:Nat}{hd:List Hd}{g:List (List Int)}(t:BQ h0 h a N c hd g):∀ad,a=some ad->∀y:Int,0<=y->y<N->∀bd,(gt hd y).a=some bd->bd.block≠ad.block:=fun ad cX y y0 y1 bd lV=>Nat.ne_of_lt (t.G5 ad cX y y0 y1 bd lV)
theorem BQ.more{h0 h h':af}{a:Option Addr}{N c:Nat}{hd:List Hd}{g:List (List Int)}(t:BQ h0 h a N c hd g)(e:Ext h h'):BQ h0 h' a N c hd g:=⟨t.s.more e,t.pQ.ext e,t.G5⟩
theorem BQ.nil(h:af):BQ h h none 0 0 [] []:=
 ⟨⟨.refl h,⟨Rows.nil h gJ om,rfl,fun y y0 y1=>om⟩,fun y y0 y1=>om,.none _,fun y y0 y1=>om⟩,.nil _ _,fun ad cX=>by cases cX⟩
theorem wa{α:Type}[Inhabited α](l:List α)(x:α){i:Int}(i0:0<=i)(hi:i<=l.length):gt (l++[x]) i=if i<l.length then gt l i else x:=by
 unfold gt;rw[List.getD_eq_getElem?_getD,List.getD_eq_getElem?_getD];by_cases c:i<l.length
 ·rw[if_pos c,List.getElem?_append_left om]
 ·rw[if_neg c,show i.toNat=l.length by omega,List.getElem?_concat_length];rfl
theorem BQ.add{h0 h h':af}{a:Option Addr}{N c b':Nat}{hd:List Hd}{g:List (List Int)}(t:BQ h0 h a N c hd g){k:Hd}{r:List Int}(row:Rows nC 1 h k.a k.n r)(ck:Q4 k)(fk:ky h0.next k.a)(sk:∀ad,a=some ad->∀bd,k.a=some bd->bd.block≠ad.block)
  (a':oD h' 1 (some ⟨b',0,none⟩) (N+1) (aw 1 (N+1)) ((hd++[k]).flatMap Hd.cells)) (xe:Ext h0 h') (n':h.next<h'.next) (SG:h.next<b') (k':∀i,i<h.next->(∀ad,a=some ad->ad.block≠i)->h'.m.get i=h.m.get i) :
  BQ h0 h' (some ⟨b',0,none⟩) (N+1) (aw 1 (N+1)) (hd++[k]) (g++[r]):=by
 have hl:hd.length=N:=t.s.gr.hd.len;have gl:=t.s.gr.len;have wE:=t.s.ext.next;have eh:∀y:Int,0<=y->y<((N+1:Nat):Int)->gt (hd++[k]) y=if y<N then gt hd y else k:=fun y y0 y1=>by
  rw[wa hd k y0 om,hl]
 have eg:∀y:Int,0<=y->y<((N+1:Nat):Int)->gt (g++[r]) y=if y<N then gt g y else r:=fun y y0 y1=>by
  rw[wa g r y0 om,gl]
 refine⟨⟨xe,⟨⟨a'.cells,gJ,om⟩,by simp[gl],fun y y0 y1=>?_⟩,fun y y0 y1=>?_,fun ad cX=>by cases cX;show h0.next<=b';omega,fun y y0 y1=>?_⟩,a',fun ad cX y y0 y1 bd lV=>?_⟩
 ·rw[eh y y0 y1,eg y y0 y1]
  by_cases c:y<N
  ·rw[if_pos c,if_pos c]
   have q:=t.s.gr.row y y0 c;exact q.dG (Nat.le_of_lt n') (fun bd lV=>k' _ (q.lt bd lV) (fun ad cX=>(t.sep ad cX y y0 c bd lV).symm))
  ·rw[if_neg c,if_neg c]
   exact row.dG (Nat.le_of_lt n') (fun bd lV=>k' _ (row.lt bd lV) (fun ad cX=>(sk ad cX bd lV).symm))
 ·rw[eh y y0 y1]
  by_cases c:y<N
  ·rw[if_pos c];exact t.s.cap y y0 c
  ·rw[if_neg c];exact ck
 ·rw[eh y y0 y1]
  by_cases c:y<N
  ·rw[if_pos c];exact t.s.Zs y y0 c
  ·rw[if_neg c];exact fk
 ·cases cX
  rw[eh y y0 y1]at lV;show bd.block<b';by_cases c:y<N
  ·rw[if_pos c]at lV;have:=(t.s.gr.row y y0 c).lt bd lV;omega
  ·rw[if_neg c]at lV;have:=row.lt bd lV;omega
def N3(s:Nat)(M:Nat->Nat->Int)(p:Nat):Int:=if p=0 then(s:Int)else M ((p-1) / 4) ((p-1) % 4)
structure Sq(h0 h:af)(b s:Nat)(M:Nat->Nat->Int):Prop where
 ext:Ext h0 h
 own:bW h b 17 ((kW (N3 s M) 17).map (.int .i64))
 cJ:h0.next<=b
 lt:b<h.next
section
variable{h0 h:af}{b s:Nat}{M:Nat->Nat->Int}
theorem Sq.more{h':af}(t:Sq h0 h b s M)(e:Ext h h'):Sq h0 h' b s M:=⟨t.ext.trans e,t.own.ext e t.lt,t.cJ,Nat.lt_of_lt_of_le t.lt e.next⟩
theorem Sq.congr{N:Nat->Nat->Int}(t:Sq h0 h b s M)(e:∀i j,i<4->j<4->M i j=N i j):Sq h0 h b s N:=
 ⟨t.ext,by
  have:kW (N3 s N) 17=kW (N3 s M) 17:=hO (fun p hp=>by
   unfold N3;split
   ·rfl
   ·exact(e _ _ om om).symm)
  rw[this];exact t.own,t.cJ,t.lt⟩
theorem Sq.cell(t:Sq h0 h b s M){p:Nat}(hp:p<17):h.aM ⟨b,p,none⟩ 1=some [.int .i64 (N3 s M p)]:=by
 rw[t.own.getInt (by rw[bN];exact hp),List.getD_eq_getElem?_getD,jK _ hp];rfl
theorem Sq.size(t:Sq h0 h b s M):h.aM ⟨b,0+0,none⟩ 1=some [.int .i64 s]:=t.cell (p:=0) om
theorem Sq.el(t:Sq h0 h b s M){i j:Nat}(hi:i<4)(hj:j<4):h.aM ⟨b,0+1+i*4+j*1,none⟩ 1=some [.int .i64 (M i j)]:=by
 rw[t.cell om];unfold N3;rw[if_neg om,show(0+1+i*4+j*1-1) / 4=i by omega,show(0+1+i*4+j*1-1) % 4=j by omega]
theorem Sq.wr{v:Int}{p:Nat}{s':Nat}{N:Nat->Nat->Int}(t:Sq h0 h b s M)(hp:p<17)(e:∀q,q<17->(if q=p then v else N3 s M q)=N3 s' N q):∃h',h.write b p [.int .i64 v]=some h'/\Sq h0 h' b s' N/\j7 h h' b:=by
 obtain⟨h',w1,w2,w3⟩:=t.own.setInt (i:=p) (by rw[bN];exact hp) v;refine⟨h',w1,⟨w3.ext t.ext t.cJ,?_,t.cJ,by rw[w3.next];exact t.lt⟩,w3⟩;rw[v7,hO e]at w2;exact w2
theorem Sq.set(t:Sq h0 h b s M){i j:Nat}(hi:i<4)(hj:j<4)(v:Int):∃h',h.write b (0+1+i*4+j*1) [.int .i64 v]=some h'/\Sq h0 h' b s (th M i j v)/\j7 h h' b:=
 t.wr om (fun q hq=>by
  unfold N3 th;by_cases c:q=0+1+i*4+j*1
  ·rw[if_pos c,if_neg om,if_pos om]
  ·rw[if_neg c]
   by_cases c0:q=0
   ·rw[if_pos c0,if_pos c0]
   ·rw[if_neg c0,if_neg c0,if_neg om])
theorem Sq.grow(t:Sq h0 h b s M){S:Int}(eS:S=(s:Int)+1):∃h',h.write b (0+0) [.int .i64 S]=some h'/\Sq h0 h' b (s+1) M/\j7 h h' b:=
 t.wr om (fun q hq=>by
  unfold N3;by_cases c:q=0+0
  ·rw[if_pos c,if_pos c,eS];rfl
  ·rw[if_neg c,if_neg om,if_neg om])
theorem Sq.row(t:Sq h0 h b s M){i:Nat}(hi:i<4):h.aM ⟨b,0+1+i*4,none⟩ 4=some [.int .i64 (M i 0),.int .i64 (M i 1),.int .i64 (M i 2),.int .i64 (M i 3)]:=by
 rw[t.own.aM (by rw[List.length_map,bN];omega)];have h:i=0\/i=1\/i=2\/i=3:=om
 rcases h with rfl|rfl|rfl|rfl<;>rfl
def SH(M:Nat->Nat->Int)(i:Nat)(w:Nat->Int):Nat->Nat->Int:=fun x y=>if x=i then w y else M x y
theorem Sq.setRow(t:Sq h0 h b s M){i:Nat}(hi:i<4)(w:Nat->Int):∃h',h.write b (0+1+i*4) [.int .i64 (w 0),.int .i64 (w 1),.int .i64 (w 2),.int .i64 (w 3)]=some h'/\Sq h0 h' b s (SH M i w)/\j7 h h' b:=by
 obtain⟨h',w1,w2,w3⟩:=t.own.write (o:=0+1+i*4) (vs:=[.int .i64 (w 0),.int .i64 (w 1),.int .i64 (w 2),.int .i64 (w 3)]) (by rw[List.length_map,bN];show 0+1+i*4+4<=17;omega);refine⟨h',w1,⟨w3.ext t.ext t.cJ,?_,t.cJ,by rw[w3.next];exact t.lt⟩,w3⟩;have h:i=0\/i=1\/i=2\/i=3:=om
 rcases h with rfl|rfl|rfl|rfl<;>exact w2
theorem Sq.new(h:af):Sq h (h.push 17 (List.replicate 17 (.int .i64 0))) h.next 0 (fun _ _=>0):=
 ⟨.push h _ _,bW.push h 17 _,Nat.le_refl _,by simp[af.push]⟩
end
def Av(s:Nat)(C:Nat->Nat->Int)(k:Nat)(last:Int)(i j:Nat):Nat->Nat->Int:=fun x y=>if k<x/\k<y/\y<s/\(x<i\/x=i/\y<j)then(C k k*C x y-C x k*C k y).tdiv last else C x y
theorem Aw(s:Nat)(C:Nat->Nat->Int)(k:Nat)(last:Int)(x y:Nat):Av s C k last (k+1) (k+1) x y=C x y:=by unfold Av;rw[if_neg om]
theorem Pp(s:Nat)(C:Nat->Nat->Int)(k:Nat)(last:Int)(i x y:Nat):Av s C k last i s x y=Av s C k last (i+1) (k+1) x y:=by
 unfold Av;by_cases c:k<x/\k<y/\y<s/\(x<i\/x=i/\y<s)
 ·rw[if_pos c,if_pos om]
 ·rw[if_neg c,if_neg om]
theorem SI:Tryz.prog.eqGuardType Tryz.prog.depth 124=false:=by kernel_rfl
theorem eqP(a b c d:Int):∃r,oM Tryz.prog 30 124 (.agg #[.int .i64 a,.int .i64 b]) (.agg #[.int .i64 c,.int .i64 d])=some r/\(r=true↔a=c/\b=d):=by
 have h3:Tryz.prog.underlying 3=some (.int .i64):=by kernel_rfl
 have h4:Tryz.prog.underlying 124=some (.array 2 3):=by kernel_rfl
 have i3:iE Tryz.prog 3=some false:=by kernel_rfl
 have s3:bS Tryz.prog 3=some 1:=by kernel_rfl
 have e3:∀(n:Nat) (x y:Int),oM Tryz.prog (n+1) 3 (.int .i64 x) (.int .i64 y)=some (x == y):=by
  intro n x y;unfold oM;rw[h3];simp
 have e4:oM Tryz.prog (29+1) 124 (.agg #[.int .i64 a,.int .i64 b]) (.agg #[.int .i64 c,.int .i64 d])=some ((a == c) && (b == d)):=by
  unfold oM;rw[h4];have NV:∀(x y:Int),oM Tryz.prog 29 3 (.int .i64 x) (.int .i64 y)=some (x == y):=e3 28;simp only[s3,List.range,List.range.loop,List.foldr,kB,i3,List.getElem?_cons_zero,List.getElem?_cons_succ,NV,Nat.mul_one];cases a == c<;>cases b == d<;>rfl
 refine⟨_,e4,?_⟩;simp only[Bool.and_eq_true,beq_iff_eq]
variable{F:aZ}{call head arith b0 d0 dH f0 g0 neg imax k0 ofNat l0 place n0 nz o0 rd wr push next r0 u0 v0 w0 z0 d1 f1 g1 l1 part app f2 g2 i2 j2 aG wrote bX lt ne l2 s2 u2 yn b3 c3 f3 g3 bytes j3:_}(hA:AP F ⟨call,head,arith,b0,d0,dH,f0,g0,neg,imax,k0,ofNat,l0,place,n0,nz,o0,rd,wr,push,next,r0,u0,v0,w0,z0,d1,f1,g1,l1,part,app,f2,g2,i2,j2,aG,wrote,bX,lt,ne,l2,s2,u2,yn,b3,c3,f3,g3,bytes,j3⟩)
include hA
theorem yE{h:af}(aq:h.low<=h.next){b o n c:Nat}{l:List Int}(hl:Rows nC 1 h (some ⟨b,o,none⟩) n l)(hn:n<=1000){Q:Value->af->Prop}
  (hQ:∀h' b' c',FO h' 1 b' n c' (l.flatMap nC)->Ext h h'->h.next<=b'->Q (.slice (some ⟨b',0,none⟩) n c') h'):call 48 [.slice (some ⟨b,o,none⟩) n c] h Q:=by
 refine hA.aN Tryz.func48 x48.2 (hA.alike _ _ _ rfl) aq (zc ?_);rw[vd hA,df hA,cM hA];have hp:FO (h.push 1 []) 1 h.next 0 0 []:=⟨bW.push h 1 [],by simp[af.push],rfl,.inl ⟨rfl,rfl⟩⟩;obtain⟨b',c',h',k1,k2,k3⟩:=FQ SD SD.ye (c2:=c) hp (hl.ext (.push h 1 [])).cells rfl (pW Hu l) om;obtain⟨x1,x2⟩:=k3 h (.push h 1 []) (Nat.le_refl _);rw[Nat.zero_add]at k1 k2;refine⟨_,_,_,h',k1,?_⟩;refine zc ?_;exact hQ h' b' c' (by simpa using k2) x1 x2
set_option maxHeartbeats 1000000 in
theorem Mx(hI:rT F){h0:af}(fw:h0.low<=h0.next){sb m n w ac:Nat}{aa:Option Addr}{dA:List Hd}{g:List (List Int)}(hw:w=n+m)(n1:1<=n)(n4:n<=4)(m4:m<=4)(hg:qT nC 1 h0 aa m dA g)(hn:∀y:Int,0<=y->y<m->(gt dA y).n=n)(h9:∀i j,(gt (gt g i) j).natAbs<=9){M:Int}(eM:M=m){Q:Exit->SS->Prop}
  (hQ:∀(h':af) (kn:Nat) (T:List (Nat×List Value)) ra rc bs A,nZ h0 h' sb m m w ra rc bs A->Ext.Ft w m A->Ext.kM w m A (gM g n)->Q (.exit 0) ⟨[(3,.pointer (some ⟨sb,0,none⟩))],kn,T,h'⟩) :
  ∀(d i:Nat) (I:Int) (h:af) (ra:Option Addr) (rc:Nat) (bs:Nat->Nat) (A:Nat->Ext.aQ),m-i<=d->i<=m->I=i->nZ h0 h sb i i w ra rc bs A->Ext.Ft w i A->Ext.kM w i A (gM g n)->
   head 46 3 0 ⟨[(0,.slice aa m ac),(3,.pointer (some ⟨sb,0,none⟩)),(7,.slice aa m ac),(8,.int .i64 M),(9,.int .i64 I)],0,[],h⟩ Q:=by
 refine oG (fun d ih=>?_);intro i I h ra rc bs A hd hi eI t hf hl;by_cases ci:i<m
 rotate_left
 ·refine hA.ar Tryz.func46 x46.2 (zc ?_)
  refine br (I<M) (by rw[aA hA]) (fun q=>om) (fun _=>?_)<;>refine zc ?_;obtain rfl:i=m:=om
  exact hQ h _ _ ra rc bs A t hf hl
 obtain⟨d,rfl⟩:∃k,d=k+1:=⟨d-1,om⟩
 replace ih:=ih d rfl
 have aq:h.low<=h.next:=t.rows.ext.aC fw;have gh:=hg.ext t.rows.ext;obtain⟨ab,ao,rfl,_,q1⟩:=gh.hd.at (i:=I) om om;have q2:=q1 0 1 om om;have row:=gh.row I om om;have rl:=hn I om om;obtain⟨b,o,eb,_⟩:=row.at (i:=0) om (by rw[rl];omega);obtain⟨hc,Zt⟩:∃z,z=(gt dA I).c:=⟨_,rfl⟩;have CA:((gt dA I).cells.drop 0).take 1=[.slice (some ⟨b,o,none⟩) n hc]:=by
  unfold Hd.cells;rw[eb,rl,Zt];rfl
 rw[CA]at q2;have r1:rd h ab (place ao I 1) 1 [.slice (some ⟨b,o,none⟩) n hc]:=aD hA q2;rw[eb,rl]at row;have e1:ofNat m=M:=by rw[eM];exact aI hA m
 obtain⟨N,eN⟩:∃z:Int,z=n:=⟨_,rfl⟩;have e2:ofNat n=N:=by rw[eN];exact aI hA n
 refine hA.ar Tryz.func46 x46.2 (zc ?_);refine br (I<M) (by rw[aA hA]) (fun _=>?_) (fun q=>om)<;>refine zc ?_;refine zq ?_;refine yE hA aq row om (fun h1 b1 c1 o1 x1 lb=>⟨_,_,_,rfl,?_⟩)
 (refine zq ?_;repeat ((first|rw[e1]);refine zq ?_))
 rw[vd hA];obtain⟨k1,k2,k3,k4⟩:=o1;have VP:c1=aw 1 n:=by rcases k4 with ⟨_,q⟩|q;omega;exact q
 have Zu:(gt g I).length=n:=row.len;refine⟨_,_,_,_,by rw[VP];exact zG (m:=m) eM k1 k2 om om om om (pW Hu _),?_⟩;obtain⟨h2,Hz⟩:∃z,z=(h1.kill b1).push 1 ((gt g I).flatMap nC++List.replicate m (Value.int IntKind.i64 0)):=⟨_,rfl⟩;have x2:Ext h h2:=by rw[Hz];exact(x1.kill lb).trans (.push _ _ _)
 have nb0:h.next<=h1.next:=x1.next;have nb1:h1.next<h2.next:=by rw[Hz];exact Nat.lt_succ_self _
 have o2:bW h2 h1.next 1 ((gt g I).flatMap nC++List.replicate m (Value.int IntKind.i64 0)):=by rw[Hz];exact bW.push (h1.kill b1) 1 _
 rw[<-Hz];obtain⟨f,ef⟩:∃z:Nat->Int,z=fun j=>if j<n then gt (gt g I) (j:Int)else 0:=⟨_,rfl⟩
 have ecs:(gt g I).flatMap nC++List.replicate m (Value.int IntKind.i64 0)=(kW f w).flatMap nC:=by
  have e1:List.replicate m (Value.int IntKind.i64 0)=(List.replicate m (0:Int)).flatMap nC:=by
   have:∀k,List.replicate k (Value.int IntKind.i64 0)=(List.replicate k (0:Int)).flatMap nC:=fun k=>by
    induction k with
    |zero=>rfl
    |succ k ih=>rw[List.replicate_succ,List.replicate_succ,List.flatMap_cons,<-ih];rfl
   exact this m
  rw[e1,<-List.flatMap_append]
  congr 1
  apply List.ext_getElem?;intro j;by_cases c:j<w
  ·rw[jK f c,ef]
   by_cases c2:j<n
   ·rw[List.getElem?_append_left om,Pk _ om]
    simp only[if_pos c2]
   ·rw[List.getElem?_append_right om,List.getElem?_replicate,if_pos om]
    simp only[if_neg c2]
  ·rw[List.getElem?_eq_none (by rw[List.length_append,List.length_replicate,Zu];omega),List.getElem?_eq_none (by rw[bN];omega)]
 rw[ecs]at o2;obtain⟨h3,w1,w2,w3⟩:=bW.setRow o2 gV (i:=n+i) (by rw[bN];omega) (1:Int);have x3:Ext h h3:=w3.ext x2 nb0;have e3:(kW f w).set (n+i) 1=kW (gM g n i) w:=by
  rw[v7];refine hO (fun j hj=>?_);unfold gM;rw[ef,<-eI];by_cases c:j=n+i
  ·rw[if_pos c,if_neg om,if_pos c]
  ·rw[if_neg c]
   by_cases c2:j<n
   ·simp only[if_pos c2]
   ·simp only[if_neg c2,if_neg c]
 rw[e3]at w2;have t3:=t.loose x3 w2 nb0 (by rw[w3.next];exact nb1);generalize hnb:h1.next=nb at *;have a3:arith .add .i64 N I=N+I:=aF hA om om;obtain⟨J,eJ⟩:∃z:Int,z=N+I:=⟨_,rfl⟩;rw[<-eJ]at a3;have w1:wr h2 nb (place 0 J 1) [.int .i64 1] h3:=yk hA (by rw[show 0+J.toNat*1=(n+i)*1 by omega];exact w1);obtain⟨cw,pR⟩:∃z,z=aw 1 (n+m):=⟨_,rfl⟩;rw[<-pR];obtain⟨wn,ewn⟩:∃z,z=n+m:=⟨_,rfl⟩;rw[<-ewn]
 (refine zq ?_;repeat ((first|rw[e2]|rw[a3]);refine zq ?_))
 have en:∀z,z<i->Ext.put A i (gM g n i) z=A z:=fun z hz=>Ext.fN _ om
 obtain⟨D,MM,rn⟩:=Ext.EH.start (w:=w) (k:=i) (A:=Ext.put A i (gM g n i)) (F0:=gM g n) (hf.congr en) ((Ext.kM.of_eq en).trans hl) (fun y _ j=>join_le h9 y j) om (Pj g n i w om) (Ext.gf _);obtain⟨bs2,ebs⟩:∃z,z=fun y=>if y=i then nb else bs y:=⟨_,rfl⟩
 rw[<-ebs]at t3;have Xv:nb=bs2 i:=by rw[ebs];simp only[if_true]
 have Zv:wn=w:=om
 rw[Zv,Xv];refine Ss hA hI (sb:=sb) (bs:=bs2) fw om (by rw[pR,hw]) (fun y _ j=>join_le h9 y j) t3 rn (fun h4 TM TN Vp A' t4 sk=>?_);refine zq ?_;rw[aF hA om om];exact ih (i+1) (I+1) h4 TM TN Vp A' om om om t4 sk.O7 sk.Ck
theorem Gh(hI:rT F){h:af}(aq:h.low<=h.next){m n w ac:Nat}{aa:Option Addr}{dA:List Hd}{g:List (List Int)}(hw:w=n+m)(n1:1<=n)(n4:n<=4)(m4:m<=4)(hg:qT nC 1 h aa m dA g)(hn:∀y:Int,0<=y->y<m->(gt dA y).n=n)(h9:∀i j,(gt (gt g i) j).natAbs<=9){Q:Value->af->Prop}
  (hQ:∀h' sb ra rc bs A,nZ h h' sb m m w ra rc bs A->Ext.Ft w m A->Ext.kM w m A (gM g n)->Q (.slice ra m rc) h') :
  call 46 [.slice aa m ac] h Q:=by
 obtain⟨M,eM⟩:∃z:Int,z=m:=⟨_,rfl⟩;have e1:ofNat m=M:=by rw[eM];exact aI hA m
 refine hA.aN Tryz.func46 x46.2 (hA.alike _ _ _ rfl) aq (zc ?_)
 (refine zq ?_;repeat ((first|rw[e1]);refine zq ?_))
 have xp:Ext h (push h 1 [.slice none 0 0]):=by rw[df hA];exact .push _ _ _
 have t0:nZ h (push h 1 [.slice none 0 0]) (next h) 0 0 w none 0 (fun _=>0) (fun _ _=>0):=by
  rw[df hA,cM hA];exact⟨⟨.push _ _ _,fun y hy=>om,fun y hy=>om,fun y hy=>om,fun y z hy=>om⟩,bW.push _ _ _,.nil _ _,Nat.le_refl _,Nat.le_refl _,Nat.lt_succ_self _,.none _,fun y hy=>om,fun ad cX=>by cases cX⟩
 refine Mx hA hI (sb:=next h) aq hw n1 n4 m4 hg hn h9 eM (fun h' kn T ra rc bs A t hf hl=>?_) m 0 0 _ none 0 (fun _=>0) (fun _ _=>0) om om rfl t0 ⟨fun i hi=>om,fun i hi=>om,fun i j hi hj=>om,fun i j hi hj=>om⟩ ⟨fun i hi=>om,fun i hi=>om,1,.inl rfl,fun d J I=>?_⟩
 ·have r1:rd h' (next h) (bX 0 0) 1 [.slice ra m rc]:=by rw[dj hA];exact iS hA (t.own.aM (o:=0) (n:=1) (Nat.le_refl _))
  have hq:=hQ h' (next h) ra rc bs A t hf hl;generalize next h=sb at *;refine zq ?_;exact hq
 ·show Ext.unit I=1*Ext.unit I
  omega
set_option maxHeartbeats 1000000 in
theorem Ea{h0:af}(fw:h0.low<=h0.next){m n w r s rc:Nat}{ra:Option Addr}{bs:Nat->Nat}{A:Nat->Ext.aQ}(hw:w=n+m)(n4:n<=4)(m1:1<=m)(m4:m<=4)(hr:r<=m)(es:r+s=m)(lo:∀y,y<r->Ext.aj w (A y)<n)(hi:∀y,r<=y->y<m->n<=Ext.aj w (A y)){M N:Int}(eM:M=m)(eN:N=n){Q:Exit->SS->Prop}
  (hQ:∀(h':af) (kn:Nat) (T:List (Nat×List Value)) pa pc qa qc rb,dM h0 h' m w bs A->TX h0 h' r w pa pc bs->EK h0 h' s m qa qc rb (fun y j=>A (r+y) (n+j))->(∀ad,pa=some ad->∀y,y<m->ad.block≠bs y)->Q (.exit 0) ⟨[(2,.slice pa r pc),(3,.slice qa s qc)],kn,T,h'⟩) :
  ∀(d i u v:Nat) (I:Int) (h:af) (pa qa:Option Addr) (pc qc:Nat) (rb:Nat->Nat),m-i<=d->i<=m->I=i->u=min i r->v=i-r->EK h0 h m w ra rc bs A->TX h0 h u w pa pc bs->EK h0 h v m qa qc rb (fun y j=>A (r+y) (n+j))->
   (∀ad,pa=some ad->(∀y,y<m->ad.block≠bs y)/\(∀y,y<v->ad.block≠rb y)/\∀bd,qa=some bd->ad.block≠bd.block)->(∀ad,qa=some ad->∀y,y<m->ad.block≠bs y)->
   (∀ad,ra=some ad->(∀bd,pa=some bd->ad.block≠bd.block)/\∀bd,qa=some bd->ad.block≠bd.block)->
   head 29 3 0 ⟨[(2,.slice pa u pc),(3,.slice qa v qc),(4,.int .i64 N),(12,.slice ra m rc),(13,.int .i64 M),(14,.int .i64 I)],0,[],h⟩ Q:=by
 refine oG (fun d ih=>?_);intro i u v I h pa qa pc qc rb hd zZ eI eu ev t p q z1 z2 z5;by_cases ci:i<m
 rotate_left
 ·refine hA.ar Tryz.func29 x29.2 (zc ?_)
  refine br (I<M) (by rw[aA hA]) (fun q=>om) (fun _=>?_)<;>refine zc ?_;obtain rfl:u=r:=om
  obtain rfl:v=s:=om
  exact hQ h _ _ pa pc qa qc rb t.rows p q (fun ad cX=>(z1 ad cX).1)
 obtain⟨d,rfl⟩:∃k,d=k+1:=⟨d-1,om⟩
 replace ih:=ih d rfl
 have aq:h.low<=h.next:=t.rows.ext.aC fw;obtain⟨ab,rfl,QB,q1⟩:=t.head ci;obtain⟨cw,pR⟩:∃z,z=aw 1 w:=⟨_,rfl⟩;rw[<-pR]at q1;have r1:rd h ab (place 0 I 1) 1 [.slice (some ⟨bs i,0,none⟩) w cw]:=aD hA (by rw[eI];exact q1);obtain⟨z6,z7⟩:=z5 _ rfl;refine hA.ar Tryz.func29 x29.2 (zc ?_);refine br (I<M) (by rw[aA hA]) (fun _=>?_) (fun q=>om)<;>refine zc ?_;refine zq ?_;refine qD hA aq om (fun x hx=>t.rows.el ci hx) (fun L eL=>⟨L,rfl,?_⟩);refine zq ?_;refine br (L<N) (by rw[aA hA]) (fun cl=>?_) (fun cl=>?_)<;>refine zc ?_
 ·have hir:i<r:=by
   rcases Nat.lt_or_ge i r with c|c
   ·exact c
   ·have:=hi i c ci;omega
  obtain rfl:u=i:=om
  obtain rfl:v=0:=om
  refine zq ?_;refine we hA Ar gJ om HL (v:=(⟨some ⟨bs u,0,none⟩,w,cw⟩:Hd)) p.pQ om (fun b' h' a' x' n' SG k'=>?_);rw[pR,<-D5]at a';have xe:Ext h0 h':=x' h0 t.rows.ext p.fr;have kr:∀y,y<m->h'.m.get (bs y)=h.m.get (bs y):=fun y hy=>k' _ (t.rows.lt y hy) (fun ad cX=>(z1 ad cX).1 y hy)
  have t2:EK h0 h' m w (some ⟨ab,0,none⟩) rc bs A:=⟨t.rows.dG xe (Nat.le_of_lt n') kr,t.pQ.gH (Nat.le_of_lt n') (fun ad cX hl=>by cases cX;exact k' ab QB (fun ad cX=>(z6 ad cX).symm)),t.fr,t.EI⟩;have q2:EK h0 h' 0 m qa qc rb (fun y j=>A (r+y) (n+j)):=⟨q.rows.dG xe (Nat.le_of_lt n') (fun y hy=>om),q.pQ.gH (Nat.le_of_lt n') (fun ad cX hl=>k' _ hl (fun bd lV=>(z1 bd lV).2.2 ad cX)),q.fr,q.EI⟩;have wE:=t.rows.ext.next;have p2:TX h0 h' (u+1) w (some ⟨b',0,none⟩) (aw 1 (u+1)) bs:=⟨a',fun ad cX=>by cases cX;show h0.next<=b';omega⟩;generalize aw 1 (u+1)=cc at *;obtain⟨u1,eu1⟩:∃z,z=u+1:=⟨_,rfl⟩;rw[<-eu1]at p2 ⊢;refine zq ?_;rw[aF hA om om];refine ih (u+1) u1 0 (I+1) h' (some ⟨b',0,none⟩) qa cc qc rb om om om om om t2 p2 q2 (fun ad cX=>?_) z2 (fun ad cX=>?_)
  ·cases cX
   exact⟨fun y hy=>by have:=t.rows.lt y hy;show b'≠_;omega,fun y hy=>om,fun bd lV=>by have:=q.pQ.lt bd lV;show b'≠_;omega⟩
  ·cases cX
   exact⟨fun bd lV=>by cases lV;show ab≠b';omega,z7⟩
 ·have hir:r<=i:=by
   rcases Nat.lt_or_ge i r with c|c
   ·have:=lo i c;omega
   ·exact c
  obtain rfl:u=r:=om
  refine zq ?_;rw[pR];refine BS hA SD (n:=w) (i:=N) om om om (fun c'=>?_);rw[show 0+N.toNat*1=0+n*1 by omega,show w-N.toNat=m by omega,<-pR];obtain⟨o,eo⟩:∃z,z=0+n*1:=⟨_,rfl⟩;have tl:=t.rows.tail ci hw;rw[<-eo]at tl ⊢;refine zq ?_;refine yE hA aq tl om (fun h1 b1 c1 o1 x1 lb=>⟨_,_,_,rfl,?_⟩);obtain⟨k1,k2,k3,k4⟩:=o1;have VP:c1=aw 1 m:=by rcases k4 with ⟨_,q⟩|q;omega;exact q
  have t1:=t.more x1;have p1:=p.pQ.ext x1;have q1:=q.more x1;have n1:=x1.next;refine zq ?_;refine we hA Ar gJ om HL (v:=(⟨some ⟨b1,0,none⟩,m,c1⟩:Hd)) q1.pQ om (fun b' h' a' x' n' SG k'=>?_);have xe:Ext h0 h':=x' h0 t1.rows.ext q.fr;have wE:=t1.rows.ext.next;have kr:∀y,y<m->h'.m.get (bs y)=h1.m.get (bs y):=fun y hy=>k' _ (t1.rows.lt y hy) (fun ad cX=>z2 ad cX y hy)
  have t2:EK h0 h' m w (some ⟨ab,0,none⟩) rc bs A:=⟨t1.rows.dG xe (Nat.le_of_lt n') kr,t1.pQ.gH (Nat.le_of_lt n') (fun ad cX hl=>by cases cX;exact k' ab om (fun ad cX=>(z7 ad cX).symm)),t.fr,t.EI⟩;have p2:TX h0 h' u w pa pc bs:=⟨p1.gH (Nat.le_of_lt n') (fun ad cX hl=>k' _ hl (fun bd lV=>((z1 ad cX).2.2 bd lV).symm)),p.fr⟩;obtain⟨VQ,erb⟩:∃z,z=fun y=>if y=v then b1 else rb y:=⟨_,rfl⟩
  have Q5:VQ v=b1:=by rw[erb];simp only[if_true]
  have N4:∀y,y<v->VQ y=rb y:=fun y hy=>by rw[erb];simp only[if_neg (show ¬y=v by omega)]
  have ehd:kG rb m v++[(⟨some ⟨b1,0,none⟩,m,c1⟩:Hd)]=kG VQ m (v+1):=by
   rw[D5,Q5,VP]
   congr 1
   exact hO (fun y hy=>by rw[N4 y hy])
  rw[ehd]at a';have dR:=q.rows.lt;have ev2:u+v=i:=om
  have q2:EK h0 h' (v+1) m (some ⟨b',0,none⟩) (aw 1 (v+1)) VQ (fun y j=>A (u+y) (n+j)):=by
   refine⟨⟨xe,fun y hy=>?_,fun y hy=>?_,fun y hy=>?_,fun y z hy hz e=>?_⟩,a',fun ad cX=>by cases cX;show h0.next<=b';omega,fun ad cX y hy=>?_⟩
   ·by_cases c:y=v
    ·rw[c,Q5,ev2];exact k1.gH (k' b1 k2 (fun ad cX=>by have:=q.pQ.lt ad cX;omega))
    ·rw[N4 y om];exact(q1.rows.row y om).gH (k' _ (q1.rows.lt y om) (fun ad cX=>q.EI ad cX y om))
   ·by_cases c:y=v
    ·rw[c,Q5];have:=t.rows.ext.next;omega
    ·rw[N4 y om];exact q.rows.cJ y om
   ·by_cases c:y=v
    ·rw[c,Q5];omega
    ·rw[N4 y om];have:=dR y om;omega
   ·by_cases c:y=v<;>by_cases d:z=v
    ·rw[c,d]
    ·rw[c,Q5,N4 z om]at e;have:=dR z om;omega
    ·rw[d,Q5,N4 y om]at e;have:=dR y om;omega
    ·rw[N4 y om,N4 z om]at e;exact q.rows.inj y z om om e
   ·cases cX
    by_cases c:y=v
    ·rw[c,Q5];show b'≠b1;omega
    ·rw[N4 y om];have:=dR y om;show b'≠_;omega
  have pl:=p.pQ.lt;generalize aw 1 (v+1)=cc at *;obtain⟨v1,ev1⟩:∃z,z=v+1:=⟨_,rfl⟩;rw[<-ev1]at q2 ⊢;refine zq ?_;rw[aF hA om om];refine ih (i+1) u v1 (I+1) h' pa (some ⟨b',0,none⟩) pc cc VQ om om om om om t2 p2 q2 (fun ad cX=>⟨(z1 ad cX).1,fun y hy=>?_,fun bd lV=>?_⟩) (fun ad cX y hy=>?_) (fun ad cX=>?_)
  ·by_cases c:y=v
   ·rw[c,Q5];have:=pl ad cX;omega
   ·rw[N4 y om];exact(z1 ad cX).2.1 y om
  ·cases lV;have:=pl ad cX;show _≠b';omega
  ·cases cX;have:=t1.rows.lt y hy;show b'≠_;omega
  ·cases cX
   exact⟨z6,fun bd lV=>by cases lV;show ab≠b';omega⟩
theorem Ju(hI:rT F){h:af}(aq:h.low<=h.next){m n w ac:Nat}{aa:Option Addr}{dA:List Hd}{g:List (List Int)}(hw:w=n+m)(n1:1<=n)(n4:n<=4)(m1:1<=m)(m4:m<=4)(hg:qT nC 1 h aa m dA g)(hn:∀y:Int,0<=y->y<m->(gt dA y).n=n)(h9:∀i j,(gt (gt g i) j).natAbs<=9){Q:Value->af->Prop}
  (hQ:∀h' r s pa pc qa qc bs rb A,Ext.Ft w m A->Ext.kM w m A (gM g n)->r+s=m->(∀y,y<r->Ext.aj w (A y)<n)->(∀y,r<=y->y<m->n<=Ext.aj w (A y))->dM h h' m w bs A->TX h h' r w pa pc bs->EK h h' s m qa qc rb (fun y j=>A (r+y) (n+j))->(∀ad,pa=some ad->∀y,y<m->ad.block≠bs y)->Q (.tuple #[.slice pa r pc,.slice qa s qc]) h') :
  call 29 [.slice aa m ac] h Q:=by
 obtain⟨ab,ao,rfl,_,q1⟩:=hg.hd.at (i:=0) om om;have q2:=q1 0 1 om om;have row:=hg.row 0 om om;have rl:=hn 0 om om;obtain⟨b,o,eb,_⟩:=row.at (i:=0) om (by rw[rl];omega);obtain⟨hc,Zt⟩:∃z,z=(gt dA 0).c:=⟨_,rfl⟩;have CA:((gt dA 0).cells.drop 0).take 1=[.slice (some ⟨b,o,none⟩) n hc]:=by
  unfold Hd.cells;rw[eb,rl,Zt];rfl
 rw[CA]at q2;have r1:rd h ab (place ao 0 1) 1 [.slice (some ⟨b,o,none⟩) n hc]:=aD hA q2;obtain⟨N,eN⟩:∃z:Int,z=n:=⟨_,rfl⟩;have e2:ofNat n=N:=by rw[eN];exact aI hA n
 obtain⟨M,eM⟩:∃z:Int,z=m:=⟨_,rfl⟩;have e1:ofNat m=M:=by rw[eM];exact aI hA m
 refine hA.aN Tryz.func29 x29.2 (hA.alike _ _ _ rfl) aq (zc ?_)
 (refine zq ?_;repeat ((first|rw[e2]);refine zq ?_))
 refine Gh hA hI aq hw n1 n4 m4 hg hn h9 (fun h1 sb ra rc bs A st hf hl=>?_);obtain⟨r,hr,lo,hi⟩:=hf.gv.parts n;refine⟨_,_,_,rfl,?_⟩
 (refine zq ?_;repeat ((first|rw[e1]);refine zq ?_))
 refine Ea hA (h0:=h) (s:=m-r) aq hw n4 m1 m4 hr om lo hi eM eN (fun h' kn T pa pc qa qc rb x1 x2 x3 x4=>?_) m 0 0 0 0 h1 none none 0 0 (fun _=>0) om om rfl om om st.grd ⟨.nil _ _,.none _⟩ ⟨⟨st.rows.ext,fun y hy=>om,fun y hy=>om,fun y hy=>om,fun y z hy=>om⟩,.nil _ _,.none _,fun ad cX=>by cases cX⟩ (fun ad cX=>by cases cX) (fun ad cX=>by cases cX) (fun ad cX=>⟨(fun bd lV=>by cases lV),(fun bd lV=>by cases lV)⟩);have hq:=hQ h' r (m-r) pa pc qa qc bs rb A hf hl om lo hi x1 x2 x3 x4;generalize m-r=s at *;refine zq ?_;exact hq
theorem Pq{t e es:Nat}(hT:fZ Tryz.prog t e es){h:af}{b n c n2 c2:Nat}{a2:Option Addr}{cells news:List Value}(hp:Js h es b n c cells)(hn:n<=1000)(hs:Cells h a2 n2 es news)(fz:cells.all aE=true)(qQ:news.all aE=true)(tV:n2<=100000){C:Option Addr->Nat->Nat->af->Prop}
  (hC:∀b' c' h',Js h' es b' (n+n2) c' (cells++news)->h.next<=h'.next->(b'=b\/h.next<=b')->(∀j,j<h.next->j≠b->h'.m.get j=h.m.get j)->(∀h0,Ext h0 h->h0.next<=b->Ext h0 h'/\h0.next<=b')->C (some ⟨b',0,none⟩) (n+n2) c' h') :
  app [t,t] [.slice (some ⟨b,0,none⟩) n c,.slice a2 n2 c2] h C:=by
 rw[vd hA];obtain⟨b',c',h',h1,h2,h3,h4,h5,h6⟩:=Gg hT hT.ye (c2:=c2) hp hn hs fz qQ tV;exact⟨_,_,_,h',h1,hC b' c' h' h2 h3 h4 h5 h6⟩
theorem My{h X:af}{b n c nb:Nat}{l:List Int}{v:Int}(hp:Js h 1 b n c (l.flatMap nC))(hn:n<=1000)(eX:X=push h 1 [.int .i64 v])(EL:nb=next h){C:Option Addr->Nat->Nat->af->Prop}
  (hC:∀b' c' h',Js h' 1 b' (n+1) c' ((l++[v]).flatMap nC)->(∀h0,Ext h0 h->h0.next<=b->Ext h0 h'/\h0.next<=b')->(∀j,j<h.next->j≠b->h'.m.get j=h.m.get j)->h.next<=h'.next->C (some ⟨b',0,none⟩) (n+1) c' h') :
  app [28,28] [.slice (some ⟨b,0,none⟩) n c,.slice (some ⟨nb,0,none⟩) 1 1] X C:=by
 rw[df hA]at eX;rw[cM hA]at EL;subst eX EL;have xp:Ext h (h.push 1 [.int .i64 v]):=Ext.push h 1 _;have hs:Cells (h.push 1 [.int .i64 v]) (some ⟨h.next,0,none⟩) 1 1 [.int .i64 v]:=⟨rfl,by simp[af.push],(bW.push h 1 [.int .i64 v]).aM (o:=0) (n:=1*1) (by show 0+1*1<=1;omega)⟩;have dR:=hp.lt;have nx:(h.push 1 [.int .i64 v]).next=h.next+1:=rfl;refine Pq hA SD (hp.ext xp) hn hs (pW Hu l) rfl om (fun b' c' h' k1 k2 k3 k4 k5=>hC b' c' h' ?_ (fun h0 e0 hb=>k5 h0 (e0.trans xp) hb) (fun j j0 j1=>(k4 j om j1).trans (xp.get j j0)) om);rw[List.flatMap_append];exact k1
theorem Jv{h0:af}(g:Nat){Q:Exit->SS->Prop}
  (hQ:∀(a:Int) h',a.natAbs=g->a.natAbs<=9000000000000000000->Ext h0 h'->Q (.exit 0) ⟨[(0,.int .i64 a)],0,[],h'⟩) :
  ∀(d:Nat) (a b:Int) (h:af),b.natAbs<=d->Int.gcd a b=g->a.natAbs<=9000000000000000000->b.natAbs<=9000000000000000000->Ext h0 h->
   head 45 1 0 ⟨[(0,.int .i64 a),(1,.int .i64 b)],0,[],h⟩ Q:=by
 intro d
 induction d with
 |zero=>
  intro a b h hd hg ha hb x;obtain rfl:b=0:=om
  refine hA.ar Tryz.func45 x45.2 (zc ?_);refine br ((0:Int)≠0) (by rw[bT hA]) (fun q=>absurd rfl q) (fun _=>?_)<;>refine zc ?_;exact hQ a h (by rw[<-hg,Int.gcd_zero_right]) ha x
 |succ d ih=>
 intro a b h hd hg ha hb x;by_cases cb:b=0
 ·subst cb
  refine hA.ar Tryz.func45 x45.2 (zc ?_);refine br ((0:Int)≠0) (by rw[bT hA]) (fun q=>absurd rfl q) (fun _=>?_)<;>refine zc ?_;exact hQ a h (by rw[<-hg,Int.gcd_zero_right]) ha x
 obtain⟨r,er⟩:∃z,z=a.tmod b:=⟨_,rfl⟩;have m1:arith .rem .i64 a b=r:=by rw[er,DD hA]
 have lt:r.natAbs<b.natAbs:=by rw[er,Int.natAbs_tmod];exact Nat.mod_lt _ om
 have eg:Int.gcd b r=g:=by
  rw[<-hg,er];show Nat.gcd b.natAbs (a.tmod b).natAbs=Nat.gcd a.natAbs b.natAbs;rw[Int.natAbs_tmod,Nat.gcd_comm a.natAbs,Nat.gcd_comm b.natAbs (a.natAbs % b.natAbs),<-Nat.gcd_rec]
 refine hA.ar Tryz.func45 x45.2 (zc ?_);refine br (b≠0) (by rw[bT hA]) (fun _=>?_) (fun q=>absurd cb q)<;>refine zc ?_
 (refine zq ?_;repeat ((first|rw[m1]);refine zq ?_))
 exact ih b r _ om eg hb om (x.trans (au hA _ _))
theorem HM{h:af}(aq:h.low<=h.next){a b:Int}(ha:a.natAbs<=9000000000000000000)(hb:b.natAbs<=9000000000000000000){Q:Value->af->Prop}(hQ:∀h',Ext h h'->Q (.int .i64 (Int.gcd a b)) h'):call 45 [.int .i64 a,.int .i64 b] h Q:=by
 refine hA.aN Tryz.func45 x45.2 (hA.alike _ _ _ rfl) aq (zc ?_);refine Jv hA (h0:=h) (Int.gcd a b) (fun x h' hx hle x1=>?_) b.natAbs a b h (Nat.le_refl _) rfl ha hb (.refl h);obtain⟨G,eG⟩:∃z:Int,z=Int.gcd a b:=⟨_,rfl⟩;have m1:imax x (neg .i64 x)=G:=by rw[Ly hA,vc hA,wrap64 om om];omega
 have hq:=hQ h' x1;rw[<-eG]at hq
 (refine zq ?_;repeat ((first|rw[m1]);refine zq ?_))
 exact hq
theorem Jw{x:Int}(h0:0<=x)(h1:x<16){h:af}(aq:h.low<=h.next){Q:Value->af->Prop}(hQ:∀v:Int,v=(Ext.bl 4 x.toNat).length->Q (.int .i64 v) h):call 84 [.int .u64 x] h Q:=by
 refine hA.aN Tryz.func84 x84.2 (hA.alike _ _ _ rfl) aq (zc ?_);refine zq ?_;refine hQ _ ?_;simp only[LC hA,LB hA,Hn hA,rO hA];have hx:x=0\/x=1\/x=2\/x=3\/x=4\/x=5\/x=6\/x=7\/x=8\/x=9\/x=10\/x=11\/x=12\/x=13\/x=14\/x=15:=om
 rcases hx with rfl|rfl|rfl|rfl|rfl|rfl|rfl|rfl|rfl|rfl|rfl|rfl|rfl|rfl|rfl|rfl<;>rfl
theorem HN{x:Int}(h0:0<=x)(h1:x<16){h:af}(aq:h.low<=h.next){Q:Value->af->Prop}(hQ:∀v:Int,v=(Ext.bl 4 x.toNat).length->Q (.int .i64 v) h):call 70 [.int .u64 x] h Q:=by
 refine hA.aN Tryz.func70 x70.2 (hA.alike _ _ _ rfl) aq (zc ?_);refine Jw hA h0 h1 aq (fun v ev=>⟨v,rfl,?_⟩);refine zq ?_;exact hQ v ev
theorem js{h0 h:af}{b s:Nat}{M:Nat->Nat->Int}(t:Sq h0 h b s M){S:Int}(eS:S=s):rd h b (bX 0 0) 1 [.int .i64 S]:=OX hA (by rw[eS];exact t.size)
theorem tu{h0 h:af}{b s:Nat}{M:Nat->Nat->Int}(t:Sq h0 h b s M){i j:Nat}(hi:i<4)(hj:j<4){I J v:Int}(eI:I=i)(eJ:J=j)(ev:v=M i j):rd h b (place (place (bX 0 1) I 4) J 1) 1 [.int .i64 v]:=by
 rw[Bv hA,fR hA,fR hA,dj hA,eI,eJ,ev];exact t.el hi hj
theorem Mz{h0 h:af}{b s:Nat}{M:Nat->Nat->Int}(t:Sq h0 h b s M){i:Nat}(hi:i<4){I:Int}(eI:I=i):rd h b (place (bX 0 1) I 4) 4 [.int .i64 (M i 0),.int .i64 (M i 1),.int .i64 (M i 2),.int .i64 (M i 3)]:=by
 rw[Bv hA,fR hA,dj hA,eI];exact t.row hi
theorem BT{h0 h:af}{b s:Nat}{M:Nat->Nat->Int}(t:Sq h0 h b s M){i j:Nat}(hi:i<4)(hj:j<4){I J v:Int}(eI:I=i)(eJ:J=j):∃h',wr h b (place (place (bX 0 1) I 4) J 1) [.int .i64 v] h'/\Sq h0 h' b s (th M i j v)/\j7 h h' b:=by
 obtain⟨h',w1,w2,w3⟩:=t.set hi hj v;refine⟨h',?_,w2,w3⟩;rw[Lx hA,fR hA,fR hA,dj hA,eI,eJ];exact w1
theorem Ax{h0 h:af}{b s:Nat}{M:Nat->Nat->Int}(t:Sq h0 h b s M){i:Nat}(hi:i<4){I:Int}(eI:I=i)(w:Nat->Int){a0 a1 a2 a3:Int}(e0:a0=w 0)(e1:a1=w 1)(e2:a2=w 2)(e3:a3=w 3):∃h',wr h b (place (bX 0 1) I 4) [.int .i64 a0,.int .i64 a1,.int .i64 a2,.int .i64 a3] h'/\Sq h0 h' b s (SH M i w)/\j7 h h' b:=by
 obtain⟨h',w1,w2,w3⟩:=t.setRow hi w;refine⟨h',?_,w2,w3⟩;rw[Lx hA,fR hA,dj hA,eI,e0,e1,e2,e3];exact w1
theorem Pr{h0:af}{b s k i:Nat}{M:Nat->Nat->Int}(hs:s<=4)(hi:i<s){K I S:Int}(eK:K=k)(eI:I=i)(eS:S=s){c0 c1:Int}{Q:Exit->SS->Prop}
  (MA:∀(j:Nat) (J:Int) (h':af),k<=j->j<s->J=j->M i j≠0->Sq h0 h' b s M->Q .ret ⟨[(5,.bool true),(37,.agg #[.int .i64 I,.int .i64 J]),(36,.int .i64 J),(35,.int .i64 I),(4,.pointer (some ⟨0,0,some 0⟩)),(6,.int .i64 I),(7,.int .i64 J)],1,[(0,[.int .i64 I,.int .i64 J]),(0,[.int .i64 c0,.int .i64 c1])],h'⟩)
  (E7:∀(h':af),(∀j,k<=j->j<s->M i j=0)->Sq h0 h' b s M->Q (.exit 2) ⟨[(0,.pointer (some ⟨b,0,none⟩)),(1,.int .i64 K),(4,.pointer (some ⟨0,0,some 0⟩)),(6,.int .i64 I)],1,[(0,[.int .i64 c0,.int .i64 c1])],h'⟩) :
  ∀(d j:Nat) (J:Int) (h:af),s-j<=d->k<=j->j<=s->J=j->(∀x,k<=x->x<j->M i x=0)->Sq h0 h b s M->
   head 87 5 1 ⟨[(0,.pointer (some ⟨b,0,none⟩)),(1,.int .i64 K),(4,.pointer (some ⟨0,0,some 0⟩)),(6,.int .i64 I),(7,.int .i64 J)],1,[(0,[.int .i64 c0,.int .i64 c1])],h⟩ Q:=by
 intro d
 induction d with
 |zero=>
  intro j J h hd kj hj eJ hz t;have r1:=js hA t eS;refine hA.ar Tryz.func87 x87.2 (zc ?_);refine zq ?_;refine br (J<S) (by rw[aA hA]) (fun q=>om) (fun _=>?_)<;>refine zc ?_;exact E7 h (fun x x0 x1=>hz x x0 om) t
 |succ d ih=>
 intro j J h hd kj hj eJ hz t;have r1:=js hA t eS;by_cases cj:j<s
 rotate_left
 ·refine hA.ar Tryz.func87 x87.2 (zc ?_)
  refine zq ?_;refine br (J<S) (by rw[aA hA]) (fun q=>om) (fun _=>?_)<;>refine zc ?_;exact E7 h (fun x x0 x1=>hz x x0 om) t
 obtain⟨v,ev⟩:∃z,z=M i j:=⟨_,rfl⟩;have r2:=tu hA t (i:=i) (j:=j) om om eI eJ ev;refine hA.ar Tryz.func87 x87.2 (zc ?_);refine zq ?_;refine br (J<S) (by rw[aA hA]) (fun _=>?_) (fun q=>om)<;>refine zc ?_;refine zq ?_;refine br (v≠0) (by rw[bT hA]) (fun c=>?_) (fun c=>?_)<;>refine zc ?_
 ·refine zq ?_
  exact MA j J h kj cj eJ (by rw[<-ev];exact c) t
 refine zq ?_;rw[aF hA om om];refine ih (j+1) (J+1) h om om om om (fun x x0 x1=>?_) t;by_cases e:x=j
 ·rw[e,<-ev];omega
 ·exact hz x x0 om
theorem MB{h0:af}{b s k:Nat}{M:Nat->Nat->Int}(hs:s<=4){K S:Int}(eK:K=k)(eS:S=s){c0 c1:Int}{Q:Exit->SS->Prop}
  (MA:∀(i j:Nat) (I J:Int) (h':af),k<=i->i<s->k<=j->j<s->I=i->J=j->M i j≠0->Sq h0 h' b s M->Q .ret ⟨[(5,.bool true),(37,.agg #[.int .i64 I,.int .i64 J]),(36,.int .i64 J),(35,.int .i64 I),(4,.pointer (some ⟨0,0,some 0⟩)),(6,.int .i64 I),(7,.int .i64 J)],1,[(0,[.int .i64 I,.int .i64 J]),(0,[.int .i64 c0,.int .i64 c1])],h'⟩)
  (E7:∀(h':af),(∀i j,k<=i->i<s->k<=j->j<s->M i j=0)->Sq h0 h' b s M->Q (.exit 0) ⟨[(4,.pointer (some ⟨0,0,some 0⟩))],1,[(0,[.int .i64 c0,.int .i64 c1])],h'⟩) :
  ∀(d i:Nat) (I:Int) (h:af),s-i<=d->k<=i->i<=s->I=i->(∀x j,k<=x->x<i->k<=j->j<s->M x j=0)->Sq h0 h b s M->
   head 87 2 1 ⟨[(0,.pointer (some ⟨b,0,none⟩)),(1,.int .i64 K),(4,.pointer (some ⟨0,0,some 0⟩)),(6,.int .i64 I)],1,[(0,[.int .i64 c0,.int .i64 c1])],h⟩ Q:=by
 intro d
 induction d with
 |zero=>
  intro i I h hd ki hi eI hz t;have r1:=js hA t eS;refine hA.ar Tryz.func87 x87.2 (zc ?_);refine zq ?_;refine br (I<S) (by rw[aA hA]) (fun q=>om) (fun _=>?_)<;>refine zc ?_;exact E7 h (fun x j x0 x1=>hz x j x0 om) t
 |succ d ih=>
 intro i I h hd ki hi eI hz t;have r1:=js hA t eS;by_cases ci:i<s
 rotate_left
 ·refine hA.ar Tryz.func87 x87.2 (zc ?_)
  refine zq ?_;refine br (I<S) (by rw[aA hA]) (fun q=>om) (fun _=>?_)<;>refine zc ?_;exact E7 h (fun x j x0 x1=>hz x j x0 om) t
 refine hA.ar Tryz.func87 x87.2 (zc ?_);refine zq ?_;refine br (I<S) (by rw[aA hA]) (fun _=>?_) (fun q=>om)<;>refine zc ?_;refine zq ?_;refine Pr hA hs ci eK eI eS (fun j J h' j0 j1 eJ nz t'=>?_) (fun h' RR t'=>?_) (s-k) k K h om om om eK (fun x x0 x1=>om) t
 ·exact MA i j I J h' ki ci j0 j1 eI eJ nz t'
 refine zq ?_;rw[aF hA om om];refine ih (i+1) (I+1) h' om om om om (fun x j x0 x1 j0 j1=>?_) t';by_cases e:x=i
 ·rw[e];exact RR j j0 j1
 ·exact hz x j x0 om j0 j1
theorem Ps{h0 h:af}(aq:h.low<=h.next){b s k:Nat}{M:Nat->Nat->Int}(t:Sq h0 h b s M)(hs:s<=4)(hk:k<=s){K:Int}(eK:K=k){Q:Value->af->Prop}
  (MA:∀(i j:Nat) (I J:Int) (h':af),k<=i->i<s->k<=j->j<s->I=i->J=j->M i j≠0->Sq h0 h' b s M->Q (.tuple #[.agg #[.int .i64 I,.int .i64 J],.bool true]) h')
  (E7:∀(h':af),(∀i j,k<=i->i<s->k<=j->j<s->M i j=0)->Sq h0 h' b s M->Q (.tuple #[.agg #[.int .i64 0,.int .i64 0],.bool false]) h') :
  call 87 [.pointer (some ⟨b,0,none⟩),.int .i64 K] h Q:=by
 obtain⟨S,eS⟩:∃z:Int,z=s:=⟨_,rfl⟩;refine hA.aN Tryz.func87 x87.2 (hA.alike _ _ _ rfl) aq (zc ?_);refine MB hA (h0:=h0) hs eK eS (fun i j I J h' i0 i1 j0 j1 eI eJ nz t'=>?_) (fun h' hz t'=>?_) (s-k) k K h om om hk eK (fun x j x0 x1=>om) t
 ·refine zq ?_
  exact MA i j I J h' i0 i1 j0 j1 eI eJ nz t'
 ·refine zq ?_
  exact E7 h' hz t'
theorem Eb{h0 h:af}(aq:h.low<=h.next){b s x y:Nat}{M:Nat->Nat->Int}(t:Sq h0 h b s M)(hx:x<4)(hy:y<4){X Y:Int}(eX:X=x)(eY:Y=y){Q:Value->af->Prop}
  (hQ:∀h',Sq h0 h' b s (fun i j=>M (Ext.sw x y i) j)->ke h h' b->Q (.tuple #[]) h') :
  call 85 [.pointer (some ⟨b,0,none⟩),.int .i64 X,.int .i64 Y] h Q:=by
 obtain⟨h9,Ay⟩:∃z,z=aG h 24:=⟨_,rfl⟩;have x9:Ext h h9:=by rw[Ay];exact au hA _ _
 have t9:=t.more x9;have r1:=Mz hA t9 hx eX;have r2:=Mz hA t9 hy eY;obtain⟨x0,ex0⟩:∃z,z=M x 0:=⟨_,rfl⟩;obtain⟨x1,TY⟩:∃z,z=M x 1:=⟨_,rfl⟩;obtain⟨x2,NW⟩:∃z,z=M x 2:=⟨_,rfl⟩;obtain⟨x3,VS⟩:∃z,z=M x 3:=⟨_,rfl⟩;obtain⟨y0,ey0⟩:∃z,z=M y 0:=⟨_,rfl⟩;obtain⟨y1,ey1⟩:∃z,z=M y 1:=⟨_,rfl⟩;obtain⟨y2,SJ⟩:∃z,z=M y 2:=⟨_,rfl⟩;obtain⟨y3,ey3⟩:∃z,z=M y 3:=⟨_,rfl⟩;rw[<-ex0,<-TY,<-NW,<-VS]at r1;rw[<-ey0,<-ey1,<-SJ,<-ey3]at r2;obtain⟨h1,w1,t1,v1⟩:=Ax hA t9 hx eX (M y) ey0 ey1 SJ ey3;obtain⟨h2,w2,t2,v2⟩:=Ax hA t1 hy eY (M x) ex0 TY NW VS;refine hA.aN Tryz.func85 x85.2 (hA.alike _ _ _ rfl) aq (zc ?_);rw[<-Ay];refine zq ?_;refine hQ h2 (t2.congr (fun i j hi hj=>?_)) ((((ke.refl h b).ext x9).wrote v1).wrote v2);unfold SH Ext.sw;by_cases c:i=y
 ·rw[if_pos c]
  by_cases d:i=x
  ·rw[if_pos d,<-c,<-d]
  ·rw[if_neg d,if_pos c]
 ·rw[if_neg c]
  by_cases d:i=x
  ·rw[if_pos d,if_pos d]
  ·rw[if_neg d,if_neg d,if_neg c]
def TZ(M:Nat->Nat->Int)(x y n:Nat):Nat->Nat->Int:=fun i j=>if i<n then M i (Ext.sw x y j)else M i j
theorem zH{h0:af}{b s x y:Nat}{M:Nat->Nat->Int}(hx:x<4)(hy:y<4){X Y:Int}(eX:X=x)(eY:Y=y){Q:Exit->SS->Prop}
  (hQ:∀h',Sq h0 h' b s (fun i j=>M i (Ext.sw x y j))->Q (.exit 0) ⟨[],0,[],h'⟩) :
  ∀(d i:Nat) (I:Int) (h:af),4-i<=d->i<=4->I=i->Sq h0 h b s (TZ M x y i)->
   head 86 1 0 ⟨[(0,.pointer (some ⟨b,0,none⟩)),(1,.int .i64 X),(2,.int .i64 Y),(7,.int .i64 I)],0,[],h⟩ Q:=by
 refine oG (fun d ih=>?_);intro i I h hd hi eI t;by_cases ci:i<4
 rotate_left
 ·refine hA.ar Tryz.func86 FU (zc ?_)
  refine br (I<4) (by rw[aA hA]) (fun q=>om) (fun _=>?_)<;>refine zc ?_;exact hQ h (t.congr (fun i' j zZ hj=>by unfold TZ;rw[if_pos om]))
 obtain⟨d,rfl⟩:∃k,d=k+1:=⟨d-1,om⟩
 replace ih:=ih d rfl
 obtain⟨h9,Ay⟩:∃z,z=aG h 32:=⟨_,rfl⟩;have t9:=t.more (show Ext h h9 by rw[Ay];exact au hA _ _);obtain⟨u,eu⟩:∃z,z=TZ M x y i i x:=⟨_,rfl⟩;obtain⟨v,ev⟩:∃z,z=TZ M x y i i y:=⟨_,rfl⟩;have r1:=tu hA t9 ci hx eI eX eu;have r2:=tu hA t9 ci hy eI eY ev;obtain⟨h1,w1,t1,_⟩:=BT hA t9 ci hx eI eX (v:=v);obtain⟨h2,w2,t2,_⟩:=BT hA t1 ci hy eI eY (v:=u);refine hA.ar Tryz.func86 FU (zc ?_);refine br (I<4) (by rw[aA hA]) (fun _=>?_) (fun q=>om)<;>refine zc ?_;rw[<-Ay];refine zq ?_;rw[aF hA om om];refine ih (i+1) (I+1) h2 om om om (t2.congr (fun i' j zZ hj=>?_));rw[eu,ev];unfold th TZ Ext.sw;by_cases c:i'=i
 ·subst c
  simp only[Nat.lt_irrefl,if_false,true_and,Nat.lt_succ_self,if_true];by_cases c1:j=y
  ·rw[if_pos c1]
   by_cases c2:j=x
   ·rw[if_pos c2,<-c1,<-c2]
   ·rw[if_neg c2,if_pos c1]
  ·rw[if_neg c1]
   by_cases c2:j=x
   ·rw[if_pos c2,if_pos c2]
   ·rw[if_neg c2,if_neg c2,if_neg c1]
 ·rw[if_neg om,if_neg om]
  by_cases c1:i'<i
  ·rw[if_pos c1,if_pos (show i'<i+1 by omega)]
  ·rw[if_neg c1,if_neg (show ¬i'<i+1 by omega)]
theorem Ec{h0 h:af}(aq:h.low<=h.next){b s x y:Nat}{M:Nat->Nat->Int}(t:Sq h0 h b s M)(hx:x<4)(hy:y<4){X Y:Int}(eX:X=x)(eY:Y=y){Q:Value->af->Prop}
  (hQ:∀h',Sq h0 h' b s (fun i j=>M i (Ext.sw x y j))->Q (.tuple #[]) h') :
  call 86 [.pointer (some ⟨b,0,none⟩),.int .i64 X,.int .i64 Y] h Q:=by
 refine hA.aN Tryz.func86 FU (hA.alike _ _ _ rfl) aq (zc ?_);refine zH hA hx hy eX eY (fun h' t'=>?_) 4 0 0 h om om rfl (t.congr (fun i j hi hj=>by unfold TZ;rw[if_neg om]));refine zq ?_;exact hQ h' t'
theorem VT{h0:af}{b s k i:Nat}{C:Nat->Nat->Int}{last:Int}(hs:s<=4)(hk:k<i)(hi:i<s){K I S:Int}(eK:K=k)(eI:I=i)(eS:S=s)(hb:∀x y,k<=x->x<s->k<=y->y<s->(C x y).natAbs<=157464)(lz:last≠0){Q:Exit->SS->Prop}
  (hQ:∀(h':af),Sq h0 h' b s (Av s C k last i s)->Q (.exit 4) ⟨[(0,.pointer (some ⟨b,0,none⟩)),(3,.func (.func 85) #[.pointer (some ⟨b,0,none⟩)] #[]),(4,.func (.func 86) #[.pointer (some ⟨b,0,none⟩)] #[]),(5,.int .i64 last),(6,.int .i64 K),(9,.int .i64 I),(18,.int .i64 S),(19,.int .i64 K)],0,[],h'⟩) :
  ∀(d j:Nat) (J:Int) (h:af),s-j<=d->k<j->j<=s->J=j->Sq h0 h b s (Av s C k last i j)->
   head 72 16 0 ⟨[(0,.pointer (some ⟨b,0,none⟩)),(3,.func (.func 85) #[.pointer (some ⟨b,0,none⟩)] #[]),(4,.func (.func 86) #[.pointer (some ⟨b,0,none⟩)] #[]),(5,.int .i64 last),(6,.int .i64 K),(9,.int .i64 I),(10,.int .i64 J),(18,.int .i64 S),(19,.int .i64 K)],0,[],h⟩ Q:=by
 intro d
 induction d with
 |zero=>
  intro j J h hd kj hj eJ t;have r1:=js hA t eS;refine hA.ar Tryz.func72 nU (zc ?_);refine zq ?_;refine br (J<S) (by rw[aA hA]) (fun q=>om) (fun _=>?_)<;>refine zc ?_;obtain rfl:j=s:=om
  exact hQ h t
 |succ d ih=>
 intro j J h hd kj hj eJ t;have r1:=js hA t eS;by_cases cj:j<s
 rotate_left
 ·refine hA.ar Tryz.func72 nU (zc ?_)
  refine zq ?_;refine br (J<S) (by rw[aA hA]) (fun q=>om) (fun _=>?_)<;>refine zc ?_;obtain rfl:j=s:=om
  exact hQ h t
 obtain⟨h9,Ay⟩:∃z,z=aG h 45:=⟨_,rfl⟩;have t9:=t.more (show Ext h h9 by rw[Ay];exact au hA _ _);obtain⟨p,ep⟩:∃z,z=C k k:=⟨_,rfl⟩;obtain⟨v,ev⟩:∃z,z=C i j:=⟨_,rfl⟩;obtain⟨u,eu⟩:∃z,z=C i k:=⟨_,rfl⟩;obtain⟨w,ew⟩:∃z,z=C k j:=⟨_,rfl⟩;have bp:=hb k k om om om om;have bv:=hb i j om om om om;have bu:=hb i k om om om om;have bw:=hb k j om om om om;rw[<-ep]at bp;rw[<-ev]at bv;rw[<-eu]at bu;rw[<-ew]at bw;have r2:=tu hA t9 (i:=k) (j:=k) om om eK eK (v:=p) (by unfold Av;rw[if_neg om,ep]);have r3:=tu hA t9 (i:=i) (j:=j) om om eI eJ (v:=v) (by unfold Av;rw[if_neg om,ev]);have r4:=tu hA t9 (i:=i) (j:=k) om om eI eK (v:=u) (by unfold Av;rw[if_neg om,eu]);have r5:=tu hA t9 (i:=k) (j:=j) om om eK eJ (v:=w) (by unfold Av;rw[if_neg om,ew]);have b1:=Ext.jL bp bv;have b2:=Ext.jL bu bw;obtain⟨x1,TY⟩:∃z,z=p*v:=⟨_,rfl⟩;obtain⟨x2,NW⟩:∃z,z=u*w:=⟨_,rfl⟩;rw[<-TY]at b1;rw[<-NW]at b2;have m1:arith .mul .i64 p v=x1:=by rw[TY];exact jn hA om om
 have m2:arith .mul .i64 u w=x2:=by rw[NW];exact jn hA om om
 obtain⟨x3,VS⟩:∃z,z=x1-x2:=⟨_,rfl⟩;have m3:arith .sub .i64 x1 x2=x3:=by rw[VS];exact bP hA om om
 obtain⟨g,eg⟩:∃z,z=x3.tdiv last:=⟨_,rfl⟩;have m4:arith .quo .i64 x3 last=g:=by
  rw[Al hA,<-eg];have:=Int.natAbs_tdiv_le_natAbs x3 last;rw[<-eg]at this;exact wrap64 om om
 obtain⟨h2,w1,t2,_⟩:=BT hA t9 (i:=i) (j:=j) om om eI eJ (v:=g);refine hA.ar Tryz.func72 nU (zc ?_);refine zq ?_;refine br (J<S) (by rw[aA hA]) (fun _=>?_) (fun q=>om)<;>refine zc ?_;rw[<-Ay]
 (refine zq ?_;repeat ((first|rw[m1]|rw[m2]|rw[m3]|rw[m4]);refine zq ?_))
 rw[aF hA om om];refine ih (j+1) (J+1) h2 om om om om (t2.congr (fun x y hx hy=>?_));unfold th Av;by_cases c:x=i/\y=j
 ·rw[if_pos c,if_pos om,eg,VS,TY,NW,ep,ev,eu,ew,c.1,c.2]
 ·rw[if_neg c]
  by_cases c2:k<x/\k<y/\y<s/\(x<i\/x=i/\y<j)
  ·rw[if_pos c2,if_pos om]
  ·rw[if_neg c2,if_neg om]
theorem MC{h0:af}{b s k:Nat}{C:Nat->Nat->Int}{last:Int}(hs:s<=4)(hk:k<s){K S:Int}(eK:K=k)(eS:S=s)(hb:∀x y,k<=x->x<s->k<=y->y<s->(C x y).natAbs<=157464)(lz:last≠0){Q:Exit->SS->Prop}
  (hQ:∀(h':af),Sq h0 h' b s (Av s C k last s (k+1))->Q (.exit 2) ⟨[(0,.pointer (some ⟨b,0,none⟩)),(3,.func (.func 85) #[.pointer (some ⟨b,0,none⟩)] #[]),(4,.func (.func 86) #[.pointer (some ⟨b,0,none⟩)] #[]),(6,.int .i64 K),(18,.int .i64 S),(19,.int .i64 K)],0,[],h'⟩) :
  ∀(d i:Nat) (I:Int) (h:af),s-i<=d->k<i->i<=s->I=i->Sq h0 h b s (Av s C k last i (k+1))->
   head 72 13 0 ⟨[(0,.pointer (some ⟨b,0,none⟩)),(3,.func (.func 85) #[.pointer (some ⟨b,0,none⟩)] #[]),(4,.func (.func 86) #[.pointer (some ⟨b,0,none⟩)] #[]),(5,.int .i64 last),(6,.int .i64 K),(9,.int .i64 I),(18,.int .i64 S),(19,.int .i64 K)],0,[],h⟩ Q:=by
 intro d
 induction d with
 |zero=>
  intro i I h hd ki hi eI t;have r1:=js hA t eS;refine hA.ar Tryz.func72 nU (zc ?_);refine zq ?_;refine br (I<S) (by rw[aA hA]) (fun q=>om) (fun _=>?_)<;>refine zc ?_;obtain rfl:i=s:=om
  exact hQ h t
 |succ d ih=>
 intro i I h hd ki hi eI t;have r1:=js hA t eS;by_cases ci:i<s
 rotate_left
 ·refine hA.ar Tryz.func72 nU (zc ?_)
  refine zq ?_;refine br (I<S) (by rw[aA hA]) (fun q=>om) (fun _=>?_)<;>refine zc ?_;obtain rfl:i=s:=om
  exact hQ h t
 refine hA.ar Tryz.func72 nU (zc ?_);refine zq ?_;refine br (I<S) (by rw[aA hA]) (fun _=>?_) (fun q=>om)<;>refine zc ?_;refine zq ?_;rw[aF hA om om];refine VT hA hs ki ci eK eI eS hb lz (fun h' t'=>?_) (s-(k+1)) (k+1) (K+1) h om om om om t;refine zq ?_;rw[aF hA om om];exact ih (i+1) (I+1) h' om om om om (t'.congr (fun x y _ _=>Pp s C k last i x y))
theorem Ed{h0 h' X:af}{b s nb:Nat}{C:Nat->Nat->Int}(t:Sq h0 h' b s C)(eX:X=push h' 2 [.int .i64 0,.int .i64 0])(en:nb=next h')(I J:Int):∃h2,wr X nb 0 [.int .i64 I,.int .i64 J] h2/\Sq h0 h2 b s C/\bW h2 nb 2 [.int .i64 I,.int .i64 J]/\nb<h2.next:=by
 rw[df hA]at eX;rw[cM hA]at en;subst eX en;obtain⟨h2,w1,w2,w3⟩:=(bW.push h' 2 [.int .i64 0,.int .i64 0]).write (o:=0) (vs:=[.int .i64 I,.int .i64 J]) (by show 0+2<=2;omega);have t1:=t.more (Ext.push h' 2 [.int .i64 0,.int .i64 0]);have dR:=t.lt;have n1:h2.next=h'.next+1:=w3.next;refine⟨h2,kF hA w1,⟨w3.ext t1.ext t.ext.next,w3.own t1.own om,t.cJ,om⟩,w2,om⟩
set_option maxHeartbeats 1000000 in
theorem Pu{h0:af}(fw:h0.low<=h0.next){b s:Nat}{P:Nat->Nat->Int}(hs:s<=4){S:Int}(eS:S=s){Q:Exit->SS->Prop}
  (fO:∀h' env kn T,(Ext.dt s P).natAbs=0->Ext h0 h'->Q .ret ⟨(2,.int .i64 0) :: env,kn,T,h'⟩)
  (hQ:∀(h':af) (last:Int),last.natAbs=(Ext.dt s P).natAbs->last.natAbs<=157464->Ext h0 h'->Q (.exit 0) ⟨[(5,.int .i64 last)],0,[],h'⟩) :
  ∀(d k:Nat) (K last:Int) (h:af) (C:Nat->Nat->Int),s-k<=d->k<=s->K=k->Ext.Au s P k last C->Sq h0 h b s C->
   head 72 4 0 ⟨[(0,.pointer (some ⟨b,0,none⟩)),(3,.func (.func 85) #[.pointer (some ⟨b,0,none⟩)] #[]),(4,.func (.func 86) #[.pointer (some ⟨b,0,none⟩)] #[]),(5,.int .i64 last),(18,.int .i64 S),(19,.int .i64 K)],0,[],h⟩ Q:=by
 refine oG (fun d ih=>?_);intro k K last h C hd hk eK B t;by_cases ck:k<s
 rotate_left
 ·refine hA.ar Tryz.func72 nU (zc ?_)
  refine br (K<S) (by rw[aA hA]) (fun q=>om) (fun _=>?_)<;>refine zc ?_;obtain rfl:k=s:=om
  exact hQ h last B.fin (B.last (Nat.le_refl _)).1 t.ext
 obtain⟨d,rfl⟩:∃k,d=k+1:=⟨d-1,om⟩
 replace ih:=ih d rfl
 refine hA.ar Tryz.func72 nU (zc ?_);refine br (K<S) (by rw[aA hA]) (fun _=>?_) (fun q=>om)<;>refine zc ?_;refine zq ?_;refine Ps hA (t.ext.aC fw) t hs hk eK (fun i j I J h' i0 i1 j0 j1 eI eJ nz t'=>⟨_,_,_,rfl,?_⟩) (fun h' hz t'=>⟨_,_,_,rfl,?_⟩)
 ·obtain⟨nb,EL⟩:∃z,z=next h':=⟨_,rfl⟩
  obtain⟨X,eX⟩:∃z,z=push h' 2 [.int .i64 0,.int .i64 0]:=⟨_,rfl⟩;obtain⟨h2,w1,t2,Pv,n2⟩:=Ed hA t' eX EL I J;have r2:=iS hA (Pv.aM (o:=0) (n:=2) (by show 0+2<=2;omega));have r3:rd h2 nb (place 0 0 1) 1 [.int .i64 I]:=aD hA (Pv.aM (o:=0+(0:Int).toNat*1) (n:=1) (by show 0+0*1+1<=2;omega));refine zc ?_;rw[<-eX,<-EL];refine zq ?_;rw[show dH true=false by rw[bZ hA];rfl];refine zq ?_;rw[qB hA];obtain⟨r,er,hr⟩:=eqP I J K K;refine⟨SI,r,er,?_⟩;refine zc ?_;refine br (¬(I=K/\J=K)) (by rw[bZ hA];cases r<;>simp_all) (fun c=>?_) (fun c=>?_)<;>refine zc ?_
  ·refine zq ?_
   refine Eb hA (t2.ext.aC fw) t2 (show k<4 by omega) (show i<4 by omega) eK eI (fun h3 t3 o3=>?_);have Zw:=Pv.gH (o3.get nb n2 (by have:=t'.lt;rw[EL,cM hA];omega));have r4:rd h3 nb (place 0 1 1) 1 [.int .i64 J]:=aD hA (Zw.aM (o:=0+(1:Int).toNat*1) (n:=1) (by show 0+1*1+1<=2;omega));refine zq ?_;refine Ec hA (t3.ext.aC fw) t3 (show k<4 by omega) (show j<4 by omega) eK eJ (fun h4 t4=>?_);obtain⟨C1,SK⟩:∃z:Nat->Nat->Int,z=fun x y=>C (Ext.sw k i x) (Ext.sw k j y):=⟨_,rfl⟩
   have t1:Sq h0 h4 b s C1:=by rw[SK];exact t4
   have B1:Ext.Au s P k last C1:=by rw[SK];exact B.swap ck i0 i1 j0 j1
   have Zx:C1 k k≠0:=by
    rw[SK];show C (Ext.sw k i k) (Ext.sw k j k)≠0;unfold Ext.sw;rw[if_pos rfl,if_pos rfl];exact nz
   refine zq ?_;rw[aF hA om om];refine MC hA hs ck eK eS (fun x y x0 x1 y0 y1=>B1.le hk x0 x1 y0 y1) (B.last hk).2 (fun h5 t5=>?_) (s-(k+1)) (k+1) (K+1) _ om om om om (t1.congr (fun x y _ _=>(Aw s C1 k last x y).symm));obtain⟨p,ep⟩:∃z,z=C1 k k:=⟨_,rfl⟩;have r5:=tu hA t5 (i:=k) (j:=k) om om eK eK (v:=p) (by unfold Av;rw[if_neg om,ep]);have B2:=B1.step hs ck Zx (D:=Av s C1 k last s (k+1)) (fun x y x0 x1 y0 y1=>by unfold Av;rw[if_pos om]);rw[<-ep]at B2;refine zq ?_;rw[aF hA om om];exact ih (k+1) (K+1) p h5 _ om om om B2 t5
  ·obtain⟨C1,SK⟩:∃z:Nat->Nat->Int,z=C:=⟨_,rfl⟩
   have t1:Sq h0 h2 b s C1:=by rw[SK];exact t2
   have B1:Ext.Au s P k last C1:=by rw[SK];exact B
   have Zx:C1 k k≠0:=by
    have:I=K/\J=K:=Classical.byContradiction c;rw[SK];rw[show i=k by omega,show j=k by omega]at nz;exact nz
   refine zq ?_;rw[aF hA om om];refine MC hA hs ck eK eS (fun x y x0 x1 y0 y1=>B1.le hk x0 x1 y0 y1) (B.last hk).2 (fun h5 t5=>?_) (s-(k+1)) (k+1) (K+1) _ om om om om (t1.congr (fun x y _ _=>(Aw s C1 k last x y).symm));obtain⟨p,ep⟩:∃z,z=C1 k k:=⟨_,rfl⟩;have r5:=tu hA t5 (i:=k) (j:=k) om om eK eK (v:=p) (by unfold Av;rw[if_neg om,ep]);have B2:=B1.step hs ck Zx (D:=Av s C1 k last s (k+1)) (fun x y x0 x1 y0 y1=>by unfold Av;rw[if_pos om]);rw[<-ep]at B2;refine zq ?_;rw[aF hA om om];exact ih (k+1) (K+1) p h5 _ om om om B2 t5
 ·obtain⟨nb,EL⟩:∃z,z=next h':=⟨_,rfl⟩
  obtain⟨X,eX⟩:∃z,z=push h' 2 [.int .i64 0,.int .i64 0]:=⟨_,rfl⟩;obtain⟨h2,w1,t2,Pv,n2⟩:=Ed hA t' eX EL 0 0;refine zc ?_;rw[<-eX,<-EL];refine zq ?_;rw[show dH false=true by rw[bZ hA];rfl];refine zq ?_;exact fO h2 _ _ _ (B.none hs ck hz) t2.ext
theorem Gi{h0 h:af}(fw:h0.low<=h0.next){b s:Nat}{M:Nat->Nat->Int}(t:Sq h0 h b s M)(hs:s<=4)(h9:∀i j,i<s->j<s->(M i j).natAbs<=9){Q:Value->af->Prop}
  (hQ:∀(v:Int) h',v=((Ext.dt s M).natAbs:Int)->v<=157464->Ext h0 h'->Q (.int .i64 v) h'):call 72 [.pointer (some ⟨b,0,none⟩)] h Q:=by
 have aq:=t.ext.aC fw;obtain⟨S,eS⟩:∃z:Int,z=s:=⟨_,rfl⟩;have r1:=js hA t eS;refine hA.aN Tryz.func72 nU (hA.alike _ _ _ rfl) aq (zc ?_);refine zq ?_;refine Pu hA fw hs eS (fun h' env kn T z x=>?_) (fun h' last e e2 x=>?_) s 0 0 1 h M om om rfl (Ext.Au.start h9) t
 ·refine zq ?_
  exact hQ 0 h' (by rw[z];rfl) om x
 ·obtain⟨v,ev⟩:∃z:Int,z=(last.natAbs:Int):=⟨_,rfl⟩
  have m1:imax last (neg .i64 last)=v:=by rw[Ly hA,vc hA,wrap64 om om];omega
  (refine zq ?_;repeat ((first|rw[m1]);refine zq ?_))
  exact hQ v h' (by rw[ev,e]) om x
