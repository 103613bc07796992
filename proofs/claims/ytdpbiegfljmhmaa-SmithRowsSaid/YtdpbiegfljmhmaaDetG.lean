import Derived.Test.YtdpbiegfljmhmaaSmS
import Derived.Test.YtdpbiegfljmhmaaSmB
import Derived.Test.YtdpbiegfljmhmaaSmX
import Derived.Test.YtdpbiegfljmhmaaDetF
set_option linter.unusedSimpArgs false
set_option linter.unusedVariables false
namespace Go.Proofs.Ytdpbiegfljmhmaa
open Go.Sim
set_option maxRecDepth 100000
def fD(g:List (List Int))(n:Nat):Nat->Ext.aJ:=fun i j=>if j<n then gt (gt g (i:Int)) (j:Int)else if j=n+i then 1 else 0
theorem IR(g:List (List Int))(n i w:Nat)(hw:n+i<w):∃d J I,(∀x,x<d->J x<w)/\Ext.aX d (Ext.rv (i+1) (fD g n) J) (i+1) I≠0:=by
 refine⟨i+1,fun x=>n+(i-x),Ext.top (i+1),fun x hx=>by show n+(i-x)<w;omega,?_⟩;rw[Ext.dQ (i+1) (V:=Ext.E) (fun y hy x hx=>?_)]
 ·have:=Ext.yL (i+1)
  unfold Ext.Lt at this;rw[this];decide
 ·show fD g n (i+1-1-y) (n+(i-x))=Ext.E y x
  unfold fD Ext.E;rw[if_neg (by omega)];by_cases c:x=y
  ·rw[if_pos (by omega),if_pos c]
  ·rw[if_neg (by omega),if_neg c]
theorem Cv{g:List (List Int)}{n:Nat}(h:∀i j,(gt (gt g i) j).natAbs<=9)(i j:Nat):(fD g n i j).natAbs<=9:=by
 unfold fD;split
 ·exact h _ _
 ·split<;>decide
theorem Hx:dB Try.prog 27 3 1:=⟨by kernel_rfl,by kernel_rfl,⟨8,by kernel_rfl,by omega⟩,⟨.int .i64 0,by kernel_rfl,rfl⟩⟩
theorem zI:fS Try.prog 3=some (.int .i64 0):=by kernel_rfl
theorem vy{h:af}{b n m:Nat}{M:Int}(eM:M=m){cells:List Value}(ho:bG h b 1 cells)(hb:b<h.next)(hl:cells.length=n)(hn:n<=1000)(hm:m<=1000)(m0:0<m)(hok:cells.all aA=true) :
  bO Try.prog h [27,3] [.slice (some ⟨b,0,none⟩) n (ar 1 n),.int .i64 M]=some (.slice (some ⟨h.next,0,none⟩) (n+m) (ar 1 (n+m)),(h.kill b).push 1 (cells++List.replicate m (.int .i64 0))):=by
 subst eM;have hT:=Hx;obtain⟨by_,hby,hby2⟩:=hT.bytes;have hs:n<aI:=by unfold aI;omega
 have hnews:gI Try.prog h 3 1 true (.int .i64 (m:Int))=some (m,List.replicate m (.int .i64 0)):=by
  unfold gI;simp only[zI,hby,cond_true];rw[if_pos ⟨by omega,by omega,hby2,rfl⟩];show some (_,aZ [.int .i64 0] _)=_;rw[oU];rfl
 have hr:h.readG ⟨b,0,none⟩ n=some cells:=by rw[ho.readG (by omega)];simp[<-hl]
 have hall:(List.replicate m (Value.int IntKind.i64 0)).all aA=true:=by simp[aA]
 unfold bO;simp only[hT.und,hT.size,hby,uI,zI,ct,hnews,bM hs];rw[dl (by omega),aS (show n+m<=1073741824 by omega),aS hby2];have hg:h.m.get b=some (.live true 1 cells):=ho;simp only[cond_false,cond_true,hr,hall,hok,bT (cS 1 n),Bool.and_self,Bool.true_and,List.length_replicate,Nat.mul_one,Nat.beq_refl,hg,show(Value.int IntKind.i64 0).cells.toList.length.beq 1=true from rfl]
theorem HC(l:List Int){j:Nat}(h:j<l.length):l[j]?=some (gt l (j:Int)):=by
 unfold gt;rw[List.getD_eq_getElem?_getD,show((j:Int)).toNat=j from rfl,List.getElem?_eq_getElem h];rfl
theorem Ext.Bv.congr{w k:Nat}{F G:Nat->Ext.aJ}(e:∀z,z<k->G z=F z)(h:Ext.Bv w k F):Ext.Bv w k G:=
 ⟨fun i hi=>by rw[e i hi];exact h.lt i hi,fun i hi=>by rw[e i hi];exact h.pos i hi,fun i j hi hj=>by rw[e i (by omega),e j hj];exact h.inc i j hi hj,fun i j hi hj=>by rw[e i (by omega),e j hj];exact h.red i j hi hj⟩
theorem lD.loose{h0 h h3:af}{sb k w rc nb:Nat}{ra:Option Addr}{bs:Nat->Nat}{A:Nat->Ext.aJ}(t:lD h0 h sb k k w ra rc bs A)(x:Ext h h3){v:Ext.aJ}(ho:bG h3 nb 1 ((gn v w).flatMap nC))(hb:h.next<=nb)(hb2:nb<h3.next) :
  lD h0 h3 sb k (k+1) w ra rc (fun y=>if y=k then nb else bs y) (Ext.put A k v):=by
 have t3:=t.more x;have en:∀y,y≠k->(if y=k then nb else bs y)=bs y:=fun y hy=>if_neg hy
 have hd:jc (fun y=>if y=k then nb else bs y) w k=jc bs w k:=di (fun y hy=>by simp only[if_neg (show ¬y=k by omega)]);have hlt:=t.rows.lt;have h0n:=t.rows.ext.next;refine⟨⟨t3.rows.ext,fun y hy=>?_,fun y hy=>?_,fun y hy=>?_,fun y z hy hz e=>?_⟩,t3.own,by rw[hd];exact t3.apd,by omega,t3.s0,t3.s1,t3.fr,fun y hy=>?_,fun ad had=>⟨(t3.nra ad had).1,fun y hy=>?_⟩⟩
 ·by_cases c:y=k
  ·rw[c,if_pos rfl,Ext.eE];exact ho
  ·rw[if_neg c,Ext.dS v c];exact t3.rows.row y (by omega)
 ·by_cases c:y=k
  ·rw[if_pos c];omega
  ·rw[if_neg c];exact t3.rows.old y (by omega)
 ·by_cases c:y=k
  ·rw[if_pos c];exact hb2
  ·rw[if_neg c];exact t3.rows.lt y (by omega)
 ·by_cases c:y=k<;>by_cases d:z=k
  ·rw[c,d]
  ·rw[if_pos c,if_neg d]at e;have:=hlt z (by omega);omega
  ·rw[if_neg c,if_pos d]at e;have:=hlt y (by omega);omega
  ·rw[if_neg c,if_neg d]at e;exact t.rows.inj y z (by omega) (by omega) e
 ·by_cases c:y=k
  ·rw[if_pos c];have:=t.s1;omega
  ·rw[if_neg c];exact t3.nsb y (by omega)
 ·by_cases c:y=k
  ·rw[if_pos c];have:=t.apd.lt ad had;omega
  ·rw[if_neg c];exact(t3.nra ad had).2 y (by omega)
theorem zV{P:Program}{t t2 e es:Nat}(hT:dB P t e es)(ht2:P.underlying t2=some (.slice e)){h:af}{b n2 c2:Nat}{a2:Option Addr}{news:List Value}(ho:bG h b es [])(hb:b<h.next)(hs:cD h a2 n2 es news)(hok2:news.all aA=true)(hbig:n2<=1000000) :
  ∃b' c' h',bO P h [t,t2] [.slice (some ⟨b,0,none⟩) 0 0,.slice a2 n2 c2]=some (.slice (some ⟨b',0,none⟩) n2 c',h')/\bG h' b' es news/\b'<h'.next/\(b'=b\/h.next<=b')/\(∀j,j<h.next->j≠b->h'.m.get j=h.m.get j)/\h.next<=h'.next/\(0<n2->h'.low=h.low)/\(∀h0,Ext h0 h->h0.next<=b->Ext h0 h'/\h0.next<=b'):=by
 obtain⟨by_,hby,hby2⟩:=hT.bytes;obtain⟨z,hz,hz2⟩:=hT.zero;have hnl:=hs.length;have hnews:gI P h e es false (.slice a2 n2 c2)=some (n2,news):=by
  unfold gI;simp only[cond_false];cases a2 with
  |none=>obtain⟨rfl,rfl⟩:=hs;simp
  |some ad=>
   obtain⟨h1,h2,h3⟩:=hs;simp only[h3]
 unfold bO;simp only[hT.und,hT.size,hby,ht2,hz,ct,hnews];have e1:bW 0=0:=rfl;rw[e1];by_cases h0:n2=0
 ·subst h0
  have:news=[]:=by simpa using hnl
  subst this;obtain⟨h',hw,ho',hw2⟩:=ho.write (o:=0) (vs:=[]) (by simp);have hwg:h.writeG (dP ⟨b,0,none⟩ (0*es)) []=some h':=by
   unfold af.writeG dP;simp only[List.all_nil,cond_true,Nat.zero_mul,Nat.add_zero];exact hw
  rw[aS (show 0+0<=0 by omega)];simp only[cond_true,hwg];exact⟨b,0,h',rfl,by simpa using ho',by rw[hw2.next];exact hb,.inl rfl,fun j _ j1=>hw2.get j j1,by rw[hw2.next];exact Nat.le_refl _,(fun q=>absurd q (Nat.lt_irrefl _)),fun h0 e0 hb0=>⟨hw2.ext e0 hb0,hb0⟩⟩
 ·rw[dl (by omega)]
  simp only[cond_false];rw[aS (show 0+n2<=1073741824 by omega),aS hby2,hok2,hz2,hnl];simp only[Bool.and_self,Nat.beq_refl,cond_true];have hr:h.readG ⟨b,0,none⟩ (0*es)=some []:=by rw[ho.readG (by simp)];simp
  simp only[hr];rw[da (show 0<aI by unfold aI;omega)];simp only[cond_true,List.all_nil,List.nil_append,Nat.zero_add];refine⟨_,_,_,rfl,bG.push _ _ _,by simp[af.push],.inr (Nat.le_refl _),fun j j0 _=>(Ext.push _ _ _).get j j0,(Ext.push _ _ _).next,(fun _=>rfl),fun h0 e0 hb0=>⟨e0.trans (.push _ _ _),e0.next⟩⟩
structure CF(h:af)(es b n c:Nat)(cells:List Value):Prop where
 own:bG h b es cells
 lt:b<h.next
 len:cells.length=n*es
 cap:c=n\/c=ar es n
theorem CF.ext{h h':af}{es b n c:Nat}{cells:List Value}(p:CF h es b n c cells)(e:Ext h h'):CF h' es b n c cells:=⟨p.own.ext e p.lt,Nat.lt_of_lt_of_le p.lt e.next,p.len,p.cap⟩
theorem xT{P:Program}{t t2 e es:Nat}(hT:dB P t e es)(ht2:P.underlying t2=some (.slice e)){h:af}{b n n2 c2:Nat}{a2:Option Addr}{cells news:List Value}(ho:bG h b es cells)(hb:b<h.next)(hl:cells.length=n*es)(hn:n<=1000)(hs:cD h a2 n2 es news)(hok:cells.all aA=true)(hok2:news.all aA=true)(h0:0<n2)(hbig:n2<=1000000) :
  bO P h [t,t2] [.slice (some ⟨b,0,none⟩) n n,.slice a2 n2 c2]=some (.slice (some ⟨h.next,0,none⟩) (n+n2) (ar es (n+n2)),h.push es (cells++news)):=by
 obtain⟨by_,hby,hby2⟩:=hT.bytes;obtain⟨z,hz,hz2⟩:=hT.zero;have hnl:=hs.length;have hnews:gI P h e es false (.slice a2 n2 c2)=some (n2,news):=(qY.of (P:=P) (e:=e) c2 hs).1;have hcl:bW n=n:=Nat.mod_eq_of_lt (by unfold aI;omega);unfold bO;simp only[hT.und,hT.size,hby,ht2,hz,ct,hnews];rw[hcl,dl (by omega)];simp only[cond_false];rw[aS (show n+n2<=1073741824 by omega),aS hby2,hok2,hz2,hnl];simp only[Bool.and_self,Nat.beq_refl,cond_true];have hr:h.readG ⟨b,0,none⟩ (n*es)=some cells:=by rw[ho.readG (by omega)];simp[<-hl]
 simp only[hr];rw[da (show n<aI by unfold aI;omega),hok];simp only[cond_true]
theorem Bf{P:Program}{t t2 e es:Nat}(hT:dB P t e es)(ht2:P.underlying t2=some (.slice e)){h:af}{b n c n2 c2:Nat}{a2:Option Addr}{cells news:List Value}(hp:CF h es b n c cells)(hn:n<=1000)(hs:cD h a2 n2 es news)(hok:cells.all aA=true)(hok2:news.all aA=true)(hbig:n2<=100000) :
  ∃b' c' h',bO P h [t,t2] [.slice (some ⟨b,0,none⟩) n c,.slice a2 n2 c2]=some (.slice (some ⟨b',0,none⟩) (n+n2) c',h')/\CF h' es b' (n+n2) c' (cells++news)/\h.next<=h'.next/\(b'=b\/h.next<=b')/\(∀j,j<h.next->j≠b->h'.m.get j=h.m.get j)/\(∀h0,Ext h0 h->h0.next<=b->Ext h0 h'/\h0.next<=b'):=by
 have hnl:=hs.length;rcases hp.cap with e|e
 ·subst e
  by_cases h2:n2=0
  ·subst h2
   have en:news=[]:=by simpa using hnl
   subst en;obtain⟨by_,hby,hby2⟩:=hT.bytes;obtain⟨z,hz,hz2⟩:=hT.zero;have hnews:gI P h e es false (.slice a2 0 c2)=some (0,[]):=(qY.of (P:=P) (e:=e) c2 hs).1;have hcl:bW c=c:=Nat.mod_eq_of_lt (by unfold aI;omega);obtain⟨h',hw,ho',hw2⟩:=hp.own.write (o:=c*es) (vs:=[]) (by simp[hp.len]);have hwg:h.writeG (dP ⟨b,0,none⟩ (c*es)) []=some h':=by
    unfold af.writeG dP;simp only[List.all_nil,cond_true,Nat.zero_add];exact hw
   refine⟨b,c,h',?_,⟨?_,by rw[hw2.next];exact hp.lt,by simpa using hp.len,.inl rfl⟩,by rw[hw2.next];exact Nat.le_refl _,.inl rfl,fun j _ j1=>hw2.get j j1,fun h0 e0 hb0=>⟨hw2.ext e0 hb0,hb0⟩⟩
   ·unfold bO
    simp only[hT.und,hT.size,hby,ht2,hz,ct,hnews];rw[hcl,aS (show c+0<=c by omega)];simp only[cond_true,hwg]
   ·have:List.take (c*es) cells++([]++List.drop (c*es+([]:List Value).length) cells)=cells++[]:=by
     simp[<-hp.len]
    rw[this]at ho';exact ho'
  ·have:=xT hT ht2 (c2:=c2) hp.own hp.lt hp.len hn hs hok hok2 (by omega) (by omega)
   refine⟨_,_,_,this,⟨bG.push _ _ _,by simp[af.push],by rw[List.length_append,hp.len,hnl,Nat.add_mul],.inr rfl⟩,(Ext.push _ _ _).next,.inr (Nat.le_refl _),fun j j0 _=>(Ext.push _ _ _).get j j0,fun h0 e0 hb0=>⟨e0.trans (.push _ _ _),e0.next⟩⟩
 ·obtain⟨b',c',h',h1,⟨o1,o2,o3,o4⟩,h3,h4,h5,h6⟩:=zG hT ht2 (c2:=c2) (show BU h es b n c cells from⟨hp.own,hp.lt,hp.len,.inr e⟩) (qY.of c2 hs) hok hok2 (by omega)
  exact⟨b',c',h',h1,⟨o1,o2,o3,by rcases o4 with ⟨q1,q2⟩|q;left;omega;exact .inr q⟩,h3,h4,h5,h6⟩
structure AA(h0 h:af)(k w:Nat)(a:Option Addr)(c:Nat)(bs:Nat->Nat)(F:Nat->Ext.aJ):Prop where
 rows:dk h0 h k w bs F
 apd:jw h 1 a k c ((jc bs w k).flatMap Hd.cells)
 fr:gf h0.next a
 nra:∀ad,a=some ad->∀y,y<k->ad.block≠bs y
theorem AA.more{h0 h h':af}{k w c:Nat}{a:Option Addr}{bs:Nat->Nat}{F:Nat->Ext.aJ}(t:AA h0 h k w a c bs F)(e:Ext h h'):AA h0 h' k w a c bs F:=⟨t.rows.more e,t.apd.ext e,t.fr,t.nra⟩
theorem AA.head{h0 h:af}{k w c:Nat}{a:Option Addr}{bs:Nat->Nat}{F:Nat->Ext.aJ}(t:AA h0 h k w a c bs F){y:Nat}(hy:y<k):∃b,a=some ⟨b,0,none⟩/\b<h.next/\h.readG ⟨b,0+y*1,none⟩ 1=some [.slice (some ⟨bs y,0,none⟩) w (ar 1 w)]:=by
 rcases t.apd with ⟨_,q,_⟩|⟨b,e,_,hb,hl,ho⟩
 ·omega
 refine⟨b,e,hb,?_⟩;have r:=bG.rows ho dF (by omega) hb;rw[show(jc bs w k).length=k from aL _ _]at r;obtain⟨b',o,e',_,q⟩:=r.at (i:=(y:Int)) (by omega) (by omega);cases e';have:=q 0 1 (by omega) (by omega);unfold jc at this;rw[cO _ hy]at this;exact this
theorem lD.grd{h0 h:af}{sb k n w rc:Nat}{ra:Option Addr}{bs:Nat->Nat}{F:Nat->Ext.aJ}(t:lD h0 h sb k n w ra rc bs F):AA h0 h k w ra rc bs F:=
 ⟨⟨t.rows.ext,fun y hy=>t.rows.row y (by have:=t.kn;omega),fun y hy=>t.rows.old y (by have:=t.kn;omega),fun y hy=>t.rows.lt y (by have:=t.kn;omega),fun y z hy hz=>t.rows.inj y z (by have:=t.kn;omega) (by have:=t.kn;omega)⟩,t.apd,t.fr,fun ad had y hy=>(t.nra ad had).2 y (by have:=t.kn;omega)⟩
structure Kx(h0 h:af)(k w:Nat)(a:Option Addr)(c:Nat)(bs:Nat->Nat):Prop where
 apd:jw h 1 a k c ((jc bs w k).flatMap Hd.cells)
 fr:gf h0.next a
theorem Aw(bs:Nat->Nat)(w k:Nat):jc bs w (k+1)=jc bs w k++[⟨some ⟨bs k,0,none⟩,w,ar 1 w⟩]:=gc _ _
theorem dk.tail{h0 h:af}{k w n m:Nat}{bs:Nat->Nat}{F:Nat->Ext.aJ}(t:dk h0 h k w bs F){y:Nat}(hy:y<k)(hw:w=n+m):Rows nC 1 h (some ⟨bs y,0+n*1,none⟩) m (gn (fun j=>F y (n+j)) m):=by
 have r:=t.rowR hy;refine⟨?_,df,by omega⟩;have:=r.cells.part (i:=n) (m:=m) (by omega);have e:((gn (F y) w).flatMap nC).drop (n*1)=(gn (fun j=>F y (n+j)) m).flatMap nC:=by
  have el:gn (F y) w=gn (F y) n++gn (fun j=>F y (n+j)) m:=by
   apply List.ext_getElem?;intro j;by_cases c:j<w
   ·rw[io _ c]
    by_cases d:j<n
    ·rw[List.getElem?_append_left (by rw[aL];exact d),io _ d]
    ·rw[List.getElem?_append_right (by rw[aL];omega),aL,io _ (by omega),show n+(j-n)=j by omega]
   ·rw[List.getElem?_eq_none (by rw[aL];omega),List.getElem?_eq_none (by rw[List.length_append,aL,aL];omega)]
  rw[el,List.flatMap_append,List.drop_append_of_le_length (by rw[cQ df,aL];omega),List.drop_eq_nil_of_le (by rw[cQ df,aL];omega),List.nil_append]
 rw[e,List.take_of_length_le (by rw[cQ df,aL];omega)]at this;exact this
structure kT(g:List (List Int))(m n:Nat):Prop where
 m1:1<=m
 m4:m<=4
 n1:1<=n
 n4:n<=4
 len:g.length=m
 row:∀i:Int,0<=i->i<m->(gt g i).length=n
 nine:∀i j,(gt (gt g i) j).natAbs<=9
theorem yk{α:Type}[Inhabited α](l:List α){i:Int}(h:¬(0<=i/\i<l.length))(h0:0<=i):gt l i=default:=by
 unfold gt;rw[List.getD_eq_getElem?_getD,List.getElem?_eq_none (by omega)];rfl
theorem aQ.mat{g:List (List Int)}{B:List Fc}(h:aQ g B)(hm:¬BW g):∃m n,kT g m n:=by
 have m1:=h.m1;have n1:=h.n1;have m4:g.length<=4:=Nat.le_of_not_lt (fun q=>hm (.inl q));have n4:(gt g 0).length<=4:=Nat.le_of_not_lt (fun q=>hm (.inr ⟨0,by omega,by omega,q⟩));refine⟨g.length,(gt g 0).length,m1,m4,n1,n4,rfl,h.row,fun i j=>?_⟩;have neg:∀{α:Type} [Inhabited α] (l:List α) (i:Int),i<0->gt l i=gt l 0:=fun l i q=>by unfold gt;rw[show i.toNat=0 by omega];rfl
 have key:∀i j:Int,0<=i->0<=j->(gt (gt g i) j).natAbs<=9:=fun i j i0 j0=>by
  by_cases ci:i<g.length
  ·by_cases cj:j<(gt g i).length
   ·have:=h.coef i i0 ci j j0 cj;omega
   ·rw[yk _ (by omega) j0];decide
  ·rw[yk g (by omega) i0]
   show(gt ([]:List Int) j).natAbs<=9;rw[yk ([]:List Int) (fun q=>by have:=q.2;simp at this;omega) j0];decide
 by_cases ci:0<=i
 ·by_cases cj:0<=j
  ·exact key i j ci cj
  ·rw[neg _ j (by omega)];exact key i 0 ci (by omega)
 ·rw[neg _ i (by omega)]
  by_cases cj:0<=j
  ·exact key 0 j (by omega) cj
  ·rw[neg _ j (by omega)];exact key 0 0 (by omega) (by omega)
structure bA(g:List (List Int))(m n r s:Nat)(A:Nat->Ext.aJ):Prop where
 hnf:Ext.Bv (n+m) m A
 lat:Ext.jj (n+m) m A (fD g n)
 sum:r+s=m
 lo:∀y,y<r->Ext.aj (n+m) (A y)<n
 hi:∀y,r<=y->y<m->n<=Ext.aj (n+m) (A y)
end Go.Proofs.Ytdpbiegfljmhmaa
namespace Go.Proofs.Ytdpbiegfljmhmaa.Ext
structure Pl where
 β:Nat->Nat->Nat
 K:Nat->Nat->Nat
 μ:Nat->Nat->Nat
 U:Nat->Nat
end Go.Proofs.Ytdpbiegfljmhmaa.Ext
namespace Go.Proofs.Ytdpbiegfljmhmaa
open Go.Sim
namespace Ext
def bC:Nat->Nat
 |0=>9|1=>162|2=>52488|_=>157464
def bU:Nat->Nat
 |0=>1|1=>18|2=>5832|_=>157464
def uU:Nat->Nat
 |0=>0|1=>162|2=>8503218|3=>1338959222370|_=>210839243950492050
def P1(n:Nat):Pl:=⟨fun a c=>if c<n then bC a else bU a,fun a c=>if c<n then bC (a+1)else bU (a+1),fun a c=>if c<n then bC (a+1)else bU (a+1),uU⟩
end Ext
namespace Ext
def b2(s b:Nat):Nat->Nat
 |0=>b
 |a+1=>if a+1<s then 2*(b2 s b a*b2 s b a)else b2 s b a
def u2(s b:Nat):Nat->Nat
 |0=>0
 |a+1=>u2 s b a+u2 s b a*b2 s b (a+1)+b2 s b (a+1)
end Ext
namespace Ext
theorem uw(f:Nat->Int)(r:Nat):∀s,aK f (r+s)=aK f r+aK (fun i=>f (r+i)) s
 |0=>by show aK f r=aK f r+0;omega
 |s+1=>by
  show aK f (r+s)+f (r+s)=aK f r+(aK (fun i=>f (r+i)) s+f (r+s));rw[uw f r s];omega
theorem Sp.rest{n m r s:Nat}{F:Nat->aJ}{v:aJ}(hs:r+s=m)(top:mH (n+m) r F)(lead:∀y,y<r->aj (n+m) (F y)<n)(low:∀i c,r<=i->i<m->c<n->F i c=0)(hv:Sp (n+m) m F v)(hz:∀c,c<n->v c=0):Sp m s (fun y j=>F (r+y) (n+j)) (fun j=>v (n+j)):=by
 obtain⟨y,hy⟩:=hv;have z:∀i,i<r->y i=0:=by
  intro i
  induction i using Nat.strongRecOn with
  |_ i ih=>
  intro hi;have p1:=lead i hi;have h1:=hy (aj (n+m) (F i)) (by omega);rw[hz _ p1,Dp (i:=i) m (by omega) (fun k hk=>by rw[ih k hk (by omega)];omega) (fun k h1 h2=>by
   by_cases c:k<r
   ·rw[aW (w:=n+m) (v:=F k) (top.inc i k h1 c)];omega
   ·rw[low k _ (by omega) h2 p1];omega)]at h1
  have h2:=top.pos i hi;rcases Int.mul_eq_zero.1 h1.symm with q|q
  ·exact q
  ·omega
 refine⟨fun i=>y (r+i),fun j hj=>?_⟩;have h1:=hy (n+j) (by omega);rw[<-hs,uw]at h1;rw[aG (g:=fun _=>0) r (fun i hi=>by rw[z i hi];omega),oz,Int.zero_add]at h1;exact h1
end Ext
set_option maxRecDepth 100000
structure AC(g:List (List Int))(n R C i j:Nat)(M:Nat->Nat->Int):Prop where
 up:∀r c,r<(Ext.bl i R).length->c<(Ext.bl n C).length->M r c=Ext.el g (gt (Ext.bl i R) (r:Int)) (gt (Ext.bl n C) (c:Int))
 cur:∀c,c<(Ext.bl j C).length->M (Ext.bl i R).length c=Ext.el g i (gt (Ext.bl j C) (c:Int))
theorem AC.skip{g:List (List Int)}{n R C i j:Nat}{M:Nat->Nat->Int}(t:AC g n R C i j M)(h:C.testBit j=false):AC g n R C i (j+1) M:=by
 refine⟨t.up,fun c hc=>?_⟩;rw[Ext.j6,if_neg (by rw[h];decide)]at hc ⊢;exact t.cur c hc
theorem AC.put{g:List (List Int)}{n R C i j:Nat}{M:Nat->Nat->Int}(t:AC g n R C i j M)(h:C.testBit j=true):AC g n R C i (j+1) (qs M (Ext.bl i R).length (Ext.bl j C).length (Ext.el g i j)):=by
 refine⟨fun r c hr hc=>?_,fun c hc=>?_⟩
 ·unfold qs;rw[if_neg (by omega)];exact t.up r c hr hc
 ·rw[Ext.j6,if_pos h]at hc ⊢
  rw[List.length_append,List.length_singleton]at hc;rw[Ext.CW _ _ (by omega)];unfold qs;by_cases e:c<(Ext.bl j C).length
  ·rw[if_neg (by omega),if_pos e];exact t.cur c e
  ·rw[if_pos (by omega),if_neg e]
theorem AC.next{g:List (List Int)}{n R C i:Nat}{M:Nat->Nat->Int}(t:AC g n R C i n M)(h:R.testBit i=true):AC g n R C (i+1) 0 M:=by
 refine⟨fun r c hr hc=>?_,fun c hc=>absurd hc (by show ¬c<0;omega)⟩;rw[Ext.j6,if_pos h]at hr ⊢;rw[List.length_append,List.length_singleton]at hr;rw[Ext.CW _ _ (by omega)];by_cases e:r<(Ext.bl i R).length
 ·rw[if_pos e];exact t.up r c e hc
 ·rw[if_neg e,show r=(Ext.bl i R).length by omega];exact t.cur c hc
theorem AC.miss{g:List (List Int)}{n R C i:Nat}{M:Nat->Nat->Int}(t:AC g n R C i 0 M)(h:R.testBit i=false):AC g n R C (i+1) 0 M:=by
 refine⟨fun r c hr hc=>?_,fun c hc=>absurd hc (by show ¬c<0;omega)⟩;rw[Ext.j6,if_neg (by rw[h];decide)]at hr ⊢;exact t.up r c hr hc
variable{F:aM}{call head arith a0 b0 c0 d0 f0 neg g0 k0 ofNat l0 place n0 nz o0 rd wr push next p0 q0 r0 u0 v0 w0 z0 d1 f1 part app i1 putAt fresh lowered bump wrote addN lt ne l1 d2 f2 yn g2 i2 j2 l2 bytes m2:_}(hA:AP F ⟨call,head,arith,a0,b0,c0,d0,f0,neg,g0,k0,ofNat,l0,place,n0,nz,o0,rd,wr,push,next,p0,q0,r0,u0,v0,w0,z0,d1,f1,part,app,i1,putAt,fresh,lowered,bump,wrote,addN,lt,ne,l1,d2,f2,yn,g2,i2,j2,l2,bytes,m2⟩)
include hA
theorem uC{h:af}(hlow:h.low<=h.next){b o n c:Nat}{l:List Int}(hl:Rows nC 1 h (some ⟨b,o,none⟩) n l)(hn:n<=1000){Q:Value->af->Prop}
  (hQ:∀h' b' c',BU h' 1 b' n c' (l.flatMap nC)->Ext h h'->h.next<=b'->Q (.slice (some ⟨b',0,none⟩) n c') h'):call 57 [.slice (some ⟨b,o,none⟩) n c] h Q:=by
 refine hA.bodyR Try.func57 r57_ok (hA.alike _ _ _ rfl) hlow (zc ?_);rw[oI hA,cM hA,bV hA];have hp:BU (h.push 1 []) 1 h.next 0 0 []:=⟨bG.push h 1 [],by simp[af.push],rfl,.inl ⟨rfl,rfl⟩⟩;obtain⟨b',c',h',k1,k2,k3⟩:=BE Hx Hx.und (c2:=c) hp (hl.ext (.push h 1 [])).cells rfl (jP uG l) (by omega);obtain⟨x1,x2⟩:=k3 h (.push h 1 []) (Nat.le_refl _);rw[Nat.zero_add]at k1 k2;refine⟨_,_,_,h',k1,?_⟩;refine zc ?_;exact hQ h' b' c' (by simpa using k2) x1 x2
set_option maxHeartbeats 1000000 in
theorem Gb(hI:ph F){h0:af}(hl0:h0.low<=h0.next){sb m n w ac:Nat}{aa:Option Addr}{bY:List Hd}{g:List (List Int)}(hw:w=n+m)(n1:1<=n)(n4:n<=4)(m4:m<=4)(hg:jX nC 1 h0 aa m bY g)(hn:∀y:Int,0<=y->y<m->(gt bY y).n=n)(h9:∀i j,(gt (gt g i) j).natAbs<=9){M:Int}(eM:M=m){Q:Exit->SS->Prop}
  (hQ:∀(h':af) (kn:Nat) (T:List (Nat×List Value)) ra rc bs A,lD h0 h' sb m m w ra rc bs A->Ext.Bv w m A->Ext.jj w m A (fD g n)->Q (.exit 0) ⟨[(3,.pointer (some ⟨sb,0,none⟩))],kn,T,h'⟩) :
  ∀(d i:Nat) (I:Int) (h:af) (ra:Option Addr) (rc:Nat) (bs:Nat->Nat) (A:Nat->Ext.aJ),m-i<=d->i<=m->I=i->lD h0 h sb i i w ra rc bs A->Ext.Bv w i A->Ext.jj w i A (fD g n)->
   head 55 3 0 ⟨[(0,.slice aa m ac),(3,.pointer (some ⟨sb,0,none⟩)),(7,.slice aa m ac),(8,.int .i64 M),(9,.int .i64 I)],0,[],h⟩ Q:=by
 refine oD (fun d ih=>?_);intro i I h ra rc bs A hd hi eI t hf hl;by_cases ci:i<m
 rotate_left
 ·refine hA.roundR Try.func55 r55_ok (zc ?_)
  refine br (I<M) (by rw[au hA]) (fun q=>by omega) (fun _=>?_)<;>refine zc ?_;obtain rfl:i=m:=by omega
  exact hQ h _ _ ra rc bs A t hf hl
 obtain⟨d,rfl⟩:∃k,d=k+1:=⟨d-1,by omega⟩
 replace ih:=ih d rfl
 have hlow:h.low<=h.next:=t.rows.ext.lowOK hl0;have gh:=hg.ext t.rows.ext;obtain⟨ab,ao,rfl,_,q1⟩:=gh.hd.at (i:=I) (by omega) (by omega);have q2:=q1 0 1 (by omega) (by omega);have row:=gh.row I (by omega) (by omega);have rl:=hn I (by omega) (by omega);obtain⟨b,o,eb,_⟩:=row.at (i:=0) (by omega) (by rw[rl];omega);obtain⟨hc,ehc⟩:∃z,z=(gt bY I).c:=⟨_,rfl⟩;have hcell:((gt bY I).cells.drop 0).take 1=[.slice (some ⟨b,o,none⟩) n hc]:=by
  unfold Hd.cells;rw[eb,rl,ehc];rfl
 rw[hcell]at q2;have r1:rd h ab (place ao I 1) 1 [.slice (some ⟨b,o,none⟩) n hc]:=az hA q2;rw[eb,rl]at row;have e1:ofNat m=M:=by rw[eM];exact aF hA m
 obtain⟨N,eN⟩:∃z:Int,z=n:=⟨_,rfl⟩;have e2:ofNat n=N:=by rw[eN];exact aF hA n
 refine hA.roundR Try.func55 r55_ok (zc ?_);refine br (I<M) (by rw[au hA]) (fun _=>?_) (fun q=>by omega)<;>refine zc ?_;refine zq ?_;refine uC hA hlow row (by omega) (fun h1 b1 c1 o1 x1 lb=>⟨_,_,_,rfl,?_⟩)
 (refine zq ?_;repeat ((first|rw[e1]);refine zq ?_))
 rw[oI hA];obtain⟨k1,k2,k3,k4⟩:=o1;have ec1:c1=ar 1 n:=by rcases k4 with ⟨_,q⟩|q;omega;exact q
 have lrow:(gt g I).length=n:=row.len;refine⟨_,_,_,_,by rw[ec1];exact vy (m:=m) eM k1 k2 (by omega) (by omega) (by omega) (by omega) (jP uG _),?_⟩;obtain⟨h2,eh2⟩:∃z,z=(h1.kill b1).push 1 ((gt g I).flatMap nC++List.replicate m (Value.int IntKind.i64 0)):=⟨_,rfl⟩;have x2:Ext h h2:=by rw[eh2];exact(x1.kill lb).trans (.push _ _ _)
 have nb0:h.next<=h1.next:=x1.next;have nb1:h1.next<h2.next:=by rw[eh2];exact Nat.lt_succ_self _
 have o2:bG h2 h1.next 1 ((gt g I).flatMap nC++List.replicate m (Value.int IntKind.i64 0)):=by rw[eh2];exact bG.push (h1.kill b1) 1 _
 rw[<-eh2];obtain⟨f,ef⟩:∃z:Nat->Int,z=fun j=>if j<n then gt (gt g I) (j:Int)else 0:=⟨_,rfl⟩
 have ecs:(gt g I).flatMap nC++List.replicate m (Value.int IntKind.i64 0)=(gn f w).flatMap nC:=by
  have e1:List.replicate m (Value.int IntKind.i64 0)=(List.replicate m (0:Int)).flatMap nC:=by
   have:∀k,List.replicate k (Value.int IntKind.i64 0)=(List.replicate k (0:Int)).flatMap nC:=fun k=>by
    induction k with
    |zero=>rfl
    |succ k ih=>rw[List.replicate_succ,List.replicate_succ,List.flatMap_cons,<-ih];rfl
   exact this m
  rw[e1,<-List.flatMap_append]
  congr 1
  apply List.ext_getElem?;intro j;by_cases c:j<w
  ·rw[io f c,ef]
   by_cases c2:j<n
   ·rw[List.getElem?_append_left (by omega),HC _ (by omega)]
    simp only[if_pos c2]
   ·rw[List.getElem?_append_right (by omega),List.getElem?_replicate,if_pos (by omega)]
    simp only[if_neg c2]
  ·rw[List.getElem?_eq_none (by rw[List.length_append,List.length_replicate,lrow];omega),List.getElem?_eq_none (by rw[aL];omega)]
 rw[ecs]at o2;obtain⟨h3,w1,w2,w3⟩:=bG.setRow o2 df (i:=n+i) (by rw[aL];omega) (1:Int);have x3:Ext h h3:=w3.ext x2 nb0;have e3:(gn f w).set (n+i) 1=gn (fD g n i) w:=by
  rw[pJ];refine di (fun j hj=>?_);unfold fD;rw[ef,<-eI];by_cases c:j=n+i
  ·rw[if_pos c,if_neg (by omega),if_pos c]
  ·rw[if_neg c]
   by_cases c2:j<n
   ·simp only[if_pos c2]
   ·simp only[if_neg c2,if_neg c]
 rw[e3]at w2;have t3:=t.loose x3 w2 nb0 (by rw[w3.next];exact nb1);generalize hnb:h1.next=nb at *;have a3:arith .add .i64 N I=N+I:=aB hA (by omega) (by omega);obtain⟨J,eJ⟩:∃z:Int,z=N+I:=⟨_,rfl⟩;rw[<-eJ]at a3;have w1:wr h2 nb (place 0 J 1) [.int .i64 1] h3:=pZ hA (by rw[show 0+J.toNat*1=(n+i)*1 by omega];exact w1);obtain⟨cw,ecw⟩:∃z,z=ar 1 (n+m):=⟨_,rfl⟩;rw[<-ecw];obtain⟨wn,ewn⟩:∃z,z=n+m:=⟨_,rfl⟩;rw[<-ewn]
 (refine zq ?_;repeat ((first|rw[e2]|rw[a3]);refine zq ?_))
 have en:∀z,z<i->Ext.put A i (fD g n i) z=A z:=fun z hz=>Ext.dS _ (by omega)
 obtain⟨D,MM,rn⟩:=Ext.AD.start (w:=w) (k:=i) (A:=Ext.put A i (fD g n i)) (F0:=fD g n) (hf.congr en) ((Ext.jj.of_eq en).trans hl) (fun y _ j=>Cv h9 y j) (by omega) (IR g n i w (by omega)) (Ext.eE _);obtain⟨bs2,ebs⟩:∃z,z=fun y=>if y=i then nb else bs y:=⟨_,rfl⟩
 rw[<-ebs]at t3;have eb2:nb=bs2 i:=by rw[ebs];simp only[if_true]
 have ewn':wn=w:=by omega
 rw[ewn',eb2];refine JK hA hI (sb:=sb) (bs:=bs2) hl0 (by omega) (by rw[ecw,hw]) (fun y _ j=>Cv h9 y j) t3 rn (fun h4 ra' rc' bs' A' t4 sk=>?_);refine zq ?_;rw[aB hA (by omega) (by omega)];exact ih (i+1) (I+1) h4 ra' rc' bs' A' (by omega) (by omega) (by omega) t4 sk.hnf sk.lat
theorem BH(hI:ph F){h:af}(hlow:h.low<=h.next){m n w ac:Nat}{aa:Option Addr}{bY:List Hd}{g:List (List Int)}(hw:w=n+m)(n1:1<=n)(n4:n<=4)(m4:m<=4)(hg:jX nC 1 h aa m bY g)(hn:∀y:Int,0<=y->y<m->(gt bY y).n=n)(h9:∀i j,(gt (gt g i) j).natAbs<=9){Q:Value->af->Prop}
  (hQ:∀h' sb ra rc bs A,lD h h' sb m m w ra rc bs A->Ext.Bv w m A->Ext.jj w m A (fD g n)->Q (.slice ra m rc) h') :
  call 55 [.slice aa m ac] h Q:=by
 obtain⟨M,eM⟩:∃z:Int,z=m:=⟨_,rfl⟩;have e1:ofNat m=M:=by rw[eM];exact aF hA m
 refine hA.bodyR Try.func55 r55_ok (hA.alike _ _ _ rfl) hlow (zc ?_)
 (refine zq ?_;repeat ((first|rw[e1]);refine zq ?_))
 have xp:Ext h (push h 1 [.slice none 0 0]):=by rw[cM hA];exact .push _ _ _
 have t0:lD h (push h 1 [.slice none 0 0]) (next h) 0 0 w none 0 (fun _=>0) (fun _ _=>0):=by
  rw[cM hA,bV hA];exact⟨⟨.push _ _ _,fun y hy=>by omega,fun y hy=>by omega,fun y hy=>by omega,fun y z hy=>by omega⟩,bG.push _ _ _,.nil _ _,Nat.le_refl _,Nat.le_refl _,Nat.lt_succ_self _,.none _,fun y hy=>by omega,fun ad had=>by cases had⟩
 refine Gb hA hI (sb:=next h) hlow hw n1 n4 m4 hg hn h9 eM (fun h' kn T ra rc bs A t hf hl=>?_) m 0 0 _ none 0 (fun _=>0) (fun _ _=>0) (by omega) (by omega) rfl t0 ⟨fun i hi=>by omega,fun i hi=>by omega,fun i j hi hj=>by omega,fun i j hi hj=>by omega⟩ ⟨fun i hi=>by omega,fun i hi=>by omega,1,.inl rfl,fun d J I=>?_⟩
 ·have r1:rd h' (next h) (addN 0 0) 1 [.slice ra m rc]:=by rw[cB hA];exact gP hA (t.own.readG (o:=0) (n:=1) (Nat.le_refl _))
  have hq:=hQ h' (next h) ra rc bs A t hf hl;generalize next h=sb at *;refine zq ?_;exact hq
 ·show Ext.AV I=1*Ext.AV I
  omega
theorem lr{h0 X:af}(x0:Ext h0 X){i es:Nat}(i0:h0.next<=i)(cs:List Value):Ext h0 (putAt X i es cs)/\bG (putAt X i es cs) i es cs/\(putAt X i es cs).next=X.next/\(∀j,j≠i->(putAt X i es cs).m.get j=X.m.get j):=by
 rw[De hA];have g1:∀j,j≠i->(X.putAt i es cs).m.get j=X.m.get j:=fun j hj=>by unfold af.putAt;simp only[];rw[cg.get_set_ne _ _ (fun q=>hj q.symm)]
 exact⟨⟨x0.next,x0.low,x0.lowG,fun j hj=>(g1 j (by omega)).trans (x0.get j hj)⟩,bG.putAt X i es cs,rfl,g1⟩
theorem zu{t e es:Nat}(hT:dB Try.prog t e es){α:Type}{enc:α->List Value}(hok:∀x,(enc x).all aA=true){h0 X:af}(hl0:h0.low<=h0.next)(x0:Ext h0 X){i:Nat}(hi:i<X.next)(i0:h0.next<=i)(ho:bG X i es []){a:Option Addr}{n c:Nat}{l:List α}(hl:Rows enc es X a n l)(hn:n<=100000){C:Option Addr->Nat->Nat->af->Prop}
  (hC:∀b' c' h',bG (lowered X h') b' es (l.flatMap enc)->b'<(lowered X h').next->h0.next<=b'->(b'=i\/X.next<=b')->X.next<=(lowered X h').next->(∀j,j<X.next->j≠i->(lowered X h').m.get j=X.m.get j)->Ext h0 (lowered X h')->(0<n->wrote X h'=false)->C (some ⟨b',0,none⟩) n c' h') :
  app [t,t] [.slice (some ⟨i,0,none⟩) 0 0,.slice a n c] (fresh X) C:=by
 simp only[cT hA]at hC;rw[fM hA,oI hA];have o1:bG X.freshed i es []:=ho;obtain⟨b',c',h',h1,h2,h3,h4,h5,h6,h8,h7⟩:=zV hT hT.und o1 hi (hl.ext (Ext.freshed _)).cells (jP hok l) (by omega) (c2:=c);obtain⟨k1,k2⟩:=h7 h0 (x0.trans (Ext.freshed _)) i0;exact⟨_,n,_,h',h1,hC b' c' h' h2 h3 k2 h4 h6 h5 (Ext.lower' k1 x0 hl0) (fun q=>by rw[sU hA,h8 q];exact oJ X)⟩
theorem Ir{t e es:Nat}(hT:dB Try.prog t e es){h:af}{b n c n2 c2:Nat}{a2:Option Addr}{cells news:List Value}(hp:CF h es b n c cells)(hn:n<=1000)(hs:cD h a2 n2 es news)(hok:cells.all aA=true)(hok2:news.all aA=true)(hbig:n2<=100000){C:Option Addr->Nat->Nat->af->Prop}
  (hC:∀b' c' h',CF h' es b' (n+n2) c' (cells++news)->h.next<=h'.next->(b'=b\/h.next<=b')->(∀j,j<h.next->j≠b->h'.m.get j=h.m.get j)->(∀h0,Ext h0 h->h0.next<=b->Ext h0 h'/\h0.next<=b')->C (some ⟨b',0,none⟩) (n+n2) c' h') :
  app [t,t] [.slice (some ⟨b,0,none⟩) n c,.slice a2 n2 c2] h C:=by
 rw[oI hA];obtain⟨b',c',h',h1,h2,h3,h4,h5,h6⟩:=Bf hT hT.und (c2:=c2) hp hn hs hok hok2 hbig;exact⟨_,_,_,h',h1,hC b' c' h' h2 h3 h4 h5 h6⟩
theorem Ft{h X:af}{b n c nb:Nat}{l:List Int}{v:Int}(hp:CF h 1 b n c (l.flatMap nC))(hn:n<=1000)(eX:X=push h 1 [.int .i64 v])(enb:nb=next h){C:Option Addr->Nat->Nat->af->Prop}
  (hC:∀b' c' h',CF h' 1 b' (n+1) c' ((l++[v]).flatMap nC)->(∀h0,Ext h0 h->h0.next<=b->Ext h0 h'/\h0.next<=b')->(∀j,j<h.next->j≠b->h'.m.get j=h.m.get j)->h.next<=h'.next->C (some ⟨b',0,none⟩) (n+1) c' h') :
  app [27,27] [.slice (some ⟨b,0,none⟩) n c,.slice (some ⟨nb,0,none⟩) 1 1] X C:=by
 rw[cM hA]at eX;rw[bV hA]at enb;subst eX enb;have xp:Ext h (h.push 1 [.int .i64 v]):=Ext.push h 1 _;have hs:cD (h.push 1 [.int .i64 v]) (some ⟨h.next,0,none⟩) 1 1 [.int .i64 v]:=⟨rfl,by simp[af.push],(bG.push h 1 [.int .i64 v]).readG (o:=0) (n:=1*1) (by show 0+1*1<=1;omega)⟩;have hlt:=hp.lt;have nx:(h.push 1 [.int .i64 v]).next=h.next+1:=rfl;refine Ir hA Hx (hp.ext xp) hn hs (jP uG l) rfl (by omega) (fun b' c' h' k1 k2 k3 k4 k5=>hC b' c' h' ?_ (fun h0 e0 hb=>k5 h0 (e0.trans xp) hb) (fun j j0 j1=>(k4 j (by omega) j1).trans (xp.get j j0)) (by omega));rw[List.flatMap_append];exact k1
set_option maxHeartbeats 1000000 in
theorem yQ{h0:af}(hl0:h0.low<=h0.next){m n w r s rc:Nat}{ra:Option Addr}{bs:Nat->Nat}{A:Nat->Ext.aJ}(hw:w=n+m)(n4:n<=4)(m1:1<=m)(m4:m<=4)(hr:r<=m)(es:r+s=m)(lo:∀y,y<r->Ext.aj w (A y)<n)(hi:∀y,r<=y->y<m->n<=Ext.aj w (A y)){M N:Int}(eM:M=m)(eN:N=n){Q:Exit->SS->Prop}
  (hQ:∀(h':af) (kn:Nat) (T:List (Nat×List Value)) pa pc qa qc rb,dk h0 h' m w bs A->Kx h0 h' r w pa pc bs->AA h0 h' s m qa qc rb (fun y j=>A (r+y) (n+j))->(∀ad,pa=some ad->∀y,y<m->ad.block≠bs y)->Q (.exit 0) ⟨[(2,.slice pa r pc),(3,.slice qa s qc)],kn,T,h'⟩) :
  ∀(d i u v:Nat) (I:Int) (h:af) (pa qa:Option Addr) (pc qc:Nat) (rb:Nat->Nat),m-i<=d->i<=m->I=i->u=min i r->v=i-r->AA h0 h m w ra rc bs A->Kx h0 h u w pa pc bs->AA h0 h v m qa qc rb (fun y j=>A (r+y) (n+j))->
   (∀ad,pa=some ad->(∀y,y<m->ad.block≠bs y)/\(∀y,y<v->ad.block≠rb y)/\∀bd,qa=some bd->ad.block≠bd.block)->(∀ad,qa=some ad->∀y,y<m->ad.block≠bs y)->
   (∀ad,ra=some ad->(∀bd,pa=some bd->ad.block≠bd.block)/\∀bd,qa=some bd->ad.block≠bd.block)->
   head 29 3 0 ⟨[(2,.slice pa u pc),(3,.slice qa v qc),(4,.int .i64 N),(12,.slice ra m rc),(13,.int .i64 M),(14,.int .i64 I)],0,[],h⟩ Q:=by
 refine oD (fun d ih=>?_);intro i u v I h pa qa pc qc rb hd hi' eI eu ev t p q z1 z2 z5;by_cases ci:i<m
 rotate_left
 ·refine hA.roundR Try.func29 r29_ok (zc ?_)
  refine br (I<M) (by rw[au hA]) (fun q=>by omega) (fun _=>?_)<;>refine zc ?_;obtain rfl:u=r:=by omega
  obtain rfl:v=s:=by omega
  exact hQ h _ _ pa pc qa qc rb t.rows p q (fun ad had=>(z1 ad had).1)
 obtain⟨d,rfl⟩:∃k,d=k+1:=⟨d-1,by omega⟩
 replace ih:=ih d rfl
 have hlow:h.low<=h.next:=t.rows.ext.lowOK hl0;obtain⟨ab,rfl,hab,q1⟩:=t.head ci;obtain⟨cw,ecw⟩:∃z,z=ar 1 w:=⟨_,rfl⟩;rw[<-ecw]at q1;have r1:rd h ab (place 0 I 1) 1 [.slice (some ⟨bs i,0,none⟩) w cw]:=az hA (by rw[eI];exact q1);obtain⟨z6,z7⟩:=z5 _ rfl;refine hA.roundR Try.func29 r29_ok (zc ?_);refine br (I<M) (by rw[au hA]) (fun _=>?_) (fun q=>by omega)<;>refine zc ?_;refine zq ?_;refine og hA hlow (by omega) (fun x hx=>t.rows.el ci hx) (fun L eL=>⟨L,rfl,?_⟩);refine zq ?_;refine br (L<N) (by rw[au hA]) (fun cl=>?_) (fun cl=>?_)<;>refine zc ?_
 ·have hir:i<r:=by
   rcases Nat.lt_or_ge i r with c|c
   ·exact c
   ·have:=hi i c ci;omega
  obtain rfl:u=i:=by omega
  obtain rfl:v=0:=by omega
  refine zq ?_;refine sN hA vp dF (by omega) uL (v:=(⟨some ⟨bs u,0,none⟩,w,cw⟩:Hd)) p.apd (by omega) (fun b' h' a' x' n' nb' k'=>?_);rw[ecw,<-Aw]at a';have xe:Ext h0 h':=x' h0 t.rows.ext p.fr;have kr:∀y,y<m->h'.m.get (bs y)=h.m.get (bs y):=fun y hy=>k' _ (t.rows.lt y hy) (fun ad had=>(z1 ad had).1 y hy)
  have t2:AA h0 h' m w (some ⟨ab,0,none⟩) rc bs A:=⟨t.rows.keep xe (Nat.le_of_lt n') kr,t.apd.of_get (Nat.le_of_lt n') (fun ad had hl=>by cases had;exact k' ab hab (fun ad had=>(z6 ad had).symm)),t.fr,t.nra⟩;have q2:AA h0 h' 0 m qa qc rb (fun y j=>A (r+y) (n+j)):=⟨q.rows.keep xe (Nat.le_of_lt n') (fun y hy=>by omega),q.apd.of_get (Nat.le_of_lt n') (fun ad had hl=>k' _ hl (fun bd hbd=>(z1 bd hbd).2.2 ad had)),q.fr,q.nra⟩;have hn0:=t.rows.ext.next;have p2:Kx h0 h' (u+1) w (some ⟨b',0,none⟩) (ar 1 (u+1)) bs:=⟨a',fun ad had=>by cases had;show h0.next<=b';omega⟩;generalize ar 1 (u+1)=cc at *;obtain⟨u1,eu1⟩:∃z,z=u+1:=⟨_,rfl⟩;rw[<-eu1]at p2 ⊢;refine zq ?_;rw[aB hA (by omega) (by omega)];refine ih (u+1) u1 0 (I+1) h' (some ⟨b',0,none⟩) qa cc qc rb (by omega) (by omega) (by omega) (by omega) (by omega) t2 p2 q2 (fun ad had=>?_) z2 (fun ad had=>?_)
  ·cases had
   exact⟨fun y hy=>by have:=t.rows.lt y hy;show b'≠_;omega,fun y hy=>by omega,fun bd hbd=>by have:=q.apd.lt bd hbd;show b'≠_;omega⟩
  ·cases had
   exact⟨fun bd hbd=>by cases hbd;show ab≠b';omega,z7⟩
 ·have hir:r<=i:=by
   rcases Nat.lt_or_ge i r with c|c
   ·have:=lo i c;omega
   ·exact c
  obtain rfl:u=r:=by omega
  refine zq ?_;rw[ecw];refine wW hA Hx (n:=w) (i:=N) (by omega) (by omega) (by omega) (fun c'=>?_);rw[show 0+N.toNat*1=0+n*1 by omega,show w-N.toNat=m by omega,<-ecw];obtain⟨o,eo⟩:∃z,z=0+n*1:=⟨_,rfl⟩;have tl:=t.rows.tail ci hw;rw[<-eo]at tl ⊢;refine zq ?_;refine uC hA hlow tl (by omega) (fun h1 b1 c1 o1 x1 lb=>⟨_,_,_,rfl,?_⟩);obtain⟨k1,k2,k3,k4⟩:=o1;have ec1:c1=ar 1 m:=by rcases k4 with ⟨_,q⟩|q;omega;exact q
  have t1:=t.more x1;have p1:=p.apd.ext x1;have q1:=q.more x1;have n1:=x1.next;refine zq ?_;refine sN hA vp dF (by omega) uL (v:=(⟨some ⟨b1,0,none⟩,m,c1⟩:Hd)) q1.apd (by omega) (fun b' h' a' x' n' nb' k'=>?_);have xe:Ext h0 h':=x' h0 t1.rows.ext q.fr;have hn0:=t1.rows.ext.next;have kr:∀y,y<m->h'.m.get (bs y)=h1.m.get (bs y):=fun y hy=>k' _ (t1.rows.lt y hy) (fun ad had=>z2 ad had y hy)
  have t2:AA h0 h' m w (some ⟨ab,0,none⟩) rc bs A:=⟨t1.rows.keep xe (Nat.le_of_lt n') kr,t1.apd.of_get (Nat.le_of_lt n') (fun ad had hl=>by cases had;exact k' ab (by omega) (fun ad had=>(z7 ad had).symm)),t.fr,t.nra⟩;have p2:Kx h0 h' u w pa pc bs:=⟨p1.of_get (Nat.le_of_lt n') (fun ad had hl=>k' _ hl (fun bd hbd=>((z1 ad had).2.2 bd hbd).symm)),p.fr⟩;obtain⟨rb2,erb⟩:∃z,z=fun y=>if y=v then b1 else rb y:=⟨_,rfl⟩
  have rbv:rb2 v=b1:=by rw[erb];simp only[if_true]
  have rbn:∀y,y<v->rb2 y=rb y:=fun y hy=>by rw[erb];simp only[if_neg (show ¬y=v by omega)]
  have ehd:jc rb m v++[(⟨some ⟨b1,0,none⟩,m,c1⟩:Hd)]=jc rb2 m (v+1):=by
   rw[Aw,rbv,ec1]
   congr 1
   exact di (fun y hy=>by rw[rbn y hy])
  rw[ehd]at a';have hlt:=q.rows.lt;have ev2:u+v=i:=by omega
  have q2:AA h0 h' (v+1) m (some ⟨b',0,none⟩) (ar 1 (v+1)) rb2 (fun y j=>A (u+y) (n+j)):=by
   refine⟨⟨xe,fun y hy=>?_,fun y hy=>?_,fun y hy=>?_,fun y z hy hz e=>?_⟩,a',fun ad had=>by cases had;show h0.next<=b';omega,fun ad had y hy=>?_⟩
   ·by_cases c:y=v
    ·rw[c,rbv,ev2];exact k1.of_get (k' b1 k2 (fun ad had=>by have:=q.apd.lt ad had;omega))
    ·rw[rbn y (by omega)];exact(q1.rows.row y (by omega)).of_get (k' _ (q1.rows.lt y (by omega)) (fun ad had=>q.nra ad had y (by omega)))
   ·by_cases c:y=v
    ·rw[c,rbv];have:=t.rows.ext.next;omega
    ·rw[rbn y (by omega)];exact q.rows.old y (by omega)
   ·by_cases c:y=v
    ·rw[c,rbv];omega
    ·rw[rbn y (by omega)];have:=hlt y (by omega);omega
   ·by_cases c:y=v<;>by_cases d:z=v
    ·rw[c,d]
    ·rw[c,rbv,rbn z (by omega)]at e;have:=hlt z (by omega);omega
    ·rw[d,rbv,rbn y (by omega)]at e;have:=hlt y (by omega);omega
    ·rw[rbn y (by omega),rbn z (by omega)]at e;exact q.rows.inj y z (by omega) (by omega) e
   ·cases had
    by_cases c:y=v
    ·rw[c,rbv];show b'≠b1;omega
    ·rw[rbn y (by omega)];have:=hlt y (by omega);show b'≠_;omega
  have pl:=p.apd.lt;generalize ar 1 (v+1)=cc at *;obtain⟨v1,ev1⟩:∃z,z=v+1:=⟨_,rfl⟩;rw[<-ev1]at q2 ⊢;refine zq ?_;rw[aB hA (by omega) (by omega)];refine ih (i+1) u v1 (I+1) h' pa (some ⟨b',0,none⟩) pc cc rb2 (by omega) (by omega) (by omega) (by omega) (by omega) t2 p2 q2 (fun ad had=>⟨(z1 ad had).1,fun y hy=>?_,fun bd hbd=>?_⟩) (fun ad had y hy=>?_) (fun ad had=>?_)
  ·by_cases c:y=v
   ·rw[c,rbv];have:=pl ad had;omega
   ·rw[rbn y (by omega)];exact(z1 ad had).2.1 y (by omega)
  ·cases hbd;have:=pl ad had;show _≠b';omega
  ·cases had;have:=t1.rows.lt y hy;show b'≠_;omega
  ·cases had
   exact⟨z6,fun bd hbd=>by cases hbd;show ab≠b';omega⟩
theorem EB(hI:ph F){h:af}(hlow:h.low<=h.next){m n w ac:Nat}{aa:Option Addr}{bY:List Hd}{g:List (List Int)}(hw:w=n+m)(n1:1<=n)(n4:n<=4)(m1:1<=m)(m4:m<=4)(hg:jX nC 1 h aa m bY g)(hn:∀y:Int,0<=y->y<m->(gt bY y).n=n)(h9:∀i j,(gt (gt g i) j).natAbs<=9){Q:Value->af->Prop}
  (hQ:∀h' r s pa pc qa qc bs rb A,Ext.Bv w m A->Ext.jj w m A (fD g n)->r+s=m->(∀y,y<r->Ext.aj w (A y)<n)->(∀y,r<=y->y<m->n<=Ext.aj w (A y))->dk h h' m w bs A->Kx h h' r w pa pc bs->AA h h' s m qa qc rb (fun y j=>A (r+y) (n+j))->(∀ad,pa=some ad->∀y,y<m->ad.block≠bs y)->Q (.tuple #[.slice pa r pc,.slice qa s qc]) h') :
  call 29 [.slice aa m ac] h Q:=by
 obtain⟨ab,ao,rfl,_,q1⟩:=hg.hd.at (i:=0) (by omega) (by omega);have q2:=q1 0 1 (by omega) (by omega);have row:=hg.row 0 (by omega) (by omega);have rl:=hn 0 (by omega) (by omega);obtain⟨b,o,eb,_⟩:=row.at (i:=0) (by omega) (by rw[rl];omega);obtain⟨hc,ehc⟩:∃z,z=(gt bY 0).c:=⟨_,rfl⟩;have hcell:((gt bY 0).cells.drop 0).take 1=[.slice (some ⟨b,o,none⟩) n hc]:=by
  unfold Hd.cells;rw[eb,rl,ehc];rfl
 rw[hcell]at q2;have r1:rd h ab (place ao 0 1) 1 [.slice (some ⟨b,o,none⟩) n hc]:=az hA q2;obtain⟨N,eN⟩:∃z:Int,z=n:=⟨_,rfl⟩;have e2:ofNat n=N:=by rw[eN];exact aF hA n
 obtain⟨M,eM⟩:∃z:Int,z=m:=⟨_,rfl⟩;have e1:ofNat m=M:=by rw[eM];exact aF hA m
 refine hA.bodyR Try.func29 r29_ok (hA.alike _ _ _ rfl) hlow (zc ?_)
 (refine zq ?_;repeat ((first|rw[e2]);refine zq ?_))
 refine BH hA hI hlow hw n1 n4 m4 hg hn h9 (fun h1 sb ra rc bs A st hf hl=>?_);obtain⟨r,hr,lo,hi⟩:=hf.stp.parts n;refine⟨_,_,_,rfl,?_⟩
 (refine zq ?_;repeat ((first|rw[e1]);refine zq ?_))
 refine yQ hA (h0:=h) (s:=m-r) hlow hw n4 m1 m4 hr (by omega) lo hi eM eN (fun h' kn T pa pc qa qc rb x1 x2 x3 x4=>?_) m 0 0 0 0 h1 none none 0 0 (fun _=>0) (by omega) (by omega) rfl (by omega) (by omega) st.grd ⟨.nil _ _,.none _⟩ ⟨⟨st.rows.ext,fun y hy=>by omega,fun y hy=>by omega,fun y hy=>by omega,fun y z hy=>by omega⟩,.nil _ _,.none _,fun ad had=>by cases had⟩ (fun ad had=>by cases had) (fun ad had=>by cases had) (fun ad had=>⟨(fun bd hbd=>by cases hbd),(fun bd hbd=>by cases hbd)⟩);have hq:=hQ h' r (m-r) pa pc qa qc bs rb A hf hl (by omega) lo hi x1 x2 x3 x4;generalize m-r=s at *;refine zq ?_;exact hq
theorem y7(hI:ph F){h:af}(hlow:h.low<=h.next){m n ac:Nat}{aa:Option Addr}{bY:List Hd}{g:List (List Int)}(hM:kT g m n)(hg:jX nC 1 h aa m bY g){Q:Value->af->Prop}
  (hQ:∀h' r s pa pc qa qc bs rb A,bA g m n r s A->dk h h' m (n+m) bs A->Kx h h' r (n+m) pa pc bs->AA h h' s m qa qc rb (fun y j=>A (r+y) (n+j))->(∀ad,pa=some ad->∀y,y<m->ad.block≠bs y)->Q (.tuple #[.slice pa r pc,.slice qa s qc]) h') :
  call 29 [.slice aa m ac] h Q:=
 EB hA hI hlow rfl hM.n1 hM.n4 hM.m1 hM.m4 hg (fun y y0 y1=>by rw[<-hg.rowN y0 y1];exact hM.row y y0 y1) hM.nine
  (fun h' r s pa pc qa qc bs rb A a1 a2 a3 a4 a5 a6 a7 a8 a9=>hQ h' r s pa pc qa qc bs rb A ⟨a1,a2,a3,a4,a5⟩ a6 a7 a8 a9)
theorem Gq{x i:Nat}{X I:Int}(eX:X=x)(eI:I=i)(hx:x<16)(hi:i<4):arith .and .i64 (arith .shr .i64 X I) 1=if x.testBit i then 1 else 0:=by
 rw[GZ hA,Fy hA,eX,eI];have h1:x=0\/x=1\/x=2\/x=3\/x=4\/x=5\/x=6\/x=7\/x=8\/x=9\/x=10\/x=11\/x=12\/x=13\/x=14\/x=15:=by omega
 have h2:i=0\/i=1\/i=2\/i=3:=by omega
 rcases h1 with rfl|rfl|rfl|rfl|rfl|rfl|rfl|rfl|rfl|rfl|rfl|rfl|rfl|rfl|rfl|rfl<;>rcases h2 with rfl|rfl|rfl|rfl<;>rfl
theorem KI{h0 h1:af}(hl0:h0.low<=h0.next){m n ac b s R C i:Nat}{aa:Option Addr}{bY:List Hd}{g:List (List Int)}(hM:kT g m n)(hg:jX nC 1 h0 aa m bY g){RI CI S MI I N:Int}(eS:S=s)(eR:RI=R)(eC:CI=C)(eI:I=i)(eN:N=n)(es:s=(Ext.bl i R).length)(hi:i<m)(hC:C<16){rc:Nat}{ra:Option Addr}(era:ra=(gt bY I).a){Q:Exit->SS->Prop}
  (hQ:∀(h':af) (P:Nat->Nat->Int) (kn:Nat) (T:List (Nat×List Value)),Sq h0 h' b s P->AC g n R C i n P->Q (.exit 2) ⟨[(0,.slice aa m ac),(1,.int .i64 RI),(2,.int .i64 CI),(7,.pointer (some ⟨b,0,none⟩)),(15,.int .i64 MI),(16,.int .i64 I)],kn,T,h'⟩) :
  ∀(d j k:Nat) (J K:Int) (h:af) (P:Nat->Nat->Int),n-j<=d->j<=n->J=j->k=(Ext.bl j C).length->K=k->Sq h0 h b s P->AC g n R C i j P->
   head 80 8 0 ⟨[(0,.slice aa m ac),(1,.int .i64 RI),(2,.int .i64 CI),(7,.pointer (some ⟨b,0,none⟩)),(9,.int .i64 K),(15,.int .i64 MI),(16,.int .i64 I),(27,.slice ra n rc),(28,.int .i64 N),(29,.int .i64 J)],0,[],h⟩ Q:=by
 intro d;have m4:=hM.m4;have n4:=hM.n4
 induction d with
 |zero=>
  intro j k J K h P hd hj eJ ek eK t p;refine hA.roundR Try.func80 r80_ok (zc ?_);refine br (J<N) (by rw[au hA]) (fun q=>by omega) (fun _=>?_)<;>refine zc ?_;obtain rfl:j=n:=by omega
  exact hQ h P _ _ t p
 |succ d ih=>
 intro j k J K h P hd hj eJ ek eK t p;by_cases cj:j<n
 rotate_left
 ·refine hA.roundR Try.func80 r80_ok (zc ?_)
  refine br (J<N) (by rw[au hA]) (fun q=>by omega) (fun _=>?_)<;>refine zc ?_;obtain rfl:j=n:=by omega
  exact hQ h P _ _ t p
 have gh:=hg.ext t.ext;have row:=gh.row I (by omega) (by omega);rw[<-era]at row;have hln:(gt g I).length=n:=hM.row I (by omega) (by omega);have hn2:=row.len;rw[hln]at hn2;rw[<-hn2]at row;obtain⟨b2,o2,eb2,_,w⟩:=row.at (i:=J) (by omega) (by omega);obtain⟨v,ev⟩:∃z,z=gt (gt g I) J:=⟨_,rfl⟩;have q1:=w 0 1 (by omega) (by omega);rw[<-ev]at q1;cases ra with
 |none=>cases eb2
 |some ad=>
 cases eb2;have r1:rd h b2 (place o2 J 1) 1 [.int .i64 v]:=az hA q1;obtain⟨B,eB⟩:∃z:Int,z=if C.testBit j then 1 else 0:=⟨_,rfl⟩
 have m1:=Gq hA eC eJ hC (show j<4 by omega);rw[<-eB]at m1;have kl:=Ext.GL j C;have sl:=Ext.GL i R;refine hA.roundR Try.func80 r80_ok (zc ?_);refine br (J<N) (by rw[au hA]) (fun _=>?_) (fun q=>by omega)<;>refine zc ?_
 (refine zq ?_;repeat ((first|rw[m1]);refine zq ?_))
 refine br (B=1) (by rw[cJ hA]) (fun c=>?_) (fun c=>?_)<;>refine zc ?_
 ·have tb:C.testBit j=true:=by
   cases h:C.testBit j with
   |true=>rfl
   |false=>rw[h]at eB;simp at eB;omega
  obtain⟨h9,eh9⟩:∃z,z=bump h 12:=⟨_,rfl⟩;have t9:=t.more (show Ext h h9 by rw[eh9];exact aq hA _ _);have r2:=ia hA t9 eS;obtain⟨h2,w1,t2,_⟩:=xQ hA t9 (i:=s) (j:=k) (by omega) (by omega) eS eK (v:=v);rw[<-eh9];refine zq ?_;rw[aB hA (by omega) (by omega),aB hA (by omega) (by omega)];refine ih (j+1) (k+1) (J+1) (K+1) h2 _ (by omega) (by omega) (by omega) (by rw[Ext.j6,if_pos tb,List.length_append,ek];rfl) (by omega) t2 ?_;have:=p.put tb;rw[<-es,<-ek,show Ext.el g i j=v by rw[ev,eI,eJ];rfl]at this;exact this
 ·have tb:C.testBit j=false:=by
   cases h:C.testBit j with
   |false=>rfl
   |true=>rw[h]at eB;simp at eB;omega
  refine zq ?_;rw[aB hA (by omega) (by omega)];exact ih (j+1) k (J+1) K h P (by omega) (by omega) (by omega) (by rw[Ext.j6,if_neg (by rw[tb];decide),ek]) eK t (p.skip tb)
theorem Kb{h0:af}(hl0:h0.low<=h0.next){m n ac b R C:Nat}{aa:Option Addr}{bY:List Hd}{g:List (List Int)}(hM:kT g m n)(hg:jX nC 1 h0 aa m bY g){RI CI M:Int}(eR:RI=R)(eC:CI=C)(eM:M=m)(hR:R<16)(hC:C<16){Q:Exit->SS->Prop}
  (hQ:∀(h':af) (P:Nat->Nat->Int) (kn:Nat) (T:List (Nat×List Value)),Sq h0 h' b (Ext.bl m R).length P->AC g n R C m 0 P->Q (.exit 0) ⟨[(7,.pointer (some ⟨b,0,none⟩))],kn,T,h'⟩) :
  ∀(d i s:Nat) (I:Int) (h:af) (P:Nat->Nat->Int),m-i<=d->i<=m->I=i->s=(Ext.bl i R).length->Sq h0 h b s P->AC g n R C i 0 P->
   head 80 3 0 ⟨[(0,.slice aa m ac),(1,.int .i64 RI),(2,.int .i64 CI),(7,.pointer (some ⟨b,0,none⟩)),(15,.int .i64 M),(16,.int .i64 I)],0,[],h⟩ Q:=by
 intro d;have m4:=hM.m4;have n4:=hM.n4
 induction d with
 |zero=>
  intro i s I h P hd hi eI es t p;refine hA.roundR Try.func80 r80_ok (zc ?_);refine br (I<M) (by rw[au hA]) (fun q=>by omega) (fun _=>?_)<;>refine zc ?_;obtain rfl:i=m:=by omega
  exact hQ h P _ _ (es ▸ t) p
 |succ d ih=>
 intro i s I h P hd hi eI es t p;by_cases ci:i<m
 rotate_left
 ·refine hA.roundR Try.func80 r80_ok (zc ?_)
  refine br (I<M) (by rw[au hA]) (fun q=>by omega) (fun _=>?_)<;>refine zc ?_;obtain rfl:i=m:=by omega
  exact hQ h P _ _ (es ▸ t) p
 obtain⟨B,eB⟩:∃z:Int,z=if R.testBit i then 1 else 0:=⟨_,rfl⟩
 have m1:=Gq hA eR eI hR (show i<4 by omega);rw[<-eB]at m1;obtain⟨S,eS⟩:∃z:Int,z=s:=⟨_,rfl⟩;obtain⟨N,eN⟩:∃z:Int,z=n:=⟨_,rfl⟩;have sl:=Ext.GL i R;obtain⟨ab,ao,rfl,hab,q1⟩:=(hg.ext t.ext).hdAt (i:=I) (by omega) (by omega);have row:=hg.row I (by omega) (by omega);have hln:(gt g I).length=n:=hM.row I (by omega) (by omega);have hn2:=row.len;rw[hln]at hn2;rw[<-hn2]at q1;obtain⟨ra,era⟩:∃z,z=(gt bY I).a:=⟨_,rfl⟩;obtain⟨rc,erc⟩:∃z,z=(gt bY I).c:=⟨_,rfl⟩;rw[<-era,<-erc]at q1;have r1:rd h ab (place ao I 1) 1 [.slice ra n rc]:=az hA q1;have e0:ofNat n=N:=by rw[eN];exact aF hA n
 refine hA.roundR Try.func80 r80_ok (zc ?_);refine br (I<M) (by rw[au hA]) (fun _=>?_) (fun q=>by omega)<;>refine zc ?_
 (refine zq ?_;repeat ((first|rw[m1]);refine zq ?_))
 refine br (B=0) (by rw[cJ hA]) (fun c=>?_) (fun c=>?_)<;>refine zc ?_
 ·have tb:R.testBit i=false:=by
   cases h:R.testBit i with
   |false=>rfl
   |true=>rw[h]at eB;simp at eB;omega
  refine zq ?_;rw[aB hA (by omega) (by omega)];exact ih (i+1) s (I+1) h P (by omega) (by omega) (by omega) (by rw[Ext.j6,if_neg (by rw[tb];decide),es]) t (p.miss tb)
 ·have tb:R.testBit i=true:=by
   cases h:R.testBit i with
   |true=>rfl
   |false=>rw[h]at eB;simp at eB;omega
  (refine zq ?_;repeat ((first|rw[e0]);refine zq ?_))
  refine KI hA (h1:=h) hl0 hM hg eS eR eC eI eN es ci hC era (fun h' P' kn T t' p'=>?_) n 0 0 0 0 h P (by omega) (by omega) rfl rfl rfl t p;have r2:=ia hA t' eS;obtain⟨h2,w1,t2,_⟩:=t'.grow (S:=S+1) (by omega);have w1:wr h' b (addN 0 0) [.int .i64 (S+1)] h2:=HO hA w1;refine zq ?_;rw[aB hA (by omega) (by omega)];refine zq ?_;rw[aB hA (by omega) (by omega)];exact ih (i+1) (s+1) (I+1) h2 P' (by omega) (by omega) (by omega) (by rw[Ext.j6,if_pos tb,List.length_append,es];rfl) t2 (p'.next tb)
theorem GU{h:af}(hlow:h.low<=h.next){m n ac R C:Nat}{aa:Option Addr}{bY:List Hd}{g:List (List Int)}(hM:kT g m n)(hg:jX nC 1 h aa m bY g){RI CI:Int}(eR:RI=R)(eC:CI=C)(hR:R<16)(hC:C<16){Q:Value->af->Prop}
  (hQ:∀b h' P,Sq h h' b (Ext.bl m R).length P->(∀r c,r<(Ext.bl m R).length->c<(Ext.bl n C).length->P r c=Ext.el g (gt (Ext.bl m R) (r:Int)) (gt (Ext.bl n C) (c:Int)))->Q (.pointer (some ⟨b,0,none⟩)) h') :
  call 80 [.slice aa m ac,.int .i64 RI,.int .i64 CI] h Q:=by
 obtain⟨M,eM⟩:∃z:Int,z=m:=⟨_,rfl⟩;have e1:ofNat m=M:=by rw[eM];exact aF hA m
 refine hA.bodyR Try.func80 r80_ok (hA.alike _ _ _ rfl) hlow (zc ?_)
 (refine zq ?_;repeat ((first|rw[e1]);refine zq ?_))
 rw[cM hA,bV hA];refine Kb hA hlow hM hg eR eC eM hR hC (fun h' P kn T t p=>?_) m 0 0 0 _ (fun _ _=>0) (by omega) (by omega) rfl rfl (Sq.new h) ⟨fun r c hr=>absurd hr (by show ¬r<0;omega),fun c hc=>absurd hc (by show ¬c<0;omega)⟩;refine zq ?_;exact hQ h.next h' P t p.up
