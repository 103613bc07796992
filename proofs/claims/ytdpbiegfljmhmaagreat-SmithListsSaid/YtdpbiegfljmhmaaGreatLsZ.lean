import Derived.Test.YtdpbiegfljmhmaaGreatLsQ
import Derived.Test.YtdpbiegfljmhmaaGreatSlPi
set_option linter.unusedSimpArgs false
set_option linter.unusedVariables false
namespace Go.Proofs.YtdpbiegfljmhmaaGreat
open Go.cV
set_option maxRecDepth 100000
def vq(x:Fc):Rat:=rq x.n x.d
def fI(f:Nat->Rat):Nat->Rat
 |0=>0
 |n+1=>fI f n+f n
theorem ig{f g:Nat->Rat}:∀(n:Nat),(∀k,k<n->f k=g k)->fI f n=fI g n
 |0,_=>rfl
 |n+1,h=>by show fI f n+f n=fI g n+g n;rw[ig n (fun k hk=>h k om),h n om]
theorem wX(c y:Nat->Int){D:Int}(hD:D≠0):∀n,fI (fun j=>(c j:Rat)*rq (y j) D) n=rq (Ext.aV (fun j=>c j*y j) n) D
 |0=>by
  show(0:Rat)=rq 0 D;have:=jX (l:=0) hD;rw[Int.zero_mul]at this;rw[<-this];rfl
 |n+1=>by
  show fI (fun j=>(c j:Rat)*rq (y j) D) n+(c n:Rat)*rq (y n) D=rq (Ext.aV (fun j=>c j*y j) n+c n*y n) D;rw[wX c y hD n,u7,sI hD]
def fr(a b:Int):Fc:=⟨(rq a b).num,(rq a b).den⟩
theorem Fe{a b:Int}(ha:a.natAbs<=1000000000000000000)(hb:b.natAbs<=1000000000000000000)(h0:b≠0):fW (fr a b).n (fr a b).d (rq a b):=⟨rfl,rfl,lD ha hb h0⟩
theorem CX{a b:Int}(h0:0<=a)(h1:a<b)(hb:b<=1000000000000000000):cH (fr a b):=by
 have f:=Fe (a:=a) (b:=b) om om om;have fl:=wP f om;rw[Int.ediv_eq_zero_of_lt h0 h1]at fl;have hd:=f.den;refine⟨f.ok,?_,?_⟩
 ·have:=Int.emod_nonneg (fr a b).n (show(fr a b).d≠0 by omega)
  have e:=Int.emod_add_mul_ediv (fr a b).n (fr a b).d;rw[fl,Int.mul_zero]at e;omega
 ·have:=Int.emod_lt_of_pos (fr a b).n (show 0<(fr a b).d by omega)
  have e:=Int.emod_add_mul_ediv (fr a b).n (fr a b).d;rw[fl,Int.mul_zero]at e;omega
theorem Ow{a b:Int}(ha:a.natAbs<=1000000000000000000)(hb:b.natAbs<=1000000000000000000)(h0:b≠0):vq (fr a b)=rq a b:=(Fe ha hb h0).rq
theorem cH.is{x:Fc}(h:cH x):fW x.n x.d (vq x):=h.1.is
theorem Hn{x y:Fc}(h1:x.n=y.n)(h2:x.d=y.d):x=y:=by cases x;cases y;simp_all
theorem Bp{x:Fc}(hx:cH x){y D:Int}(hD:0<D)(e:vq x=rq y D):0<=y/\y<D/\x=fr y D:=by
 have a:=hx.is;rw[e]at a;have fl:=wP a hD;rw[Int.ediv_eq_zero_of_lt hx.2.1 hx.2.2]at fl;have e1:=Int.emod_add_mul_ediv y D;rw[<-fl,Int.mul_zero]at e1;have:=Int.emod_nonneg y (show D≠0 by omega);have:=Int.emod_lt_of_pos y hD;refine⟨om,om,Hn a.1 a.2.1⟩
structure oO(g:List (List Int))(B:List Fc)(m n:Nat)(X:List Fc):Prop where
 len:X.length=n
 turn:∀j:Nat,j<n->cH (gt X (j:Int))
 eqs:∀i:Nat,i<m->∃z:Int,fI (fun j=>(Ext.el g i j:Rat)*vq (gt X (j:Int))) n=vq (gt B (i:Int))+(z:Rat)
theorem wY(f:Int->Fc)(x:List Int){j:Nat}(h:j<x.length):gt (x.map f) (j:Int)=f (gt x (j:Int)):=by
 unfold gt;rw[List.getD_eq_getElem?_getD,List.getD_eq_getElem?_getD,show((j:Int)).toNat=j from rfl,List.getElem?_map,List.getElem?_eq_getElem h];rfl
theorem Kz{x y:List Fc}{n:Nat}(hx:x.length=n)(hy:y.length=n)(h:∀j:Nat,j<n->gt x (j:Int)=gt y (j:Int)):x=y:=by
 apply List.ext_getElem?;intro j;by_cases c:j<n
 ·have:=h j c
  unfold gt at this;rw[List.getD_eq_getElem?_getD,List.getD_eq_getElem?_getD,show((j:Int)).toNat=j from rfl,List.getElem?_eq_getElem om,List.getElem?_eq_getElem om]at this;rw[List.getElem?_eq_getElem om,List.getElem?_eq_getElem om];exact congrArg some this
 ·rw[List.getElem?_eq_none om,List.getElem?_eq_none om]
theorem Bq{B:List Fc}{m:Nat}{W many:Int}(w:wk B m W)(hm:many≠0)(ht:∀i:Int,0<=i->i<m->cH (gt B i)/\(gt B i).d<=60){i:Nat}(hi:i<m):vq (gt B (i:Int))=rq (rE B W i*many) (W*many):=by
 have:=(w.part ht hi).1.rq;rw[CC hm];exact this
theorem NR.aav{g:List (List Int)}{B:List Fc}{m n:Nat}{W many:Int}(w:wk B m W)(ht:∀i:Int,0<=i->i<m->cH (gt B i)/\(gt B i).d<=60)(hm:0<many)(hs:W*many<=1000000000000000000){x:List Int}(s:NR g (rE B W) m n many (W*many) x):oO g B m n (x.map (fun y=>fr y (W*many))):=by
 have sp:0<W*many:=Int.mul_pos w.pos hm;have hv:∀j:Nat,j<n->vq (gt (x.map (fun y=>fr y (W*many))) (j:Int))=rq (gt x (j:Int)) (W*many):=fun j hj=>by
  rw[wY _ x (by rw[s.len];exact hj)];obtain⟨r0,r1⟩:=s.uO j hj;exact Ow om om om
 refine⟨by rw[List.length_map];exact s.len,fun j hj=>?_,fun i hi=>?_⟩
 ·rw[wY _ x (by rw[s.len];exact hj)]
  obtain⟨r0,r1⟩:=s.uO j hj;exact CX r0 r1 hs
 ·obtain⟨c,hc⟩:=s.eqs i hi
  refine⟨-c,?_⟩;rw[ig n (g:=fun j=>(Ext.el g i j:Rat)*rq (gt x (j:Int)) (W*many)) (fun j hj=>by rw[hv j hj]),wX _ _ (show W*many≠0 by omega),Bq w (show many≠0 by omega) ht hi,jX (l:=-c) (show W*many≠0 by omega),sI (show W*many≠0 by omega)]
  congr 1
  rw[Int.neg_mul,Int.mul_comm c];omega
def dx(D:Int)(q:Rat):Prop:=∃y:Int,q=rq y D
theorem dx.add{D:Int}{p q:Rat}(hD:D≠0)(a:dx D p)(b:dx D q):dx D (p+q):=by
 obtain⟨y,rfl⟩:=a;obtain⟨z,rfl⟩:=b;exact⟨y+z,sI hD⟩
theorem dx.sub{D:Int}{p q:Rat}(hD:D≠0)(a:dx D p)(b:dx D q):dx D (p-q):=by
 obtain⟨y,rfl⟩:=a;obtain⟨z,rfl⟩:=b;exact⟨y-z,u6 hD⟩
theorem dx.mul{D:Int}{q:Rat}(c:Int)(a:dx D q):dx D ((c:Rat)*q):=by
 obtain⟨y,rfl⟩:=a;exact⟨c*y,u7 c y D⟩
theorem dx.int{D:Int}(hD:D≠0)(c:Int):dx D (c:Rat):=⟨c*D,jX hD⟩
theorem dx.more{D c:Int}{q:Rat}(hc:c≠0)(a:dx D q):dx (D*c) q:=by
 obtain⟨y,rfl⟩:=a;exact⟨y*c,(CC hc).symm⟩
theorem dx.sum{D:Int}(hD:D≠0){f:Nat->Rat}:∀n,(∀k,k<n->dx D (f k))->dx D (fI f n)
 |0,_=>⟨0,by
  have:=jX (l:=0) hD;rw[Int.zero_mul]at this;rw[<-this];rfl⟩
 |n+1,h=>(dx.sum hD n (fun k hk=>h k om)).add hD (h n om)
theorem dx.T9{D c:Int}{q:Rat}(hD:D≠0)(hc:c≠0)(a:dx D ((c:Rat)*q)):dx (D*c) q:=by
 obtain⟨y,hy⟩:=a;refine⟨y,?_⟩;have h1:=qF hD;have h2:=qF hc;unfold rq at hy ⊢;rw[Rat.intCast_mul];grind
theorem Ff(f g:Nat->Rat):∀n,fI (fun k=>f k+g k) n=fI f n+fI g n
 |0=>by show(0:Rat)=0+0;grind
 |n+1=>by
  show fI (fun k=>f k+g k) n+(f n+g n)=fI f n+f n+(fI g n+g n);rw[Ff f g n];grind
theorem Fg(c:Rat)(f:Nat->Rat):∀n,fI (fun k=>c*f k) n=c*fI f n
 |0=>by show(0:Rat)=c*0;grind
 |n+1=>by
  show fI (fun k=>c*f k) n+c*f n=c*(fI f n+f n);rw[Fg c f n];grind
theorem Br(f:Nat->Nat->Rat)(m:Nat):∀n,fI (fun i=>fI (fun j=>f i j) m) n=fI (fun j=>fI (fun i=>f i j) n) m
 |0=>by
  have:∀m,fI (fun _=>(0:Rat)) m=0:=fun m=>by
   induction m with
   |zero=>rfl
   |succ m ih=>show fI (fun _=>(0:Rat)) m+0=0;rw[ih];grind
  exact(this m).symm
 |n+1=>by
  show fI (fun i=>fI (fun j=>f i j) m) n+fI (fun j=>f n j) m=fI (fun j=>fI (fun i=>f i j) n+f n j) m;rw[Br f m n,Ff]
theorem Fh(c:Nat->Int)(q:Rat):∀n,fI (fun k=>(c k:Rat)*q) n=(Ext.aV c n:Rat)*q
 |0=>by show(0:Rat)=((0:Int):Rat)*q;rw[Rat.intCast_zero];grind
 |n+1=>by
  show fI (fun k=>(c k:Rat)*q) n+(c n:Rat)*q=((Ext.aV c n+c n:Int):Rat)*q;rw[Fh c q n,Rat.intCast_add];grind
theorem bL.over{g:List (List Int)}{m n s:Nat}{A:Nat->Ext.aR}(a:bL g m n n s A){B:List Fc}{W:Int}(w:wk B m W)(ht:∀i:Int,0<=i->i<m->cH (gt B i)/\(gt B i).d<=60){X:List Fc}(sx:oO g B m n X){k:Nat}(hk:k<n):dx W (fI (fun j=>(A k j:Rat)*vq (gt X (j:Int))) n):=by
 have hs:=a.sum;have wp:=w.pos;have e:fI (fun j=>(A k j:Rat)*vq (gt X (j:Int))) n=fI (fun t=>(A k (n+t):Rat)*fI (fun j=>(Ext.el g t j:Rat)*vq (gt X (j:Int))) n) m:=by
  rw[ig n (g:=fun j=>fI (fun t=>(A k (n+t):Rat)*((Ext.el g t j:Rat)*vq (gt X (j:Int)))) m) (fun j hj=>by
   rw[a.tail (i:=k) om hj,<-Fh];exact ig m (fun t _=>by rw[Rat.intCast_mul];grind)),<-Br]
  exact ig m (fun t _=>by rw[Fg])
 rw[e];refine dx.sum om m (fun t Ya=>dx.mul _ ?_);obtain⟨z,hz⟩:=sx.eqs t Ya;rw[hz];exact dx.add om ⟨_,(w.part ht Ya).1.rq⟩ (dx.int om z)
theorem IW{f:Nat->Rat}{k:Nat}:∀n,k<n->fI f n=f k+fI (fun j=>if j=k then 0 else f j) n
 |0,h=>om
 |n+1,h=>by
  show fI f n+f n=f k+(fI (fun j=>if j=k then 0 else f j) n+if n=k then 0 else f n);by_cases c:k=n
  ·subst c
   rw[if_pos rfl,ig (f:=fun j=>if j=k then 0 else f j) (g:=f) k (fun j hj=>by rw[if_neg om])];grind
  ·rw[if_neg (show ¬n=k by omega),IW (k:=k) n om]
   grind
theorem bL.Sb{g:List (List Int)}{m n s:Nat}{A:Nat->Ext.aR}(a:bL g m n n s A){B:List Fc}{W:Int}(w:wk B m W)(ht:∀i:Int,0<=i->i<m->cH (gt B i)/\(gt B i).d<=60){X:List Fc}(sx:oO g B m n X):∀d,d<=n->∃c:Int,c≠0/\c*Ext.Mk A (n-d)=Ext.Mk A n/\∀j:Nat,n-d<=j->j<n->dx (W*c) (vq (gt X (j:Int)))
 |0,_=>⟨1,by decide,by rw[Int.one_mul];rfl,fun j h1 h2=>om⟩
 |d+1,h=>by
  obtain⟨c,c0,c1,c2⟩:=bL.Sb a w ht sx d om;have wp:=w.pos;obtain⟨k,ek⟩:∃k,k=n-(d+1):=⟨_,rfl⟩;have e1:n-d=k+1:=om
  rw[<-ek];rw[e1]at c1 c2;have ap:=a.diag (i:=k) om;have D0:W*c≠0:=Int.mul_ne_zero om c0;refine⟨c*A k k,Int.mul_ne_zero c0 om,?_,fun j h1 h2=>?_⟩
  ·rw[<-c1]
   show c*A k k*Ext.Mk A k=c*(Ext.Mk A k*A k k);rw[Int.mul_assoc,Int.mul_comm (A k k)]
  ·rw[<-Int.mul_assoc]
   by_cases e:j=k
   ·subst e
    refine dx.T9 D0 om ?_;have h3:=a.over w ht sx (k:=j) h2;have h4:=(h3.more c0:dx (W*c) _);rw[IW (k:=j) n h2]at h4;have h5:dx (W*c) (fI (fun i=>if i=j then 0 else(A j i:Rat)*vq (gt X (i:Int))) n):=dx.sum D0 n (fun i hi=>by
     show dx (W*c) (if i=j then 0 else(A j i:Rat)*vq (gt X (i:Int)));by_cases q:i=j
     ·rw[if_pos q]
      have:=dx.int D0 0;rw[Rat.intCast_zero]at this;exact this
     ·rw[if_neg q]
      by_cases l:i<j
      ·have z:A j i=0:=Ext.bB (w:=n+m) (by rw[a.wQ h2];exact l)
       rw[z,Rat.intCast_zero];have:=dx.int D0 0;rw[Rat.intCast_zero]at this;rw[show(0:Rat)*vq (gt X (i:Int))=0 by grind];exact this
      ·exact dx.mul _ (c2 i om hi))
    have h6:=dx.sub D0 h4 h5;rw[show(A j j:Rat)*vq (gt X (j:Int))+fI (fun i=>if i=j then 0 else(A j i:Rat)*vq (gt X (i:Int))) n-fI (fun i=>if i=j then 0 else(A j i:Rat)*vq (gt X (i:Int))) n=(A j j:Rat)*vq (gt X (j:Int)) by grind]at h6;exact h6
   ·exact(c2 j om h2).more om
theorem bL.back{g:List (List Int)}{m n s:Nat}{A:Nat->Ext.aR}(a:bL g m n n s A){B:List Fc}{W:Int}(w:wk B m W)(ht:∀i:Int,0<=i->i<m->cH (gt B i)/\(gt B i).d<=60){X:List Fc}(sx:oO g B m n X):∃x,NR g (rE B W) m n (Ext.Mk A n) (W*Ext.Mk A n) x/\X=x.map (fun y=>fr y (W*Ext.Mk A n)):=by
 obtain⟨c,c0,c1,c2⟩:=a.Sb w ht sx n (Nat.le_refl n);rw[Nat.sub_self]at c1 c2;have ec:c=Ext.Mk A n:=by rw[<-c1];show c=c*1;rw[Int.mul_one]
 have mp:=qG n (fun i hi=>a.diag hi);have sp:0<W*Ext.Mk A n:=Int.mul_pos w.pos mp;rw[ec]at c2;obtain⟨size,es⟩:∃z,z=W*Ext.Mk A n:=⟨_,rfl⟩;rw[<-es]at c2 sp ⊢;have:∃y:Nat->Int,∀j:Nat,j<n->vq (gt X (j:Int))=rq (y j) size:=by
  have hy:∀j:Nat,∃y:Int,j<n->vq (gt X (j:Int))=rq y size:=fun j=>by
   by_cases h:j<n
   ·obtain⟨y,hy⟩:=c2 j (Nat.zero_le j) h
    exact⟨y,fun _=>hy⟩
   ·exact⟨0,fun q=>absurd q h⟩
  exact⟨fun j=>(hy j).choose,fun j hj=>(hy j).choose_spec hj⟩
 obtain⟨y,hy⟩:=this;have hp:∀j:Nat,j<n->0<=y j/\y j<size/\gt X (j:Int)=fr (y j) size:=fun j hj=>Bp (sx.turn j hj) sp (hy j hj)
 have gy:∀j:Nat,j<n->gt (kR y n) (j:Int)=y j:=fun j hj=>fU y hj
 refine⟨kR y n,⟨bP y n,fun j hj=>?_,fun i hi=>?_⟩,?_⟩
 ·rw[gy j hj];exact⟨(hp j hj).1,(hp j hj).2.1⟩
 ·obtain⟨z,hz⟩:=sx.eqs i hi
  rw[ig n (g:=fun j=>(Ext.el g i j:Rat)*rq (y j) size) (fun j hj=>by rw[hy j hj]),wX _ _ (show size≠0 by omega),Bq w (show Ext.Mk A n≠0 by omega) ht hi,<-es,jX (l:=z) (show size≠0 by omega),sI (show size≠0 by omega)]at hz;have h2:=(NO (show size≠0 by omega)).1 hz;rw[Ext.aQ n (f:=fun j=>Ext.el g i j*gt (kR y n) (j:Int)) (g:=fun j=>Ext.el g i j*y j) (fun j hj=>by rw[gy j hj]),h2];exact⟨-z,by rw[Int.mul_neg,Int.mul_comm size];omega⟩
 ·exact Kz sx.len (by rw[List.length_map,bP]) (fun j hj=>by
   rw[wY _ _ (by rw[bP];exact hj),gy j hj];exact(hp j hj).2.2)
def QR(n:Nat)(X Y:List Fc):Prop:=∃k:Nat,k<n/\(∀j:Nat,j<k->gt X (j:Int)=gt Y (j:Int))/\vq (gt X (k:Int))<vq (gt Y (k:Int))
structure Ua(g:List (List Int))(B:List Fc)(m n:Nat)(L:List (List Fc)):Prop where
 mem:∀X,X∈L↔oO g B m n X
 ord:L.Pairwise (QR n)
structure FB(h:af)(g:List (List Int))(B:List Fc)(m n s:Nat)(A:Nat->Ext.aR)(W many size:Int)(pa qa:Option Addr)(bs:Nat->Nat):Prop where
 hM:oX g m n
 st:bL g m n n s A
 w:wk B m W
 ht:∀i:Int,0<=i->i<m->cH (gt B i)/\(gt B i).d<=60
 hd:Rows Hd.cells 1 h pa n (kS bs (n+m) n)
 rows:∃hz,dQ hz h m (n+m) bs A
 rE:Rows nC 1 h qa m (Av B W m)
 em:many=Ext.Mk A n
 m64:many<=64
 es:size=W*many
section
variable{h:af}{g:List (List Int)}{B:List Fc}{m n s:Nat}{A:Nat->Ext.aR}{W many size:Int}{pa qa:Option Addr}{bs:Nat->Nat}
theorem FB.more{h':af}(t:FB h g B m n s A W many size pa qa bs)(e:Ext h h'):FB h' g B m n s A W many size pa qa bs:=
 ⟨t.hM,t.st,t.w,t.ht,t.hd.ext e,by obtain⟨hz,r⟩:=t.rows;exact⟨hz,r.more e⟩,t.rE.ext e,t.em,t.m64,t.es⟩
theorem FB.Kn(t:FB h g B m n s A W many size pa qa bs):Ext.Aw A (gG A B W m n) size n:=by
 have:=t.st.Kn (B:=B) t.w.pos;rw[<-t.em,<-t.es]at this;exact this
theorem FB.Ox(t:FB h g B m n s A W many size pa qa bs):0<W/\W<=12960000/\1<=many/\many<=64/\0<size/\size<=829440000:=by
 have h1:=t.w.pos;have h2:=t.w.gF t.hM.m4;have h3:=qG (A:=A) n (fun i hi=>t.st.diag hi);rw[<-t.em]at h3;have h4:=t.m64;have h5:W*many<=12960000*64:=Int.mul_le_mul h2 h4 om om;have h6:=Int.mul_pos h1 h3;have:=t.es;omega
theorem FB.lead(t:FB h g B m n s A W many size pa qa bs){k:Nat}(hk:k<n):1<=A k k/\A k k<=64:=by
 have h1:=t.st.diag hk;have h2:=(t.Kn).mk_le (k:=k+1) om;rw[<-t.em]at h2;have h3:A k k∣many:=Int.dvd_trans ⟨Ext.Mk A k,by show Ext.Mk A k*A k k=_;rw[Int.mul_comm]⟩ h2;have:=Int.le_of_dvd (by have:=t.Ox;omega) h3;have:=t.m64;omega
end
theorem zA{α:Type}[Inhabited α](l:List α){i:Nat}{I:Int}(eI:I=i)(h:i<l.length):l.take (i+1)=l.take i++[gt l I]:=by
 rw[List.take_succ_eq_append_getElem h]
 congr 2
 unfold gt;rw[eI,show((i:Int)).toNat=i from rfl,List.getD_eq_getElem?_getD,List.getElem?_eq_getElem h];rfl
theorem zv.over{L:List LE}{A B a b:Int}(h:zv gM L A B a b)(o:uj L A B):uj L a b:=by
 have r0:=h.r0;have r2:=h.r2;by_cases e:a=A
 ·subst e
  rcases o with o|o
  ·exact .inl o
  ·exact .inr (fun k k0 k1=>o k k0 om)
 ·exact .inr (fun k k0 k1=>h.c1 (a-1) k om om k0 om)
def oP(h:af)(b:Nat):af:=⟨b,Nat.min h.low b,h.m⟩
theorem Ho{h:af}{b:Nat}(hb:b<=h.next)(hl:h.low<=h.next):Ext (oP h b) h:=
 ⟨hb,fun _=>hl,by
  show Nat.min (Nat.min h.low b) b<=h.low;exact Nat.le_trans (Nat.min_le_left _ _) (Nat.min_le_left _ _),fun i hi=>rfl⟩
theorem KA{h0 h:af}{b:Nat}(e:Ext h0 h)(hb:h0.next<=b):Ext h0 (oP h b):=
 ⟨hb,fun _=>Nat.min_le_right _ _,Nat.le_min.2 ⟨e.wh,Nat.le_trans (Nat.min_le_right _ _) hb⟩,fun i hi=>e.get i hi⟩
theorem Rows.below{α:Type}{enc:α->List Value}{es:Nat}{h:af}{a:Option Addr}{n b:Nat}{l:List α}(p:Rows enc es h a n l)(hb:∀ad,a=some ad->ad.block<b):Rows enc es (oP h b) a n l:=by
 refine⟨?_,p.each,p.pos⟩;cases a with
 |none=>exact p.cells
 |some ad=>
  obtain⟨h1,h2,h3⟩:=p.cells;exact⟨h1,hb ad rfl,h3⟩
def CY(hd:List Hd)(g:List (List Int)):List LE:=List.zipWith LE.mk hd g
theorem Fi{hd:List Hd}{g:List (List Int)}(e:hd.length=g.length):(CY hd g).length=g.length:=by unfold CY;rw[List.length_zipWith];omega
theorem zB:∀{hd:List Hd} {g:List (List Int)},hd.length=g.length->(CY hd g).flatMap LE.cells=hd.flatMap Hd.cells
 | [],[],_=>rfl
 | [],_ :: _,h=>by simp at h
 |_ :: _,[],h=>by simp at h
 |a :: hd,r :: g,h=>by
  show LE.cells ⟨a,r⟩++(CY hd g).flatMap LE.cells=Hd.cells a++hd.flatMap Hd.cells;rw[zB (by simpa using h)];rfl
theorem zC:∀{hd:List Hd} {g:List (List Int)},hd.length=g.length->(CY hd g).map (·.row)=g
 | [],[],_=>rfl
 | [],_ :: _,h=>by simp at h
 |_ :: _,[],h=>by simp at h
 |a :: hd,r :: g,h=>by
  show r :: (CY hd g).map (·.row)=r :: g;rw[zC (by simpa using h)]
theorem QS{hd:List Hd}{g:List (List Int)}(e:hd.length=g.length){i:Int}(i0:0<=i)(i1:i<g.length):gt (CY hd g) i=⟨gt hd i,gt g i⟩:=by
 unfold CY gt;rw[List.getD_eq_getElem?_getD,List.getElem?_zipWith,List.getElem?_eq_getElem om,List.getElem?_eq_getElem om,List.getD_eq_getElem?_getD,List.getD_eq_getElem?_getD,List.getElem?_eq_getElem om,List.getElem?_eq_getElem om];rfl
theorem CO.dat{h0 h:af}{b N c:Nat}{hd:List Hd}{g:List (List Int)}(t:CO h0 h (some ⟨b,0,none⟩) N c hd g)(hl:h.low<=h.next)(gF:N<=100000)(fr:∀y:Int,0<=y->y<N->(gt hd y).n<=100000):bA (oP h b) h b N (CY hd g):=by
 have l1:=t.s.gr.hd.len;have l2:=t.s.gr.len;have hb:=t.qD.lt _ rfl;rcases t.qD with ⟨q,_⟩|⟨b',e,_,_,_,ho⟩
 ·cases q
 cases e;refine⟨Ho (Nat.le_of_lt hb) hl,?_,Nat.le_refl _,hb,by rw[Fi om];exact l2,Nat.min_le_right _ _,fun i i0 i1=>?_,gF⟩
 ·rw[zB om];exact ho
 ·rw[QS om i0 om]
  exact⟨(t.s.gr.row i i0 i1).below (fun ad dc=>t.Js _ rfl i i0 i1 ad dc),fr i i0 i1⟩
theorem bA.aaw{h0 h:af}{b n:Nat}{L:List LE}(t:bA h0 h b n L):pz nC 1 h (some ⟨b,0,none⟩) n (L.map (·.hd)) (L.map (·.row)):=by
 have ln:=t.len;refine⟨?_,by rw[List.length_map];exact ln,fun y y0 y1=>?_⟩
 ·have r:Rows LE.cells 1 h (some ⟨b,0,none⟩) L.length L:=ct.rows t.own Hc om t.lt
  rw[ln]at r;refine⟨?_,iF,om⟩;rw[List.flatMap_map];exact r.cells
 ·have hy:y.toNat<L.length:=om
  have e1:gt (L.map (·.hd)) y=(gt L y).hd:=by unfold gt;rw[List.getD_eq_getElem?_getD,List.getElem?_map,List.getElem?_eq_getElem hy,List.getD_eq_getElem?_getD,List.getElem?_eq_getElem hy];rfl
  have e2:gt (L.map (·.row)) y=(gt L y).row:=by unfold gt;rw[List.getD_eq_getElem?_getD,List.getElem?_map,List.getElem?_eq_getElem hy,List.getD_eq_getElem?_getD,List.getElem?_eq_getElem hy];rfl
  rw[e1,e2];exact(t.ok y y0 y1).1.ext t.ext
theorem zD{L L':List LE}{n:Nat}(hn:L.length=n)(p:aK 0 n L L')(s:aI gM L' 0 n)(nd:(L.map (·.row)).Nodup):(L'.map (·.row)).Perm (L.map (·.row))/\(L'.map (·.row)).Pairwise LL.lt:=by
 have hp:(L'.map (·.row)).Perm (L.map (·.row)):=by
  rw[List.perm_iff_count];intro x;have h:=p.sQ (fun e=>e.row == x);unfold List.count;rw[List.countP_map,List.countP_map];exact h
 refine⟨hp,?_⟩;have nd':(L'.map (·.row)).Nodup:=hp.nodup_iff.2 nd;have hl:L'.length=n:=by rw[p.len];exact hn
 rw[List.pairwise_iff_getElem];intro i j hi hj XT;rw[List.length_map]at hi hj;have h1:=s i j om om om;have g1:gt L' (i:Int)=L'[i]:=by unfold gt;rw[List.getD_eq_getElem?_getD,show((i:Int)).toNat=i from rfl,List.getElem?_eq_getElem hi];rfl
 have g2:gt L' (j:Int)=L'[j]:=by unfold gt;rw[List.getD_eq_getElem?_getD,show((j:Int)).toNat=j from rfl,List.getElem?_eq_getElem hj];rfl
 rw[g1,g2]at h1;rw[List.getElem_map,List.getElem_map];have h2:LL.le (L'[i]).row (L'[j]).row:=h1;refine Classical.byContradiction fun q=>?_
 have e:(L'[i]).row=(L'[j]).row:=LL.le_antisymm h2 (LL.not_lt.1 q);have h3:=(List.pairwise_iff_getElem.1 nd') i j (by rw[List.length_map];exact hi) (by rw[List.length_map];exact hj) XT;rw[List.getElem_map,List.getElem_map]at h3;exact h3 e
theorem FB.run{h:af}{g:List (List Int)}{B:List Fc}{m n s:Nat}{A:Nat->Ext.aR}{W many size:Int}{pa qa:Option Addr}{bs:Nat->Nat}(t:FB h g B m n s A W many size pa qa bs){d:Nat}(hd:d<=n):(Ext.nO A (gG A B W m n) size n d).length<=64:=by
 obtain⟨_,_,_,h4⟩:=Ext.u9 t.Kn d hd;rw[<-t.em]at h4;have h5:=qG (A:=A) (n-d) (fun i hi=>t.st.diag om);have h6:=t.m64;refine Classical.byContradiction fun q=>?_
 have:=Int.mul_le_mul (show(65:Int)<=((Ext.nO A (gG A B W m n) size n d).length:Int) by omega) (show(1:Int)<=Ext.Mk A (n-d) by omega) om om;omega
theorem vT:∀n,bE [.int .i64 0] n=(List.replicate n (0:Int)).flatMap nC
 |0=>rfl
 |n+1=>by rw[List.replicate_succ,List.flatMap_cons,<-vT n];rfl
theorem KS.one(h:af)(n:Nat)(hn:1<=n):KS h ((h.push 1 (bE [.int .i64 0] n)).push 1 [.slice (some ⟨h.next,0,none⟩) n n]) (some ⟨(h.push 1 (bE [.int .i64 0] n)).next,0,none⟩) 1 [⟨some ⟨h.next,0,none⟩,n,n⟩] [List.replicate n 0]:=by
 have x1:Ext h (h.push 1 (bE [.int .i64 0] n)):=Ext.push ..;have x2:Ext (h.push 1 (bE [.int .i64 0] n)) ((h.push 1 (bE [.int .i64 0] n)).push 1 [.slice (some ⟨h.next,0,none⟩) n n]):=Ext.push ..;have n1:(h.push 1 (bE [.int .i64 0] n)).next=h.next+1:=rfl;have o1:ct ((h.push 1 (bE [.int .i64 0] n))) h.next 1 (bE [.int .i64 0] n):=ct.push ..;have o2:ct ((h.push 1 (bE [.int .i64 0] n)).push 1 [.slice (some ⟨h.next,0,none⟩) n n]) (h.push 1 (bE [.int .i64 0] n)).next 1 [.slice (some ⟨h.next,0,none⟩) n n]:=ct.push ..;have Yt:=o1.ext x2 om;have n2:((h.push 1 (bE [.int .i64 0] n)).push 1 [.slice (some ⟨h.next,0,none⟩) n n]).next=h.next+2:=rfl;have hz:∀y:Int,0<=y->y<(1:Nat)->gt [(⟨some ⟨h.next,0,none⟩,n,n⟩:Hd)] y=⟨some ⟨h.next,0,none⟩,n,n⟩:=fun y y0 y1=>by
  obtain rfl:y=0:=om
  rfl
 refine⟨x1.trans x2,⟨?_,rfl,fun y y0 y1=>?_⟩,fun y y0 y1=>?_,fun ad dc=>?_,fun y y0 y1 ad dc=>?_⟩
 ·have:=ct.rows (enc:=Hd.cells) (es:=1) (l:=[(⟨some ⟨h.next,0,none⟩,n,n⟩:Hd)]) o2 iF om om
  exact this
 ·rw[hz y y0 y1]
  obtain rfl:y=0:=om
  rw[show ct ((h.push 1 (bE [.int .i64 0] n)).push 1 [.slice (some ⟨h.next,0,none⟩) n n]) h.next 1 (bE [.int .i64 0] n)=ct ((h.push 1 (bE [.int .i64 0] n)).push 1 [.slice (some ⟨h.next,0,none⟩) n n]) h.next 1 ((List.replicate n (0:Int)).flatMap nC) by rw[<-vT]]at Yt;have:=ct.rows (enc:=nC) (es:=1) (l:=List.replicate n (0:Int)) Yt gC om om;rw[List.length_replicate]at this;exact this
 ·rw[hz y y0 y1];exact fun _=>.inl rfl
 ·cases dc;show h.next<=h.next+1;omega
 ·rw[hz y y0 y1]at dc;cases dc;exact Nat.le_refl _
variable{F:bg}{call head arith a0 b0 d0 f0 g0 j0 o0 t0 ofNat u0 place w0 nz d1 rd wr push next j1 nat z1 d2 f2 i2 j2 p2 s2 part y2 z2 b3 c3 aB aH d3 f3 lt ne i3 j3 n3 yn uO o3 q3 r3 s3 v3:_}(hA:AP F ⟨call,head,arith,a0,b0,d0,f0,g0,j0,o0,t0,ofNat,u0,place,w0,nz,d1,rd,wr,push,next,j1,nat,z1,d2,f2,i2,j2,p2,s2,part,y2,z2,b3,c3,aB,aH,d3,f3,lt,ne,i3,j3,n3,yn,uO,o3,q3,r3,s3,v3⟩)
include hA
theorem XD{hs:af}(dE:hs.low<=hs.next){g:List (List Int)}{B:List Fc}{m n s:Nat}{A:Nat->Ext.aR}{W many size:Int}{pa qa:Option Addr}{bs:Nat->Nat}(t:FB hs g B m n s A W many size pa qa bs){k:Nat}(hk:k<n){xb xo xc pc qc fc fn U2 wd:Nat}{fa:Option Addr}{x:List Int}(hx:Rows nC 1 hs (some ⟨xb,xo,none⟩) n x){NI K F right L FN FI:Int}(eK:K=k)(eF:F=A k k)(eL:L=Ext.nN A (gG A B W m n) size n k x)(L0:0<=L)(L1:L<size){base:List (List Int)}(hb:base.length<=5000){Q:Exit->SS->Prop}
  (hQ:∀h' a N c hd,CO hs h' a N c hd (base++(List.range (A k k).toNat).map (Ext.jF A (gG A B W m n) size n k x))->Q (.exit 4) ⟨[(0,.slice pa n pc),(1,.slice qa m qc),(2,.int .i64 W),(3,.int .i64 many),(9,.int .i64 NI),(10,.int .i64 size),(12,.int .i64 K),(13,.slice (some ⟨bs k,0,none⟩) wd U2),(14,.int .i64 F),(15,.int .i64 right),(16,.slice a N c),(55,.slice fa fn fc),(56,.int .i64 FN),(57,.int .i64 FI)],13,[],h'⟩) :
  ∀(d i:Nat) (I:Int) (h:af) (a:Option Addr) (N c:Nat) (hd:List Hd),(A k k).toNat-i<=d->i<=(A k k).toNat->I=i->CO hs h a N c hd (base++(List.range i).map (Ext.jF A (gG A B W m n) size n k x))->
   head 30 16 13 ⟨[(0,.slice pa n pc),(1,.slice qa m qc),(2,.int .i64 W),(3,.int .i64 many),(9,.int .i64 NI),(10,.int .i64 size),(12,.int .i64 K),(13,.slice (some ⟨bs k,0,none⟩) wd U2),(14,.int .i64 F),(15,.int .i64 right),(16,.slice a N c),(18,.slice (some ⟨xb,xo,none⟩) n xc),(19,.int .i64 L),(55,.slice fa fn fc),(56,.int .i64 FN),(57,.int .i64 FI),(76,.int .i64 F),(77,.int .i64 I)],13,[],h⟩ Q:=by
 intro d;have n4:=t.hM.n4;obtain⟨W0,W1,y0,y1,s0,s1⟩:=t.Ox;obtain⟨f1,f64⟩:=t.lead hk
 induction d with
 |zero=>
  intro i I h a N c hd xw hi eI lo;refine hA.au Tryz.func30 x30.2 (zc ?_);refine br (I<F) (by rw[aA hA]) (fun q=>om) (fun _=>?_)<;>refine zc ?_;obtain rfl:i=(A k k).toNat:=om
  exact hQ h a N c hd lo
 |succ d ih=>
 intro i I h a N c hd xw hi eI lo;by_cases ci:i<(A k k).toNat
 rotate_left
 ·refine hA.au Tryz.func30 x30.2 (zc ?_)
  refine br (I<F) (by rw[aA hA]) (fun q=>om) (fun _=>?_)<;>refine zc ?_;obtain rfl:i=(A k k).toNat:=om
  exact hQ h a N c hd lo
 have xe:=lo.s.ext;have ar:=xe.aD dE;refine hA.au Tryz.func30 x30.2 (zc ?_);refine br (I<F) (by rw[aA hA]) (fun _=>?_) (fun q=>om)<;>refine zc ?_;refine zq ?_;refine zx hA ar (hx.ext xe) om (fun h1 b1 c1 o1 x1 lb=>⟨_,_,_,rfl,?_⟩);obtain⟨k1,k2,k3,k4⟩:=o1;obtain⟨h9,Bh⟩:∃z,z=aH h1 13:=⟨_,rfl⟩;have TK:Ext h1 h9:=by rw[Bh];exact aw hA _ _
 have x9:=x1.trans TK;obtain⟨q,eq⟩:∃z,z=L / F:=⟨_,rfl⟩;obtain⟨z,ez⟩:∃z,z=size / F:=⟨_,rfl⟩;have m1:arith .quo .i64 L F=q:=by rw[eq];exact tF hA L0 om om
 have m2:arith .quo .i64 size F=z:=by rw[ez];exact tF hA om om om
 have q0:0<=q/\q<=L:=by rw[eq];exact⟨Int.ediv_nonneg L0 om,Int.ediv_le_self _ L0⟩
 have z0:0<=z/\z<=size:=by rw[ez];exact⟨Int.ediv_nonneg om om,Int.ediv_le_self _ om⟩
 obtain⟨u,eu⟩:∃u,u=I*z:=⟨_,rfl⟩;have ub:0<=u/\u<=64*829440000:=by
  rw[eu];exact⟨Int.mul_nonneg om z0.1,Int.mul_le_mul om om z0.1 om⟩
 have m3:arith .mul .i64 I z=u:=by rw[eu];exact jg hA (by rw[<-eu];omega) (by rw[<-eu];omega)
 obtain⟨v,ev⟩:∃v,v=q+u:=⟨_,rfl⟩;have m4:arith .add .i64 q u=v:=by rw[ev];exact aG hA om om
 have lx:=hx.len;have aax:=k1.ext TK k2;obtain⟨h2,w1,w2,w3⟩:=ct.setRow aax gC (i:=k) om v;have w1:wr h9 b1 (place 0 K 1) [.int .i64 v] h2:=yL hA (by rw[eK,Nat.zero_add];exact w1);have xh2:Ext h h2:=w3.ext x9 lb;have e1:x.set k v=Ext.jF A (gG A B W m n) size n k x i:=by
  unfold Ext.jF;rw[ev,eu,ez,eq,eL,eF,eI]
 have Xc:c1=az 1 n:=by rcases k4 with ⟨_,q⟩|q;omega;exact q
 have wI:=lo.more xh2;have nx2:h2.next=h9.next:=w3.next;have nx9:=x9.next;have b2:b1<h2.next:=by have:=TK.next;omega
 have Ub:Rows nC 1 h2 (some ⟨b1,0,none⟩) n (x.set k v):=by
  have:=ct.rows w2 gC om b2;rw[List.length_set,lx]at this;exact this
 rw[e1]at Ub;have al:∀ad,a=some ad->ad.block<h.next:=fun ad dc=>lo.qD.lt ad dc
 have xh:=xe.next;have hN:N<=6000:=by
  rw[<-lo.s.gr.len,List.length_append,List.length_map,List.length_range];omega
 refine zq ?_;rw[<-Bh]
 (refine zq ?_;repeat ((first|rw[m1]|rw[m2]|rw[m3]|rw[m4]);refine zq ?_))
 refine wU hA Bd iF om IK (v:=(⟨some ⟨b1,0,none⟩,n,c1⟩:Hd)) wI.qD om (fun b' h' a' x' n' T2 k'=>?_);have t2:=wI.add (k:=⟨some ⟨b1,0,none⟩,n,c1⟩) Ub (fun _=>.inr Xc) (fun ad dc=>by cases dc;show hs.next<=b1;omega) (fun ad dc bd mu=>by cases mu;have:=al ad dc;show b1≠_;omega) a' (x' hs wI.s.ext lo.s.fr) n' T2 k';have et:base++(List.range i).map (Ext.jF A (gG A B W m n) size n k x)++[Ext.jF A (gG A B W m n) size n k x i]=base++(List.range (i+1)).map (Ext.jF A (gG A B W m n) size n k x):=by
  rw[List.range_succ,List.map_append,List.append_assoc];rfl
 rw[et]at t2;clear eL e1 Ub et;generalize az 1 (N+1)=cc at *;obtain⟨N1,eN1⟩:∃z,z=N+1:=⟨_,rfl⟩;rw[<-eN1]at t2 ⊢;refine zq ?_;rw[aG hA om om];exact ih (i+1) (I+1) h' (some ⟨b',0,none⟩) N1 cc _ om om om t2
omit hA in
theorem QT(a b n:Int):(a-b % n) % n=(a-b) % n:=by
 have h:=Int.emod_add_mul_ediv b n;have e:a-b % n=(a-b)+n*(b / n):=om
 rw[e,Int.add_mul_emod_self_left]
theorem Uc{hs:af}(dE:hs.low<=hs.next){g:List (List Int)}{B:List Fc}{m n s:Nat}{A:Nat->Ext.aR}{W many size:Int}{pa qa:Option Addr}{bs:Nat->Nat}(t:FB hs g B m n s A W many size pa qa bs){k:Nat}(hk:k<n){pc qc fc fn U2 wd:Nat}{fa:Option Addr}{fh:List Hd}{hz:af}{l:List (List Int)}(lf:KS hz hs fa fn fh l)(hl:∀x,x∈l->Ext.CD A (gG A B W m n) size n (k+1) x)(f64:fn<=64){NI K F right FN:Int}(eN:NI=n)(eK:K=k)(eF:F=A k k)(eR:right=gG A B W m n k)(eFN:FN=fn)(ewd:wd=n+m)(erw:U2=az 1 wd){Q:Exit->SS->Prop}
  (hQ:∀h' a N c hd,CO hs h' a N c hd (Ext.iz A (gG A B W m n) size n k l)->Q (.exit 2) ⟨[(0,.slice pa n pc),(1,.slice qa m qc),(2,.int .i64 W),(3,.int .i64 many),(9,.int .i64 NI),(10,.int .i64 size),(12,.int .i64 K),(16,.slice a N c)],13,[],h'⟩) :
  ∀(d i:Nat) (I:Int) (h:af) (a:Option Addr) (N c:Nat) (hd:List Hd),fn-i<=d->i<=fn->I=i->CO hs h a N c hd (Ext.iz A (gG A B W m n) size n k (l.take i))->
   head 30 11 13 ⟨[(0,.slice pa n pc),(1,.slice qa m qc),(2,.int .i64 W),(3,.int .i64 many),(9,.int .i64 NI),(10,.int .i64 size),(12,.int .i64 K),(13,.slice (some ⟨bs k,0,none⟩) wd U2),(14,.int .i64 F),(15,.int .i64 right),(16,.slice a N c),(55,.slice fa fn fc),(56,.int .i64 FN),(57,.int .i64 I)],13,[],h⟩ Q:=by
 intro d;have n4:=t.hM.n4;have m4:=t.hM.m4;have n1:=t.hM.n1;have m1:=t.hM.m1;have sum:=t.st.sum;obtain⟨W0,W1,y0,y1,s0,s1⟩:=t.Ox;obtain⟨f1,f64'⟩:=t.lead hk;have ll:=lf.gr.len;have r0:0<=right/\right<=829440000:=by
  have e1:=Int.emod_nonneg (jU A B W m n k) (show W≠0 by omega);have e2:=Int.emod_lt_of_pos (jU A B W m n k) W0;have e3:right=jU A B W m n k % W*many:=by rw[eR];unfold gG;rw[t.em]
  rw[e3];exact⟨Int.mul_nonneg e1 om,Int.mul_le_mul (show jU A B W m n k % W<=12960000 by omega) (show many<=64 by omega) om om⟩
 induction d with
 |zero=>
  intro i I h a N c hd xw hi eI lo;refine hA.au Tryz.func30 x30.2 (zc ?_);refine br (I<FN) (by rw[aA hA]) (fun q=>om) (fun _=>?_)<;>refine zc ?_;rw[List.take_of_length_le om]at lo;exact hQ h a N c hd lo
 |succ d ih=>
 intro i I h a N c hd xw hi eI lo;by_cases ci:i<fn
 rotate_left
 ·refine hA.au Tryz.func30 x30.2 (zc ?_)
  refine br (I<FN) (by rw[aA hA]) (fun q=>om) (fun _=>?_)<;>refine zc ?_;rw[List.take_of_length_le om]at lo;exact hQ h a N c hd lo
 have xe:=lo.s.ext;have ar:=xe.aD dE;obtain⟨x,ex⟩:∃x,x=gt l I:=⟨_,rfl⟩;have X5:x∈l:=by rw[ex];exact uY l om om
 have sx:=hl x X5;have KB:=lf.gr.row I om om;have Ah:=KB.len;rw[<-ex,sx.len]at Ah;rw[<-ex,<-Ah]at KB;obtain⟨fb,fo,rfl,_,q1⟩:=(lf.gr.ext xe).jJ (i:=I) om om;rw[<-Ah]at q1;obtain⟨xb,xo,exa,_⟩:=KB.at (i:=0) om om;rw[exa]at KB q1;obtain⟨xc,exc⟩:∃z,z=(gt fh I).c:=⟨_,rfl⟩;rw[<-exc]at q1;have r1:rd h fb (place fo I 1) 1 [.slice (some ⟨xb,xo,none⟩) n xc]:=aE hA q1;obtain⟨zO,rws⟩:=(t.more xe).rows;have vj:=rws.jU (y:=k) om;have front:Rows nC 1 h (some ⟨bs k,0,none⟩) n (kR (A k) n):=by
  refine⟨?_,gC,om⟩;have:=vj.cells.head (m:=n) om;have e:((kR (A k) (n+m)).flatMap nC).take (n*1)=(kR (A k) n).flatMap nC:=by
   rw[Ha gC]
   congr 1
   apply List.ext_getElem?;intro j;rw[List.getElem?_take];by_cases c:j<n
   ·rw[if_pos c,jV _ om,jV _ c]
   ·rw[if_neg c,List.getElem?_eq_none (by rw[bP];omega)]
  rw[e]at this;exact this
 have Jl:cO U2=wd:=by rw[erw];exact cA (by unfold aS;omega)
 obtain⟨S,eS⟩:∃S,S=Ext.iG A n k x:=⟨_,rfl⟩;obtain⟨S2,eS2⟩:∃z,z=S % size:=⟨_,rfl⟩;have S20:0<=S2/\S2<size:=by rw[eS2];exact⟨Int.emod_nonneg _ om,Int.emod_lt_of_pos _ s0⟩
 obtain⟨L0,eL0⟩:∃z,z=right-S2:=⟨_,rfl⟩;have m1':arith .sub .i64 right S2=L0:=by rw[eL0];exact bN hA om om
 obtain⟨L,eL⟩:∃z,z=L0 % size:=⟨_,rfl⟩;have Lr:0<=L/\L<size:=by rw[eL];exact⟨Int.emod_nonneg _ om,Int.emod_lt_of_pos _ s0⟩
 have eLX:L=Ext.nN A (gG A B W m n) size n k x:=by
  unfold Ext.nN;rw[eL,eL0,eS2,QT,eS,eR]
 have fl:=Int.emod_add_mul_ediv L0 size;rw[<-eL]at fl;obtain⟨fq,efq⟩:∃z,z=L0 / size:=⟨_,rfl⟩;rw[<-efq]at fl;obtain⟨u,eu⟩:∃z,z=size*fq:=⟨_,rfl⟩;rw[<-eu]at fl;have m2:arith .mul .i64 size fq=u:=by rw[eu];exact jg hA (by rw[<-eu];omega) (by rw[<-eu];omega)
 have m3:arith .sub .i64 L0 u=L:=by rw[bN hA om om];omega
 have bl:(Ext.iz A (gG A B W m n) size n k (l.take i)).length<=5000:=by
  have h1:=IE (fun x=>(List.range (A k k).toNat).map (Ext.jF A (gG A B W m n) size n k x)) 64 (fun x=>by rw[List.length_map,List.length_range];omega) (l.take i);have h2:(l.take i).length<=64:=by rw[List.length_take];omega
  have h3:(l.take i).length*64<=64*64:=Nat.mul_le_mul_right _ h2;unfold Ext.iz;omega
 refine hA.au Tryz.func30 x30.2 (zc ?_);refine br (I<FN) (by rw[aA hA]) (fun _=>?_) (fun q=>om)<;>refine zc ?_;refine zq ?_;refine⟨by rw[Mu hA,Jl];exact⟨om,om⟩,?_⟩;refine zc ?_;rw[show nat NI=n by rw[H2 hA];omega];refine zq ?_;refine CF hA ar front (KB.ext xe) (Nat.le_refl n) om (B:=600000000000000) (fun j hj=>?_) om s0 om (fun v hv=>⟨v,rfl,?_⟩)
 ·rw[fU _ hj]
  have h1:=t.st.small t.hM (i:=k) om j;have h2:(gt x (j:Int)).natAbs<=829440000:=by
   by_cases c:j<k+1
   ·rw[sx.zero j c];decide
   ·have:=sx.uO j om hj;omega
  have:=Ext.jW h1 h2;omega
 obtain rfl:v=S2:=by
  rw[hv,eS2,eS]
  congr 1
  unfold Ext.iG;exact Ext.aQ n (fun j hj=>by rw[fU _ hj])
 (refine zq ?_;repeat ((first|rw[m1']);refine zq ?_))
 refine rD hA s0 om om ar (fun q' WL=>⟨q',rfl,?_⟩);obtain rfl:q'=fq:=by rw[WL,efq]
 (refine zq ?_;repeat ((first|rw[m1']|rw[m2]|rw[m3]);refine zq ?_))
 refine XD hA dE t hk KB eK eF eLX Lr.1 Lr.2 (base:=Ext.iz A (gG A B W m n) size n k (l.take i)) bl (fun h2 a2 N2 c2 UB wI=>?_) (A k k).toNat 0 0 h a N c hd om (Nat.zero_le _) rfl (by rw[List.range_zero,List.map_nil,List.append_nil];exact lo);have et:Ext.iz A (gG A B W m n) size n k (l.take i)++(List.range (A k k).toNat).map (Ext.jF A (gG A B W m n) size n k x)=Ext.iz A (gG A B W m n) size n k (l.take (i+1)):=by
  have h1:l.take (i+1)=l.take i++[x]:=by
   rw[ex];exact zA l eI om
  rw[h1];unfold Ext.iz;rw[List.flatMap_append];simp
 rw[et]at wI;refine zq ?_;rw[aG hA om om];exact ih (i+1) (I+1) h2 a2 N2 c2 UB om om om wI
set_option maxHeartbeats 4000000 in
theorem Oy {h0 : af} (ar : h0.low ≤ h0.next) {b n c : Nat} {L0 : List LE} {A B : Int} (A0 : 0 ≤ A) (bn : B ≤ n) (ov : uj L0 A B)
    (rec : ∀ (h : af) (L : List LE) (x y dD : Int) (Q : Value → af → Prop), 0 ≤ x → x ≤ y → y ≤ n → (y - x).toNat < (B - A).toNat → 0 ≤ dD → dD ≤ 100 → uj L x y → bA h0 h b n L → (∀ h' L', bA h0 h' b n L' → aK x y L L' → aI gM L' x y → Q (.tuple #[]) h') → call 74 [.slice (some ⟨b, 0, none⟩) n c, .int .i64 x, .int .i64 y, .int .i64 dD, .func (.func 51) #[] #[]] h Q) {Q : Exit → SS → Prop}
    (hQ : ∀ h' L e kn, bA h0 h' b n L → aK A B L0 L → aI gM L A B → Q .ret ⟨e, kn, [], h'⟩) :
    ∀ (m : Nat) (x y dD : Int) (wb wp : Bool) (h : af) (L : List LE), (y - x).toNat ≤ m → 0 ≤ dD → dD ≤ 100 → bA h0 h b n L → aK A B L0 L → zv gM L A B x y →
      head 74 2 0 ⟨[(0, .slice (some ⟨b, 0, none⟩) n c), (1, .int .i64 x), (2, .int .i64 y), (3, .int .i64 dD), (4, .func (.func 51) #[] #[]), (10, .bool wb), (11, .bool wp)], 0, [], h⟩ Q := by
  intro m
  induction m with
  | zero =>
    intro x y dD wb wp h L hm l0 l1 t hp hd
    have gF := t.gF
    have r0 := hd.r0
    have r1 := hd.r1
    have r2 := hd.r2
    have e1 : arith .sub .i64 y x = y - x := bN hA om om
    refine hA.au Tryz.func74 Gx (zc ?_)
    rw [e1]
    refine br (y - x ≤ 12) (by rw [jL hA]) (fun _ => ?_) (fun q => by omega) <;> refine zc ?_
    refine zf hA ar om om om t (fun h1 L1 t1 uV fV => ?_)
    refine zc ?_
    exact hQ _ _ _ _ t1 (hp.trans (uV.wide A0 r0 r2)) ((hd.perm A0 uV).done fV)
  | succ m ih =>
    intro x y dD wb wp h L hm l0 l1 t hp hd
    have gF := t.gF
    have r0 := hd.r0
    have r1 := hd.r1
    have r2 := hd.r2
    have e1 : arith .sub .i64 y x = y - x := bN hA om om
    obtain ⟨l, hl⟩ : ∃ z, z = y - x := ⟨_, rfl⟩
    rw [← hl] at e1
    refine hA.au Tryz.func74 Gx (zc ?_)
    rw [e1]
    refine br (l ≤ 12) (by rw [jL hA]) (fun _ => ?_) (fun q => ?_) <;> refine zc ?_
    · refine zf hA ar om om om t (fun h1 L1 t1 uV fV => ?_)
      refine zc ?_
      exact hQ _ _ _ _ t1 (hp.trans (uV.wide A0 r0 r2)) ((hd.perm A0 uV).done fV)
    refine br (dD = 0) (by rw [cY hA]) (fun _ => ?_) (fun q2 => ?_) <;> refine zc ?_
    · refine QB hA ar om om om t (fun h1 L1 t1 uV fV => ?_)
      refine zc ?_
      exact hQ _ _ _ _ t1 (hp.trans (uV.wide A0 r0 r2)) ((hd.perm A0 uV).done fV)
    have Wv : ∀ (x' y' Oz : Int) (wb wp : Bool) (h : af) (L : List LE), (y' - x').toNat < (y - x).toNat → 0 ≤ Oz → Oz ≤ 100 → bA h0 h b n L → aK A B L0 L → zv gM L A B x' y' →
      head 74 2 0 ⟨[(0, .slice (some ⟨b, 0, none⟩) n c), (1, .int .i64 x'), (2, .int .i64 y'), (3, .int .i64 Oz), (4, .func (.func 51) #[] #[]), (10, .bool wb), (11, .bool wp)], 0, [], h⟩ Q := fun x' y' Oz wb wp h L w => ih x' y' Oz wb wp h L om
    clear ih
    refine br (wb = false) (by rw [cB hA]; cases wb <;> rfl) (fun qb => ?_) (fun qb => ?_) <;> refine zc ?_
    focus
      refine Ot hA ar om om om t (fun h1 L1 t1 uV => ?_)
      refine zc ?_
      obtain ⟨CZ, zN⟩ : ∃ z, z = dD - 1 := ⟨_, rfl⟩
      have e2 : arith .sub .i64 dD 1 = CZ := by rw [zN]; exact bN hA om om
      rw [e2]
      have HY := hd.perm A0 uV
      have uV := hp.trans (uV.wide A0 r0 r2)
      have l2 : 0 ≤ CZ := by omega
      have l3 : CZ ≤ 100 := by omega
      clear zN e2 t hp hd
    rotate_left
    focus
      have t1 := t
      have uV := hp
      have HY := hd
      have l2 := l0
      have l3 := l1
      obtain ⟨h1, hh1⟩ : ∃ z, z = h := ⟨_, rfl⟩
      obtain ⟨L1, KM⟩ : ∃ z, z = L := ⟨_, rfl⟩
      obtain ⟨CZ, zN⟩ : ∃ z, z = dD := ⟨_, rfl⟩
      rw [← hh1, ← KM] at t1
      rw [← hh1, ← zN]
      rw [← KM] at uV HY
      rw [← zN] at l2 l3
      clear zN hh1 KM t hp hd
    all_goals
      refine Of hA ar om om om t1 (fun h2 p k t2 p0 p1 => ⟨_, _, rfl, ?_⟩)
      refine zc ?_
      refine br (k = 2) (by rw [cY hA]) (fun qk => ?_) (fun qk => ?_) <;> refine zc ?_
      focus
        refine T6 hA ar om om om t2 (fun h3 L3 t3 O5 => ?_)
        refine zc ?_
        have Ud := HY.perm A0 O5
        have O5 := uV.trans (O5.wide A0 r0 r2)
        obtain ⟨p3, hp⟩ : ∃ z, z = (y - 1) - (p - x) := ⟨_, rfl⟩
        have g1 : arith .sub .i64 y 1 = y - 1 := bN hA om om
        have g2 : arith .sub .i64 p x = p - x := bN hA om om
        have g3 : arith .sub .i64 (y - 1) (p - x) = p3 := by rw [hp]; exact bN hA om om
        have p4 : x ≤ p3 := by omega
        have p5 : p3 < y := by omega
        rw [g1, g2, g3]
        clear hp g1 g2 g3 p0 p1 t1 t2 uV HY
      rotate_left
      focus
        obtain ⟨h3, hh⟩ : ∃ z, z = h2 := ⟨_, rfl⟩; subst hh
        obtain ⟨L3, hh⟩ : ∃ z, z = L1 := ⟨_, rfl⟩; subst hh
        obtain ⟨p3, hh⟩ : ∃ z, z = p := ⟨_, rfl⟩; subst hh
        have t3 := t2
        have Ud := HY
        have O5 := uV
        have p4 := p0
        have p5 := p1
        clear p0 p1 t2 uV HY
      all_goals
        cases wb <;> cases wp <;> first | exact absurd qb (by decide) | exact absurd rfl qb | refine zc ?_
      all_goals first
        | (refine br (k = 1) (cY hA k 1) (fun _ => ?_) (fun _ => ?_) <;> refine zc ?_)
        | (refine br ((1 : Int) = 1) (cY hA 1 1) (fun _ => ?_) (fun q => absurd rfl q); refine zc ?_)
        | skip
      all_goals first
        | (refine XC hA ar om om om (Ud.over (ov.perm A0 O5)) t3 (fun h4 L4 u t4 MC zM => ⟨_, rfl, ?_⟩)
           cases u
           focus
             refine zc ?_
             have XE := Ud.perm A0 MC
             have MC := O5.trans (MC.wide A0 r0 r2)
             clear t3 O5 Ud zM
           rotate_left
           focus
             refine zc ?_
             exact hQ _ _ _ _ t4 (O5.trans (MC.wide A0 r0 r2)) ((Ud.perm A0 MC).done (zM rfl)))
        | (obtain ⟨h4, hh⟩ : ∃ z, z = h3 := ⟨_, rfl⟩; subst hh
           obtain ⟨L4, hh⟩ : ∃ z, z = L3 := ⟨_, rfl⟩; subst hh
           have t4 := t3
           have XE := Ud
           have MC := O5
           clear t3 O5 Ud)
      all_goals
        have hv4 := XE.over (ov.perm A0 MC)
        obtain ⟨h5, sN⟩ : ∃ z, z = aH h4 17 := ⟨_, rfl⟩
        have x5 : Ext h4 h5 := by rw [sN]; exact aw hA _ _
        have t5 := t4.more x5
        refine br (0 < x) (by rw [cS hA]) (fun cx => ?_) (fun cx => ?_) <;> refine zc ?_
        focus
          rw [← sN]
          obtain ⟨x', Q7⟩ : ∃ z, z = x - 1 := ⟨_, rfl⟩
          have e2 : arith .sub .i64 x 1 = x' := by rw [Q7]; exact bN hA om om
          obtain ⟨QC, QD, QF, b5, g5, f5, r5⟩ := t5.read (i := x') om om
          obtain ⟨CP, CQ, CS, QG, C4, O4, CT⟩ := t5.read (i := p3) om om
          have q5 := aE hA r5
          have Lq := aE hA CT
          (refine zq ?_; repeat ((first | rw [e2]); refine zq ?_))
          refine fz hA (aC hA h5) (dH hA f5) (dH hA O4) (fun u h5a hu x5a => ⟨_, rfl, ?_⟩)
          have t5b := dK hA ar t5 x5a
          refine zc ?_
          generalize aB h5 h5a = h5b at *
          refine br (0 ≤ u) (by rw [cB hA, aA hA]; by_cases z : u < 0 <;> simp [z] <;> omega) (fun cu => ?_) (fun cu => ?_) <;> refine zc ?_
          focus
            rw [hu] at cu
            have w : gM (gt L4 p3) (gt L4 (x - 1)) := by rw [← Q7]; exact LL.not_lt.1 (fun w => by have := cT.2 w; omega)
            refine Oe hA ar om om p4 p5 t5b (fun h6 L6 e t6 CW e0 e1 he => ⟨_, rfl, ?_⟩)
            refine zc ?_
            refine Wv e y CZ _ _ h6 L6 om l2 l3 t6 (MC.trans (CW.wide A0 r0 r2)) (zv.equal (XE.perm A0 CW) om om (fun p q p0 p1 q0 q1 => ?_))
            refine dR.trans _ _ _ (he p p0 p1) (dR.trans _ _ _ w ?_)
            have := (hv4.perm om CW).resolve_left om q q0 q1
            rwa [CW.out (x - 1) om om] at this
          clear t5
          have t5 := t5b
        rotate_left
        focus
          rw [← sN]
          clear sN
          obtain ⟨h5b, hh⟩ : ∃ z, z = h5 := ⟨_, rfl⟩; subst hh
      all_goals
        refine QH hA ar om om p4 p5 t5 (fun h6 L6 zQ r t6 CW m0 m1 k1 k2 => ⟨_, _, rfl, ?_⟩)
        have hd6 := XE.perm A0 CW
        have hv6 := hv4.perm om CW
        have CW := MC.trans (CW.wide A0 r0 r2)
        have v1 : uj L6 x zQ := by
          rcases hv6 with o | o
          · exact .inl o
          · exact .inr (fun k k0 k1 => o k k0 om)
        have v2 : uj L6 (zQ + 1) y := .inr (fun k k0 k1 => by rw [show zQ + 1 - 1 = zQ by omega]; exact k2 k om k1)
        have u1 : arith .sub .i64 zQ x = zQ - x := bN hA om om
        have u2 : arith .sub .i64 y zQ = y - zQ := bN hA om om
        have u3 : arith .add .i64 zQ 1 = zQ + 1 := aG hA om om
        obtain ⟨q8, hq8⟩ : ∃ z, z = arith .quo .i64 l 8 := ⟨_, rfl⟩
        (refine zq ?_; repeat ((first | rw [u1] | rw [u2]); refine zq ?_))
        rw [← hq8]
        clear hq8
        refine br (zQ - x < y - zQ) (by rw [aA hA]) (fun cm => ?_) (fun cm => ?_) <;> refine zc ?_
        focus
          refine rec h6 L6 x zQ CZ _ om m0 om om l2 l3 v1 t6 (fun h7 L7 t7 IV hs7 => ?_)
          refine zc ?_
          rw [u3]
          exact Wv (zQ + 1) y CZ _ _ h7 L7 om l2 l3 t7 (CW.trans (IV.wide A0 r0 om)) (zv.left dR A0 hd6 m0 m1 k1 k2 IV hs7)
        focus
          rw [u3]
          refine rec h6 L6 (zQ + 1) y CZ _ om om om om l2 l3 v2 t6 (fun h7 L7 t7 IV hs7 => ?_)
          refine zc ?_
          exact Wv x zQ CZ _ _ h7 L7 om l2 l3 t7 (CW.trans (IV.wide A0 om r2)) (zv.right dR A0 hd6 m0 m1 k1 k2 IV hs7)
theorem Ue{h0:af}(ar:h0.low<=h0.next){b n c:Nat}:∀(N:Nat) (h:af) (L:List LE) (x y dD:Int) (Q:Value->af->Prop),(y-x).toNat<N->0<=x->x<=y->y<=n->0<=dD->dD<=100->uj L x y->bA h0 h b n L->(∀h' L',bA h0 h' b n L'->aK x y L L'->aI gM L' x y->Q (.tuple #[]) h')->call 74 [.slice (some ⟨b,0,none⟩) n c,.int .i64 x,.int .i64 y,.int .i64 dD,.func (.func 51) #[] #[]] h Q:=by
 intro N
 induction N with
 |zero=>intro h L x y dD Q w;omega
 |succ N ih=>
  intro h L x y dD Q w x0 xy yn l0 l1 ov t hQ;have df:=ar
  replace ar:=t.ext.aD ar
  refine hA.aO Tryz.func74 Gx (hA.alike _ _ _ rfl) ar (zc ?_);refine Oy hA df (c:=c) (L0:=L) x0 yn ov (fun h L x' y' dD Q a1 a2 a3 a4 a5 a6 a7 a8 a9=>ih h L x' y' dD Q om a1 a2 a3 a5 a6 a7 a8 a9) (fun h' L' e kn t' hp hs=>?_) (y-x).toNat x y dD true true h L (Nat.le_refl _) l0 l1 t (.refl _ _ _) (.start L xy);refine zc ?_;exact hQ h' L' t' hp hs
theorem OA{h0 h:af}(ar:h0.low<=h0.next){b n c:Nat}{L:List LE}(t:bA h0 h b n L){Q:Value->af->Prop}
  (hQ:∀h' L',bA h0 h' b n L'->aK 0 n L L'->aI gM L' 0 n->Q (.tuple #[]) h'):call 50 [.slice (some ⟨b,0,none⟩) n c,.func (.func 51) #[] #[]] h Q:=by
 have df:=ar
 replace ar:=t.ext.aD ar
 have gF:=t.gF;refine hA.aO Tryz.func50 x50.2 (hA.alike _ _ _ rfl) ar (zc ?_);rw[aJ hA,kQ hA om om];refine Oo hA ar (by unfold u64;omega) (fun k hk=>⟨_,rfl,?_⟩);obtain⟨n0,n1,n2⟩:=hk;have XA:k<=40:=by
  by_cases c:k<=40
  ·exact c
  ·have h1:=Nat.pow_le_pow_right (n:=2) om (show 40<=k.toNat by omega)
   have h2:((2 ^ 40:Nat):Int)<=((2 ^ k.toNat:Nat):Int):=by exact_mod_cast h1
   have h3:((2 ^ k.toNat:Nat):Int)=2 ^ k.toNat:=by push_cast;rfl
   have h4:((2 ^ 40:Nat):Int)=1099511627776:=by decide
   have h5:max (n:Int) 1<=100001:=om
   omega
 refine zc ?_;refine Ue hA df (c:=c) (n+1) h L 0 n k _ om om om (Int.le_refl _) n0 om (.inl rfl) t (fun h' L' t' hp hs=>?_);refine zc ?_;exact hQ h' L' t' hp hs
theorem Uf{h0:af}(dE:h0.low<=h0.next){g:List (List Int)}{B:List Fc}{m n s:Nat}{A:Nat->Ext.aR}{W many size:Int}{pa qa:Option Addr}{bs:Nat->Nat}(t:FB h0 g B m n s A W many size pa qa bs){pc qc:Nat}{NI:Int}(eN:NI=n){Q:Exit->SS->Prop}
  (hQ:∀hs h' a N c hd,CO hs h' a N c hd (Ext.nO A (gG A B W m n) size n n)->Ext h0 h'->Ext h0 hs->Q (.exit 0) ⟨[(11,.slice a N c)],0,[],h'⟩) :
  ∀(r d:Nat) (K:Int) (h:af) (fa:Option Addr) (fn fc:Nat) (fh:List Hd),n-d<=r->d<=n->K=(n:Int)-1-d->Ext h0 h->KS h0 h fa fn fh (Ext.nO A (gG A B W m n) size n d)->(d=0\/∃hs,Ext h0 hs/\CO hs h fa fn fc fh (Ext.nO A (gG A B W m n) size n d))->
   head 30 5 0 ⟨[(0,.slice pa n pc),(1,.slice qa m qc),(2,.int .i64 W),(3,.int .i64 many),(9,.int .i64 NI),(10,.int .i64 size),(11,.slice fa fn fc),(12,.int .i64 K)],0,[],h⟩ Q:=by
 intro r;have n4:=t.hM.n4;have m4:=t.hM.m4;have n1:=t.hM.n1;have m1:=t.hM.m1;have sum:=t.st.sum;obtain⟨W0,W1,y0,y1,s0,s1⟩:=t.Ox
 induction r with
 |zero=>
  intro d K h fa fn fc fh hr hd eK x lf lo;refine hA.au Tryz.func30 x30.2 (zc ?_);refine br (0<=K) (by rw[bX hA]) (fun q=>om) (fun _=>?_)<;>refine zc ?_;obtain rfl:d=n:=om
  rcases lo with q|⟨hs,x2,lo⟩
  ·omega
  ·exact hQ hs h fa fn fc fh lo x x2
 |succ r ih=>
 intro d K h fa fn fc fh hr hd eK x lf lo;by_cases ck:d<n
 rotate_left
 ·refine hA.au Tryz.func30 x30.2 (zc ?_)
  refine br (0<=K) (by rw[bX hA]) (fun q=>om) (fun _=>?_)<;>refine zc ?_;obtain rfl:d=n:=om
  rcases lo with q|⟨hs,x2,lo⟩
  ·omega
  ·exact hQ hs h fa fn fc fh lo x x2
 obtain⟨k,ek⟩:∃k,k=n-1-d:=⟨_,rfl⟩;have hk:k<n:=om
 have W5:K=k:=om
 obtain⟨h9,Bh⟩:∃z,z=aH h 13:=⟨_,rfl⟩;have xb:Ext h h9:=by rw[Bh];exact aw hA _ _
 have x9:=x.trans xb;have t9:=t.more x9;have l9:=x9.aD dE;obtain⟨pb,po,epa,_,w1⟩:=t9.hd.at (i:=K) om om;have w1:=w1 0 1 om om;obtain⟨wd,ewd⟩:∃w,w=n+m:=⟨_,rfl⟩;obtain⟨cw,qE⟩:∃z,z=az 1 wd:=⟨_,rfl⟩;have eh:gt (kS bs (n+m) n) K=⟨some ⟨bs k,0,none⟩,wd,cw⟩:=by
  rw[qE,ewd,W5];exact fU _ hk
 rw[eh]at w1;have w1:h9.aN ⟨pb,po+K.toNat*1+0,none⟩ 1=some [.slice (some ⟨bs k,0,none⟩) wd cw]:=w1;cases pa with
 |none=>cases epa
 |some pad=>
 cases epa;have r1:rd h9 pb (place po K 1) 1 [.slice (some ⟨bs k,0,none⟩) wd cw]:=aE hA w1;obtain⟨zO,rws⟩:=t9.rows;have w2:=rws.el (y:=k) (x:=k) om om;obtain⟨F,eF⟩:∃z,z=A k k:=⟨_,rfl⟩;rw[<-eF]at w2;have r2:rd h9 (bs k) (place 0 K 1) 1 [.int .i64 F]:=aE hA (by rw[W5];exact w2);have tl:=rws.tail (y:=k) (n:=n) (m:=m) om rfl;obtain⟨FN,eFN⟩:∃z:Int,z=fn:=⟨_,rfl⟩;have e1:ofNat fn=FN:=by rw[eFN];exact aJ hA fn
 have gl:=lf.gr.len;have f64:=t.run (d:=d) om;rw[gl]at f64;have nf:=Ext.u9 t.Kn d om;have aay:∀y,y∈Ext.nO A (gG A B W m n) size n d->Ext.CD A (gG A B W m n) size n (k+1) y:=fun y hy=>by
  have:=(nf.1 y).1 hy
  rwa [show n-d=k+1 by omega]at this
 obtain⟨v,ev⟩:∃v,v=jU A B W m n k % W:=⟨_,rfl⟩;have v0:0<=v/\v<W:=by rw[ev];exact⟨Int.emod_nonneg _ om,Int.emod_lt_of_pos _ W0⟩
 obtain⟨R,eR⟩:∃z,z=v*many:=⟨_,rfl⟩;have eR2:R=gG A B W m n k:=by rw[eR,ev];unfold gG;rw[t.em]
 have Rb:0<=R/\R<=12960000*64:=by rw[eR];exact⟨Int.mul_nonneg v0.1 om,Int.mul_le_mul om y1 om om⟩
 have m2:arith .mul .i64 v many=R:=by rw[eR];exact jg hA (by rw[<-eR];omega) (by rw[<-eR];omega)
 refine hA.au Tryz.func30 x30.2 (zc ?_);refine br (0<=K) (by rw[bX hA]) (fun _=>?_) (fun q=>om)<;>refine zc ?_;rw[<-Bh];refine zq ?_;rw[qE];refine CK hA RW (n:=wd) (i:=NI) om om om (fun c'=>?_);rw[show 0+NI.toNat*1=0+n*1 by omega,show wd-NI.toNat=m by omega,<-qE];obtain⟨o,eo⟩:∃z,z=0+n*1:=⟨_,rfl⟩;rw[<-eo]at tl ⊢;refine zq ?_;refine CF hA l9 tl t9.rE (Nat.le_refl m) om (B:=8162933760000) (fun j hj=>?_) om W0 om (fun v' hv=>⟨v',rfl,?_⟩)
 ·rw[fU _ hj,CE hj]
  obtain⟨_,p0,p1,_⟩:=t.w.part t.ht hj;exact IF (t.st.small t.hM om _) p0 p1 W1
 obtain rfl:v'=v:=by
  rw[hv,ev]
  congr 1
  unfold jU;exact Ext.aQ m (fun j hj=>by rw[fU _ hj,CE hj])
 (refine zq ?_;repeat ((first|rw[e1]|rw[m2]);refine zq ?_))
 refine Uc hA l9 t9 hk (lf.more xb) aay f64 eN W5 eF eR2 eFN ewd qE (fun h2 a2 N2 c2 UB wI=>?_) fn 0 0 h9 none 0 0 [] om (Nat.zero_le _) rfl (by rw[List.take_zero];exact CO.nil h9);have er:Ext.iz A (gG A B W m n) size n k (Ext.nO A (gG A B W m n) size n d)=Ext.nO A (gG A B W m n) size n (d+1):=by rw[ek];rfl
 rw[er]at wI;refine zq ?_;rw[bN hA om om];exact ih (d+1) (K-1) h2 a2 N2 c2 UB om om om (x9.trans wI.s.ext) (wI.s.back x9) (.inr ⟨h9,x9,wI⟩)
theorem OB{h:af}(ar:h.low<=h.next){g:List (List Int)}{B:List Fc}{m n s:Nat}{A:Nat->Ext.aR}{W many size:Int}{pa qa:Option Addr}{pc qc:Nat}{bs:Nat->Nat}(t:FB h g B m n s A W many size pa qa bs){Q:Value->af->Prop}
  (hQ:∀h' b N c hd l,pz nC 1 h' (some ⟨b,0,none⟩) N hd l->l.Perm (Ext.nO A (gG A B W m n) size n n)->l.Pairwise LL.lt->Ext h h'->Q (.slice (some ⟨b,0,none⟩) N c) h'):call 30 [.slice pa n pc,.slice qa m qc,.int .i64 W,.int .i64 many] h Q:=by
 obtain⟨NI,eN⟩:∃z:Int,z=n:=⟨_,rfl⟩;have e0:ofNat n=NI:=by rw[eN];exact aJ hA n
 have n4:=t.hM.n4;have n1:=t.hM.n1;obtain⟨W0,W1,y0,y1,s0,s1⟩:=t.Ox;have m1:arith .mul .i64 W many=size:=by rw[t.es];exact jg hA (by rw[<-t.es];omega) (by rw[<-t.es];omega)
 have eNn:nat NI=n:=by rw[H2 hA];omega
 have eNt:NI.toNat=n:=om
 have lz:=KS.one h n n1;refine hA.aO Tryz.func30 x30.2 (hA.alike _ _ _ rfl) ar (zc ?_)
 (refine zq ?_;repeat ((first|rw[e0]|rw[m1]);refine zq ?_))
 refine⟨V6 hA om (Int.le_refl _) om,?_⟩;refine zc ?_;rw[PM hA];refine zq ?_;rw[eNn,eNt,dy hA,dy hA,cX hA,cX hA,bN hA om om];obtain⟨h2,Iy⟩:∃z,z=(h.push 1 (bE [.int .i64 0] n)).push 1 [.slice (some ⟨h.next,0,none⟩) n n]:=⟨_,rfl⟩;rw[<-Iy]at lz ⊢;have run:=Ext.u9 t.Kn n (Nat.le_refl n);obtain⟨rl,erl⟩:∃z,z=Ext.nO A (gG A B W m n) size n n:=⟨_,rfl⟩;refine Uf hA ar t eN (fun hs h3 a N c hd lo x x'=>?_) n 0 (NI-1) h2 _ 1 1 _ om om om lz.ext lz (.inl rfl);rw[<-erl]at lo run hQ;have hN:=lo.s.gr.len;have hm:=t.em;have HB:1<=N/\N<=64:=by
  have h4:=run.2.2.2;rw[Nat.sub_self]at h4;have e1:(rl.length:Int)*1=many:=by rw[hm,<-h4];rfl
  have:=t.m64;omega
 rcases lo.qD with ⟨_,q,_⟩|⟨b,rfl,ec,hb,_,_⟩
 ·omega
 have l3:=x.aD ar;have lb:oP h3 b=oP h3 b:=rfl;have db:=lo.dat l3 om (fun y y0 y1=>by
  have h5:=lo.s.gr.u5 y0 y1;have h6:gt rl y∈rl:=by
   unfold gt;rw[List.getD_eq_getElem?_getD,List.getElem?_eq_getElem om];exact List.getElem_mem _
  have h7:=((run.1 _).1 h6).len;omega)
 have hnb:h.next<=b:=Nat.le_trans x'.next (lo.s.fr _ rfl);have xb:Ext h (oP h3 b):=KA x hnb;refine zq ?_;refine OA hA (show(oP h3 b).low<=(oP h3 b).next from Nat.min_le_right _ _) db (fun h4 L' d4 p4 s4=>?_);refine zq ?_;have hlz:=Fi (hd:=hd) (g:=rl) (by have:=lo.s.gr.hd.len;omega);have so:=zD (n:=N) om p4 s4 (by rw[zC (by have:=lo.s.gr.hd.len;omega)];exact run.2.2.1);rw[zC (by have:=lo.s.gr.hd.len;omega)]at so;exact hQ h4 b N c _ _ d4.aaw so.1 so.2 (xb.trans d4.ext)
