import Derived.Test.YtdpbiegfljmhmaaGreatLsZ
import Derived.Test.YtdpbiegfljmhmaaGreatSlA
import Derived.Test.YtdpbiegfljmhmaaGreatLsQ
import Derived.Test.YtdpbiegfljmhmaaGreatSymBits
import Derived.Test.YtdpbiegfljmhmaaGreatIvA
import Derived.Test.YtdpbiegfljmhmaaGreatDetH
set_option linter.unusedSimpArgs false
set_option linter.unusedVariables false
namespace Go.Proofs.YtdpbiegfljmhmaaGreat
open Go.cV
set_option maxRecDepth 100000
theorem Fj(a:Int)(x:List Int):gt (a :: x) ((0:Nat):Int)=a:=rfl
theorem uk(a:Int)(x:List Int)(k:Nat):gt (a :: x) ((k+1:Nat):Int)=gt x (k:Int):=rfl
theorem Fk:∀{n:Nat} {x y:List Int},x.length=n->y.length=n->LL.lt x y->∃k:Nat,k<n/\(∀j:Nat,j<k->gt x (j:Int)=gt y (j:Int))/\gt x (k:Int)<gt y (k:Int)
 |0,[],[],_,_,h=>by have:fX [] []<0:=h;simp[fX]at this
 |0,_ :: _,_,h,_,_=>by simp at h
 |0,[],_ :: _,_,h,_=>by simp at h
 |n+1,[],_,h,_,_=>by simp at h
 |n+1,_ :: _,[],_,h,_=>by simp at h
 |n+1,a :: x,b :: y,hx,hy,h=>by
  have h':fX (a :: x) (b :: y)<0:=h;unfold fX at h';by_cases c:a<b
  ·exact⟨0,om,fun j hj=>om,c⟩
  ·by_cases d:b<a
   ·rw[if_neg c,if_pos d]at h';omega
   ·rw[if_neg c,if_neg d]at h'
    obtain⟨k,k0,k1,k2⟩:=Fk (n:=n) (by simpa using hx) (by simpa using hy) h';refine⟨k+1,om,fun j hj=>?_,?_⟩
    ·cases j with
     |zero=>rw[Fj,Fj];omega
     |succ j=>rw[uk,uk];exact k1 j om
    ·rw[uk,uk];exact k2
theorem XF{a b D:Int}(hD:0<D)(h:a<b):rq a D<rq b D:=by
 unfold rq;have h1:(0:Rat)<(D:Rat):=by exact_mod_cast hD
 have h2:(a:Rat)<(b:Rat):=by exact_mod_cast h
 rw[Rat.div_def,Rat.div_def];exact Rat.mul_lt_mul_of_pos_right h2 (Rat.inv_pos.2 h1)
theorem bL.XG{g:List (List Int)}{m n s:Nat}{A:Nat->Ext.aR}(hM:oX g m n)(a:bL g m n n s A):((Ext.Dv g m n n:Nat):Int)=Ext.Mk A n:=by
 have n4:=hM.n4;have e:∀d:Nat,d∣Ext.Dv g m n n↔d∣(Ext.nI (fun i=>A i (Ext.aj (n+m) (A i))) n).natAbs:=fun d=>
  ((Ext.sB n4 d).trans (a.minors (d:Int))).trans (a.ZU.full n4 d)
 have e2:Ext.Dv g m n n=(Ext.nI (fun i=>A i (Ext.aj (n+m) (A i))) n).natAbs:=Nat.dvd_antisymm ((e _).1 (Nat.dvd_refl _)) ((e _).2 (Nat.dvd_refl _));have e3:∀k,k<=n->Ext.nI (fun i=>A i (Ext.aj (n+m) (A i))) k=Ext.Mk A k:=by
  intro k
  induction k with
  |zero=>intro _;rfl
  |succ k ih=>
   intro hk;show Ext.nI _ k*A k (Ext.aj (n+m) (A k))=Ext.Mk A k*A k k;rw[ih om,a.wQ om]
 rw[e2,e3 n (Nat.le_refl n)];have:=qG (A:=A) n (fun i hi=>a.diag hi);omega
def FC(size:Int)(x:List Int):List Fc:=x.map (fun y=>fr y size)
theorem zE{size:Int}{x:List Int}{n j:Nat}(hx:x.length=n)(h:j<n):gt (FC size x) (j:Int)=fr (gt x (j:Int)) size:=wY _ x om
theorem QU{size:Int}(s0:0<size)(s1:size<=1000000000000000000){n:Nat}{x y:List Int}(hx:x.length=n)(hy:y.length=n)(rx:∀j:Nat,j<n->0<=gt x (j:Int)/\gt x (j:Int)<size)(ry:∀j:Nat,j<n->0<=gt y (j:Int)/\gt y (j:Int)<size)(h:LL.lt x y):QR n (FC size x) (FC size y):=by
 obtain⟨k,k0,k1,k2⟩:=Fk hx hy h;refine⟨k,k0,fun j hj=>?_,?_⟩
 ·rw[zE hx om,zE hy om,k1 j hj]
 ·have:=rx k k0
  have:=ry k k0;rw[zE hx k0,zE hy k0,Ow om om om,Ow om om om];exact XF s0 k2
structure KC(X:List Fc)(n:Nat)(D:Int)(z:Nat->Int):Prop where
 pos:0<D
 dD:D<=1000000000
 dZ:∀j:Nat,j<n->0<=z j/\z j<D/\fW (gt X (j:Int)).n (gt X (j:Int)).d (rq (z j) D)
structure Hp(g:List (List Int))(B:List Fc)(m n:Nat)(L:List (List Fc)):Prop where
 rel:rY g B m n
 inv:oC g m n n
 gF:Ext.Dv g m n n<=64
 all:Ua g B m n L
 len:L.length=Ext.Dv g m n n
 Ug:∃D:Int,∀X,X∈L->∃y,KC X n D y
def XH(g:List (List Int))(B:List Fc)(m n:Nat)(e:Int):Prop:=(¬rY g B m n/\e=6)\/(rY g B m n/\∃r,oC g m n r/\((r<n/\e=24)\/(r=n/\64<Ext.Dv g m n n/\e=4)))
theorem Hp.of{g:List (List Int)}{B:List Fc}{m n s:Nat}{A:Nat->Ext.aR}{W:Int}(hM:oX g m n)(a:bL g m n n s A)(hR:rY g B m n)(ir:oC g m n n)(gF:Ext.Dv g m n n<=64)(w:wk B m W)(ht:∀i:Int,0<=i->i<m->cH (gt B i)/\(gt B i).d<=60)(hs9:W*Ext.Mk A n<=1000000000){l:List (List Int)}(p:l.Perm (Ext.nO A (gG A B W m n) (W*Ext.Mk A n) n n))(o:l.Pairwise LL.lt):Hp g B m n (l.map (FC (W*Ext.Mk A n))):=by
 have mp:=qG (A:=A) n (fun i hi=>a.diag hi);have sp:0<W*Ext.Mk A n:=Int.mul_pos w.pos mp;have hs:W*Ext.Mk A n<=1000000000000000000:=om
 have Kn:=a.Kn (B:=B) w.pos;obtain⟨r1,_,_,r4⟩:=Ext.u9 Kn n (Nat.le_refl n);rw[Nat.sub_self]at r1 r4;have mem:∀x,x∈l↔NR g (rE B W) m n (Ext.Mk A n) (W*Ext.Mk A n) x:=fun x=>(p.mem_iff.trans (r1 x)).trans (a.aam w hR x)
 refine⟨hR,ir,gF,⟨fun X=>?_,?_⟩,?_,⟨W*Ext.Mk A n,fun X hX=>?_⟩⟩
 ·rw[List.mem_map]
  constructor
  ·rintro⟨x,hx,rfl⟩
   exact((mem x).1 hx).aav w ht mp hs
  ·intro sx
   obtain⟨x,h1,h2⟩:=a.back w ht sx;exact⟨x,(mem x).2 h1,h2.symm⟩
 ·rw[List.pairwise_map]
  refine o.imp_of_mem ?_;intro x y hx hy h;have sx:=(mem x).1 hx;have sy:=(mem y).1 hy;exact QU sp hs sx.len sy.len sx.uO sy.uO h
 ·rw[List.length_map,p.length_eq]
  have h1:=a.XG hM;have h2:Ext.Mk A 0=1:=rfl;rw[h2,Int.mul_one]at r4;omega
 ·obtain⟨x,hx,rfl⟩:=List.mem_map.1 hX
  have sx:=(mem x).1 hx;refine⟨fun j=>gt x (j:Int),sp,hs9,fun j hj=>?_⟩;obtain⟨q0,q1⟩:=sx.uO j hj;rw[zE sx.len hj];exact⟨q0,q1,Fe om om om⟩
theorem TFr:gA Tryz.prog 23 43 2:=⟨by kernel_rfl,by kernel_rfl,⟨16,by kernel_rfl,om⟩,⟨.agg #[.int .i64 0,.int .i64 0],by kernel_rfl,rfl⟩⟩
theorem TLF:gA Tryz.prog 36 23 1:=⟨by kernel_rfl,by kernel_rfl,⟨24,by kernel_rfl,om⟩,⟨.slice none 0 0,by kernel_rfl,rfl⟩⟩
structure IX(h0 h:af)(a:Option Addr)(N c:Nat)(hd:List Hd)(g:List (List Fc)):Prop where
 ext:Ext h0 h
 gr:pz fC 2 h a N hd g
 fr:jm h0.next a
 qD:mT h 1 a N c (hd.flatMap Hd.cells)
 Js:∀ad,a=some ad->∀y:Int,0<=y->y<N->∀bd,(gt hd y).a=some bd->bd.block<ad.block
theorem IX.more{h0 h h':af}{a:Option Addr}{N c:Nat}{hd:List Hd}{g:List (List Fc)}(t:IX h0 h a N c hd g)(e:Ext h h'):IX h0 h' a N c hd g:=⟨t.ext.trans e,t.gr.ext e,t.fr,t.qD.ext e,t.Js⟩
theorem IX.nil(h:af):IX h h none 0 0 [] []:=
 ⟨.refl h,⟨Rows.nil h iF om,rfl,fun y y0 y1=>om⟩,.none _,.nil _ _,fun ad dc=>by cases dc⟩
theorem IX.add{h0 h h':af}{a:Option Addr}{N c b':Nat}{hd:List Hd}{g:List (List Fc)}(t:IX h0 h a N c hd g){k:Hd}{r:List Fc}(row:Rows fC 2 h k.a k.n r)(sk:∀ad,a=some ad->∀bd,k.a=some bd->bd.block≠ad.block)
  (a':mT h' 1 (some ⟨b',0,none⟩) (N+1) (az 1 (N+1)) ((hd++[k]).flatMap Hd.cells)) (xe:Ext h0 h') (n':h.next<h'.next) (T2:h.next<b') (k':∀i,i<h.next->(∀ad,a=some ad->ad.block≠i)->h'.m.get i=h.m.get i) :
  IX h0 h' (some ⟨b',0,none⟩) (N+1) (az 1 (N+1)) (hd++[k]) (g++[r]):=by
 have hl:hd.length=N:=t.gr.hd.len;have gl:=t.gr.len;have xh:=t.ext.next;have eh:∀y:Int,0<=y->y<((N+1:Nat):Int)->gt (hd++[k]) y=if y<N then gt hd y else k:=fun y y0 y1=>by
  rw[wV hd k y0 om,hl]
 have eg:∀y:Int,0<=y->y<((N+1:Nat):Int)->gt (g++[r]) y=if y<N then gt g y else r:=fun y y0 y1=>by
  rw[wV g r y0 om,gl]
 refine⟨xe,⟨⟨a'.cells,iF,om⟩,by simp[gl],fun y y0 y1=>?_⟩,fun ad dc=>by cases dc;show h0.next<=b';omega,a',fun ad dc y y0 y1 bd mu=>?_⟩
 ·rw[eh y y0 y1,eg y y0 y1]
  by_cases c:y<N
  ·rw[if_pos c,if_pos c]
   have q:=t.gr.row y y0 c;exact q.dL (Nat.le_of_lt n') (fun bd mu=>k' _ (q.lt bd mu) (fun ad dc=>(Nat.ne_of_lt (t.Js ad dc y y0 c bd mu)).symm))
  ·rw[if_neg c,if_neg c]
   exact row.dL (Nat.le_of_lt n') (fun bd mu=>k' _ (row.lt bd mu) (fun ad dc=>(sk ad dc bd mu).symm))
 ·cases dc
  rw[eh y y0 y1]at mu;show bd.block<b';by_cases c:y<N
  ·rw[if_pos c]at mu;have:=(t.gr.row y y0 c).lt bd mu;omega
  ·rw[if_neg c]at mu;have:=row.lt bd mu;omega
theorem OC{size:Int}{x:List Int}{i:Nat}{I:Int}(eI:I=i)(h:i<x.length):FC size (x.take (i+1))=FC size (x.take i)++[fr (gt x I) size]:=by
 rw[zA x eI h];unfold FC;rw[List.map_append];rfl
theorem oX.chk{g:List (List Int)}{B:List Fc}{m n:Nat}(h:oX g m n)(hl:B.length=m)(ht:∀i:Int,0<=i->i<m->cH (gt B i)/\(gt B i).d<=60):ic g B 0:=by
 have m1:=h.m1;have m4:=h.m4;have n1:=h.n1;have n4:=h.n4;have ln:=h.len;refine .inr (.inl ⟨fun q=>?_,⟨om,by rw[h.row 0 om om];omega,om,fun i i0 i1=>by rw[h.row i i0 om,h.row 0 om om],fun i i0 i1 j j0 j1=>?_,fun i i0 i1=>ht i i0 om⟩,rfl⟩)
 ·rcases q with q|⟨i,i0,i1,q⟩
  ·omega
  ·rw[h.row i i0 om]at q;omega
 ·have:=h.nine i j
  omega
def aaz(g:List (List Int))(B:List Fc)(m n:Nat)(e:Int)(L:List (List Fc)):Prop:=(e=0/\Hp g B m n L)\/(XH g B m n e/\L=[])
theorem IY{S D:Int}(hD:0<D){f:Fc}(hf:cH f){nn dd:Int}(q:fW nn dd (rq (S % D) D)):(nn=f.n/\dd=f.d)↔∃z:Int,rq S D=vq f+(z:Rat):=by
 have D0:D≠0:=om
 rw[TJ q hf.is];constructor
 ·intro e
  refine⟨S / D,?_⟩;rw[<-e,jX (l:=S / D) D0,sI D0]
  congr 1
  have:=Int.emod_add_mul_ediv S D;rw[Int.mul_comm]at this;exact this.symm
 ·rintro⟨z,hz⟩
  have e:vq f=rq (S-z*D) D:=by
   rw[<-u6 D0,<-jX D0,hz];grind
  obtain⟨a,b,_⟩:=Bp hf hD e;rw[e]
  congr 1
  rw[<-Int.emod_eq_of_lt a b,Int.sub_mul_emod_self_right]
theorem oO.iff{g:List (List Int)}{B X:List Fc}{m n:Nat}{D:Int}{z:Nat->Int}(s:KC X n D z)(hl:X.length=n)(ht:∀j:Nat,j<n->cH (gt X (j:Int))):oO g B m n X↔∀i:Nat,i<m->∃c:Int,rq (Ext.aV (fun j=>Ext.el g i j*z j) n) D=vq (gt B (i:Int))+(c:Rat):=by
 have D0:D≠0:=by have:=s.pos;omega
 have key:∀i:Nat,fI (fun j=>(Ext.el g i j:Rat)*vq (gt X (j:Int))) n=rq (Ext.aV (fun j=>Ext.el g i j*z j) n) D:=fun i=>by
  rw[ig n (g:=fun j=>(Ext.el g i j:Rat)*rq (z j) D) (fun j hj=>by
   have h1:=(ht j hj).is;have h2:=(s.dZ j hj).2.2;rw[h1.uniq h2]),wX _ _ D0]
 constructor
 ·intro h i hi
  obtain⟨c,hc⟩:=h.eqs i hi;rw[key i]at hc;exact⟨c,hc⟩
 ·intro h
  refine⟨hl,ht,fun i hi=>?_⟩;rw[key i];exact h i hi
theorem Fl{c y D:Int}(h9:c.natAbs<=9)(y0:0<=y)(y1:y<D)(hD:D<=1000000000):(c*y).natAbs<=9000000000:=by
 rw[Int.natAbs_mul];have:y.natAbs<=1000000000:=om
 calc c.natAbs*y.natAbs<=9*1000000000:=Nat.mul_le_mul h9 this
  _=9000000000:=rfl
theorem inv_mul{g:List (List Int)}{m n r:Nat}(ir:oC g m n r)(r4:r<=4){j:Nat}(hj:j<r):1<=Ext.Dv g m n (j+1) / Ext.Dv g m n j/\Ext.Dv g m n j*(Ext.Dv g m n (j+1) / Ext.Dv g m n j)=Ext.Dv g m n (j+1):=by
 have nz:=ir.nz j hj;obtain⟨c,hc⟩:Ext.Dv g m n j∣Ext.Dv g m n (j+1):=Ext.PW om;have p:0<Ext.Dv g m n j:=by
  rcases Nat.eq_zero_or_pos (Ext.Dv g m n j)with q|q
  ·rw[q,Nat.zero_mul]at hc;exact absurd hc nz
  ·exact q
 have e:Ext.Dv g m n (j+1) / Ext.Dv g m n j=c:=by rw[hc];exact Nat.mul_div_cancel_left c p
 rw[e];refine⟨?_,hc.symm⟩;rcases Nat.eq_zero_or_pos c with q|q
 ·rw[q,Nat.mul_zero]at hc;exact absurd hc nz
 ·exact q
theorem QV{g:List (List Int)}{m n r:Nat}(m4:m<=4)(n4:n<=4)(ir:oC g m n r){j:Nat}(hj:j+1<r):Ext.Dv g m n (j+1) / Ext.Dv g m n j∣Ext.Dv g m n (j+2) / Ext.Dv g m n (j+1):=by
 have r4:r<=4:=by have:=ir.lm;omega
 obtain⟨p1,e1⟩:=inv_mul ir r4 (j:=j) om;obtain⟨p2,e2⟩:=inv_mul ir r4 (j:=j+1) om;have nz:=ir.nz j om;have ch:=Ext.MD (g:=g) (m:=m) (n:=n) (k:=j) m4 n4 om;generalize Ext.Dv g m n (j+1) / Ext.Dv g m n j=q1 at *;rw[show j+1+1=j+2 by rfl]at e2 p2;generalize Ext.Dv g m n (j+2) / Ext.Dv g m n (j+1)=q2 at *;generalize Ext.Dv g m n j=a at *;generalize Ext.Dv g m n (j+1)=b at *;rw[<-e2]at ch;have h1:a*b*q1∣a*b*q2:=by
  have:b*b=a*b*q1:=by
   have:b*b=b*(a*q1):=by rw[e1]
   rw[this,<-Nat.mul_assoc,Nat.mul_comm b a]
  rw[<-this,Nat.mul_assoc];exact ch
 have h2:0<a*b:=by
  refine Nat.mul_pos ?_ om;rcases Nat.eq_zero_or_pos a with q|q
  ·rw[q,Nat.zero_mul]at e1;omega
  ·exact q
 exact Nat.dvd_of_mul_dvd_mul_left h2 h1
theorem OD{g:List (List Int)}{m n r j:Nat}(hj:j<r):gt (Ej g m n r) (j:Int)=((Ext.Dv g m n (j+1) / Ext.Dv g m n j:Nat):Int):=fU _ hj
def O6(yu yv:Nat->Int)(D:Int)(n:Nat):List Fc:=kR (fun j=>fr ((yu j-yv j) % D) D) n
theorem OE{X Y:List Fc}{n:Nat}{D:Int}{yu yv:Nat->Int}(a:KC X n D yu)(b:KC Y n D yv):KC (O6 yu yv D n) n D (fun j=>(yu j-yv j) % D):=by
 have p:=a.pos;have l:=a.dD;refine⟨p,l,fun j hj=>?_⟩;have e:gt (O6 yu yv D n) (j:Int)=fr ((yu j-yv j) % D) D:=fU _ hj;have q0:=Int.emod_nonneg (yu j-yv j) (show D≠0 by omega);have q1:=Int.emod_lt_of_pos (yu j-yv j) p;rw[e];exact⟨q0,q1,Fe om om om⟩
def rZ(m:Nat):List Fc:=kR (fun _=>(⟨0,1⟩:Fc)) m
theorem KD:cH ⟨0,1⟩:=by
 have h:=CX (a:=0) (b:=1) (by decide) (by decide) (by decide);have e:=(Fe (a:=0) (b:=1) (by decide) (by decide) (by decide));have:fr 0 1=⟨0,1⟩:=by
  have k:fW 0 1 (rq 0 1):=by
   have:=oL (n:=0) om om;rw[NM];exact this
  exact Hn (e.1.trans k.1.symm) (e.2.1.trans k.2.1.symm)
 rw[<-this];exact h
theorem QW:vq ⟨0,1⟩=((0:Int):Rat):=by show rq 0 1=_;rw[NM]
theorem oO.diff{g:List (List Int)}{B X Y:List Fc}{m n:Nat}{D:Int}{yu yv:Nat->Int}(a:KC X n D yu)(b:KC Y n D yv)(hX:oO g B m n X)(hY:oO g B m n Y):oO g (rZ m) m n (O6 yu yv D n):=by
 have p:=a.pos;have D0:D≠0:=om
 have ht:∀j:Nat,j<n->cH (gt (O6 yu yv D n) (j:Int)):=fun j hj=>by
  have e:gt (O6 yu yv D n) (j:Int)=fr ((yu j-yv j) % D) D:=fU _ hj;rw[e];exact CX (Int.emod_nonneg _ D0) (Int.emod_lt_of_pos _ p) (by have:=a.dD;omega)
 refine(oO.iff (OE a b) (bP _ _) ht).2 (fun i hi=>?_);obtain⟨c1,h1⟩:=(oO.iff a hX.len hX.turn).1 hX i hi;obtain⟨c2,h2⟩:=(oO.iff b hY.len hY.turn).1 hY i hi;have e0:gt (rZ m) (i:Int)=⟨0,1⟩:=fU _ hi;rw[e0,QW];obtain⟨su,esu⟩:∃s,s=Ext.aV (fun j=>Ext.el g i j*yu j) n:=⟨_,rfl⟩;obtain⟨sv,esv⟩:∃s,s=Ext.aV (fun j=>Ext.el g i j*yv j) n:=⟨_,rfl⟩;obtain⟨sk,esk⟩:∃s,s=Ext.aV (fun j=>Ext.el g i j*((yu j-yv j) / D)) n:=⟨_,rfl⟩;have es:Ext.aV (fun j=>Ext.el g i j*((yu j-yv j) % D)) n=su-sv-D*sk:=by
  rw[esu,esv,esk,<-tX,<-Ext.jw,<-tX];refine Ext.aQ n (fun j _=>?_);have:=Int.emod_def (yu j-yv j) D;rw[this];grind
 rw[<-esu]at h1;rw[<-esv]at h2;have hd:rq (su-sv) D=rq ((c1-c2)*D) D:=by
  rw[<-u6 D0,h1,h2,<-jX D0,Rat.intCast_sub];grind
 have hd:=(NO D0).1 hd;refine⟨c1-c2-sk,?_⟩;rw[es,hd,<-Rat.intCast_add,jX D0]
 congr 1
 grind
theorem OF{g:List (List Int)}{m n:Nat}(hM:oX g m n):ic g (rZ m) 0:=
 hM.chk (bP _ _) (fun i i0 i1=>by
  obtain⟨j,rfl⟩:∃j:Nat,i=j:=⟨i.toNat,om⟩;have e:gt (rZ m) (j:Int)=⟨0,1⟩:=fU _ om;rw[e];exact⟨KD,by decide⟩)
theorem OG{D:Int}(hD:0<D):fW 0 1 (rq ((0:Int) % D) D):=by
 rw[Int.zero_emod];have e:rq 0 D=((0:Int):Rat):=by rw[jX (l:=0) (show D≠0 by omega),Int.zero_mul]
 rw[e];exact oL om om
theorem zF{g:List (List Int)}{m n k:Nat}(hM:oX g m n):Ext.Dv g m n k<=157464:=Ext.NU (fun i j=>hM.nine i j) m n k
theorem Ua.bef{g:List (List Int)}{B:List Fc}{m n:Nat}{L:List (List Fc)}(a:Ua g B m n L){j:Nat}(h:j+1<L.length):QR n (gt L (j:Int)) (gt L ((j+1:Nat):Int)):=by
 have:=(List.pairwise_iff_getElem.1 a.ord) j (j+1) om h om;unfold gt;rw[List.getD_eq_getElem?_getD,List.getD_eq_getElem?_getD,show((j:Int)).toNat=j from rfl,show(((j+1:Nat):Int)).toNat=j+1 from rfl,List.getElem?_eq_getElem om,List.getElem?_eq_getElem h];exact this
variable{F:bg}{call head arith cmp a0 fD iw b0 c0 d0 f0 ofNat g0 place l0 nz n0 rd wr o0 next p0 r0 t0 u0 v0 w0 z0 f1 o1 u1 d2 j2 o2 u2 aB aH v2 bZ lt ne d3 i3 j3 yn uO n3 o3 s3 u3 v3:_}(hA:AP F ⟨call,head,arith,cmp,a0,fD,iw,b0,c0,d0,f0,ofNat,g0,place,l0,nz,n0,rd,wr,o0,next,p0,r0,t0,u0,v0,w0,z0,f1,o1,u1,d2,j2,o2,u2,aB,aH,v2,bZ,lt,ne,d3,i3,j3,yn,uO,n3,o3,s3,u3,v3⟩)
include hA
theorem XI{h0:af}(dE:h0.low<=h0.next){x:List Int}{n xc:Nat}{xa:Option Addr}(hx:Rows nC 1 h0 xa n x)(n4:n<=4){W many size NI:Int}(eN:NI=n)(m1:arith .mul .i64 W many=size)(s0:0<size)(s1:size<=829440000)(hr:∀j:Nat,j<n->0<=gt x (j:Int)/\gt x (j:Int)<size){oa fa:Option Addr}{on oc fn fc:Nat}{FN FI:Int}{c1:List Value}{Q:Exit->SS->Prop}
  (hQ:∀h' a c,mT h' 2 a n c ((FC size x).flatMap fC)->jm h0.next a->Ext h0 h'->Q (.exit 2) ⟨[(4,.int .i64 many),(8,.int .i64 W),(11,.slice oa on oc),(14,.slice a n c),(48,.slice fa fn fc),(49,.int .i64 FN),(50,.int .i64 FI)],1,[(0,c1)],h'⟩) :
  ∀(d i:Nat) (I:Int) (h:af) (a:Option Addr) (c:Nat),n-i<=d->i<=n->I=i->mT h 2 a i c ((FC size (x.take i)).flatMap fC)->jm h0.next a->Ext h0 h->
   head 10 16 1 ⟨[(4,.int .i64 many),(8,.int .i64 W),(11,.slice oa on oc),(14,.slice a i c),(48,.slice fa fn fc),(49,.int .i64 FN),(50,.int .i64 FI),(54,.slice xa n xc),(55,.int .i64 NI),(56,.int .i64 I)],1,[(0,c1)],h⟩ Q:=by
 intro d;have ln:=hx.len
 induction d with
 |zero=>
  intro i I h a c hd hi eI t fo x';refine hA.au Tryz.func10 x10.2 (zc ?_);refine br (I<NI) (by rw[aA hA]) (fun q=>om) (fun _=>?_)<;>refine zc ?_;obtain rfl:i=n:=om
  rw[List.take_of_length_le om]at t;exact hQ h a c t fo x'
 |succ d ih=>
 intro i I h a c hd hi eI t fo x';by_cases ci:i<n
 rotate_left
 ·refine hA.au Tryz.func10 x10.2 (zc ?_)
  refine br (I<NI) (by rw[aA hA]) (fun q=>om) (fun _=>?_)<;>refine zc ?_;obtain rfl:i=n:=om
  rw[List.take_of_length_le om]at t;exact hQ h a c t fo x'
 have ar:=x'.aD dE;obtain⟨xb,xo,rfl,_,q1⟩:=(hx.ext x').at (i:=I) om om;have q1:=q1 0 1 om om;obtain⟨v,ev⟩:∃z,z=gt x I:=⟨_,rfl⟩;have hv:=hr i ci;rw[<-eI,<-ev]at hv;rw[<-ev]at q1;have r1:rd h xb (place xo I 1) 1 [.int .i64 v]:=aE hA q1;have et:=OC (size:=size) (x:=x) eI om;rw[<-ev]at et;refine hA.au Tryz.func10 x10.2 (zc ?_);refine br (I<NI) (by rw[aA hA]) (fun _=>?_) (fun q=>om)<;>refine zc ?_
 (refine zq ?_;repeat ((first|rw[m1]);refine zq ?_))
 refine Ic hA ar (n:=v) (d:=size) (by unfold i64;omega) (by unfold i64;omega) (fun n' d' e z8 h1 x1=>⟨_,_,_,rfl,?_⟩);have zN:=x1.aD ar;have y1:=x'.trans x1;have hf:fits (rq v size):=lD om om om;have XJ:n'=(fr v size).n/\d'=(fr v size).d/\e=0:=by
  rcases z8 with ⟨q,_⟩|⟨_,q⟩
  ·omega
  ·rcases q with ⟨_,q1,q2,q3⟩|⟨q,_⟩
   ·exact⟨q1,q2,q3⟩
   ·exact absurd hf q
 obtain⟨rfl,rfl,rfl⟩:=XJ;obtain⟨u,eu⟩:∃z,z=fr v size:=⟨_,rfl⟩;rw[<-eu]at et ⊢;have t1:=t.ext x1;refine zq ?_;rw[show cmp .neq 0 0=false by rw[bR hA];rfl];refine zq ?_;refine CJ hA TFr ve om N5 (v:=u) t1 om (fun a' c' h2 t2 x2=>?_);rw[<-et]at t2;obtain⟨x3,f3⟩:=x2 h0 y1 fo;obtain⟨i1,NV⟩:∃z,z=i+1:=⟨_,rfl⟩;rw[<-NV]at t2 ⊢;refine zq ?_;rw[aG hA om om];exact ih i1 (I+1) h2 a' c' om om om t2 f3 x3
theorem Uh{h0:af}(dE:h0.low<=h0.next){l:List (List Int)}{n N lc:Nat}{la:Option Addr}{lh:List Hd}(gl:pz nC 1 h0 la N lh l)(n4:n<=4)(N64:N<=64){W many size NL:Int}(eN:NL=N)(m1:arith .mul .i64 W many=size)(s0:0<size)(s1:size<=829440000)(hr:∀x,x∈l->x.length=n/\∀j:Nat,j<n->0<=gt x (j:Int)/\gt x (j:Int)<size){c1:List Value}{Q:Exit->SS->Prop}
  (hQ:∀h' a c hd,IX h0 h' a N c hd (l.map (FC size))->Q (.exit 0) ⟨[(11,.slice a N c)],1,[(0,c1)],h'⟩) :
  ∀(d i:Nat) (I:Int) (h:af) (a:Option Addr) (c:Nat) (hd:List Hd),N-i<=d->i<=N->I=i->IX h0 h a i c hd ((l.take i).map (FC size))->
   head 10 12 1 ⟨[(4,.int .i64 many),(8,.int .i64 W),(11,.slice a i c),(48,.slice la N lc),(49,.int .i64 NL),(50,.int .i64 I)],1,[(0,c1)],h⟩ Q:=by
 intro d;have ln:=gl.len
 induction d with
 |zero=>
  intro i I h a c hd xw hi eI t;refine hA.au Tryz.func10 x10.2 (zc ?_);refine br (I<NL) (by rw[aA hA]) (fun q=>om) (fun _=>?_)<;>refine zc ?_;obtain rfl:i=N:=om
  rw[List.take_of_length_le om]at t;exact hQ h a c hd t
 |succ d ih=>
 intro i I h a c hd xw hi eI t;by_cases ci:i<N
 rotate_left
 ·refine hA.au Tryz.func10 x10.2 (zc ?_)
  refine br (I<NL) (by rw[aA hA]) (fun q=>om) (fun _=>?_)<;>refine zc ?_;obtain rfl:i=N:=om
  rw[List.take_of_length_le om]at t;exact hQ h a c hd t
 have ar:=t.ext.aD dE;have gl':=gl.ext t.ext;obtain⟨lb,lo,rfl,OZ,q1⟩:=gl'.jJ (i:=I) om om;obtain⟨ra,era⟩:∃z,z=(gt lh I).a:=⟨_,rfl⟩;obtain⟨rc,sS⟩:∃z,z=(gt lh I).c:=⟨_,rfl⟩;have row:=gl'.row I om om;obtain⟨x,ex⟩:∃z,z=gt l I:=⟨_,rfl⟩;have xm:x∈l:=by
  rw[ex];unfold gt;rw[List.getD_eq_getElem?_getD,List.getElem?_eq_getElem om];exact List.getElem_mem _
 obtain⟨xl,xr⟩:=hr x xm;have rl:=row.len;rw[<-ex,xl]at rl;rw[<-ex,<-era,<-rl]at row;rw[<-era,<-sS,<-rl]at q1;have r1:rd h lb (place lo I 1) 1 [.slice ra n rc]:=aE hA q1;obtain⟨NI,eNI⟩:∃z:Int,z=n:=⟨_,rfl⟩;have e0:ofNat n=NI:=by rw[eNI];exact aJ hA n
 have et:(l.take (i+1)).map (FC size)=(l.take i).map (FC size)++[FC size x]:=by
  rw[zA l eI om,List.map_append,<-ex];rfl
 refine hA.au Tryz.func10 x10.2 (zc ?_);refine br (I<NL) (by rw[aA hA]) (fun _=>?_) (fun q=>om)<;>refine zc ?_
 (refine zq ?_;repeat ((first|rw[e0]);refine zq ?_))
 refine XI hA ar row n4 eNI m1 s0 s1 xr (fun h2 a2 c2 t2 f2 x2=>?_) n 0 0 h none 0 om om rfl (.nil _ _) (.none _) (.refl h);have wI:=t.more x2;have hn:=t.qD.lt;have hN:=x2.next;refine zq ?_;refine wU hA TLF iF om IK (v:=(⟨a2,n,c2⟩:Hd)) wI.qD om (fun b' h3 a' x' n' T2 k'=>?_);have t3:=wI.add (k:=⟨a2,n,c2⟩) (r:=FC size x) (by
   refine⟨t2.cells,ve,om⟩) (fun ad dc bd mu=>by have:=f2 bd mu;have:=hn ad dc;omega) a' (x' h0 wI.ext wI.fr) n' T2 k'
 rw[<-et]at t3;generalize az 1 (i+1)=cc at *;obtain⟨i1,NV⟩:∃z,z=i+1:=⟨_,rfl⟩;rw[<-NV]at t3 ⊢;refine zq ?_;rw[aG hA om om];exact ih i1 (I+1) h3 _ cc _ om om om t3
theorem Ui (hI : sH F) {h : af} (ar : h.low ≤ h.next) {m ac k bc : Nat} {aa ba : Option Addr} {dk : List Hd} {g : List (List Int)} {B : List Fc} (hg : zm nC 1 h aa m dk g) (hB : Rows fC 2 h ba k B) (hi : ∀ i : Int, 0 ≤ i → i < k → i64 (gt B i).n ∧ i64 (gt B i).d) {Q : Value → af → Prop} 
   (TN : ∀ e h', ic g B e → e ≠ 0 → Ext h h' → Q (.tuple #[.slice none 0 0, .int .i64 e]) h')
   (Qu : ∀ e h' n, ic g B 0 → oX g m n → XH g B m n e → Ext h h' → Q (.tuple #[.slice none 0 0, .int .i64 e]) h')
   (UX : ∀ hs h' n N c a hd L, ic g B 0 → oX g m n → Hp g B m n L → Ext h hs → IX hs h' a N c hd L → Q (.tuple #[.slice a N c, .int .i64 0]) h')
   : call 10 [.agg #[.slice aa m ac, .slice ba k bc]] h Q := by
  refine hA.aO Tryz.func10 x10.2 (hA.alike _ _ _ rfl) ar (zc ?_)
  refine zq ?_
  refine EY hA hI ar hg hB hi (fun e h1 he ne x1 => ⟨_, _, _, rfl, ?_⟩) (fun h1 n he hM nr x1 => ⟨_, _, _, rfl, ?_⟩) (fun h1 n r c f he hM hR ir ec ef x1 => ⟨_, _, _, rfl, ?_⟩)
  · refine zq ?_
    rw [show cmp .neq e 0 = true by rw [bR hA]; simp [ne]]
    refine zq ?_
    exact TN e h1 he ne x1
  · refine zq ?_
    rw [show cmp .neq 6 0 = true by rw [bR hA]; rfl]
    refine zq ?_
    exact Qu 6 h1 n he hM (.inl ⟨nr, rfl⟩) x1
  · refine zq ?_
    rw [show cmp .neq 0 0 = false by rw [bR hA]; rfl]
    refine zq ?_
    refine br (f > 0) (by rw [cS hA]) (fun cf => ?_) (fun cf => ?_) <;> refine zc ?_
    · refine zq ?_
      exact Qu 24 h1 n he hM (.inr ⟨hR, r, ir, .inl ⟨om, rfl⟩⟩) x1
    obtain rfl : n = r := by have := ir.ln; omega
    refine zq ?_
    refine br (c > 64) (by rw [cS hA]) (fun cc => ?_) (fun cc => ?_) <;> refine zc ?_
    · refine zq ?_
      exact Qu 4 h1 n he hM (.inr ⟨hR, n, ir, .inr ⟨rfl, by omega, rfl⟩⟩) x1
    obtain ⟨gd, nm⟩ := he.ph
    have zN := x1.aD ar
    have hgr := hg.full (fun y y0 y1 => by rw [hM.row y y0 y1]; exact hM.n1)
    have RV : k = m := by have := gd.len; have := hB.len; have := hg.len; omega
    subst RV
    have ht : ∀ i : Int, 0 ≤ i → i < k → cH (gt B i) ∧ (gt B i).d ≤ 60 := fun i i0 i1 => gd.turn i i0 (by have := hB.len; omega)
    have k4 := hM.m4
    refine zq ?_
    refine Bl hA zN (hB.ext x1) k4 ht (fun W h2 pa pc w t x2 => ⟨_, _, _, _, rfl, ?_⟩)
    have By := x2.aD zN
    refine zq ?_
    refine EU hA hI By hM ((hgr.ext x1).ext x2) (fun h3 r s ra rc qa qc bs rb A st rw hd gd _ => ⟨_, _, _, _, _, _, rfl, ?_⟩)
    obtain rfl := (st.ZV hM).uniq ir
    have Kn := st.Kn (B := B) w.pos
    have x3 := rw.ext
    have Uo := x3.aD By
    have em : c = Ext.Mk A r := by rw [← st.XG hM]; exact ec
    refine zq ?_
    refine OB hA Uo (size := W * c) (⟨hM, st, w, ht, ⟨hd.qD.cells, iF, by omega⟩, ⟨_, rw⟩, ⟨(t.ext x3).cells, gC, by omega⟩, em, by omega, rfl⟩ : FB h3 g B k r s A W c (W * c) ra pa bs) (fun h4 b N c4 XE l g4 pl sl x4 => ⟨_, _, _, rfl, ?_⟩)
    obtain ⟨NL, eNL⟩ : ∃ z : Int, z = N := ⟨_, rfl⟩
    have e0 : ofNat N = NL := by rw [eNL]; exact aJ hA _
    have mp := qG (A := A) r (fun i hi => st.diag hi)
    have wf := w.gF k4
    have sp : 0 < W * c := Int.mul_pos w.pos om
    have s1 : W * c ≤ 12960000 * 64 := Int.mul_le_mul wf om om om
    obtain ⟨size, U3⟩ : ∃ z, z = W * c := ⟨_, rfl⟩
    have m1 : arith .mul .i64 W c = size := by rw [U3]; exact jg hA (by rw [← U3]; omega) (by rw [← U3]; omega)
    rw [← em, ← U3] at Kn
    rw [← U3] at pl sp s1
    have run := Ext.u9 Kn r (Nat.le_refl r)
    have hr : ∀ x, x ∈ l → x.length = r ∧ ∀ j : Nat, j < r → 0 ≤ gt x (j : Int) ∧ gt x (j : Int) < size := fun x hx => by
      have := (run.1 x).1 (pl.mem_iff.1 hx)
      exact ⟨this.len, fun j hj => this.uO j om hj⟩
    have ag : Hp g B k r (l.map (FC size)) := by
      have e1 : size = W * Ext.Mk A r := by rw [U3, em]
      rw [e1] at pl s1 ⊢
      exact Hp.of hM st hR ir om w ht om pl sl
    have lN : N ≤ 64 := by
      have h1 := ag.len
      rw [List.length_map] at h1
      have := g4.len
      omega
    (refine zq ?_; repeat ((first | rw [e0]); refine zq ?_))
    refine Uh hA (x4.aD Uo) g4 hM.n4 lN eNL m1 sp om hr (fun h5 a5 c5 hd5 t5 => ?_) N 0 0 h4 none 0 [] om om rfl (IX.nil h4)
    refine zq ?_
    exact UX h4 h5 r N c5 a5 hd5 _ he hM ag (((x1.trans x2).trans x3).trans x4) t5
theorem IZ(hI:sH F){h:af}(ar:h.low<=h.next){m n ac k bc:Nat}{aa ba:Option Addr}{dk:List Hd}{g:List (List Int)}{B:List Fc}(hc:ic g B 0)(hM:oX g m n)(hg:pz nC 1 h aa m dk g)(hB:Rows fC 2 h ba k B)(hi:∀i:Int,0<=i->i<k->i64 (gt B i).n/\i64 (gt B i).d){Q:Value->af->Prop}
  (hQ:∀e L hs h' N c a hd,aaz g B m n e L->Ext h hs->IX hs h' a N c hd L->Q (.tuple #[.slice a N c,.int .i64 e]) h'):call 10 [.agg #[.slice aa m ac,.slice ba k bc]] h Q:=by
 refine Ui hA hI ar hg.TW hB hi (fun e' h' c' ne _=>absurd (hc.uniq c').symm ne) (fun e' h' n' c' uv ae x=>?_) (fun hs h' n' N c a hd L' c' uv ag' x t=>?_)
 ·obtain⟨_,rfl⟩:=hM.uniq uv
  exact hQ e' [] h' h' 0 0 none [] (.inr ⟨ae,rfl⟩) x (IX.nil h')
 ·obtain⟨_,rfl⟩:=hM.uniq uv
  exact hQ 0 L' hs h' N c a hd (.inl ⟨rfl,ag'⟩) x t
theorem KE{h0:af}(dE:h0.low<=h0.next){L xn lc xc:Nat}{la xa:Option Addr}{l:List Int}{X:List Fc}(hl:Rows nC 1 h0 la L l)(hx:Rows fC 2 h0 xa xn X)(hL:L<=xn)(hn:L<=1000){D:Int}(hD:0<D){z:Nat->Int}(hz:∀k:Nat,k<L->fW (gt X (k:Int)).n (gt X (k:Int)).d (rq (z k) D)){B:Nat}(h9:∀k:Nat,k<L->(gt l (k:Int)).natAbs<=1000000000000000000)(hb:∀k:Nat,k<L->(gt l (k:Int)*z k).natAbs<=B)(hB:B+D.natAbs<=1000000000000000000){M:Int}(eM:M=L){rv:List Value}{Q:Exit->SS->Prop}
  (hQ:∀n d h',fW n d (rq (Ext.aV (fun k=>gt l (k:Int)*z k) L % D) D)->Ext h0 h'->Q (.exit 0) ⟨[(5,.pointer (some ⟨0,0,some 0⟩)),(7,.pointer (some ⟨1,0,some 0⟩))],2,[(0,rv),(1,[.int .i64 n,.int .i64 d])],h'⟩) :
  ∀(d k:Nat) (K sn sd:Int) (h:af),L-k<=d->k<=L->K=k->fW sn sd (rq (Ext.aV (fun k=>gt l (k:Int)*z k) k % D) D)->Ext h0 h->
   head 39 3 2 ⟨[(1,.slice xa xn xc),(5,.pointer (some ⟨0,0,some 0⟩)),(7,.pointer (some ⟨1,0,some 0⟩)),(14,.slice la L lc),(15,.int .i64 M),(16,.int .i64 K)],2,[(0,rv),(1,[.int .i64 sn,.int .i64 sd])],h⟩ Q:=by
 refine o8 (fun d ih=>?_);intro k K sn sd h hd hk eK hs x;by_cases ck:k<L
 rotate_left
 ·refine hA.au Tryz.func39 x39.2 (zc ?_)
  refine br (K<M) (by rw[aA hA]) (fun q=>om) (fun _=>?_)<;>refine zc ?_;obtain rfl:k=L:=om
  exact hQ sn sd h hs x
 obtain⟨d,rfl⟩:∃k,d=k+1:=⟨d-1,om⟩
 replace ih:=ih d rfl
 have ar:=x.aD dE;obtain⟨lb,lo,rfl,OZ,w1⟩:=(hl.ext x).at (i:=K) om om;have w1:=w1 0 1 om om;obtain⟨TK,xo,rfl,hxb,w2⟩:=(hx.ext x).at (i:=K) om om;have w2:=w2 0 2 om om;have zk:=hz k ck;have b9:=h9 k ck;have bb:=hb k ck;obtain⟨c,ec⟩:∃z,z=gt l (k:Int):=⟨_,rfl⟩;obtain⟨f,ef⟩:∃z,z=gt X (k:Int):=⟨_,rfl⟩;obtain⟨S,eS⟩:∃s,s=Ext.aV (fun k=>gt l (k:Int)*z k) k:=⟨_,rfl⟩;have W4:Ext.aV (fun k=>gt l (k:Int)*z k) (k+1)=S+c*z k:=by rw[eS,ec];rfl
 rw[eK,<-ec]at w1;rw[eK,<-ef]at w2;rw[<-ef]at zk;rw[<-ec]at b9 bb;rw[<-eS]at hs;obtain⟨fn,fd⟩:=f;obtain⟨v,ev⟩:∃v,v=z k:=⟨_,rfl⟩;rw[<-ev]at zk bb W4;have zk:fW fn fd (rq v D):=zk;rw[<-eK]at w1 w2;have r1:rd h lb (place lo K 1) 1 [.int .i64 c]:=aE hA w1;have r2:rd h TK (place xo K 2) 2 [.int .i64 fn,.int .i64 fd]:=aE hA w2;have hc:=oL (n:=c) om om;have cn:cmp .neq (0:Int) 0=false:=by rw[bR hA];rfl
 refine hA.au Tryz.func39 x39.2 (zc ?_);refine br (K<M) (by rw[aA hA]) (fun _=>?_) (fun q=>om)<;>refine zc ?_;refine zq ?_;refine ML hA ar hc.iU hc.jC zk.iU zk.jC (fun a b r q h2 x2=>⟨_,_,_,rfl,?_⟩);obtain⟨q1,rfl⟩:=oM hc zk (f:=(· * ·)) (by show fits ((c:Rat)*rq v D);rw[u7];exact lD om om om) q
 replace q1:fW a b ((c:Rat)*rq v D):=q1
 rw[u7]at q1;have l2:=x2.aD ar
 (refine zq ?_;repeat ((first|rw[cn]);refine zq ?_))
 have em:=Int.emod_nonneg S (show D≠0 by omega);have RA:=Int.emod_lt_of_pos S hD;refine Ig hA l2 hs.iU hs.jC q1.iU q1.jC (fun a2 b2 r2 q2 h3 x3=>⟨_,_,_,rfl,?_⟩);have NT:rq (S % D) D+rq (c*v) D=rq (S % D+c*v) D:=sI om;obtain⟨q3,rfl⟩:=oM hs q1 (f:=(· + ·)) (by show fits (rq (S % D) D+rq (c*v) D);rw[NT];exact lD om om om) q2
 replace q3:fW a2 b2 (rq (S % D) D+rq (c*v) D):=q3
 rw[NT]at q3;have l3:=x3.aD l2
 (refine zq ?_;repeat ((first|rw[cn]);refine zq ?_))
 refine NZ hA l3 q3 (fun h4 x4=>⟨_,_,rfl,?_⟩);have l4:=x4.aD l3;have fl:=wP q3 hD;have d1:=q3.den;have n1:=q3.2.2.1;have n2:=q3.2.2.2.1;rw[<-q3.1]at n1 n2;obtain⟨w,ew⟩:∃w,w=a2 / b2:=⟨_,rfl⟩;have wb:-1000000000000000000<=w/\w<=1000000000000000000:=by
  have:=Int.natAbs_ediv_le_natAbs a2 b2;rw[<-ew]at this;omega
 have hw:=oL wb.1 wb.2;obtain⟨T,eT⟩:∃t,t=S % D+c*v:=⟨_,rfl⟩;rw[<-eT]at q3 fl;have m0:=Int.emod_nonneg T (show D≠0 by omega);have m1:=Int.emod_lt_of_pos T hD;have ev:rq T D-(w:Rat)=rq (T % D) D:=by
  rw[ew,fl,jX (l:=T / D) (show D≠0 by omega),u6 om]
  congr 1
  have:=Int.mul_ediv_add_emod T D;rw[Int.mul_comm]at this;omega
 rw[<-ew]
 (refine zq ?_;repeat ((first|rw[cn]);refine zq ?_))
 refine Ih hA l4 q3.iU q3.jC hw.iU hw.jC (fun a3 b3 r3 k3 h5 x5=>⟨_,_,_,rfl,?_⟩);obtain⟨k4,rfl⟩:=oM q3 hw (f:=(· - ·)) (by show fits (rq T D-(w:Rat));rw[ev];exact lD om om om) k3
 replace k4:fW a3 b3 (rq T D-(w:Rat)):=k4
 rw[ev]at k4;have eM2:T % D=(S+c*v) % D:=by rw[eT];exact Int.emod_add_emod ..
 rw[eM2,<-W4]at k4
 (refine zq ?_;repeat ((first|rw[cn]);refine zq ?_))
 rw[aG hA om om];exact ih (k+1) (K+1) a3 b3 h5 om om om k4 ((((x.trans x2).trans x3).trans x4).trans x5)
theorem QX{h:af}(ar:h.low<=h.next){L xn lc xc:Nat}{la xa:Option Addr}{l:List Int}{X:List Fc}(hl:Rows nC 1 h la L l)(hx:Rows fC 2 h xa xn X)(hL:L<=xn)(hn:L<=1000){D:Int}(hD:0<D){z:Nat->Int}(hz:∀k:Nat,k<L->fW (gt X (k:Int)).n (gt X (k:Int)).d (rq (z k) D)){B:Nat}(h9:∀k:Nat,k<L->(gt l (k:Int)).natAbs<=1000000000000000000)(hb:∀k:Nat,k<L->(gt l (k:Int)*z k).natAbs<=B)(hB:B+D.natAbs<=1000000000000000000){rn rd:Int}{Q:Value->af->Prop}
  (hQ:∀n d b h',fW n d (rq (Ext.aV (fun k=>gt l (k:Int)*z k) L % D) D)->(b=true↔n=rn/\d=rd)->Ext h h'->Q (.bool b) h'):call 39 [.slice la L lc,.slice xa xn xc,.agg #[.int .i64 rn,.int .i64 rd]] h Q:=by
 obtain⟨M,eM⟩:∃s:Int,s=L:=⟨_,rfl⟩;have e0:ofNat L=M:=by rw[eM];exact aJ hA L
 refine hA.aO Tryz.func39 x39.2 (hA.alike _ _ _ rfl) ar (zc ?_)
 (refine zq ?_;repeat ((first|rw[e0]);refine zq ?_))
 refine KE hA ar hl hx hL hn hD hz h9 hb hB eM (fun n d h' q x=>?_) L 0 0 0 1 h om om rfl (OG hD) (.refl h);obtain⟨r,v8,BN⟩:=Yf n d rn rd;refine zq ?_;rw[mI hA];refine⟨Cc,r,v8,?_⟩;refine zq ?_;exact hQ n d r h' q BN x
theorem Hq{h0:af}(dE:h0.low<=h0.next){xn xc:Nat}{xa:Option Addr}{X:List Fc}(hx:Rows fC 2 h0 xa xn X)(Uj:∀i:Int,0<=i->i<xn->i64 (gt X i).n/\i64 (gt X i).d)(x100:xn<=1000)(ht:∀j:Nat,j<xn->cH (gt X (j:Int))){T:List Value}{N:Int}(eN:N=xn){Q:Exit->SS->Prop}
  (dr:∀h',Ext h0 h'->Q (.exit 0) ⟨[(1,.slice xa xn xc),(2,.pointer (some ⟨0,0,some 0⟩))],1,[(0,T)],h'⟩) :
  ∀(d i:Nat) (I:Int) (h:af),xn-i<=d->i<=xn->I=i->Ext h0 h->
   head 11 6 1 ⟨[(1,.slice xa xn xc),(2,.pointer (some ⟨0,0,some 0⟩)),(6,.int .i64 I)],1,[(0,T)],h⟩ Q:=by
 intro d;have e0:ofNat xn=N:=by rw[eN];exact aJ hA xn
 induction d with
 |zero=>
  intro i I h hd hi eI x;refine hA.au Tryz.func11 x11.2 (zc ?_)
  (refine zq ?_;repeat ((first|rw[e0]);refine zq ?_))
  refine br (I<N) (by rw[aA hA]) (fun q=>om) (fun _=>?_)<;>refine zc ?_;exact dr h x
 |succ d ih=>
 intro i I h hd hi eI x;by_cases ci:i<xn
 rotate_left
 ·refine hA.au Tryz.func11 x11.2 (zc ?_)
  (refine zq ?_;repeat ((first|rw[e0]);refine zq ?_))
  refine br (I<N) (by rw[aA hA]) (fun q=>om) (fun _=>?_)<;>refine zc ?_;exact dr h x
 have ar:=x.aD dE;obtain⟨xb,xo,rfl,_,q2⟩:=(hx.ext x).at (i:=I) om om;have q3:=q2 0 2 om om;obtain⟨i1,i2⟩:=Uj I om om;obtain⟨y,ey⟩:∃z,z=gt X I:=⟨_,rfl⟩;rw[<-ey]at q3 i1 i2;have ti:=ht i ci;rw[<-eI,<-ey]at ti;obtain⟨yn,yd⟩:=y;have r1:rd h xb (place xo I 2) 2 [.int .i64 yn,.int .i64 yd]:=aE hA q3;refine hA.au Tryz.func11 x11.2 (zc ?_)
 (refine zq ?_;repeat ((first|rw[e0]);refine zq ?_))
 refine br (I<N) (by rw[aA hA]) (fun _=>?_) (fun q=>om)<;>refine zc ?_;refine zq ?_;refine ET hA (x:=⟨yn,yd⟩) ar i1 i2 (fun b h1 hb x1=>⟨b,rfl,?_⟩);obtain rfl:b=true:=hb.2 ti;refine zq ?_;rw[show fD true=false by rw[cB hA];rfl];refine zq ?_;rw[aG hA om om];exact ih (i+1) (I+1) h1 om om om (x.trans x1)
theorem KF{h0:af}(dE:h0.low<=h0.next){m n ac bc xc:Nat}{aa ba xa:Option Addr}{dk:List Hd}{g:List (List Int)}{B X:List Fc}(hM:oX g m n)(hg:pz nC 1 h0 aa m dk g)(hB:Rows fC 2 h0 ba m B)(hx:Rows fC 2 h0 xa n X){D:Int}{z:Nat->Int}(s:KC X n D z)(hb:∀i:Nat,i<m->cH (gt B (i:Int)))(hs:∀i:Nat,i<m->∃c:Int,rq (Ext.aV (fun j=>Ext.el g i j*z j) n) D=vq (gt B (i:Int))+(c:Rat)){M:Int}(eM:M=m){Q:Exit->SS->Prop}
  (dr:∀kn T h',Ext h0 h'->Q (.exit 2) ⟨[],kn,T,h'⟩) :
  ∀(d i:Nat) (I:Int) (h:af),m-i<=d->i<=m->I=i->Ext h0 h->
   head 11 11 1 ⟨[(1,.slice xa n xc),(2,.pointer (some ⟨0,0,some 0⟩)),(7,.int .i64 I)],1,[(0,[.slice aa m ac,.slice ba m bc])],h⟩ Q:=by
 intro d;have e0:ofNat m=M:=by rw[eM];exact aJ hA m
 induction d with
 |zero=>
  intro i I h hd hi eI x;refine hA.au Tryz.func11 x11.2 (zc ?_)
  (refine zq ?_;repeat ((first|rw[e0]);refine zq ?_))
  refine br (I<M) (by rw[aA hA]) (fun q=>om) (fun _=>?_)<;>refine zc ?_;exact dr _ _ h x
 |succ d ih=>
 intro i I h hd hi eI x;have m4:=hM.m4;have n4:=hM.n4;by_cases ci:i<m
 rotate_left
 ·refine hA.au Tryz.func11 x11.2 (zc ?_)
  (refine zq ?_;repeat ((first|rw[e0]);refine zq ?_))
  refine br (I<M) (by rw[aA hA]) (fun q=>om) (fun _=>?_)<;>refine zc ?_;exact dr _ _ h x
 have ar:=x.aD dE;obtain⟨lb,lo,rfl,OZ,q1⟩:=(hg.ext x).jJ (i:=I) om om;obtain⟨ra,era⟩:∃z,z=(gt dk I).a:=⟨_,rfl⟩;obtain⟨rc,sS⟩:∃z,z=(gt dk I).c:=⟨_,rfl⟩;have row:=(hg.ext x).row I om om;have Ck:(gt g I).length=n:=hM.row I om om;have rl:=row.len;rw[Ck]at rl;rw[<-era,<-rl]at row;rw[<-era,<-sS,<-rl]at q1;have r1:rd h lb (place lo I 1) 1 [.slice ra n rc]:=aE hA q1;have tf:=hb i ci;obtain⟨f,ef⟩:∃z,z=gt B I:=⟨_,rfl⟩;have Uk:gt B (i:Int)=f:=by rw[ef,eI]
 rw[Uk]at tf;obtain⟨fn,fd⟩:=f;have eg:∀j:Nat,gt (gt g I) (j:Int)=Ext.el g i j:=fun j=>by rw[eI];rfl
 have bt:fD true=false:=by rw[cB hA];rfl
 refine hA.au Tryz.func11 x11.2 (zc ?_)
 (refine zq ?_;repeat ((first|rw[e0]);refine zq ?_))
 refine br (I<M) (by rw[aA hA]) (fun _=>?_) (fun q=>om)<;>refine zc ?_;refine zq ?_;refine Qs hA ar row (hx.ext x) (Nat.le_refl n) om s.pos (z:=z) (fun k hk=>(s.dZ k hk).2.2) (B:=9000000000) (fun k hk=>by
   rw[eg];have:=hM.nine i k;unfold Ext.el;omega) (fun k hk=>by
   rw[eg];exact Fl (hM.nine i k) (s.dZ k hk).1 (s.dZ k hk).2.1 s.dD) (by have:=s.pos;have:=s.dD;omega) (fun nn dd h1 q x1=>⟨_,_,_,rfl,?_⟩)
 rw[Ext.aQ n (g:=fun j=>Ext.el g i j*z j) (fun j _=>by rw[eg])]at q;have key:=(IY s.pos tf q).2 (by rw[<-Uk];exact hs i ci);obtain⟨k1,k2⟩:=key;have k1:nn=fn:=k1;have k2:dd=fd:=k2;subst k1 k2;obtain⟨X1,zP⟩:∃z,z=aH h1 11:=⟨_,rfl⟩;have xb:Ext h1 X1:=by rw[zP];exact aw hA _ _
 have y1:=(x.trans x1).trans xb;obtain⟨bb,bo,rfl,_,w2⟩:=(hB.ext y1).at (i:=I) om om;have w2:=w2 0 2 om om;rw[<-ef]at w2;have r2:rd X1 bb (place bo I 2) 2 [.int .i64 nn,.int .i64 dd]:=aE hA w2;obtain⟨r,v8,BN⟩:=Yf nn dd nn dd;obtain rfl:r=true:=BN.2 ⟨rfl,rfl⟩
 (refine zq ?_;repeat ((first|rw[bt]);refine zq ?_))
 rw[<-zP]
 (refine zq ?_;repeat ((first|rw[bt]);refine zq ?_))
 rw[mI hA];refine⟨Cc,true,v8,?_⟩
 (refine zq ?_;repeat ((first|rw[bt]);refine zq ?_))
 rw[aG hA om om];exact ih (i+1) (I+1) X1 om om om y1
theorem Hr{h:af}(ar:h.low<=h.next){m n ac bc xc:Nat}{aa ba xa:Option Addr}{dk:List Hd}{g:List (List Int)}{B X:List Fc}(he:ic g B 0)(hM:oX g m n)(hg:pz nC 1 h aa m dk g)(hB:Rows fC 2 h ba m B)(hi:∀i:Int,0<=i->i<m->i64 (gt B i).n/\i64 (gt B i).d)(hx:Rows fC 2 h xa n X){D:Int}{z:Nat->Int}(s:KC X n D z)(hS:oO g B m n X){Q:Value->af->Prop}
  (hQ:∀h',Ext h h'->Q (.tuple #[.bool true,.int .i64 0]) h'):call 11 [.agg #[.slice aa m ac,.slice ba m bc],.slice xa n xc] h Q:=by
 obtain⟨M,eM⟩:∃s:Int,s=m:=⟨_,rfl⟩;have e0:ofNat m=M:=by rw[eM];exact aJ hA m
 obtain⟨N,eN⟩:∃s:Int,s=n:=⟨_,rfl⟩;have e1:ofNat n=N:=by rw[eN];exact aJ hA n
 have m1:=hM.m1;have m4:=hM.m4;have n4:=hM.n4;obtain⟨gd,nm⟩:=he.ph;have Uj:∀i:Int,0<=i->i<n->i64 (gt X i).n/\i64 (gt X i).d:=fun i i0 i1=>by
  obtain⟨j,rfl⟩:∃j:Nat,i=j:=⟨i.toNat,om⟩;have:=(s.dZ j om).2.2;exact⟨this.iU,this.jC⟩
 refine hA.aO Tryz.func11 x11.2 (hA.alike _ _ _ rfl) ar (zc ?_);refine zq ?_;refine Bj hA ar hg.TW hB hi (fun e h1 ce x1=>⟨e,rfl,?_⟩);obtain rfl:=he.uniq ce;have l1:=x1.aD ar;have cn:cmp .neq (0:Int) 0=false:=by rw[bR hA];rfl
 have cN:cmp .neq N N=false:=by rw[bR hA];simp
 obtain⟨lb,lo,rfl,OZ,q1⟩:=(hg.ext x1).jJ (i:=0) om om;have row:=(hg.ext x1).row 0 om om;have Ck:(gt g 0).length=n:=hM.row 0 om om;have rl:=row.len;rw[Ck]at rl;rw[<-rl]at q1;have r1:rd h1 lb (place lo 0 1) 1 [.slice (gt dk 0).a n (gt dk 0).c]:=aE hA q1
 (refine zq ?_;repeat ((first|rw[cn]|rw[e0]|rw[e1]|rw[cN]);refine zq ?_))
 refine Hq hA l1 (hx.ext x1) Uj om hS.turn eN (fun h2 x2=>?_) n 0 0 h1 om om rfl (.refl h1);have l2:=x2.aD l1;have iff:=(oO.iff (g:=g) (B:=B) (m:=m) s hS.len hS.turn).1 hS
 (refine zq ?_;repeat ((first|rw[cn]|rw[e0]|rw[e1]);refine zq ?_))
 refine KF hA l2 hM ((hg.ext x1).ext x2) ((hB.ext x1).ext x2) ((hx.ext x1).ext x2) s (fun i zZ=>(gd.turn i om (by have:=hB.len;omega)).1) iff eM (fun kn T h3 x3=>?_) m 0 0 h2 om om rfl (.refl h2);refine zq ?_;exact hQ h3 ((x1.trans x2).trans x3)
theorem OH{h0:af}(dE:h0.low<=h0.next){n ca cb k:Nat}{a b:Option Addr}{X Y:List Fc}(hx:Rows fC 2 h0 a n X)(hy:Rows fC 2 h0 b n Y)(XK:n<=1000)(hk:k<n)(he:∀j:Nat,j<k->gt X (j:Int)=gt Y (j:Int))(hX:okF (gt X (k:Int)).n (gt X (k:Int)).d)(hY:okF (gt Y (k:Int)).n (gt Y (k:Int)).d)(lt:vq (gt X (k:Int))<vq (gt Y (k:Int))){N:Int}(eN:N=n){Q:Exit->SS->Prop}(hQ:∀env kn T h',Ext h0 h'->Q .ret ⟨(4,.bool true) :: env,kn,T,h'⟩) :
  ∀(d i:Nat) (I:Int) (h:af),k-i=d->i<=k->I=i->Ext h0 h->head 12 2 0 ⟨[(0,.slice a n ca),(1,.slice b n cb),(5,.int .i64 I)],0,[],h⟩ Q:=by
 intro d;have e0:ofNat n=N:=by rw[eN];exact aJ hA n
 induction d with
 |zero=>
  intro i I h hd hi eI x;obtain rfl:i=k:=om
  obtain⟨X1,zP⟩:∃z,z=aH h 9:=⟨_,rfl⟩;have xb:Ext h X1:=by rw[zP];exact aw hA _ _
  have y1:=x.trans xb;obtain⟨X2,G7⟩:∃z,z=aH X1 10:=⟨_,rfl⟩;have xb2:Ext X1 X2:=by rw[G7];exact aw hA _ _
  have y2:=y1.trans xb2;obtain⟨ab,ao,rfl,_,p1⟩:=(hx.ext y1).at (i:=I) om om;obtain⟨bb,bo,rfl,_,p2⟩:=(hy.ext y1).at (i:=I) om om;obtain⟨_,_,ee,_,p3⟩:=(hx.ext y2).at (i:=I) om om;cases ee;obtain⟨_,_,ee,_,p4⟩:=(hy.ext y2).at (i:=I) om om;cases ee;have p1:=p1 0 2 om om;have p2:=p2 0 2 om om;have p3:=p3 0 2 om om;have p4:=p4 0 2 om om;rw[<-eI]at hX hY lt;obtain⟨u,eu⟩:∃z,z=gt X I:=⟨_,rfl⟩;obtain⟨v,ev⟩:∃z,z=gt Y I:=⟨_,rfl⟩;rw[<-eu]at p1 p3 hX lt;rw[<-ev]at p2 p4 hY lt;obtain⟨un,ud⟩:=u;obtain⟨vn,vd⟩:=v;have r1:rd X1 ab (place ao I 2) 2 [.int .i64 un,.int .i64 ud]:=aE hA p1;have r2:rd X1 bb (place bo I 2) 2 [.int .i64 vn,.int .i64 vd]:=aE hA p2;have r3:rd X2 ab (place ao I 2) 2 [.int .i64 un,.int .i64 ud]:=aE hA p3;have r4:rd X2 bb (place bo I 2) 2 [.int .i64 vn,.int .i64 vd]:=aE hA p4;obtain⟨r,v8,BN⟩:=Yf un ud vn vd;obtain rfl:r=false:=by
   cases r with
   |false=>rfl
   |true=>
    obtain⟨rfl,rfl⟩:=BN.1 rfl;exact absurd lt (Rat.lt_irrefl)
  refine hA.au Tryz.func12 x12.2 (zc ?_)
  (refine zq ?_;repeat ((first|rw[e0]);refine zq ?_))
  refine br (I<N) (by rw[aA hA]) (fun _=>?_) (fun q=>om)<;>refine zc ?_;rw[<-zP];refine zq ?_;rw[mI hA];refine⟨Cc,false,v8,?_⟩;have bf:fD false=true:=by rw[cB hA];rfl
  (refine zq ?_;repeat ((first|rw[bf]);refine zq ?_))
  rw[<-G7]
  (refine zq ?_;repeat ((first|rw[bf]);refine zq ?_))
  have l2:=y2.aD dE;refine MU hA (aC hA X2) hX.is hY.is (fun r h3 hr x3=>⟨r,rfl,?_⟩);obtain rfl:r=true:=hr.2 lt;obtain⟨X3,XL⟩:∃z,z=aB X2 h3:=⟨_,rfl⟩;have y3:Ext h0 X3:=by rw[XL];exact bW hA dE y2 x3
  refine zq ?_;rw[<-XL];exact hQ _ _ _ _ y3
 |succ d ih=>
 intro i I h hd hi eI x;obtain⟨X1,zP⟩:∃z,z=aH h 9:=⟨_,rfl⟩;have xb:Ext h X1:=by rw[zP];exact aw hA _ _
 have y1:=x.trans xb;obtain⟨ab,ao,rfl,_,p1⟩:=(hx.ext y1).at (i:=I) om om;obtain⟨bb,bo,rfl,_,p2⟩:=(hy.ext y1).at (i:=I) om om;have p1:=p1 0 2 om om;have p2:=p2 0 2 om om;have hei:=he i om;rw[<-eI]at hei;rw[<-hei]at p2;obtain⟨u,eu⟩:∃z,z=gt X I:=⟨_,rfl⟩;rw[<-eu]at p1 p2;obtain⟨un,ud⟩:=u;have r1:rd X1 ab (place ao I 2) 2 [.int .i64 un,.int .i64 ud]:=aE hA p1;have r2:rd X1 bb (place bo I 2) 2 [.int .i64 un,.int .i64 ud]:=aE hA p2;obtain⟨r,v8,BN⟩:=Yf un ud un ud;obtain rfl:r=true:=BN.2 ⟨rfl,rfl⟩;refine hA.au Tryz.func12 x12.2 (zc ?_)
 (refine zq ?_;repeat ((first|rw[e0]);refine zq ?_))
 refine br (I<N) (by rw[aA hA]) (fun _=>?_) (fun q=>om)<;>refine zc ?_;rw[<-zP];refine zq ?_;rw[mI hA];refine⟨Cc,true,v8,?_⟩;have bt:fD true=false:=by rw[cB hA];rfl
 (refine zq ?_;repeat ((first|rw[bt]);refine zq ?_))
 rw[aG hA om om];exact ih (i+1) (I+1) X1 om om om y1
theorem KG{h:af}(ar:h.low<=h.next){n ca cb:Nat}{a b:Option Addr}{X Y:List Fc}(hx:Rows fC 2 h a n X)(hy:Rows fC 2 h b n Y)(XK:n<=1000)(hX:∀j:Nat,j<n->okF (gt X (j:Int)).n (gt X (j:Int)).d)(hY:∀j:Nat,j<n->okF (gt Y (j:Int)).n (gt Y (j:Int)).d)(hb:QR n X Y){Q:Value->af->Prop}(hQ:∀h',Ext h h'->Q (.bool true) h'):call 12 [.slice a n ca,.slice b n cb] h Q:=by
 obtain⟨k,hk,he,lt⟩:=hb;refine hA.aO Tryz.func12 x12.2 (hA.alike _ _ _ rfl) ar (zc ?_);refine zq ?_;refine OH hA ar hx hy XK hk he (hX k hk) (hY k hk) lt (N:=(n:Int)) rfl (fun env kn T h' x=>?_) k 0 0 h om om rfl (.refl h);refine zq ?_;exact hQ h' x
theorem KH{h0:af}(dE:h0.low<=h0.next){xn xc:Nat}{xa:Option Addr}{X:List Fc}(hx:Rows fC 2 h0 xa xn X)(Uj:∀i:Int,0<=i->i<xn->i64 (gt X i).n/\i64 (gt X i).d)(x100:xn<=1000){T:List Value}{N:Int}(eN:N=xn){Q:Exit->SS->Prop}
  (iu:(∃j:Nat,j<xn/\¬cH (gt X (j:Int)))->∀env kn T h',Ext h0 h'->Q .ret ⟨(5,.int .i64 0) :: (4,.bool false) :: env,kn,T,h'⟩)
  (dr:(∀j:Nat,j<xn->cH (gt X (j:Int)))->∀h',Ext h0 h'->Q (.exit 0) ⟨[(1,.slice xa xn xc),(2,.pointer (some ⟨0,0,some 0⟩))],1,[(0,T)],h'⟩) :
  ∀(d i:Nat) (I:Int) (h:af),xn-i<=d->i<=xn->I=i->Ext h0 h->(∀j:Nat,j<i->cH (gt X (j:Int)))->
   head 16 7 1 ⟨[(1,.slice xa xn xc),(2,.pointer (some ⟨0,0,some 0⟩)),(24,.slice xa xn xc),(25,.int .i64 N),(26,.int .i64 I)],1,[(0,T)],h⟩ Q:=by
 refine o8 (fun d ih=>?_);intro i I h hd hi eI x hp;by_cases ci:i<xn
 rotate_left
 ·refine hA.au Tryz.func16 x16.2 (zc ?_)
  refine br (I<N) (by rw[aA hA]) (fun q=>om) (fun _=>?_)<;>refine zc ?_;exact dr (fun j hj=>hp j om) h x
 obtain⟨d,rfl⟩:∃k,d=k+1:=⟨d-1,om⟩
 replace ih:=ih d rfl
 have ar:=x.aD dE;obtain⟨xb,xo,rfl,_,q2⟩:=(hx.ext x).at (i:=I) om om;have q3:=q2 0 2 om om;obtain⟨i1,i2⟩:=Uj I om om;obtain⟨y,ey⟩:∃z,z=gt X I:=⟨_,rfl⟩;rw[<-ey]at q3 i1 i2;have WS:gt X (i:Int)=y:=by rw[ey,eI]
 obtain⟨yn,yd⟩:=y;have r1:rd h xb (place xo I 2) 2 [.int .i64 yn,.int .i64 yd]:=aE hA q3;refine hA.au Tryz.func16 x16.2 (zc ?_);refine br (I<N) (by rw[aA hA]) (fun _=>?_) (fun q=>om)<;>refine zc ?_;refine zq ?_;refine IC hA (x:=⟨yn,yd⟩) ar i1 i2 (fun b h1 hb x1=>⟨b,rfl,?_⟩);cases b with
 |false=>
  refine zq ?_;rw[show fD false=true by rw[cB hA];rfl];refine zq ?_;exact iu ⟨i,ci,by rw[WS];intro q;have:=hb.2 q;cases this⟩ _ _ _ h1 (x.trans x1)
 |true=>
  refine zq ?_;rw[show fD true=false by rw[cB hA];rfl];refine zq ?_;rw[aG hA om om];refine ih (i+1) (I+1) h1 om om om (x.trans x1) (fun j hj=>?_);by_cases e:j=i
  ·rw[e,WS];exact hb.1 rfl
  ·exact hp j om
theorem OI{h0:af}(dE:h0.low<=h0.next){m n ac bc xc:Nat}{aa ba xa:Option Addr}{dk:List Hd}{g:List (List Int)}{B X:List Fc}(hM:oX g m n)(hg:pz nC 1 h0 aa m dk g)(hB:Rows fC 2 h0 ba m B)(hx:Rows fC 2 h0 xa n X){D:Int}{z:Nat->Int}(s:KC X n D z)(hb:∀i:Nat,i<m->cH (gt B (i:Int))){M:Int}(eM:M=m){Q:Exit->SS->Prop}
  (iu:(∃i:Nat,i<m/\¬∃c:Int,rq (Ext.aV (fun j=>Ext.el g i j*z j) n) D=vq (gt B (i:Int))+(c:Rat))->∀env kn T h',Ext h0 h'->Q .ret ⟨(5,.int .i64 0) :: (4,.bool false) :: env,kn,T,h'⟩)
  (dr:(∀i:Nat,i<m->∃c:Int,rq (Ext.aV (fun j=>Ext.el g i j*z j) n) D=vq (gt B (i:Int))+(c:Rat))->∀kn T h',Ext h0 h'->Q (.exit 2) ⟨[],kn,T,h'⟩) :
  ∀(d i:Nat) (I:Int) (h:af),m-i<=d->i<=m->I=i->Ext h0 h->(∀k:Nat,k<i->∃c:Int,rq (Ext.aV (fun j=>Ext.el g k j*z j) n) D=vq (gt B (k:Int))+(c:Rat))->
   head 16 13 1 ⟨[(1,.slice xa n xc),(2,.pointer (some ⟨0,0,some 0⟩)),(35,.slice aa m ac),(36,.int .i64 M),(37,.int .i64 I)],1,[(0,[.slice aa m ac,.slice ba m bc])],h⟩ Q:=by
 intro d
 induction d with
 |zero=>
  intro i I h hd hi eI x hp;refine hA.au Tryz.func16 x16.2 (zc ?_);refine br (I<M) (by rw[aA hA]) (fun q=>om) (fun _=>?_)<;>refine zc ?_;exact dr (fun j hj=>hp j om) _ _ h x
 |succ d ih=>
 intro i I h hd hi eI x hp;have m4:=hM.m4;have n4:=hM.n4;by_cases ci:i<m
 rotate_left
 ·refine hA.au Tryz.func16 x16.2 (zc ?_)
  refine br (I<M) (by rw[aA hA]) (fun q=>om) (fun _=>?_)<;>refine zc ?_;exact dr (fun j hj=>hp j om) _ _ h x
 have ar:=x.aD dE;obtain⟨lb,lo,rfl,OZ,q1⟩:=(hg.ext x).jJ (i:=I) om om;obtain⟨ra,era⟩:∃z,z=(gt dk I).a:=⟨_,rfl⟩;obtain⟨rc,sS⟩:∃z,z=(gt dk I).c:=⟨_,rfl⟩;have row:=(hg.ext x).row I om om;have Ck:(gt g I).length=n:=hM.row I om om;have rl:=row.len;rw[Ck]at rl;rw[<-era,<-rl]at row;rw[<-era,<-sS,<-rl]at q1;have r1:rd h lb (place lo I 1) 1 [.slice ra n rc]:=aE hA q1;obtain⟨bb,bo,rfl,_,w2⟩:=(hB.ext x).at (i:=I) om om;have w2:=w2 0 2 om om;have tf:=hb i ci;obtain⟨f,ef⟩:∃z,z=gt B I:=⟨_,rfl⟩;rw[<-ef]at w2;have Uk:gt B (i:Int)=f:=by rw[ef,eI]
 rw[Uk]at tf;obtain⟨fn,fd⟩:=f;have r2:rd h bb (place bo I 2) 2 [.int .i64 fn,.int .i64 fd]:=aE hA w2;have eg:∀j:Nat,gt (gt g I) (j:Int)=Ext.el g i j:=fun j=>by rw[eI];rfl
 refine hA.au Tryz.func16 x16.2 (zc ?_);refine br (I<M) (by rw[aA hA]) (fun _=>?_) (fun q=>om)<;>refine zc ?_;refine zq ?_;refine QX hA ar row (hx.ext x) (Nat.le_refl n) om s.pos (z:=z) (fun k hk=>(s.dZ k hk).2.2) (B:=9000000000) (fun k hk=>by
   rw[eg];have:=hM.nine i k;unfold Ext.el;omega) (fun k hk=>by
   rw[eg];exact Fl (hM.nine i k) (s.dZ k hk).1 (s.dZ k hk).2.1 s.dD) (by have:=s.pos;have:=s.dD;omega) (fun nn dd b h1 q vr x1=>⟨b,rfl,?_⟩)
 rw[Ext.aQ n (g:=fun j=>Ext.el g i j*z j) (fun j _=>by rw[eg])]at q;have key:=IY s.pos tf q;cases b with
 |false=>
  refine zq ?_;rw[show fD false=true by rw[cB hA];rfl];refine zq ?_;refine iu ⟨i,ci,fun w=>?_⟩ _ _ _ h1 (x.trans x1);rw[Uk]at w;have:=vr.2 (key.2 w);cases this
 |true=>
  refine zq ?_;rw[show fD true=false by rw[cB hA];rfl];refine zq ?_;rw[aG hA om om];refine ih (i+1) (I+1) h1 om om om (x.trans x1) (fun j hj=>?_);by_cases e:j=i
  ·rw[e,Uk];exact key.1 (vr.1 rfl)
  ·exact hp j om
theorem KI{h:af}(ar:h.low<=h.next){m n ac bc xn xc:Nat}{aa ba xa:Option Addr}{dk:List Hd}{g:List (List Int)}{B X:List Fc}(he:ic g B 0)(hM:oX g m n)(hg:pz nC 1 h aa m dk g)(hB:Rows fC 2 h ba m B)(hi:∀i:Int,0<=i->i<m->i64 (gt B i).n/\i64 (gt B i).d)(hx:Rows fC 2 h xa xn X)(Uj:∀i:Int,0<=i->i<xn->i64 (gt X i).n/\i64 (gt X i).d)(hs:xn=n->(∀j:Nat,j<n->cH (gt X (j:Int)))->∃D z,KC X n D z){Q:Value->af->Prop}
  (hQ:∀b h',(b=true↔oO g B m n X)->Ext h h'->Q (.tuple #[.bool b,.int .i64 0]) h'):call 16 [.agg #[.slice aa m ac,.slice ba m bc],.slice xa xn xc] h Q:=by
 obtain⟨M,eM⟩:∃s:Int,s=m:=⟨_,rfl⟩;have e0:ofNat m=M:=by rw[eM];exact aJ hA m
 obtain⟨N,eN⟩:∃s:Int,s=xn:=⟨_,rfl⟩;have e1:ofNat xn=N:=by rw[eN];exact aJ hA xn
 obtain⟨N',eN'⟩:∃s:Int,s=n:=⟨_,rfl⟩;have e2:ofNat n=N':=by rw[eN'];exact aJ hA n
 have m1:=hM.m1;have m4:=hM.m4;have n4:=hM.n4;obtain⟨gd,nm⟩:=he.ph;refine hA.aO Tryz.func16 x16.2 (hA.alike _ _ _ rfl) ar (zc ?_);refine zq ?_;refine tV hA ar hg.TW hB hi (fun e h1 ce x1=>⟨e,rfl,?_⟩);obtain rfl:=he.uniq ce;have l1:=x1.aD ar;have cn:cmp .neq (0:Int) 0=false:=by rw[bR hA];rfl
 obtain⟨lb,lo,rfl,OZ,q1⟩:=(hg.ext x1).jJ (i:=0) om om;have row:=(hg.ext x1).row 0 om om;have Ck:(gt g 0).length=n:=hM.row 0 om om;have rl:=row.len;rw[Ck]at rl;rw[<-rl]at q1;have r1:rd h1 lb (place lo 0 1) 1 [.slice (gt dk 0).a n (gt dk 0).c]:=aE hA q1
 (refine zq ?_;repeat ((first|rw[cn]|rw[e0]|rw[e1]|rw[e2]);refine zq ?_))
 refine br (N≠N') (by rw[bR hA]) (fun c=>?_) (fun c=>?_)<;>refine zc ?_
 ·refine zq ?_
  exact hQ false h1 ⟨(fun q=>by cases q),fun q=>by have:=q.len;have:=hx.len;omega⟩ x1
 obtain rfl:xn=n:=om
 (refine zq ?_;repeat ((first|rw[cn]|rw[e0]|rw[e1]|rw[e2]);refine zq ?_))
 have hlen:=hx.len;refine KH hA l1 (hx.ext x1) Uj om eN (fun q env kn T h2 x2=>?_) (fun q h2 x2=>?_) xn 0 0 h1 om om rfl (.refl h1) (fun j hj=>om)
 ·refine zq ?_
  obtain⟨j,hj,q⟩:=q;exact hQ false h2 ⟨(fun q=>by cases q),fun w=>absurd (w.turn j hj) q⟩ (x1.trans x2)
 obtain⟨D,z,s⟩:=hs rfl q;have l2:=x2.aD l1;have iff:=oO.iff (g:=g) (B:=B) (m:=m) s om q
 (refine zq ?_;repeat ((first|rw[cn]|rw[e0]|rw[e1]|rw[e2]);refine zq ?_))
 refine OI hA l2 hM ((hg.ext x1).ext x2) ((hB.ext x1).ext x2) ((hx.ext x1).ext x2) s (fun i zZ=>(gd.turn i om (by have:=hB.len;omega)).1) eM (fun w env kn T h3 x3=>?_) (fun w kn T h3 x3=>?_) m 0 0 h2 om om rfl (.refl h2) (fun j hj=>om)
 ·refine zq ?_
  obtain⟨i,zZ,w⟩:=w;exact hQ false h3 ⟨(fun q=>by cases q),fun v=>absurd (iff.1 v i zZ) w⟩ ((x1.trans x2).trans x3)
 ·refine zq ?_
  exact hQ true h3 ⟨fun _=>iff.2 w,fun _=>rfl⟩ ((x1.trans x2).trans x3)
theorem Ul{h0:af}(dE:h0.low<=h0.next){m n r qc:Nat}{qa:Option Addr}{g:List (List Int)}(hM:oX g m n)(ir:oC g m n r)(rp:Rows nC 1 h0 qa r (Ej g m n r)){x y:Int}{T:List Value}{Q:Exit->SS->Prop}
  (hQ:∀h' (P:Int),P=(Ext.Dv g m n r:Nat)->Ext h0 h'->Q (.exit 0) ⟨[(1,.int .i64 x),(2,.int .i64 y),(3,.pointer (some ⟨0,0,some 0⟩)),(7,.bool true),(8,.slice qa r qc),(9,.int .i64 0),(10,.int .i64 P)],1,[(0,T)],h'⟩) :
  ∀(d j:Nat) (J P:Int) (h:af),r-j<=d->j<=r->J=j->P=(Ext.Dv g m n j:Nat)->Ext h0 h->
   head 3 7 1 ⟨[(1,.int .i64 x),(2,.int .i64 y),(3,.pointer (some ⟨0,0,some 0⟩)),(7,.bool true),(8,.slice qa r qc),(9,.int .i64 0),(10,.int .i64 P),(11,.int .i64 J)],1,[(0,T)],h⟩ Q:=by
 intro d;obtain⟨R,eR⟩:∃z:Int,z=r:=⟨_,rfl⟩;have e0:ofNat r=R:=by rw[eR];exact aJ hA r
 have r4:r<=4:=by have:=ir.lm;have:=hM.m4;omega
 induction d with
 |zero=>
  intro j J P h hd hj eJ eP e;refine hA.au Tryz.func3 nE (zc ?_)
  (refine zq ?_;repeat ((first|rw[e0]);refine zq ?_))
  refine br (J<R) (by rw[aA hA]) (fun q=>om) (fun _=>?_)<;>refine zc ?_;obtain rfl:j=r:=om
  exact hQ h P eP e
 |succ d ih=>
 intro j J P h hd hj eJ eP e;by_cases cj:j<r
 rotate_left
 ·refine hA.au Tryz.func3 nE (zc ?_)
  (refine zq ?_;repeat ((first|rw[e0]);refine zq ?_))
  refine br (J<R) (by rw[aA hA]) (fun q=>om) (fun _=>?_)<;>refine zc ?_;obtain rfl:j=r:=om
  exact hQ h P eP e
 obtain⟨X1,zP⟩:∃z,z=aH h 22:=⟨_,rfl⟩;have xb:Ext h X1:=by rw[zP];exact aw hA _ _
 have y1:=e.trans xb;obtain⟨p1,p2⟩:=inv_mul ir r4 cj;have sm:=zF (k:=j) hM;have sm1:=zF (k:=j+1) hM;have at1:=OD (g:=g) (m:=m) (n:=n) cj;obtain⟨v,ev⟩:∃v:Int,v=((Ext.Dv g m n (j+1) / Ext.Dv g m n j:Nat):Int):=⟨_,rfl⟩;have v1:1<=v:=om
 have pv:P*v=((Ext.Dv g m n (j+1):Nat):Int):=by rw[eP,ev,<-Int.natCast_mul,p2]
 obtain⟨P',YV⟩:∃z,z=P*v:=⟨_,rfl⟩;have eP2:P'=((Ext.Dv g m n (j+1):Nat):Int):=by rw[YV,pv]
 have m1:arith .mul .i64 P v=P':=by rw[YV];exact jg hA (by rw[<-YV];omega) (by rw[<-YV];omega)
 rw[<-ev,<-eJ]at at1;obtain⟨qb,qo,rfl,_,w1⟩:=(rp.ext y1).at (i:=J) om om;have w1:=w1 0 1 om om;rw[at1]at w1;have r1:rd X1 qb (place qo J 1) 1 [.int .i64 v]:=aE hA w1;have c1:cmp .lss v 1=false:=by rw[aA hA];simp;omega
 refine hA.au Tryz.func3 nE (zc ?_)
 (refine zq ?_;repeat ((first|rw[e0]);refine zq ?_))
 refine br (J<R) (by rw[aA hA]) (fun _=>?_) (fun q=>om)<;>refine zc ?_;rw[<-zP];by_cases j0:j=0
 ·have c2:cmp .gtr J 0=false:=by rw[cS hA];simp;omega
  (refine zq ?_;repeat ((first|rw[c1]|rw[c2]);refine zq ?_))
  obtain⟨_,_,ee,_,w2⟩:=(rp.ext y1).at (i:=J) om om
  (refine zq ?_;repeat ((first|rw[c1]|rw[c2]|rw[m1]);refine zq ?_))
  rw[aG hA om om];exact ih (j+1) (J+1) P' X1 om om om eP2 y1
 ·have c2:cmp .gtr J 0=true:=by rw[cS hA];simp;omega
  obtain⟨i,ei⟩:∃i,i+1=j:=⟨j-1,om⟩;subst ei;have dv:=QV hM.m4 hM.n4 ir cj;have Cn:=OD (g:=g) (m:=m) (n:=n) (show i<r by omega);obtain⟨s1,s2⟩:=inv_mul ir r4 (show i<r by omega);obtain⟨u,eu⟩:∃u:Int,u=((Ext.Dv g m n (i+1) / Ext.Dv g m n i:Nat):Int):=⟨_,rfl⟩;rw[<-eu]at Cn;obtain⟨J1,eJ1⟩:∃z:Int,z=J-1:=⟨_,rfl⟩;have m2:arith .sub .i64 J 1=J1:=by rw[eJ1];exact bN hA om om
  rw[show(i:Int)=J1 by omega]at Cn;obtain⟨_,_,ee,_,w2⟩:=(rp.ext y1).at (i:=J1) om om;cases ee;have w2:=w2 0 1 om om;rw[Cn]at w2;have r2:rd X1 qb (place qo J1 1) 1 [.int .i64 u]:=aE hA w2;have m3:arith .rem .i64 v u=0:=by
   rw[A4 hA,ev,eu];exact Int.tmod_eq_zero_of_dvd (Int.ofNat_dvd.2 dv)
  have c3:cmp .neq (0:Int) 0=false:=by rw[bR hA];rfl
  (refine zq ?_;repeat ((first|rw[c1]|rw[c2]|rw[m2]|rw[m3]|rw[c3]|rw[m1]);refine zq ?_))
  rw[aG hA om om];exact ih (i+1+1) (J+1) P' X1 om om om eP2 y1
theorem Um{h0:af}(dE:h0.low<=h0.next){m n ac bc N lc:Nat}{aa ba la:Option Addr}{dk lh:List Hd}{g:List (List Int)}{B:List Fc}{L:List (List Fc)}(he:ic g B 0)(hM:oX g m n)(hg:pz nC 1 h0 aa m dk g)(hB:Rows fC 2 h0 ba m B)(hi:∀i:Int,0<=i->i<m->i64 (gt B i).n/\i64 (gt B i).d)(gl:pz fC 2 h0 la N lh L)(ag:Hp g B m n L){P x y:Int}(eP:P=N)(N64:N<=64){Q:Exit->SS->Prop}
  (hQ:∀h',Ext h0 h'->Q (.exit 2) ⟨[(1,.int .i64 x),(2,.int .i64 y),(3,.pointer (some ⟨0,0,some 0⟩)),(7,.bool true),(10,.int .i64 P),(17,.slice la N lc)],1,[(0,[.slice aa m ac,.slice ba m bc])],h'⟩) :
  ∀(d j:Nat) (J:Int) (h:af),N-j<=d->j<=N->J=j->Ext h0 h->
   head 3 26 1 ⟨[(1,.int .i64 x),(2,.int .i64 y),(3,.pointer (some ⟨0,0,some 0⟩)),(7,.bool true),(10,.int .i64 P),(17,.slice la N lc),(19,.int .i64 J)],1,[(0,[.slice aa m ac,.slice ba m bc])],h⟩ Q:=by
 intro d;obtain⟨D,Ug⟩:=ag.Ug;have n4:=hM.n4
 induction d with
 |zero=>
  intro j J h hd hj eJ e;refine hA.au Tryz.func3 nE (zc ?_);refine br (J<P) (by rw[aA hA]) (fun q=>om) (fun _=>?_)<;>refine zc ?_;exact hQ h e
 |succ d ih=>
 intro j J h hd hj eJ e;by_cases cj:j<N
 rotate_left
 ·refine hA.au Tryz.func3 nE (zc ?_)
  refine br (J<P) (by rw[aA hA]) (fun q=>om) (fun _=>?_)<;>refine zc ?_;exact hQ h e
 have hlL:=gl.len;obtain⟨X1,zP⟩:∃z,z=aH h 11:=⟨_,rfl⟩;have xb:Ext h X1:=by rw[zP];exact aw hA _ _
 have y1:=e.trans xb;have l1:=y1.aD dE;obtain⟨lb,lo,rfl,OZ,q1⟩:=(gl.ext y1).jJ (i:=J) om om;have row:=(gl.ext y1).row J om om;have mem:gt L J∈L:=uY L om om;have sol:=(ag.all.mem _).1 mem;obtain⟨z,sm⟩:=Ug _ mem;have rl:=row.len;rw[sol.len]at rl;rw[<-rl]at row q1;obtain⟨ra,era⟩:∃z,z=(gt lh J).a:=⟨_,rfl⟩;obtain⟨rc,sS⟩:∃z,z=(gt lh J).c:=⟨_,rfl⟩;rw[<-era]at row q1;rw[<-sS]at q1;have r1:rd X1 lb (place lo J 1) 1 [.slice ra n rc]:=aE hA q1;have cn:cmp .neq (0:Int) 0=false:=by rw[bR hA];rfl
 have bt:fD true=false:=by rw[cB hA];rfl
 refine hA.au Tryz.func3 nE (zc ?_);refine br (J<P) (by rw[aA hA]) (fun _=>?_) (fun q=>om)<;>refine zc ?_;rw[<-zP];refine zq ?_;refine Hr hA (aC hA X1) he hM ((hg.ext y1).ext (fL hA X1)) ((hB.ext y1).ext (fL hA X1)) hi (row.ext (fL hA X1)) sm sol (fun h2 x2=>⟨_,_,rfl,?_⟩);obtain⟨X2,G7⟩:∃z,z=aB X1 h2:=⟨_,rfl⟩;have y2:Ext h0 X2:=by rw[G7];exact bW hA dE y1 x2
 obtain⟨X3,XL⟩:∃z,z=aH X2 23:=⟨_,rfl⟩;have y3:Ext h0 X3:=y2.trans (by rw[XL];exact aw hA _ _);have l3:=y3.aD dE;refine zq ?_;rw[<-G7]
 (refine zq ?_;repeat ((first|rw[cn]|rw[bt]);refine zq ?_))
 rw[<-XL];by_cases j0:j=0
 ·have c2:cmp .gtr J 0=false:=by rw[cS hA];simp;omega
  (refine zq ?_;repeat ((first|rw[cn]|rw[bt]|rw[c2]);refine zq ?_))
  rw[aG hA om om];exact ih (j+1) (J+1) X3 om om om y3
 ·have c2:cmp .gtr J 0=true:=by rw[cS hA];simp;omega
  obtain⟨i,ei⟩:∃i,i+1=j:=⟨j-1,om⟩;subst ei;obtain⟨J1,eJ1⟩:∃z:Int,z=J-1:=⟨_,rfl⟩;have m2:arith .sub .i64 J 1=J1:=by rw[eJ1];exact bN hA om om
  have eJ2:J1=(i:Int):=om
  obtain⟨_,_,ee,_,q2⟩:=(gl.ext y3).jJ (i:=J) om om;cases ee;obtain⟨_,_,ee,_,q3⟩:=(gl.ext y3).jJ (i:=J1) om om;cases ee;have XM:=(gl.ext y3).row J om om;have JO:=(gl.ext y3).row J1 om om;have aaA:gt L J1∈L:=uY L om om;have XN:=(ag.all.mem _).1 aaA;have rl1:=JO.len;rw[XN.len]at rl1;rw[<-rl,<-era]at XM q2;rw[<-sS]at q2;rw[<-rl1]at JO q3;obtain⟨sa,Ki⟩:∃z,z=(gt lh J1).a:=⟨_,rfl⟩;obtain⟨sc,NC⟩:∃z,z=(gt lh J1).c:=⟨_,rfl⟩;rw[<-Ki]at JO q3;rw[<-NC]at q3;have r2:rd X3 lb (place lo J 1) 1 [.slice ra n rc]:=aE hA q2;have r3:rd X3 lb (place lo J1 1) 1 [.slice sa n sc]:=aE hA q3;have bf:=ag.all.bef (j:=i) om;rw[<-eJ2,<-eJ]at bf
  (refine zq ?_;repeat ((first|rw[cn]|rw[bt]|rw[c2]|rw[m2]);refine zq ?_))
  refine KG hA (aC hA X3) (JO.ext (fL hA X3)) (XM.ext (fL hA X3)) om (fun k hk=>(XN.turn k hk).1) (fun k hk=>(sol.turn k hk).1) bf (fun h4 x4=>⟨_,rfl,?_⟩);obtain⟨X4,eX4⟩:∃z,z=aB X3 h4:=⟨_,rfl⟩;have y4:Ext h0 X4:=by rw[eX4];exact bW hA dE y3 x4
  (refine zq ?_;repeat ((first|rw[cn]|rw[bt]|rw[c2]|rw[m2]);refine zq ?_))
  rw[<-eX4]
  (refine zq ?_;repeat ((first|rw[cn]|rw[bt]|rw[c2]|rw[m2]);refine zq ?_))
  rw[aG hA om om];exact ih (i+1+1) (J+1) X4 om om om y4
theorem aaB{h0:af}(dE:h0.low<=h0.next){n N lc:Nat}{la:Option Addr}{lh:List Hd}{L:List (List Fc)}(n4:n<=4)(gl:pz fC 2 h0 la N lh L){x y D:Int}(x0:0<=x)(x1:x<N)(y0:0<=y)(y1:y<N)(N64:N<=64){yu yv:Nat->Int}(lu:(gt L x).length=n)(lv:(gt L y).length=n)(su:KC (gt L x) n D yu)(sv:KC (gt L y) n D yv){T:List Value}{Q:Exit->SS->Prop}
  (hQ:∀h' a c,mT h' 2 a n c ((O6 yu yv D n).flatMap fC)->jm h0.next a->Ext h0 h'->Q (.exit 4) ⟨[(3,.pointer (some ⟨0,0,some 0⟩)),(7,.bool true),(22,.slice a n c),(23,.slice none 0 0)],1,[(0,T)],h'⟩) :
  ∀(d j:Nat) (J:Int) (h:af) (a:Option Addr) (c:Nat),n-j<=d->j<=n->J=j->mT h 2 a j c ((O6 yu yv D j).flatMap fC)->jm h0.next a->Ext h0 h->
   head 3 35 1 ⟨[(1,.int .i64 x),(2,.int .i64 y),(3,.pointer (some ⟨0,0,some 0⟩)),(7,.bool true),(17,.slice la N lc),(22,.slice a j c),(23,.slice none 0 0),(24,.int .i64 J)],1,[(0,T)],h⟩ Q:=by
 intro d;obtain⟨M,eM⟩:∃z:Int,z=n:=⟨_,rfl⟩;have e0:ofNat n=M:=by rw[eM];exact aJ hA n
 have row:=gl.row x x0 x1;have QY:=gl.row y y0 y1;have rl:=row.len;have rl':=QY.len;rw[lu]at rl;rw[lv]at rl';rw[<-rl]at row;rw[<-rl']at QY;obtain⟨ra,era⟩:∃z,z=(gt lh x).a:=⟨_,rfl⟩;obtain⟨rc,sS⟩:∃z,z=(gt lh x).c:=⟨_,rfl⟩;obtain⟨sa,Ki⟩:∃z,z=(gt lh y).a:=⟨_,rfl⟩;obtain⟨sc,NC⟩:∃z,z=(gt lh y).c:=⟨_,rfl⟩;rw[<-era]at row;rw[<-Ki]at QY
 induction d with
 |zero=>
  intro j J h a c hd hj eJ t fo e;obtain⟨lb,lo,rfl,OZ,q1⟩:=(gl.ext e).jJ (i:=x) x0 x1;rw[<-rl,<-era,<-sS]at q1;have r1:rd h lb (place lo x 1) 1 [.slice ra n rc]:=aE hA q1;refine hA.au Tryz.func3 nE (zc ?_)
  (refine zq ?_;repeat ((first|rw[e0]);refine zq ?_))
  refine br (J<M) (by rw[aA hA]) (fun q=>om) (fun _=>?_)<;>refine zc ?_;obtain rfl:j=n:=om
  exact hQ h a c t fo e
 |succ d ih=>
 intro j J h a c hd hj eJ t fo e;obtain⟨lb,lo,rfl,OZ,q1⟩:=(gl.ext e).jJ (i:=x) x0 x1;rw[<-rl,<-era,<-sS]at q1;have r1:rd h lb (place lo x 1) 1 [.slice ra n rc]:=aE hA q1;by_cases cj:j<n
 rotate_left
 ·refine hA.au Tryz.func3 nE (zc ?_)
  (refine zq ?_;repeat ((first|rw[e0]);refine zq ?_))
  refine br (J<M) (by rw[aA hA]) (fun q=>om) (fun _=>?_)<;>refine zc ?_;obtain rfl:j=n:=om
  exact hQ h a c t fo e
 obtain⟨X1,zP⟩:∃z,z=aH h 21:=⟨_,rfl⟩;have xb:Ext h X1:=by rw[zP];exact aw hA _ _
 have z1:=e.trans xb;have l1:=z1.aD dE;obtain⟨_,_,ee,_,q2⟩:=(gl.ext z1).jJ (i:=x) x0 x1;cases ee;obtain⟨_,_,ee,_,q3⟩:=(gl.ext z1).jJ (i:=y) y0 y1;cases ee;rw[<-rl,<-era,<-sS]at q2;rw[<-rl',<-Ki,<-NC]at q3;have r2:rd X1 lb (place lo x 1) 1 [.slice ra n rc]:=aE hA q2;have r3:rd X1 lb (place lo y 1) 1 [.slice sa n sc]:=aE hA q3;clear era Ki;obtain⟨ub,uo,eu,_,w1⟩:=(row.ext z1).at (i:=J) om om;obtain⟨vb,vo,ev,_,w2⟩:=(QY.ext z1).at (i:=J) om om;subst eu ev;have w1:=w1 0 2 om om;have w2:=w2 0 2 om om;have pu:=(su.dZ j cj).2.2;have pv:=(sv.dZ j cj).2.2;have bu:=su.dZ j cj;have bv:=sv.dZ j cj;have Dp:=su.pos;have Dl:=su.dD;rw[<-eJ]at pu pv;obtain⟨f,ef⟩:∃z,z=gt (gt L x) J:=⟨_,rfl⟩;obtain⟨k,ek⟩:∃z,z=gt (gt L y) J:=⟨_,rfl⟩;rw[<-ef]at w1 pu;rw[<-ek]at w2 pv;obtain⟨fn,fd⟩:=f;obtain⟨kn,kd⟩:=k;have r4:rd X1 ub (place uo J 2) 2 [.int .i64 fn,.int .i64 fd]:=aE hA w1;have r5:rd X1 vb (place vo J 2) 2 [.int .i64 kn,.int .i64 kd]:=aE hA w2;have pu:fW fn fd (rq (yu j) D):=pu;have pv:fW kn kd (rq (yv j) D):=pv;have es:O6 yu yv D (j+1)=O6 yu yv D j++[fr ((yu j-yv j) % D) D]:=nH _ _;have elim:bZ (next h) 21=X1.next:=by rw[dj hA,cX hA,zP,mV hA];rfl
 refine hA.au Tryz.func3 nE (zc ?_)
 (refine zq ?_;repeat ((first|rw[e0]);refine zq ?_))
 refine br (J<M) (by rw[aA hA]) (fun _=>?_) (fun q=>om)<;>refine zc ?_;rw[<-zP]
 (refine zq ?_;repeat ((first|rw[e0]);refine zq ?_))
 refine Cr hA (aC hA X1) pu.iU pu.jC pv.iU pv.jC (fun a1 b1 r k1 h2 x2=>⟨_,_,_,rfl,?_⟩);have XO:rq (yu j) D-rq (yv j) D=rq (yu j-yv j) D:=u6 om;obtain⟨k2,rfl⟩:=oM pu pv (f:=(· - ·)) (by show fits (rq (yu j) D-rq (yv j) D);rw[XO];exact lD om om om) k1
 replace k2:fW a1 b1 (rq (yu j) D-rq (yv j) D):=k2
 rw[XO]at k2;obtain⟨X2,G7⟩:∃z,z=aB X1 h2:=⟨_,rfl⟩;have z2:Ext h0 X2:=by rw[G7];exact bW hA dE z1 x2
 have t2:Ext h X2:=by rw[G7];exact bW hA (e.aD dE) xb x2
 have l2:=z2.aD dE
 (refine zq ?_;repeat ((first|rw[e0]);refine zq ?_))
 rw[<-G7]
 (refine zq ?_;repeat ((first|rw[e0]);refine zq ?_))
 refine IG hA l2 k2 Dp om (fun mn md h3 q3 x3=>⟨_,_,rfl,?_⟩);have ef:(⟨mn,md⟩:Fc)=fr ((yu j-yv j) % D) D:=Hn q3.1 q3.2.1;have t3:=(t.ext t2).ext x3;have z3:=z2.trans x3
 (refine zq ?_;repeat ((first|rw[e0]);refine zq ?_))
 refine CJ hA TFr ve om N5 (v:=(⟨mn,md⟩:Fc)) t3 om (fun a' c' h4 t4 x4=>?_);rw[ef,<-es]at t4;obtain⟨x5,f5⟩:=x4 h0 z3 fo;obtain⟨j1,ej1⟩:∃z,z=j+1:=⟨_,rfl⟩;rw[<-ej1]at t4 ⊢
 (refine zq ?_;repeat ((first|rw[e0]);refine zq ?_))
 rw[aG hA om om];exact ih j1 (J+1) h4 a' c' om om om t4 f5 x5
omit hA in
theorem Hs(m:Nat):rZ (m+1)=rZ m++[⟨0,1⟩]:=nH _ _
theorem Un{h:af}(ar:h.low<=h.next){a b:Int}{Q:Value->af->Prop}(hQ:Q (.agg #[.int .i64 a,.int .i64 b]) h):call 15 [.int .i64 a,.int .i64 b] h Q:=by
 refine hA.aO Tryz.func15 x15.2 (hA.alike _ _ _ rfl) ar (zc ?_);refine zq ?_;exact hQ
theorem aaC{h0:af}(dE:h0.low<=h0.next){m ac bc:Nat}{aa ba:Option Addr}(m4:m<=4){xa:Option Addr}{xn xc:Nat}{Q:Exit->SS->Prop}
  (hQ:∀h' a c,mT h' 2 a m c ((rZ m).flatMap fC)->jm h0.next a->Ext h0 h'->Q (.exit 6) ⟨[(3,.pointer (some ⟨0,0,some 0⟩)),(7,.bool true),(22,.slice xa xn xc),(23,.slice a m c)],1,[(0,[.slice aa m ac,.slice ba m bc])],h'⟩) :
  ∀(d j:Nat) (J:Int) (h:af) (a:Option Addr) (c:Nat),m-j<=d->j<=m->J=j->mT h 2 a j c ((rZ j).flatMap fC)->jm h0.next a->Ext h0 h->
   head 3 40 1 ⟨[(3,.pointer (some ⟨0,0,some 0⟩)),(7,.bool true),(22,.slice xa xn xc),(23,.slice a j c),(27,.int .i64 J)],1,[(0,[.slice aa m ac,.slice ba m bc])],h⟩ Q:=by
 intro d;obtain⟨M,eM⟩:∃z:Int,z=m:=⟨_,rfl⟩;have e0:ofNat m=M:=by rw[eM];exact aJ hA m
 induction d with
 |zero=>
  intro j J h a c hd hj eJ t fo e;refine hA.au Tryz.func3 nE (zc ?_)
  (refine zq ?_;repeat ((first|rw[e0]);refine zq ?_))
  refine br (J<M) (by rw[aA hA]) (fun q=>om) (fun _=>?_)<;>refine zc ?_;obtain rfl:j=m:=om
  exact hQ h a c t fo e
 |succ d ih=>
 intro j J h a c hd hj eJ t fo e;by_cases cj:j<m
 rotate_left
 ·refine hA.au Tryz.func3 nE (zc ?_)
  (refine zq ?_;repeat ((first|rw[e0]);refine zq ?_))
  refine br (J<M) (by rw[aA hA]) (fun q=>om) (fun _=>?_)<;>refine zc ?_;obtain rfl:j=m:=om
  exact hQ h a c t fo e
 have es:=Hs j;refine hA.au Tryz.func3 nE (zc ?_)
 (refine zq ?_;repeat ((first|rw[e0]);refine zq ?_))
 refine br (J<M) (by rw[aA hA]) (fun _=>?_) (fun q=>om)<;>refine zc ?_
 (refine zq ?_;repeat ((first|rw[e0]);refine zq ?_))
 refine Un hA (e.aD dE) ⟨_,_,rfl,?_⟩
 (refine zq ?_;repeat ((first|rw[e0]);refine zq ?_))
 refine CJ hA TFr ve om N5 (v:=(⟨0,1⟩:Fc)) t om (fun a' c' h4 t4 x4=>?_);rw[<-es]at t4;obtain⟨x5,f5⟩:=x4 h0 e fo;obtain⟨j1,ej1⟩:∃z,z=j+1:=⟨_,rfl⟩;rw[<-ej1]at t4 ⊢
 (refine zq ?_;repeat ((first|rw[e0]);refine zq ?_))
 rw[aG hA om om];exact ih j1 (J+1) h4 a' c' om om om t4 f5 x5
set_option maxHeartbeats 2000000 in
theorem KJ(hF:∀h,F 5 [] h=some (.bool true,h))(hI:sH F){h:af}(ar:h.low<=h.next){m ac k bc:Nat}{aa ba:Option Addr}{dk:List Hd}{g:List (List Int)}{B:List Fc}{x y:Int}(hg:zm nC 1 h aa m dk g)(hB:Rows fC 2 h ba k B)(hm:m<=maxLen)(hk:k<=maxLen)(hi:∀i:Int,0<=i->i<k->i64 (gt B i).n/\i64 (gt B i).d){Q:Value->af->Prop}
  (hQ:∀h',Ext h h'->Q (.bool true) h'):call 3 [.agg #[.slice aa m ac,.slice ba k bc],.int .i64 x,.int .i64 y] h Q:=by
 have cn:cmp .neq (0:Int) 0=false:=by rw[bR hA];rfl
 have ce:cmp .eql (0:Int) 0=true:=by rw[cY hA];rfl
 have bt:fD true=false:=by rw[cB hA];rfl
 refine hA.aO Tryz.func3 nE (hA.alike _ _ _ rfl) ar (zc ?_);refine zq ?_;refine hA.Mf (hF h) ⟨_,rfl,?_⟩;refine zq ?_;refine Bj hA ar hg hB hi (fun e h1 he x1=>⟨e,rfl,?_⟩);by_cases ez:e=0
 rotate_left
 ·have c1:cmp .neq e 0=true:=by rw[bR hA];simp[ez]
  (refine zq ?_;repeat ((first|rw[c1]);refine zq ?_))
  exact hQ h1 x1
 subst ez
 (refine zq ?_;repeat ((first|rw[cn]|rw[bt]);refine zq ?_))
 obtain⟨gd,nm⟩:=he.ph;obtain⟨m',n,hM⟩:=gd.YA nm;obtain rfl:m=m':=by have:=hg.len;have:=hM.len;omega
 have zJ:=hg.full (fun y y0 y1=>by rw[hM.row y y0 y1];exact hM.n1);have RV:k=m:=by have:=gd.len;have:=hB.len;have:=hg.len;omega
 subst RV;have ht:∀i:Int,0<=i->i<k->cH (gt B i)/\(gt B i).d<=60:=fun i i0 i1=>gd.turn i i0 (by have:=hB.len;omega)
 have m1:=hM.m1;have m4:=hM.m4;have n4:=hM.n4;have l1:=x1.aD ar;refine Ax hA l1 (hg.ext x1) (hB.ext x1) hi (fun e' h' c' ne _=>absurd (he.uniq c').symm ne) (fun h2 n' r qa qc c' uv x2 ir ap=>⟨_,_,_,_,rfl,?_⟩);obtain⟨_,rfl⟩:=hM.uniq uv;have rp:Rows nC 1 h2 qa r (Ej g k n r):=⟨ap.cells,gC,om⟩;have l2:=x2.aD l1;have y2:=x1.trans x2;have rm:=ir.lm;have rn:=ir.ln;refine zq ?_;refine Ul hA l2 hM ir rp (fun h3 P eP x3=>?_) r 0 0 1 h2 om om rfl (by rw[Ext.Cl];rfl) (.refl h2);have l3:=x3.aD l2;have y3:=y2.trans x3;refine zq ?_;have Psm:=zF (k:=r) hM;refine EY hA hI l3 (hg.ext y3) (hB.ext y3) hi (fun e' h' c' ne _=>absurd (he.uniq c').symm ne) (fun h4 n' c' uv nr x4=>⟨_,_,_,rfl,?_⟩) (fun h4 n' r' c f c' uv hR ir' ec ef x4=>⟨_,_,_,rfl,?_⟩)
 ·
  obtain⟨_,rfl⟩:=hM.uniq uv;have l4:=x4.aD l3;have y4:=y3.trans x4;refine zq ?_;refine vR hA hI l4 (hg.ext y4) (hB.ext y4) hi (fun e' h' c' ne _=>absurd (he.uniq c').symm ne) (fun b h5 n' c' uv hb x5=>⟨_,_,rfl,?_⟩);obtain⟨_,rfl⟩:=hM.uniq uv;obtain rfl:b=false:=by
   cases b with
   |false=>rfl
   |true=>exact absurd (hb.1 rfl) nr
  have l5:=x5.aD l4;have y5:=y4.trans x5;refine zq ?_;refine IZ hA hI l5 he hM (zJ.ext y5) (hB.ext y5) hi (fun ea L hs h6 N lc la lh av xs L1=>⟨_,_,_,_,rfl,?_⟩);obtain rfl:ea=6:=by
   rcases av with ⟨_,a⟩|⟨a,_⟩
   ·exact absurd a.rel nr
   ·rcases a with ⟨_,q⟩|⟨q,_⟩
    ·exact q
    ·exact absurd q nr
  have y6:=y5.trans (xs.trans L1.ext);have c6:cmp .neq (6:Int) 0=true:=by rw[bR hA];rfl
  have c66:cmp .neq (6:Int) 6=false:=by rw[bR hA];rfl
  have d6:cmp .eql (6:Int) 0=false:=by rw[cY hA];rfl
  have bs:iw false false=true:=by rw[qZ hA];rfl
  (refine zq ?_;repeat ((first|rw[cn]|rw[c6]|rw[c66]|rw[d6]|rw[bs]|rw[bt]);refine zq ?_))
  exact hQ h6 y6
 obtain⟨_,rfl⟩:=hM.uniq uv;obtain rfl:=ir.uniq ir';obtain rfl:c=P:=om
 have l4:=x4.aD l3;have y4:=y3.trans x4;refine zq ?_;refine vR hA hI l4 (hg.ext y4) (hB.ext y4) hi (fun e' h' c' ne _=>absurd (he.uniq c').symm ne) (fun b h5 n' c' uv hb x5=>⟨_,_,rfl,?_⟩);obtain⟨_,rfl⟩:=hM.uniq uv;obtain rfl:b=true:=hb.2 hR;have l5:=x5.aD l4;have y5:=y4.trans x5;refine zq ?_;refine IZ hA hI l5 he hM (zJ.ext y5) (hB.ext y5) hi (fun ea L hs h6 N lc la lh av xs L1=>⟨_,_,_,_,rfl,?_⟩);have x6:=xs.trans L1.ext;have l6:=x6.aD l5;have y6:=y5.trans x6;obtain⟨lb,lo,rfl,OZ,q1⟩:=(zJ.ext y6).jJ (i:=0) om om;have row:=(zJ.ext y6).row 0 om om;have Ck:(gt g 0).length=n:=hM.row 0 om om;have rl:=row.len;rw[Ck]at rl;obtain⟨ra,era⟩:∃z,z=(gt dk 0).a:=⟨_,rfl⟩;obtain⟨rc,sS⟩:∃z,z=(gt dk 0).c:=⟨_,rfl⟩;rw[<-rl,<-era,<-sS]at q1;have r1:rd h6 lb (place lo 0 1) 1 [.slice ra n rc]:=aE hA q1;obtain⟨Nn,eNn⟩:∃z:Int,z=n:=⟨_,rfl⟩;have e1:ofNat n=Nn:=by rw[eNn];exact aJ hA n
 obtain⟨Rr,eRr⟩:∃z:Int,z=r:=⟨_,rfl⟩;have e2:ofNat r=Rr:=by rw[eRr];exact aJ hA r
 have Uk:f=Nn-Rr:=om
 have m2:arith .sub .i64 Nn Rr=f:=by rw[bN hA om om];omega
 have cP:cmp .neq c c=false:=by rw[bR hA];simp
 have cf:cmp .neq f f=false:=by rw[bR hA];simp
 have bs:iw true true=true:=by rw[qZ hA];rfl
 (refine zq ?_;repeat ((first|rw[cn]|rw[ce]|rw[bt]|rw[bs]|rw[e1]|rw[e2]|rw[m2]|rw[cP]|rw[cf]);refine zq ?_))
 obtain⟨Ll,eLl⟩:∃z:Int,z=N:=⟨_,rfl⟩;have e3:ofNat N=Ll:=by rw[eLl];exact aJ hA N
 have XP:=L1.gr.len;rcases av with ⟨ez,ag⟩|⟨ae,eL⟩
 rotate_left
 ·
  obtain rfl:N=0:=by rw[eL]at XP;exact XP.symm
  obtain rfl:Ll=0:=om
  rcases ae with ⟨q,_⟩|⟨_,r',ir',q⟩
  ·exact absurd hR q
  obtain rfl:=ir.uniq ir';rcases q with ⟨q1,rfl⟩|⟨q1,q2,rfl⟩
  ·have g1:cmp .gtr f 0=true:=by rw[cS hA];simp;omega
   have g2:cmp .eql (24:Int) 24=true:=by rw[cY hA];rfl
   (refine zq ?_;repeat ((first|rw[g1]);refine zq ?_))
   (refine zq ?_;repeat ((first|rw[g1]|rw[g2]|rw[e3]|rw[ce]);refine zq ?_))
   exact hQ h6 y6
  ·rw[q1]at ec
   have g1:cmp .gtr f 0=false:=by rw[cS hA];simp;omega
   have g3:cmp .gtr c 64=true:=by rw[cS hA];simp;omega
   have g4:cmp .eql f 0=true:=by rw[cY hA];simp;omega
   have g2:cmp .eql (4:Int) 4=true:=by rw[cY hA];rfl
   (refine zq ?_;repeat ((first|rw[g1]|rw[g3]);refine zq ?_))
   (refine zq ?_;repeat ((first|rw[g1]|rw[g2]|rw[g3]|rw[g4]|rw[e3]|rw[ce]);refine zq ?_))
   exact hQ h6 y6
 subst ez;obtain rfl:r=n:=ir.uniq ag.inv;have gF:=ag.gF;have alen:=ag.len;have g1:cmp .gtr f 0=false:=by rw[cS hA];simp;omega
 have g3:cmp .gtr c 64=false:=by rw[cS hA];simp;omega
 have g5:cmp .neq Ll c=false:=by rw[bR hA];simp;omega
 (refine zq ?_;repeat ((first|rw[g1]|rw[g3]);refine zq ?_))
 (refine zq ?_;repeat ((first|rw[g1]|rw[g3]|rw[cn]|rw[e3]|rw[g5]);refine zq ?_))
 refine Um hA l6 he hM (zJ.ext y6) (hB.ext y6) hi L1.gr ag om om (fun h7 x7=>?_) N 0 0 h6 om om rfl (.refl h6);have l7:=x7.aD l6;have y7:=y6.trans x7;refine zq ?_;by_cases x0:x<0
 ·have g6:cmp .lss x 0=true:=by rw[aA hA];simp[x0]
  (refine zq ?_;repeat ((first|rw[g6]);refine zq ?_))
  exact hQ h7 y7
 have g6:cmp .lss x 0=false:=by rw[aA hA];simp[x0]
 by_cases y0:y<0
 ·have g7:cmp .lss y 0=true:=by rw[aA hA];simp[y0]
  (refine zq ?_;repeat ((first|rw[g6]|rw[g7]);refine zq ?_))
  exact hQ h7 y7
 have g7:cmp .lss y 0=false:=by rw[aA hA];simp[y0]
 by_cases xN:x≥c
 ·have g8:cmp .geq x c=true:=by rw[bX hA];simp[xN]
  (refine zq ?_;repeat ((first|rw[g6]|rw[g7]|rw[g8]);refine zq ?_))
  exact hQ h7 y7
 have g8:cmp .geq x c=false:=by rw[bX hA];simp[xN]
 by_cases yN:y≥c
 ·have g9:cmp .geq y c=true:=by rw[bX hA];simp[yN]
  (refine zq ?_;repeat ((first|rw[g6]|rw[g7]|rw[g8]|rw[g9]);refine zq ?_))
  exact hQ h7 y7
 have g9:cmp .geq y c=false:=by rw[bX hA];simp[yN]
 have gl7:=L1.gr.ext x7;have mx:gt L x∈L:=uY L om om;have my:gt L y∈L:=uY L om om;have sx:=(ag.all.mem _).1 mx;have sy:=(ag.all.mem _).1 my;obtain⟨D,Ug⟩:=ag.Ug;obtain⟨yu,su⟩:=Ug _ mx;obtain⟨yv,sv⟩:=Ug _ my
 (refine zq ?_;repeat ((first|rw[g6]|rw[g7]|rw[g8]|rw[g9]);refine zq ?_))
 refine aaB hA l7 hM.n4 gl7 om om om om om sx.len sy.len su sv (fun h8 xa xc t8 _ x8=>?_) r 0 0 h7 none 0 om om rfl (.nil _ _) (.none _) (.refl h7);have l8:=x8.aD l7;have y8:=y7.trans x8;refine zq ?_;refine aaC hA l8 m4 (fun h9 za zc t9 _ x9=>?_) k 0 0 h8 none 0 om om rfl (.nil _ _) (.none _) (.refl h8);have l9:=x9.aD l8;have y9:=y8.trans x9;have rx:Rows fC 2 h9 xa r (O6 yu yv D r):=⟨(t8.ext x9).cells,ve,om⟩;have rz:Rows fC 2 h9 za k (rZ k):=⟨t9.cells,ve,om⟩;have sd:=OE su sv;refine zq ?_;refine KI hA l9 (OF hM) hM (zJ.ext y9) rz (fun i i0 i1=>by
   obtain⟨j,rfl⟩:∃j:Nat,i=j:=⟨i.toNat,om⟩;have e:gt (rZ k) (j:Int)=⟨0,1⟩:=fU _ om;rw[e];show i64 0/\i64 1;unfold i64;omega) rx (fun i i0 i1=>by
   obtain⟨j,rfl⟩:∃j:Nat,i=j:=⟨i.toNat,om⟩;have:=(sd.dZ j om).2.2;exact⟨this.iU,this.jC⟩) (fun _ _=>⟨D,_,sd⟩) (fun b Ap hb x10=>⟨_,_,rfl,?_⟩)
 obtain rfl:b=true:=hb.2 (oO.diff su sv sx sy)
 (refine zq ?_;repeat ((first|rw[ce]);refine zq ?_))
 exact hQ Ap (y9.trans x10)
