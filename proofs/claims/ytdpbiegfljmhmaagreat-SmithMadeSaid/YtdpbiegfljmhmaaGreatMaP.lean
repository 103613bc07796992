import Derived.Test.YtdpbiegfljmhmaaGreatSlPi
import Derived.Test.YtdpbiegfljmhmaaGreatLsW
import Derived.Test.YtdpbiegfljmhmaaGreatSlA
import Derived.Test.YtdpbiegfljmhmaaGreatFqC
import Derived.Test.YtdpbiegfljmhmaaGreatSymBits
import Derived.Test.YtdpbiegfljmhmaaGreatFqP
set_option linter.unusedSimpArgs false
set_option linter.unusedVariables false
namespace Go.Proofs.YtdpbiegfljmhmaaGreat
open Go.cS
set_option maxRecDepth 100000
theorem yO.over{L:List LE}{A B a b:Int}(h:yO gD L A B a b)(o:tF L A B):tF L a b:=by
 have r0:=h.r0;have r2:=h.r2;by_cases e:a=A
 ·subst e
  rcases o with o|o
  ·exact .inl o
  ·exact .inr (fun k k0 k1=>o k k0 om)
 ·exact .inr (fun k k0 k1=>h.c1 (a-1) k om om k0 om)
def oh(h:af)(b:Nat):af:=⟨b,Nat.min h.low b,h.m⟩
theorem GF{h:af}{b:Nat}(hb:b<=h.next)(hl:h.low<=h.next):Ext (oh h b) h:=
 ⟨hb,fun _=>hl,by
  show Nat.min (Nat.min h.low b) b<=h.low;exact Nat.le_trans (Nat.min_le_left _ _) (Nat.min_le_left _ _),fun i hi=>rfl⟩
theorem JN{h0 h:af}{b:Nat}(e:Ext h0 h)(hb:h0.next<=b):Ext h0 (oh h b):=
 ⟨hb,fun _=>Nat.min_le_right _ _,Nat.le_min.2 ⟨e.vD,Nat.le_trans (Nat.min_le_right _ _) hb⟩,fun i hi=>e.get i hi⟩
theorem Rows.below{α:Type}{enc:α->List Value}{es:Nat}{h:af}{a:Option Addr}{n b:Nat}{l:List α}(p:Rows enc es h a n l)(hb:∀ad,a=some ad->ad.block<b):Rows enc es (oh h b) a n l:=by
 refine⟨?_,p.each,p.pos⟩;cases a with
 |none=>exact p.cells
 |some ad=>
  obtain⟨h1,h2,h3⟩:=p.cells;exact⟨h1,hb ad rfl,h3⟩
def Cg(hd:List Hd)(g:List (List Int)):List LE:=List.zipWith LE.mk hd g
theorem Ew{hd:List Hd}{g:List (List Int)}(e:hd.length=g.length):(Cg hd g).length=g.length:=by unfold Cg;rw[List.length_zipWith];omega
theorem yS:∀{hd:List Hd} {g:List (List Int)},hd.length=g.length->(Cg hd g).flatMap LE.cells=hd.flatMap Hd.cells
 | [],[],_=>rfl
 | [],_ :: _,h=>by simp at h
 |_ :: _,[],h=>by simp at h
 |a :: hd,r :: g,h=>by
  show LE.cells ⟨a,r⟩++(Cg hd g).flatMap LE.cells=Hd.cells a++hd.flatMap Hd.cells;rw[yS (by simpa using h)];rfl
theorem yT:∀{hd:List Hd} {g:List (List Int)},hd.length=g.length->(Cg hd g).map (·.row)=g
 | [],[],_=>rfl
 | [],_ :: _,h=>by simp at h
 |_ :: _,[],h=>by simp at h
 |a :: hd,r :: g,h=>by
  show r :: (Cg hd g).map (·.row)=r :: g;rw[yT (by simpa using h)]
theorem P3{hd:List Hd}{g:List (List Int)}(e:hd.length=g.length){i:Int}(i0:0<=i)(i1:i<g.length):gt (Cg hd g) i=⟨gt hd i,gt g i⟩:=by
 unfold Cg gt;rw[List.getD_eq_getElem?_getD,List.getElem?_zipWith,List.getElem?_eq_getElem om,List.getElem?_eq_getElem om,List.getD_eq_getElem?_getD,List.getD_eq_getElem?_getD,List.getElem?_eq_getElem om,List.getElem?_eq_getElem om];rfl
theorem BQ.dat{h0 h:af}{b N c:Nat}{hd:List Hd}{g:List (List Int)}(t:BQ h0 h (some ⟨b,0,none⟩) N c hd g)(hl:h.low<=h.next)(gn:N<=100000)(fr:∀y:Int,0<=y->y<N->(gt hd y).n<=100000):bq (oh h b) h b N (Cg hd g):=by
 have l1:=t.s.gr.hd.len;have l2:=t.s.gr.len;have hb:=t.pQ.lt _ rfl;rcases t.pQ with ⟨q,_⟩|⟨b',e,_,_,_,ho⟩
 ·cases q
 cases e;refine⟨GF (Nat.le_of_lt hb) hl,?_,Nat.le_refl _,hb,by rw[Ew om];exact l2,Nat.min_le_right _ _,fun i i0 i1=>?_,gn⟩
 ·rw[yS om];exact ho
 ·rw[P3 om i0 om]
  exact⟨(t.s.gr.row i i0 i1).below (fun ad cX=>t.G5 _ rfl i i0 i1 ad cX),fr i i0 i1⟩
theorem bq.Z1{h0 h:af}{b n:Nat}{L:List LE}(t:bq h0 h b n L):qT nC 1 h (some ⟨b,0,none⟩) n (L.map (·.hd)) (L.map (·.row)):=by
 have ln:=t.len;refine⟨?_,by rw[List.length_map];exact ln,fun y y0 y1=>?_⟩
 ·have r:Rows LE.cells 1 h (some ⟨b,0,none⟩) L.length L:=bW.rows t.own Gx om t.lt
  rw[ln]at r;refine⟨?_,gJ,om⟩;rw[List.flatMap_map];exact r.cells
 ·have hy:y.toNat<L.length:=om
  have e1:gt (L.map (·.hd)) y=(gt L y).hd:=by unfold gt;rw[List.getD_eq_getElem?_getD,List.getElem?_map,List.getElem?_eq_getElem hy,List.getD_eq_getElem?_getD,List.getElem?_eq_getElem hy];rfl
  have e2:gt (L.map (·.row)) y=(gt L y).row:=by unfold gt;rw[List.getD_eq_getElem?_getD,List.getElem?_map,List.getElem?_eq_getElem hy,List.getD_eq_getElem?_getD,List.getElem?_eq_getElem hy];rfl
  rw[e1,e2];exact(t.ok y y0 y1).1.ext t.ext
theorem yU{L L':List LE}{n:Nat}(hn:L.length=n)(p:aJ 0 n L L')(s:aH gD L' 0 n)(nd:(L.map (·.row)).Nodup):(L'.map (·.row)).Perm (L.map (·.row))/\(L'.map (·.row)).Pairwise LL.lt:=by
 have hp:(L'.map (·.row)).Perm (L.map (·.row)):=by
  rw[List.perm_iff_count];intro x;have h:=p.si (fun e=>e.row == x);unfold List.count;rw[List.countP_map,List.countP_map];exact h
 refine⟨hp,?_⟩;have nd':(L'.map (·.row)).Nodup:=hp.nodup_iff.2 nd;have hl:L'.length=n:=by rw[p.len];exact hn
 rw[List.pairwise_iff_getElem];intro i j hi hj WS;rw[List.length_map]at hi hj;have h1:=s i j om om om;have g1:gt L' (i:Int)=L'[i]:=by unfold gt;rw[List.getD_eq_getElem?_getD,show((i:Int)).toNat=i from rfl,List.getElem?_eq_getElem hi];rfl
 have g2:gt L' (j:Int)=L'[j]:=by unfold gt;rw[List.getD_eq_getElem?_getD,show((j:Int)).toNat=j from rfl,List.getElem?_eq_getElem hj];rfl
 rw[g1,g2]at h1;rw[List.getElem_map,List.getElem_map];have h2:LL.le (L'[i]).row (L'[j]).row:=h1;refine Classical.byContradiction fun q=>?_
 have e:(L'[i]).row=(L'[j]).row:=LL.le_antisymm h2 (LL.not_lt.1 q);have h3:=(List.pairwise_iff_getElem.1 nd') i j (by rw[List.length_map];exact hi) (by rw[List.length_map];exact hj) WS;rw[List.getElem_map,List.getElem_map]at h3;exact h3 e
theorem EO.run{h:af}{g:List (List Int)}{B:List Fc}{m n s:Nat}{A:Nat->Ext.aQ}{W many size:Int}{pa qa:Option Addr}{bs:Nat->Nat}(t:EO h g B m n s A W many size pa qa bs){d:Nat}(hd:d<=n):(Ext.nf A (gp A B W m n) size n d).length<=64:=by
 obtain⟨_,_,_,h4⟩:=Ext.uB t.JC d hd;rw[<-t.em]at h4;have h5:=pZ (A:=A) (n-d) (fun i hi=>t.st.diag om);have h6:=t.m64;refine Classical.byContradiction fun q=>?_
 have:=Int.mul_le_mul (show(65:Int)<=((Ext.nf A (gp A B W m n) size n d).length:Int) by omega) (show(1:Int)<=Ext.Mk A (n-d) by omega) om om;omega
theorem vm:∀n,bB [.int .i64 0] n=(List.replicate n (0:Int)).flatMap nC
 |0=>rfl
 |n+1=>by rw[List.replicate_succ,List.flatMap_cons,<-vm n];rfl
theorem J5.one(h:af)(n:Nat)(hn:1<=n):J5 h ((h.push 1 (bB [.int .i64 0] n)).push 1 [.slice (some ⟨h.next,0,none⟩) n n]) (some ⟨(h.push 1 (bB [.int .i64 0] n)).next,0,none⟩) 1 [⟨some ⟨h.next,0,none⟩,n,n⟩] [List.replicate n 0]:=by
 have x1:Ext h (h.push 1 (bB [.int .i64 0] n)):=Ext.push ..;have x2:Ext (h.push 1 (bB [.int .i64 0] n)) ((h.push 1 (bB [.int .i64 0] n)).push 1 [.slice (some ⟨h.next,0,none⟩) n n]):=Ext.push ..;have n1:(h.push 1 (bB [.int .i64 0] n)).next=h.next+1:=rfl;have o1:bW ((h.push 1 (bB [.int .i64 0] n))) h.next 1 (bB [.int .i64 0] n):=bW.push ..;have o2:bW ((h.push 1 (bB [.int .i64 0] n)).push 1 [.slice (some ⟨h.next,0,none⟩) n n]) (h.push 1 (bB [.int .i64 0] n)).next 1 [.slice (some ⟨h.next,0,none⟩) n n]:=bW.push ..;have Xt:=o1.ext x2 om;have n2:((h.push 1 (bB [.int .i64 0] n)).push 1 [.slice (some ⟨h.next,0,none⟩) n n]).next=h.next+2:=rfl;have hz:∀y:Int,0<=y->y<(1:Nat)->gt [(⟨some ⟨h.next,0,none⟩,n,n⟩:Hd)] y=⟨some ⟨h.next,0,none⟩,n,n⟩:=fun y y0 y1=>by
  obtain rfl:y=0:=om
  rfl
 refine⟨x1.trans x2,⟨?_,rfl,fun y y0 y1=>?_⟩,fun y y0 y1=>?_,fun ad cX=>?_,fun y y0 y1 ad cX=>?_⟩
 ·have:=bW.rows (enc:=Hd.cells) (es:=1) (l:=[(⟨some ⟨h.next,0,none⟩,n,n⟩:Hd)]) o2 gJ om om
  exact this
 ·rw[hz y y0 y1]
  obtain rfl:y=0:=om
  rw[show bW ((h.push 1 (bB [.int .i64 0] n)).push 1 [.slice (some ⟨h.next,0,none⟩) n n]) h.next 1 (bB [.int .i64 0] n)=bW ((h.push 1 (bB [.int .i64 0] n)).push 1 [.slice (some ⟨h.next,0,none⟩) n n]) h.next 1 ((List.replicate n (0:Int)).flatMap nC) by rw[<-vm]]at Xt;have:=bW.rows (enc:=nC) (es:=1) (l:=List.replicate n (0:Int)) Xt gV om om;rw[List.length_replicate]at this;exact this
 ·rw[hz y y0 y1];exact fun _=>.inl rfl
 ·cases cX;show h.next<=h.next+1;omega
 ·rw[hz y y0 y1]at cX;cases cX;exact Nat.le_refl _
theorem Ey(a:Int)(x:List Int):gt (a :: x) ((0:Nat):Int)=a:=rfl
theorem tG(a:Int)(x:List Int)(k:Nat):gt (a :: x) ((k+1:Nat):Int)=gt x (k:Int):=rfl
theorem Ez:∀{n:Nat} {x y:List Int},x.length=n->y.length=n->LL.lt x y->∃k:Nat,k<n/\(∀j:Nat,j<k->gt x (j:Int)=gt y (j:Int))/\gt x (k:Int)<gt y (k:Int)
 |0,[],[],_,_,h=>by have:fP [] []<0:=h;simp[fP]at this
 |0,_ :: _,_,h,_,_=>by simp at h
 |0,[],_ :: _,_,h,_=>by simp at h
 |n+1,[],_,h,_,_=>by simp at h
 |n+1,_ :: _,[],_,h,_=>by simp at h
 |n+1,a :: x,b :: y,hx,hy,h=>by
  have h':fP (a :: x) (b :: y)<0:=h;unfold fP at h';by_cases c:a<b
  ·exact⟨0,om,fun j hj=>om,c⟩
  ·by_cases d:b<a
   ·rw[if_neg c,if_pos d]at h';omega
   ·rw[if_neg c,if_neg d]at h'
    obtain⟨k,k0,k1,k2⟩:=Ez (n:=n) (by simpa using hx) (by simpa using hy) h';refine⟨k+1,om,fun j hj=>?_,?_⟩
    ·cases j with
     |zero=>rw[Ey,Ey];omega
     |succ j=>rw[tG,tG];exact k1 j om
    ·rw[tG,tG];exact k2
theorem WA{a b D:Int}(hD:0<D)(h:a<b):rq a D<rq b D:=by
 unfold rq;have h1:(0:Rat)<(D:Rat):=by exact_mod_cast hD
 have h2:(a:Rat)<(b:Rat):=by exact_mod_cast h
 rw[Rat.div_def,Rat.div_def];exact Rat.mul_lt_mul_of_pos_right h2 (Rat.inv_pos.2 h1)
theorem bJ.WB{g:List (List Int)}{m n s:Nat}{A:Nat->Ext.aQ}(hM:rV g m n)(a:bJ g m n n s A):((Ext.Dv g m n n:Nat):Int)=Ext.Mk A n:=by
 have n4:=hM.n4;have e:∀d:Nat,d∣Ext.Dv g m n n↔d∣(Ext.m8 (fun i=>A i (Ext.aj (n+m) (A i))) n).natAbs:=fun d=>
  ((Ext.MU n4 d).trans (a.minors (d:Int))).trans (a.ZC.full n4 d)
 have e2:Ext.Dv g m n n=(Ext.m8 (fun i=>A i (Ext.aj (n+m) (A i))) n).natAbs:=Nat.dvd_antisymm ((e _).1 (Nat.dvd_refl _)) ((e _).2 (Nat.dvd_refl _));have e3:∀k,k<=n->Ext.m8 (fun i=>A i (Ext.aj (n+m) (A i))) k=Ext.Mk A k:=by
  intro k
  induction k with
  |zero=>intro _;rfl
  |succ k ih=>
   intro hk;show Ext.m8 _ k*A k (Ext.aj (n+m) (A k))=Ext.Mk A k*A k k;rw[ih om,a.wj om]
 rw[e2,e3 n (Nat.le_refl n)];have:=pZ (A:=A) n (fun i hi=>a.diag hi);omega
def ES(size:Int)(x:List Int):List Fc:=x.map (fun y=>fr y size)
theorem yV{size:Int}{x:List Int}{n j:Nat}(hx:x.length=n)(h:j<n):gt (ES size x) (j:Int)=fr (gt x (j:Int)) size:=wk _ x om
theorem P4{size:Int}(s0:0<size)(s1:size<=1000000000000000000){n:Nat}{x y:List Int}(hx:x.length=n)(hy:y.length=n)(rx:∀j:Nat,j<n->0<=gt x (j:Int)/\gt x (j:Int)<size)(ry:∀j:Nat,j<n->0<=gt y (j:Int)/\gt y (j:Int)<size)(h:LL.lt x y):JD n (ES size x) (ES size y):=by
 obtain⟨k,k0,k1,k2⟩:=Ez hx hy h;refine⟨k,k0,fun j hj=>?_,?_⟩
 ·rw[yV hx om,yV hy om,k1 j hj]
 ·have:=rx k k0
  have:=ry k k0;rw[yV hx k0,yV hy k0,HW om om om,HW om om om];exact WA s0 k2
structure Tj(X:List Fc)(n:Nat)(D:Int)(z:Nat->Int):Prop where
 pos:0<D
 dD:D<=1000000000
 dV:∀j:Nat,j<n->0<=z j/\z j<D/\gA (gt X (j:Int)).n (gt X (j:Int)).d (rq (z j) D)
structure JO(g:List (List Int))(B:List Fc)(m n:Nat)(L:List (List Fc)):Prop where
 rel:mn g B m n
 inv:vG g m n n
 gn:Ext.Dv g m n n<=64
 all:S4 g B m n L
 len:L.length=Ext.Dv g m n n
 siz:∃D:Int,∀X,X∈L->∃y,Tj X n D y
def P5(g:List (List Int))(B:List Fc)(m n:Nat)(e:Int):Prop:=(¬mn g B m n/\e=6)\/(mn g B m n/\∃r,vG g m n r/\((r<n/\e=24)\/(r=n/\64<Ext.Dv g m n n/\e=4)))
theorem JO.of{g:List (List Int)}{B:List Fc}{m n s:Nat}{A:Nat->Ext.aQ}{W:Int}(hM:rV g m n)(a:bJ g m n n s A)(hR:mn g B m n)(ir:vG g m n n)(gn:Ext.Dv g m n n<=64)(w:rX B m W)(ht:∀i:Int,0<=i->i<m->ct (gt B i)/\(gt B i).d<=60)(hs9:W*Ext.Mk A n<=1000000000){l:List (List Int)}(p:l.Perm (Ext.nf A (gp A B W m n) (W*Ext.Mk A n) n n))(o:l.Pairwise LL.lt):JO g B m n (l.map (ES (W*Ext.Mk A n))):=by
 have mp:=pZ (A:=A) n (fun i hi=>a.diag hi);have sp:0<W*Ext.Mk A n:=Int.mul_pos w.pos mp;have hs:W*Ext.Mk A n<=1000000000000000000:=om
 have JC:=a.JC (B:=B) w.pos;obtain⟨r1,_,_,r4⟩:=Ext.uB JC n (Nat.le_refl n);rw[Nat.sub_self]at r1 r4;have mem:∀x,x∈l↔MY g (oL B W) m n (Ext.Mk A n) (W*Ext.Mk A n) x:=fun x=>(p.mem_iff.trans (r1 x)).trans (a.ZH w hR x)
 refine⟨hR,ir,gn,⟨fun X=>?_,?_⟩,?_,⟨W*Ext.Mk A n,fun X hX=>?_⟩⟩
 ·rw[List.mem_map]
  constructor
  ·rintro⟨x,hx,rfl⟩
   exact((mem x).1 hx).ZI w ht mp hs
  ·intro sx
   obtain⟨x,h1,h2⟩:=a.back w ht sx;exact⟨x,(mem x).2 h1,h2.symm⟩
 ·rw[List.pairwise_map]
  refine o.imp_of_mem ?_;intro x y hx hy h;have sx:=(mem x).1 hx;have sy:=(mem y).1 hy;exact P4 sp hs sx.len sy.len sx.uh sy.uh h
 ·rw[List.length_map,p.length_eq]
  have h1:=a.WB hM;have h2:Ext.Mk A 0=1:=rfl;rw[h2,Int.mul_one]at r4;omega
 ·obtain⟨x,hx,rfl⟩:=List.mem_map.1 hX
  have sx:=(mem x).1 hx;refine⟨fun j=>gt x (j:Int),sp,hs9,fun j hj=>?_⟩;obtain⟨q0,q1⟩:=sx.uh j hj;rw[yV sx.len hj];exact⟨q0,q1,MZ om om om⟩
theorem P5.ne{g:List (List Int)}{B:List Fc}{m n:Nat}{e:Int}(a:P5 g B m n e):e≠0:=by
 rcases a with ⟨q,rfl⟩|⟨q,r,ir,⟨_,rfl⟩|⟨_,_,rfl⟩⟩<;>decide
theorem TFr:fZ Tryz.prog 23 43 2:=⟨by kernel_rfl,by kernel_rfl,⟨16,by kernel_rfl,om⟩,⟨.agg #[.int .i64 0,.int .i64 0],by kernel_rfl,rfl⟩⟩
theorem TLF:fZ Tryz.prog 36 23 1:=⟨by kernel_rfl,by kernel_rfl,⟨24,by kernel_rfl,om⟩,⟨.slice none 0 0,by kernel_rfl,rfl⟩⟩
structure Ib(h0 h:af)(a:Option Addr)(N c:Nat)(hd:List Hd)(g:List (List Fc)):Prop where
 ext:Ext h0 h
 gr:qT fC 2 h a N hd g
 fr:ky h0.next a
 pQ:oD h 1 a N c (hd.flatMap Hd.cells)
 G5:∀ad,a=some ad->∀y:Int,0<=y->y<N->∀bd,(gt hd y).a=some bd->bd.block<ad.block
theorem Ib.more{h0 h h':af}{a:Option Addr}{N c:Nat}{hd:List Hd}{g:List (List Fc)}(t:Ib h0 h a N c hd g)(e:Ext h h'):Ib h0 h' a N c hd g:=⟨t.ext.trans e,t.gr.ext e,t.fr,t.pQ.ext e,t.G5⟩
theorem Ib.nil(h:af):Ib h h none 0 0 [] []:=
 ⟨.refl h,⟨Rows.nil h gJ om,rfl,fun y y0 y1=>om⟩,.none _,.nil _ _,fun ad cX=>by cases cX⟩
theorem Ib.add{h0 h h':af}{a:Option Addr}{N c b':Nat}{hd:List Hd}{g:List (List Fc)}(t:Ib h0 h a N c hd g){k:Hd}{r:List Fc}(row:Rows fC 2 h k.a k.n r)(sk:∀ad,a=some ad->∀bd,k.a=some bd->bd.block≠ad.block)
  (a':oD h' 1 (some ⟨b',0,none⟩) (N+1) (aw 1 (N+1)) ((hd++[k]).flatMap Hd.cells)) (xe:Ext h0 h') (n':h.next<h'.next) (SG:h.next<b') (k':∀i,i<h.next->(∀ad,a=some ad->ad.block≠i)->h'.m.get i=h.m.get i) :
  Ib h0 h' (some ⟨b',0,none⟩) (N+1) (aw 1 (N+1)) (hd++[k]) (g++[r]):=by
 have hl:hd.length=N:=t.gr.hd.len;have gl:=t.gr.len;have wE:=t.ext.next;have eh:∀y:Int,0<=y->y<((N+1:Nat):Int)->gt (hd++[k]) y=if y<N then gt hd y else k:=fun y y0 y1=>by
  rw[wa hd k y0 om,hl]
 have eg:∀y:Int,0<=y->y<((N+1:Nat):Int)->gt (g++[r]) y=if y<N then gt g y else r:=fun y y0 y1=>by
  rw[wa g r y0 om,gl]
 refine⟨xe,⟨⟨a'.cells,gJ,om⟩,by simp[gl],fun y y0 y1=>?_⟩,fun ad cX=>by cases cX;show h0.next<=b';omega,a',fun ad cX y y0 y1 bd lV=>?_⟩
 ·rw[eh y y0 y1,eg y y0 y1]
  by_cases c:y<N
  ·rw[if_pos c,if_pos c]
   have q:=t.gr.row y y0 c;exact q.dG (Nat.le_of_lt n') (fun bd lV=>k' _ (q.lt bd lV) (fun ad cX=>(Nat.ne_of_lt (t.G5 ad cX y y0 c bd lV)).symm))
  ·rw[if_neg c,if_neg c]
   exact row.dG (Nat.le_of_lt n') (fun bd lV=>k' _ (row.lt bd lV) (fun ad cX=>(sk ad cX bd lV).symm))
 ·cases cX
  rw[eh y y0 y1]at lV;show bd.block<b';by_cases c:y<N
  ·rw[if_pos c]at lV;have:=(t.gr.row y y0 c).lt bd lV;omega
  ·rw[if_neg c]at lV;have:=row.lt bd lV;omega
theorem Nu{size:Int}{x:List Int}{i:Nat}{I:Int}(eI:I=i)(h:i<x.length):ES size (x.take (i+1))=ES size (x.take i)++[fr (gt x I) size]:=by
 rw[yL x eI h];unfold ES;rw[List.map_append];rfl
theorem P6{S D:Int}(hD:0<D){f:Fc}(hf:ct f){nn dd:Int}(q:gA nn dd (rq (S % D) D)):(nn=f.n/\dd=f.d)↔∃z:Int,rq S D=vq f+(z:Rat):=by
 have D0:D≠0:=om
 rw[SN q hf.is];constructor
 ·intro e
  refine⟨S / D,?_⟩;rw[<-e,jt (l:=S / D) D0,pY D0]
  congr 1
  have:=Int.emod_add_mul_ediv S D;rw[Int.mul_comm]at this;exact this.symm
 ·rintro⟨z,hz⟩
  have e:vq f=rq (S-z*D) D:=by
   rw[<-BV D0,<-jt D0,hz];grind
  obtain⟨a,b,_⟩:=AB hf hD e;rw[e]
  congr 1
  rw[<-Int.emod_eq_of_lt a b,Int.sub_mul_emod_self_right]
theorem rY.iff{g:List (List Int)}{B X:List Fc}{m n:Nat}{D:Int}{z:Nat->Int}(s:Tj X n D z)(hl:X.length=n)(ht:∀j:Nat,j<n->ct (gt X (j:Int))):rY g B m n X↔∀i:Nat,i<m->∃c:Int,rq (Ext.aP (fun j=>Ext.el g i j*z j) n) D=vq (gt B (i:Int))+(c:Rat):=by
 have D0:D≠0:=by have:=s.pos;omega
 have key:∀i:Nat,dk (fun j=>(Ext.el g i j:Rat)*vq (gt X (j:Int))) n=rq (Ext.aP (fun j=>Ext.el g i j*z j) n) D:=fun i=>by
  rw[dU n (g:=fun j=>(Ext.el g i j:Rat)*rq (z j) D) (fun j hj=>by
   have h1:=(ht j hj).is;have h2:=(s.dV j hj).2.2;rw[h1.uniq h2]),tx _ _ D0]
 constructor
 ·intro h i hi
  obtain⟨c,hc⟩:=h.eqs i hi;rw[key i]at hc;exact⟨c,hc⟩
 ·intro h
  refine⟨hl,ht,fun i hi=>?_⟩;rw[key i];exact h i hi
theorem EA{c y D:Int}(h9:c.natAbs<=9)(y0:0<=y)(y1:y<D)(hD:D<=1000000000):(c*y).natAbs<=9000000000:=by
 rw[Int.natAbs_mul];have:y.natAbs<=1000000000:=om
 calc c.natAbs*y.natAbs<=9*1000000000:=Nat.mul_le_mul h9 this
  _=9000000000:=rfl
theorem AH:∀n,dk (fun _=>(0:Rat)) n=0
 |0=>rfl
 |n+1=>by show dk (fun _=>(0:Rat)) n+0=0;rw[AH n];grind
theorem AI(f:Nat->Int):∀n,dk (fun k=>(f k:Rat)) n=((Ext.aP f n:Int):Rat)
 |0=>by show(0:Rat)=((0:Int):Rat);rw[Rat.intCast_zero]
 |n+1=>by show dk (fun k=>(f k:Rat)) n+(f n:Rat)=((Ext.aP f n+f n:Int):Rat);rw[AI f n,Rat.intCast_add]
theorem mn.iff{g:List (List Int)}{B:List Fc}{m n:Nat}(ht:∀i:Int,0<=i->i<m->ct (gt B i)/\(gt B i).d<=60):mn g B m n↔∀u,HT g m n u->∃z:Int,dk (fun i=>(u i:Rat)*vq (gt B (i:Int))) m=(z:Rat):=by
 have key:∀W,rX B m W->∀u:Nat->Int,dk (fun i=>(u i:Rat)*vq (gt B (i:Int))) m=rq (Ext.aP (fun i=>u i*oL B W i) m) W:=fun W w u=>by
  have wp:=w.pos;rw[<-tx u (oL B W) (show W≠0 by omega) m];exact dU m (fun i hi=>by rw[show vq (gt B (i:Int))=rq (oL B W i) W from(w.part ht hi).1.rq])
 constructor
 ·intro h u hu
  obtain⟨W,w⟩:=rX.ex ht;have wp:=w.pos;obtain⟨c,hc⟩:=Int.dvd_of_emod_eq_zero (h W w u hu);refine⟨c,?_⟩;rw[key W w u,hc,jt (l:=c) (show W≠0 by omega),Int.mul_comm]
 ·intro h W w u hu
  have wp:=w.pos;obtain⟨z,hz⟩:=h u hu;rw[key W w u,jt (l:=z) (show W≠0 by omega)]at hz;have:=(ME (show W≠0 by omega)).1 hz;rw[this];exact Int.emod_eq_zero_of_dvd ⟨z,Int.mul_comm _ _⟩
theorem rV.chk{g:List (List Int)}{B:List Fc}{m n:Nat}(h:rV g m n)(hl:B.length=m)(ht:∀i:Int,0<=i->i<m->ct (gt B i)/\(gt B i).d<=60):ju g B 0:=by
 have m1:=h.m1;have m4:=h.m4;have n1:=h.n1;have n4:=h.n4;have ln:=h.len;refine .inr (.inl ⟨fun q=>?_,⟨om,by rw[h.row 0 om om];omega,om,fun i i0 i1=>by rw[h.row i i0 om,h.row 0 om om],fun i i0 i1 j j0 j1=>?_,fun i i0 i1=>ht i i0 om⟩,rfl⟩)
 ·rcases q with q|⟨i,i0,i1,q⟩
  ·omega
  ·rw[h.row i i0 om]at q;omega
 ·have:=h.nine i j
  omega
theorem rY.PG{g:List (List Int)}{B X:List Fc}{m n:Nat}(ht:∀i:Int,0<=i->i<m->ct (gt B i)/\(gt B i).d<=60)(h:rY g B m n X):mn g B m n:=by
 refine(mn.iff ht).2 (fun u hu=>?_);have hz:∀i:Nat,∃z:Int,i<m->dk (fun j=>(Ext.el g i j:Rat)*vq (gt X (j:Int))) n=vq (gt B (i:Int))+(z:Rat):=fun i=>by
  by_cases c:i<m
  ·obtain⟨z,hz⟩:=h.eqs i c;exact⟨z,fun _=>hz⟩
  ·exact⟨0,fun q=>absurd q c⟩
 obtain⟨w,hw⟩:∃w:Nat->Int,∀i,i<m->dk (fun j=>(Ext.el g i j:Rat)*vq (gt X (j:Int))) n=vq (gt B (i:Int))+(w i:Rat):=⟨fun i=>(hz i).choose,fun i hi=>(hz i).choose_spec hi⟩;refine⟨- Ext.aP (fun i=>u i*w i) m,?_⟩;have e1:dk (fun i=>(u i:Rat)*vq (gt B (i:Int))) m+((Ext.aP (fun i=>u i*w i) m:Int):Rat)=0:=by
  rw[<-AI,<-yI];have:dk (fun i=>(u i:Rat)*vq (gt B (i:Int))+((u i*w i:Int):Rat)) m=dk (fun i=>dk (fun j=>(u i:Rat)*((Ext.el g i j:Rat)*vq (gt X (j:Int)))) n) m:=dU m (fun i hi=>by
   rw[yJ,hw i hi,Rat.intCast_mul];grind)
  rw[this,uC];rw[dU n (g:=fun _=>(0:Rat)) (fun j hj=>?_),AH];have e2:=hu j hj;rw[dU m (g:=fun i=>((u i*Ext.el g i j:Int):Rat)*vq (gt X (j:Int))) (fun i _=>by rw[Rat.intCast_mul];grind),yK,e2,Rat.intCast_zero,Rat.zero_mul]
 rw[Rat.intCast_neg];grind
def Z2(g:List (List Int))(B:List Fc)(m n:Nat)(e:Int)(L:List (List Fc)):Prop:=(e=0/\JO g B m n L)\/(P5 g B m n e/\L=[])
theorem WD:∀d:Nat,d<13->0<d->d∣27720:=by decide
def Z3(X:List Fc)(j:Nat):Int:=(gt X (j:Int)).n*(27720 / (gt X (j:Int)).d)
theorem WE{X:List Fc}{n:Nat}(ht:∀j:Nat,j<n->ct (gt X (j:Int))/\(gt X (j:Int)).d<=12):Tj X n 27720 (Z3 X):=by
 refine⟨by decide,by decide,fun j hj=>?_⟩;obtain⟨⟨ok,n0,n1⟩,d12⟩:=ht j hj;unfold Z3;obtain⟨f,ef⟩:∃f,f=gt X (j:Int):=⟨_,rfl⟩;rw[<-ef]at ok n0 n1 d12 ⊢;have f1:=ok.is.den;obtain⟨c,hc⟩:f.d∣27720:=by
  have:=WD f.d.toNat om om;have h2:=Int.ofNat_dvd.2 this;rw[Int.toNat_of_nonneg om]at h2;exact h2
 have ec:27720 / f.d=c:=by rw[hc];exact Int.mul_ediv_cancel_left c om
 rw[ec];have c0:0<c:=by
  by_cases q:0<c
  ·exact q
  ·have:=Int.mul_le_mul_of_nonneg_left (show c<=0 by omega) (show 0<=f.d by omega)
   rw[Int.mul_zero]at this;omega
 have h1:f.n*c<f.d*c:=Int.mul_lt_mul_of_pos_right n1 c0;refine⟨Int.mul_nonneg n0 om,om,?_⟩;have:=ok.is;rw[hc,wh om];exact this
def N6(g:List (List Int))(D:Int)(z:Nat->Int)(n m:Nat):List Fc:=kW (fun i=>fr (Ext.aP (fun j=>Ext.el g i j*z j) n % D) D) m
theorem GG(g:List (List Int))(D:Int)(z:Nat->Int)(n:Nat){m i:Nat}(h:i<m):gt (N6 g D z n m) (i:Int)=fr (Ext.aP (fun j=>Ext.el g i j*z j) n % D) D:=jq _ h
theorem P7{g:List (List Int)}{X:List Fc}{m n:Nat}{D:Int}{z:Nat->Int}(s:Tj X n D z)(hl:X.length=n)(ht:∀j:Nat,j<n->ct (gt X (j:Int))):rY g (N6 g D z n m) m n X:=by
 have D0:D≠0:=by have:=s.pos;omega
 refine(rY.iff s hl ht).2 (fun i hi=>?_);rw[GG g D z n hi];generalize Ext.aP (fun j=>Ext.el g i j*z j) n=S;have q0:=Int.emod_nonneg S D0;have q1:=Int.emod_lt_of_pos S s.pos;have l:=s.dD;refine⟨S / D,?_⟩;rw[HW om om D0,jt (l:=S / D) D0,pY D0]
 congr 1
 have:=Int.emod_add_mul_ediv S D;rw[Int.mul_comm]at this;exact this.symm
theorem Nv{g:List (List Int)}{m n:Nat}{D:Int}{z:Nat->Int}(Dp:0<D)(l:D<=1000000000){i:Nat}(hi:i<m):ct (gt (N6 g D z n m) (i:Int)):=by
 rw[GG g D z n hi];exact HV (Int.emod_nonneg _ om) (Int.emod_lt_of_pos _ Dp) om
theorem Nx(g:List (List Int))(D:Int)(z:Nat->Int)(n m:Nat):N6 g D z n (m+1)=N6 g D z n m++[fr (Ext.aP (fun j=>Ext.el g m j*z j) n % D) D]:=tq _ _
theorem S4.place{g:List (List Int)}{B:List Fc}{m n:Nat}{L:List (List Fc)}(a:S4 g B m n L){X:List Fc}(hX:rY g B m n X):∃k:Nat,k<L.length/\∀j:Nat,j<L.length->(gt L (j:Int)=X↔j=k):=by
 obtain⟨k,hk,e⟩:=List.getElem_of_mem ((a.mem X).2 hX);have dV:∀j:Nat,(h:j<L.length)->gt L (j:Int)=L[j]:=fun j h=>by
  unfold gt;rw[List.getD_eq_getElem?_getD,show((j:Int)).toNat=j from rfl,List.getElem?_eq_getElem h];rfl
 refine⟨k,hk,fun j hj=>⟨fun q=>?_,fun q=>by rw[q,dV k hk,e]⟩⟩;rw[dV j hj]at q;rcases Nat.lt_trichotomy j k with c|c|c
 ·have:=List.pairwise_iff_getElem.1 a.ord j k hj hk c
  rw[q,e]at this;exact absurd this JD.irr
 ·exact c
 ·have:=List.pairwise_iff_getElem.1 a.ord k j hk hj c
  rw[q,e]at this;exact absurd this JD.irr
variable{F:aZ}{call head arith cmp a0 dH b0 d0 f0 g0 o0 ofNat t0 place u0 nz w0 rd wr push next z0 nat b1 d1 z1 b2 d2 i2 j2 part p2 s2 z2 b3 az aG c3 d3 lt ne i3 j3 k3 yn uh m3 n3 o3 r3 s3:_}(hA:AP F ⟨call,head,arith,cmp,a0,dH,b0,d0,f0,g0,o0,ofNat,t0,place,u0,nz,w0,rd,wr,push,next,z0,nat,b1,d1,z1,b2,d2,i2,j2,part,p2,s2,z2,b3,az,aG,c3,d3,lt,ne,i3,j3,k3,yn,uh,m3,n3,o3,r3,s3⟩)
include hA
set_option maxHeartbeats 4000000 in
theorem Ny {h0 : af} (aq : h0.low ≤ h0.next) {b n c : Nat} {L0 : List LE} {A B : Int} (A0 : 0 ≤ A) (bn : B ≤ n) (ov : tF L0 A B)
    (rec : ∀ (h : af) (L : List LE) (x y dD : Int) (Q : Value → af → Prop), 0 ≤ x → x ≤ y → y ≤ n → (y - x).toNat < (B - A).toNat → 0 ≤ dD → dD ≤ 100 → tF L x y → bq h0 h b n L → (∀ h' L', bq h0 h' b n L' → aJ x y L L' → aH gD L' x y → Q (.tuple #[]) h') → call 74 [.slice (some ⟨b, 0, none⟩) n c, .int .i64 x, .int .i64 y, .int .i64 dD, .func (.func 51) #[] #[]] h Q) {Q : Exit → SS → Prop}
    (hQ : ∀ h' L e kn, bq h0 h' b n L → aJ A B L0 L → aH gD L A B → Q .ret ⟨e, kn, [], h'⟩) :
    ∀ (m : Nat) (x y dD : Int) (wb wp : Bool) (h : af) (L : List LE), (y - x).toNat ≤ m → 0 ≤ dD → dD ≤ 100 → bq h0 h b n L → aJ A B L0 L → yO gD L A B x y →
      head 74 2 0 ⟨[(0, .slice (some ⟨b, 0, none⟩) n c), (1, .int .i64 x), (2, .int .i64 y), (3, .int .i64 dD), (4, .func (.func 51) #[] #[]), (10, .bool wb), (11, .bool wp)], 0, [], h⟩ Q := by
  intro m
  induction m with
  | zero =>
    intro x y dD wb wp h L hm l0 l1 t hp hd
    have gn := t.gn
    have r0 := hd.r0
    have r1 := hd.r1
    have r2 := hd.r2
    have e1 : arith .sub .i64 y x = y - x := bP hA om om
    refine hA.ar Tryz.func74 FT (zc ?_)
    rw [e1]
    refine br (y - x ≤ 12) (by rw [jA hA]) (fun _ => ?_) (fun q => by omega) <;> refine zc ?_
    refine yu hA aq om om om t (fun h1 L1 t1 ux fX => ?_)
    refine zc ?_
    exact hQ _ _ _ _ t1 (hp.trans (ux.wide A0 r0 r2)) ((hd.perm A0 ux).done fX)
  | succ m ih =>
    intro x y dD wb wp h L hm l0 l1 t hp hd
    have gn := t.gn
    have r0 := hd.r0
    have r1 := hd.r1
    have r2 := hd.r2
    have e1 : arith .sub .i64 y x = y - x := bP hA om om
    obtain ⟨l, hl⟩ : ∃ z, z = y - x := ⟨_, rfl⟩
    rw [← hl] at e1
    refine hA.ar Tryz.func74 FT (zc ?_)
    rw [e1]
    refine br (l ≤ 12) (by rw [jA hA]) (fun _ => ?_) (fun q => ?_) <;> refine zc ?_
    · refine yu hA aq om om om t (fun h1 L1 t1 ux fX => ?_)
      refine zc ?_
      exact hQ _ _ _ _ t1 (hp.trans (ux.wide A0 r0 r2)) ((hd.perm A0 ux).done fX)
    refine br (dD = 0) (by rw [de hA]) (fun _ => ?_) (fun q2 => ?_) <;> refine zc ?_
    · refine PL hA aq om om om t (fun h1 L1 t1 ux fX => ?_)
      refine zc ?_
      exact hQ _ _ _ _ t1 (hp.trans (ux.wide A0 r0 r2)) ((hd.perm A0 ux).done fX)
    have UZ : ∀ (x' y' Nz : Int) (wb wp : Bool) (h : af) (L : List LE), (y' - x').toNat < (y - x).toNat → 0 ≤ Nz → Nz ≤ 100 → bq h0 h b n L → aJ A B L0 L → yO gD L A B x' y' →
      head 74 2 0 ⟨[(0, .slice (some ⟨b, 0, none⟩) n c), (1, .int .i64 x'), (2, .int .i64 y'), (3, .int .i64 Nz), (4, .func (.func 51) #[] #[]), (10, .bool wb), (11, .bool wp)], 0, [], h⟩ Q := fun x' y' Nz wb wp h L w => ih x' y' Nz wb wp h L om
    clear ih
    refine br (wb = false) (by rw [bZ hA]; cases wb <;> rfl) (fun qb => ?_) (fun qb => ?_) <;> refine zc ?_
    focus
      refine Nq hA aq om om om t (fun h1 L1 t1 ux => ?_)
      refine zc ?_
      obtain ⟨Ch, y8⟩ : ∃ z, z = dD - 1 := ⟨_, rfl⟩
      have e2 : arith .sub .i64 dD 1 = Ch := by rw [y8]; exact bP hA om om
      rw [e2]
      have Hm := hd.perm A0 ux
      have ux := hp.trans (ux.wide A0 r0 r2)
      have l2 : 0 ≤ Ch := by omega
      have l3 : Ch ≤ 100 := by omega
      clear y8 e2 t hp hd
    rotate_left
    focus
      have t1 := t
      have ux := hp
      have Hm := hd
      have l2 := l0
      have l3 := l1
      obtain ⟨h1, Z4⟩ : ∃ z, z = h := ⟨_, rfl⟩
      obtain ⟨L1, JX⟩ : ∃ z, z = L := ⟨_, rfl⟩
      obtain ⟨Ch, y8⟩ : ∃ z, z = dD := ⟨_, rfl⟩
      rw [← Z4, ← JX] at t1
      rw [← Z4, ← y8]
      rw [← JX] at ux Hm
      rw [← y8] at l2 l3
      clear y8 Z4 JX t hp hd
    all_goals
      refine Ng hA aq om om om t1 (fun h2 p k t2 p0 p1 => ⟨_, _, rfl, ?_⟩)
      refine zc ?_
      refine br (k = 2) (by rw [de hA]) (fun qk => ?_) (fun qk => ?_) <;> refine zc ?_
      focus
        refine Tg hA aq om om om t2 (fun h3 L3 t3 N7 => ?_)
        refine zc ?_
        have Tk := Hm.perm A0 N7
        have N7 := ux.trans (N7.wide A0 r0 r2)
        obtain ⟨p3, hp⟩ : ∃ z, z = (y - 1) - (p - x) := ⟨_, rfl⟩
        have g1 : arith .sub .i64 y 1 = y - 1 := bP hA om om
        have g2 : arith .sub .i64 p x = p - x := bP hA om om
        have g3 : arith .sub .i64 (y - 1) (p - x) = p3 := by rw [hp]; exact bP hA om om
        have p4 : x ≤ p3 := by omega
        have p5 : p3 < y := by omega
        rw [g1, g2, g3]
        clear hp g1 g2 g3 p0 p1 t1 t2 ux Hm
      rotate_left
      focus
        obtain ⟨h3, hh⟩ : ∃ z, z = h2 := ⟨_, rfl⟩; subst hh
        obtain ⟨L3, hh⟩ : ∃ z, z = L1 := ⟨_, rfl⟩; subst hh
        obtain ⟨p3, hh⟩ : ∃ z, z = p := ⟨_, rfl⟩; subst hh
        have t3 := t2
        have Tk := Hm
        have N7 := ux
        have p4 := p0
        have p5 := p1
        clear p0 p1 t2 ux Hm
      all_goals
        cases wb <;> cases wp <;> first | exact absurd qb (by decide) | exact absurd rfl qb | refine zc ?_
      all_goals first
        | (refine br (k = 1) (de hA k 1) (fun _ => ?_) (fun _ => ?_) <;> refine zc ?_)
        | (refine br ((1 : Int) = 1) (de hA 1 1) (fun _ => ?_) (fun q => absurd rfl q); refine zc ?_)
        | skip
      all_goals first
        | (refine Wz hA aq om om om (Tk.over (ov.perm A0 N7)) t3 (fun h4 L4 u t4 P8 y7 => ⟨_, rfl, ?_⟩)
           cases u
           focus
             refine zc ?_
             have WG := Tk.perm A0 P8
             have P8 := N7.trans (P8.wide A0 r0 r2)
             clear t3 N7 Tk y7
           rotate_left
           focus
             refine zc ?_
             exact hQ _ _ _ _ t4 (N7.trans (P8.wide A0 r0 r2)) ((Tk.perm A0 P8).done (y7 rfl)))
        | (obtain ⟨h4, hh⟩ : ∃ z, z = h3 := ⟨_, rfl⟩; subst hh
           obtain ⟨L4, hh⟩ : ∃ z, z = L3 := ⟨_, rfl⟩; subst hh
           have t4 := t3
           have WG := Tk
           have P8 := N7
           clear t3 N7 Tk)
      all_goals
        have hv4 := WG.over (ov.perm A0 P8)
        obtain ⟨h5, sf⟩ : ∃ z, z = aG h4 17 := ⟨_, rfl⟩
        have x5 : Ext h4 h5 := by rw [sf]; exact au hA _ _
        have t5 := t4.more x5
        refine br (0 < x) (by rw [dc hA]) (fun cx => ?_) (fun cx => ?_) <;> refine zc ?_
        focus
          rw [← sf]
          obtain ⟨x', Ql⟩ : ∃ z, z = x - 1 := ⟨_, rfl⟩
          have e2 : arith .sub .i64 x 1 = x' := by rw [Ql]; exact bP hA om om
          obtain ⟨PM, PN, PO, b5, g5, f5, r5⟩ := t5.read (i := x') om om
          obtain ⟨B7, B8, Cb, PQ, Cn, N5, Cc⟩ := t5.read (i := p3) om om
          have q5 := aD hA r5
          have Kx := aD hA Cc
          (refine zq ?_; repeat ((first | rw [e2]); refine zq ?_))
          refine fx hA (aB hA h5) (dC hA f5) (dC hA N5) (fun u h5a hu x5a => ⟨_, rfl, ?_⟩)
          have t5b := dF hA aq t5 x5a
          refine zc ?_
          generalize az h5 h5a = h5b at *
          refine br (0 ≤ u) (by rw [bZ hA, aA hA]; by_cases z : u < 0 <;> simp [z] <;> omega) (fun cu => ?_) (fun cu => ?_) <;> refine zc ?_
          focus
            rw [hu] at cu
            have w : gD (gt L4 p3) (gt L4 (x - 1)) := by rw [← Ql]; exact LL.not_lt.1 (fun w => by have := cO.2 w; omega)
            refine Nf hA aq om om p4 p5 t5b (fun h6 L6 e t6 Cf e0 e1 he => ⟨_, rfl, ?_⟩)
            refine zc ?_
            refine UZ e y Ch _ _ h6 L6 om l2 l3 t6 (P8.trans (Cf.wide A0 r0 r2)) (yO.equal (WG.perm A0 Cf) om om (fun p q p0 p1 q0 q1 => ?_))
            refine dN.trans _ _ _ (he p p0 p1) (dN.trans _ _ _ w ?_)
            have := (hv4.perm om Cf).resolve_left om q q0 q1
            rwa [Cf.out (x - 1) om om] at this
          clear t5
          have t5 := t5b
        rotate_left
        focus
          rw [← sf]
          clear sf
          obtain ⟨h5b, hh⟩ : ∃ z, z = h5 := ⟨_, rfl⟩; subst hh
      all_goals
        refine PR hA aq om om p4 p5 t5 (fun h6 L6 zd r t6 Cf m0 m1 k1 k2 => ⟨_, _, rfl, ?_⟩)
        have hd6 := WG.perm A0 Cf
        have hv6 := hv4.perm om Cf
        have Cf := P8.trans (Cf.wide A0 r0 r2)
        have v1 : tF L6 x zd := by
          rcases hv6 with o | o
          · exact .inl o
          · exact .inr (fun k k0 k1 => o k k0 om)
        have v2 : tF L6 (zd + 1) y := .inr (fun k k0 k1 => by rw [show zd + 1 - 1 = zd by omega]; exact k2 k om k1)
        have u1 : arith .sub .i64 zd x = zd - x := bP hA om om
        have u2 : arith .sub .i64 y zd = y - zd := bP hA om om
        have u3 : arith .add .i64 zd 1 = zd + 1 := aF hA om om
        obtain ⟨q8, hq8⟩ : ∃ z, z = arith .quo .i64 l 8 := ⟨_, rfl⟩
        (refine zq ?_; repeat ((first | rw [u1] | rw [u2]); refine zq ?_))
        rw [← hq8]
        clear hq8
        refine br (zd - x < y - zd) (by rw [aA hA]) (fun cm => ?_) (fun cm => ?_) <;> refine zc ?_
        focus
          refine rec h6 L6 x zd Ch _ om m0 om om l2 l3 v1 t6 (fun h7 L7 t7 Ia Z5 => ?_)
          refine zc ?_
          rw [u3]
          exact UZ (zd + 1) y Ch _ _ h7 L7 om l2 l3 t7 (Cf.trans (Ia.wide A0 r0 om)) (yO.left dN A0 hd6 m0 m1 k1 k2 Ia Z5)
        focus
          rw [u3]
          refine rec h6 L6 (zd + 1) y Ch _ om om om om l2 l3 v2 t6 (fun h7 L7 t7 Ia Z5 => ?_)
          refine zc ?_
          exact UZ x zd Ch _ _ h7 L7 om l2 l3 t7 (Cf.trans (Ia.wide A0 om r2)) (yO.right dN A0 hd6 m0 m1 k1 k2 Ia Z5)
theorem Tl{h0:af}(aq:h0.low<=h0.next){b n c:Nat}:∀(N:Nat) (h:af) (L:List LE) (x y dD:Int) (Q:Value->af->Prop),(y-x).toNat<N->0<=x->x<=y->y<=n->0<=dD->dD<=100->tF L x y->bq h0 h b n L->(∀h' L',bq h0 h' b n L'->aJ x y L L'->aH gD L' x y->Q (.tuple #[]) h')->call 74 [.slice (some ⟨b,0,none⟩) n c,.int .i64 x,.int .i64 y,.int .i64 dD,.func (.func 51) #[] #[]] h Q:=by
 intro N
 induction N with
 |zero=>intro h L x y dD Q w;omega
 |succ N ih=>
  intro h L x y dD Q w x0 xy yn l0 l1 ov t hQ;have cZ:=aq
  replace aq:=t.ext.aC aq
  refine hA.aN Tryz.func74 FT (hA.alike _ _ _ rfl) aq (zc ?_);refine Ny hA cZ (c:=c) (L0:=L) x0 yn ov (fun h L x' y' dD Q a1 a2 a3 a4 a5 a6 a7 a8 a9=>ih h L x' y' dD Q om a1 a2 a3 a5 a6 a7 a8 a9) (fun h' L' e kn t' hp hs=>?_) (y-x).toNat x y dD true true h L (Nat.le_refl _) l0 l1 t (.refl _ _ _) (.start L xy);refine zc ?_;exact hQ h' L' t' hp hs
theorem NA{h0 h:af}(aq:h0.low<=h0.next){b n c:Nat}{L:List LE}(t:bq h0 h b n L){Q:Value->af->Prop}
  (hQ:∀h' L',bq h0 h' b n L'->aJ 0 n L L'->aH gD L' 0 n->Q (.tuple #[]) h'):call 50 [.slice (some ⟨b,0,none⟩) n c,.func (.func 51) #[] #[]] h Q:=by
 have cZ:=aq
 replace aq:=t.ext.aC aq
 have gn:=t.gn;refine hA.aN Tryz.func50 x50.2 (hA.alike _ _ _ rfl) aq (zc ?_);rw[aI hA,mj hA om om];refine No hA aq (by unfold u64;omega) (fun k hk=>⟨_,rfl,?_⟩);obtain⟨n0,n1,n2⟩:=hk;have Wx:k<=40:=by
  by_cases c:k<=40
  ·exact c
  ·have h1:=Nat.pow_le_pow_right (n:=2) om (show 40<=k.toNat by omega)
   have h2:((2 ^ 40:Nat):Int)<=((2 ^ k.toNat:Nat):Int):=by exact_mod_cast h1
   have h3:((2 ^ k.toNat:Nat):Int)=2 ^ k.toNat:=by push_cast;rfl
   have h4:((2 ^ 40:Nat):Int)=1099511627776:=by decide
   have h5:max (n:Int) 1<=100001:=om
   omega
 refine zc ?_;refine Tl hA cZ (c:=c) (n+1) h L 0 n k _ om om om (Int.le_refl _) n0 om (.inl rfl) t (fun h' L' t' hp hs=>?_);refine zc ?_;exact hQ h' L' t' hp hs
theorem Tm{h0:af}(fw:h0.low<=h0.next){g:List (List Int)}{B:List Fc}{m n s:Nat}{A:Nat->Ext.aQ}{W many size:Int}{pa qa:Option Addr}{bs:Nat->Nat}(t:EO h0 g B m n s A W many size pa qa bs){pc qc:Nat}{NI:Int}(eN:NI=n){Q:Exit->SS->Prop}
  (hQ:∀hs h' a N c hd,BQ hs h' a N c hd (Ext.nf A (gp A B W m n) size n n)->Ext h0 h'->Ext h0 hs->Q (.exit 0) ⟨[(11,.slice a N c)],0,[],h'⟩) :
  ∀(r d:Nat) (K:Int) (h:af) (fa:Option Addr) (fn fc:Nat) (fh:List Hd),n-d<=r->d<=n->K=(n:Int)-1-d->Ext h0 h->J5 h0 h fa fn fh (Ext.nf A (gp A B W m n) size n d)->(d=0\/∃hs,Ext h0 hs/\BQ hs h fa fn fc fh (Ext.nf A (gp A B W m n) size n d))->
   head 30 5 0 ⟨[(0,.slice pa n pc),(1,.slice qa m qc),(2,.int .i64 W),(3,.int .i64 many),(9,.int .i64 NI),(10,.int .i64 size),(11,.slice fa fn fc),(12,.int .i64 K)],0,[],h⟩ Q:=by
 intro r;have n4:=t.hM.n4;have m4:=t.hM.m4;have n1:=t.hM.n1;have m1:=t.hM.m1;have sum:=t.st.sum;obtain⟨W0,W1,y0,y1,s0,s1⟩:=t.M3
 induction r with
 |zero=>
  intro d K h fa fn fc fh hr hd eK x lf lo;refine hA.ar Tryz.func30 x30.2 (zc ?_);refine br (0<=K) (by rw[bY hA]) (fun q=>om) (fun _=>?_)<;>refine zc ?_;obtain rfl:d=n:=om
  rcases lo with q|⟨hs,x2,lo⟩
  ·omega
  ·exact hQ hs h fa fn fc fh lo x x2
 |succ r ih=>
 intro d K h fa fn fc fh hr hd eK x lf lo;by_cases ck:d<n
 rotate_left
 ·refine hA.ar Tryz.func30 x30.2 (zc ?_)
  refine br (0<=K) (by rw[bY hA]) (fun q=>om) (fun _=>?_)<;>refine zc ?_;obtain rfl:d=n:=om
  rcases lo with q|⟨hs,x2,lo⟩
  ·omega
  ·exact hQ hs h fa fn fc fh lo x x2
 obtain⟨k,ek⟩:∃k,k=n-1-d:=⟨_,rfl⟩;have hk:k<n:=om
 have WI:K=k:=om
 obtain⟨h9,Ay⟩:∃z,z=aG h 13:=⟨_,rfl⟩;have xb:Ext h h9:=by rw[Ay];exact au hA _ _
 have x9:=x.trans xb;have t9:=t.more x9;have l9:=x9.aC fw;obtain⟨pb,po,epa,_,w1⟩:=t9.hd.at (i:=K) om om;have w1:=w1 0 1 om om;obtain⟨wd,ZL⟩:∃w,w=n+m:=⟨_,rfl⟩;obtain⟨cw,pR⟩:∃z,z=aw 1 wd:=⟨_,rfl⟩;have eh:gt (kG bs (n+m) n) K=⟨some ⟨bs k,0,none⟩,wd,cw⟩:=by
  rw[pR,ZL,WI];exact jq _ hk
 rw[eh]at w1;have w1:h9.aM ⟨pb,po+K.toNat*1+0,none⟩ 1=some [.slice (some ⟨bs k,0,none⟩) wd cw]:=w1;cases pa with
 |none=>cases epa
 |some pad=>
 cases epa;have r1:rd h9 pb (place po K 1) 1 [.slice (some ⟨bs k,0,none⟩) wd cw]:=aD hA w1;obtain⟨za,rws⟩:=t9.rows;have w2:=rws.el (y:=k) (x:=k) om om;obtain⟨F,eF⟩:∃z,z=A k k:=⟨_,rfl⟩;rw[<-eF]at w2;have r2:rd h9 (bs k) (place 0 K 1) 1 [.int .i64 F]:=aD hA (by rw[WI];exact w2);have tl:=rws.tail (y:=k) (n:=n) (m:=m) om rfl;obtain⟨FN,ZK⟩:∃z:Int,z=fn:=⟨_,rfl⟩;have e1:ofNat fn=FN:=by rw[ZK];exact aI hA fn
 have gl:=lf.gr.len;have f64:=t.run (d:=d) om;rw[gl]at f64;have mK:=Ext.uB t.JC d om;have Z6:∀y,y∈Ext.nf A (gp A B W m n) size n d->Ext.BY A (gp A B W m n) size n (k+1) y:=fun y hy=>by
  have:=(mK.1 y).1 hy
  rwa [show n-d=k+1 by omega]at this
 obtain⟨v,ev⟩:∃v,v=jJ A B W m n k % W:=⟨_,rfl⟩;have v0:0<=v/\v<W:=by rw[ev];exact⟨Int.emod_nonneg _ om,Int.emod_lt_of_pos _ W0⟩
 obtain⟨R,eR⟩:∃z,z=v*many:=⟨_,rfl⟩;have eR2:R=gp A B W m n k:=by rw[eR,ev];unfold gp;rw[t.em]
 have Rb:0<=R/\R<=12960000*64:=by rw[eR];exact⟨Int.mul_nonneg v0.1 om,Int.mul_le_mul om y1 om om⟩
 have m2:arith .mul .i64 v many=R:=by rw[eR];exact jn hA (by rw[<-eR];omega) (by rw[<-eR];omega)
 refine hA.ar Tryz.func30 x30.2 (zc ?_);refine br (0<=K) (by rw[bY hA]) (fun _=>?_) (fun q=>om)<;>refine zc ?_;rw[<-Ay];refine zq ?_;rw[pR];refine BS hA SD (n:=wd) (i:=NI) om om om (fun c'=>?_);rw[show 0+NI.toNat*1=0+n*1 by omega,show wd-NI.toNat=m by omega,<-pR];obtain⟨o,eo⟩:∃z,z=0+n*1:=⟨_,rfl⟩;rw[<-eo]at tl ⊢;refine zq ?_;refine BW hA l9 tl t9.oL (Nat.le_refl m) om (B:=8162933760000) (fun j hj=>?_) om W0 om (fun v' hv=>⟨v',rfl,?_⟩)
 ·rw[jq _ hj,BZ hj]
  obtain⟨_,p0,p1,_⟩:=t.w.part t.ht hj;exact HU (t.st.small t.hM om _) p0 p1 W1
 obtain rfl:v'=v:=by
  rw[hv,ev]
  congr 1
  unfold jJ;exact Ext.aT m (fun j hj=>by rw[jq _ hj,BZ hj])
 (refine zq ?_;repeat ((first|rw[e1]|rw[m2]);refine zq ?_))
 refine S7 hA l9 t9 hk (lf.more xb) Z6 f64 eN WI eF eR2 ZK ZL pR (fun h2 a2 N2 c2 TD v9=>?_) fn 0 0 h9 none 0 0 [] om (Nat.zero_le _) rfl (by rw[List.take_zero];exact BQ.nil h9);have er:Ext.ig A (gp A B W m n) size n k (Ext.nf A (gp A B W m n) size n d)=Ext.nf A (gp A B W m n) size n (d+1):=by rw[ek];rfl
 rw[er]at v9;refine zq ?_;rw[bP hA om om];exact ih (d+1) (K-1) h2 a2 N2 c2 TD om om om (x9.trans v9.s.ext) (v9.s.back x9) (.inr ⟨h9,x9,v9⟩)
theorem NB{h:af}(aq:h.low<=h.next){g:List (List Int)}{B:List Fc}{m n s:Nat}{A:Nat->Ext.aQ}{W many size:Int}{pa qa:Option Addr}{pc qc:Nat}{bs:Nat->Nat}(t:EO h g B m n s A W many size pa qa bs){Q:Value->af->Prop}
  (hQ:∀h' b N c hd l,qT nC 1 h' (some ⟨b,0,none⟩) N hd l->l.Perm (Ext.nf A (gp A B W m n) size n n)->l.Pairwise LL.lt->Ext h h'->Q (.slice (some ⟨b,0,none⟩) N c) h'):call 30 [.slice pa n pc,.slice qa m qc,.int .i64 W,.int .i64 many] h Q:=by
 obtain⟨NI,eN⟩:∃z:Int,z=n:=⟨_,rfl⟩;have e0:ofNat n=NI:=by rw[eN];exact aI hA n
 have n4:=t.hM.n4;have n1:=t.hM.n1;obtain⟨W0,W1,y0,y1,s0,s1⟩:=t.M3;have m1:arith .mul .i64 W many=size:=by rw[t.es];exact jn hA (by rw[<-t.es];omega) (by rw[<-t.es];omega)
 have Z7:nat NI=n:=by rw[Ho hA];omega
 have eNt:NI.toNat=n:=om
 have lz:=J5.one h n n1;refine hA.aN Tryz.func30 x30.2 (hA.alike _ _ _ rfl) aq (zc ?_)
 (refine zq ?_;repeat ((first|rw[e0]|rw[m1]);refine zq ?_))
 refine⟨Vb hA om (Int.le_refl _) om,?_⟩;refine zc ?_;rw[OU hA];refine zq ?_;rw[Z7,eNt,df hA,df hA,cM hA,cM hA,bP hA om om];obtain⟨h2,Hz⟩:∃z,z=(h.push 1 (bB [.int .i64 0] n)).push 1 [.slice (some ⟨h.next,0,none⟩) n n]:=⟨_,rfl⟩;rw[<-Hz]at lz ⊢;have run:=Ext.uB t.JC n (Nat.le_refl n);obtain⟨rl,erl⟩:∃z,z=Ext.nf A (gp A B W m n) size n n:=⟨_,rfl⟩;refine Tm hA aq t eN (fun hs h3 a N c hd lo x x'=>?_) n 0 (NI-1) h2 _ 1 1 _ om om om lz.ext lz (.inl rfl);rw[<-erl]at lo run hQ;have hN:=lo.s.gr.len;have hm:=t.em;have GO:1<=N/\N<=64:=by
  have h4:=run.2.2.2;rw[Nat.sub_self]at h4;have e1:(rl.length:Int)*1=many:=by rw[hm,<-h4];rfl
  have:=t.m64;omega
 rcases lo.pQ with ⟨_,q,_⟩|⟨b,rfl,ec,hb,_,_⟩
 ·omega
 have l3:=x.aC aq;have lb:oh h3 b=oh h3 b:=rfl;have db:=lo.dat l3 om (fun y y0 y1=>by
  have h5:=lo.s.gr.uA y0 y1;have h6:gt rl y∈rl:=by
   unfold gt;rw[List.getD_eq_getElem?_getD,List.getElem?_eq_getElem om];exact List.getElem_mem _
  have h7:=((run.1 _).1 h6).len;omega)
 have hnb:h.next<=b:=Nat.le_trans x'.next (lo.s.fr _ rfl);have xb:Ext h (oh h3 b):=JN x hnb;refine zq ?_;refine NA hA (show(oh h3 b).low<=(oh h3 b).next from Nat.min_le_right _ _) db (fun h4 L' d4 p4 s4=>?_);refine zq ?_;have hlz:=Ew (hd:=hd) (g:=rl) (by have:=lo.s.gr.hd.len;omega);have so:=yU (n:=N) om p4 s4 (by rw[yT (by have:=lo.s.gr.hd.len;omega)];exact run.2.2.1);rw[yT (by have:=lo.s.gr.hd.len;omega)]at so;exact hQ h4 b N c _ _ d4.Z1 so.1 so.2 (xb.trans d4.ext)
theorem NC(hI:rT F){h:af}(aq:h.low<=h.next){m ac k bc:Nat}{aa ba:Option Addr}{dA:List Hd}{g:List (List Int)}{B:List Fc}(hg:zb nC 1 h aa m dA g)(hB:Rows fC 2 h ba k B)(hi:∀i:Int,0<=i->i<k->i64 (gt B i).n/\i64 (gt B i).d){Q:Value->af->Prop}
  (V4:∀e h',ju g B e->e≠0->Ext h h'->Q (.tuple #[.int .i64 0,.int .i64 0,.int .i64 e]) h')
  (S5:∀h' n,ju g B 0->rV g m n->¬mn g B m n->Ext h h'->Q (.tuple #[.int .i64 0,.int .i64 0,.int .i64 6]) h')
  (T6:∀h' n r (c f:Int),ju g B 0->rV g m n->mn g B m n->vG g m n r->c=(Ext.Dv g m n r:Nat)->f=(n:Int)-r->Ext h h'->Q (.tuple #[.int .i64 c,.int .i64 f,.int .i64 0]) h'):call 8 [.agg #[.slice aa m ac,.slice ba k bc]] h Q:=by
 refine hA.aN Tryz.func8 x8.2 (hA.alike _ _ _ rfl) aq (zc ?_);refine zq ?_;refine yF hA aq hg hB hi (fun e h1 he x1=>⟨e,rfl,?_⟩);refine zq ?_;refine br (e≠0) (by rw[bT hA]) (fun c=>?_) (fun c=>?_)<;>refine zc ?_
 ·refine zq ?_
  exact V4 e h1 he c x1
 obtain rfl:e=0:=om
 obtain⟨gd,nm⟩:=he.qP;obtain⟨m',n,hM⟩:=gd.Zy nm;obtain rfl:m=m':=by have:=hg.len;have:=hM.len;omega
 have A4:=hg.full (fun y y0 y1=>by rw[hM.row y y0 y1];exact hM.n1);have T2:k=m:=by have:=gd.len;have:=hB.len;have:=hg.len;omega
 refine zq ?_;refine vk hA hI (x1.aC aq) hM (A4.ext x1) (hB.ext x1) T2 (fun i i0 i1=>gd.turn i i0 (by have:=hB.len;omega)) (fun b h2 hb x2=>⟨b,rfl,?_⟩);have y2:=x1.trans x2;cases b with
 |false=>
  refine zq ?_;rw[show dH false=true by rw[bZ hA];rfl];refine zq ?_;exact S5 h2 n he hM (fun q=>by have:=hb.2 q;cases this) y2
 |true=>
  refine zq ?_;rw[show dH true=false by rw[bZ hA];rfl];refine zq ?_;refine Eh hA (y2.aC aq) hM (A4.ext y2) (fun h3 b k2 c2 r ek ir B2 x3=>⟨_,_,_,rfl,?_⟩);have y3:=y2.trans x3;obtain⟨h9,Ay⟩:∃z,z=aG h3 18:=⟨_,rfl⟩;have xb:Ext h3 h9:=by rw[Ay];exact au hA _ _
  have y9:=y3.trans xb;have B9:=B2.ext xb;have R9:=bW.rows B9.own gV om B9.lt;rw[show(MF g m n k2).length=k2 from bN _ _]at R9;have rm:=ir.lm;have rn:=ir.ln;have m4:=hM.m4;have mm1:=hM.m1;have n4:=hM.n4;obtain⟨K2,WI⟩:∃z:Int,z=k2:=⟨_,rfl⟩;have e0:ofNat k2=K2:=by rw[WI];exact aI hA k2
  obtain⟨R,eR⟩:∃z:Int,z=r:=⟨_,rfl⟩;have m1:arith .sub .i64 K2 1=R:=by rw[bP hA om om];omega
  obtain⟨x,ex⟩:∃z:Int,z=(Ext.Dv g m n r:Nat):=⟨_,rfl⟩;have gx:gt (MF g m n k2) R=x:=by
   rw[ex,eR];exact jq (fun x=>(Ext.Dv g m n x:Int)) (n:=k2) (i:=r) om
  obtain⟨b',o',e',_,q1⟩:=R9.at (i:=R) om om;cases e';have q1:=q1 0 1 om om;rw[gx]at q1;have r1:rd h9 b (place 0 R 1) 1 [.int .i64 x]:=aD hA q1;obtain⟨N,eN⟩:∃z:Int,z=n:=⟨_,rfl⟩;have e1:ofNat n=N:=by rw[eN];exact aI hA n
  have Ef:(gt g 0).length=n:=hM.row 0 om (by have:=hM.m1;omega);obtain⟨ab,ao,rfl,QB,w2⟩:=(A4.ext y9).mG (i:=0) om (by have:=hM.m1;omega);have row:=(A4.ext y9).row 0 om (by have:=hM.m1;omega);have zz:=row.len;rw[Ef]at zz;rw[<-zz]at w2;have r2:rd h9 ab (place ao 0 1) 1 [.slice (gt dA 0).a n (gt dA 0).c]:=aD hA w2
  (refine zq ?_;repeat ((first|rw[e0]|rw[m1]);refine zq ?_))
  rw[<-Ay]
  (refine zq ?_;repeat ((first|rw[e0]|rw[e1]|rw[m1]);refine zq ?_))
  rw[bP hA om om];exact T6 h9 n r x (N-R) he hM (hb.1 rfl) ir ex om y9
theorem WJ{h0:af}(fw:h0.low<=h0.next){x:List Int}{n xc:Nat}{xa:Option Addr}(hx:Rows nC 1 h0 xa n x)(n4:n<=4){W many size NI:Int}(eN:NI=n)(m1:arith .mul .i64 W many=size)(s0:0<size)(s1:size<=829440000)(hr:∀j:Nat,j<n->0<=gt x (j:Int)/\gt x (j:Int)<size){oa fa:Option Addr}{on oc fn fc:Nat}{FN FI:Int}{c1:List Value}{Q:Exit->SS->Prop}
  (hQ:∀h' a c,oD h' 2 a n c ((ES size x).flatMap fC)->ky h0.next a->Ext h0 h'->Q (.exit 2) ⟨[(4,.int .i64 many),(8,.int .i64 W),(11,.slice oa on oc),(14,.slice a n c),(48,.slice fa fn fc),(49,.int .i64 FN),(50,.int .i64 FI)],1,[(0,c1)],h'⟩) :
  ∀(d i:Nat) (I:Int) (h:af) (a:Option Addr) (c:Nat),n-i<=d->i<=n->I=i->oD h 2 a i c ((ES size (x.take i)).flatMap fC)->ky h0.next a->Ext h0 h->
   head 10 16 1 ⟨[(4,.int .i64 many),(8,.int .i64 W),(11,.slice oa on oc),(14,.slice a i c),(48,.slice fa fn fc),(49,.int .i64 FN),(50,.int .i64 FI),(54,.slice xa n xc),(55,.int .i64 NI),(56,.int .i64 I)],1,[(0,c1)],h⟩ Q:=by
 intro d;have ln:=hx.len
 induction d with
 |zero=>
  intro i I h a c hd hi eI t fo x';refine hA.ar Tryz.func10 x10.2 (zc ?_);refine br (I<NI) (by rw[aA hA]) (fun q=>om) (fun _=>?_)<;>refine zc ?_;obtain rfl:i=n:=om
  rw[List.take_of_length_le om]at t;exact hQ h a c t fo x'
 |succ d ih=>
 intro i I h a c hd hi eI t fo x';by_cases ci:i<n
 rotate_left
 ·refine hA.ar Tryz.func10 x10.2 (zc ?_)
  refine br (I<NI) (by rw[aA hA]) (fun q=>om) (fun _=>?_)<;>refine zc ?_;obtain rfl:i=n:=om
  rw[List.take_of_length_le om]at t;exact hQ h a c t fo x'
 have aq:=x'.aC fw;obtain⟨xb,xo,rfl,_,q1⟩:=(hx.ext x').at (i:=I) om om;have q1:=q1 0 1 om om;obtain⟨v,ev⟩:∃z,z=gt x I:=⟨_,rfl⟩;have hv:=hr i ci;rw[<-eI,<-ev]at hv;rw[<-ev]at q1;have r1:rd h xb (place xo I 1) 1 [.int .i64 v]:=aD hA q1;have et:=Nu (size:=size) (x:=x) eI om;rw[<-ev]at et;refine hA.ar Tryz.func10 x10.2 (zc ?_);refine br (I<NI) (by rw[aA hA]) (fun _=>?_) (fun q=>om)<;>refine zc ?_
 (refine zq ?_;repeat ((first|rw[m1]);refine zq ?_))
 refine HB hA aq (n:=v) (d:=size) (by unfold i64;omega) (by unfold i64;omega) (fun n' d' e zn h1 x1=>⟨_,_,_,rfl,?_⟩);have y8:=x1.aC aq;have y1:=x'.trans x1;have hf:fits (rq v size):=mm om om om;have WK:n'=(fr v size).n/\d'=(fr v size).d/\e=0:=by
  rcases zn with ⟨q,_⟩|⟨_,q⟩
  ·omega
  ·rcases q with ⟨_,q1,q2,q3⟩|⟨q,_⟩
   ·exact⟨q1,q2,q3⟩
   ·exact absurd hf q
 obtain⟨rfl,rfl,rfl⟩:=WK;obtain⟨u,eu⟩:∃z,z=fr v size:=⟨_,rfl⟩;rw[<-eu]at et ⊢;have t1:=t.ext x1;refine zq ?_;rw[show cmp .neq 0 0=false by rw[bT hA];rfl];refine zq ?_;refine HY hA TFr B5 om Q7 (v:=u) t1 om (fun a' c' h2 t2 x2=>?_);rw[<-et]at t2;obtain⟨x3,f3⟩:=x2 h0 y1 fo;obtain⟨i1,MX⟩:∃z,z=i+1:=⟨_,rfl⟩;rw[<-MX]at t2 ⊢;refine zq ?_;rw[aF hA om om];exact ih i1 (I+1) h2 a' c' om om om t2 f3 x3
theorem JP{h:af}{a b:Option Addr}{n ca cb:Nat}{l k:List Fc}(ha:Rows fC 2 h a n l)(hb:Rows fC 2 h b n k)(JQ:n<=100000){Q:Exit->SS->Prop}(fO:l≠k->∀env kn T h',Ext h h'->Q .ret ⟨(4,.bool false) :: env,kn,T,h'⟩)(cW:l=k->∀h' kn T,Ext h h'->Q (.exit 0) ⟨[],kn,T,h'⟩) :
  ∀(d i:Nat) (I:Int) (h1:af),n-i=d->i<=n->I=i->Ext h h1->(∀j:Nat,j<i->gt l (j:Int)=gt k (j:Int))->head 69 4 0 ⟨[(0,.slice a n ca),(1,.slice b n cb),(5,.int .i64 I)],0,[],h1⟩ Q:=by
 intro d;have l1:=ha.len;have l2:=hb.len
 induction d with
 |zero=>
  intro i I h1 hd hi eI e hp;refine hA.ar Tryz.func69 x69.2 (zc ?_);refine br (I<(n:Int)) (by rw[aA hA,aI hA]) (fun q=>om) (fun _=>?_)<;>refine zc ?_;exact cW (AD l1 l2 (fun j hj=>hp j om)) h1 _ _ e
 |succ d ih=>
 intro i I h1 hd hi eI e hp;have x9:Ext h1 (aG h1 9):=au hA _ _;obtain⟨ab,ao,e1,_,r1⟩:=(ha.ext (e.trans x9)).at (i:=I) om om;obtain⟨bb,bo,e2,_,r2⟩:=(hb.ext (e.trans x9)).at (i:=I) om om;subst e1 e2;obtain⟨xn,xd,hx⟩:∃x y,gt l I=⟨x,y⟩:=⟨_,_,rfl⟩;obtain⟨yn,yd,hy⟩:∃x y,gt k I=⟨x,y⟩:=⟨_,_,rfl⟩;have r1:=r1 0 2 om om;have r2:=r2 0 2 om om;rw[hx]at r1;rw[hy]at r2;have r1:rd (aG h1 9) ab (place ao I 2) 2 [.int .i64 xn,.int .i64 xd]:=aD hA r1;have r2:rd (aG h1 9) bb (place bo I 2) 2 [.int .i64 yn,.int .i64 yd]:=aD hA r2;refine hA.ar Tryz.func69 x69.2 (zc ?_);refine br (I<(n:Int)) (by rw[aA hA,aI hA]) (fun _=>?_) (fun q=>om)<;>refine zc ?_;refine zq ?_;obtain⟨r,zo,EF⟩:=eqF xn xd yn yd;rw[qB hA];refine⟨Lt,r,zo,?_⟩;cases r with
 |true=>
  obtain⟨rfl,rfl⟩:=EF.1 rfl;have bt:dH true=false:=by rw[bZ hA];rfl
  (refine zq ?_;repeat ((first|rw[bt]);refine zq ?_))
  rw[aF hA om om];refine ih (i+1) (I+1) _ om om om (e.trans x9) (fun j hj=>?_);by_cases c:j=i
  ·rw[c,<-eI,hx,hy]
  ·exact hp j om
 |false=>
  have bf:dH false=true:=by rw[bZ hA];rfl
  (refine zq ?_;repeat ((first|rw[bf]);refine zq ?_))
  refine fO (fun q=>?_) _ _ _ _ (e.trans x9);rw[<-q,hx]at hy;cases hy;have:=EF.2 ⟨rfl,rfl⟩;cases this
theorem P9{h:af}(aq:h.low<=h.next){a b:Option Addr}{n ca cb:Nat}{l k:List Fc}(ha:Rows fC 2 h a n l)(hb:Rows fC 2 h b n k)(JQ:n<=100000){Q:Value->af->Prop}(hQ:∀r h',(r=true↔l=k)->Ext h h'->Q (.bool r) h'):call 69 [.slice a n ca,.slice b n cb] h Q:=by
 refine hA.aN Tryz.func69 x69.2 (hA.alike _ _ _ rfl) aq (zc ?_);refine br ((n:Int)≠n) (by rw[bT hA,aI hA]) (fun q=>absurd rfl q) (fun _=>?_)<;>refine zc ?_;refine JP hA ha hb JQ (fun q env kn T h' e=>?_) (fun q h' kn T e=>?_) n 0 0 h om om rfl (.refl h) (fun j hj=>om)
 ·refine zq ?_
  exact hQ false h' ⟨(fun q=>by cases q),fun w=>absurd w q⟩ e
 ·refine zc ?_
  exact hQ true h' ⟨fun _=>q,fun _=>rfl⟩ e
theorem JR{h:af}(aq:h.low<=h.next){n ca cb va vb:Nat}{a b ra rb:Option Addr}{l k:List Fc}(pa:Rows Hd.cells 1 h a 1 [⟨ra,n,va⟩])(pb:Rows Hd.cells 1 h b 1 [⟨rb,n,vb⟩])(ha:Rows fC 2 h ra n l)(hb:Rows fC 2 h rb n k)(JQ:n<=100000){Q:Exit->SS->Prop}(fO:l≠k->∀env kn T h',Ext h h'->Q .ret ⟨(4,.bool false) :: env,kn,T,h'⟩)(cW:l=k->∀h' kn T,Ext h h'->Q (.exit 0) ⟨[],kn,T,h'⟩) :
  head 42 4 0 ⟨[(0,.slice a 1 ca),(1,.slice b 1 cb),(5,.int .i64 0)],0,[],h⟩ Q:=by
 obtain⟨h9,iT⟩:∃z,z=aG h 10:=⟨_,rfl⟩;have x9:Ext h h9:=by rw[iT];exact au hA _ _
 obtain⟨ab,ao,e1,_,r1⟩:=(pa.ext x9).at (i:=0) om om;obtain⟨bb,bo,e2,_,r2⟩:=(pb.ext x9).at (i:=0) om om;subst e1 e2;have r1:=r1 0 1 om om;have r2:=r2 0 1 om om;have r1:rd h9 ab (place ao 0 1) 1 [.slice ra n va]:=aD hA r1;have r2:rd h9 bb (place bo 0 1) 1 [.slice rb n vb]:=aD hA r2;refine hA.ar Tryz.func42 x42.2 (zc ?_);refine br ((0:Int)<((1:Nat):Int)) (by rw[aA hA,aI hA]) (fun _=>?_) (fun q=>om)<;>refine zc ?_;rw[<-iT];refine zq ?_;refine P9 hA (aB hA h9) ((ha.ext x9).ext (hH hA h9)) ((hb.ext x9).ext (hH hA h9)) JQ (fun r hz hr ez=>⟨r,rfl,?_⟩);obtain⟨hX,Gb⟩:∃z,z=az h9 hz:=⟨_,rfl⟩;have eX:Ext h hX:=by rw[Gb];exact cI hA aq x9 ez
 cases r with
 |false=>
  have bf:dH false=true:=by rw[bZ hA];rfl
  (refine zq ?_;repeat ((first|rw[bf]);refine zq ?_))
  rw[<-Gb];exact fO (fun q=>by have:=hr.2 q;cases this) _ _ _ _ eX
 |true=>
  have bt:dH true=false:=by rw[bZ hA];rfl
  (refine zq ?_;repeat ((first|rw[bt]);refine zq ?_))
  rw[<-Gb,aF hA om om];refine hA.ar Tryz.func42 x42.2 (zc ?_);refine br ((1:Int)<((1:Nat):Int)) (by rw[aA hA,aI hA]) (fun q=>om) (fun _=>?_)<;>refine zc ?_;exact cW (hr.1 rfl) hX _ _ eX
theorem Qa{h:af}(aq:h.low<=h.next){n ca cb va vb:Nat}{a b ra rb:Option Addr}{l k:List Fc}(pa:Rows Hd.cells 1 h a 1 [⟨ra,n,va⟩])(pb:Rows Hd.cells 1 h b 1 [⟨rb,n,vb⟩])(ha:Rows fC 2 h ra n l)(hb:Rows fC 2 h rb n k)(JQ:n<=100000){Q:Value->af->Prop}(hQ:∀r h',(r=true↔l=k)->Ext h h'->Q (.bool r) h'):call 19 [.slice a 1 ca,.slice b 1 cb] h Q:=by
 refine hA.aN Tryz.func19 x19.2 (hA.alike _ _ _ rfl) aq (zc ?_);refine zq ?_;have key:∀{Q:Value->af->Prop},(∀r h',(r=true↔l=k)->Ext h h'->Q (.bool r) h')->call 42 [.slice a 1 ca,.slice b 1 cb] h Q:=by
  intro Q hQ;refine hA.aN Tryz.func42 x42.2 (hA.alike _ _ _ rfl) aq (zc ?_);refine br (((1:Nat):Int)≠((1:Nat):Int)) (by rw[bT hA,aI hA]) (fun q=>absurd rfl q) (fun _=>?_)<;>refine zc ?_;refine JR hA aq pa pb ha hb JQ (fun q env kn T h' e=>?_) (fun q h' kn T e=>?_)
  ·refine zq ?_
   exact hQ false h' ⟨(fun q=>by cases q),fun w=>absurd w q⟩ e
  ·refine zc ?_
   exact hQ true h' ⟨fun _=>q,fun _=>rfl⟩ e
 refine key (fun r h' hr x=>⟨_,rfl,?_⟩);refine zq ?_;exact hQ r h' hr x
theorem Tn{h0:af}(fw:h0.low<=h0.next){l:List (List Int)}{n N lc:Nat}{la:Option Addr}{lh:List Hd}(gl:qT nC 1 h0 la N lh l)(n4:n<=4)(N64:N<=64){W many size NL:Int}(eN:NL=N)(m1:arith .mul .i64 W many=size)(s0:0<size)(s1:size<=829440000)(hr:∀x,x∈l->x.length=n/\∀j:Nat,j<n->0<=gt x (j:Int)/\gt x (j:Int)<size){c1:List Value}{Q:Exit->SS->Prop}
  (hQ:∀h' a c hd,Ib h0 h' a N c hd (l.map (ES size))->Q (.exit 0) ⟨[(11,.slice a N c)],1,[(0,c1)],h'⟩) :
  ∀(d i:Nat) (I:Int) (h:af) (a:Option Addr) (c:Nat) (hd:List Hd),N-i<=d->i<=N->I=i->Ib h0 h a i c hd ((l.take i).map (ES size))->
   head 10 12 1 ⟨[(4,.int .i64 many),(8,.int .i64 W),(11,.slice a i c),(48,.slice la N lc),(49,.int .i64 NL),(50,.int .i64 I)],1,[(0,c1)],h⟩ Q:=by
 intro d;have ln:=gl.len
 induction d with
 |zero=>
  intro i I h a c hd wJ hi eI t;refine hA.ar Tryz.func10 x10.2 (zc ?_);refine br (I<NL) (by rw[aA hA]) (fun q=>om) (fun _=>?_)<;>refine zc ?_;obtain rfl:i=N:=om
  rw[List.take_of_length_le om]at t;exact hQ h a c hd t
 |succ d ih=>
 intro i I h a c hd wJ hi eI t;by_cases ci:i<N
 rotate_left
 ·refine hA.ar Tryz.func10 x10.2 (zc ?_)
  refine br (I<NL) (by rw[aA hA]) (fun q=>om) (fun _=>?_)<;>refine zc ?_;obtain rfl:i=N:=om
  rw[List.take_of_length_le om]at t;exact hQ h a c hd t
 have aq:=t.ext.aC fw;have gl':=gl.ext t.ext;obtain⟨lb,lo,rfl,SU,q1⟩:=gl'.mG (i:=I) om om;obtain⟨ra,era⟩:∃z,z=(gt lh I).a:=⟨_,rfl⟩;obtain⟨rc,vH⟩:∃z,z=(gt lh I).c:=⟨_,rfl⟩;have row:=gl'.row I om om;obtain⟨x,ex⟩:∃z,z=gt l I:=⟨_,rfl⟩;have xm:x∈l:=by
  rw[ex];unfold gt;rw[List.getD_eq_getElem?_getD,List.getElem?_eq_getElem om];exact List.getElem_mem _
 obtain⟨xl,xr⟩:=hr x xm;have rl:=row.len;rw[<-ex,xl]at rl;rw[<-ex,<-era,<-rl]at row;rw[<-era,<-vH,<-rl]at q1;have r1:rd h lb (place lo I 1) 1 [.slice ra n rc]:=aD hA q1;obtain⟨NI,eNI⟩:∃z:Int,z=n:=⟨_,rfl⟩;have e0:ofNat n=NI:=by rw[eNI];exact aI hA n
 have et:(l.take (i+1)).map (ES size)=(l.take i).map (ES size)++[ES size x]:=by
  rw[yL l eI om,List.map_append,<-ex];rfl
 refine hA.ar Tryz.func10 x10.2 (zc ?_);refine br (I<NL) (by rw[aA hA]) (fun _=>?_) (fun q=>om)<;>refine zc ?_
 (refine zq ?_;repeat ((first|rw[e0]);refine zq ?_))
 refine WJ hA aq row n4 eNI m1 s0 s1 xr (fun h2 a2 c2 t2 f2 x2=>?_) n 0 0 h none 0 om om rfl (.nil _ _) (.none _) (.refl h);have v9:=t.more x2;have hn:=t.pQ.lt;have hN:=x2.next;refine zq ?_;refine we hA TLF gJ om HL (v:=(⟨a2,n,c2⟩:Hd)) v9.pQ om (fun b' h3 a' x' n' SG k'=>?_);have t3:=v9.add (k:=⟨a2,n,c2⟩) (r:=ES size x) (by
   refine⟨t2.cells,B5,om⟩) (fun ad cX bd lV=>by have:=f2 bd lV;have:=hn ad cX;omega) a' (x' h0 v9.ext v9.fr) n' SG k'
 rw[<-et]at t3;generalize aw 1 (i+1)=cc at *;obtain⟨i1,MX⟩:∃z,z=i+1:=⟨_,rfl⟩;rw[<-MX]at t3 ⊢;refine zq ?_;rw[aF hA om om];exact ih i1 (I+1) h3 _ cc _ om om om t3
theorem To (hI : rT F) {h : af} (aq : h.low ≤ h.next) {m ac k bc : Nat} {aa ba : Option Addr} {dA : List Hd} {g : List (List Int)} {B : List Fc} (hg : zb nC 1 h aa m dA g) (hB : Rows fC 2 h ba k B) (hi : ∀ i : Int, 0 ≤ i → i < k → i64 (gt B i).n ∧ i64 (gt B i).d) {Q : Value → af → Prop} 
   (V4 : ∀ e h', ju g B e → e ≠ 0 → Ext h h' → Q (.tuple #[.slice none 0 0, .int .i64 e]) h')
   (S5 : ∀ e h' n, ju g B 0 → rV g m n → P5 g B m n e → Ext h h' → Q (.tuple #[.slice none 0 0, .int .i64 e]) h')
   (T6 : ∀ hs h' n N c a hd L, ju g B 0 → rV g m n → JO g B m n L → Ext h hs → Ib hs h' a N c hd L → Q (.tuple #[.slice a N c, .int .i64 0]) h')
   : call 10 [.agg #[.slice aa m ac, .slice ba k bc]] h Q := by
  refine hA.aN Tryz.func10 x10.2 (hA.alike _ _ _ rfl) aq (zc ?_)
  refine zq ?_
  refine NC hA hI aq hg hB hi (fun e h1 he ne x1 => ⟨_, _, _, rfl, ?_⟩) (fun h1 n he hM nr x1 => ⟨_, _, _, rfl, ?_⟩) (fun h1 n r c f he hM hR ir ec ef x1 => ⟨_, _, _, rfl, ?_⟩)
  · refine zq ?_
    rw [show cmp .neq e 0 = true by rw [bT hA]; simp [ne]]
    refine zq ?_
    exact V4 e h1 he ne x1
  · refine zq ?_
    rw [show cmp .neq 6 0 = true by rw [bT hA]; rfl]
    refine zq ?_
    exact S5 6 h1 n he hM (.inl ⟨nr, rfl⟩) x1
  · refine zq ?_
    rw [show cmp .neq 0 0 = false by rw [bT hA]; rfl]
    refine zq ?_
    refine br (f > 0) (by rw [dc hA]) (fun cf => ?_) (fun cf => ?_) <;> refine zc ?_
    · refine zq ?_
      exact S5 24 h1 n he hM (.inr ⟨hR, r, ir, .inl ⟨om, rfl⟩⟩) x1
    obtain rfl : n = r := by have := ir.ln; omega
    refine zq ?_
    refine br (c > 64) (by rw [dc hA]) (fun cc => ?_) (fun cc => ?_) <;> refine zc ?_
    · refine zq ?_
      exact S5 4 h1 n he hM (.inr ⟨hR, n, ir, .inr ⟨rfl, by omega, rfl⟩⟩) x1
    obtain ⟨gd, nm⟩ := he.qP
    have y8 := x1.aC aq
    have hgr := hg.full (fun y y0 y1 => by rw [hM.row y y0 y1]; exact hM.n1)
    have T2 : k = m := by have := gd.len; have := hB.len; have := hg.len; omega
    subst T2
    have ht : ∀ i : Int, 0 ≤ i → i < k → ct (gt B i) ∧ (gt B i).d ≤ 60 := fun i i0 i1 => gd.turn i i0 (by have := hB.len; omega)
    have k4 := hM.m4
    refine zq ?_
    refine AA hA y8 (hB.ext x1) k4 ht (fun W h2 pa pc w t x2 => ⟨_, _, _, _, rfl, ?_⟩)
    have AN := x2.aC y8
    refine zq ?_
    refine Ee hA hI AN hM ((hgr.ext x1).ext x2) (fun h3 r s ra rc qa qc bs rb A st rw hd gd _ => ⟨_, _, _, _, _, _, rfl, ?_⟩)
    obtain rfl := (st.ZD hM).uniq ir
    have JC := st.JC (B := B) w.pos
    have x3 := rw.ext
    have Tp := x3.aC AN
    have em : c = Ext.Mk A r := by rw [← st.WB hM]; exact ec
    refine zq ?_
    refine NB hA Tp (size := W * c) (⟨hM, st, w, ht, ⟨hd.pQ.cells, gJ, by omega⟩, ⟨_, rw⟩, ⟨(t.ext x3).cells, gV, by omega⟩, em, by omega, rfl⟩ : EO h3 g B k r s A W c (W * c) ra pa bs) (fun h4 b N c4 WG l g4 pl sl x4 => ⟨_, _, _, rfl, ?_⟩)
    obtain ⟨NL, eNL⟩ : ∃ z : Int, z = N := ⟨_, rfl⟩
    have e0 : ofNat N = NL := by rw [eNL]; exact aI hA _
    have mp := pZ (A := A) r (fun i hi => st.diag hi)
    have wf := w.gn k4
    have sp : 0 < W * c := Int.mul_pos w.pos om
    have s1 : W * c ≤ 12960000 * 64 := Int.mul_le_mul wf om om om
    obtain ⟨size, T7⟩ : ∃ z, z = W * c := ⟨_, rfl⟩
    have m1 : arith .mul .i64 W c = size := by rw [T7]; exact jn hA (by rw [← T7]; omega) (by rw [← T7]; omega)
    rw [← em, ← T7] at JC
    rw [← T7] at pl sp s1
    have run := Ext.uB JC r (Nat.le_refl r)
    have hr : ∀ x, x ∈ l → x.length = r ∧ ∀ j : Nat, j < r → 0 ≤ gt x (j : Int) ∧ gt x (j : Int) < size := fun x hx => by
      have := (run.1 x).1 (pl.mem_iff.1 hx)
      exact ⟨this.len, fun j hj => this.uh j om hj⟩
    have ag : JO g B k r (l.map (ES size)) := by
      have e1 : size = W * Ext.Mk A r := by rw [T7, em]
      rw [e1] at pl s1 ⊢
      exact JO.of hM st hR ir om w ht om pl sl
    have lN : N ≤ 64 := by
      have h1 := ag.len
      rw [List.length_map] at h1
      have := g4.len
      omega
    (refine zq ?_; repeat ((first | rw [e0]); refine zq ?_))
    refine Tn hA (x4.aC Tp) g4 hM.n4 lN eNL m1 sp om hr (fun h5 a5 c5 hd5 t5 => ?_) N 0 0 h4 none 0 [] om om rfl (Ib.nil h4)
    refine zq ?_
    exact T6 h4 h5 r N c5 a5 hd5 _ he hM ag (((x1.trans x2).trans x3).trans x4) t5
theorem Qb(hI:rT F){h:af}(aq:h.low<=h.next){m n ac k bc:Nat}{aa ba:Option Addr}{dA:List Hd}{g:List (List Int)}{B:List Fc}(hc:ju g B 0)(hM:rV g m n)(hg:qT nC 1 h aa m dA g)(hB:Rows fC 2 h ba k B)(hi:∀i:Int,0<=i->i<k->i64 (gt B i).n/\i64 (gt B i).d){Q:Value->af->Prop}
  (hQ:∀e L hs h' N c a hd,Z2 g B m n e L->Ext h hs->Ib hs h' a N c hd L->Q (.tuple #[.slice a N c,.int .i64 e]) h'):call 10 [.agg #[.slice aa m ac,.slice ba k bc]] h Q:=by
 refine To hA hI aq hg.V9 hB hi (fun e' h' c' ne _=>absurd (hc.uniq c').symm ne) (fun e' h' n' c' zY ae x=>?_) (fun hs h' n' N c a hd L' c' zY ag' x t=>?_)
 ·obtain⟨_,rfl⟩:=hM.uniq zY
  exact hQ e' [] h' h' 0 0 none [] (.inr ⟨ae,rfl⟩) x (Ib.nil h')
 ·obtain⟨_,rfl⟩:=hM.uniq zY
  exact hQ 0 L' hs h' N c a hd (.inl ⟨rfl,ag'⟩) x t
