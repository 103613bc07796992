import Derived.Test.YtdpbiegfljmhmaaLsP
import Derived.Test.YtdpbiegfljmhmaaDetI
import Derived.Test.YtdpbiegfljmhmaaDetF
import Derived.Test.YtdpbiegfljmhmaaFracPure
import Derived.Test.YtdpbiegfljmhmaaLsR
import Derived.Test.YtdpbiegfljmhmaaSlPi
import Derived.Test.YtdpbiegfljmhmaaFracT
set_option linter.unusedSimpArgs false
set_option linter.unusedVariables false
namespace Go.Proofs.Ytdpbiegfljmhmaa
open Go.cY
set_option maxRecDepth 100000
theorem Rows.lt{α:Type}{enc:α->List Value}{es:Nat}{h:af}{a:Option Addr}{n:Nat}{l:List α}(p:Rows enc es h a n l):∀ad,a=some ad->ad.block<h.next:=fun ad bQ=>by
 subst bQ;exact p.cells.2.1
theorem Rows.bj{α:Type}{enc:α->List Value}{es:Nat}{h h':af}{a:Option Addr}{n:Nat}{l:List α}(p:Rows enc es h a n l)(hn:h.next<=h'.next)(hk:∀ad,a=some ad->h'.m.get ad.block=h.m.get ad.block):Rows enc es h' a n l:=by
 refine⟨?_,p.each,p.pos⟩;cases a with
 |none=>exact p.cells
 |some ad=>
  obtain⟨h1,h2,h3⟩:=p.cells;refine⟨h1,Nat.lt_of_lt_of_le h2 hn,?_⟩;unfold af.aM af.cells? at h3 ⊢;rw[hk ad rfl];exact h3
def SI(k:Hd):Prop:=0<k.n->k.c=k.n\/k.c=az 1 k.n
structure Lg(h0 h:af)(a:Option Addr)(N:Nat)(hd:List Hd)(g:List (List Int)):Prop where
 ext:Ext h0 h
 gr:mP nC 1 h a N hd g
 cap:∀y:Int,0<=y->y<N->SI (gt hd y)
 fr:iJ h0.next a
 rfr:∀y:Int,0<=y->y<N->iJ h0.next (gt hd y).a
theorem Lg.more{h0 h h':af}{a:Option Addr}{N:Nat}{hd:List Hd}{g:List (List Int)}(t:Lg h0 h a N hd g)(e:Ext h h'):Lg h0 h' a N hd g:=⟨t.ext.trans e,t.gr.ext e,t.cap,t.fr,t.rfr⟩
theorem Lg.back{h0 h1 h:af}{a:Option Addr}{N:Nat}{hd:List Hd}{g:List (List Int)}(t:Lg h1 h a N hd g)(e:Ext h0 h1):Lg h0 h a N hd g:=
 ⟨e.trans t.ext,t.gr,t.cap,fun ad bQ=>Nat.le_trans e.next (t.fr ad bQ),fun y y0 y1 ad bQ=>Nat.le_trans e.next (t.rfr y y0 y1 ad bQ)⟩
structure C4(h0 h:af)(a:Option Addr)(N c:Nat)(hd:List Hd)(g:List (List Int)):Prop where
 s:Lg h0 h a N hd g
 kA:lE h 1 a N c (hd.flatMap Hd.cells)
 JR:∀ad,a=some ad->∀y:Int,0<=y->y<N->∀bd,(gt hd y).a=some bd->bd.block<ad.block
theorem C4.sep{h0 h:af}{a:Option Addr}{N c:Nat}{hd:List Hd}{g:List (List Int)}(t:C4 h0 h a N c hd g):∀ad,a=some ad->∀y:Int,0<=y->y<N->∀bd,(gt hd y).a=some bd->bd.block≠ad.block:=fun ad bQ y y0 y1 bd mC=>Nat.ne_of_lt (t.JR ad bQ y y0 y1 bd mC)
theorem C4.more{h0 h h':af}{a:Option Addr}{N c:Nat}{hd:List Hd}{g:List (List Int)}(t:C4 h0 h a N c hd g)(e:Ext h h'):C4 h0 h' a N c hd g:=⟨t.s.more e,t.kA.ext e,t.JR⟩
theorem C4.nil(h:af):C4 h h none 0 0 [] []:=
 ⟨⟨.refl h,⟨Rows.nil h fM om,rfl,fun y y0 y1=>om⟩,fun y y0 y1=>om,.none _,fun y y0 y1=>om⟩,.nil _ _,fun ad bQ=>by cases bQ⟩
theorem xF{α:Type}[Inhabited α](l:List α)(x:α){i:Int}(i0:0<=i)(hi:i<=l.length):gt (l++[x]) i=if i<l.length then gt l i else x:=by
 unfold gt;rw[List.getD_eq_getElem?_getD,List.getD_eq_getElem?_getD];by_cases c:i<l.length
 ·rw[if_pos c,List.getElem?_append_left om]
 ·rw[if_neg c,show i.toNat=l.length by omega,List.getElem?_concat_length];rfl
theorem C4.add{h0 h h':af}{a:Option Addr}{N c b':Nat}{hd:List Hd}{g:List (List Int)}(t:C4 h0 h a N c hd g){k:Hd}{r:List Int}(row:Rows nC 1 h k.a k.n r)(ck:SI k)(fk:iJ h0.next k.a)(sk:∀ad,a=some ad->∀bd,k.a=some bd->bd.block≠ad.block)
  (a':lE h' 1 (some ⟨b',0,none⟩) (N+1) (az 1 (N+1)) ((hd++[k]).flatMap Hd.cells)) (xe:Ext h0 h') (n':h.next<h'.next) (Uj:h.next<b') (k':∀i,i<h.next->(∀ad,a=some ad->ad.block≠i)->h'.m.get i=h.m.get i) :
  C4 h0 h' (some ⟨b',0,none⟩) (N+1) (az 1 (N+1)) (hd++[k]) (g++[r]):=by
 have hl:hd.length=N:=t.s.gr.hd.len;have gl:=t.s.gr.len;have xQ:=t.s.ext.next;have eh:∀y:Int,0<=y->y<((N+1:Nat):Int)->gt (hd++[k]) y=if y<N then gt hd y else k:=fun y y0 y1=>by
  rw[xF hd k y0 om,hl]
 have eg:∀y:Int,0<=y->y<((N+1:Nat):Int)->gt (g++[r]) y=if y<N then gt g y else r:=fun y y0 y1=>by
  rw[xF g r y0 om,gl]
 refine⟨⟨xe,⟨⟨a'.cells,fM,om⟩,by simp[gl],fun y y0 y1=>?_⟩,fun y y0 y1=>?_,fun ad bQ=>by cases bQ;show h0.next<=b';omega,fun y y0 y1=>?_⟩,a',fun ad bQ y y0 y1 bd mC=>?_⟩
 ·rw[eh y y0 y1,eg y y0 y1]
  by_cases c:y<N
  ·rw[if_pos c,if_pos c]
   have q:=t.s.gr.row y y0 c;exact q.bj (Nat.le_of_lt n') (fun bd mC=>k' _ (q.lt bd mC) (fun ad bQ=>(t.sep ad bQ y y0 c bd mC).symm))
  ·rw[if_neg c,if_neg c]
   exact row.bj (Nat.le_of_lt n') (fun bd mC=>k' _ (row.lt bd mC) (fun ad bQ=>(sk ad bQ bd mC).symm))
 ·rw[eh y y0 y1]
  by_cases c:y<N
  ·rw[if_pos c];exact t.s.cap y y0 c
  ·rw[if_neg c];exact ck
 ·rw[eh y y0 y1]
  by_cases c:y<N
  ·rw[if_pos c];exact t.s.rfr y y0 c
  ·rw[if_neg c];exact fk
 ·cases bQ
  rw[eh y y0 y1]at mC;show bd.block<b';by_cases c:y<N
  ·rw[if_pos c]at mC;have:=(t.s.gr.row y y0 c).lt bd mC;omega
  ·rw[if_neg c]at mC;have:=row.lt bd mC;omega
theorem Jh{α β:Type}(G:α->List β)(B:Nat)(h:∀x,(G x).length<=B):∀l:List α,(l.flatMap G).length<=l.length*B
 | []=>by simp
 |x :: l=>by
  have:=Jh G B h l;have:=h x;rw[List.flatMap_cons,List.length_append,List.length_cons,Nat.add_mul];omega
theorem nR.uniq{g:List (List Int)}{m n m' n':Nat}(a:nR g m n)(b:nR g m' n'):m=m'/\n=n':=by
 have h1:=a.len;have h2:=b.len;have h3:=a.row 0 om (by have:=a.m1;omega);have h4:=b.row 0 om (by have:=b.m1;omega);omega
structure F2(h:af)(g:List (List Int))(B:List Fc)(m n s:Nat)(A:Nat->Ext.aS)(W many size:Int)(pa qa:Option Addr)(bs:Nat->Nat):Prop where
 hM:nR g m n
 st:bM g m n n s A
 w:sC B m W
 ht:∀i:Int,0<=i->i<m->cI (gt B i)/\(gt B i).d<=60
 hd:Rows Hd.cells 1 h pa n (kR bs (n+m) n)
 rows:∃hz,dW hz h m (n+m) bs A
 nT:Rows nC 1 h qa m (AL B W m)
 em:many=Ext.Mk A n
 m64:many<=64
 es:size=W*many
section
variable{h:af}{g:List (List Int)}{B:List Fc}{m n s:Nat}{A:Nat->Ext.aS}{W many size:Int}{pa qa:Option Addr}{bs:Nat->Nat}
theorem F2.more{h':af}(t:F2 h g B m n s A W many size pa qa bs)(e:Ext h h'):F2 h' g B m n s A W many size pa qa bs:=
 ⟨t.hM,t.st,t.w,t.ht,t.hd.ext e,by obtain⟨hz,r⟩:=t.rows;exact⟨hz,r.more e⟩,t.nT.ext e,t.em,t.m64,t.es⟩
theorem F2.KF(t:F2 h g B m n s A W many size pa qa bs):Ext.AE A (gG A B W m n) size n:=by
 have:=t.st.KF (B:=B) t.w.pos;rw[<-t.em,<-t.es]at this;exact this
theorem F2.OH(t:F2 h g B m n s A W many size pa qa bs):0<W/\W<=12960000/\1<=many/\many<=64/\0<size/\size<=829440000:=by
 have h1:=t.w.pos;have h2:=t.w.gi t.hM.m4;have h3:=qW (A:=A) n (fun i hi=>t.st.diag hi);rw[<-t.em]at h3;have h4:=t.m64;have h5:W*many<=12960000*64:=Int.mul_le_mul h2 h4 om om;have h6:=Int.mul_pos h1 h3;have:=t.es;omega
theorem F2.lead(t:F2 h g B m n s A W many size pa qa bs){k:Nat}(hk:k<n):1<=A k k/\A k k<=64:=by
 have h1:=t.st.diag hk;have h2:=(t.KF).mk_le (k:=k+1) om;rw[<-t.em]at h2;have h3:A k k∣many:=Int.dvd_trans ⟨Ext.Mk A k,by show Ext.Mk A k*A k k=_;rw[Int.mul_comm]⟩ h2;have:=Int.le_of_dvd (by have:=t.OH;omega) h3;have:=t.m64;omega
end
theorem zR{α:Type}[Inhabited α](l:List α){i:Nat}{I:Int}(eI:I=i)(h:i<l.length):l.take (i+1)=l.take i++[gt l I]:=by
 rw[List.take_succ_eq_append_getElem h]
 congr 2
 unfold gt;rw[eI,show((i:Int)).toNat=i from rfl,List.getD_eq_getElem?_getD,List.getElem?_eq_getElem h];rfl
theorem ze.over{L:List LE}{A B a b:Int}(h:ze gN L A B a b)(o:uE L A B):uE L a b:=by
 have r0:=h.r0;have r2:=h.r2;by_cases e:a=A
 ·subst e
  rcases o with o|o
  ·exact .inl o
  ·exact .inr (fun k k0 k1=>o k k0 om)
 ·exact .inr (fun k k0 k1=>h.c1 (a-1) k om om k0 om)
def oY(h:af)(b:Nat):af:=⟨b,Nat.min h.low b,h.m⟩
theorem HG{h:af}{b:Nat}(hb:b<=h.next)(hl:h.low<=h.next):Ext (oY h b) h:=
 ⟨hb,fun _=>hl,by
  show Nat.min (Nat.min h.low b) b<=h.low;exact Nat.le_trans (Nat.min_le_left _ _) (Nat.min_le_left _ _),fun i hi=>rfl⟩
theorem KU{h0 h:af}{b:Nat}(e:Ext h0 h)(hb:h0.next<=b):Ext h0 (oY h b):=
 ⟨hb,fun _=>Nat.min_le_right _ _,Nat.le_min.2 ⟨e.vf,Nat.le_trans (Nat.min_le_right _ _) hb⟩,fun i hi=>e.get i hi⟩
theorem Rows.below{α:Type}{enc:α->List Value}{es:Nat}{h:af}{a:Option Addr}{n b:Nat}{l:List α}(p:Rows enc es h a n l)(hb:∀ad,a=some ad->ad.block<b):Rows enc es (oY h b) a n l:=by
 refine⟨?_,p.each,p.pos⟩;cases a with
 |none=>exact p.cells
 |some ad=>
  obtain⟨h1,h2,h3⟩:=p.cells;exact⟨h1,hb ad rfl,h3⟩
def C5(hd:List Hd)(g:List (List Int)):List LE:=List.zipWith LE.mk hd g
theorem Ft{hd:List Hd}{g:List (List Int)}(e:hd.length=g.length):(C5 hd g).length=g.length:=by unfold C5;rw[List.length_zipWith];omega
theorem zS:∀{hd:List Hd} {g:List (List Int)},hd.length=g.length->(C5 hd g).flatMap LE.cells=hd.flatMap Hd.cells
 | [],[],_=>rfl
 | [],_ :: _,h=>by simp at h
 |_ :: _,[],h=>by simp at h
 |a :: hd,r :: g,h=>by
  show LE.cells ⟨a,r⟩++(C5 hd g).flatMap LE.cells=Hd.cells a++hd.flatMap Hd.cells;rw[zS (by simpa using h)];rfl
theorem zT:∀{hd:List Hd} {g:List (List Int)},hd.length=g.length->(C5 hd g).map (·.row)=g
 | [],[],_=>rfl
 | [],_ :: _,h=>by simp at h
 |_ :: _,[],h=>by simp at h
 |a :: hd,r :: g,h=>by
  show r :: (C5 hd g).map (·.row)=r :: g;rw[zT (by simpa using h)]
theorem Rh{hd:List Hd}{g:List (List Int)}(e:hd.length=g.length){i:Int}(i0:0<=i)(i1:i<g.length):gt (C5 hd g) i=⟨gt hd i,gt g i⟩:=by
 unfold C5 gt;rw[List.getD_eq_getElem?_getD,List.getElem?_zipWith,List.getElem?_eq_getElem om,List.getElem?_eq_getElem om,List.getD_eq_getElem?_getD,List.getD_eq_getElem?_getD,List.getElem?_eq_getElem om,List.getElem?_eq_getElem om];rfl
theorem C4.dat{h0 h:af}{b N c:Nat}{hd:List Hd}{g:List (List Int)}(t:C4 h0 h (some ⟨b,0,none⟩) N c hd g)(hl:h.low<=h.next)(gi:N<=100000)(fr:∀y:Int,0<=y->y<N->(gt hd y).n<=100000):bB (oY h b) h b N (C5 hd g):=by
 have l1:=t.s.gr.hd.len;have l2:=t.s.gr.len;have hb:=t.kA.lt _ rfl;rcases t.kA with ⟨q,_⟩|⟨b',e,_,_,_,ho⟩
 ·cases q
 cases e;refine⟨HG (Nat.le_of_lt hb) hl,?_,Nat.le_refl _,hb,by rw[Ft om];exact l2,Nat.min_le_right _ _,fun i i0 i1=>?_,gi⟩
 ·rw[zS om];exact ho
 ·rw[Rh om i0 om]
  exact⟨(t.s.gr.row i i0 i1).below (fun ad bQ=>t.JR _ rfl i i0 i1 ad bQ),fr i i0 i1⟩
theorem bB.aa3{h0 h:af}{b n:Nat}{L:List LE}(t:bB h0 h b n L):mP nC 1 h (some ⟨b,0,none⟩) n (L.map (·.hd)) (L.map (·.row)):=by
 have ln:=t.len;refine⟨?_,by rw[List.length_map];exact ln,fun y y0 y1=>?_⟩
 ·have r:Rows LE.cells 1 h (some ⟨b,0,none⟩) L.length L:=bW.rows t.own HH om t.lt
  rw[ln]at r;refine⟨?_,fM,om⟩;rw[List.flatMap_map];exact r.cells
 ·have hy:y.toNat<L.length:=om
  have e1:gt (L.map (·.hd)) y=(gt L y).hd:=by unfold gt;rw[List.getD_eq_getElem?_getD,List.getElem?_map,List.getElem?_eq_getElem hy,List.getD_eq_getElem?_getD,List.getElem?_eq_getElem hy];rfl
  have e2:gt (L.map (·.row)) y=(gt L y).row:=by unfold gt;rw[List.getD_eq_getElem?_getD,List.getElem?_map,List.getElem?_eq_getElem hy,List.getD_eq_getElem?_getD,List.getElem?_eq_getElem hy];rfl
  rw[e1,e2];exact(t.ok y y0 y1).1.ext t.ext
theorem zU{L L':List LE}{n:Nat}(hn:L.length=n)(p:aJ 0 n L L')(s:aI gN L' 0 n)(nd:(L.map (·.row)).Nodup):(L'.map (·.row)).Perm (L.map (·.row))/\(L'.map (·.row)).Pairwise LL.lt:=by
 have hp:(L'.map (·.row)).Perm (L.map (·.row)):=by
  rw[List.perm_iff_count];intro x;have h:=p.s7 (fun e=>e.row == x);unfold List.count;rw[List.countP_map,List.countP_map];exact h
 refine⟨hp,?_⟩;have nd':(L'.map (·.row)).Nodup:=hp.nodup_iff.2 nd;have hl:L'.length=n:=by rw[p.len];exact hn
 rw[List.pairwise_iff_getElem];intro i j hi hj YK;rw[List.length_map]at hi hj;have h1:=s i j om om om;have g1:gt L' (i:Int)=L'[i]:=by unfold gt;rw[List.getD_eq_getElem?_getD,show((i:Int)).toNat=i from rfl,List.getElem?_eq_getElem hi];rfl
 have g2:gt L' (j:Int)=L'[j]:=by unfold gt;rw[List.getD_eq_getElem?_getD,show((j:Int)).toNat=j from rfl,List.getElem?_eq_getElem hj];rfl
 rw[g1,g2]at h1;rw[List.getElem_map,List.getElem_map];have h2:LL.le (L'[i]).row (L'[j]).row:=h1;refine Classical.byContradiction fun q=>?_
 have e:(L'[i]).row=(L'[j]).row:=LL.le_antisymm h2 (LL.not_lt.1 q);have h3:=(List.pairwise_iff_getElem.1 nd') i j (by rw[List.length_map];exact hi) (by rw[List.length_map];exact hj) YK;rw[List.getElem_map,List.getElem_map]at h3;exact h3 e
theorem F2.run{h:af}{g:List (List Int)}{B:List Fc}{m n s:Nat}{A:Nat->Ext.aS}{W many size:Int}{pa qa:Option Addr}{bs:Nat->Nat}(t:F2 h g B m n s A W many size pa qa bs){d:Nat}(hd:d<=n):(Ext.nN A (gG A B W m n) size n d).length<=64:=by
 obtain⟨_,_,_,h4⟩:=Ext.vl t.KF d hd;rw[<-t.em]at h4;have h5:=qW (A:=A) (n-d) (fun i hi=>t.st.diag om);have h6:=t.m64;refine Classical.byContradiction fun q=>?_
 have:=Int.mul_le_mul (show(65:Int)<=((Ext.nN A (gG A B W m n) size n d).length:Int) by omega) (show(1:Int)<=Ext.Mk A (n-d) by omega) om om;omega
theorem wh:∀n,bF [.int .i64 0] n=(List.replicate n (0:Int)).flatMap nC
 |0=>rfl
 |n+1=>by rw[List.replicate_succ,List.flatMap_cons,<-wh n];rfl
theorem Lg.one(h:af)(n:Nat)(hn:1<=n):Lg h ((h.push 1 (bF [.int .i64 0] n)).push 1 [.slice (some ⟨h.next,0,none⟩) n n]) (some ⟨(h.push 1 (bF [.int .i64 0] n)).next,0,none⟩) 1 [⟨some ⟨h.next,0,none⟩,n,n⟩] [List.replicate n 0]:=by
 have x1:Ext h (h.push 1 (bF [.int .i64 0] n)):=Ext.push ..;have x2:Ext (h.push 1 (bF [.int .i64 0] n)) ((h.push 1 (bF [.int .i64 0] n)).push 1 [.slice (some ⟨h.next,0,none⟩) n n]):=Ext.push ..;have n1:(h.push 1 (bF [.int .i64 0] n)).next=h.next+1:=rfl;have o1:bW ((h.push 1 (bF [.int .i64 0] n))) h.next 1 (bF [.int .i64 0] n):=bW.push ..;have o2:bW ((h.push 1 (bF [.int .i64 0] n)).push 1 [.slice (some ⟨h.next,0,none⟩) n n]) (h.push 1 (bF [.int .i64 0] n)).next 1 [.slice (some ⟨h.next,0,none⟩) n n]:=bW.push ..;have Zp:=o1.ext x2 om;have n2:((h.push 1 (bF [.int .i64 0] n)).push 1 [.slice (some ⟨h.next,0,none⟩) n n]).next=h.next+2:=rfl;have hz:∀y:Int,0<=y->y<(1:Nat)->gt [(⟨some ⟨h.next,0,none⟩,n,n⟩:Hd)] y=⟨some ⟨h.next,0,none⟩,n,n⟩:=fun y y0 y1=>by
  obtain rfl:y=0:=om
  rfl
 refine⟨x1.trans x2,⟨?_,rfl,fun y y0 y1=>?_⟩,fun y y0 y1=>?_,fun ad bQ=>?_,fun y y0 y1 ad bQ=>?_⟩
 ·have:=bW.rows (enc:=Hd.cells) (es:=1) (l:=[(⟨some ⟨h.next,0,none⟩,n,n⟩:Hd)]) o2 fM om om
  exact this
 ·rw[hz y y0 y1]
  obtain rfl:y=0:=om
  rw[show bW ((h.push 1 (bF [.int .i64 0] n)).push 1 [.slice (some ⟨h.next,0,none⟩) n n]) h.next 1 (bF [.int .i64 0] n)=bW ((h.push 1 (bF [.int .i64 0] n)).push 1 [.slice (some ⟨h.next,0,none⟩) n n]) h.next 1 ((List.replicate n (0:Int)).flatMap nC) by rw[<-wh]]at Zp;have:=bW.rows (enc:=nC) (es:=1) (l:=List.replicate n (0:Int)) Zp dQ om om;rw[List.length_replicate]at this;exact this
 ·rw[hz y y0 y1];exact fun _=>.inl rfl
 ·cases bQ;show h.next<=h.next+1;omega
 ·rw[hz y y0 y1]at bQ;cases bQ;exact Nat.le_refl _
theorem Fu(a:Int)(x:List Int):gt (a :: x) ((0:Nat):Int)=a:=rfl
theorem uF(a:Int)(x:List Int)(k:Nat):gt (a :: x) ((k+1:Nat):Int)=gt x (k:Int):=rfl
theorem Fv:∀{n:Nat} {x y:List Int},x.length=n->y.length=n->LL.lt x y->∃k:Nat,k<n/\(∀j:Nat,j<k->gt x (j:Int)=gt y (j:Int))/\gt x (k:Int)<gt y (k:Int)
 |0,[],[],_,_,h=>by have:gn [] []<0:=h;simp[gn]at this
 |0,_ :: _,_,h,_,_=>by simp at h
 |0,[],_ :: _,_,h,_=>by simp at h
 |n+1,[],_,h,_,_=>by simp at h
 |n+1,_ :: _,[],_,h,_=>by simp at h
 |n+1,a :: x,b :: y,hx,hy,h=>by
  have h':gn (a :: x) (b :: y)<0:=h;unfold gn at h';by_cases c:a<b
  ·exact⟨0,om,fun j hj=>om,c⟩
  ·by_cases d:b<a
   ·rw[if_neg c,if_pos d]at h';omega
   ·rw[if_neg c,if_neg d]at h'
    obtain⟨k,k0,k1,k2⟩:=Fv (n:=n) (by simpa using hx) (by simpa using hy) h';refine⟨k+1,om,fun j hj=>?_,?_⟩
    ·cases j with
     |zero=>rw[Fu,Fu];omega
     |succ j=>rw[uF,uF];exact k1 j om
    ·rw[uF,uF];exact k2
theorem Yo{a b D:Int}(hD:0<D)(h:a<b):rq a D<rq b D:=by
 unfold rq;have h1:(0:Rat)<(D:Rat):=by exact_mod_cast hD
 have h2:(a:Rat)<(b:Rat):=by exact_mod_cast h
 rw[Rat.div_def,Rat.div_def];exact Rat.mul_lt_mul_of_pos_right h2 (Rat.inv_pos.2 h1)
theorem bM.Yq{g:List (List Int)}{m n s:Nat}{A:Nat->Ext.aS}(hM:nR g m n)(a:bM g m n n s A):((Ext.Dv g m n n:Nat):Int)=Ext.Mk A n:=by
 have n4:=hM.n4;have e:∀d:Nat,d∣Ext.Dv g m n n↔d∣(Ext.nS (fun i=>A i (Ext.aj (n+m) (A i))) n).natAbs:=fun d=>
  ((Ext.nh n4 d).trans (a.minors (d:Int))).trans (a.ech.full n4 d)
 have e2:Ext.Dv g m n n=(Ext.nS (fun i=>A i (Ext.aj (n+m) (A i))) n).natAbs:=Nat.dvd_antisymm ((e _).1 (Nat.dvd_refl _)) ((e _).2 (Nat.dvd_refl _));have e3:∀k,k<=n->Ext.nS (fun i=>A i (Ext.aj (n+m) (A i))) k=Ext.Mk A k:=by
  intro k
  induction k with
  |zero=>intro _;rfl
  |succ k ih=>
   intro hk;show Ext.nS _ k*A k (Ext.aj (n+m) (A k))=Ext.Mk A k*A k k;rw[ih om,a.xu om]
 rw[e2,e3 n (Nat.le_refl n)];have:=qW (A:=A) n (fun i hi=>a.diag hi);omega
def F4(size:Int)(x:List Int):List Fc:=x.map (fun y=>fr y size)
theorem zV{size:Int}{x:List Int}{n j:Nat}(hx:x.length=n)(h:j<n):gt (F4 size x) (j:Int)=fr (gt x (j:Int)) size:=xz _ x om
theorem Ri{size:Int}(s0:0<size)(s1:size<=1000000000000000000){n:Nat}{x y:List Int}(hx:x.length=n)(hy:y.length=n)(rx:∀j:Nat,j<n->0<=gt x (j:Int)/\gt x (j:Int)<size)(ry:∀j:Nat,j<n->0<=gt y (j:Int)/\gt y (j:Int)<size)(h:LL.lt x y):vt n (F4 size x) (F4 size y):=by
 obtain⟨k,k0,k1,k2⟩:=Fv hx hy h;refine⟨k,k0,fun j hj=>?_,?_⟩
 ·rw[zV hx om,zV hy om,k1 j hj]
 ·have:=rx k k0
  have:=ry k k0;rw[zV hx k0,zV hy k0,Oh om om om,Oh om om om];exact Yo s0 k2
structure Sml(X:List Fc)(n:Nat)(D:Int)(z:Nat->Int):Prop where
 pos:0<D
 dI:D<=1000000000
 fT:∀j:Nat,j<n->0<=z j/\z j<D/\jC (gt X (j:Int)).n (gt X (j:Int)).d (rq (z j) D)
structure vx(g:List (List Int))(B:List Fc)(m n:Nat)(L:List (List Fc)):Prop where
 rel:ml g B m n
 inv:nu g m n n
 gi:Ext.Dv g m n n<=64
 all:Q1 g B m n L
 len:L.length=Ext.Dv g m n n
 siz:∃D:Int,∀X,X∈L->∃y,Sml X n D y
def wH(g:List (List Int))(B:List Fc)(m n:Nat)(e:Int):Prop:=(¬ml g B m n/\e=6)\/(ml g B m n/\∃r,nu g m n r/\((r<n/\e=24)\/(r=n/\64<Ext.Dv g m n n/\e=4)))
theorem vx.of{g:List (List Int)}{B:List Fc}{m n s:Nat}{A:Nat->Ext.aS}{W:Int}(hM:nR g m n)(a:bM g m n n s A)(hR:ml g B m n)(ir:nu g m n n)(gi:Ext.Dv g m n n<=64)(w:sC B m W)(ht:∀i:Int,0<=i->i<m->cI (gt B i)/\(gt B i).d<=60)(hs9:W*Ext.Mk A n<=1000000000){l:List (List Int)}(p:l.Perm (Ext.nN A (gG A B W m n) (W*Ext.Mk A n) n n))(o:l.Pairwise LL.lt):vx g B m n (l.map (F4 (W*Ext.Mk A n))):=by
 have mp:=qW (A:=A) n (fun i hi=>a.diag hi);have sp:0<W*Ext.Mk A n:=Int.mul_pos w.pos mp;have hs:W*Ext.Mk A n<=1000000000000000000:=om
 have KF:=a.KF (B:=B) w.pos;obtain⟨r1,_,_,r4⟩:=Ext.vl KF n (Nat.le_refl n);rw[Nat.sub_self]at r1 r4;have mem:∀x,x∈l↔Of g (nT B W) m n (Ext.Mk A n) (W*Ext.Mk A n) x:=fun x=>(p.mem_iff.trans (r1 x)).trans (a.aaX w hR x)
 refine⟨hR,ir,gi,⟨fun X=>?_,?_⟩,?_,⟨W*Ext.Mk A n,fun X hX=>?_⟩⟩
 ·rw[List.mem_map]
  constructor
  ·rintro⟨x,hx,rfl⟩
   exact((mem x).1 hx).aaY w ht mp hs
  ·intro sx
   obtain⟨x,h1,h2⟩:=a.back w ht sx;exact⟨x,(mem x).2 h1,h2.symm⟩
 ·rw[List.pairwise_map]
  refine o.imp_of_mem ?_;intro x y hx hy h;have sx:=(mem x).1 hx;have sy:=(mem y).1 hy;exact Ri sp hs sx.len sy.len sx.yO sy.yO h
 ·rw[List.length_map,p.length_eq]
  have h1:=a.Yq hM;have h2:Ext.Mk A 0=1:=rfl;rw[h2,Int.mul_one]at r4;omega
 ·obtain⟨x,hx,rfl⟩:=List.mem_map.1 hX
  have sx:=(mem x).1 hx;refine⟨fun j=>gt x (j:Int),sp,hs9,fun j hj=>?_⟩;obtain⟨q0,q1⟩:=sx.yO j hj;rw[zV sx.len hj];exact⟨q0,q1,Og om om om⟩
theorem vx.uniq{g:List (List Int)}{B:List Fc}{m n:Nat}{L M:List (List Fc)}(a:vx g B m n L)(b:vx g B m n M):L=M:=a.all.uniq b.all
theorem wH.not{g:List (List Int)}{B:List Fc}{m n:Nat}{L:List (List Fc)}{e:Int}(a:vx g B m n L)(b:wH g B m n e):False:=by
 rcases b with ⟨q,_⟩|⟨_,r,ir,q⟩
 ·exact q a.rel
 ·have e1:=ir.uniq a.inv
  have:=a.gi;rcases q with q|q<;>omega
theorem wH.uniq{g:List (List Int)}{B:List Fc}{m n:Nat}{e f:Int}(a:wH g B m n e)(b:wH g B m n f):e=f:=by
 rcases a with ⟨q,rfl⟩|⟨q,r,ir,a⟩<;>rcases b with ⟨q',rfl⟩|⟨q',s,is,b⟩
 ·rfl
 ·exact absurd q' q
 ·exact absurd q q'
 ·have e1:=ir.uniq is
  rcases a with a|a<;>rcases b with b|b<;>omega
theorem ZJ:fx Try.prog 23 45 2:=⟨by kernel_rfl,by kernel_rfl,⟨16,by kernel_rfl,om⟩,⟨.agg #[.int .i64 0,.int .i64 0],by kernel_rfl,rfl⟩⟩
theorem TLF:fx Try.prog 51 23 1:=⟨by kernel_rfl,by kernel_rfl,⟨24,by kernel_rfl,om⟩,⟨.slice none 0 0,by kernel_rfl,rfl⟩⟩
structure Fw(h0 h:af)(a:Option Addr)(N c:Nat)(hd:List Hd)(g:List (List Fc)):Prop where
 ext:Ext h0 h
 gr:mP fC 2 h a N hd g
 fr:iJ h0.next a
 kA:lE h 1 a N c (hd.flatMap Hd.cells)
 JR:∀ad,a=some ad->∀y:Int,0<=y->y<N->∀bd,(gt hd y).a=some bd->bd.block<ad.block
theorem Fw.more{h0 h h':af}{a:Option Addr}{N c:Nat}{hd:List Hd}{g:List (List Fc)}(t:Fw h0 h a N c hd g)(e:Ext h h'):Fw h0 h' a N c hd g:=⟨t.ext.trans e,t.gr.ext e,t.fr,t.kA.ext e,t.JR⟩
theorem Fw.nil(h:af):Fw h h none 0 0 [] []:=
 ⟨.refl h,⟨Rows.nil h fM om,rfl,fun y y0 y1=>om⟩,.none _,.nil _ _,fun ad bQ=>by cases bQ⟩
theorem Fw.add{h0 h h':af}{a:Option Addr}{N c b':Nat}{hd:List Hd}{g:List (List Fc)}(t:Fw h0 h a N c hd g){k:Hd}{r:List Fc}(row:Rows fC 2 h k.a k.n r)(sk:∀ad,a=some ad->∀bd,k.a=some bd->bd.block≠ad.block)
  (a':lE h' 1 (some ⟨b',0,none⟩) (N+1) (az 1 (N+1)) ((hd++[k]).flatMap Hd.cells)) (xe:Ext h0 h') (n':h.next<h'.next) (Uj:h.next<b') (k':∀i,i<h.next->(∀ad,a=some ad->ad.block≠i)->h'.m.get i=h.m.get i) :
  Fw h0 h' (some ⟨b',0,none⟩) (N+1) (az 1 (N+1)) (hd++[k]) (g++[r]):=by
 have hl:hd.length=N:=t.gr.hd.len;have gl:=t.gr.len;have xQ:=t.ext.next;have eh:∀y:Int,0<=y->y<((N+1:Nat):Int)->gt (hd++[k]) y=if y<N then gt hd y else k:=fun y y0 y1=>by
  rw[xF hd k y0 om,hl]
 have eg:∀y:Int,0<=y->y<((N+1:Nat):Int)->gt (g++[r]) y=if y<N then gt g y else r:=fun y y0 y1=>by
  rw[xF g r y0 om,gl]
 refine⟨xe,⟨⟨a'.cells,fM,om⟩,by simp[gl],fun y y0 y1=>?_⟩,fun ad bQ=>by cases bQ;show h0.next<=b';omega,a',fun ad bQ y y0 y1 bd mC=>?_⟩
 ·rw[eh y y0 y1,eg y y0 y1]
  by_cases c:y<N
  ·rw[if_pos c,if_pos c]
   have q:=t.gr.row y y0 c;exact q.bj (Nat.le_of_lt n') (fun bd mC=>k' _ (q.lt bd mC) (fun ad bQ=>(Nat.ne_of_lt (t.JR ad bQ y y0 c bd mC)).symm))
  ·rw[if_neg c,if_neg c]
   exact row.bj (Nat.le_of_lt n') (fun bd mC=>k' _ (row.lt bd mC) (fun ad bQ=>(sk ad bQ bd mC).symm))
 ·cases bQ
  rw[eh y y0 y1]at mC;show bd.block<b';by_cases c:y<N
  ·rw[if_pos c]at mC;have:=(t.gr.row y y0 c).lt bd mC;omega
  ·rw[if_neg c]at mC;have:=row.lt bd mC;omega
theorem OI{size:Int}{x:List Int}{i:Nat}{I:Int}(eI:I=i)(h:i<x.length):F4 size (x.take (i+1))=F4 size (x.take i)++[fr (gt x I) size]:=by
 rw[zR x eI h];unfold F4;rw[List.map_append];rfl
theorem BE:∀n,dm (fun _=>(0:Rat)) n=0
 |0=>rfl
 |n+1=>by show dm (fun _=>(0:Rat)) n+0=0;rw[BE n];grind
theorem nW(f:Nat->Int):∀n,dm (fun k=>(f k:Rat)) n=((Ext.aV f n:Int):Rat)
 |0=>by show(0:Rat)=((0:Int):Rat);rw[Rat.intCast_zero]
 |n+1=>by show dm (fun k=>(f k:Rat)) n+(f n:Rat)=((Ext.aV f n+f n:Int):Rat);rw[nW f n,Rat.intCast_add]
theorem ml.iff{g:List (List Int)}{B:List Fc}{m n:Nat}(ht:∀i:Int,0<=i->i<m->cI (gt B i)/\(gt B i).d<=60):ml g B m n↔∀u,Fj g m n u->∃z:Int,dm (fun i=>(u i:Rat)*vq (gt B (i:Int))) m=(z:Rat):=by
 have key:∀W,sC B m W->∀u:Nat->Int,dm (fun i=>(u i:Rat)*vq (gt B (i:Int))) m=rq (Ext.aV (fun i=>u i*nT B W i) m) W:=fun W w u=>by
  have wp:=w.pos;rw[<-xw u (nT B W) (show W≠0 by omega) m];exact da m (fun i hi=>by rw[show vq (gt B (i:Int))=rq (nT B W i) W from(w.part ht hi).1.rq])
 constructor
 ·intro h u hu
  obtain⟨W,w⟩:=sC.ex ht;have wp:=w.pos;obtain⟨c,hc⟩:=Int.dvd_of_emod_eq_zero (h W w u hu);refine⟨c,?_⟩;rw[key W w u,hc,oX (l:=c) (show W≠0 by omega),Int.mul_comm]
 ·intro h W w u hu
  have wp:=w.pos;obtain⟨z,hz⟩:=h u hu;rw[key W w u,oX (l:=z) (show W≠0 by omega)]at hz;have:=(Oe (show W≠0 by omega)).1 hz;rw[this];exact Int.emod_eq_zero_of_dvd ⟨z,Int.mul_comm _ _⟩
def fu(g:List (List Int))(B:List Fc)(g':List (List Int))(B':List Fc)(m n:Nat):Prop:=
 ∃P:Nat->Nat->Int,(∀i,i<m->∀j,j<n->Ext.el g' i j=Ext.aV (fun k=>P i k*Ext.el g k j) m)/\∀i:Nat,i<m->∃z:Int,dm (fun k=>(P i k:Rat)*vq (gt B (k:Int))) m=vq (gt B' (i:Int))+(z:Rat)
theorem fu.minors{g g':List (List Int)}{B B':List Fc}{m n k:Nat}{d:Int}(t:fu g B g' B' m n)(h:Ext.me (fun i j=>Ext.el g i j) m n k d):Ext.me (fun i j=>Ext.el g' i j) m n k d:=by
 obtain⟨P,p1,_⟩:=t;exact h.rows (fun i hi=>⟨P i,fun j hj=>p1 i hi j hj⟩)
theorem fu.dv{g g':List (List Int)}{B B':List Fc}{m n k:Nat}(hk:k<=4)(t:fu g B g' B' m n)(t':fu g' B' g B m n):Ext.Dv g' m n k=Ext.Dv g m n k:=
 Nat.dvd_antisymm ((Ext.nh hk _).2 (t'.minors ((Ext.nh hk _).1 (Nat.dvd_refl _)))) ((Ext.nh hk _).2 (t.minors ((Ext.nh hk _).1 (Nat.dvd_refl _))))
theorem fu.rel{g g':List (List Int)}{B B':List Fc}{m n:Nat}(t:fu g B g' B' m n)(ht:∀i:Int,0<=i->i<m->cI (gt B i)/\(gt B i).d<=60)(Gz:∀i:Int,0<=i->i<m->cI (gt B' i)/\(gt B' i).d<=60)(h:ml g B m n):ml g' B' m n:=by
 rw[ml.iff ht]at h;rw[ml.iff Gz];obtain⟨P,p1,p2⟩:=t;intro u hu;have hv:Fj g m n (fun k=>Ext.aV (fun i=>u i*P i k) m):=fun j hj=>by
  have e:=hu j hj;rw[Ext.aN m (g:=fun i=>Ext.aV (fun k=>u i*P i k*Ext.el g k j) m) (fun i hi=>by
   rw[p1 i hi j hj,<-Ext.jv];exact Ext.aN m (fun k _=>by rw[Int.mul_assoc])),lI]at e
  rw[<-e];exact Ext.aN m (fun k _=>by rw[<-iv])
 obtain⟨z,hz⟩:=h _ hv;have:∃y:Nat->Int,∀i:Nat,i<m->dm (fun k=>(P i k:Rat)*vq (gt B (k:Int))) m=vq (gt B' (i:Int))+(y i:Rat):=
  ⟨fun i=>if q:i<m then(p2 i q).choose else 0,fun i hi=>by
   show _=_+(((if q:i<m then(p2 i q).choose else 0:Int)):Rat);rw[dif_pos hi];exact(p2 i hi).choose_spec⟩
 obtain⟨y,hy⟩:=this;have e1:dm (fun k=>((Ext.aV (fun i=>u i*P i k) m:Int):Rat)*vq (gt B (k:Int))) m=dm (fun i=>(u i:Rat)*vq (gt B' (i:Int))) m+((Ext.aV (fun i=>u i*y i) m:Int):Rat):=by
  rw[<-nW,<-uB,da m (g:=fun k=>dm (fun i=>(u i:Rat)*((P i k:Rat)*vq (gt B (k:Int)))) m) (fun k _=>by
   rw[<-nW,Rat.mul_comm,<-nU];exact da m (fun i _=>by rw[Rat.intCast_mul];grind)),<-rP]
  refine da m (fun i hi=>?_);rw[nU,hy i hi,Rat.intCast_mul];grind
 refine⟨z-Ext.aV (fun i=>u i*y i) m,?_⟩;rw[hz]at e1;rw[Rat.intCast_sub];grind
theorem fu.sol{g g':List (List Int)}{B B':List Fc}{m n:Nat}{X:List Fc}(t:fu g B g' B' m n)(h:Hw g B m n X):Hw g' B' m n X:=by
 obtain⟨P,p1,p2⟩:=t;refine⟨h.len,h.turn,fun i hi=>?_⟩;have:∃y:Nat->Int,∀k:Nat,k<m->dm (fun j=>(Ext.el g k j:Rat)*vq (gt X (j:Int))) n=vq (gt B (k:Int))+(y k:Rat):=
  ⟨fun k=>if q:k<m then(h.eqs k q).choose else 0,fun k hk=>by
   show _=_+(((if q:k<m then(h.eqs k q).choose else 0:Int)):Rat);rw[dif_pos hk];exact(h.eqs k hk).choose_spec⟩
 obtain⟨y,hy⟩:=this;obtain⟨z,hz⟩:=p2 i hi;refine⟨z+Ext.aV (fun k=>P i k*y k) m,?_⟩;have e1:dm (fun j=>(Ext.el g' i j:Rat)*vq (gt X (j:Int))) n=dm (fun k=>(P i k:Rat)*vq (gt B (k:Int))) m+((Ext.aV (fun k=>P i k*y k) m:Int):Rat):=by
  rw[<-nW,<-uB,da n (g:=fun j=>dm (fun k=>(P i k:Rat)*((Ext.el g k j:Rat)*vq (gt X (j:Int)))) m) (fun j hj=>by
   rw[p1 i hi j hj,<-nW,Rat.mul_comm,<-nU];exact da m (fun k _=>by rw[Rat.intCast_mul];grind)),rP]
  refine da m (fun k hk=>?_);rw[nU,hy k hk,Rat.intCast_mul];grind
 rw[e1,hz,Rat.intCast_add];grind
theorem nu.OJ{g g':List (List Int)}{m n r:Nat}(n4:n<=4)(m4:m<=4)(e:∀k,k<=4->Ext.Dv g' m n k=Ext.Dv g m n k)(h:nu g m n r):nu g' m n r:=by
 have h1:=h.lm;have h2:=h.ln;refine⟨h.lm,h.ln,fun k hk=>by rw[e _ om];exact h.nz k hk,?_⟩;rcases h.fin with q|q|q
 ·exact .inl q
 ·exact .inr (.inl q)
 ·by_cases c:r=4
  ·exact .inl om
  ·exact .inr (.inr (by rw[e _ om];exact q))
theorem vx.to{g g':List (List Int)}{B B':List Fc}{m n:Nat}{L:List (List Fc)}(n4:n<=4)(m4:m<=4)(t:fu g B g' B' m n)(t':fu g' B' g B m n)(ht:∀i:Int,0<=i->i<m->cI (gt B i)/\(gt B i).d<=60)(Gz:∀i:Int,0<=i->i<m->cI (gt B' i)/\(gt B' i).d<=60)(h:vx g B m n L):vx g' B' m n L:=
 ⟨t.rel ht Gz h.rel,h.inv.OJ n4 m4 (fun k hk=>t.dv hk t'),by rw[t.dv n4 t'];exact h.gi,⟨fun X=>(h.all.mem X).trans ⟨t.sol,t'.sol⟩,h.all.ord⟩,by rw[t.dv n4 t'];exact h.len,h.siz⟩
theorem wH.to{g g':List (List Int)}{B B':List Fc}{m n:Nat}{e:Int}(n4:n<=4)(m4:m<=4)(t:fu g B g' B' m n)(t':fu g' B' g B m n)(ht:∀i:Int,0<=i->i<m->cI (gt B i)/\(gt B i).d<=60)(Gz:∀i:Int,0<=i->i<m->cI (gt B' i)/\(gt B' i).d<=60)(h:wH g B m n e):wH g' B' m n e:=by
 rcases h with ⟨q,rfl⟩|⟨q,r,ir,h⟩
 ·exact .inl ⟨fun k=>q (t'.rel Gz ht k),rfl⟩
 ·refine .inr ⟨t.rel ht Gz q,r,ir.OJ n4 m4 (fun k hk=>t.dv hk t'),?_⟩
  rcases h with h|⟨h1,h2,h3⟩
  ·exact .inl h
  ·exact .inr ⟨h1,by rw[t.dv n4 t'];exact h2,h3⟩
theorem nR.chk{g:List (List Int)}{B:List Fc}{m n:Nat}(h:nR g m n)(hl:B.length=m)(ht:∀i:Int,0<=i->i<m->cI (gt B i)/\(gt B i).d<=60):jK g B 0:=by
 have m1:=h.m1;have m4:=h.m4;have n1:=h.n1;have n4:=h.n4;have ln:=h.len;refine .inr (.inl ⟨fun q=>?_,⟨om,by rw[h.row 0 om om];omega,om,fun i i0 i1=>by rw[h.row i i0 om,h.row 0 om om],fun i i0 i1 j j0 j1=>?_,fun i i0 i1=>ht i i0 om⟩,rfl⟩)
 ·rcases q with q|⟨i,i0,i1,q⟩
  ·omega
  ·rw[h.row i i0 om]at q;omega
 ·have:=h.nine i j
  omega
def mD{α:Type}[Inhabited α](l:List α)(m:Nat):List α:=iK (fun i=>gt l (((m:Int))-1-i)) m
theorem jL{α:Type}[Inhabited α](l:List α){m i:Nat}(h:i<m):gt (mD l m) (i:Int)=gt l ((m:Int)-1-i):=dC _ h
theorem BF{α:Type}[Inhabited α](l:List α){m i:Nat}(h:i<m):gt (mD l m) ((m:Int)-1-i)=gt l (i:Int):=by
 have:=jL l (m:=m) (i:=m-1-i) om;rw[show((m-1-i:Nat):Int)=(m:Int)-1-i by omega]at this;rw[this]
 congr 1
 omega
theorem zW{f:Nat->Rat}{k n:Nat}(hk:k<n)(h:∀j,j<n->j≠k->f j=0):dm f n=f k:=by
 rw[xC n hk,da n (g:=fun _=>(0:Rat)) (fun j hj=>by
  show(if j=k then(0:Rat)else f j)=0;by_cases c:j=k
  ·rw[if_pos c]
  ·rw[if_neg c];exact h j hj c),BE]
 grind
theorem fu.perm{g g':List (List Int)}{B B':List Fc}{m n:Nat}(p:Nat->Nat)(hp:∀i,i<m->p i<m)(hg:∀i:Nat,i<m->gt g' (i:Int)=gt g ((p i:Nat):Int))(hB:∀i:Nat,i<m->gt B' (i:Int)=gt B ((p i:Nat):Int)):fu g B g' B' m n:=by
 obtain⟨P,hP⟩:∃P:Nat->Nat->Int,∀i k,P i k=if k=p i then 1 else 0:=⟨_,fun _ _=>rfl⟩
 refine⟨P,fun i hi j hj=>?_,fun i hi=>⟨0,?_⟩⟩
 ·rw[Ext.ic m (hp i hi) (fun k _ ne=>by rw[hP,if_neg ne,Int.zero_mul]),hP,if_pos rfl,Int.one_mul]
  unfold Ext.el;rw[hg i hi]
 ·rw[zW (hp i hi) (fun k _ ne=>by rw[hP,if_neg ne,Rat.intCast_zero,Rat.zero_mul]),hP,if_pos rfl,hB i hi,Rat.intCast_one,Rat.intCast_zero]
  grind
theorem fu.rev(g:List (List Int))(B:List Fc)(m n:Nat):fu g B (mD g m) (mD B m) m n:=
 fu.perm (fun i=>m-1-i) (fun i hi=>om) (fun i hi=>by rw[jL g hi];congr 1;omega) (fun i hi=>by rw[jL B hi];congr 1;omega)
theorem fu.Yr(g:List (List Int))(B:List Fc)(m n:Nat):fu (mD g m) (mD B m) g B m n:=
 fu.perm (fun i=>m-1-i) (fun i hi=>om) (fun i hi=>by rw[<-BF g hi];congr 1;omega) (fun i hi=>by rw[<-BF B hi];congr 1;omega)
theorem nR.rev{g:List (List Int)}{m n:Nat}(h:nR g m n):nR (mD g m) m n:=by
 refine⟨h.m1,h.m4,h.n1,h.n4,aW _ _,fun i i0 i1=>?_,fun i j=>?_⟩
 ·obtain⟨k,rfl⟩:∃k:Nat,i=k:=⟨i.toNat,om⟩
  rw[jL g om];exact h.row _ om om
 ·by_cases c:i.toNat<m
  ·have:=jL g c
   have e:gt (mD g m) i=gt (mD g m) ((i.toNat:Nat):Int):=by unfold gt;rfl
   rw[e,this];exact h.nine _ j
  ·have e:gt (mD g m) i=[]:=by
    unfold gt;rw[List.getD_eq_getElem?_getD,List.getElem?_eq_none (by unfold mD;rw[aW];omega)];rfl
   rw[e];have:gt ([]:List Int) j=0:=by unfold gt;rw[List.getD_eq_getElem?_getD];rfl
   rw[this];decide
def vy(g:List (List Int))(m n:Nat):List (List Int):=iK (fun i=>mD (gt g (i:Int)) n) m
theorem Ji(g:List (List Int)){m n i j:Nat}(hi:i<m)(hj:j<n):Ext.el (vy g m n) i j=Ext.el g i ((n-1-j:Nat):Int):=by
 unfold Ext.el vy;rw[dC _ hi,jL _ hj]
 congr 1
 omega
theorem Rj{g:List (List Int)}{m n k:Nat}(hk:k<=4):Ext.Dv (vy g m n) m n k=Ext.Dv g m n k:=by
 refine Nat.dvd_antisymm ((Ext.nh hk _).2 ?_) ((Ext.nh hk _).2 ?_)
 ·refine((Ext.nh hk _).1 (Nat.dvd_refl _)).W9 (fun j hj=>?_)
  obtain⟨y,hY⟩:∃y:Nat->Int,∀t,y t=if t=n-1-j then 1 else 0:=⟨_,fun _=>rfl⟩
  refine⟨y,fun i hi=>?_⟩;rw[Ext.ic n (show n-1-j<n by omega) (fun k _ ne=>by rw[hY,if_neg ne,Int.zero_mul]),hY,if_pos rfl,Int.one_mul];show Ext.el g i j=Ext.el (vy g m n) i ((n-1-j:Nat):Int);rw[Ji g hi om]
  congr 1
  omega
 ·refine((Ext.nh hk _).1 (Nat.dvd_refl _)).W9 (fun j hj=>?_)
  obtain⟨y,hY⟩:∃y:Nat->Int,∀t,y t=if t=n-1-j then 1 else 0:=⟨_,fun _=>rfl⟩
  refine⟨y,fun i hi=>?_⟩;rw[Ext.ic n (show n-1-j<n by omega) (fun k _ ne=>by rw[hY,if_neg ne,Int.zero_mul]),hY,if_pos rfl,Int.one_mul];exact Ji g hi hj
theorem nR.col{g:List (List Int)}{m n:Nat}(h:nR g m n):nR (vy g m n) m n:=by
 refine⟨h.m1,h.m4,h.n1,h.n4,aW _ _,fun i i0 i1=>?_,fun i j=>?_⟩
 ·obtain⟨k,rfl⟩:∃k:Nat,i=k:=⟨i.toNat,om⟩
  unfold vy;rw[dC _ om];exact aW _ _
 ·have e:gt (vy g m n) i=gt (vy g m n) ((i.toNat:Nat):Int):=by unfold gt;rfl
  rw[e];by_cases c:i.toNat<m
  ·unfold vy
   rw[dC _ c];have e2:∀l:List Int,gt l j=gt l ((j.toNat:Nat):Int):=fun l=>by unfold gt;rfl
   rw[e2];by_cases d:j.toNat<n
   ·rw[jL _ d];exact h.nine _ _
   ·have:gt (mD (gt g ((i.toNat:Nat):Int)) n) ((j.toNat:Nat):Int)=0:=by
     unfold gt;rw[List.getD_eq_getElem?_getD,List.getElem?_eq_none (by unfold mD;rw[aW];omega)];rfl
    rw[this];decide
  ·have e:gt (vy g m n) ((i.toNat:Nat):Int)=[]:=by
    unfold gt;rw[List.getD_eq_getElem?_getD,List.getElem?_eq_none (by unfold vy;rw[aW];omega)];rfl
   rw[e];have:gt ([]:List Int) j=0:=by unfold gt;rw[List.getD_eq_getElem?_getD];rfl
   rw[this];decide
theorem OL{f:Nat->Rat}{a b n:Nat}(ha:a<n)(hb:b<n)(ne:a≠b)(h:∀j,j<n->j≠a->j≠b->f j=0):dm f n=f a+f b:=by
 rw[xC n ha,zW hb (fun j hj nb=>by
  show(if j=a then(0:Rat)else f j)=0;by_cases c:j=a
  ·rw[if_pos c]
  ·rw[if_neg c];exact h j hj c nb),if_neg (fun q=>ne q.symm)]
theorem OM{f:Nat->Int}{a b n:Nat}(ha:a<n)(hb:b<n)(ne:a≠b)(h:∀j,j<n->j≠a->j≠b->f j=0):Ext.aV f n=f a+f b:=by
 have e:=Ext.qq (fun j=>if j=a then f a else 0) (fun j=>if j=a then 0 else f j) n;have e1:Ext.aV (fun j=>if j=a then f a else 0) n=f a:=by
  rw[Ext.ic (f:=fun j=>if j=a then f a else 0) n ha (fun j _ c=>if_neg c)];exact if_pos rfl
 have e2:Ext.aV (fun j=>if j=a then 0 else f j) n=f b:=by
  rw[Ext.ic (f:=fun j=>if j=a then 0 else f j) n hb (fun j hj c=>by
   show(if j=a then 0 else f j)=0;by_cases d:j=a
   ·exact if_pos d
   ·rw[if_neg d];exact h j hj d c)]
  exact if_neg (fun q=>ne q.symm)
 rw[Ext.aN n (g:=f) (fun j hj=>by
  by_cases c:j=a
  ·rw[if_pos c,if_pos c,c,Int.add_zero]
  ·rw[if_neg c,if_neg c,Int.zero_add]),e1,e2]at e
 exact e
theorem fu.sum{g g':List (List Int)}{B B':List Fc}{m n x y:Nat}(c:Int)(hx:x<m)(hy:y<m)(ne:x≠y)(hg:∀i:Nat,i<m->∀j,j<n->Ext.el g' i j=if i=x then Ext.el g x j+c*Ext.el g y j else Ext.el g i j)(hB:∀i:Nat,i<m->i≠x->gt B' (i:Int)=gt B (i:Int))(hb:∃z:Int,vq (gt B (x:Int))+(c:Rat)*vq (gt B (y:Int))=vq (gt B' (x:Int))+(z:Rat)):fu g B g' B' m n:=by
 obtain⟨P,hP⟩:∃P:Nat->Nat->Int,∀i k,P i k=if k=i then 1 else if i=x/\k=y then c else 0:=⟨_,fun _ _=>rfl⟩
 refine⟨P,fun i hi j hj=>?_,fun i hi=>?_⟩
 ·rw[hg i hi j hj]
  by_cases e:i=x
  ·subst e
   rw[if_pos rfl,OM (a:=i) (b:=y) hi hy ne (fun k _ k1 k2=>by rw[hP,if_neg k1,if_neg (fun q=>k2 q.2),Int.zero_mul]),hP,hP,if_pos rfl,if_neg (fun q=>ne q.symm),if_pos ⟨rfl,rfl⟩,Int.one_mul]
  ·rw[if_neg e,Ext.ic m hi (fun k _ k1=>by rw[hP,if_neg k1,if_neg (fun q=>e q.1),Int.zero_mul]),hP,if_pos rfl,Int.one_mul]
 ·by_cases e:i=x
  ·subst e
   obtain⟨z,hz⟩:=hb;refine⟨z,?_⟩;rw[OL (a:=i) (b:=y) hi hy ne (fun k _ k1 k2=>by rw[hP,if_neg k1,if_neg (fun q=>k2 q.2),Rat.intCast_zero,Rat.zero_mul]),hP,hP,if_pos rfl,if_neg (fun q=>ne q.symm),if_pos ⟨rfl,rfl⟩,<-hz,Rat.intCast_one];grind
  ·refine⟨0,?_⟩
   rw[zW hi (fun k _ k1=>by rw[hP,if_neg k1,if_neg (fun q=>e q.1),Rat.intCast_zero,Rat.zero_mul]),hP,if_pos rfl,hB i hi e,Rat.intCast_one,Rat.intCast_zero];grind
theorem fu.both{g g':List (List Int)}{B B':List Fc}{m n x y:Nat}(hx:x<m)(hy:y<m)(ne:x≠y)(hg:∀i:Nat,i<m->∀j,j<n->Ext.el g' i j=if i=x then Ext.el g x j+Ext.el g y j else Ext.el g i j)(hB:∀i:Nat,i<m->i≠x->gt B' (i:Int)=gt B (i:Int))(hb:∃z:Int,vq (gt B (x:Int))+vq (gt B (y:Int))=vq (gt B' (x:Int))+(z:Rat)):fu g B g' B' m n/\fu g' B' g B m n:=by
 obtain⟨z,hz⟩:=hb;constructor
 ·refine fu.sum 1 hx hy ne (fun i hi j hj=>by rw[hg i hi j hj,Int.one_mul]) hB ⟨z,?_⟩
  rw[<-hz,Rat.intCast_one];grind
 ·refine fu.sum (-1) hx hy ne (fun i hi j hj=>?_) (fun i hi e=>(hB i hi e).symm) ⟨-z,?_⟩
  ·by_cases e:i=x
   ·subst e
    have h1:=hg i hi j hj;have h2:=hg y hy j hj;rw[if_pos rfl]at h1 ⊢;rw[if_neg (fun q=>ne q.symm)]at h2;rw[h1,h2];omega
   ·rw[if_neg e,hg i hi j hj,if_neg e]
  ·rw[hB y hy (fun q=>ne q.symm),Rat.intCast_neg,Rat.intCast_neg,Rat.intCast_one]
   grind
theorem HI{g g':List (List Int)}{m n r:Nat}(h4:r<=4)(m4:m<=4)(e:∀k,k<=4->Ext.Dv g' m n k=Ext.Dv g m n k)(ir:nu g m n r):AK g' m n r=AK g m n r:=by
 unfold AK;have:=ir.lm;refine dX (fun i hi=>?_);rw[e (i+1) om,e i om]
def zX(g:List (List Int))(B:List Fc)(m n:Nat)(e:Int)(L:List (List Fc)):Prop:=(e=0/\vx g B m n L)\/(wH g B m n e/\L=[])
theorem zX.uniq{g:List (List Int)}{B:List Fc}{m n:Nat}{e e':Int}{L L':List (List Fc)}(a:zX g B m n e L)(b:zX g B m n e' L'):e=e'/\L=L':=by
 rcases a with ⟨rfl,a⟩|⟨a,rfl⟩<;>rcases b with ⟨rfl,b⟩|⟨b,rfl⟩
 ·exact⟨rfl,a.uniq b⟩
 ·exact(wH.not a b).elim
 ·exact(wH.not b a).elim
 ·exact⟨a.uniq b,rfl⟩
theorem zX.to{g g':List (List Int)}{B B':List Fc}{m n:Nat}{e:Int}{L:List (List Fc)}(n4:n<=4)(m4:m<=4)(t:fu g B g' B' m n)(t':fu g' B' g B m n)(ht:∀i:Int,0<=i->i<m->cI (gt B i)/\(gt B i).d<=60)(Gz:∀i:Int,0<=i->i<m->cI (gt B' i)/\(gt B' i).d<=60)(h:zX g B m n e L):zX g' B' m n e L:=by
 rcases h with ⟨rfl,a⟩|⟨a,rfl⟩
 ·exact .inl ⟨rfl,a.to n4 m4 t t' ht Gz⟩
 ·exact .inr ⟨a.to n4 m4 t t' ht Gz,rfl⟩
theorem zX.gi{g:List (List Int)}{B:List Fc}{m n:Nat}{e:Int}{L:List (List Fc)}(n4:n<=4)(a:zX g B m n e L):L.length<=64/\∀X,X∈L->X.length<=4:=by
 rcases a with ⟨_,a⟩|⟨_,rfl⟩
 ·refine⟨by have:=a.gi;have:=a.len;omega,fun X hX=>?_⟩
  have:=((a.all.mem X).1 hX).len;omega
 ·exact⟨Nat.zero_le _,fun X hX=>by simp at hX⟩
variable{F:bk}{call head arith cmp a0 b0 c0 d0 f0 g0 o0 ofNat t0 place u0 nz w0 rd wr push next d1 nat z1 d2 i2 j2 s2 y2 z2 part b3 c3 d3 i3 aw aG j3 n3 lt ne o3 r3 s3 yn yO v3 y3 z3 b4 e4:_}(hA:AP F ⟨call,head,arith,cmp,a0,b0,c0,d0,f0,g0,o0,ofNat,t0,place,u0,nz,w0,rd,wr,push,next,d1,nat,z1,d2,i2,j2,s2,y2,z2,part,b3,c3,d3,i3,aw,aG,j3,n3,lt,ne,o3,r3,s3,yn,yO,v3,y3,z3,b4,e4⟩)
include hA
theorem Rk{h0:af}(fF:h0.low<=h0.next){n c c':Nat}{a a':Option Addr}{l:List Int}(p:Rows nC 1 h0 a n l)(q:Rows nC 1 h0 a' n l)(hn:n<=1000){N:Int}(eN:N=n){Q:Exit->SS->Prop}
  (hQ:∀h',Ext h0 h'->Q (.exit 0) ⟨[],0,[],h'⟩) :
  ∀(d i:Nat) (I:Int) (h:af),n-i<=d->i<=n->I=i->Ext h0 h->
   head 14 4 0 ⟨[(0,.slice a n c),(1,.slice a' n c'),(5,.int .i64 I)],0,[],h⟩ Q:=by
 intro d;have e0:ofNat n=N:=by rw[eN];exact aL hA n
 induction d with
 |zero=>
  intro i I h hd hi eI x;refine hA.ar Try.func14 x14.2 (zc ?_)
  (refine zq ?_;repeat ((first|rw[e0]);refine zq ?_))
  refine br (I<N) (by rw[aA hA]) (fun q=>om) (fun _=>?_)<;>refine zc ?_;exact hQ h x
 |succ d ih=>
 intro i I h hd hi eI x;by_cases ci:i<n
 rotate_left
 ·refine hA.ar Try.func14 x14.2 (zc ?_)
  (refine zq ?_;repeat ((first|rw[e0]);refine zq ?_))
  refine br (I<N) (by rw[aA hA]) (fun q=>om) (fun _=>?_)<;>refine zc ?_;exact hQ h x
 obtain⟨h9,zN⟩:∃z,z=aG h 9:=⟨_,rfl⟩;have x9:Ext h0 h9:=x.trans (by rw[zN];exact au hA _ _);obtain⟨b,o,rfl,_,q1⟩:=(p.ext x9).at (i:=I) om om;obtain⟨b',o',rfl,_,q2⟩:=(q.ext x9).at (i:=I) om om;obtain⟨y,ey⟩:∃z,z=gt l I:=⟨_,rfl⟩;have q3:=q1 0 1 om om;have q4:=q2 0 1 om om;rw[<-ey]at q3 q4;have r1:rd h9 b (place o I 1) 1 [.int .i64 y]:=aC hA q3;have r2:rd h9 b' (place o' I 1) 1 [.int .i64 y]:=aC hA q4;refine hA.ar Try.func14 x14.2 (zc ?_)
 (refine zq ?_;repeat ((first|rw[e0]);refine zq ?_))
 refine br (I<N) (by rw[aA hA]) (fun _=>?_) (fun q=>om)<;>refine zc ?_;rw[<-zN];refine zq ?_;refine br (y≠y) (by rw[cB hA]) (fun q=>absurd rfl q) (fun _=>?_)<;>refine zc ?_;refine zq ?_;rw[aH hA om om];exact ih (i+1) (I+1) h9 om om om x9
theorem nA{h:af}(aq:h.low<=h.next){n c c':Nat}{a a':Option Addr}{l:List Int}(p:Rows nC 1 h a n l)(q:Rows nC 1 h a' n l)(hn:n<=1000){Q:Value->af->Prop}(hQ:∀h',Ext h h'->Q (.bool true) h'):call 14 [.slice a n c,.slice a' n c'] h Q:=by
 obtain⟨N,eN⟩:∃z:Int,z=n:=⟨_,rfl⟩;have e0:ofNat n=N:=by rw[eN];exact aL hA n
 refine hA.aU Try.func14 x14.2 (hA.alike _ _ _ rfl) aq (zc ?_)
 (refine zq ?_;repeat ((first|rw[e0]);refine zq ?_))
 refine br (N≠N) (by rw[cB hA]) (fun q=>absurd rfl q) (fun _=>?_)<;>refine zc ?_;refine zq ?_;refine Rk hA aq p q hn eN (fun h' x=>?_) n 0 0 h om om rfl (.refl h);refine zq ?_;exact hQ h' x
theorem Ys{hs:af}(fF:hs.low<=hs.next){g:List (List Int)}{B:List Fc}{m n s:Nat}{A:Nat->Ext.aS}{W many size:Int}{pa qa:Option Addr}{bs:Nat->Nat}(t:F2 hs g B m n s A W many size pa qa bs){k:Nat}(hk:k<n){xb xo xc pc qc fc fn VE wd:Nat}{fa:Option Addr}{x:List Int}(hx:Rows nC 1 hs (some ⟨xb,xo,none⟩) n x){NI K F right L FN FI:Int}(eK:K=k)(eF:F=A k k)(eL:L=Ext.nM A (gG A B W m n) size n k x)(L0:0<=L)(L1:L<size){base:List (List Int)}(hb:base.length<=5000){Q:Exit->SS->Prop}
  (hQ:∀h' a N c hd,C4 hs h' a N c hd (base++(List.range (A k k).toNat).map (Ext.jF A (gG A B W m n) size n k x))->Q (.exit 4) ⟨[(0,.slice pa n pc),(1,.slice qa m qc),(2,.int .i64 W),(3,.int .i64 many),(9,.int .i64 NI),(10,.int .i64 size),(12,.int .i64 K),(13,.slice (some ⟨bs k,0,none⟩) wd VE),(14,.int .i64 F),(15,.int .i64 right),(16,.slice a N c),(55,.slice fa fn fc),(56,.int .i64 FN),(57,.int .i64 FI)],13,[],h'⟩) :
  ∀(d i:Nat) (I:Int) (h:af) (a:Option Addr) (N c:Nat) (hd:List Hd),(A k k).toNat-i<=d->i<=(A k k).toNat->I=i->C4 hs h a N c hd (base++(List.range i).map (Ext.jF A (gG A B W m n) size n k x))->
   head 49 16 13 ⟨[(0,.slice pa n pc),(1,.slice qa m qc),(2,.int .i64 W),(3,.int .i64 many),(9,.int .i64 NI),(10,.int .i64 size),(12,.int .i64 K),(13,.slice (some ⟨bs k,0,none⟩) wd VE),(14,.int .i64 F),(15,.int .i64 right),(16,.slice a N c),(18,.slice (some ⟨xb,xo,none⟩) n xc),(19,.int .i64 L),(55,.slice fa fn fc),(56,.int .i64 FN),(57,.int .i64 FI),(76,.int .i64 F),(77,.int .i64 I)],13,[],h⟩ Q:=by
 intro d;have n4:=t.hM.n4;obtain⟨W0,W1,y0,y1,s0,s1⟩:=t.OH;obtain⟨f1,f64⟩:=t.lead hk
 induction d with
 |zero=>
  intro i I h a N c hd wq hi eI lo;refine hA.ar Try.func49 nf (zc ?_);refine br (I<F) (by rw[aA hA]) (fun q=>om) (fun _=>?_)<;>refine zc ?_;obtain rfl:i=(A k k).toNat:=om
  exact hQ h a N c hd lo
 |succ d ih=>
 intro i I h a N c hd wq hi eI lo;by_cases ci:i<(A k k).toNat
 rotate_left
 ·refine hA.ar Try.func49 nf (zc ?_)
  refine br (I<F) (by rw[aA hA]) (fun q=>om) (fun _=>?_)<;>refine zc ?_;obtain rfl:i=(A k k).toNat:=om
  exact hQ h a N c hd lo
 have xe:=lo.s.ext;have aq:=xe.aD fF;refine hA.ar Try.func49 nf (zc ?_);refine br (I<F) (by rw[aA hA]) (fun _=>?_) (fun q=>om)<;>refine zc ?_;refine zq ?_;refine zL hA aq (hx.ext xe) om (fun h1 b1 c1 o1 x1 lb=>⟨_,_,_,rfl,?_⟩);obtain⟨k1,k2,k3,k4⟩:=o1;obtain⟨h9,zN⟩:∃z,z=aG h1 13:=⟨_,rfl⟩;have xb':Ext h1 h9:=by rw[zN];exact au hA _ _
 have x9:=x1.trans xb';obtain⟨q,eq⟩:∃z,z=L / F:=⟨_,rfl⟩;obtain⟨z,ez⟩:∃z,z=size / F:=⟨_,rfl⟩;have m1:arith .quo .i64 L F=q:=by rw[eq];exact uy hA L0 om om
 have m2:arith .quo .i64 size F=z:=by rw[ez];exact uy hA om om om
 have q0:0<=q/\q<=L:=by rw[eq];exact⟨Int.ediv_nonneg L0 om,Int.ediv_le_self _ L0⟩
 have z0:0<=z/\z<=size:=by rw[ez];exact⟨Int.ediv_nonneg om om,Int.ediv_le_self _ om⟩
 obtain⟨u,eu⟩:∃u,u=I*z:=⟨_,rfl⟩;have ub:0<=u/\u<=64*829440000:=by
  rw[eu];exact⟨Int.mul_nonneg om z0.1,Int.mul_le_mul om om z0.1 om⟩
 have m3:arith .mul .i64 I z=u:=by rw[eu];exact jG hA (by rw[<-eu];omega) (by rw[<-eu];omega)
 obtain⟨v,ev⟩:∃v,v=q+u:=⟨_,rfl⟩;have m4:arith .add .i64 q u=v:=by rw[ev];exact aH hA om om
 have lx:=hx.len;have aa4:=k1.ext xb' k2;obtain⟨h2,w1,w2,w3⟩:=bW.setRow aa4 dQ (i:=k) om v;have w1:wr h9 b1 (place 0 K 1) [.int .i64 v] h2:=uc hA (by rw[eK,Nat.zero_add];exact w1);have xh2:Ext h h2:=w3.ext x9 lb;have e1:x.set k v=Ext.jF A (gG A B W m n) size n k x i:=by
  unfold Ext.jF;rw[ev,eu,ez,eq,eL,eF,eI]
 have XF:c1=az 1 n:=by rcases k4 with ⟨_,q⟩|q;omega;exact q
 have xi:=lo.more xh2;have nx2:h2.next=h9.next:=w3.next;have nx9:=x9.next;have b2:b1<h2.next:=by have:=xb'.next;omega
 have UK:Rows nC 1 h2 (some ⟨b1,0,none⟩) n (x.set k v):=by
  have:=bW.rows w2 dQ om b2;rw[List.length_set,lx]at this;exact this
 rw[e1]at UK;have al:∀ad,a=some ad->ad.block<h.next:=fun ad bQ=>lo.kA.lt ad bQ
 have xQ:=xe.next;have hN:N<=6000:=by
  rw[<-lo.s.gr.len,List.length_append,List.length_map,List.length_range];omega
 refine zq ?_;rw[<-zN]
 (refine zq ?_;repeat ((first|rw[m1]|rw[m2]|rw[m3]|rw[m4]);refine zq ?_))
 refine xk hA zf fM om zM (v:=(⟨some ⟨b1,0,none⟩,n,c1⟩:Hd)) xi.kA om (fun b' h' a' x' n' Uj k'=>?_);have t2:=xi.add (k:=⟨some ⟨b1,0,none⟩,n,c1⟩) UK (fun _=>.inr XF) (fun ad bQ=>by cases bQ;show hs.next<=b1;omega) (fun ad bQ bd mC=>by cases mC;have:=al ad bQ;show b1≠_;omega) a' (x' hs xi.s.ext lo.s.fr) n' Uj k';have et:base++(List.range i).map (Ext.jF A (gG A B W m n) size n k x)++[Ext.jF A (gG A B W m n) size n k x i]=base++(List.range (i+1)).map (Ext.jF A (gG A B W m n) size n k x):=by
  rw[List.range_succ,List.map_append,List.append_assoc];rfl
 rw[et]at t2;clear eL e1 UK et;generalize az 1 (N+1)=cc at *;obtain⟨N1,eN1⟩:∃z,z=N+1:=⟨_,rfl⟩;rw[<-eN1]at t2 ⊢;refine zq ?_;rw[aH hA om om];exact ih (i+1) (I+1) h' (some ⟨b',0,none⟩) N1 cc _ om om om t2
omit hA in
theorem Rm(a b n:Int):(a-b % n) % n=(a-b) % n:=by
 have h:=Int.emod_add_mul_ediv b n;have e:a-b % n=(a-b)+n*(b / n):=om
 rw[e,Int.add_mul_emod_self_left]
theorem UL{hs:af}(fF:hs.low<=hs.next){g:List (List Int)}{B:List Fc}{m n s:Nat}{A:Nat->Ext.aS}{W many size:Int}{pa qa:Option Addr}{bs:Nat->Nat}(t:F2 hs g B m n s A W many size pa qa bs){k:Nat}(hk:k<n){pc qc fc fn VE wd:Nat}{fa:Option Addr}{fh:List Hd}{hz:af}{l:List (List Int)}(lf:Lg hz hs fa fn fh l)(hl:∀x,x∈l->Ext.Cy A (gG A B W m n) size n (k+1) x)(f64:fn<=64){NI K F right FN:Int}(eN:NI=n)(eK:K=k)(eF:F=A k k)(eR:right=gG A B W m n k)(eFN:FN=fn)(ewd:wd=n+m)(erw:VE=az 1 wd){Q:Exit->SS->Prop}
  (hQ:∀h' a N c hd,C4 hs h' a N c hd (Ext.iy A (gG A B W m n) size n k l)->Q (.exit 2) ⟨[(0,.slice pa n pc),(1,.slice qa m qc),(2,.int .i64 W),(3,.int .i64 many),(9,.int .i64 NI),(10,.int .i64 size),(12,.int .i64 K),(16,.slice a N c)],13,[],h'⟩) :
  ∀(d i:Nat) (I:Int) (h:af) (a:Option Addr) (N c:Nat) (hd:List Hd),fn-i<=d->i<=fn->I=i->C4 hs h a N c hd (Ext.iy A (gG A B W m n) size n k (l.take i))->
   head 49 11 13 ⟨[(0,.slice pa n pc),(1,.slice qa m qc),(2,.int .i64 W),(3,.int .i64 many),(9,.int .i64 NI),(10,.int .i64 size),(12,.int .i64 K),(13,.slice (some ⟨bs k,0,none⟩) wd VE),(14,.int .i64 F),(15,.int .i64 right),(16,.slice a N c),(55,.slice fa fn fc),(56,.int .i64 FN),(57,.int .i64 I)],13,[],h⟩ Q:=by
 intro d;have n4:=t.hM.n4;have m4:=t.hM.m4;have n1:=t.hM.n1;have m1:=t.hM.m1;have sum:=t.st.sum;obtain⟨W0,W1,y0,y1,s0,s1⟩:=t.OH;obtain⟨f1,f64'⟩:=t.lead hk;have ll:=lf.gr.len;have r0:0<=right/\right<=829440000:=by
  have e1:=Int.emod_nonneg (jW A B W m n k) (show W≠0 by omega);have e2:=Int.emod_lt_of_pos (jW A B W m n k) W0;have e3:right=jW A B W m n k % W*many:=by rw[eR];unfold gG;rw[t.em]
  rw[e3];exact⟨Int.mul_nonneg e1 om,Int.mul_le_mul (show jW A B W m n k % W<=12960000 by omega) (show many<=64 by omega) om om⟩
 induction d with
 |zero=>
  intro i I h a N c hd wq hi eI lo;refine hA.ar Try.func49 nf (zc ?_);refine br (I<FN) (by rw[aA hA]) (fun q=>om) (fun _=>?_)<;>refine zc ?_;rw[List.take_of_length_le om]at lo;exact hQ h a N c hd lo
 |succ d ih=>
 intro i I h a N c hd wq hi eI lo;by_cases ci:i<fn
 rotate_left
 ·refine hA.ar Try.func49 nf (zc ?_)
  refine br (I<FN) (by rw[aA hA]) (fun q=>om) (fun _=>?_)<;>refine zc ?_;rw[List.take_of_length_le om]at lo;exact hQ h a N c hd lo
 have xe:=lo.s.ext;have aq:=xe.aD fF;obtain⟨x,ex⟩:∃x,x=gt l I:=⟨_,rfl⟩;have YS:x∈l:=by rw[ex];exact ME l om om
 have sx:=hl x YS;have AN:=lf.gr.row I om om;have tM:=AN.len;rw[<-ex,sx.len]at tM;rw[<-ex,<-tM]at AN;obtain⟨fb,fo,rfl,_,q1⟩:=(lf.gr.ext xe).mj (i:=I) om om;rw[<-tM]at q1;obtain⟨xb,xo,UM,_⟩:=AN.at (i:=0) om om;rw[UM]at AN q1;obtain⟨xc,VF⟩:∃z,z=(gt fh I).c:=⟨_,rfl⟩;rw[<-VF]at q1;have r1:rd h fb (place fo I 1) 1 [.slice (some ⟨xb,xo,none⟩) n xc]:=aC hA q1;obtain⟨wV,rws⟩:=(t.more xe).rows;have vD:=rws.jW (y:=k) om;have front:Rows nC 1 h (some ⟨bs k,0,none⟩) n (iK (A k) n):=by
  refine⟨?_,dQ,om⟩;have:=vD.cells.head (m:=n) om;have e:((iK (A k) (n+m)).flatMap nC).take (n*1)=(iK (A k) n).flatMap nC:=by
   rw[G1 dQ]
   congr 1
   apply List.ext_getElem?;intro j;rw[List.getElem?_take];by_cases c:j<n
   ·rw[if_pos c,jE _ om,jE _ c]
   ·rw[if_neg c,List.getElem?_eq_none (by rw[aW];omega)]
  rw[e]at this;exact this
 have JJ:cL VE=wd:=by rw[erw];exact cA (by unfold aP;omega)
 obtain⟨S,eS⟩:∃S,S=Ext.iE A n k x:=⟨_,rfl⟩;obtain⟨S2,eS2⟩:∃z,z=S % size:=⟨_,rfl⟩;have S20:0<=S2/\S2<size:=by rw[eS2];exact⟨Int.emod_nonneg _ om,Int.emod_lt_of_pos _ s0⟩
 obtain⟨L0,eL0⟩:∃z,z=right-S2:=⟨_,rfl⟩;have m1':arith .sub .i64 right S2=L0:=by rw[eL0];exact bO hA om om
 obtain⟨L,eL⟩:∃z,z=L0 % size:=⟨_,rfl⟩;have Lr:0<=L/\L<size:=by rw[eL];exact⟨Int.emod_nonneg _ om,Int.emod_lt_of_pos _ s0⟩
 have eLX:L=Ext.nM A (gG A B W m n) size n k x:=by
  unfold Ext.nM;rw[eL,eL0,eS2,Rm,eS,eR]
 have fl:=Int.emod_add_mul_ediv L0 size;rw[<-eL]at fl;obtain⟨fq,efq⟩:∃z,z=L0 / size:=⟨_,rfl⟩;rw[<-efq]at fl;obtain⟨u,eu⟩:∃z,z=size*fq:=⟨_,rfl⟩;rw[<-eu]at fl;have m2:arith .mul .i64 size fq=u:=by rw[eu];exact jG hA (by rw[<-eu];omega) (by rw[<-eu];omega)
 have m3:arith .sub .i64 L0 u=L:=by rw[bO hA om om];omega
 have bl:(Ext.iy A (gG A B W m n) size n k (l.take i)).length<=5000:=by
  have h1:=Jh (fun x=>(List.range (A k k).toNat).map (Ext.jF A (gG A B W m n) size n k x)) 64 (fun x=>by rw[List.length_map,List.length_range];omega) (l.take i);have h2:(l.take i).length<=64:=by rw[List.length_take];omega
  have h3:(l.take i).length*64<=64*64:=Nat.mul_le_mul_right _ h2;unfold Ext.iy;omega
 refine hA.ar Try.func49 nf (zc ?_);refine br (I<FN) (by rw[aA hA]) (fun _=>?_) (fun q=>om)<;>refine zc ?_;refine zq ?_;refine⟨by rw[MK hA,JJ];exact⟨om,om⟩,?_⟩;refine zc ?_;rw[show nat NI=n by rw[Iu hA];omega];refine zq ?_;refine CV hA aq front (AN.ext xe) (Nat.le_refl n) om (B:=600000000000000) (fun j hj=>?_) om s0 om (fun v hv=>⟨v,rfl,?_⟩)
 ·rw[dC _ hj]
  have h1:=t.st.small t.hM (i:=k) om j;have h2:(gt x (j:Int)).natAbs<=829440000:=by
   by_cases c:j<k+1
   ·rw[sx.zero j c];decide
   ·have:=sx.yO j om hj;omega
  have:=Ext.jX h1 h2;omega
 obtain rfl:v=S2:=by
  rw[hv,eS2,eS]
  congr 1
  unfold Ext.iE;exact Ext.aN n (fun j hj=>by rw[dC _ hj])
 (refine zq ?_;repeat ((first|rw[m1']);refine zq ?_))
 refine rJ hA s0 om om aq (fun q' XS=>⟨q',rfl,?_⟩);obtain rfl:q'=fq:=by rw[XS,efq]
 (refine zq ?_;repeat ((first|rw[m1']|rw[m2]|rw[m3]);refine zq ?_))
 refine Ys hA fF t hk AN eK eF eLX Lr.1 Lr.2 (base:=Ext.iy A (gG A B W m n) size n k (l.take i)) bl (fun h2 a2 N2 c2 Vu xi=>?_) (A k k).toNat 0 0 h a N c hd om (Nat.zero_le _) rfl (by rw[List.range_zero,List.map_nil,List.append_nil];exact lo);have et:Ext.iy A (gG A B W m n) size n k (l.take i)++(List.range (A k k).toNat).map (Ext.jF A (gG A B W m n) size n k x)=Ext.iy A (gG A B W m n) size n k (l.take (i+1)):=by
  have h1:l.take (i+1)=l.take i++[x]:=by
   rw[ex];exact zR l eI om
  rw[h1];unfold Ext.iy;rw[List.flatMap_append];simp
 rw[et]at xi;refine zq ?_;rw[aH hA om om];exact ih (i+1) (I+1) h2 a2 N2 c2 Vu om om om xi
set_option maxHeartbeats 4000000 in
theorem ON {h0 : af} (aq : h0.low ≤ h0.next) {b n c : Nat} {L0 : List LE} {A B : Int} (A0 : 0 ≤ A) (bn : B ≤ n) (ov : uE L0 A B)
    (rec : ∀ (h : af) (L : List LE) (x y dI : Int) (Q : Value → af → Prop), 0 ≤ x → x ≤ y → y ≤ n → (y - x).toNat < (B - A).toNat → 0 ≤ dI → dI ≤ 100 → uE L x y → bB h0 h b n L → (∀ h' L', bB h0 h' b n L' → aJ x y L L' → aI gN L' x y → Q (.tuple #[]) h') → call 86 [.slice (some ⟨b, 0, none⟩) n c, .int .i64 x, .int .i64 y, .int .i64 dI, .func (.func 70) #[] #[]] h Q) {Q : Exit → SS → Prop}
    (hQ : ∀ h' L e kn, bB h0 h' b n L → aJ A B L0 L → aI gN L A B → Q .ret ⟨e, kn, [], h'⟩) :
    ∀ (m : Nat) (x y dI : Int) (wb wp : Bool) (h : af) (L : List LE), (y - x).toNat ≤ m → 0 ≤ dI → dI ≤ 100 → bB h0 h b n L → aJ A B L0 L → ze gN L A B x y →
      head 86 2 0 ⟨[(0, .slice (some ⟨b, 0, none⟩) n c), (1, .int .i64 x), (2, .int .i64 y), (3, .int .i64 dI), (4, .func (.func 70) #[] #[]), (10, .bool wb), (11, .bool wp)], 0, [], h⟩ Q := by
  intro m
  induction m with
  | zero =>
    intro x y dI wb wp h L hm l0 l1 t hp hd
    have gi := t.gi
    have r0 := hd.r0
    have r1 := hd.r1
    have r2 := hd.r2
    have e1 : arith .sub .i64 y x = y - x := bO hA om om
    refine hA.ar Try.func86 GW (zc ?_)
    rw [e1]
    refine br (y - x ≤ 12) (by rw [jO hA]) (fun _ => ?_) (fun q => by omega) <;> refine zc ?_
    refine zB hA aq om om om t (fun h1 L1 t1 uw gm => ?_)
    refine zc ?_
    exact hQ _ _ _ _ t1 (hp.trans (uw.wide A0 r0 r2)) ((hd.perm A0 uw).done gm)
  | succ m ih =>
    intro x y dI wb wp h L hm l0 l1 t hp hd
    have gi := t.gi
    have r0 := hd.r0
    have r1 := hd.r1
    have r2 := hd.r2
    have e1 : arith .sub .i64 y x = y - x := bO hA om om
    obtain ⟨l, hl⟩ : ∃ z, z = y - x := ⟨_, rfl⟩
    rw [← hl] at e1
    refine hA.ar Try.func86 GW (zc ?_)
    rw [e1]
    refine br (l ≤ 12) (by rw [jO hA]) (fun _ => ?_) (fun q => ?_) <;> refine zc ?_
    · refine zB hA aq om om om t (fun h1 L1 t1 uw gm => ?_)
      refine zc ?_
      exact hQ _ _ _ _ t1 (hp.trans (uw.wide A0 r0 r2)) ((hd.perm A0 uw).done gm)
    refine br (dI = 0) (by rw [dn hA]) (fun _ => ?_) (fun q2 => ?_) <;> refine zc ?_
    · refine Q6 hA aq om om om t (fun h1 L1 t1 uw gm => ?_)
      refine zc ?_
      exact hQ _ _ _ _ t1 (hp.trans (uw.wide A0 r0 r2)) ((hd.perm A0 uw).done gm)
    have Xb : ∀ (x' y' OO : Int) (wb wp : Bool) (h : af) (L : List LE), (y' - x').toNat < (y - x).toNat → 0 ≤ OO → OO ≤ 100 → bB h0 h b n L → aJ A B L0 L → ze gN L A B x' y' →
      head 86 2 0 ⟨[(0, .slice (some ⟨b, 0, none⟩) n c), (1, .int .i64 x'), (2, .int .i64 y'), (3, .int .i64 OO), (4, .func (.func 70) #[] #[]), (10, .bool wb), (11, .bool wp)], 0, [], h⟩ Q := fun x' y' OO wb wp h L w => ih x' y' OO wb wp h L om
    clear ih
    refine br (wb = false) (by rw [dk hA]; cases wb <;> rfl) (fun qb => ?_) (fun qb => ?_) <;> refine zc ?_
    focus
      refine OE hA aq om om om t (fun h1 L1 t1 uw => ?_)
      refine zc ?_
      obtain ⟨C6, Ah⟩ : ∃ z, z = dI - 1 := ⟨_, rfl⟩
      have e2 : arith .sub .i64 dI 1 = C6 := by rw [Ah]; exact bO hA om om
      rw [e2]
      have IY := hd.perm A0 uw
      have uw := hp.trans (uw.wide A0 r0 r2)
      have l2 : 0 ≤ C6 := by omega
      have l3 : C6 ≤ 100 := by omega
      clear Ah e2 t hp hd
    rotate_left
    focus
      have t1 := t
      have uw := hp
      have IY := hd
      have l2 := l0
      have l3 := l1
      obtain ⟨h1, hh1⟩ : ∃ z, z = h := ⟨_, rfl⟩
      obtain ⟨L1, K7⟩ : ∃ z, z = L := ⟨_, rfl⟩
      obtain ⟨C6, Ah⟩ : ∃ z, z = dI := ⟨_, rfl⟩
      rw [← hh1, ← K7] at t1
      rw [← hh1, ← Ah]
      rw [← K7] at uw IY
      rw [← Ah] at l2 l3
      clear Ah hh1 K7 t hp hd
    all_goals
      refine OA hA aq om om om t1 (fun h2 p k t2 p0 p1 => ⟨_, _, rfl, ?_⟩)
      refine zc ?_
      refine br (k = 2) (by rw [dn hA]) (fun qk => ?_) (fun qk => ?_) <;> refine zc ?_
      focus
        refine UH hA aq om om om t2 (fun h3 L3 t3 Pv => ?_)
        refine zc ?_
        have UN := IY.perm A0 Pv
        have Pv := uw.trans (Pv.wide A0 r0 r2)
        obtain ⟨p3, hp⟩ : ∃ z, z = (y - 1) - (p - x) := ⟨_, rfl⟩
        have g1 : arith .sub .i64 y 1 = y - 1 := bO hA om om
        have g2 : arith .sub .i64 p x = p - x := bO hA om om
        have g3 : arith .sub .i64 (y - 1) (p - x) = p3 := by rw [hp]; exact bO hA om om
        have p4 : x ≤ p3 := by omega
        have p5 : p3 < y := by omega
        rw [g1, g2, g3]
        clear hp g1 g2 g3 p0 p1 t1 t2 uw IY
      rotate_left
      focus
        obtain ⟨h3, hh⟩ : ∃ z, z = h2 := ⟨_, rfl⟩; subst hh
        obtain ⟨L3, hh⟩ : ∃ z, z = L1 := ⟨_, rfl⟩; subst hh
        obtain ⟨p3, hh⟩ : ∃ z, z = p := ⟨_, rfl⟩; subst hh
        have t3 := t2
        have UN := IY
        have Pv := uw
        have p4 := p0
        have p5 := p1
        clear p0 p1 t2 uw IY
      all_goals
        cases wb <;> cases wp <;> first | exact absurd qb (by decide) | exact absurd rfl qb | refine zc ?_
      all_goals first
        | (refine br (k = 1) (dn hA k 1) (fun _ => ?_) (fun _ => ?_) <;> refine zc ?_)
        | (refine br ((1 : Int) = 1) (dn hA 1 1) (fun _ => ?_) (fun q => absurd rfl q); refine zc ?_)
        | skip
      all_goals first
        | (refine Yn hA aq om om om (UN.over (ov.perm A0 Pv)) t3 (fun h4 L4 u t4 Rn Ag => ⟨_, rfl, ?_⟩)
           cases u
           focus
             refine zc ?_
             have Yt := UN.perm A0 Rn
             have Rn := Pv.trans (Rn.wide A0 r0 r2)
             clear t3 Pv UN Ag
           rotate_left
           focus
             refine zc ?_
             exact hQ _ _ _ _ t4 (Pv.trans (Rn.wide A0 r0 r2)) ((UN.perm A0 Rn).done (Ag rfl)))
        | (obtain ⟨h4, hh⟩ : ∃ z, z = h3 := ⟨_, rfl⟩; subst hh
           obtain ⟨L4, hh⟩ : ∃ z, z = L3 := ⟨_, rfl⟩; subst hh
           have t4 := t3
           have Yt := UN
           have Rn := Pv
           clear t3 Pv UN)
      all_goals
        have hv4 := Yt.over (ov.perm A0 Rn)
        obtain ⟨h5, sX⟩ : ∃ z, z = aG h4 17 := ⟨_, rfl⟩
        have x5 : Ext h4 h5 := by rw [sX]; exact au hA _ _
        have t5 := t4.more x5
        refine br (0 < x) (by rw [dP hA]) (fun cx => ?_) (fun cx => ?_) <;> refine zc ?_
        focus
          rw [← sX]
          obtain ⟨x', RN⟩ : ∃ z, z = x - 1 := ⟨_, rfl⟩
          have e2 : arith .sub .i64 x 1 = x' := by rw [RN]; exact bO hA om om
          obtain ⟨Q7, Q8, Q9, b5, g5, f5, r5⟩ := t5.read (i := x') om om
          obtain ⟨CX, CY, CZ, Ra, Dh, Pu, C2⟩ := t5.read (i := p3) om om
          have q5 := aC hA r5
          have LN := aC hA C2
          (refine zq ?_; repeat ((first | rw [e2]); refine zq ?_))
          refine fN hA (aB hA h5) (dL hA f5) (dL hA Pu) (fun u h5a hu x5a => ⟨_, rfl, ?_⟩)
          have t5b := dR hA aq t5 x5a
          refine zc ?_
          generalize aw h5 h5a = h5b at *
          refine br (0 ≤ u) (by rw [dk hA, aA hA]; by_cases z : u < 0 <;> simp [z] <;> omega) (fun cu => ?_) (fun cu => ?_) <;> refine zc ?_
          focus
            rw [hu] at cu
            have w : gN (gt L4 p3) (gt L4 (x - 1)) := by rw [← RN]; exact LL.not_lt.1 (fun w => by have := cU.2 w; omega)
            refine Oz hA aq om om p4 p5 t5b (fun h6 L6 e t6 C3 e0 e1 he => ⟨_, rfl, ?_⟩)
            refine zc ?_
            refine Xb e y C6 _ _ h6 L6 om l2 l3 t6 (Rn.trans (C3.wide A0 r0 r2)) (ze.equal (Yt.perm A0 C3) om om (fun p q p0 p1 q0 q1 => ?_))
            refine eE.trans _ _ _ (he p p0 p1) (eE.trans _ _ _ w ?_)
            have := (hv4.perm om C3).resolve_left om q q0 q1
            rwa [C3.out (x - 1) om om] at this
          clear t5
          have t5 := t5b
        rotate_left
        focus
          rw [← sX]
          clear sX
          obtain ⟨h5b, hh⟩ : ∃ z, z = h5 := ⟨_, rfl⟩; subst hh
      all_goals
        refine Rc hA aq om om p4 p5 t5 (fun h6 L6 Aj r t6 C3 m0 m1 k1 k2 => ⟨_, _, rfl, ?_⟩)
        have hd6 := Yt.perm A0 C3
        have hv6 := hv4.perm om C3
        have C3 := Rn.trans (C3.wide A0 r0 r2)
        have v1 : uE L6 x Aj := by
          rcases hv6 with o | o
          · exact .inl o
          · exact .inr (fun k k0 k1 => o k k0 om)
        have v2 : uE L6 (Aj + 1) y := .inr (fun k k0 k1 => by rw [show Aj + 1 - 1 = Aj by omega]; exact k2 k om k1)
        have u1 : arith .sub .i64 Aj x = Aj - x := bO hA om om
        have u2 : arith .sub .i64 y Aj = y - Aj := bO hA om om
        have u3 : arith .add .i64 Aj 1 = Aj + 1 := aH hA om om
        obtain ⟨q8, hq8⟩ : ∃ z, z = arith .quo .i64 l 8 := ⟨_, rfl⟩
        (refine zq ?_; repeat ((first | rw [u1] | rw [u2]); refine zq ?_))
        rw [← hq8]
        clear hq8
        refine br (Aj - x < y - Aj) (by rw [aA hA]) (fun cm => ?_) (fun cm => ?_) <;> refine zc ?_
        focus
          refine rec h6 L6 x Aj C6 _ om m0 om om l2 l3 v1 t6 (fun h7 L7 t7 Jg hs7 => ?_)
          refine zc ?_
          rw [u3]
          exact Xb (Aj + 1) y C6 _ _ h7 L7 om l2 l3 t7 (C3.trans (Jg.wide A0 r0 om)) (ze.left eE A0 hd6 m0 m1 k1 k2 Jg hs7)
        focus
          rw [u3]
          refine rec h6 L6 (Aj + 1) y C6 _ om om om om l2 l3 v2 t6 (fun h7 L7 t7 Jg hs7 => ?_)
          refine zc ?_
          exact Xb x Aj C6 _ _ h7 L7 om l2 l3 t7 (C3.trans (Jg.wide A0 om r2)) (ze.right eE A0 hd6 m0 m1 k1 k2 Jg hs7)
theorem UO{h0:af}(aq:h0.low<=h0.next){b n c:Nat}:∀(N:Nat) (h:af) (L:List LE) (x y dI:Int) (Q:Value->af->Prop),(y-x).toNat<N->0<=x->x<=y->y<=n->0<=dI->dI<=100->uE L x y->bB h0 h b n L->(∀h' L',bB h0 h' b n L'->aJ x y L L'->aI gN L' x y->Q (.tuple #[]) h')->call 86 [.slice (some ⟨b,0,none⟩) n c,.int .i64 x,.int .i64 y,.int .i64 dI,.func (.func 70) #[] #[]] h Q:=by
 intro N
 induction N with
 |zero=>intro h L x y dI Q w;omega
 |succ N ih=>
  intro h L x y dI Q w x0 xy yn l0 l1 ov t hQ;have dg:=aq
  replace aq:=t.ext.aD aq
  refine hA.aU Try.func86 GW (hA.alike _ _ _ rfl) aq (zc ?_);refine ON hA dg (c:=c) (L0:=L) x0 yn ov (fun h L x' y' dI Q a1 a2 a3 a4 a5 a6 a7 a8 a9=>ih h L x' y' dI Q om a1 a2 a3 a5 a6 a7 a8 a9) (fun h' L' e kn t' hp hs=>?_) (y-x).toNat x y dI true true h L (Nat.le_refl _) l0 l1 t (.refl _ _ _) (.start L xy);refine zc ?_;exact hQ h' L' t' hp hs
theorem OP{h0 h:af}(aq:h0.low<=h0.next){b n c:Nat}{L:List LE}(t:bB h0 h b n L){Q:Value->af->Prop}
  (hQ:∀h' L',bB h0 h' b n L'->aJ 0 n L L'->aI gN L' 0 n->Q (.tuple #[]) h'):call 69 [.slice (some ⟨b,0,none⟩) n c,.func (.func 70) #[] #[]] h Q:=by
 have dg:=aq
 replace aq:=t.ext.aD aq
 have gi:=t.gi;refine hA.aU Try.func69 x69.2 (hA.alike _ _ _ rfl) aq (zc ?_);rw[aL hA,mO hA om om];refine OC hA aq (by unfold u64;omega) (fun k hk=>⟨_,rfl,?_⟩);obtain⟨n0,n1,n2⟩:=hk;have Yl:k<=40:=by
  by_cases c:k<=40
  ·exact c
  ·have h1:=Nat.pow_le_pow_right (n:=2) om (show 40<=k.toNat by omega)
   have h2:((2 ^ 40:Nat):Int)<=((2 ^ k.toNat:Nat):Int):=by exact_mod_cast h1
   have h3:((2 ^ k.toNat:Nat):Int)=2 ^ k.toNat:=by push_cast;rfl
   have h4:((2 ^ 40:Nat):Int)=1099511627776:=by decide
   have h5:max (n:Int) 1<=100001:=om
   omega
 refine zc ?_;refine UO hA dg (c:=c) (n+1) h L 0 n k _ om om om (Int.le_refl _) n0 om (.inl rfl) t (fun h' L' t' hp hs=>?_);refine zc ?_;exact hQ h' L' t' hp hs
theorem UP{h0:af}(fF:h0.low<=h0.next){g:List (List Int)}{B:List Fc}{m n s:Nat}{A:Nat->Ext.aS}{W many size:Int}{pa qa:Option Addr}{bs:Nat->Nat}(t:F2 h0 g B m n s A W many size pa qa bs){pc qc:Nat}{NI:Int}(eN:NI=n){Q:Exit->SS->Prop}
  (hQ:∀hs h' a N c hd,C4 hs h' a N c hd (Ext.nN A (gG A B W m n) size n n)->Ext h0 h'->Ext h0 hs->Q (.exit 0) ⟨[(11,.slice a N c)],0,[],h'⟩) :
  ∀(r d:Nat) (K:Int) (h:af) (fa:Option Addr) (fn fc:Nat) (fh:List Hd),n-d<=r->d<=n->K=(n:Int)-1-d->Ext h0 h->Lg h0 h fa fn fh (Ext.nN A (gG A B W m n) size n d)->(d=0\/∃hs,Ext h0 hs/\C4 hs h fa fn fc fh (Ext.nN A (gG A B W m n) size n d))->
   head 49 5 0 ⟨[(0,.slice pa n pc),(1,.slice qa m qc),(2,.int .i64 W),(3,.int .i64 many),(9,.int .i64 NI),(10,.int .i64 size),(11,.slice fa fn fc),(12,.int .i64 K)],0,[],h⟩ Q:=by
 intro r;have n4:=t.hM.n4;have m4:=t.hM.m4;have n1:=t.hM.n1;have m1:=t.hM.m1;have sum:=t.st.sum;obtain⟨W0,W1,y0,y1,s0,s1⟩:=t.OH
 induction r with
 |zero=>
  intro d K h fa fn fc fh hr hd eK x lf lo;refine hA.ar Try.func49 nf (zc ?_);refine br (0<=K) (by rw[bR hA]) (fun q=>om) (fun _=>?_)<;>refine zc ?_;obtain rfl:d=n:=om
  rcases lo with q|⟨hs,x2,lo⟩
  ·omega
  ·exact hQ hs h fa fn fc fh lo x x2
 |succ r ih=>
 intro d K h fa fn fc fh hr hd eK x lf lo;by_cases ck:d<n
 rotate_left
 ·refine hA.ar Try.func49 nf (zc ?_)
  refine br (0<=K) (by rw[bR hA]) (fun q=>om) (fun _=>?_)<;>refine zc ?_;obtain rfl:d=n:=om
  rcases lo with q|⟨hs,x2,lo⟩
  ·omega
  ·exact hQ hs h fa fn fc fh lo x x2
 obtain⟨k,ek⟩:∃k,k=n-1-d:=⟨_,rfl⟩;have hk:k<n:=om
 have XT:K=k:=om
 obtain⟨h9,zN⟩:∃z,z=aG h 13:=⟨_,rfl⟩;have xb:Ext h h9:=by rw[zN];exact au hA _ _
 have x9:=x.trans xb;have t9:=t.more x9;have l9:=x9.aD fF;obtain⟨pb,po,epa,_,w1⟩:=t9.hd.at (i:=K) om om;have w1:=w1 0 1 om om;obtain⟨wd,ewd⟩:∃w,w=n+m:=⟨_,rfl⟩;obtain⟨cw,qU⟩:∃z,z=az 1 wd:=⟨_,rfl⟩;have eh:gt (kR bs (n+m) n) K=⟨some ⟨bs k,0,none⟩,wd,cw⟩:=by
  rw[qU,ewd,XT];exact dC _ hk
 rw[eh]at w1;have w1:h9.aM ⟨pb,po+K.toNat*1+0,none⟩ 1=some [.slice (some ⟨bs k,0,none⟩) wd cw]:=w1;cases pa with
 |none=>cases epa
 |some pad=>
 cases epa;have r1:rd h9 pb (place po K 1) 1 [.slice (some ⟨bs k,0,none⟩) wd cw]:=aC hA w1;obtain⟨wV,rws⟩:=t9.rows;have w2:=rws.el (y:=k) (x:=k) om om;obtain⟨F,eF⟩:∃z,z=A k k:=⟨_,rfl⟩;rw[<-eF]at w2;have r2:rd h9 (bs k) (place 0 K 1) 1 [.int .i64 F]:=aC hA (by rw[XT];exact w2);have tl:=rws.tail (y:=k) (n:=n) (m:=m) om rfl;obtain⟨FN,eFN⟩:∃z:Int,z=fn:=⟨_,rfl⟩;have e1:ofNat fn=FN:=by rw[eFN];exact aL hA fn
 have gl:=lf.gr.len;have f64:=t.run (d:=d) om;rw[gl]at f64;have nD:=Ext.vl t.KF d om;have aa5:∀y,y∈Ext.nN A (gG A B W m n) size n d->Ext.Cy A (gG A B W m n) size n (k+1) y:=fun y hy=>by
  have:=(nD.1 y).1 hy
  rwa [show n-d=k+1 by omega]at this
 obtain⟨v,ev⟩:∃v,v=jW A B W m n k % W:=⟨_,rfl⟩;have v0:0<=v/\v<W:=by rw[ev];exact⟨Int.emod_nonneg _ om,Int.emod_lt_of_pos _ W0⟩
 obtain⟨R,eR⟩:∃z,z=v*many:=⟨_,rfl⟩;have eR2:R=gG A B W m n k:=by rw[eR,ev];unfold gG;rw[t.em]
 have Rb:0<=R/\R<=12960000*64:=by rw[eR];exact⟨Int.mul_nonneg v0.1 om,Int.mul_le_mul om y1 om om⟩
 have m2:arith .mul .i64 v many=R:=by rw[eR];exact jG hA (by rw[<-eR];omega) (by rw[<-eR];omega)
 refine hA.ar Try.func49 nf (zc ?_);refine br (0<=K) (by rw[bR hA]) (fun _=>?_) (fun q=>om)<;>refine zc ?_;rw[<-zN];refine zq ?_;rw[qU];refine Ct hA Pq (n:=wd) (i:=NI) om om om (fun c'=>?_);rw[show 0+NI.toNat*1=0+n*1 by omega,show wd-NI.toNat=m by omega,<-qU];obtain⟨o,eo⟩:∃z,z=0+n*1:=⟨_,rfl⟩;rw[<-eo]at tl ⊢;refine zq ?_;refine CV hA l9 tl t9.nT (Nat.le_refl m) om (B:=8162933760000) (fun j hj=>?_) om W0 om (fun v' hv=>⟨v',rfl,?_⟩)
 ·rw[dC _ hj,CU hj]
  obtain⟨_,p0,p1,_⟩:=t.w.part t.ht hj;exact Ja (t.st.small t.hM om _) p0 p1 W1
 obtain rfl:v'=v:=by
  rw[hv,ev]
  congr 1
  unfold jW;exact Ext.aN m (fun j hj=>by rw[dC _ hj,CU hj])
 (refine zq ?_;repeat ((first|rw[e1]|rw[m2]);refine zq ?_))
 refine UL hA l9 t9 hk (lf.more xb) aa5 f64 eN XT eF eR2 eFN ewd qU (fun h2 a2 N2 c2 Vu xi=>?_) fn 0 0 h9 none 0 0 [] om (Nat.zero_le _) rfl (by rw[List.take_zero];exact C4.nil h9);have er:Ext.iy A (gG A B W m n) size n k (Ext.nN A (gG A B W m n) size n d)=Ext.nN A (gG A B W m n) size n (d+1):=by rw[ek];rfl
 rw[er]at xi;refine zq ?_;rw[bO hA om om];exact ih (d+1) (K-1) h2 a2 N2 c2 Vu om om om (x9.trans xi.s.ext) (xi.s.back x9) (.inr ⟨h9,x9,xi⟩)
theorem OQ{h:af}(aq:h.low<=h.next){g:List (List Int)}{B:List Fc}{m n s:Nat}{A:Nat->Ext.aS}{W many size:Int}{pa qa:Option Addr}{pc qc:Nat}{bs:Nat->Nat}(t:F2 h g B m n s A W many size pa qa bs){Q:Value->af->Prop}
  (hQ:∀h' b N c hd l,mP nC 1 h' (some ⟨b,0,none⟩) N hd l->l.Perm (Ext.nN A (gG A B W m n) size n n)->l.Pairwise LL.lt->Ext h h'->Q (.slice (some ⟨b,0,none⟩) N c) h'):call 49 [.slice pa n pc,.slice qa m qc,.int .i64 W,.int .i64 many] h Q:=by
 obtain⟨NI,eN⟩:∃z:Int,z=n:=⟨_,rfl⟩;have e0:ofNat n=NI:=by rw[eN];exact aL hA n
 have n4:=t.hM.n4;have n1:=t.hM.n1;obtain⟨W0,W1,y0,y1,s0,s1⟩:=t.OH;have m1:arith .mul .i64 W many=size:=by rw[t.es];exact jG hA (by rw[<-t.es];omega) (by rw[<-t.es];omega)
 have eNn:nat NI=n:=by rw[Iu hA];omega
 have eNt:NI.toNat=n:=om
 have lz:=Lg.one h n n1;refine hA.aU Try.func49 nf (hA.alike _ _ _ rfl) aq (zc ?_)
 (refine zq ?_;repeat ((first|rw[e0]|rw[m1]);refine zq ?_))
 refine⟨Xu hA om (Int.le_refl _) om,?_⟩;refine zc ?_;rw[QB hA];refine zq ?_;rw[eNn,eNt,dB hA,dB hA,cQ hA,cQ hA,bO hA om om];obtain⟨h2,I7⟩:∃z,z=(h.push 1 (bF [.int .i64 0] n)).push 1 [.slice (some ⟨h.next,0,none⟩) n n]:=⟨_,rfl⟩;rw[<-I7]at lz ⊢;have run:=Ext.vl t.KF n (Nat.le_refl n);obtain⟨rl,erl⟩:∃z,z=Ext.nN A (gG A B W m n) size n n:=⟨_,rfl⟩;refine UP hA aq t eN (fun hs h3 a N c hd lo x x'=>?_) n 0 (NI-1) h2 _ 1 1 _ om om om lz.ext lz (.inl rfl);rw[<-erl]at lo run hQ;have hN:=lo.s.gr.len;have hm:=t.em;have HX:1<=N/\N<=64:=by
  have h4:=run.2.2.2;rw[Nat.sub_self]at h4;have e1:(rl.length:Int)*1=many:=by rw[hm,<-h4];rfl
  have:=t.m64;omega
 rcases lo.kA with ⟨_,q,_⟩|⟨b,rfl,ec,hb,_,_⟩
 ·omega
 have l3:=x.aD aq;have lb:oY h3 b=oY h3 b:=rfl;have db:=lo.dat l3 om (fun y y0 y1=>by
  have h5:=lo.s.gr.vp y0 y1;have h6:gt rl y∈rl:=by
   unfold gt;rw[List.getD_eq_getElem?_getD,List.getElem?_eq_getElem om];exact List.getElem_mem _
  have h7:=((run.1 _).1 h6).len;omega)
 have hnb:h.next<=b:=Nat.le_trans x'.next (lo.s.fr _ rfl);have xb:Ext h (oY h3 b):=KU x hnb;refine zq ?_;refine OP hA (show(oY h3 b).low<=(oY h3 b).next from Nat.min_le_right _ _) db (fun h4 L' d4 p4 s4=>?_);refine zq ?_;have hlz:=Ft (hd:=hd) (g:=rl) (by have:=lo.s.gr.hd.len;omega);have so:=zU (n:=N) om p4 s4 (by rw[zT (by have:=lo.s.gr.hd.len;omega)];exact run.2.2.1);rw[zT (by have:=lo.s.gr.hd.len;omega)]at so;exact hQ h4 b N c _ _ d4.aa3 so.1 so.2 (xb.trans d4.ext)
theorem Yu{h0:af}(fF:h0.low<=h0.next){x:List Int}{n xc:Nat}{xa:Option Addr}(hx:Rows nC 1 h0 xa n x)(n4:n<=4){W many size NI:Int}(eN:NI=n)(m1:arith .mul .i64 W many=size)(s0:0<size)(s1:size<=829440000)(hr:∀j:Nat,j<n->0<=gt x (j:Int)/\gt x (j:Int)<size){oa fa:Option Addr}{on oc fn fc:Nat}{FN FI:Int}{c1:List Value}{Q:Exit->SS->Prop}
  (hQ:∀h' a c,lE h' 2 a n c ((F4 size x).flatMap fC)->iJ h0.next a->Ext h0 h'->Q (.exit 2) ⟨[(4,.int .i64 many),(8,.int .i64 W),(11,.slice oa on oc),(14,.slice a n c),(48,.slice fa fn fc),(49,.int .i64 FN),(50,.int .i64 FI)],1,[(0,c1)],h'⟩) :
  ∀(d i:Nat) (I:Int) (h:af) (a:Option Addr) (c:Nat),n-i<=d->i<=n->I=i->lE h 2 a i c ((F4 size (x.take i)).flatMap fC)->iJ h0.next a->Ext h0 h->
   head 21 16 1 ⟨[(4,.int .i64 many),(8,.int .i64 W),(11,.slice oa on oc),(14,.slice a i c),(48,.slice fa fn fc),(49,.int .i64 FN),(50,.int .i64 FI),(54,.slice xa n xc),(55,.int .i64 NI),(56,.int .i64 I)],1,[(0,c1)],h⟩ Q:=by
 intro d;have ln:=hx.len
 induction d with
 |zero=>
  intro i I h a c hd hi eI t fo x';refine hA.ar Try.func21 x21.2 (zc ?_);refine br (I<NI) (by rw[aA hA]) (fun q=>om) (fun _=>?_)<;>refine zc ?_;obtain rfl:i=n:=om
  rw[List.take_of_length_le om]at t;exact hQ h a c t fo x'
 |succ d ih=>
 intro i I h a c hd hi eI t fo x';by_cases ci:i<n
 rotate_left
 ·refine hA.ar Try.func21 x21.2 (zc ?_)
  refine br (I<NI) (by rw[aA hA]) (fun q=>om) (fun _=>?_)<;>refine zc ?_;obtain rfl:i=n:=om
  rw[List.take_of_length_le om]at t;exact hQ h a c t fo x'
 have aq:=x'.aD fF;obtain⟨xb,xo,rfl,_,q1⟩:=(hx.ext x').at (i:=I) om om;have q1:=q1 0 1 om om;obtain⟨v,ev⟩:∃z,z=gt x I:=⟨_,rfl⟩;have hv:=hr i ci;rw[<-eI,<-ev]at hv;rw[<-ev]at q1;have r1:rd h xb (place xo I 1) 1 [.int .i64 v]:=aC hA q1;have et:=OI (size:=size) (x:=x) eI om;rw[<-ev]at et;refine hA.ar Try.func21 x21.2 (zc ?_);refine br (I<NI) (by rw[aA hA]) (fun _=>?_) (fun q=>om)<;>refine zc ?_
 (refine zq ?_;repeat ((first|rw[m1]);refine zq ?_))
 refine IX hA aq (n:=v) (d:=size) (by unfold i64;omega) (by unfold i64;omega) (fun n' d' e At h1 x1=>⟨_,_,_,rfl,?_⟩);have Ah:=x1.aD aq;have y1:=x'.trans x1;have hf:fits (rq v size):=xq om om om;have Yv:n'=(fr v size).n/\d'=(fr v size).d/\e=0:=by
  rcases At with ⟨q,_⟩|⟨_,q⟩
  ·omega
  ·rcases q with ⟨_,q1,q2,q3⟩|⟨q,_⟩
   ·exact⟨q1,q2,q3⟩
   ·exact absurd hf q
 obtain⟨rfl,rfl,rfl⟩:=Yv;obtain⟨u,eu⟩:∃z,z=fr v size:=⟨_,rfl⟩;rw[<-eu]at et ⊢;have t1:=t.ext x1;refine zq ?_;rw[show cmp .neq 0 0=false by rw[cB hA];rfl];refine zq ?_;refine Iq hA ZJ mq om Jj (v:=u) t1 om (fun a' c' h2 t2 x2=>?_);rw[<-et]at t2;obtain⟨x3,f3⟩:=x2 h0 y1 fo;obtain⟨i1,Iy⟩:∃z,z=i+1:=⟨_,rfl⟩;rw[<-Iy]at t2 ⊢;refine zq ?_;rw[aH hA om om];exact ih i1 (I+1) h2 a' c' om om om t2 f3 x3
theorem UQ{h0:af}(fF:h0.low<=h0.next){l:List (List Int)}{n N lc:Nat}{la:Option Addr}{lh:List Hd}(gl:mP nC 1 h0 la N lh l)(n4:n<=4)(N64:N<=64){W many size NL:Int}(eN:NL=N)(m1:arith .mul .i64 W many=size)(s0:0<size)(s1:size<=829440000)(hr:∀x,x∈l->x.length=n/\∀j:Nat,j<n->0<=gt x (j:Int)/\gt x (j:Int)<size){c1:List Value}{Q:Exit->SS->Prop}
  (hQ:∀h' a c hd,Fw h0 h' a N c hd (l.map (F4 size))->Q (.exit 0) ⟨[(11,.slice a N c)],1,[(0,c1)],h'⟩) :
  ∀(d i:Nat) (I:Int) (h:af) (a:Option Addr) (c:Nat) (hd:List Hd),N-i<=d->i<=N->I=i->Fw h0 h a i c hd ((l.take i).map (F4 size))->
   head 21 12 1 ⟨[(4,.int .i64 many),(8,.int .i64 W),(11,.slice a i c),(48,.slice la N lc),(49,.int .i64 NL),(50,.int .i64 I)],1,[(0,c1)],h⟩ Q:=by
 intro d;have ln:=gl.len
 induction d with
 |zero=>
  intro i I h a c hd wq hi eI t;refine hA.ar Try.func21 x21.2 (zc ?_);refine br (I<NL) (by rw[aA hA]) (fun q=>om) (fun _=>?_)<;>refine zc ?_;obtain rfl:i=N:=om
  rw[List.take_of_length_le om]at t;exact hQ h a c hd t
 |succ d ih=>
 intro i I h a c hd wq hi eI t;by_cases ci:i<N
 rotate_left
 ·refine hA.ar Try.func21 x21.2 (zc ?_)
  refine br (I<NL) (by rw[aA hA]) (fun q=>om) (fun _=>?_)<;>refine zc ?_;obtain rfl:i=N:=om
  rw[List.take_of_length_le om]at t;exact hQ h a c hd t
 have aq:=t.ext.aD fF;have gl':=gl.ext t.ext;obtain⟨lb,lo,rfl,hlb,q1⟩:=gl'.mj (i:=I) om om;obtain⟨ra,era⟩:∃z,z=(gt lh I).a:=⟨_,rfl⟩;obtain⟨rc,Fe⟩:∃z,z=(gt lh I).c:=⟨_,rfl⟩;have row:=gl'.row I om om;obtain⟨x,ex⟩:∃z,z=gt l I:=⟨_,rfl⟩;have xm:x∈l:=by
  rw[ex];unfold gt;rw[List.getD_eq_getElem?_getD,List.getElem?_eq_getElem om];exact List.getElem_mem _
 obtain⟨xl,xr⟩:=hr x xm;have rl:=row.len;rw[<-ex,xl]at rl;rw[<-ex,<-era,<-rl]at row;rw[<-era,<-Fe,<-rl]at q1;have r1:rd h lb (place lo I 1) 1 [.slice ra n rc]:=aC hA q1;obtain⟨NI,VH⟩:∃z:Int,z=n:=⟨_,rfl⟩;have e0:ofNat n=NI:=by rw[VH];exact aL hA n
 have et:(l.take (i+1)).map (F4 size)=(l.take i).map (F4 size)++[F4 size x]:=by
  rw[zR l eI om,List.map_append,<-ex];rfl
 refine hA.ar Try.func21 x21.2 (zc ?_);refine br (I<NL) (by rw[aA hA]) (fun _=>?_) (fun q=>om)<;>refine zc ?_
 (refine zq ?_;repeat ((first|rw[e0]);refine zq ?_))
 refine Yu hA aq row n4 VH m1 s0 s1 xr (fun h2 a2 c2 t2 f2 x2=>?_) n 0 0 h none 0 om om rfl (.nil _ _) (.none _) (.refl h);have xi:=t.more x2;have hn:=t.kA.lt;have hN:=x2.next;refine zq ?_;refine xk hA TLF fM om zM (v:=(⟨a2,n,c2⟩:Hd)) xi.kA om (fun b' h3 a' x' n' Uj k'=>?_);have t3:=xi.add (k:=⟨a2,n,c2⟩) (r:=F4 size x) (by
   refine⟨t2.cells,mq,om⟩) (fun ad bQ bd mC=>by have:=f2 bd mC;have:=hn ad bQ;omega) a' (x' h0 xi.ext xi.fr) n' Uj k'
 rw[<-et]at t3;generalize az 1 (i+1)=cc at *;obtain⟨i1,Iy⟩:∃z,z=i+1:=⟨_,rfl⟩;rw[<-Iy]at t3 ⊢;refine zq ?_;rw[aH hA om om];exact ih i1 (I+1) h3 _ cc _ om om om t3
theorem UR (hI : sT F) {h : af} (aq : h.low ≤ h.next) {m ac k bc : Nat} {aa ba : Option Addr} {cT : List Hd} {g : List (List Int)} {B : List Fc} (hg : Ai nC 1 h aa m cT g) (hB : Rows fC 2 h ba k B) (hi : ∀ i : Int, 0 ≤ i → i < k → i64 (gt B i).n ∧ i64 (gt B i).d) {Q : Value → af → Prop} 
   (XR : ∀ e h', jK g B e → e ≠ 0 → Ext h h' → Q (.tuple #[.slice none 0 0, .int .i64 e]) h')
   (Uy : ∀ e h' n, jK g B 0 → nR g m n → wH g B m n e → Ext h h' → Q (.tuple #[.slice none 0 0, .int .i64 e]) h')
   (VA : ∀ hs h' n N c a hd L, jK g B 0 → nR g m n → vx g B m n L → Ext h hs → Fw hs h' a N c hd L → Q (.tuple #[.slice a N c, .int .i64 0]) h')
   : call 21 [.agg #[.slice aa m ac, .slice ba k bc]] h Q := by
  refine hA.aU Try.func21 x21.2 (hA.alike _ _ _ rfl) aq (zc ?_)
  refine zq ?_
  refine Ok hA hI aq hg hB hi (fun e h1 he ne x1 => ⟨_, _, _, rfl, ?_⟩) (fun h1 n he hM nr x1 => ⟨_, _, _, rfl, ?_⟩) (fun h1 n r c f he hM hR ir ec ef x1 => ⟨_, _, _, rfl, ?_⟩)
  · refine zq ?_
    rw [show cmp .neq e 0 = true by rw [cB hA]; simp [ne]]
    refine zq ?_
    exact XR e h1 he ne x1
  · refine zq ?_
    rw [show cmp .neq 6 0 = true by rw [cB hA]; rfl]
    refine zq ?_
    exact Uy 6 h1 n he hM (.inl ⟨nr, rfl⟩) x1
  · refine zq ?_
    rw [show cmp .neq 0 0 = false by rw [cB hA]; rfl]
    refine zq ?_
    refine br (f > 0) (by rw [dP hA]) (fun cf => ?_) (fun cf => ?_) <;> refine zc ?_
    · refine zq ?_
      exact Uy 24 h1 n he hM (.inr ⟨hR, r, ir, .inl ⟨om, rfl⟩⟩) x1
    obtain rfl : n = r := by have := ir.ln; omega
    refine zq ?_
    refine br (c > 64) (by rw [dP hA]) (fun cc => ?_) (fun cc => ?_) <;> refine zc ?_
    · refine zq ?_
      exact Uy 4 h1 n he hM (.inr ⟨hR, n, ir, .inr ⟨rfl, by omega, rfl⟩⟩) x1
    obtain ⟨gd, nm⟩ := he.rU
    have Ah := x1.aD aq
    have hgr := hg.full (fun y y0 y1 => by rw [hM.row y y0 y1]; exact hM.n1)
    have Vz : k = m := by have := gd.len; have := hB.len; have := hg.len; omega
    subst Vz
    have ht : ∀ i : Int, 0 ≤ i → i < k → cI (gt B i) ∧ (gt B i).d ≤ 60 := fun i i0 i1 => gd.turn i i0 (by have := hB.len; omega)
    have k4 := hM.m4
    refine zq ?_
    refine BD hA Ah (hB.ext x1) k4 ht (fun W h2 pa pc w t x2 => ⟨_, _, _, _, rfl, ?_⟩)
    have BM := x2.aD Ah
    refine zq ?_
    refine Fg hA hI BM hM ((hgr.ext x1).ext x2) (fun h3 r s ra rc qa qc bs rb A st rw hd gd _ => ⟨_, _, _, _, _, _, rfl, ?_⟩)
    obtain rfl := (st.aaV hM).uniq ir
    have KF := st.KF (B := B) w.pos
    have x3 := rw.ext
    have U5 := x3.aD BM
    have em : c = Ext.Mk A r := by rw [← st.Yq hM]; exact ec
    refine zq ?_
    refine OQ hA U5 (size := W * c) (⟨hM, st, w, ht, ⟨hd.kA.cells, fM, by omega⟩, ⟨_, rw⟩, ⟨(t.ext x3).cells, dQ, by omega⟩, em, by omega, rfl⟩ : F2 h3 g B k r s A W c (W * c) ra pa bs) (fun h4 b N c4 Yt l g4 pl sl x4 => ⟨_, _, _, rfl, ?_⟩)
    obtain ⟨NL, eNL⟩ : ∃ z : Int, z = N := ⟨_, rfl⟩
    have e0 : ofNat N = NL := by rw [eNL]; exact aL hA _
    have mp := qW (A := A) r (fun i hi => st.diag hi)
    have wf := w.gi k4
    have sp : 0 < W * c := Int.mul_pos w.pos om
    have s1 : W * c ≤ 12960000 * 64 := Int.mul_le_mul wf om om om
    obtain ⟨size, VI⟩ : ∃ z, z = W * c := ⟨_, rfl⟩
    have m1 : arith .mul .i64 W c = size := by rw [VI]; exact jG hA (by rw [← VI]; omega) (by rw [← VI]; omega)
    rw [← em, ← VI] at KF
    rw [← VI] at pl sp s1
    have run := Ext.vl KF r (Nat.le_refl r)
    have hr : ∀ x, x ∈ l → x.length = r ∧ ∀ j : Nat, j < r → 0 ≤ gt x (j : Int) ∧ gt x (j : Int) < size := fun x hx => by
      have := (run.1 x).1 (pl.mem_iff.1 hx)
      exact ⟨this.len, fun j hj => this.yO j om hj⟩
    have ag : vx g B k r (l.map (F4 size)) := by
      have e1 : size = W * Ext.Mk A r := by rw [VI, em]
      rw [e1] at pl s1 ⊢
      exact vx.of hM st hR ir om w ht om pl sl
    have lN : N ≤ 64 := by
      have h1 := ag.len
      rw [List.length_map] at h1
      have := g4.len
      omega
    (refine zq ?_; repeat ((first | rw [e0]); refine zq ?_))
    refine UQ hA (x4.aD U5) g4 hM.n4 lN eNL m1 sp om hr (fun h5 a5 c5 hd5 t5 => ?_) N 0 0 h4 none 0 [] om om rfl (Fw.nil h4)
    refine zq ?_
    exact VA h4 h5 r N c5 a5 hd5 _ he hM ag (((x1.trans x2).trans x3).trans x4) t5
theorem HJ{h:af}(aq:h.low<=h.next){a b:Option Addr}{n ca cb:Nat}{l:List Fc}(ha:Rows fC 2 h a n l)(hb:Rows fC 2 h b n l)(HK:n<=100000){Q:Exit->SS->Prop}(hQ:∀h' kn T,Ext h h'->Q (.exit 0) ⟨[],kn,T,h'⟩) :
  ∀(d i:Nat) (I:Int) (h1:af),n-i=d->i<=n->I=i->Ext h h1->head 74 4 0 ⟨[(0,.slice a n ca),(1,.slice b n cb),(5,.int .i64 I)],0,[],h1⟩ Q:=by
 intro d
 induction d with
 |zero=>
  intro i I h1 hd hi eI e;refine hA.ar Try.func74 x74.2 (zc ?_);refine br (I<(n:Int)) (by rw[aA hA,aL hA]) (fun q=>om) (fun _=>?_)<;>refine zc ?_;exact hQ h1 _ _ e
 |succ d ih=>
 intro i I h1 hd hi eI e;have x9:Ext h1 (aG h1 9):=au hA _ _;obtain⟨ab,ao,e1,_,r1⟩:=(ha.ext (e.trans x9)).at (i:=I) om om;obtain⟨bb,bo,e2,_,r2⟩:=(hb.ext (e.trans x9)).at (i:=I) om om;subst e1 e2;obtain⟨xn,xd,hx⟩:∃x y,gt l I=⟨x,y⟩:=⟨_,_,rfl⟩;have r1:=r1 0 2 om om;have r2:=r2 0 2 om om;rw[hx]at r1 r2;have r1:rd (aG h1 9) ab (place ao I 2) 2 [.int .i64 xn,.int .i64 xd]:=aC hA r1;have r2:rd (aG h1 9) bb (place bo I 2) 2 [.int .i64 xn,.int .i64 xd]:=aC hA r2;refine hA.ar Try.func74 x74.2 (zc ?_);refine br (I<(n:Int)) (by rw[aA hA,aL hA]) (fun _=>?_) (fun q=>om)<;>refine zc ?_;refine zq ?_;obtain⟨r,B5,JL⟩:=eqF xn xd xn xd;obtain rfl:r=true:=JL.2 ⟨rfl,rfl⟩;rw[ux hA];refine⟨Uc,true,B5,?_⟩;refine zc ?_;refine br False (by rw[dk hA];rfl) (fun q=>q.elim) (fun _=>?_)<;>refine zc ?_;rw[aH hA om om];exact ih (i+1) (I+1) _ om om om (e.trans x9)
theorem OR{h:af}(aq:h.low<=h.next){a b:Option Addr}{n ca cb:Nat}{l:List Fc}(ha:Rows fC 2 h a n l)(hb:Rows fC 2 h b n l)(HK:n<=100000){Q:Value->af->Prop}(hQ:∀h',Ext h h'->Q (.bool true) h'):call 74 [.slice a n ca,.slice b n cb] h Q:=by
 refine hA.aU Try.func74 x74.2 (hA.alike _ _ _ rfl) aq (zc ?_);refine br ((n:Int)≠n) (by rw[cB hA,aL hA]) (fun q=>absurd rfl q) (fun _=>?_)<;>refine zc ?_;refine HJ hA aq ha hb HK (fun h' kn T e=>?_) n 0 0 h om om rfl (.refl h);refine zc ?_;exact hQ h' e
theorem KV{h:af}(aq:h.low<=h.next){a b:Option Addr}{n ca cb:Nat}{ha hb:List Hd}{g:List (List Fc)}(pa:mP fC 2 h a n ha g)(pb:mP fC 2 h b n hb g)(HK:n<=100000)(OS:∀y:Int,0<=y->y<n->(gt g y).length<=100000){Q:Exit->SS->Prop}(hQ:∀h' kn T,Ext h h'->Q (.exit 0) ⟨[],kn,T,h'⟩) :
  ∀(d i:Nat) (I:Int) (h1:af),n-i=d->i<=n->I=i->Ext h h1->head 51 4 0 ⟨[(0,.slice a n ca),(1,.slice b n cb),(5,.int .i64 I)],0,[],h1⟩ Q:=by
 intro d
 induction d with
 |zero=>
  intro i I h1 hd hi eI e;refine hA.ar Try.func51 x51.2 (zc ?_);refine br (I<(n:Int)) (by rw[aA hA,aL hA]) (fun q=>om) (fun _=>?_)<;>refine zc ?_;exact hQ h1 _ _ e
 |succ d ih=>
 intro i I h1 hd hi eI e;obtain⟨h9,iF⟩:∃z,z=aG h1 10:=⟨_,rfl⟩;have x9:Ext h1 h9:=by rw[iF];exact au hA _ _
 have e9:=e.trans x9;have l9:=e9.aD aq;obtain⟨ab,ao,e1,_,r1⟩:=(pa.ext e9).hd.at (i:=I) om om;obtain⟨bb,bo,e2,_,r2⟩:=(pb.ext e9).hd.at (i:=I) om om;subst e1 e2;obtain⟨ra,rn,rc,hx⟩:∃x y z,gt ha I=⟨x,y,z⟩:=⟨_,_,_,rfl⟩;obtain⟨sa,sn,sc,hy⟩:∃x y z,gt hb I=⟨x,y,z⟩:=⟨_,_,_,rfl⟩;have qa:=(pa.ext e9).row I om om;have qb:=(pb.ext e9).row I om om;rw[hx]at qa;rw[hy]at qb;have qa:Rows fC 2 h9 ra rn (gt g I):=qa;have qb:Rows fC 2 h9 sa sn (gt g I):=qb;obtain rfl:rn=sn:=by rw[<-qa.len,<-qb.len]
 have wl:=OS I om om;have ql:=qa.len;have r1:=r1 0 1 om om;have r2:=r2 0 1 om om;rw[hx]at r1;rw[hy]at r2;have r1:rd h9 ab (place ao I 1) 1 [.slice ra rn rc]:=aC hA r1;have r2:rd h9 bb (place bo I 1) 1 [.slice sa rn sc]:=aC hA r2;refine hA.ar Try.func51 x51.2 (zc ?_);refine br (I<(n:Int)) (by rw[aA hA,aL hA]) (fun _=>?_) (fun q=>om)<;>refine zc ?_;rw[<-iF];refine zq ?_;refine OR hA (aB hA h9) (qa.ext (iu hA h9)) (qb.ext (iu hA h9)) om (fun hz ez=>⟨_,rfl,?_⟩);obtain⟨hX,IW⟩:∃z,z=aw h9 hz:=⟨_,rfl⟩;have eX:Ext h9 hX:=by rw[IW];exact cG hA l9 (.refl h9) ez
 refine zc ?_;rw[<-IW];refine br False (by rw[dk hA];rfl) (fun q=>q.elim) (fun _=>?_)<;>refine zc ?_;rw[aH hA om om];exact ih (i+1) (I+1) _ om om om (e9.trans eX)
theorem Rp{h:af}(aq:h.low<=h.next){a b:Option Addr}{n ca cb:Nat}{ha hb:List Hd}{g:List (List Fc)}(pa:mP fC 2 h a n ha g)(pb:mP fC 2 h b n hb g)(HK:n<=100000)(OS:∀y:Int,0<=y->y<n->(gt g y).length<=100000){Q:Value->af->Prop}(hQ:∀h',Ext h h'->Q (.bool true) h'):call 51 [.slice a n ca,.slice b n cb] h Q:=by
 refine hA.aU Try.func51 x51.2 (hA.alike _ _ _ rfl) aq (zc ?_);refine br ((n:Int)≠n) (by rw[cB hA,aL hA]) (fun q=>absurd rfl q) (fun _=>?_)<;>refine zc ?_;refine KV hA aq pa pb HK OS (fun h' kn T e=>?_) n 0 0 h om om rfl (.refl h);refine zc ?_;exact hQ h' e
theorem OT{h:af}(aq:h.low<=h.next){a b:Option Addr}{n ca cb:Nat}{ha hb:List Hd}{g:List (List Fc)}(pa:mP fC 2 h a n ha g)(pb:mP fC 2 h b n hb g)(HK:n<=100000)(OS:∀y:Int,0<=y->y<n->(gt g y).length<=100000){Q:Value->af->Prop}(hQ:∀h',Ext h h'->Q (.bool true) h'):call 22 [.slice a n ca,.slice b n cb] h Q:=by
 refine hA.aU Try.func22 x22.2 (hA.alike _ _ _ rfl) aq (zc ?_);refine zq ?_;refine Rp hA aq pa pb HK OS (fun h' x=>⟨_,rfl,?_⟩);refine zq ?_;exact hQ h' x
theorem zY{h:af}(aq:h.low<=h.next){m n r ac k bc:Nat}{aa ba:Option Addr}{cT:List Hd}{g g':List (List Int)}{B':List Fc}(hc:jK g' B' 0)(hM:nR g' m n)(ir:nu g m n r)(e:∀k,k<=4->Ext.Dv g' m n k=Ext.Dv g m n k)(hg:mP nC 1 h aa m cT g')(hB:Rows fC 2 h ba k B')(hi:∀i:Int,0<=i->i<k->i64 (gt B' i).n/\i64 (gt B' i).d){Q:Value->af->Prop}
  (hQ:∀h' qa qc,Rows nC 1 h' qa r (AK g m n r)->Ext h h'->Q (.tuple #[.slice qa r qc,.int .i64 0]) h'):call 8 [.agg #[.slice aa m ac,.slice ba k bc]] h Q:=by
 refine sD hA aq hg.US hB hi (fun e' h' c' ne _=>absurd (hc.uniq c').symm ne) (fun h' n' r' qa qc c' Ab x' ir' t=>?_);obtain⟨_,rfl⟩:=hM.uniq Ab;have ir2:=ir.OJ hM.n4 hM.m4 e;obtain rfl:=ir2.uniq ir';rw[HI (by have:=ir.lm;have:=hM.m4;omega) hM.m4 e ir]at t;exact hQ h' qa qc ⟨t.cells,dQ,om⟩ x'
theorem Jk(hI:sT F){h:af}(aq:h.low<=h.next){m n ac k bc:Nat}{aa ba:Option Addr}{cT:List Hd}{g:List (List Int)}{B:List Fc}(hc:jK g B 0)(hM:nR g m n)(hg:mP nC 1 h aa m cT g)(hB:Rows fC 2 h ba k B)(hi:∀i:Int,0<=i->i<k->i64 (gt B i).n/\i64 (gt B i).d){Q:Value->af->Prop}
  (hQ:∀e L hs h' N c a hd,zX g B m n e L->Ext h hs->Fw hs h' a N c hd L->Q (.tuple #[.slice a N c,.int .i64 e]) h'):call 21 [.agg #[.slice aa m ac,.slice ba k bc]] h Q:=by
 refine UR hA hI aq hg.US hB hi (fun e' h' c' ne _=>absurd (hc.uniq c').symm ne) (fun e' h' n' c' Ab ae x=>?_) (fun hs h' n' N c a hd L' c' Ab ag' x t=>?_)
 ·obtain⟨_,rfl⟩:=hM.uniq Ab
  exact hQ e' [] h' h' 0 0 none [] (.inr ⟨ae,rfl⟩) x (Fw.nil h')
 ·obtain⟨_,rfl⟩:=hM.uniq Ab
  exact hQ 0 L' hs h' N c a hd (.inl ⟨rfl,ag'⟩) x t
theorem Fx(hI:sT F){h:af}(aq:h.low<=h.next){m n ac k bc:Nat}{aa ba:Option Addr}{cT:List Hd}{g:List (List Int)}{B:List Fc}{e:Int}{L:List (List Fc)}(hc:jK g B 0)(hM:nR g m n)(av:zX g B m n e L)(hg:mP nC 1 h aa m cT g)(hB:Rows fC 2 h ba k B)(hi:∀i:Int,0<=i->i<k->i64 (gt B i).n/\i64 (gt B i).d){Q:Value->af->Prop}
  (hQ:∀hs h' N c a hd,Ext h hs->Fw hs h' a N c hd L->Q (.tuple #[.slice a N c,.int .i64 e]) h'):call 21 [.agg #[.slice aa m ac,.slice ba k bc]] h Q:=by
 refine Jk hA hI aq hc hM hg hB hi (fun e' L' hs h' N c a hd av' x t=>?_);obtain⟨rfl,rfl⟩:=av.uniq av';exact hQ hs h' N c a hd x t
theorem BG{h:af}(aq:h.low<=h.next){g:List (List Int)}{B:List Fc}{m n:Nat}{e:Int}{L:List (List Fc)}(n4:n<=4)(av:zX g B m n e L){hs pZ h1 h2:af}{a a':Option Addr}{N N' c c':Nat}{hd wq:List Hd}(t:Fw hs h1 a N c hd L)(t':Fw pZ h2 a' N' c' wq L)(e1:Ext h1 h)(e2:Ext h2 h){Q:Value->af->Prop}(hQ:∀h',Ext h h'->Q (.bool true) h'):call 22 [.slice a N c,.slice a' N' c'] h Q:=by
 have l1:=t.gr.len;have l2:=t'.gr.len;obtain rfl:N=N':=om
 obtain⟨f1,f2⟩:=av.gi n4;refine OT hA aq (t.gr.ext e1) (t'.gr.ext e2) om (fun y y0 y1=>?_) hQ;have hm:gt L y∈L:=by
  unfold gt;rw[List.getD_eq_getElem?_getD,List.getElem?_eq_getElem om];exact List.getElem_mem _
 have:=f2 _ hm;omega
