import Derived.Test.YtdpbiegfljmhmaaDetF
import Derived.Test.YtdpbiegfljmhmaaDetG
import Derived.Test.YtdpbiegfljmhmaaSmIn
import Derived.Test.YtdpbiegfljmhmaaSmX
import Derived.Test.YtdpbiegfljmhmaaFqC
import Derived.Test.YtdpbiegfljmhmaaLsR
import Derived.Test.YtdpbiegfljmhmaaSlPi
set_option linter.unusedSimpArgs false
set_option linter.unusedVariables false
namespace Go.Proofs.Ytdpbiegfljmhmaa
open Go.Sim
set_option maxRecDepth 100000
theorem Rows.lt{α:Type}{enc:α->List Value}{es:Nat}{h:af}{a:Option Addr}{n:Nat}{l:List α}(p:Rows enc es h a n l):∀ad,a=some ad->ad.block<h.next:=fun ad had=>by
 subst had;exact p.cells.2.1
theorem Rows.keep{α:Type}{enc:α->List Value}{es:Nat}{h h':af}{a:Option Addr}{n:Nat}{l:List α}(p:Rows enc es h a n l)(hn:h.next<=h'.next)(hk:∀ad,a=some ad->h'.m.get ad.block=h.m.get ad.block):Rows enc es h' a n l:=by
 refine⟨?_,p.each,p.pos⟩;cases a with
 |none=>exact p.cells
 |some ad=>
  obtain⟨h1,h2,h3⟩:=p.cells;refine⟨h1,Nat.lt_of_lt_of_le h2 hn,?_⟩;unfold af.readG af.cells? at h3 ⊢;rw[hk ad rfl];exact h3
def Js(k:Hd):Prop:=0<k.n->k.c=k.n\/k.c=ar 1 k.n
structure EG(h0 h:af)(a:Option Addr)(N:Nat)(hd:List Hd)(g:List (List Int)):Prop where
 ext:Ext h0 h
 gr:jX nC 1 h a N hd g
 cap:∀y:Int,0<=y->y<N->Js (gt hd y)
 fr:gf h0.next a
 rfr:∀y:Int,0<=y->y<N->gf h0.next (gt hd y).a
theorem EG.more{h0 h h':af}{a:Option Addr}{N:Nat}{hd:List Hd}{g:List (List Int)}(t:EG h0 h a N hd g)(e:Ext h h'):EG h0 h' a N hd g:=⟨t.ext.trans e,t.gr.ext e,t.cap,t.fr,t.rfr⟩
theorem EG.back{h0 h1 h:af}{a:Option Addr}{N:Nat}{hd:List Hd}{g:List (List Int)}(t:EG h1 h a N hd g)(e:Ext h0 h1):EG h0 h a N hd g:=
 ⟨e.trans t.ext,t.gr,t.cap,fun ad had=>Nat.le_trans e.next (t.fr ad had),fun y y0 y1 ad had=>Nat.le_trans e.next (t.rfr y y0 y1 ad had)⟩
structure xD(h0 h:af)(a:Option Addr)(N c:Nat)(hd:List Hd)(g:List (List Int)):Prop where
 s:EG h0 h a N hd g
 apd:jw h 1 a N c (hd.flatMap Hd.cells)
 bel:∀ad,a=some ad->∀y:Int,0<=y->y<N->∀bd,(gt hd y).a=some bd->bd.block<ad.block
theorem xD.sep{h0 h:af}{a:Option Addr}{N c:Nat}{hd:List Hd}{g:List (List Int)}(t:xD h0 h a N c hd g):∀ad,a=some ad->∀y:Int,0<=y->y<N->∀bd,(gt hd y).a=some bd->bd.block≠ad.block:=fun ad had y y0 y1 bd hbd=>Nat.ne_of_lt (t.bel ad had y y0 y1 bd hbd)
theorem xD.more{h0 h h':af}{a:Option Addr}{N c:Nat}{hd:List Hd}{g:List (List Int)}(t:xD h0 h a N c hd g)(e:Ext h h'):xD h0 h' a N c hd g:=⟨t.s.more e,t.apd.ext e,t.bel⟩
theorem xD.nil(h:af):xD h h none 0 0 [] []:=
 ⟨⟨.refl h,⟨Rows.nil h dF (by omega),rfl,fun y y0 y1=>by omega⟩,fun y y0 y1=>by omega,.none _,fun y y0 y1=>by omega⟩,.nil _ _,fun ad had=>by cases had⟩
theorem sD{α:Type}[Inhabited α](l:List α)(x:α){i:Int}(i0:0<=i)(hi:i<=l.length):gt (l++[x]) i=if i<l.length then gt l i else x:=by
 unfold gt;rw[List.getD_eq_getElem?_getD,List.getD_eq_getElem?_getD];by_cases c:i<l.length
 ·rw[if_pos c,List.getElem?_append_left (by omega)]
 ·rw[if_neg c,show i.toNat=l.length by omega,List.getElem?_concat_length];rfl
theorem xD.add{h0 h h':af}{a:Option Addr}{N c b':Nat}{hd:List Hd}{g:List (List Int)}(t:xD h0 h a N c hd g){k:Hd}{r:List Int}(row:Rows nC 1 h k.a k.n r)(ck:Js k)(fk:gf h0.next k.a)(sk:∀ad,a=some ad->∀bd,k.a=some bd->bd.block≠ad.block)
  (a':jw h' 1 (some ⟨b',0,none⟩) (N+1) (ar 1 (N+1)) ((hd++[k]).flatMap Hd.cells)) (xe:Ext h0 h') (n':h.next<h'.next) (nb':h.next<b') (k':∀i,i<h.next->(∀ad,a=some ad->ad.block≠i)->h'.m.get i=h.m.get i) :
  xD h0 h' (some ⟨b',0,none⟩) (N+1) (ar 1 (N+1)) (hd++[k]) (g++[r]):=by
 have hl:hd.length=N:=t.s.gr.hd.len;have gl:=t.s.gr.len;have hn0:=t.s.ext.next;have eh:∀y:Int,0<=y->y<((N+1:Nat):Int)->gt (hd++[k]) y=if y<N then gt hd y else k:=fun y y0 y1=>by
  rw[sD hd k y0 (by omega),hl]
 have eg:∀y:Int,0<=y->y<((N+1:Nat):Int)->gt (g++[r]) y=if y<N then gt g y else r:=fun y y0 y1=>by
  rw[sD g r y0 (by omega),gl]
 refine⟨⟨xe,⟨⟨a'.cells,dF,by omega⟩,by simp[gl],fun y y0 y1=>?_⟩,fun y y0 y1=>?_,fun ad had=>by cases had;show h0.next<=b';omega,fun y y0 y1=>?_⟩,a',fun ad had y y0 y1 bd hbd=>?_⟩
 ·rw[eh y y0 y1,eg y y0 y1]
  by_cases c:y<N
  ·rw[if_pos c,if_pos c]
   have q:=t.s.gr.row y y0 c;exact q.keep (Nat.le_of_lt n') (fun bd hbd=>k' _ (q.lt bd hbd) (fun ad had=>(t.sep ad had y y0 c bd hbd).symm))
  ·rw[if_neg c,if_neg c]
   exact row.keep (Nat.le_of_lt n') (fun bd hbd=>k' _ (row.lt bd hbd) (fun ad had=>(sk ad had bd hbd).symm))
 ·rw[eh y y0 y1]
  by_cases c:y<N
  ·rw[if_pos c];exact t.s.cap y y0 c
  ·rw[if_neg c];exact ck
 ·rw[eh y y0 y1]
  by_cases c:y<N
  ·rw[if_pos c];exact t.s.rfr y y0 c
  ·rw[if_neg c];exact fk
 ·cases had
  rw[eh y y0 y1]at hbd;show bd.block<b';by_cases c:y<N
  ·rw[if_pos c]at hbd;have:=(t.s.gr.row y y0 c).lt bd hbd;omega
  ·rw[if_neg c]at hbd;have:=row.lt bd hbd;omega
theorem Ck{α β:Type}(G:α->List β)(B:Nat)(h:∀x,(G x).length<=B):∀l:List α,(l.flatMap G).length<=l.length*B
 | []=>by simp
 |x :: l=>by
  have:=Ck G B h l;have:=h x;rw[List.flatMap_cons,List.length_append,List.length_cons,Nat.add_mul];omega
theorem kT.uniq{g:List (List Int)}{m n m' n':Nat}(a:kT g m n)(b:kT g m' n'):m=m'/\n=n':=by
 have h1:=a.len;have h2:=b.len;have h3:=a.row 0 (by omega) (by have:=a.m1;omega);have h4:=b.row 0 (by omega) (by have:=b.m1;omega);omega
structure Az(h:af)(g:List (List Int))(B:List Fc)(m n s:Nat)(A:Nat->Ext.aJ)(W many size:Int)(pa qa:Option Addr)(bs:Nat->Nat):Prop where
 hM:kT g m n
 st:bA g m n n s A
 w:oP B m W
 ht:∀i:Int,0<=i->i<m->bQ (gt B i)/\(gt B i).d<=60
 hd:Rows Hd.cells 1 h pa n (jc bs (n+m) n)
 rows:∃hz,dk hz h m (n+m) bs A
 prt:Rows nC 1 h qa m (vA B W m)
 em:many=Ext.Mk A n
 m64:many<=64
 es:size=W*many
section
variable{h:af}{g:List (List Int)}{B:List Fc}{m n s:Nat}{A:Nat->Ext.aJ}{W many size:Int}{pa qa:Option Addr}{bs:Nat->Nat}
theorem Az.more{h':af}(t:Az h g B m n s A W many size pa qa bs)(e:Ext h h'):Az h' g B m n s A W many size pa qa bs:=
 ⟨t.hM,t.st,t.w,t.ht,t.hd.ext e,by obtain⟨hz,r⟩:=t.rows;exact⟨hz,r.more e⟩,t.prt.ext e,t.em,t.m64,t.es⟩
theorem Az.tri(t:Az h g B m n s A W many size pa qa bs):Ext.vG A (ff A B W m n) size n:=by
 have:=t.st.tri (B:=B) t.w.pos;rw[<-t.em,<-t.es]at this;exact this
theorem Az.nums(t:Az h g B m n s A W many size pa qa bs):0<W/\W<=12960000/\1<=many/\many<=64/\0<size/\size<=829440000:=by
 have h1:=t.w.pos;have h2:=t.w.few t.hM.m4;have h3:=m8 (A:=A) n (fun i hi=>t.st.diag hi);rw[<-t.em]at h3;have h4:=t.m64;have h5:W*many<=12960000*64:=Int.mul_le_mul h2 h4 (by omega) (by omega);have h6:=Int.mul_pos h1 h3;have:=t.es;omega
theorem Az.lead(t:Az h g B m n s A W many size pa qa bs){k:Nat}(hk:k<n):1<=A k k/\A k k<=64:=by
 have h1:=t.st.diag hk;have h2:=(t.tri).mk_le (k:=k+1) (by omega);rw[<-t.em]at h2;have h3:A k k∣many:=Int.dvd_trans ⟨Ext.Mk A k,by show Ext.Mk A k*A k k=_;rw[Int.mul_comm]⟩ h2;have:=Int.le_of_dvd (by have:=t.nums;omega) h3;have:=t.m64;omega
end
theorem tQ{α:Type}[Inhabited α](l:List α){i:Nat}{I:Int}(eI:I=i)(h:i<l.length):l.take (i+1)=l.take i++[gt l I]:=by
 rw[List.take_succ_eq_append_getElem h]
 congr 2
 unfold gt;rw[eI,show((i:Int)).toNat=i from rfl,List.getD_eq_getElem?_getD,List.getElem?_eq_getElem h];rfl
theorem vk.over{L:List LE}{A B a b:Int}(h:vk fu L A B a b)(o:qD L A B):qD L a b:=by
 have r0:=h.r0;have r2:=h.r2;by_cases e:a=A
 ·subst e
  rcases o with o|o
  ·exact .inl o
  ·exact .inr (fun k k0 k1=>o k k0 (by omega))
 ·exact .inr (fun k k0 k1=>h.c1 (a-1) k (by omega) (by omega) k0 (by omega))
def mg(h:af)(b:Nat):af:=⟨b,Nat.min h.low b,h.m⟩
theorem AM{h:af}{b:Nat}(hb:b<=h.next)(hl:h.low<=h.next):Ext (mg h b) h:=
 ⟨hb,fun _=>hl,by
  show Nat.min (Nat.min h.low b) b<=h.low;exact Nat.le_trans (Nat.min_le_left _ _) (Nat.min_le_left _ _),fun i hi=>rfl⟩
theorem El{h0 h:af}{b:Nat}(e:Ext h0 h)(hb:h0.next<=b):Ext h0 (mg h b):=
 ⟨hb,fun _=>Nat.min_le_right _ _,Nat.le_min.2 ⟨e.lowG,Nat.le_trans (Nat.min_le_right _ _) hb⟩,fun i hi=>e.get i hi⟩
theorem Rows.below{α:Type}{enc:α->List Value}{es:Nat}{h:af}{a:Option Addr}{n b:Nat}{l:List α}(p:Rows enc es h a n l)(hb:∀ad,a=some ad->ad.block<b):Rows enc es (mg h b) a n l:=by
 refine⟨?_,p.each,p.pos⟩;cases a with
 |none=>exact p.cells
 |some ad=>
  obtain⟨h1,h2,h3⟩:=p.cells;exact⟨h1,hb ad rfl,h3⟩
def xI(hd:List Hd)(g:List (List Int)):List LE:=List.zipWith LE.mk hd g
theorem zE{hd:List Hd}{g:List (List Int)}(e:hd.length=g.length):(xI hd g).length=g.length:=by unfold xI;rw[List.length_zipWith];omega
theorem vt:∀{hd:List Hd} {g:List (List Int)},hd.length=g.length->(xI hd g).flatMap LE.cells=hd.flatMap Hd.cells
 | [],[],_=>rfl
 | [],_ :: _,h=>by simp at h
 |_ :: _,[],h=>by simp at h
 |a :: hd,r :: g,h=>by
  show LE.cells ⟨a,r⟩++(xI hd g).flatMap LE.cells=Hd.cells a++hd.flatMap Hd.cells;rw[vt (by simpa using h)];rfl
theorem tw:∀{hd:List Hd} {g:List (List Int)},hd.length=g.length->(xI hd g).map (·.row)=g
 | [],[],_=>rfl
 | [],_ :: _,h=>by simp at h
 |_ :: _,[],h=>by simp at h
 |a :: hd,r :: g,h=>by
  show r :: (xI hd g).map (·.row)=r :: g;rw[tw (by simpa using h)]
theorem IQ{hd:List Hd}{g:List (List Int)}(e:hd.length=g.length){i:Int}(i0:0<=i)(i1:i<g.length):gt (xI hd g) i=⟨gt hd i,gt g i⟩:=by
 unfold xI gt;rw[List.getD_eq_getElem?_getD,List.getElem?_zipWith,List.getElem?_eq_getElem (by omega),List.getElem?_eq_getElem (by omega),List.getD_eq_getElem?_getD,List.getD_eq_getElem?_getD,List.getElem?_eq_getElem (by omega),List.getElem?_eq_getElem (by omega)];rfl
theorem xD.dat{h0 h:af}{b N c:Nat}{hd:List Hd}{g:List (List Int)}(t:xD h0 h (some ⟨b,0,none⟩) N c hd g)(hl:h.low<=h.next)(few:N<=100000)(fr:∀y:Int,0<=y->y<N->(gt hd y).n<=100000):aV (mg h b) h b N (xI hd g):=by
 have l1:=t.s.gr.hd.len;have l2:=t.s.gr.len;have hb:=t.apd.lt _ rfl;rcases t.apd with ⟨q,_⟩|⟨b',e,_,_,_,ho⟩
 ·cases q
 cases e;refine⟨AM (Nat.le_of_lt hb) hl,?_,Nat.le_refl _,hb,by rw[zE (by omega)];exact l2,Nat.min_le_right _ _,fun i i0 i1=>?_,few⟩
 ·rw[vt (by omega)];exact ho
 ·rw[IQ (by omega) i0 (by omega)]
  exact⟨(t.s.gr.row i i0 i1).below (fun ad had=>t.bel _ rfl i i0 i1 ad had),fr i i0 i1⟩
theorem aV.grid{h0 h:af}{b n:Nat}{L:List LE}(t:aV h0 h b n L):jX nC 1 h (some ⟨b,0,none⟩) n (L.map (·.hd)) (L.map (·.row)):=by
 have ln:=t.len;refine⟨?_,by rw[List.length_map];exact ln,fun y y0 y1=>?_⟩
 ·have r:Rows LE.cells 1 h (some ⟨b,0,none⟩) L.length L:=bG.rows t.own AO (by omega) t.lt
  rw[ln]at r;refine⟨?_,dF,by omega⟩;rw[List.flatMap_map];exact r.cells
 ·have hy:y.toNat<L.length:=by omega
  have e1:gt (L.map (·.hd)) y=(gt L y).hd:=by unfold gt;rw[List.getD_eq_getElem?_getD,List.getElem?_map,List.getElem?_eq_getElem hy,List.getD_eq_getElem?_getD,List.getElem?_eq_getElem hy];rfl
  have e2:gt (L.map (·.row)) y=(gt L y).row:=by unfold gt;rw[List.getD_eq_getElem?_getD,List.getElem?_map,List.getElem?_eq_getElem hy,List.getD_eq_getElem?_getD,List.getElem?_eq_getElem hy];rfl
  rw[e1,e2];exact(t.ok y y0 y1).1.ext t.ext
theorem uW{L L':List LE}{n:Nat}(hn:L.length=n)(p:aD 0 n L L')(s:aC fu L' 0 n)(nd:(L.map (·.row)).Nodup):(L'.map (·.row)).Perm (L.map (·.row))/\(L'.map (·.row)).Pairwise LL.lt:=by
 have hp:(L'.map (·.row)).Perm (L.map (·.row)):=by
  rw[List.perm_iff_count];intro x;have h:=p.cnt (fun e=>e.row == x);unfold List.count;rw[List.countP_map,List.countP_map];exact h
 refine⟨hp,?_⟩;have nd':(L'.map (·.row)).Nodup:=hp.nodup_iff.2 nd;have hl:L'.length=n:=by rw[p.len];exact hn
 rw[List.pairwise_iff_getElem];intro i j hi hj hij;rw[List.length_map]at hi hj;have h1:=s i j (by omega) (by omega) (by omega);have g1:gt L' (i:Int)=L'[i]:=by unfold gt;rw[List.getD_eq_getElem?_getD,show((i:Int)).toNat=i from rfl,List.getElem?_eq_getElem hi];rfl
 have g2:gt L' (j:Int)=L'[j]:=by unfold gt;rw[List.getD_eq_getElem?_getD,show((j:Int)).toNat=j from rfl,List.getElem?_eq_getElem hj];rfl
 rw[g1,g2]at h1;rw[List.getElem_map,List.getElem_map];have h2:LL.le (L'[i]).row (L'[j]).row:=h1;refine Classical.byContradiction fun q=>?_
 have e:(L'[i]).row=(L'[j]).row:=LL.le_antisymm h2 (LL.not_lt.1 q);have h3:=(List.pairwise_iff_getElem.1 nd') i j (by rw[List.length_map];exact hi) (by rw[List.length_map];exact hj) hij;rw[List.getElem_map,List.getElem_map]at h3;exact h3 e
theorem Az.run{h:af}{g:List (List Int)}{B:List Fc}{m n s:Nat}{A:Nat->Ext.aJ}{W many size:Int}{pa qa:Option Addr}{bs:Nat->Nat}(t:Az h g B m n s A W many size pa qa bs){d:Nat}(hd:d<=n):(Ext.kO A (ff A B W m n) size n d).length<=64:=by
 obtain⟨_,_,_,h4⟩:=Ext.qL t.tri d hd;rw[<-t.em]at h4;have h5:=m8 (A:=A) (n-d) (fun i hi=>t.st.diag (by omega));have h6:=t.m64;refine Classical.byContradiction fun q=>?_
 have:=Int.mul_le_mul (show(65:Int)<=((Ext.kO A (ff A B W m n) size n d).length:Int) by omega) (show(1:Int)<=Ext.Mk A (n-d) by omega) (by omega) (by omega);omega
theorem rJ:∀n,aZ [.int .i64 0] n=(List.replicate n (0:Int)).flatMap nC
 |0=>rfl
 |n+1=>by rw[List.replicate_succ,List.flatMap_cons,<-rJ n];rfl
theorem EG.one(h:af)(n:Nat)(hn:1<=n):EG h ((h.push 1 (aZ [.int .i64 0] n)).push 1 [.slice (some ⟨h.next,0,none⟩) n n]) (some ⟨(h.push 1 (aZ [.int .i64 0] n)).next,0,none⟩) 1 [⟨some ⟨h.next,0,none⟩,n,n⟩] [List.replicate n 0]:=by
 have x1:Ext h (h.push 1 (aZ [.int .i64 0] n)):=Ext.push ..;have x2:Ext (h.push 1 (aZ [.int .i64 0] n)) ((h.push 1 (aZ [.int .i64 0] n)).push 1 [.slice (some ⟨h.next,0,none⟩) n n]):=Ext.push ..;have n1:(h.push 1 (aZ [.int .i64 0] n)).next=h.next+1:=rfl;have o1:bG ((h.push 1 (aZ [.int .i64 0] n))) h.next 1 (aZ [.int .i64 0] n):=bG.push ..;have o2:bG ((h.push 1 (aZ [.int .i64 0] n)).push 1 [.slice (some ⟨h.next,0,none⟩) n n]) (h.push 1 (aZ [.int .i64 0] n)).next 1 [.slice (some ⟨h.next,0,none⟩) n n]:=bG.push ..;have o1':=o1.ext x2 (by omega);have n2:((h.push 1 (aZ [.int .i64 0] n)).push 1 [.slice (some ⟨h.next,0,none⟩) n n]).next=h.next+2:=rfl;have hz:∀y:Int,0<=y->y<(1:Nat)->gt [(⟨some ⟨h.next,0,none⟩,n,n⟩:Hd)] y=⟨some ⟨h.next,0,none⟩,n,n⟩:=fun y y0 y1=>by
  obtain rfl:y=0:=by omega
  rfl
 refine⟨x1.trans x2,⟨?_,rfl,fun y y0 y1=>?_⟩,fun y y0 y1=>?_,fun ad had=>?_,fun y y0 y1 ad had=>?_⟩
 ·have:=bG.rows (enc:=Hd.cells) (es:=1) (l:=[(⟨some ⟨h.next,0,none⟩,n,n⟩:Hd)]) o2 dF (by omega) (by omega)
  exact this
 ·rw[hz y y0 y1]
  obtain rfl:y=0:=by omega
  rw[show bG ((h.push 1 (aZ [.int .i64 0] n)).push 1 [.slice (some ⟨h.next,0,none⟩) n n]) h.next 1 (aZ [.int .i64 0] n)=bG ((h.push 1 (aZ [.int .i64 0] n)).push 1 [.slice (some ⟨h.next,0,none⟩) n n]) h.next 1 ((List.replicate n (0:Int)).flatMap nC) by rw[<-rJ]]at o1';have:=bG.rows (enc:=nC) (es:=1) (l:=List.replicate n (0:Int)) o1' df (by omega) (by omega);rw[List.length_replicate]at this;exact this
 ·rw[hz y y0 y1];exact fun _=>.inl rfl
 ·cases had;show h.next<=h.next+1;omega
 ·rw[hz y y0 y1]at had;cases had;exact Nat.le_refl _
variable{F:aM}{call head arith a0 b0 c0 d0 f0 g0 j0 o0 ofNat t0 place u0 nz w0 rd wr push next d1 nat j1 z1 d2 f2 i2 j2 p2 part s2 y2 z2 b3 lowered bump c3 d3 lt ne f3 i3 j3 yn rng n3 o3 r3 s3 v3:_}(hA:AP F ⟨call,head,arith,a0,b0,c0,d0,f0,g0,j0,o0,ofNat,t0,place,u0,nz,w0,rd,wr,push,next,d1,nat,j1,z1,d2,f2,i2,j2,p2,part,s2,y2,z2,b3,lowered,bump,c3,d3,lt,ne,f3,i3,j3,yn,rng,n3,o3,r3,s3,v3⟩)
include hA
theorem HS{h0:af}(hl0:h0.low<=h0.next){n c c':Nat}{a a':Option Addr}{l:List Int}(p:Rows nC 1 h0 a n l)(q:Rows nC 1 h0 a' n l)(hn:n<=1000){N:Int}(eN:N=n){Q:Exit->SS->Prop}
  (hQ:∀h',Ext h0 h'->Q (.exit 0) ⟨[],0,[],h'⟩) :
  ∀(d i:Nat) (I:Int) (h:af),n-i<=d->i<=n->I=i->Ext h0 h->
   head 14 4 0 ⟨[(0,.slice a n c),(1,.slice a' n c'),(5,.int .i64 I)],0,[],h⟩ Q:=by
 intro d;have e0:ofNat n=N:=by rw[eN];exact aF hA n
 induction d with
 |zero=>
  intro i I h hd hi eI x;refine hA.roundR Try.func14 r14_ok (zc ?_)
  (refine zq ?_;repeat ((first|rw[e0]);refine zq ?_))
  refine br (I<N) (by rw[au hA]) (fun q=>by omega) (fun _=>?_)<;>refine zc ?_;exact hQ h x
 |succ d ih=>
 intro i I h hd hi eI x;by_cases ci:i<n
 rotate_left
 ·refine hA.roundR Try.func14 r14_ok (zc ?_)
  (refine zq ?_;repeat ((first|rw[e0]);refine zq ?_))
  refine br (I<N) (by rw[au hA]) (fun q=>by omega) (fun _=>?_)<;>refine zc ?_;exact hQ h x
 obtain⟨h9,eh9⟩:∃z,z=bump h 9:=⟨_,rfl⟩;have x9:Ext h0 h9:=x.trans (by rw[eh9];exact aq hA _ _);obtain⟨b,o,rfl,_,q1⟩:=(p.ext x9).at (i:=I) (by omega) (by omega);obtain⟨b',o',rfl,_,q2⟩:=(q.ext x9).at (i:=I) (by omega) (by omega);obtain⟨y,ey⟩:∃z,z=gt l I:=⟨_,rfl⟩;have q3:=q1 0 1 (by omega) (by omega);have q4:=q2 0 1 (by omega) (by omega);rw[<-ey]at q3 q4;have r1:rd h9 b (place o I 1) 1 [.int .i64 y]:=az hA q3;have r2:rd h9 b' (place o' I 1) 1 [.int .i64 y]:=az hA q4;refine hA.roundR Try.func14 r14_ok (zc ?_)
 (refine zq ?_;repeat ((first|rw[e0]);refine zq ?_))
 refine br (I<N) (by rw[au hA]) (fun _=>?_) (fun q=>by omega)<;>refine zc ?_;rw[<-eh9];refine zq ?_;refine br (y≠y) (by rw[bL hA]) (fun q=>absurd rfl q) (fun _=>?_)<;>refine zc ?_;refine zq ?_;rw[aB hA (by omega) (by omega)];exact ih (i+1) (I+1) h9 (by omega) (by omega) (by omega) x9
theorem kA{h:af}(hlow:h.low<=h.next){n c c':Nat}{a a':Option Addr}{l:List Int}(p:Rows nC 1 h a n l)(q:Rows nC 1 h a' n l)(hn:n<=1000){Q:Value->af->Prop}(hQ:∀h',Ext h h'->Q (.bool true) h'):call 14 [.slice a n c,.slice a' n c'] h Q:=by
 obtain⟨N,eN⟩:∃z:Int,z=n:=⟨_,rfl⟩;have e0:ofNat n=N:=by rw[eN];exact aF hA n
 refine hA.bodyR Try.func14 r14_ok (hA.alike _ _ _ rfl) hlow (zc ?_)
 (refine zq ?_;repeat ((first|rw[e0]);refine zq ?_))
 refine br (N≠N) (by rw[bL hA]) (fun q=>absurd rfl q) (fun _=>?_)<;>refine zc ?_;refine zq ?_;refine HS hA hlow p q hn eN (fun h' x=>?_) n 0 0 h (by omega) (by omega) rfl (.refl h);refine zq ?_;exact hQ h' x
theorem KR{hs:af}(hl0:hs.low<=hs.next){g:List (List Int)}{B:List Fc}{m n s:Nat}{A:Nat->Ext.aJ}{W many size:Int}{pa qa:Option Addr}{bs:Nat->Nat}(t:Az hs g B m n s A W many size pa qa bs){k:Nat}(hk:k<n){xb xo xc pc qc fc fn rwc wd:Nat}{fa:Option Addr}{x:List Int}(hx:Rows nC 1 hs (some ⟨xb,xo,none⟩) n x){NI K F right L FN FI:Int}(eK:K=k)(eF:F=A k k)(eL:L=Ext.kH A (ff A B W m n) size n k x)(L0:0<=L)(L1:L<size){base:List (List Int)}(hb:base.length<=5000){Q:Exit->SS->Prop}
  (hQ:∀h' a N c hd,xD hs h' a N c hd (base++(List.range (A k k).toNat).map (Ext.il A (ff A B W m n) size n k x))->Q (.exit 4) ⟨[(0,.slice pa n pc),(1,.slice qa m qc),(2,.int .i64 W),(3,.int .i64 many),(9,.int .i64 NI),(10,.int .i64 size),(12,.int .i64 K),(13,.slice (some ⟨bs k,0,none⟩) wd rwc),(14,.int .i64 F),(15,.int .i64 right),(16,.slice a N c),(55,.slice fa fn fc),(56,.int .i64 FN),(57,.int .i64 FI)],13,[],h'⟩) :
  ∀(d i:Nat) (I:Int) (h:af) (a:Option Addr) (N c:Nat) (hd:List Hd),(A k k).toNat-i<=d->i<=(A k k).toNat->I=i->xD hs h a N c hd (base++(List.range i).map (Ext.il A (ff A B W m n) size n k x))->
   head 49 16 13 ⟨[(0,.slice pa n pc),(1,.slice qa m qc),(2,.int .i64 W),(3,.int .i64 many),(9,.int .i64 NI),(10,.int .i64 size),(12,.int .i64 K),(13,.slice (some ⟨bs k,0,none⟩) wd rwc),(14,.int .i64 F),(15,.int .i64 right),(16,.slice a N c),(18,.slice (some ⟨xb,xo,none⟩) n xc),(19,.int .i64 L),(55,.slice fa fn fc),(56,.int .i64 FN),(57,.int .i64 FI),(76,.int .i64 F),(77,.int .i64 I)],13,[],h⟩ Q:=by
 intro d;have n4:=t.hM.n4;obtain⟨W0,W1,y0,y1,s0,s1⟩:=t.nums;obtain⟨f1,f64⟩:=t.lead hk
 induction d with
 |zero=>
  intro i I h a N c hd hd' hi eI lo;refine hA.roundR Try.func49 r49_ok (zc ?_);refine br (I<F) (by rw[au hA]) (fun q=>by omega) (fun _=>?_)<;>refine zc ?_;obtain rfl:i=(A k k).toNat:=by omega
  exact hQ h a N c hd lo
 |succ d ih=>
 intro i I h a N c hd hd' hi eI lo;by_cases ci:i<(A k k).toNat
 rotate_left
 ·refine hA.roundR Try.func49 r49_ok (zc ?_)
  refine br (I<F) (by rw[au hA]) (fun q=>by omega) (fun _=>?_)<;>refine zc ?_;obtain rfl:i=(A k k).toNat:=by omega
  exact hQ h a N c hd lo
 have xe:=lo.s.ext;have hlow:=xe.lowOK hl0;refine hA.roundR Try.func49 r49_ok (zc ?_);refine br (I<F) (by rw[au hA]) (fun _=>?_) (fun q=>by omega)<;>refine zc ?_;refine zq ?_;refine uC hA hlow (hx.ext xe) (by omega) (fun h1 b1 c1 o1 x1 lb=>⟨_,_,_,rfl,?_⟩);obtain⟨k1,k2,k3,k4⟩:=o1;obtain⟨h9,eh9⟩:∃z,z=bump h1 13:=⟨_,rfl⟩;have xb':Ext h1 h9:=by rw[eh9];exact aq hA _ _
 have x9:=x1.trans xb';obtain⟨q,eq⟩:∃z,z=L / F:=⟨_,rfl⟩;obtain⟨z,ez⟩:∃z,z=size / F:=⟨_,rfl⟩;have m1:arith .quo .i64 L F=q:=by rw[eq];exact qE hA L0 (by omega) (by omega)
 have m2:arith .quo .i64 size F=z:=by rw[ez];exact qE hA (by omega) (by omega) (by omega)
 have q0:0<=q/\q<=L:=by rw[eq];exact⟨Int.ediv_nonneg L0 (by omega),Int.ediv_le_self _ L0⟩
 have z0:0<=z/\z<=size:=by rw[ez];exact⟨Int.ediv_nonneg (by omega) (by omega),Int.ediv_le_self _ (by omega)⟩
 obtain⟨u,eu⟩:∃u,u=I*z:=⟨_,rfl⟩;have ub:0<=u/\u<=64*829440000:=by
  rw[eu];exact⟨Int.mul_nonneg (by omega) z0.1,Int.mul_le_mul (by omega) (by omega) z0.1 (by omega)⟩
 have m3:arith .mul .i64 I z=u:=by rw[eu];exact iq hA (by rw[<-eu];omega) (by rw[<-eu];omega)
 obtain⟨v,ev⟩:∃v,v=q+u:=⟨_,rfl⟩;have m4:arith .add .i64 q u=v:=by rw[ev];exact aB hA (by omega) (by omega)
 have lx:=hx.len;have own9:=k1.ext xb' k2;obtain⟨h2,w1,w2,w3⟩:=bG.setRow own9 df (i:=k) (by omega) v;have w1:wr h9 b1 (place 0 K 1) [.int .i64 v] h2:=pZ hA (by rw[eK,Nat.zero_add];exact w1);have xh2:Ext h h2:=w3.ext x9 lb;have e1:x.set k v=Ext.il A (ff A B W m n) size n k x i:=by
  unfold Ext.il;rw[ev,eu,ez,eq,eL,eF,eI]
 have ec1:c1=ar 1 n:=by rcases k4 with ⟨_,q⟩|q;omega;exact q
 have lo2:=lo.more xh2;have nx2:h2.next=h9.next:=w3.next;have nx9:=x9.next;have b2:b1<h2.next:=by have:=xb'.next;omega
 have rowB:Rows nC 1 h2 (some ⟨b1,0,none⟩) n (x.set k v):=by
  have:=bG.rows w2 df (by omega) b2;rw[List.length_set,lx]at this;exact this
 rw[e1]at rowB;have al:∀ad,a=some ad->ad.block<h.next:=fun ad had=>lo.apd.lt ad had
 have hn0:=xe.next;have hN:N<=6000:=by
  rw[<-lo.s.gr.len,List.length_append,List.length_map,List.length_range];omega
 refine zq ?_;rw[<-eh9]
 (refine zq ?_;repeat ((first|rw[m1]|rw[m2]|rw[m3]|rw[m4]);refine zq ?_))
 refine sN hA vp dF (by omega) uL (v:=(⟨some ⟨b1,0,none⟩,n,c1⟩:Hd)) lo2.apd (by omega) (fun b' h' a' x' n' nb' k'=>?_);have t2:=lo2.add (k:=⟨some ⟨b1,0,none⟩,n,c1⟩) rowB (fun _=>.inr ec1) (fun ad had=>by cases had;show hs.next<=b1;omega) (fun ad had bd hbd=>by cases hbd;have:=al ad had;show b1≠_;omega) a' (x' hs lo2.s.ext lo.s.fr) n' nb' k';have et:base++(List.range i).map (Ext.il A (ff A B W m n) size n k x)++[Ext.il A (ff A B W m n) size n k x i]=base++(List.range (i+1)).map (Ext.il A (ff A B W m n) size n k x):=by
  rw[List.range_succ,List.map_append,List.append_assoc];rfl
 rw[et]at t2;clear eL e1 rowB et;generalize ar 1 (N+1)=cc at *;obtain⟨N1,eN1⟩:∃z,z=N+1:=⟨_,rfl⟩;rw[<-eN1]at t2 ⊢;refine zq ?_;rw[aB hA (by omega) (by omega)];exact ih (i+1) (I+1) h' (some ⟨b',0,none⟩) N1 cc _ (by omega) (by omega) (by omega) t2
omit hA in
theorem IY(a b n:Int):(a-b % n) % n=(a-b) % n:=by
 have h:=Int.emod_add_mul_ediv b n;have e:a-b % n=(a-b)+n*(b / n):=by omega
 rw[e,Int.add_mul_emod_self_left]
theorem JQ{hs:af}(hl0:hs.low<=hs.next){g:List (List Int)}{B:List Fc}{m n s:Nat}{A:Nat->Ext.aJ}{W many size:Int}{pa qa:Option Addr}{bs:Nat->Nat}(t:Az hs g B m n s A W many size pa qa bs){k:Nat}(hk:k<n){pc qc fc fn rwc wd:Nat}{fa:Option Addr}{fh:List Hd}{hz:af}{l:List (List Int)}(lf:EG hz hs fa fn fh l)(hl:∀x,x∈l->Ext.xg A (ff A B W m n) size n (k+1) x)(f64:fn<=64){NI K F right FN:Int}(eN:NI=n)(eK:K=k)(eF:F=A k k)(eR:right=ff A B W m n k)(eFN:FN=fn)(ewd:wd=n+m)(erw:rwc=ar 1 wd){Q:Exit->SS->Prop}
  (hQ:∀h' a N c hd,xD hs h' a N c hd (Ext.fT A (ff A B W m n) size n k l)->Q (.exit 2) ⟨[(0,.slice pa n pc),(1,.slice qa m qc),(2,.int .i64 W),(3,.int .i64 many),(9,.int .i64 NI),(10,.int .i64 size),(12,.int .i64 K),(16,.slice a N c)],13,[],h'⟩) :
  ∀(d i:Nat) (I:Int) (h:af) (a:Option Addr) (N c:Nat) (hd:List Hd),fn-i<=d->i<=fn->I=i->xD hs h a N c hd (Ext.fT A (ff A B W m n) size n k (l.take i))->
   head 49 11 13 ⟨[(0,.slice pa n pc),(1,.slice qa m qc),(2,.int .i64 W),(3,.int .i64 many),(9,.int .i64 NI),(10,.int .i64 size),(12,.int .i64 K),(13,.slice (some ⟨bs k,0,none⟩) wd rwc),(14,.int .i64 F),(15,.int .i64 right),(16,.slice a N c),(55,.slice fa fn fc),(56,.int .i64 FN),(57,.int .i64 I)],13,[],h⟩ Q:=by
 intro d;have n4:=t.hM.n4;have m4:=t.hM.m4;have n1:=t.hM.n1;have m1:=t.hM.m1;have sum:=t.st.sum;obtain⟨W0,W1,y0,y1,s0,s1⟩:=t.nums;obtain⟨f1,f64'⟩:=t.lead hk;have ll:=lf.gr.len;have r0:0<=right/\right<=829440000:=by
  have e1:=Int.emod_nonneg (rowR A B W m n k) (show W≠0 by omega);have e2:=Int.emod_lt_of_pos (rowR A B W m n k) W0;have e3:right=rowR A B W m n k % W*many:=by rw[eR];unfold ff;rw[t.em]
  rw[e3];exact⟨Int.mul_nonneg e1 (by omega),Int.mul_le_mul (show rowR A B W m n k % W<=12960000 by omega) (show many<=64 by omega) (by omega) (by omega)⟩
 induction d with
 |zero=>
  intro i I h a N c hd hd' hi eI lo;refine hA.roundR Try.func49 r49_ok (zc ?_);refine br (I<FN) (by rw[au hA]) (fun q=>by omega) (fun _=>?_)<;>refine zc ?_;rw[List.take_of_length_le (by omega)]at lo;exact hQ h a N c hd lo
 |succ d ih=>
 intro i I h a N c hd hd' hi eI lo;by_cases ci:i<fn
 rotate_left
 ·refine hA.roundR Try.func49 r49_ok (zc ?_)
  refine br (I<FN) (by rw[au hA]) (fun q=>by omega) (fun _=>?_)<;>refine zc ?_;rw[List.take_of_length_le (by omega)]at lo;exact hQ h a N c hd lo
 have xe:=lo.s.ext;have hlow:=xe.lowOK hl0;obtain⟨x,ex⟩:∃x,x=gt l I:=⟨_,rfl⟩;have hxm:x∈l:=by rw[ex];exact Gz l (by omega) (by omega)
 have sx:=hl x hxm;have row0:=lf.gr.row I (by omega) (by omega);have hn2:=row0.len;rw[<-ex,sx.len]at hn2;rw[<-ex,<-hn2]at row0;obtain⟨fb,fo,rfl,_,q1⟩:=(lf.gr.ext xe).hdAt (i:=I) (by omega) (by omega);rw[<-hn2]at q1;obtain⟨xb,xo,exa,_⟩:=row0.at (i:=0) (by omega) (by omega);rw[exa]at row0 q1;obtain⟨xc,exc⟩:∃z,z=(gt fh I).c:=⟨_,rfl⟩;rw[<-exc]at q1;have r1:rd h fb (place fo I 1) 1 [.slice (some ⟨xb,xo,none⟩) n xc]:=az hA q1;obtain⟨hz2,rws⟩:=(t.more xe).rows;have hfr:=rws.rowR (y:=k) (by omega);have front:Rows nC 1 h (some ⟨bs k,0,none⟩) n (gn (A k) n):=by
  refine⟨?_,df,by omega⟩;have:=hfr.cells.head (m:=n) (by omega);have e:((gn (A k) (n+m)).flatMap nC).take (n*1)=(gn (A k) n).flatMap nC:=by
   rw[Br df]
   congr 1
   apply List.ext_getElem?;intro j;rw[List.getElem?_take];by_cases c:j<n
   ·rw[if_pos c,io _ (by omega),io _ c]
   ·rw[if_neg c,List.getElem?_eq_none (by rw[aL];omega)]
  rw[e]at this;exact this
 have hcl:bW rwc=wd:=by rw[erw];exact bM (by unfold aI;omega)
 obtain⟨S,eS⟩:∃S,S=Ext.fY A n k x:=⟨_,rfl⟩;obtain⟨S2,eS2⟩:∃z,z=S % size:=⟨_,rfl⟩;have S20:0<=S2/\S2<size:=by rw[eS2];exact⟨Int.emod_nonneg _ (by omega),Int.emod_lt_of_pos _ s0⟩
 obtain⟨L0,eL0⟩:∃z,z=right-S2:=⟨_,rfl⟩;have m1':arith .sub .i64 right S2=L0:=by rw[eL0];exact bD hA (by omega) (by omega)
 obtain⟨L,eL⟩:∃z,z=L0 % size:=⟨_,rfl⟩;have Lr:0<=L/\L<size:=by rw[eL];exact⟨Int.emod_nonneg _ (by omega),Int.emod_lt_of_pos _ s0⟩
 have eLX:L=Ext.kH A (ff A B W m n) size n k x:=by
  unfold Ext.kH;rw[eL,eL0,eS2,IY,eS,eR]
 have fl:=Int.emod_add_mul_ediv L0 size;rw[<-eL]at fl;obtain⟨fq,efq⟩:∃z,z=L0 / size:=⟨_,rfl⟩;rw[<-efq]at fl;obtain⟨u,eu⟩:∃z,z=size*fq:=⟨_,rfl⟩;rw[<-eu]at fl;have m2:arith .mul .i64 size fq=u:=by rw[eu];exact iq hA (by rw[<-eu];omega) (by rw[<-eu];omega)
 have m3:arith .sub .i64 L0 u=L:=by rw[bD hA (by omega) (by omega)];omega
 have bl:(Ext.fT A (ff A B W m n) size n k (l.take i)).length<=5000:=by
  have h1:=Ck (fun x=>(List.range (A k k).toNat).map (Ext.il A (ff A B W m n) size n k x)) 64 (fun x=>by rw[List.length_map,List.length_range];omega) (l.take i);have h2:(l.take i).length<=64:=by rw[List.length_take];omega
  have h3:(l.take i).length*64<=64*64:=Nat.mul_le_mul_right _ h2;unfold Ext.fT;omega
 refine hA.roundR Try.func49 r49_ok (zc ?_);refine br (I<FN) (by rw[au hA]) (fun _=>?_) (fun q=>by omega)<;>refine zc ?_;refine zq ?_;refine⟨by rw[EZ hA,hcl];exact⟨by omega,by omega⟩,?_⟩;refine zc ?_;rw[show nat NI=n by rw[CB hA];omega];refine zq ?_;refine xP hA hlow front (row0.ext xe) (Nat.le_refl n) (by omega) (B:=600000000000000) (fun j hj=>?_) (by omega) s0 (by omega) (fun v hv=>⟨v,rfl,?_⟩)
 ·rw[cO _ hj]
  have h1:=t.st.small t.hM (i:=k) (by omega) j;have h2:(gt x (j:Int)).natAbs<=829440000:=by
   by_cases c:j<k+1
   ·rw[sx.zero j c];decide
   ·have:=sx.rng j (by omega) hj;omega
  have:=Ext.iy h1 h2;omega
 obtain rfl:v=S2:=by
  rw[hv,eS2,eS]
  congr 1
  unfold Ext.fY;exact Ext.aG n (fun j hj=>by rw[cO _ hj])
 (refine zq ?_;repeat ((first|rw[m1']);refine zq ?_))
 refine ol hA s0 (by omega) (by omega) hlow (fun q' eq'=>⟨q',rfl,?_⟩);obtain rfl:q'=fq:=by rw[eq',efq]
 (refine zq ?_;repeat ((first|rw[m1']|rw[m2]|rw[m3]);refine zq ?_))
 refine KR hA hl0 t hk row0 eK eF eLX Lr.1 Lr.2 (base:=Ext.fT A (ff A B W m n) size n k (l.take i)) bl (fun h2 a2 N2 c2 hd2 lo2=>?_) (A k k).toNat 0 0 h a N c hd (by omega) (Nat.zero_le _) rfl (by rw[List.range_zero,List.map_nil,List.append_nil];exact lo);have et:Ext.fT A (ff A B W m n) size n k (l.take i)++(List.range (A k k).toNat).map (Ext.il A (ff A B W m n) size n k x)=Ext.fT A (ff A B W m n) size n k (l.take (i+1)):=by
  have h1:l.take (i+1)=l.take i++[x]:=by
   rw[ex];exact tQ l eI (by omega)
  rw[h1];unfold Ext.fT;rw[List.flatMap_append];simp
 rw[et]at lo2;refine zq ?_;rw[aB hA (by omega) (by omega)];exact ih (i+1) (I+1) h2 a2 N2 c2 hd2 (by omega) (by omega) (by omega) lo2
set_option maxHeartbeats 4000000 in
theorem FD {h0 : af} (hlow : h0.low ≤ h0.next) {b n c : Nat} {L0 : List LE} {A B : Int} (A0 : 0 ≤ A) (bn : B ≤ n) (ov : qD L0 A B)
    (rec : ∀ (h : af) (L : List LE) (x y lim : Int) (Q : Value → af → Prop), 0 ≤ x → x ≤ y → y ≤ n → (y - x).toNat < (B - A).toNat → 0 ≤ lim → lim ≤ 100 → qD L x y → aV h0 h b n L → (∀ h' L', aV h0 h' b n L' → aD x y L L' → aC fu L' x y → Q (.tuple #[]) h') → call 86 [.slice (some ⟨b, 0, none⟩) n c, .int .i64 x, .int .i64 y, .int .i64 lim, .func (.func 70) #[] #[]] h Q) {Q : Exit → SS → Prop}
    (hQ : ∀ h' L e kn, aV h0 h' b n L → aD A B L0 L → aC fu L A B → Q .ret ⟨e, kn, [], h'⟩) :
    ∀ (m : Nat) (x y lim : Int) (wb wp : Bool) (h : af) (L : List LE), (y - x).toNat ≤ m → 0 ≤ lim → lim ≤ 100 → aV h0 h b n L → aD A B L0 L → vk fu L A B x y →
      head 86 2 0 ⟨[(0, .slice (some ⟨b, 0, none⟩) n c), (1, .int .i64 x), (2, .int .i64 y), (3, .int .i64 lim), (4, .func (.func 70) #[] #[]), (10, .bool wb), (11, .bool wp)], 0, [], h⟩ Q := by
  intro m
  induction m with
  | zero =>
    intro x y lim wb wp h L hm l0 l1 t hp hd
    have few := t.few
    have r0 := hd.r0
    have r1 := hd.r1
    have r2 := hd.r2
    have e1 : arith .sub .i64 y x = y - x := bD hA (by omega) (by omega)
    refine hA.roundR Try.func86 r86_ok (zc ?_)
    rw [e1]
    refine br (y - x ≤ 12) (by rw [iw hA]) (fun _ => ?_) (fun q => by omega) <;> refine zc ?_
    refine tE hA hlow (by omega) (by omega) (by omega) t (fun h1 L1 t1 hp1 hs1 => ?_)
    refine zc ?_
    exact hQ _ _ _ _ t1 (hp.trans (hp1.wide A0 r0 r2)) ((hd.perm A0 hp1).done hs1)
  | succ m ih =>
    intro x y lim wb wp h L hm l0 l1 t hp hd
    have few := t.few
    have r0 := hd.r0
    have r1 := hd.r1
    have r2 := hd.r2
    have e1 : arith .sub .i64 y x = y - x := bD hA (by omega) (by omega)
    obtain ⟨l, hl⟩ : ∃ z, z = y - x := ⟨_, rfl⟩
    rw [← hl] at e1
    refine hA.roundR Try.func86 r86_ok (zc ?_)
    rw [e1]
    refine br (l ≤ 12) (by rw [iw hA]) (fun _ => ?_) (fun q => ?_) <;> refine zc ?_
    · refine tE hA hlow (by omega) (by omega) (by omega) t (fun h1 L1 t1 hp1 hs1 => ?_)
      refine zc ?_
      exact hQ _ _ _ _ t1 (hp.trans (hp1.wide A0 r0 r2)) ((hd.perm A0 hp1).done hs1)
    refine br (lim = 0) (by rw [cJ hA]) (fun _ => ?_) (fun q2 => ?_) <;> refine zc ?_
    · refine IX hA hlow (by omega) (by omega) (by omega) t (fun h1 L1 t1 hp1 hs1 => ?_)
      refine zc ?_
      exact hQ _ _ _ _ t1 (hp.trans (hp1.wide A0 r0 r2)) ((hd.perm A0 hp1).done hs1)
    have ih' : ∀ (x' y' lim' : Int) (wb wp : Bool) (h : af) (L : List LE), (y' - x').toNat < (y - x).toNat → 0 ≤ lim' → lim' ≤ 100 → aV h0 h b n L → aD A B L0 L → vk fu L A B x' y' →
      head 86 2 0 ⟨[(0, .slice (some ⟨b, 0, none⟩) n c), (1, .int .i64 x'), (2, .int .i64 y'), (3, .int .i64 lim'), (4, .func (.func 70) #[] #[]), (10, .bool wb), (11, .bool wp)], 0, [], h⟩ Q := fun x' y' lim' wb wp h L w => ih x' y' lim' wb wp h L (by omega)
    clear ih
    refine br (wb = false) (by rw [cI hA]; cases wb <;> rfl) (fun qb => ?_) (fun qb => ?_) <;> refine zc ?_
    focus
      refine Hm hA hlow (by omega) (by omega) (by omega) t (fun h1 L1 t1 hp1 => ?_)
      refine zc ?_
      obtain ⟨lim1, hl1⟩ : ∃ z, z = lim - 1 := ⟨_, rfl⟩
      have e2 : arith .sub .i64 lim 1 = lim1 := by rw [hl1]; exact bD hA (by omega) (by omega)
      rw [e2]
      have hd1 := hd.perm A0 hp1
      have hp1 := hp.trans (hp1.wide A0 r0 r2)
      have l2 : 0 ≤ lim1 := by omega
      have l3 : lim1 ≤ 100 := by omega
      clear hl1 e2 t hp hd
    rotate_left
    focus
      have t1 := t
      have hp1 := hp
      have hd1 := hd
      have l2 := l0
      have l3 := l1
      obtain ⟨h1, hh1⟩ : ∃ z, z = h := ⟨_, rfl⟩
      obtain ⟨L1, hL1⟩ : ∃ z, z = L := ⟨_, rfl⟩
      obtain ⟨lim1, hl1⟩ : ∃ z, z = lim := ⟨_, rfl⟩
      rw [← hh1, ← hL1] at t1
      rw [← hh1, ← hl1]
      rw [← hL1] at hp1 hd1
      rw [← hl1] at l2 l3
      clear hl1 hh1 hL1 t hp hd
    all_goals
      refine Hn hA hlow (by omega) (by omega) (by omega) t1 (fun h2 p k t2 p0 p1 => ⟨_, _, rfl, ?_⟩)
      refine zc ?_
      refine br (k = 2) (by rw [cJ hA]) (fun qk => ?_) (fun qk => ?_) <;> refine zc ?_
      focus
        refine JG hA hlow (by omega) (by omega) (by omega) t2 (fun h3 L3 t3 hp3 => ?_)
        refine zc ?_
        have hd3 := hd1.perm A0 hp3
        have hp3 := hp1.trans (hp3.wide A0 r0 r2)
        obtain ⟨p3, hp⟩ : ∃ z, z = (y - 1) - (p - x) := ⟨_, rfl⟩
        have g1 : arith .sub .i64 y 1 = y - 1 := bD hA (by omega) (by omega)
        have g2 : arith .sub .i64 p x = p - x := bD hA (by omega) (by omega)
        have g3 : arith .sub .i64 (y - 1) (p - x) = p3 := by rw [hp]; exact bD hA (by omega) (by omega)
        have p4 : x ≤ p3 := by omega
        have p5 : p3 < y := by omega
        rw [g1, g2, g3]
        clear hp g1 g2 g3 p0 p1 t1 t2 hp1 hd1
      rotate_left
      focus
        obtain ⟨h3, hh⟩ : ∃ z, z = h2 := ⟨_, rfl⟩; subst hh
        obtain ⟨L3, hh⟩ : ∃ z, z = L1 := ⟨_, rfl⟩; subst hh
        obtain ⟨p3, hh⟩ : ∃ z, z = p := ⟨_, rfl⟩; subst hh
        have t3 := t2
        have hd3 := hd1
        have hp3 := hp1
        have p4 := p0
        have p5 := p1
        clear p0 p1 t2 hp1 hd1
      all_goals
        cases wb <;> cases wp <;> first | exact absurd qb (by decide) | exact absurd rfl qb | refine zc ?_
      all_goals first
        | (refine br (k = 1) (cJ hA k 1) (fun _ => ?_) (fun _ => ?_) <;> refine zc ?_)
        | (refine br ((1 : Int) = 1) (cJ hA 1 1) (fun _ => ?_) (fun q => absurd rfl q); refine zc ?_)
        | skip
      all_goals first
        | (refine KK hA hlow (by omega) (by omega) (by omega) (hd3.over (ov.perm A0 hp3)) t3 (fun h4 L4 u t4 hp4 hs4 => ⟨_, rfl, ?_⟩)
           cases u
           focus
             refine zc ?_
             have hd4 := hd3.perm A0 hp4
             have hp4 := hp3.trans (hp4.wide A0 r0 r2)
             clear t3 hp3 hd3 hs4
           rotate_left
           focus
             refine zc ?_
             exact hQ _ _ _ _ t4 (hp3.trans (hp4.wide A0 r0 r2)) ((hd3.perm A0 hp4).done (hs4 rfl)))
        | (obtain ⟨h4, hh⟩ : ∃ z, z = h3 := ⟨_, rfl⟩; subst hh
           obtain ⟨L4, hh⟩ : ∃ z, z = L3 := ⟨_, rfl⟩; subst hh
           have t4 := t3
           have hd4 := hd3
           have hp4 := hp3
           clear t3 hp3 hd3)
      all_goals
        have hv4 := hd4.over (ov.perm A0 hp4)
        obtain ⟨h5, hh5⟩ : ∃ z, z = bump h4 17 := ⟨_, rfl⟩
        have x5 : Ext h4 h5 := by rw [hh5]; exact aq hA _ _
        have t5 := t4.more x5
        refine br (0 < x) (by rw [dc hA]) (fun cx => ?_) (fun cx => ?_) <;> refine zc ?_
        focus
          rw [← hh5]
          obtain ⟨x', hx'⟩ : ∃ z, z = x - 1 := ⟨_, rfl⟩
          have e2 : arith .sub .i64 x 1 = x' := by rw [hx']; exact bD hA (by omega) (by omega)
          obtain ⟨a5x, a5y, a5z, b5, g5, f5, r5⟩ := t5.read (i := x') (by omega) (by omega)
          obtain ⟨a5'x, a5'y, a5'z, b5', g5', f5', r5'⟩ := t5.read (i := p3) (by omega) (by omega)
          have q5 := az hA r5
          have q5' := az hA r5'
          (refine zq ?_; repeat ((first | rw [e2]); refine zq ?_))
          refine dH hA (aw hA h5) (cW hA f5) (cW hA f5') (fun u h5a hu x5a => ⟨_, rfl, ?_⟩)
          have t5b := de hA hlow t5 x5a
          refine zc ?_
          generalize lowered h5 h5a = h5b at *
          refine br (0 ≤ u) (by rw [cI hA, au hA]; by_cases z : u < 0 <;> simp [z] <;> omega) (fun cu => ?_) (fun cu => ?_) <;> refine zc ?_
          focus
            rw [hu] at cu
            have w : fu (gt L4 p3) (gt L4 (x - 1)) := by rw [← hx']; exact LL.not_lt.1 (fun w => by have := bZ.2 w; omega)
            refine Hl hA hlow (by omega) (by omega) p4 p5 t5b (fun h6 L6 e t6 hp6 e0 e1 he => ⟨_, rfl, ?_⟩)
            refine zc ?_
            refine ih' e y lim1 _ _ h6 L6 (by omega) l2 l3 t6 (hp4.trans (hp6.wide A0 r0 r2)) (vk.equal (hd4.perm A0 hp6) (by omega) (by omega) (fun p q p0 p1 q0 q1 => ?_))
            refine dn.trans _ _ _ (he p p0 p1) (dn.trans _ _ _ w ?_)
            have := (hv4.perm (by omega) hp6).resolve_left (by omega) q q0 q1
            rwa [hp6.out (x - 1) (by omega) (by omega)] at this
          clear t5
          have t5 := t5b
        rotate_left
        focus
          rw [← hh5]
          clear hh5
          obtain ⟨h5b, hh⟩ : ∃ z, z = h5 := ⟨_, rfl⟩; subst hh
      all_goals
        refine HX hA hlow (by omega) (by omega) p4 p5 t5 (fun h6 L6 mid r t6 hp6 m0 m1 k1 k2 => ⟨_, _, rfl, ?_⟩)
        have hd6 := hd4.perm A0 hp6
        have hv6 := hv4.perm (by omega) hp6
        have hp6 := hp4.trans (hp6.wide A0 r0 r2)
        have v1 : qD L6 x mid := by
          rcases hv6 with o | o
          · exact .inl o
          · exact .inr (fun k k0 k1 => o k k0 (by omega))
        have v2 : qD L6 (mid + 1) y := .inr (fun k k0 k1 => by rw [show mid + 1 - 1 = mid by omega]; exact k2 k (by omega) k1)
        have u1 : arith .sub .i64 mid x = mid - x := bD hA (by omega) (by omega)
        have u2 : arith .sub .i64 y mid = y - mid := bD hA (by omega) (by omega)
        have u3 : arith .add .i64 mid 1 = mid + 1 := aB hA (by omega) (by omega)
        obtain ⟨q8, hq8⟩ : ∃ z, z = arith .quo .i64 l 8 := ⟨_, rfl⟩
        (refine zq ?_; repeat ((first | rw [u1] | rw [u2]); refine zq ?_))
        rw [← hq8]
        clear hq8
        refine br (mid - x < y - mid) (by rw [au hA]) (fun cm => ?_) (fun cm => ?_) <;> refine zc ?_
        focus
          refine rec h6 L6 x mid lim1 _ (by omega) m0 (by omega) (by omega) l2 l3 v1 t6 (fun h7 L7 t7 hp7 hs7 => ?_)
          refine zc ?_
          rw [u3]
          exact ih' (mid + 1) y lim1 _ _ h7 L7 (by omega) l2 l3 t7 (hp6.trans (hp7.wide A0 r0 (by omega))) (vk.left dn A0 hd6 m0 m1 k1 k2 hp7 hs7)
        focus
          rw [u3]
          refine rec h6 L6 (mid + 1) y lim1 _ (by omega) (by omega) (by omega) (by omega) l2 l3 v2 t6 (fun h7 L7 t7 hp7 hs7 => ?_)
          refine zc ?_
          exact ih' x mid lim1 _ _ h7 L7 (by omega) l2 l3 t7 (hp6.trans (hp7.wide A0 (by omega) r2)) (vk.right dn A0 hd6 m0 m1 k1 k2 hp7 hs7)
theorem Kp{h0:af}(hlow:h0.low<=h0.next){b n c:Nat}:∀(N:Nat) (h:af) (L:List LE) (x y lim:Int) (Q:Value->af->Prop),(y-x).toNat<N->0<=x->x<=y->y<=n->0<=lim->lim<=100->qD L x y->aV h0 h b n L->(∀h' L',aV h0 h' b n L'->aD x y L L'->aC fu L' x y->Q (.tuple #[]) h')->call 86 [.slice (some ⟨b,0,none⟩) n c,.int .i64 x,.int .i64 y,.int .i64 lim,.func (.func 70) #[] #[]] h Q:=by
 intro N
 induction N with
 |zero=>intro h L x y lim Q w;omega
 |succ N ih=>
  intro h L x y lim Q w x0 xy yn l0 l1 ov t hQ;have hlow':=hlow
  replace hlow:=t.ext.lowOK hlow
  refine hA.bodyR Try.func86 r86_ok (hA.alike _ _ _ rfl) hlow (zc ?_);refine FD hA hlow' (c:=c) (L0:=L) x0 yn ov (fun h L x' y' lim Q a1 a2 a3 a4 a5 a6 a7 a8 a9=>ih h L x' y' lim Q (by omega) a1 a2 a3 a5 a6 a7 a8 a9) (fun h' L' e kn t' hp hs=>?_) (y-x).toNat x y lim true true h L (Nat.le_refl _) l0 l1 t (.refl _ _ _) (.start L xy);refine zc ?_;exact hQ h' L' t' hp hs
theorem FG{h0 h:af}(hlow:h0.low<=h0.next){b n c:Nat}{L:List LE}(t:aV h0 h b n L){Q:Value->af->Prop}
  (hQ:∀h' L',aV h0 h' b n L'->aD 0 n L L'->aC fu L' 0 n->Q (.tuple #[]) h'):call 69 [.slice (some ⟨b,0,none⟩) n c,.func (.func 70) #[] #[]] h Q:=by
 have hlow':=hlow
 replace hlow:=t.ext.lowOK hlow
 have few:=t.few;refine hA.bodyR Try.func69 r69_ok (hA.alike _ _ _ rfl) hlow (zc ?_);rw[aF hA,ke hA (by omega) (by omega)];refine F9 hA hlow (by unfold u64;omega) (fun k hk=>⟨_,rfl,?_⟩);obtain⟨n0,n1,n2⟩:=hk;have k40:k<=40:=by
  by_cases c:k<=40
  ·exact c
  ·have h1:=Nat.pow_le_pow_right (n:=2) (by omega) (show 40<=k.toNat by omega)
   have h2:((2 ^ 40:Nat):Int)<=((2 ^ k.toNat:Nat):Int):=by exact_mod_cast h1
   have h3:((2 ^ k.toNat:Nat):Int)=2 ^ k.toNat:=by push_cast;rfl
   have h4:((2 ^ 40:Nat):Int)=1099511627776:=by decide
   have h5:max (n:Int) 1<=100001:=by omega
   omega
 refine zc ?_;refine Kp hA hlow' (c:=c) (n+1) h L 0 n k _ (by omega) (by omega) (by omega) (Int.le_refl _) n0 (by omega) (.inl rfl) t (fun h' L' t' hp hs=>?_);refine zc ?_;exact hQ h' L' t' hp hs
theorem Kc{h0:af}(hl0:h0.low<=h0.next){g:List (List Int)}{B:List Fc}{m n s:Nat}{A:Nat->Ext.aJ}{W many size:Int}{pa qa:Option Addr}{bs:Nat->Nat}(t:Az h0 g B m n s A W many size pa qa bs){pc qc:Nat}{NI:Int}(eN:NI=n){Q:Exit->SS->Prop}
  (hQ:∀hs h' a N c hd,xD hs h' a N c hd (Ext.kO A (ff A B W m n) size n n)->Ext h0 h'->Ext h0 hs->Q (.exit 0) ⟨[(11,.slice a N c)],0,[],h'⟩) :
  ∀(r d:Nat) (K:Int) (h:af) (fa:Option Addr) (fn fc:Nat) (fh:List Hd),n-d<=r->d<=n->K=(n:Int)-1-d->Ext h0 h->EG h0 h fa fn fh (Ext.kO A (ff A B W m n) size n d)->(d=0\/∃hs,Ext h0 hs/\xD hs h fa fn fc fh (Ext.kO A (ff A B W m n) size n d))->
   head 49 5 0 ⟨[(0,.slice pa n pc),(1,.slice qa m qc),(2,.int .i64 W),(3,.int .i64 many),(9,.int .i64 NI),(10,.int .i64 size),(11,.slice fa fn fc),(12,.int .i64 K)],0,[],h⟩ Q:=by
 intro r;have n4:=t.hM.n4;have m4:=t.hM.m4;have n1:=t.hM.n1;have m1:=t.hM.m1;have sum:=t.st.sum;obtain⟨W0,W1,y0,y1,s0,s1⟩:=t.nums
 induction r with
 |zero=>
  intro d K h fa fn fc fh hr hd eK x lf lo;refine hA.roundR Try.func49 r49_ok (zc ?_);refine br (0<=K) (by rw[bE hA]) (fun q=>by omega) (fun _=>?_)<;>refine zc ?_;obtain rfl:d=n:=by omega
  rcases lo with q|⟨hs,x2,lo⟩
  ·omega
  ·exact hQ hs h fa fn fc fh lo x x2
 |succ r ih=>
 intro d K h fa fn fc fh hr hd eK x lf lo;by_cases ck:d<n
 rotate_left
 ·refine hA.roundR Try.func49 r49_ok (zc ?_)
  refine br (0<=K) (by rw[bE hA]) (fun q=>by omega) (fun _=>?_)<;>refine zc ?_;obtain rfl:d=n:=by omega
  rcases lo with q|⟨hs,x2,lo⟩
  ·omega
  ·exact hQ hs h fa fn fc fh lo x x2
 obtain⟨k,ek⟩:∃k,k=n-1-d:=⟨_,rfl⟩;have hk:k<n:=by omega
 have eK2:K=k:=by omega
 obtain⟨h9,eh9⟩:∃z,z=bump h 13:=⟨_,rfl⟩;have xb:Ext h h9:=by rw[eh9];exact aq hA _ _
 have x9:=x.trans xb;have t9:=t.more x9;have l9:=x9.lowOK hl0;obtain⟨pb,po,epa,_,w1⟩:=t9.hd.at (i:=K) (by omega) (by omega);have w1:=w1 0 1 (by omega) (by omega);obtain⟨wd,ewd⟩:∃w,w=n+m:=⟨_,rfl⟩;obtain⟨cw,ecw⟩:∃z,z=ar 1 wd:=⟨_,rfl⟩;have eh:gt (jc bs (n+m) n) K=⟨some ⟨bs k,0,none⟩,wd,cw⟩:=by
  rw[ecw,ewd,eK2];exact cO _ hk
 rw[eh]at w1;have w1:h9.readG ⟨pb,po+K.toNat*1+0,none⟩ 1=some [.slice (some ⟨bs k,0,none⟩) wd cw]:=w1;cases pa with
 |none=>cases epa
 |some pad=>
 cases epa;have r1:rd h9 pb (place po K 1) 1 [.slice (some ⟨bs k,0,none⟩) wd cw]:=az hA w1;obtain⟨hz2,rws⟩:=t9.rows;have w2:=rws.el (y:=k) (x:=k) (by omega) (by omega);obtain⟨F,eF⟩:∃z,z=A k k:=⟨_,rfl⟩;rw[<-eF]at w2;have r2:rd h9 (bs k) (place 0 K 1) 1 [.int .i64 F]:=az hA (by rw[eK2];exact w2);have tl:=rws.tail (y:=k) (n:=n) (m:=m) (by omega) rfl;obtain⟨FN,eFN⟩:∃z:Int,z=fn:=⟨_,rfl⟩;have e1:ofNat fn=FN:=by rw[eFN];exact aF hA fn
 have gl:=lf.gr.len;have f64:=t.run (d:=d) (by omega);rw[gl]at f64;have hrun:=Ext.qL t.tri d (by omega);have hsol:∀y,y∈Ext.kO A (ff A B W m n) size n d->Ext.xg A (ff A B W m n) size n (k+1) y:=fun y hy=>by
  have:=(hrun.1 y).1 hy
  rwa [show n-d=k+1 by omega]at this
 obtain⟨v,ev⟩:∃v,v=rowR A B W m n k % W:=⟨_,rfl⟩;have v0:0<=v/\v<W:=by rw[ev];exact⟨Int.emod_nonneg _ (by omega),Int.emod_lt_of_pos _ W0⟩
 obtain⟨R,eR⟩:∃z,z=v*many:=⟨_,rfl⟩;have eR2:R=ff A B W m n k:=by rw[eR,ev];unfold ff;rw[t.em]
 have Rb:0<=R/\R<=12960000*64:=by rw[eR];exact⟨Int.mul_nonneg v0.1 (by omega),Int.mul_le_mul (by omega) y1 (by omega) (by omega)⟩
 have m2:arith .mul .i64 v many=R:=by rw[eR];exact iq hA (by rw[<-eR];omega) (by rw[<-eR];omega)
 refine hA.roundR Try.func49 r49_ok (zc ?_);refine br (0<=K) (by rw[bE hA]) (fun _=>?_) (fun q=>by omega)<;>refine zc ?_;rw[<-eh9];refine zq ?_;rw[ecw];refine wW hA Hx (n:=wd) (i:=NI) (by omega) (by omega) (by omega) (fun c'=>?_);rw[show 0+NI.toNat*1=0+n*1 by omega,show wd-NI.toNat=m by omega,<-ecw];obtain⟨o,eo⟩:∃z,z=0+n*1:=⟨_,rfl⟩;rw[<-eo]at tl ⊢;refine zq ?_;refine xP hA l9 tl t9.prt (Nat.le_refl m) (by omega) (B:=8162933760000) (fun j hj=>?_) (by omega) W0 (by omega) (fun v' hv=>⟨v',rfl,?_⟩)
 ·rw[cO _ hj,xR hj]
  obtain⟨_,p0,p1,_⟩:=t.w.part t.ht hj;exact Cr (t.st.small t.hM (by omega) _) p0 p1 W1
 obtain rfl:v'=v:=by
  rw[hv,ev]
  congr 1
  unfold rowR;exact Ext.aG m (fun j hj=>by rw[cO _ hj,xR hj])
 (refine zq ?_;repeat ((first|rw[e1]|rw[m2]);refine zq ?_))
 refine JQ hA l9 t9 hk (lf.more xb) hsol f64 eN eK2 eF eR2 eFN ewd ecw (fun h2 a2 N2 c2 hd2 lo2=>?_) fn 0 0 h9 none 0 0 [] (by omega) (Nat.zero_le _) rfl (by rw[List.take_zero];exact xD.nil h9);have er:Ext.fT A (ff A B W m n) size n k (Ext.kO A (ff A B W m n) size n d)=Ext.kO A (ff A B W m n) size n (d+1):=by rw[ek];rfl
 rw[er]at lo2;refine zq ?_;rw[bD hA (by omega) (by omega)];exact ih (d+1) (K-1) h2 a2 N2 c2 hd2 (by omega) (by omega) (by omega) (x9.trans lo2.s.ext) (lo2.s.back x9) (.inr ⟨h9,x9,lo2⟩)
theorem Fk{h:af}(hlow:h.low<=h.next){g:List (List Int)}{B:List Fc}{m n s:Nat}{A:Nat->Ext.aJ}{W many size:Int}{pa qa:Option Addr}{pc qc:Nat}{bs:Nat->Nat}(t:Az h g B m n s A W many size pa qa bs){Q:Value->af->Prop}
  (hQ:∀h' b N c hd l,jX nC 1 h' (some ⟨b,0,none⟩) N hd l->l.Perm (Ext.kO A (ff A B W m n) size n n)->l.Pairwise LL.lt->Ext h h'->Q (.slice (some ⟨b,0,none⟩) N c) h'):call 49 [.slice pa n pc,.slice qa m qc,.int .i64 W,.int .i64 many] h Q:=by
 obtain⟨NI,eN⟩:∃z:Int,z=n:=⟨_,rfl⟩;have e0:ofNat n=NI:=by rw[eN];exact aF hA n
 have n4:=t.hM.n4;have n1:=t.hM.n1;obtain⟨W0,W1,y0,y1,s0,s1⟩:=t.nums;have m1:arith .mul .i64 W many=size:=by rw[t.es];exact iq hA (by rw[<-t.es];omega) (by rw[<-t.es];omega)
 have eNn:nat NI=n:=by rw[CB hA];omega
 have eNt:NI.toNat=n:=by omega
 have lz:=EG.one h n n1;refine hA.bodyR Try.func49 r49_ok (hA.alike _ _ _ rfl) hlow (zc ?_)
 (refine zq ?_;repeat ((first|rw[e0]|rw[m1]);refine zq ?_))
 refine⟨Ky hA (by omega) (Int.le_refl _) (by omega),?_⟩;refine zc ?_;rw[H1 hA];refine zq ?_;rw[eNn,eNt,cM hA,cM hA,bV hA,bV hA,bD hA (by omega) (by omega)];obtain⟨h2,eh2⟩:∃z,z=(h.push 1 (aZ [.int .i64 0] n)).push 1 [.slice (some ⟨h.next,0,none⟩) n n]:=⟨_,rfl⟩;rw[<-eh2]at lz ⊢;have run:=Ext.qL t.tri n (Nat.le_refl n);obtain⟨rl,erl⟩:∃z,z=Ext.kO A (ff A B W m n) size n n:=⟨_,rfl⟩;refine Kc hA hlow t eN (fun hs h3 a N c hd lo x x'=>?_) n 0 (NI-1) h2 _ 1 1 _ (by omega) (by omega) (by omega) lz.ext lz (.inl rfl);rw[<-erl]at lo run hQ;have hN:=lo.s.gr.len;have hm:=t.em;have hN1:1<=N/\N<=64:=by
  have h4:=run.2.2.2;rw[Nat.sub_self]at h4;have e1:(rl.length:Int)*1=many:=by rw[hm,<-h4];rfl
  have:=t.m64;omega
 rcases lo.apd with ⟨_,q,_⟩|⟨b,rfl,ec,hb,_,_⟩
 ·omega
 have l3:=x.lowOK hlow;have lb:mg h3 b=mg h3 b:=rfl;have db:=lo.dat l3 (by omega) (fun y y0 y1=>by
  have h5:=lo.s.gr.rowN y0 y1;have h6:gt rl y∈rl:=by
   unfold gt;rw[List.getD_eq_getElem?_getD,List.getElem?_eq_getElem (by omega)];exact List.getElem_mem _
  have h7:=((run.1 _).1 h6).len;omega)
 have hnb:h.next<=b:=Nat.le_trans x'.next (lo.s.fr _ rfl);have xb:Ext h (mg h3 b):=El x hnb;refine zq ?_;refine FG hA (show(mg h3 b).low<=(mg h3 b).next from Nat.min_le_right _ _) db (fun h4 L' d4 p4 s4=>?_);refine zq ?_;have hlz:=zE (hd:=hd) (g:=rl) (by have:=lo.s.gr.hd.len;omega);have so:=uW (n:=N) (by omega) p4 s4 (by rw[tw (by have:=lo.s.gr.hd.len;omega)];exact run.2.2.1);rw[tw (by have:=lo.s.gr.hd.len;omega)]at so;exact hQ h4 b N c _ _ d4.grid so.1 so.2 (xb.trans d4.ext)
