import Derived.Test.YtdpbiegfljmhmaaSmIn
set_option linter.unusedSimpArgs false
set_option linter.unusedVariables false
namespace Go.Proofs.Ytdpbiegfljmhmaa.Ext
def d2(a b c d:Int):Int:=a*d-b*c
def d3(a b c d e f g h i:Int):Int:=a*d2 e f h i-b*d2 d f g i+c*d2 d e g h
def d4(a b c d e f g h i j k l m n o p:Int):Int:=a*d3 f g h j k l n o p-b*d3 e g h i k l m o p+c*d3 e f h i j l m n p-d*d3 e f g i j k m n o
def dt(s:Nat)(M:Nat->Nat->Int):Int:=
 match s with
 |0=>1
 |1=>M 0 0
 |2=>d2 (M 0 0) (M 0 1) (M 1 0) (M 1 1)
 |3=>d3 (M 0 0) (M 0 1) (M 0 2) (M 1 0) (M 1 1) (M 1 2) (M 2 0) (M 2 1) (M 2 2)
 |4=>d4 (M 0 0) (M 0 1) (M 0 2) (M 0 3) (M 1 0) (M 1 1) (M 1 2) (M 1 3) (M 2 0) (M 2 1) (M 2 2) (M 2 3) (M 3 0) (M 3 1) (M 3 2) (M 3 3)
 |_=>0
def mi(k:Nat)(M:Nat->Nat->Int)(i j:Nat):Int:=dt (k+1) (fun x y=>M (if x=k then i else x) (if y=k then j else y))
theorem dt_congr{s:Nat}{M N:Nat->Nat->Int}(h:∀x y,x<s->y<s->M x y=N x y):dt s M=dt s N:=by
 match s with
 |0=>rfl
 |1=>exact h 0 0 (by omega) (by omega)
 |2=>simp only[dt,h _ _ (show 0<2 by omega) (show 0<2 by omega),h _ _ (show 0<2 by omega) (show 1<2 by omega),h _ _ (show 1<2 by omega) (show 0<2 by omega),h _ _ (show 1<2 by omega) (show 1<2 by omega)]
 |3=>
  have a0:0<3:=by omega
  have a1:1<3:=by omega
  have a2:2<3:=by omega
  simp only[dt,h _ _ a0 a0,h _ _ a0 a1,h _ _ a0 a2,h _ _ a1 a0,h _ _ a1 a1,h _ _ a1 a2,h _ _ a2 a0,h _ _ a2 a1,h _ _ a2 a2]
 |4=>
  have a0:0<4:=by omega
  have a1:1<4:=by omega
  have a2:2<4:=by omega
  have a3:3<4:=by omega
  simp only[dt,h _ _ a0 a0,h _ _ a0 a1,h _ _ a0 a2,h _ _ a0 a3,h _ _ a1 a0,h _ _ a1 a1,h _ _ a1 a2,h _ _ a1 a3,h _ _ a2 a0,h _ _ a2 a1,h _ _ a2 a2,h _ _ a2 a3,h _ _ a3 a0,h _ _ a3 a1,h _ _ a3 a2,h _ _ a3 a3]
 |s+5=>rfl
def sw(a b x:Nat):Nat:=if x=a then b else if x=b then a else x
theorem dt_rows{s:Nat}(M:Nat->Nat->Int){a b:Nat}(ha:a<s)(hb:b<s):dt s (fun x y=>M (sw a b x) y)=dt s M\/dt s (fun x y=>M (sw a b x) y)=- dt s M:=by
 by_cases e:a=b
 ·left
  refine dt_congr fun x y hx hy=>?_
  subst e;unfold sw;by_cases c:x=a
  ·rw[if_pos c,c]
  ·rw[if_neg c,if_neg c]
 right;have h4:s<=4\/5<=s:=by omega
 rcases h4 with h4|h4
 rotate_left
 ·obtain⟨t,rfl⟩:∃t,s=t+5:=⟨s-5,by omega⟩
  rfl
 have hs:s=0\/s=1\/s=2\/s=3\/s=4:=by omega
 have ha':a=0\/a=1\/a=2\/a=3:=by omega
 have hb':b=0\/b=1\/b=2\/b=3:=by omega
 rcases hs with rfl|rfl|rfl|rfl|rfl<;>rcases ha' with rfl|rfl|rfl|rfl<;>rcases hb' with rfl|rfl|rfl|rfl<;>first|(exfalso;omega)|(simp only[dt,sw,d4,d3,d2];grind)
theorem dt_T{s:Nat}(M:Nat->Nat->Int):dt s (fun x y=>M y x)=dt s M:=by
 match s with
 |0=>rfl
 |1=>rfl
 |2=>simp only[dt,d2];grind
 |3=>simp only[dt,d3,d2];grind
 |4=>simp only[dt,d4,d3,d2];grind
 |s+5=>rfl
theorem dt_cols{s:Nat}(M:Nat->Nat->Int){a b:Nat}(ha:a<s)(hb:b<s):dt s (fun x y=>M x (sw a b y))=dt s M\/dt s (fun x y=>M x (sw a b y))=- dt s M:=by
 have h:=dt_rows (fun x y=>M y x) ha hb;rw[dt_T M]at h;rw[<-dt_T (fun x y=>M x (sw a b y))];exact h
theorem sylv{k:Nat}(hk:k<=2)(M:Nat->Nat->Int)(i j:Nat)(hi:k<i)(hj:k<j):mi k M k k*mi k M i j-mi k M i k*mi k M k j=dt k M*mi (k+1) M i j:=by
 have h:k=0\/k=1\/k=2:=by omega
 rcases h with rfl|rfl|rfl
 ·simp[mi,dt,d2];grind
 ·simp[mi,dt,d2,d3];grind
 ·simp[mi,dt,d2,d3,d4];grind
theorem mi_self(k:Nat)(M:Nat->Nat->Int):mi k M k k=dt (k+1) M:=by
 unfold mi;refine dt_congr fun x y hx hy=>?_
 have ex:(if x=k then k else x)=x:=by split<;>omega
 have ey:(if y=k then k else y)=y:=by split<;>omega
 rw[ex,ey]
theorem dt_none{s k:Nat}(hs:s<=4)(hk:k<s)(M:Nat->Nat->Int)(nz:dt k M≠0)(h:∀i j,k<=i->i<s->k<=j->j<s->mi k M i j=0):dt s M=0:=by
 have hk':k=0\/k=1\/k=2\/k=3:=by omega
 have hs':s=1\/s=2\/s=3\/s=4:=by omega
 have mz:∀{a b:Int},a≠0->a*b=0->b=0:=fun ha hb=>(Int.mul_eq_zero.1 hb).resolve_left ha
 rcases hk' with rfl|rfl|rfl|rfl
 ·have h0:∀i j,i<s->j<s->M i j=0:=fun i j hi hj=>by
   have:=h i j (by omega) hi (by omega) hj;simpa[mi,dt]using this
  have z:=dt_congr (s:=s) (M:=M) (N:=fun _ _=>0) (fun x y hx hy=>h0 x y hx hy);rw[z];rcases hs' with rfl|rfl|rfl|rfl<;>simp[dt,d4,d3,d2]
 ·rcases hs' with rfl|rfl|rfl|rfl
  ·omega
  ·rw[<-mi_self];exact h 1 1 (by omega) (by omega) (by omega) (by omega)
  ·have a:=h 1 1 (by omega) (by omega) (by omega) (by omega)
   have b:=h 1 2 (by omega) (by omega) (by omega) (by omega);refine mz nz ?_;simp[mi,dt,d2]at a b;simp only[dt,d2,d3];grind
  ·have a:=h 1 1 (by omega) (by omega) (by omega) (by omega)
   have b:=h 1 2 (by omega) (by omega) (by omega) (by omega);have c:=h 1 3 (by omega) (by omega) (by omega) (by omega);refine mz nz (mz nz ?_);simp[mi,dt,d2]at a b c;simp only[dt,d2,d3,d4];grind
 ·rcases hs' with rfl|rfl|rfl|rfl
  ·omega
  ·omega
  ·rw[<-mi_self];exact h 2 2 (by omega) (by omega) (by omega) (by omega)
  ·have a:=h 2 2 (by omega) (by omega) (by omega) (by omega)
   have b:=h 2 3 (by omega) (by omega) (by omega) (by omega);refine mz nz ?_;have e:=sylv (k:=2) (by omega) M 3 3 (by omega) (by omega);rw[<-mi_self 3,<-e,a,b];grind
 ·rcases hs' with rfl|rfl|rfl|rfl
  ·omega
  ·omega
  ·omega
  ·rw[<-mi_self];exact h 3 3 (by omega) (by omega) (by omega) (by omega)
theorem mul_le{a b:Int}{A B:Nat}(ha:a.natAbs<=A)(hb:b.natAbs<=B):(a*b).natAbs<=A*B:=by rw[Int.natAbs_mul];exact Nat.mul_le_mul ha hb
theorem dt_le{s:Nat}{M:Nat->Nat->Int}(h:∀x y,x<s->y<s->(M x y).natAbs<=9):(dt s M).natAbs<=157464:=by
 have d2b:∀{a b c d:Int},a.natAbs<=9->b.natAbs<=9->c.natAbs<=9->d.natAbs<=9->(d2 a b c d).natAbs<=162:=fun ha hb hc hd=>by
  have:=mul_le ha hd;have:=mul_le hb hc;unfold d2;omega
 have d3b:∀{a b c d e f g h i:Int},a.natAbs<=9->b.natAbs<=9->c.natAbs<=9->d.natAbs<=9->e.natAbs<=9->f.natAbs<=9->g.natAbs<=9->h.natAbs<=9->i.natAbs<=9->(d3 a b c d e f g h i).natAbs<=4374:=fun ha hb hc hd he hf hg hh hi=>by
  have:=mul_le ha (d2b he hf hh hi);have:=mul_le hb (d2b hd hf hg hi);have:=mul_le hc (d2b hd he hg hh);unfold d3;omega
 match s with
 |0=>show(1:Int).natAbs<=_;decide
 |1=>have:=h 0 0 (by omega) (by omega);show(M 0 0).natAbs<=_;omega
 |2=>
  have:=d2b (h 0 0 (by omega) (by omega)) (h 0 1 (by omega) (by omega)) (h 1 0 (by omega) (by omega)) (h 1 1 (by omega) (by omega));simp only[dt];omega
 |3=>
  have a0:0<3:=by omega
  have a1:1<3:=by omega
  have a2:2<3:=by omega
  have:=d3b (h _ _ a0 a0) (h _ _ a0 a1) (h _ _ a0 a2) (h _ _ a1 a0) (h _ _ a1 a1) (h _ _ a1 a2) (h _ _ a2 a0) (h _ _ a2 a1) (h _ _ a2 a2);simp only[dt];omega
 |4=>
  have a0:0<4:=by omega
  have a1:1<4:=by omega
  have a2:2<4:=by omega
  have a3:3<4:=by omega
  have m1:=mul_le (h _ _ a0 a0) (d3b (h _ _ a1 a1) (h _ _ a1 a2) (h _ _ a1 a3) (h _ _ a2 a1) (h _ _ a2 a2) (h _ _ a2 a3) (h _ _ a3 a1) (h _ _ a3 a2) (h _ _ a3 a3));have m2:=mul_le (h _ _ a0 a1) (d3b (h _ _ a1 a0) (h _ _ a1 a2) (h _ _ a1 a3) (h _ _ a2 a0) (h _ _ a2 a2) (h _ _ a2 a3) (h _ _ a3 a0) (h _ _ a3 a2) (h _ _ a3 a3));have m3:=mul_le (h _ _ a0 a2) (d3b (h _ _ a1 a0) (h _ _ a1 a1) (h _ _ a1 a3) (h _ _ a2 a0) (h _ _ a2 a1) (h _ _ a2 a3) (h _ _ a3 a0) (h _ _ a3 a1) (h _ _ a3 a3));have m4:=mul_le (h _ _ a0 a3) (d3b (h _ _ a1 a0) (h _ _ a1 a1) (h _ _ a1 a2) (h _ _ a2 a0) (h _ _ a2 a1) (h _ _ a2 a2) (h _ _ a3 a0) (h _ _ a3 a1) (h _ _ a3 a2));simp only[dt,d4];omega
 |s+5=>simp[dt]
structure Bar(s:Nat)(P0:Nat->Nat->Int)(k:Nat)(last:Int)(C:Nat->Nat->Int):Prop where
 ex:∃P:Nat->Nat->Int,(∀x y,x<s->y<s->(P x y).natAbs<=9)/\(dt s P).natAbs=(dt s P0).natAbs/\last=dt k P/\last≠0/\∀i j,k<=i->i<s->k<=j->j<s->C i j=mi k P i j
theorem Bar.start{s:Nat}{P:Nat->Nat->Int}(h:∀x y,x<s->y<s->(P x y).natAbs<=9):Bar s P 0 1 P:=
 ⟨P,h,rfl,rfl,by decide,fun i j _ _ _ _=>by simp[mi,dt]⟩
theorem Bar.le{s k:Nat}{P0 C:Nat->Nat->Int}{last:Int}(b:Bar s P0 k last C)(hk:k<=s){i j:Nat}(i0:k<=i)(i1:i<s)(j0:k<=j)(j1:j<s):(C i j).natAbs<=157464:=by
 obtain⟨P,h,_,_,_,e⟩:=b.ex;rw[e i j i0 i1 j0 j1];unfold mi;refine dt_le fun x y hx hy=>?_
 refine h _ _ ?_ ?_<;>split<;>omega
theorem Bar.last{s k:Nat}{P0 C:Nat->Nat->Int}{last:Int}(b:Bar s P0 k last C)(hk:k<=s):last.natAbs<=157464/\last≠0:=by
 obtain⟨P,h,_,rfl,nz,e⟩:=b.ex;exact⟨dt_le fun x y hx hy=>h _ _ (by omega) (by omega),nz⟩
theorem Bar.none{s k:Nat}{P0 C:Nat->Nat->Int}{last:Int}(b:Bar s P0 k last C)(hs:s<=4)(hk:k<s)(h:∀i j,k<=i->i<s->k<=j->j<s->C i j=0):(dt s P0).natAbs=0:=by
 obtain⟨P,_,d,rfl,nz,e⟩:=b.ex;rw[<-d,dt_none hs hk P nz (fun i j i0 i1 j0 j1=>by rw[<-e i j i0 i1 j0 j1];exact h i j i0 i1 j0 j1)];rfl
theorem Bar.fin{s:Nat}{P0 C:Nat->Nat->Int}{last:Int}(b:Bar s P0 s last C):last.natAbs=(dt s P0).natAbs:=by
 obtain⟨P,_,d,rfl,_⟩:=b.ex;exact d
theorem sw_lt{s a b x:Nat}(ha:a<s)(hb:b<s)(hx:x<s):sw a b x<s:=by unfold sw;split;exact hb;split;exact ha;exact hx
theorem sw_ge{k b x:Nat}(hb:k<=b)(hx:k<=x):k<=sw k b x:=by unfold sw;split;exact hb;split<;>omega
theorem sw_low{k b x:Nat}(hb:k<=b)(hx:x<k):sw k b x=x:=by unfold sw;rw[if_neg (by omega),if_neg (by omega)]
theorem Bar.swap{s k:Nat}{P0 C:Nat->Nat->Int}{last:Int}(b:Bar s P0 k last C){p q:Nat}(hk:k<s)(p0:k<=p)(p1:p<s)(q0:k<=q)(q1:q<s):Bar s P0 k last (fun i j=>C (sw k p i) (sw k q j)):=by
 obtain⟨P,h,d,l,nz,e⟩:=b.ex;refine⟨fun i j=>P (sw k p i) (sw k q j),fun x y hx hy=>h _ _ (sw_lt hk p1 hx) (sw_lt hk q1 hy),?_,?_,nz,fun i j i0 i1 j0 j1=>?_⟩
 ·have h1:=dt_rows (s:=s) (fun i j=>P i (sw k q j)) hk p1
  have h2:=dt_cols (s:=s) P hk q1;rw[<-d];rcases h1 with e1|e1<;>rcases h2 with e2|e2<;>rw[e1,e2]<;>omega
 ·rw[l]
  refine dt_congr fun x y hx hy=>?_
  rw[sw_low p0 hx,sw_low q0 hy]
 ·show C (sw k p i) (sw k q j)=_
  rw[e _ _ (sw_ge p0 i0) (sw_lt hk p1 i1) (sw_ge q0 j0) (sw_lt hk q1 j1)];unfold mi;refine dt_congr fun x y hx hy=>?_
  have ex:(if x=k then sw k p i else x)=sw k p (if x=k then i else x):=by
   by_cases c:x=k
   ·rw[if_pos c,if_pos c]
   ·rw[if_neg c,if_neg c,sw_low p0 (by omega)]
  have ey:(if y=k then sw k q j else y)=sw k q (if y=k then j else y):=by
   by_cases c:y=k
   ·rw[if_pos c,if_pos c]
   ·rw[if_neg c,if_neg c,sw_low q0 (by omega)]
  rw[ex,ey]
theorem Bar.step{s k:Nat}{P0 C D:Nat->Nat->Int}{last:Int}(b:Bar s P0 k last C)(hs:s<=4)(hk:k<s)(nz:C k k≠0)(hD:∀i j,k<i->i<s->k<j->j<s->D i j=(C k k*C i j-C i k*C k j).tdiv last):Bar s P0 (k+1) (C k k) D:=by
 obtain⟨P,h,d,l,lz,e⟩:=b.ex;have ek:=e k k (by omega) hk (by omega) hk;refine⟨P,h,d,?_,nz,fun i j i0 i1 j0 j1=>?_⟩
 ·rw[ek,mi_self]
 ·rw[hD i j (by omega) i1 (by omega) j1,ek,e i j (by omega) i1 (by omega) j1,e i k (by omega) i1 (by omega) hk,e k j (by omega) hk (by omega) j1,sylv (by omega) P i j (by omega) (by omega),l,Int.mul_tdiv_cancel_left _ (by rw[<-l];exact lz)]
end Go.Proofs.Ytdpbiegfljmhmaa.Ext
