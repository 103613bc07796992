import Derived.Test.YtdpbiegfljmhmaaSmO
import Derived.KernelRfl
set_option linter.unusedSimpArgs false
set_option linter.unusedVariables false
namespace Go.Proofs.Ytdpbiegfljmhmaa.Ext
def d2(a b c d:Int):Int:=a*d-b*c
def d3(a b c d e f g h i:Int):Int:=a*d2 e f h i-b*d2 d f g i+c*d2 d e g h
def d4(a b c d e f g h i j k l m n o p:Int):Int:=a*d3 f g h j k l n o p-b*d3 e g h i k l m o p+c*d3 e f h i j l m n p-d*d3 e f g i j k m n o
def dt(s:Nat)(M:Nat->Nat->Int):Int:=
 match s with
 |0=>1
 |1=>M 0 0
 |2=>d2 (M 0 0) (M 0 1) (M 1 0) (M 1 1)
 |3=>d3 (M 0 0) (M 0 1) (M 0 2) (M 1 0) (M 1 1) (M 1 2) (M 2 0) (M 2 1) (M 2 2)
 |4=>d4 (M 0 0) (M 0 1) (M 0 2) (M 0 3) (M 1 0) (M 1 1) (M 1 2) (M 1 3) (M 2 0) (M 2 1) (M 2 2) (M 2 3) (M 3 0) (M 3 1) (M 3 2) (M 3 3)
 |_=>0
def mi(k:Nat)(M:Nat->Nat->Int)(i j:Nat):Int:=dt (k+1) (fun x y=>M (if x=k then i else x) (if y=k then j else y))
theorem fu{s:Nat}{M N:Nat->Nat->Int}(h:∀x y,x<s->y<s->M x y=N x y):dt s M=dt s N:=by
 match s with
 |0=>rfl
 |1=>exact h 0 0 om om
 |2=>simp only[dt,h _ _ (show 0<2 by omega) (show 0<2 by omega),h _ _ (show 0<2 by omega) (show 1<2 by omega),h _ _ (show 1<2 by omega) (show 0<2 by omega),h _ _ (show 1<2 by omega) (show 1<2 by omega)]
 |3=>
  have a0:0<3:=om
  have a1:1<3:=om
  have a2:2<3:=om
  simp only[dt,h _ _ a0 a0,h _ _ a0 a1,h _ _ a0 a2,h _ _ a1 a0,h _ _ a1 a1,h _ _ a1 a2,h _ _ a2 a0,h _ _ a2 a1,h _ _ a2 a2]
 |4=>
  have a0:0<4:=om
  have a1:1<4:=om
  have a2:2<4:=om
  have a3:3<4:=om
  simp only[dt,h _ _ a0 a0,h _ _ a0 a1,h _ _ a0 a2,h _ _ a0 a3,h _ _ a1 a0,h _ _ a1 a1,h _ _ a1 a2,h _ _ a1 a3,h _ _ a2 a0,h _ _ a2 a1,h _ _ a2 a2,h _ _ a2 a3,h _ _ a3 a0,h _ _ a3 a1,h _ _ a3 a2,h _ _ a3 a3]
 |s+5=>rfl
def sw(a b x:Nat):Nat:=if x=a then b else if x=b then a else x
theorem IJ{s:Nat}(M:Nat->Nat->Int){a b:Nat}(ha:a<s)(hb:b<s):dt s (fun x y=>M (sw a b x) y)=dt s M\/dt s (fun x y=>M (sw a b x) y)=- dt s M:=by
 by_cases e:a=b
 ·left
  refine fu fun x y hx hy=>?_
  subst e;unfold sw;by_cases c:x=a
  ·rw[if_pos c,c]
  ·rw[if_neg c,if_neg c]
 right;have h4:s<=4\/5<=s:=om
 rcases h4 with h4|h4
 rotate_left
 ·obtain⟨t,rfl⟩:∃t,s=t+5:=⟨s-5,om⟩
  rfl
 have hs:s=0\/s=1\/s=2\/s=3\/s=4:=om
 have So:a=0\/a=1\/a=2\/a=3:=om
 have vl:b=0\/b=1\/b=2\/b=3:=om
 rcases hs with rfl|rfl|rfl|rfl|rfl<;>rcases So with rfl|rfl|rfl|rfl<;>rcases vl with rfl|rfl|rfl|rfl<;>first|(exfalso;omega)|(simp only[dt,sw,d4,d3,d2];grind)
theorem Nl{s:Nat}(M:Nat->Nat->Int):dt s (fun x y=>M y x)=dt s M:=by
 match s with
 |0=>rfl
 |1=>rfl
 |2=>simp only[dt,d2];grind
 |3=>simp only[dt,d3,d2];grind
 |4=>simp only[dt,d4,d3,d2];grind
 |s+5=>rfl
theorem Qy{s:Nat}(M:Nat->Nat->Int){a b:Nat}(ha:a<s)(hb:b<s):dt s (fun x y=>M x (sw a b y))=dt s M\/dt s (fun x y=>M x (sw a b y))=- dt s M:=by
 have h:=IJ (fun x y=>M y x) ha hb;rw[Nl M]at h;rw[<-Nl (fun x y=>M x (sw a b y))];exact h
theorem Xo{k:Nat}(hk:k<=2)(M:Nat->Nat->Int)(i j:Nat)(hi:k<i)(hj:k<j):mi k M k k*mi k M i j-mi k M i k*mi k M k j=dt k M*mi (k+1) M i j:=by
 have h:k=0\/k=1\/k=2:=om
 rcases h with rfl|rfl|rfl
 ·simp[mi,dt,d2];grind
 ·simp[mi,dt,d2,d3];grind
 ·simp[mi,dt,d2,d3,d4];grind
theorem tC(k:Nat)(M:Nat->Nat->Int):mi k M k k=dt (k+1) M:=by
 unfold mi;refine fu fun x y hx hy=>?_
 have ex:(if x=k then k else x)=x:=by split<;>omega
 have ey:(if y=k then k else y)=y:=by split<;>omega
 rw[ex,ey]
theorem Qz{s k:Nat}(hs:s<=4)(hk:k<s)(M:Nat->Nat->Int)(nz:dt k M≠0)(h:∀i j,k<=i->i<s->k<=j->j<s->mi k M i j=0):dt s M=0:=by
 have EL:k=0\/k=1\/k=2\/k=3:=om
 have qL:s=1\/s=2\/s=3\/s=4:=om
 have mz:∀{a b:Int},a≠0->a*b=0->b=0:=fun ha hb=>(Int.mul_eq_zero.1 hb).resolve_left ha
 rcases EL with rfl|rfl|rfl|rfl
 ·have h0:∀i j,i<s->j<s->M i j=0:=fun i j hi hj=>by
   have:=h i j om hi om hj;simpa[mi,dt]using this
  have z:=fu (s:=s) (M:=M) (N:=fun _ _=>0) (fun x y hx hy=>h0 x y hx hy);rw[z];rcases qL with rfl|rfl|rfl|rfl<;>simp[dt,d4,d3,d2]
 ·rcases qL with rfl|rfl|rfl|rfl
  ·omega
  ·rw[<-tC];exact h 1 1 om om om om
  ·have a:=h 1 1 om om om om
   have b:=h 1 2 om om om om;refine mz nz ?_;simp[mi,dt,d2]at a b;simp only[dt,d2,d3];grind
  ·have a:=h 1 1 om om om om
   have b:=h 1 2 om om om om;have c:=h 1 3 om om om om;refine mz nz (mz nz ?_);simp[mi,dt,d2]at a b c;simp only[dt,d2,d3,d4];grind
 ·rcases qL with rfl|rfl|rfl|rfl
  ·omega
  ·omega
  ·rw[<-tC];exact h 2 2 om om om om
  ·have a:=h 2 2 om om om om
   have b:=h 2 3 om om om om;refine mz nz ?_;have e:=Xo (k:=2) om M 3 3 om om;rw[<-tC 3,<-e,a,b];grind
 ·rcases qL with rfl|rfl|rfl|rfl
  ·omega
  ·omega
  ·omega
  ·rw[<-tC];exact h 3 3 om om om om
theorem jN{a b:Int}{A B:Nat}(ha:a.natAbs<=A)(hb:b.natAbs<=B):(a*b).natAbs<=A*B:=by rw[Int.natAbs_mul];exact Nat.mul_le_mul ha hb
theorem Nm{s:Nat}{M:Nat->Nat->Int}(h:∀x y,x<s->y<s->(M x y).natAbs<=9):(dt s M).natAbs<=157464:=by
 have ZA:∀{a b c d:Int},a.natAbs<=9->b.natAbs<=9->c.natAbs<=9->d.natAbs<=9->(d2 a b c d).natAbs<=162:=fun ha hb hc hd=>by
  have:=jN ha hd;have:=jN hb hc;unfold d2;omega
 have Xp:∀{a b c d e f g h i:Int},a.natAbs<=9->b.natAbs<=9->c.natAbs<=9->d.natAbs<=9->e.natAbs<=9->f.natAbs<=9->g.natAbs<=9->h.natAbs<=9->i.natAbs<=9->(d3 a b c d e f g h i).natAbs<=4374:=fun ha hb hc hd he hf hg hh hi=>by
  have:=jN ha (ZA he hf hh hi);have:=jN hb (ZA hd hf hg hi);have:=jN hc (ZA hd he hg hh);unfold d3;omega
 match s with
 |0=>show(1:Int).natAbs<=_;decide
 |1=>have:=h 0 0 om om;show(M 0 0).natAbs<=_;omega
 |2=>
  have:=ZA (h 0 0 om om) (h 0 1 om om) (h 1 0 om om) (h 1 1 om om);simp only[dt];omega
 |3=>
  have a0:0<3:=om
  have a1:1<3:=om
  have a2:2<3:=om
  have:=Xp (h _ _ a0 a0) (h _ _ a0 a1) (h _ _ a0 a2) (h _ _ a1 a0) (h _ _ a1 a1) (h _ _ a1 a2) (h _ _ a2 a0) (h _ _ a2 a1) (h _ _ a2 a2);simp only[dt];omega
 |4=>
  have a0:0<4:=om
  have a1:1<4:=om
  have a2:2<4:=om
  have a3:3<4:=om
  have m1:=jN (h _ _ a0 a0) (Xp (h _ _ a1 a1) (h _ _ a1 a2) (h _ _ a1 a3) (h _ _ a2 a1) (h _ _ a2 a2) (h _ _ a2 a3) (h _ _ a3 a1) (h _ _ a3 a2) (h _ _ a3 a3));have m2:=jN (h _ _ a0 a1) (Xp (h _ _ a1 a0) (h _ _ a1 a2) (h _ _ a1 a3) (h _ _ a2 a0) (h _ _ a2 a2) (h _ _ a2 a3) (h _ _ a3 a0) (h _ _ a3 a2) (h _ _ a3 a3));have m3:=jN (h _ _ a0 a2) (Xp (h _ _ a1 a0) (h _ _ a1 a1) (h _ _ a1 a3) (h _ _ a2 a0) (h _ _ a2 a1) (h _ _ a2 a3) (h _ _ a3 a0) (h _ _ a3 a1) (h _ _ a3 a3));have m4:=jN (h _ _ a0 a3) (Xp (h _ _ a1 a0) (h _ _ a1 a1) (h _ _ a1 a2) (h _ _ a2 a0) (h _ _ a2 a1) (h _ _ a2 a2) (h _ _ a3 a0) (h _ _ a3 a1) (h _ _ a3 a2));simp only[dt,d4];omega
 |s+5=>simp[dt]
structure A7(s:Nat)(P0:Nat->Nat->Int)(k:Nat)(last:Int)(C:Nat->Nat->Int):Prop where
 ex:∃P:Nat->Nat->Int,(∀x y,x<s->y<s->(P x y).natAbs<=9)/\(dt s P).natAbs=(dt s P0).natAbs/\last=dt k P/\last≠0/\∀i j,k<=i->i<s->k<=j->j<s->C i j=mi k P i j
theorem A7.start{s:Nat}{P:Nat->Nat->Int}(h:∀x y,x<s->y<s->(P x y).natAbs<=9):A7 s P 0 1 P:=
 ⟨P,h,rfl,rfl,by decide,fun i j _ _ _ _=>by simp[mi,dt]⟩
theorem A7.le{s k:Nat}{P0 C:Nat->Nat->Int}{last:Int}(b:A7 s P0 k last C)(hk:k<=s){i j:Nat}(i0:k<=i)(i1:i<s)(j0:k<=j)(j1:j<s):(C i j).natAbs<=157464:=by
 obtain⟨P,h,_,_,_,e⟩:=b.ex;rw[e i j i0 i1 j0 j1];unfold mi;refine Nm fun x y hx hy=>?_
 refine h _ _ ?_ ?_<;>split<;>omega
theorem A7.last{s k:Nat}{P0 C:Nat->Nat->Int}{last:Int}(b:A7 s P0 k last C)(hk:k<=s):last.natAbs<=157464/\last≠0:=by
 obtain⟨P,h,_,rfl,nz,e⟩:=b.ex;exact⟨Nm fun x y hx hy=>h _ _ om om,nz⟩
theorem A7.none{s k:Nat}{P0 C:Nat->Nat->Int}{last:Int}(b:A7 s P0 k last C)(hs:s<=4)(hk:k<s)(h:∀i j,k<=i->i<s->k<=j->j<s->C i j=0):(dt s P0).natAbs=0:=by
 obtain⟨P,_,d,rfl,nz,e⟩:=b.ex;rw[<-d,Qz hs hk P nz (fun i j i0 i1 j0 j1=>by rw[<-e i j i0 i1 j0 j1];exact h i j i0 i1 j0 j1)];rfl
theorem A7.fin{s:Nat}{P0 C:Nat->Nat->Int}{last:Int}(b:A7 s P0 s last C):last.natAbs=(dt s P0).natAbs:=by
 obtain⟨P,_,d,rfl,_⟩:=b.ex;exact d
theorem EM{s a b x:Nat}(ha:a<s)(hb:b<s)(hx:x<s):sw a b x<s:=by unfold sw;split;exact hb;split;exact ha;exact hx
theorem Sy{k b x:Nat}(hb:k<=b)(hx:k<=x):k<=sw k b x:=by unfold sw;split;exact hb;split<;>omega
theorem Cp{k b x:Nat}(hb:k<=b)(hx:x<k):sw k b x=x:=by unfold sw;rw[if_neg om,if_neg om]
theorem A7.swap{s k:Nat}{P0 C:Nat->Nat->Int}{last:Int}(b:A7 s P0 k last C){p q:Nat}(hk:k<s)(p0:k<=p)(p1:p<s)(q0:k<=q)(q1:q<s):A7 s P0 k last (fun i j=>C (sw k p i) (sw k q j)):=by
 obtain⟨P,h,d,l,nz,e⟩:=b.ex;refine⟨fun i j=>P (sw k p i) (sw k q j),fun x y hx hy=>h _ _ (EM hk p1 hx) (EM hk q1 hy),?_,?_,nz,fun i j i0 i1 j0 j1=>?_⟩
 ·have h1:=IJ (s:=s) (fun i j=>P i (sw k q j)) hk p1
  have h2:=Qy (s:=s) P hk q1;rw[<-d];rcases h1 with e1|e1<;>rcases h2 with e2|e2<;>rw[e1,e2]<;>omega
 ·rw[l]
  refine fu fun x y hx hy=>?_
  rw[Cp p0 hx,Cp q0 hy]
 ·show C (sw k p i) (sw k q j)=_
  rw[e _ _ (Sy p0 i0) (EM hk p1 i1) (Sy q0 j0) (EM hk q1 j1)];unfold mi;refine fu fun x y hx hy=>?_
  have ex:(if x=k then sw k p i else x)=sw k p (if x=k then i else x):=by
   by_cases c:x=k
   ·rw[if_pos c,if_pos c]
   ·rw[if_neg c,if_neg c,Cp p0 om]
  have ey:(if y=k then sw k q j else y)=sw k q (if y=k then j else y):=by
   by_cases c:y=k
   ·rw[if_pos c,if_pos c]
   ·rw[if_neg c,if_neg c,Cp q0 om]
  rw[ex,ey]
theorem A7.step{s k:Nat}{P0 C D:Nat->Nat->Int}{last:Int}(b:A7 s P0 k last C)(hs:s<=4)(hk:k<s)(nz:C k k≠0)(hD:∀i j,k<i->i<s->k<j->j<s->D i j=(C k k*C i j-C i k*C k j).tdiv last):A7 s P0 (k+1) (C k k) D:=by
 obtain⟨P,h,d,l,lz,e⟩:=b.ex;have ek:=e k k om hk om hk;refine⟨P,h,d,?_,nz,fun i j i0 i1 j0 j1=>?_⟩
 ·rw[ek,tC]
 ·rw[hD i j om i1 om j1,ek,e i j om i1 om j1,e i k om i1 om hk,e k j om hk om j1,Xo om P i j om om,l,Int.mul_tdiv_cancel_left _ (by rw[<-l];exact lz)]
def sg(x:Nat):Int:=if x % 2=0 then 1 else -1
def el(g:List (List Int))(i j:Int):Int:=gt (gt g i) j
def Cq(g:List (List Int))(k:Nat)(r c:List Int):Int:=dt k (fun i j=>el g (gt r i) (gt c j))
theorem Uk{g:List (List Int)}(h9:∀i j,(gt (gt g i) j).natAbs<=9)(k:Nat)(r c:List Int):(Cq g k r c).natAbs<=157464:=Nm fun _ _ _ _=>h9 _ _
def ch(n:Nat):Nat->Nat->List (List Int)
 |0,_=>[[]]
 |k+1,f=>(List.range' f (n-f)).flatMap fun i=>(ch n k (i+1)).map (fun l=>(i:Int) :: l)
def bl(n w:Nat):List Int:=((List.range n).filter (fun i=>w.testBit i)).map Int.ofNat
theorem Cr(n:Nat):∀(k f:Nat),∀l∈ch n k f,l.length=k:=by
 intro k
 induction k with
 |zero=>intro f l hl;simp[ch]at hl;simp[hl]
 |succ k ih=>
  intro f l hl;simp only[ch,List.mem_flatMap,List.mem_map]at hl;obtain⟨i,_,l',Mf,rfl⟩:=hl;simp[ih _ l' Mf]
theorem Sz(n:Nat):∀(k f:Nat),∀l∈ch n k f,∀x∈l,0<=x/\x<n:=by
 intro k
 induction k with
 |zero=>intro f l hl;simp[ch]at hl;simp[hl]
 |succ k ih=>
  intro f l hl x hx;simp only[ch,List.mem_flatMap,List.mem_map]at hl;obtain⟨i,hi,l',Mf,rfl⟩:=hl;rcases List.mem_cons.1 hx with e|e
  ·have:=List.mem_range'_1.1 hi;omega
  ·exact ih _ l' Mf x e
theorem Ul:((List.range 5).all fun n=>(List.range 5).all fun k=>((List.range (2 ^ n)).all fun w=>!((bl n w).length == k) || (ch n k 0).contains (bl n w)) && (ch n k 0).all fun l=>(List.range (2 ^ n)).any fun w=>bl n w == l)=true:=by decide +kernel
theorem SA(n:Nat)(hn:n<=4)(k:Nat)(hk:k<=4):(∀w,w<2 ^ n->(bl n w).length=k->bl n w∈ch n k 0)/\∀l∈ch n k 0,∃w,w<2 ^ n/\bl n w=l:=by
 have h:=Ul;simp only[List.all_eq_true,Bool.and_eq_true]at h;obtain⟨a,b⟩:=h n (List.mem_range.2 om) k (List.mem_range.2 om);refine⟨fun w hw hl=>?_,fun l hl=>?_⟩
 ·have:=a w (List.mem_range.2 hw)
  simpa[hl]using this
 ·obtain⟨w,hw,e⟩:=List.any_eq_true.1 (b l hl)
  exact⟨w,List.mem_range.1 hw,by simpa using e⟩
def Xq(g:List (List Int))(m n k G:Nat):Prop:=∀d:Nat,d∣G↔∀r∈ch m k 0,∀c∈ch n k 0,d∣(Cq g k r c).natAbs
theorem Xq.uniq{g:List (List Int)}{m n k G H:Nat}(a:Xq g m n k G)(b:Xq g m n k H):G=H:=
 Nat.dvd_antisymm ((b G).2 ((a G).1 (Nat.dvd_refl G))) ((a H).2 ((b H).1 (Nat.dvd_refl H)))
def Dv(g:List (List Int))(m n k:Nat):Nat:=(ch m k 0).foldl (fun s r=>(ch n k 0).foldl (fun s c=>Nat.gcd s (Cq g k r c).natAbs) s) 0
theorem Nn{α:Type}(f:α->Nat)(l:List α):∀s d:Nat,d∣l.foldl (fun s c=>Nat.gcd s (f c)) s↔d∣s/\∀c∈l,d∣f c:=by
 induction l with
 |nil=>intro s d;simp
 |cons x l ih=>intro s d;rw[List.foldl_cons,ih,Nat.dvd_gcd_iff];simp only[List.mem_cons,forall_eq_or_imp,and_assoc]
theorem Ks{α β:Type}(f:β->α->Nat)(l:List α)(l':List β):∀s d:Nat,d∣l'.foldl (fun s r=>l.foldl (fun s c=>Nat.gcd s (f r c)) s) s↔d∣s/\∀r∈l',∀c∈l,d∣f r c:=by
 induction l' with
 |nil=>intro s d;simp
 |cons x l' ih=>intro s d;rw[List.foldl_cons,ih,Nn];simp only[List.mem_cons,forall_eq_or_imp,and_assoc]
theorem IK(g:List (List Int))(m n k:Nat):Xq g m n k (Dv g m n k):=by
 intro d;unfold Dv;rw[Ks (fun r c=>(Cq g k r c).natAbs)];simp
theorem Xr{g:List (List Int)}{m n k G:Nat}(hm:m<=4)(hn:n<=4)(hk:k<=4)(h:∀d:Nat,d∣G↔∀R,R<2 ^ m->(bl m R).length=k->∀C,C<2 ^ n->(bl n C).length=k->d∣(Cq g k (bl m R) (bl n C)).natAbs):G=Dv g m n k:=by
 refine Xq.uniq (g:=g) (m:=m) (n:=n) (k:=k) (fun d=>?_) (IK g m n k);rw[h d];obtain⟨a1,a2⟩:=SA m hm k hk;obtain⟨b1,b2⟩:=SA n hn k hk;constructor
 ·intro q r hr c hc
  obtain⟨R,hR,eR⟩:=a2 r hr;obtain⟨C,hC,eC⟩:=b2 c hc;have:=q R hR (by rw[eR];exact Cr m k 0 r hr) C hC (by rw[eC];exact Cr n k 0 c hc)
  rwa [eR,eC]at this
 ·intro q R hR lR C hC lC
  exact q _ (a1 R hR lR) _ (b1 C hC lC)
theorem Cs(g:List (List Int))(m n:Nat):Dv g m n 0=1:=by
 simp[Dv,ch,Cq,dt]
theorem Um{a b B:Nat}(ha:a<=B)(hb:b<=B):Nat.gcd a b<=B:=by
 rcases Nat.eq_zero_or_pos a with e|e
 ·rw[e,Nat.gcd_zero_left];exact hb
 ·exact Nat.le_trans (Nat.gcd_le_left b e) ha
theorem SB{g:List (List Int)}(h9:∀i j,(gt (gt g i) j).natAbs<=9)(m n k:Nat):Dv g m n k<=157464:=by
 rcases Nat.eq_zero_or_pos (Dv g m n k)with e|e
 ·omega
 ·refine Classical.byContradiction fun q=>?_
  have h:=(IK g m n k (Dv g m n k)).1 (Nat.dvd_refl _);have z:Dv g m n k=0:=by
   have:(0:Nat)∣Dv g m n k:=(IK g m n k 0).2 (fun r hr c hc=>by
    have hd:=h r hr c hc;have hle:=Uk h9 k r c;rcases Nat.eq_zero_or_pos (Cq g k r c).natAbs with e0|e0
    ·rw[e0]
     exact Nat.dvd_refl 0
    ·have:=Nat.le_of_dvd e0 hd
     omega)
   exact Nat.eq_zero_of_zero_dvd this
  omega
theorem my(n w:Nat):bl (n+1) w=if w.testBit n then bl n w++[(n:Int)] else bl n w:=by
 unfold bl;rw[List.range_succ,List.filter_append,List.map_append];by_cases c:w.testBit n
 ·simp[c]
 ·simp[c]
theorem No(n w:Nat):(bl n w).length<=n:=by
 unfold bl;rw[List.length_map];exact Nat.le_trans (List.length_filter_le _ _) (by rw[List.length_range];exact Nat.le_refl _)
theorem IL:∀n w:Nat,n<=4->w<2 ^ n->(bl 4 w).length=(bl n w).length:=by
 have h:((List.range 5).all fun n=>(List.range (2 ^ n)).all fun w=>(bl 4 w).length == (bl n w).length)=true:=by decide +kernel
 intro n w hn hw;simp only[List.all_eq_true]at h;simpa using h n (List.mem_range.2 om) w (List.mem_range.2 hw)
theorem IM(l:List Int)(x:Int){i:Nat}(h:i<=l.length):gt (l++[x]) (i:Int)=if i<l.length then gt l (i:Int)else x:=by
 unfold gt;rw[List.getD_eq_getElem?_getD,List.getD_eq_getElem?_getD];show(l++[x])[i]?.getD default=_;by_cases c:i<l.length
 ·rw[List.getElem?_append_left c,if_pos c];rfl
 ·rw[if_neg c,show i=l.length by omega,List.getElem?_concat_length];rfl
end Go.Proofs.Ytdpbiegfljmhmaa.Ext
namespace Go.Proofs.Ytdpbiegfljmhmaa
open Go.cL
set_option maxRecDepth 100000
def Py(s:Nat)(M:Nat->Nat->Int)(p:Nat):Int:=if p=0 then(s:Int)else M ((p-1) / 4) ((p-1) % 4)
structure Sq(h0 h:af)(b s:Nat)(M:Nat->Nat->Int):Prop where
 ext:Ext h0 h
 own:aJ h b 17 ((kM (Py s M) 17).map (.int .i64))
 cJ:h0.next<=b
 lt:b<h.next
section
variable{h0 h:af}{b s:Nat}{M:Nat->Nat->Int}
theorem Sq.more{h':af}(t:Sq h0 h b s M)(e:Ext h h'):Sq h0 h' b s M:=⟨t.ext.trans e,t.own.ext e t.lt,t.cJ,Nat.lt_of_lt_of_le t.lt e.next⟩
theorem Sq.congr{N:Nat->Nat->Int}(t:Sq h0 h b s M)(e:∀i j,i<4->j<4->M i j=N i j):Sq h0 h b s N:=
 ⟨t.ext,by
  have:kM (Py s N) 17=kM (Py s M) 17:=ik (fun p hp=>by
   unfold Py;split
   ·rfl
   ·exact(e _ _ om om).symm)
  rw[this];exact t.own,t.cJ,t.lt⟩
theorem Sq.cell(t:Sq h0 h b s M){p:Nat}(hp:p<17):h.aL ⟨b,p,none⟩ 1=some [.int .i64 (Py s M p)]:=by
 rw[t.own.getInt (by rw[bP];exact hp),List.getD_eq_getElem?_getD,jO _ hp];rfl
theorem Sq.size(t:Sq h0 h b s M):h.aL ⟨b,0+0,none⟩ 1=some [.int .i64 s]:=t.cell (p:=0) om
theorem Sq.el(t:Sq h0 h b s M){i j:Nat}(hi:i<4)(hj:j<4):h.aL ⟨b,0+1+i*4+j*1,none⟩ 1=some [.int .i64 (M i j)]:=by
 rw[t.cell om];unfold Py;rw[if_neg om,show(0+1+i*4+j*1-1) / 4=i by omega,show(0+1+i*4+j*1-1) % 4=j by omega]
theorem Sq.wr{v:Int}{p:Nat}{s':Nat}{N:Nat->Nat->Int}(t:Sq h0 h b s M)(hp:p<17)(e:∀q,q<17->(if q=p then v else Py s M q)=Py s' N q):∃h',h.write b p [.int .i64 v]=some h'/\Sq h0 h' b s' N/\jV h h' b:=by
 obtain⟨h',w1,w2,w3⟩:=t.own.setInt (i:=p) (by rw[bP];exact hp) v;refine⟨h',w1,⟨w3.ext t.ext t.cJ,?_,t.cJ,by rw[w3.next];exact t.lt⟩,w3⟩;rw[wv,ik e]at w2;exact w2
theorem Sq.set(t:Sq h0 h b s M){i j:Nat}(hi:i<4)(hj:j<4)(v:Int):∃h',h.write b (0+1+i*4+j*1) [.int .i64 v]=some h'/\Sq h0 h' b s (tD M i j v)/\jV h h' b:=
 t.wr om (fun q hq=>by
  unfold Py tD;by_cases c:q=0+1+i*4+j*1
  ·rw[if_pos c,if_neg om,if_pos om]
  ·rw[if_neg c]
   by_cases c0:q=0
   ·rw[if_pos c0,if_pos c0]
   ·rw[if_neg c0,if_neg c0,if_neg om])
theorem Sq.grow(t:Sq h0 h b s M){S:Int}(eS:S=(s:Int)+1):∃h',h.write b (0+0) [.int .i64 S]=some h'/\Sq h0 h' b (s+1) M/\jV h h' b:=
 t.wr om (fun q hq=>by
  unfold Py;by_cases c:q=0+0
  ·rw[if_pos c,if_pos c,eS];rfl
  ·rw[if_neg c,if_neg om,if_neg om])
theorem Sq.row(t:Sq h0 h b s M){i:Nat}(hi:i<4):h.aL ⟨b,0+1+i*4,none⟩ 4=some [.int .i64 (M i 0),.int .i64 (M i 1),.int .i64 (M i 2),.int .i64 (M i 3)]:=by
 rw[t.own.aL (by rw[List.length_map,bP];omega)];have h:i=0\/i=1\/i=2\/i=3:=om
 rcases h with rfl|rfl|rfl|rfl<;>rfl
def Un(M:Nat->Nat->Int)(i:Nat)(w:Nat->Int):Nat->Nat->Int:=fun x y=>if x=i then w y else M x y
theorem Sq.setRow(t:Sq h0 h b s M){i:Nat}(hi:i<4)(w:Nat->Int):∃h',h.write b (0+1+i*4) [.int .i64 (w 0),.int .i64 (w 1),.int .i64 (w 2),.int .i64 (w 3)]=some h'/\Sq h0 h' b s (Un M i w)/\jV h h' b:=by
 obtain⟨h',w1,w2,w3⟩:=t.own.write (o:=0+1+i*4) (vs:=[.int .i64 (w 0),.int .i64 (w 1),.int .i64 (w 2),.int .i64 (w 3)]) (by rw[List.length_map,bP];show 0+1+i*4+4<=17;omega);refine⟨h',w1,⟨w3.ext t.ext t.cJ,?_,t.cJ,by rw[w3.next];exact t.lt⟩,w3⟩;have h:i=0\/i=1\/i=2\/i=3:=om
 rcases h with rfl|rfl|rfl|rfl<;>exact w2
theorem Sq.new(h:af):Sq h (h.push 17 (List.replicate 17 (.int .i64 0))) h.next 0 (fun _ _=>0):=
 ⟨.push h _ _,aJ.push h 17 _,Nat.le_refl _,by simp[af.push]⟩
end
def A8(s:Nat)(C:Nat->Nat->Int)(k:Nat)(last:Int)(i j:Nat):Nat->Nat->Int:=fun x y=>if k<x/\k<y/\y<s/\(x<i\/x=i/\y<j)then(C k k*C x y-C x k*C k y).tdiv last else C x y
theorem A9(s:Nat)(C:Nat->Nat->Int)(k:Nat)(last:Int)(x y:Nat):A8 s C k last (k+1) (k+1) x y=C x y:=by unfold A8;rw[if_neg om]
theorem QA(s:Nat)(C:Nat->Nat->Int)(k:Nat)(last:Int)(i x y:Nat):A8 s C k last i s x y=A8 s C k last (i+1) (k+1) x y:=by
 unfold A8;by_cases c:k<x/\k<y/\y<s/\(x<i\/x=i/\y<s)
 ·rw[if_pos c,if_pos om]
 ·rw[if_neg c,if_neg om]
theorem Uo:Try.prog.eqGuardType Try.prog.depth 126=false:=by kernel_rfl
theorem eqP(a b c d:Int):∃r,oZ Try.prog 30 126 (.agg #[.int .i64 a,.int .i64 b]) (.agg #[.int .i64 c,.int .i64 d])=some r/\(r=true↔a=c/\b=d):=by
 have h3:Try.prog.underlying 3=some (.int .i64):=by kernel_rfl
 have h4:Try.prog.underlying 126=some (.array 2 3):=by kernel_rfl
 have i3:iK Try.prog 3=some false:=by kernel_rfl
 have s3:bY Try.prog 3=some 1:=by kernel_rfl
 have e3:∀(n:Nat) (x y:Int),oZ Try.prog (n+1) 3 (.int .i64 x) (.int .i64 y)=some (x == y):=by
  intro n x y;unfold oZ;rw[h3];simp
 have e4:oZ Try.prog (29+1) 126 (.agg #[.int .i64 a,.int .i64 b]) (.agg #[.int .i64 c,.int .i64 d])=some ((a == c) && (b == d)):=by
  unfold oZ;rw[h4];have Pm:∀(x y:Int),oZ Try.prog 29 3 (.int .i64 x) (.int .i64 y)=some (x == y):=e3 28;simp only[s3,List.range,List.range.loop,List.foldr,kG,i3,List.getElem?_cons_zero,List.getElem?_cons_succ,Pm,Nat.mul_one];cases a == c<;>cases b == d<;>rfl
 refine⟨_,e4,?_⟩;simp only[Bool.and_eq_true,beq_iff_eq]
variable{F:bg}{call head arith b0 d0 fP f0 g0 neg imax k0 ofNat l0 place m0 nz n0 rd wr push next o0 r0 s0 t0 u0 v0 w0 z0 d1 f1 g1 k1 l1 o1 s1 aH wrote bZ lt ne u1 z1 f2 yn g2 i2 j2 k2 l2 o2:_}(hA:AP F ⟨call,head,arith,b0,d0,fP,f0,g0,neg,imax,k0,ofNat,l0,place,m0,nz,n0,rd,wr,push,next,o0,r0,s0,t0,u0,v0,w0,z0,d1,f1,g1,k1,l1,o1,s1,aH,wrote,bZ,lt,ne,u1,z1,f2,yn,g2,i2,j2,k2,l2,o2⟩)
include hA
theorem Kt{h0:af}(g:Nat){Q:Exit->SS->Prop}
  (hQ:∀(a:Int) h',a.natAbs=g->a.natAbs<=9000000000000000000->Ext h0 h'->Q (.exit 0) ⟨[(0,.int .i64 a)],0,[],h'⟩) :
  ∀(d:Nat) (a b:Int) (h:af),b.natAbs<=d->Int.gcd a b=g->a.natAbs<=9000000000000000000->b.natAbs<=9000000000000000000->Ext h0 h->
   head 67 1 0 ⟨[(0,.int .i64 a),(1,.int .i64 b)],0,[],h⟩ Q:=by
 intro d
 induction d with
 |zero=>
  intro a b h hd hg ha hb x;obtain rfl:b=0:=om
  refine hA.ar Try.func67 x67.2 (zc ?_);refine br ((0:Int)≠0) (by rw[cD hA]) (fun q=>absurd rfl q) (fun _=>?_)<;>refine zc ?_;exact hQ a h (by rw[<-hg,Int.gcd_zero_right]) ha x
 |succ d ih=>
 intro a b h hd hg ha hb x;by_cases cb:b=0
 ·subst cb
  refine hA.ar Try.func67 x67.2 (zc ?_);refine br ((0:Int)≠0) (by rw[cD hA]) (fun q=>absurd rfl q) (fun _=>?_)<;>refine zc ?_;exact hQ a h (by rw[<-hg,Int.gcd_zero_right]) ha x
 obtain⟨r,er⟩:∃z,z=a.tmod b:=⟨_,rfl⟩;have m1:arith .rem .i64 a b=r:=by rw[er,H2 hA]
 have lt:r.natAbs<b.natAbs:=by rw[er,Int.natAbs_tmod];exact Nat.mod_lt _ om
 have eg:Int.gcd b r=g:=by
  rw[<-hg,er];show Nat.gcd b.natAbs (a.tmod b).natAbs=Nat.gcd a.natAbs b.natAbs;rw[Int.natAbs_tmod,Nat.gcd_comm a.natAbs,Nat.gcd_comm b.natAbs (a.natAbs % b.natAbs),<-Nat.gcd_rec]
 refine hA.ar Try.func67 x67.2 (zc ?_);refine br (b≠0) (by rw[cD hA]) (fun _=>?_) (fun q=>absurd cb q)<;>refine zc ?_
 (refine zq ?_;repeat ((first|rw[m1]);refine zq ?_))
 exact ih b r _ om eg hb om (x.trans (av hA _ _))
theorem IN{h:af}(aq:h.low<=h.next){a b:Int}(ha:a.natAbs<=9000000000000000000)(hb:b.natAbs<=9000000000000000000){Q:Value->af->Prop}(hQ:∀h',Ext h h'->Q (.int .i64 (Int.gcd a b)) h'):call 67 [.int .i64 a,.int .i64 b] h Q:=by
 refine hA.aQ Try.func67 x67.2 (hA.alike _ _ _ rfl) aq (zc ?_);refine Kt hA (h0:=h) (Int.gcd a b) (fun x h' hx hle x1=>?_) b.natAbs a b h (Nat.le_refl _) rfl ha hb (.refl h);obtain⟨G,eG⟩:∃z:Int,z=Int.gcd a b:=⟨_,rfl⟩;have m1:imax x (neg .i64 x)=G:=by rw[LJ hA,u7 hA,wrap64 om om];omega
 have hq:=hQ h' x1;rw[<-eG]at hq
 (refine zq ?_;repeat ((first|rw[m1]);refine zq ?_))
 exact hq
theorem Ku{x:Int}(h0:0<=x)(h1:x<16){h:af}(aq:h.low<=h.next){Q:Value->af->Prop}(hQ:∀v:Int,v=(Ext.bl 4 x.toNat).length->Q (.int .i64 v) h):call 94 [.int .u64 x] h Q:=by
 refine hA.aQ Try.func94 x94.2 (hA.alike _ _ _ rfl) aq (zc ?_);refine zq ?_;refine hQ _ ?_;simp only[LP hA,LO hA,HZ hA,rV hA];have hx:x=0\/x=1\/x=2\/x=3\/x=4\/x=5\/x=6\/x=7\/x=8\/x=9\/x=10\/x=11\/x=12\/x=13\/x=14\/x=15:=om
 rcases hx with rfl|rfl|rfl|rfl|rfl|rfl|rfl|rfl|rfl|rfl|rfl|rfl|rfl|rfl|rfl|rfl<;>rfl
theorem IP{x:Int}(h0:0<=x)(h1:x<16){h:af}(aq:h.low<=h.next){Q:Value->af->Prop}(hQ:∀v:Int,v=(Ext.bl 4 x.toNat).length->Q (.int .i64 v) h):call 79 [.int .u64 x] h Q:=by
 refine hA.aQ Try.func79 x79.2 (hA.alike _ _ _ rfl) aq (zc ?_);refine Ku hA h0 h1 aq (fun v ev=>⟨v,rfl,?_⟩);refine zq ?_;exact hQ v ev
theorem jw{h0 h:af}{b s:Nat}{M:Nat->Nat->Int}(t:Sq h0 h b s M){S:Int}(eS:S=s):rd h b (bZ 0 0) 1 [.int .i64 S]:=PL hA (by rw[eS];exact t.size)
theorem tE{h0 h:af}{b s:Nat}{M:Nat->Nat->Int}(t:Sq h0 h b s M){i j:Nat}(hi:i<4)(hj:j<4){I J v:Int}(eI:I=i)(eJ:J=j)(ev:v=M i j):rd h b (place (place (bZ 0 1) I 4) J 1) 1 [.int .i64 v]:=by
 rw[Dz hA,gE hA,gE hA,cN hA,eI,eJ,ev];exact t.el hi hj
theorem Np{h0 h:af}{b s:Nat}{M:Nat->Nat->Int}(t:Sq h0 h b s M){i:Nat}(hi:i<4){I:Int}(eI:I=i):rd h b (place (bZ 0 1) I 4) 4 [.int .i64 (M i 0),.int .i64 (M i 1),.int .i64 (M i 2),.int .i64 (M i 3)]:=by
 rw[Dz hA,gE hA,cN hA,eI];exact t.row hi
theorem Ct{h0 h:af}{b s:Nat}{M:Nat->Nat->Int}(t:Sq h0 h b s M){i j:Nat}(hi:i<4)(hj:j<4){I J v:Int}(eI:I=i)(eJ:J=j):∃h',wr h b (place (place (bZ 0 1) I 4) J 1) [.int .i64 v] h'/\Sq h0 h' b s (tD M i j v)/\jV h h' b:=by
 obtain⟨h',w1,w2,w3⟩:=t.set hi hj v;refine⟨h',?_,w2,w3⟩;rw[LI hA,gE hA,gE hA,cN hA,eI,eJ];exact w1
theorem Ba{h0 h:af}{b s:Nat}{M:Nat->Nat->Int}(t:Sq h0 h b s M){i:Nat}(hi:i<4){I:Int}(eI:I=i)(w:Nat->Int){a0 a1 a2 a3:Int}(e0:a0=w 0)(e1:a1=w 1)(e2:a2=w 2)(e3:a3=w 3):∃h',wr h b (place (bZ 0 1) I 4) [.int .i64 a0,.int .i64 a1,.int .i64 a2,.int .i64 a3] h'/\Sq h0 h' b s (Un M i w)/\jV h h' b:=by
 obtain⟨h',w1,w2,w3⟩:=t.setRow hi w;refine⟨h',?_,w2,w3⟩;rw[LI hA,gE hA,cN hA,eI,e0,e1,e2,e3];exact w1
theorem QB{h0:af}{b s k i:Nat}{M:Nat->Nat->Int}(hs:s<=4)(hi:i<s){K I S:Int}(eK:K=k)(eI:I=i)(eS:S=s){c0 c1:Int}{Q:Exit->SS->Prop}
  (Nq:∀(j:Nat) (J:Int) (h':af),k<=j->j<s->J=j->M i j≠0->Sq h0 h' b s M->Q .ret ⟨[(5,.bool true),(37,.agg #[.int .i64 I,.int .i64 J]),(36,.int .i64 J),(35,.int .i64 I),(4,.pointer (some ⟨0,0,some 0⟩)),(6,.int .i64 I),(7,.int .i64 J)],1,[(0,[.int .i64 I,.int .i64 J]),(0,[.int .i64 c0,.int .i64 c1])],h'⟩)
  (Gs:∀(h':af),(∀j,k<=j->j<s->M i j=0)->Sq h0 h' b s M->Q (.exit 2) ⟨[(0,.pointer (some ⟨b,0,none⟩)),(1,.int .i64 K),(4,.pointer (some ⟨0,0,some 0⟩)),(6,.int .i64 I)],1,[(0,[.int .i64 c0,.int .i64 c1])],h'⟩) :
  ∀(d j:Nat) (J:Int) (h:af),s-j<=d->k<=j->j<=s->J=j->(∀x,k<=x->x<j->M i x=0)->Sq h0 h b s M->
   head 97 5 1 ⟨[(0,.pointer (some ⟨b,0,none⟩)),(1,.int .i64 K),(4,.pointer (some ⟨0,0,some 0⟩)),(6,.int .i64 I),(7,.int .i64 J)],1,[(0,[.int .i64 c0,.int .i64 c1])],h⟩ Q:=by
 intro d
 induction d with
 |zero=>
  intro j J h hd kj hj eJ hz t;have r1:=jw hA t eS;refine hA.ar Try.func97 x97.2 (zc ?_);refine zq ?_;refine br (J<S) (by rw[aB hA]) (fun q=>om) (fun _=>?_)<;>refine zc ?_;exact Gs h (fun x x0 x1=>hz x x0 om) t
 |succ d ih=>
 intro j J h hd kj hj eJ hz t;have r1:=jw hA t eS;by_cases cj:j<s
 rotate_left
 ·refine hA.ar Try.func97 x97.2 (zc ?_)
  refine zq ?_;refine br (J<S) (by rw[aB hA]) (fun q=>om) (fun _=>?_)<;>refine zc ?_;exact Gs h (fun x x0 x1=>hz x x0 om) t
 obtain⟨v,ev⟩:∃z,z=M i j:=⟨_,rfl⟩;have r2:=tE hA t (i:=i) (j:=j) om om eI eJ ev;refine hA.ar Try.func97 x97.2 (zc ?_);refine zq ?_;refine br (J<S) (by rw[aB hA]) (fun _=>?_) (fun q=>om)<;>refine zc ?_;refine zq ?_;refine br (v≠0) (by rw[cD hA]) (fun c=>?_) (fun c=>?_)<;>refine zc ?_
 ·refine zq ?_
  exact Nq j J h kj cj eJ (by rw[<-ev];exact c) t
 refine zq ?_;rw[aF hA om om];refine ih (j+1) (J+1) h om om om om (fun x x0 x1=>?_) t;by_cases e:x=j
 ·rw[e,<-ev];omega
 ·exact hz x x0 om
theorem Nr{h0:af}{b s k:Nat}{M:Nat->Nat->Int}(hs:s<=4){K S:Int}(eK:K=k)(eS:S=s){c0 c1:Int}{Q:Exit->SS->Prop}
  (Nq:∀(i j:Nat) (I J:Int) (h':af),k<=i->i<s->k<=j->j<s->I=i->J=j->M i j≠0->Sq h0 h' b s M->Q .ret ⟨[(5,.bool true),(37,.agg #[.int .i64 I,.int .i64 J]),(36,.int .i64 J),(35,.int .i64 I),(4,.pointer (some ⟨0,0,some 0⟩)),(6,.int .i64 I),(7,.int .i64 J)],1,[(0,[.int .i64 I,.int .i64 J]),(0,[.int .i64 c0,.int .i64 c1])],h'⟩)
  (Gs:∀(h':af),(∀i j,k<=i->i<s->k<=j->j<s->M i j=0)->Sq h0 h' b s M->Q (.exit 0) ⟨[(4,.pointer (some ⟨0,0,some 0⟩))],1,[(0,[.int .i64 c0,.int .i64 c1])],h'⟩) :
  ∀(d i:Nat) (I:Int) (h:af),s-i<=d->k<=i->i<=s->I=i->(∀x j,k<=x->x<i->k<=j->j<s->M x j=0)->Sq h0 h b s M->
   head 97 2 1 ⟨[(0,.pointer (some ⟨b,0,none⟩)),(1,.int .i64 K),(4,.pointer (some ⟨0,0,some 0⟩)),(6,.int .i64 I)],1,[(0,[.int .i64 c0,.int .i64 c1])],h⟩ Q:=by
 intro d
 induction d with
 |zero=>
  intro i I h hd ki hi eI hz t;have r1:=jw hA t eS;refine hA.ar Try.func97 x97.2 (zc ?_);refine zq ?_;refine br (I<S) (by rw[aB hA]) (fun q=>om) (fun _=>?_)<;>refine zc ?_;exact Gs h (fun x j x0 x1=>hz x j x0 om) t
 |succ d ih=>
 intro i I h hd ki hi eI hz t;have r1:=jw hA t eS;by_cases ci:i<s
 rotate_left
 ·refine hA.ar Try.func97 x97.2 (zc ?_)
  refine zq ?_;refine br (I<S) (by rw[aB hA]) (fun q=>om) (fun _=>?_)<;>refine zc ?_;exact Gs h (fun x j x0 x1=>hz x j x0 om) t
 refine hA.ar Try.func97 x97.2 (zc ?_);refine zq ?_;refine br (I<S) (by rw[aB hA]) (fun _=>?_) (fun q=>om)<;>refine zc ?_;refine zq ?_;refine QB hA hs ci eK eI eS (fun j J h' j0 j1 eJ nz t'=>?_) (fun h' TP t'=>?_) (s-k) k K h om om om eK (fun x x0 x1=>om) t
 ·exact Nq i j I J h' ki ci j0 j1 eI eJ nz t'
 refine zq ?_;rw[aF hA om om];refine ih (i+1) (I+1) h' om om om om (fun x j x0 x1 j0 j1=>?_) t';by_cases e:x=i
 ·rw[e];exact TP j j0 j1
 ·exact hz x j x0 om j0 j1
theorem QC{h0 h:af}(aq:h.low<=h.next){b s k:Nat}{M:Nat->Nat->Int}(t:Sq h0 h b s M)(hs:s<=4)(hk:k<=s){K:Int}(eK:K=k){Q:Value->af->Prop}
  (Nq:∀(i j:Nat) (I J:Int) (h':af),k<=i->i<s->k<=j->j<s->I=i->J=j->M i j≠0->Sq h0 h' b s M->Q (.tuple #[.agg #[.int .i64 I,.int .i64 J],.bool true]) h')
  (Gs:∀(h':af),(∀i j,k<=i->i<s->k<=j->j<s->M i j=0)->Sq h0 h' b s M->Q (.tuple #[.agg #[.int .i64 0,.int .i64 0],.bool false]) h') :
  call 97 [.pointer (some ⟨b,0,none⟩),.int .i64 K] h Q:=by
 obtain⟨S,eS⟩:∃z:Int,z=s:=⟨_,rfl⟩;refine hA.aQ Try.func97 x97.2 (hA.alike _ _ _ rfl) aq (zc ?_);refine Nr hA (h0:=h0) hs eK eS (fun i j I J h' i0 i1 j0 j1 eI eJ nz t'=>?_) (fun h' hz t'=>?_) (s-k) k K h om om hk eK (fun x j x0 x1=>om) t
 ·refine zq ?_
  exact Nq i j I J h' i0 i1 j0 j1 eI eJ nz t'
 ·refine zq ?_
  exact Gs h' hz t'
theorem EN{h0 h:af}(aq:h.low<=h.next){b s x y:Nat}{M:Nat->Nat->Int}(t:Sq h0 h b s M)(hx:x<4)(hy:y<4){X Y:Int}(eX:X=x)(eY:Y=y){Q:Value->af->Prop}
  (hQ:∀h',Sq h0 h' b s (fun i j=>M (Ext.sw x y i) j)->kp h h' b->Q (.tuple #[]) h') :
  call 95 [.pointer (some ⟨b,0,none⟩),.int .i64 X,.int .i64 Y] h Q:=by
 obtain⟨h9,yW⟩:∃z,z=aH h 24:=⟨_,rfl⟩;have x9:Ext h h9:=by rw[yW];exact av hA _ _
 have t9:=t.more x9;have r1:=Np hA t9 hx eX;have r2:=Np hA t9 hy eY;obtain⟨x0,ex0⟩:∃z,z=M x 0:=⟨_,rfl⟩;obtain⟨x1,QD⟩:∃z,z=M x 1:=⟨_,rfl⟩;obtain⟨x2,Pz⟩:∃z,z=M x 2:=⟨_,rfl⟩;obtain⟨x3,Xs⟩:∃z,z=M x 3:=⟨_,rfl⟩;obtain⟨y0,ey0⟩:∃z,z=M y 0:=⟨_,rfl⟩;obtain⟨y1,Xt⟩:∃z,z=M y 1:=⟨_,rfl⟩;obtain⟨y2,Xu⟩:∃z,z=M y 2:=⟨_,rfl⟩;obtain⟨y3,ey3⟩:∃z,z=M y 3:=⟨_,rfl⟩;rw[<-ex0,<-QD,<-Pz,<-Xs]at r1;rw[<-ey0,<-Xt,<-Xu,<-ey3]at r2;obtain⟨h1,w1,t1,v1⟩:=Ba hA t9 hx eX (M y) ey0 Xt Xu ey3;obtain⟨h2,w2,t2,v2⟩:=Ba hA t1 hy eY (M x) ex0 QD Pz Xs;refine hA.aQ Try.func95 x95.2 (hA.alike _ _ _ rfl) aq (zc ?_);rw[<-yW];refine zq ?_;refine hQ h2 (t2.congr (fun i j hi hj=>?_)) ((((kp.refl h b).ext x9).wrote v1).wrote v2);unfold Un Ext.sw;by_cases c:i=y
 ·rw[if_pos c]
  by_cases d:i=x
  ·rw[if_pos d,<-c,<-d]
  ·rw[if_neg d,if_pos c]
 ·rw[if_neg c]
  by_cases d:i=x
  ·rw[if_pos d,if_pos d]
  ·rw[if_neg d,if_neg d,if_neg c]
def VD(M:Nat->Nat->Int)(x y n:Nat):Nat->Nat->Int:=fun i j=>if i<n then M i (Ext.sw x y j)else M i j
theorem Am{h0:af}{b s x y:Nat}{M:Nat->Nat->Int}(hx:x<4)(hy:y<4){X Y:Int}(eX:X=x)(eY:Y=y){Q:Exit->SS->Prop}
  (hQ:∀h',Sq h0 h' b s (fun i j=>M i (Ext.sw x y j))->Q (.exit 0) ⟨[],0,[],h'⟩) :
  ∀(d i:Nat) (I:Int) (h:af),4-i<=d->i<=4->I=i->Sq h0 h b s (VD M x y i)->
   head 96 1 0 ⟨[(0,.pointer (some ⟨b,0,none⟩)),(1,.int .i64 X),(2,.int .i64 Y),(7,.int .i64 I)],0,[],h⟩ Q:=by
 refine oR (fun d ih=>?_);intro i I h hd hi eI t;by_cases ci:i<4
 rotate_left
 ·refine hA.ar Try.func96 G5 (zc ?_)
  refine br (I<4) (by rw[aB hA]) (fun q=>om) (fun _=>?_)<;>refine zc ?_;exact hQ h (t.congr (fun i' j Ei hj=>by unfold VD;rw[if_pos om]))
 obtain⟨d,rfl⟩:∃k,d=k+1:=⟨d-1,om⟩
 replace ih:=ih d rfl
 obtain⟨h9,yW⟩:∃z,z=aH h 32:=⟨_,rfl⟩;have t9:=t.more (show Ext h h9 by rw[yW];exact av hA _ _);obtain⟨u,eu⟩:∃z,z=VD M x y i i x:=⟨_,rfl⟩;obtain⟨v,ev⟩:∃z,z=VD M x y i i y:=⟨_,rfl⟩;have r1:=tE hA t9 ci hx eI eX eu;have r2:=tE hA t9 ci hy eI eY ev;obtain⟨h1,w1,t1,_⟩:=Ct hA t9 ci hx eI eX (v:=v);obtain⟨h2,w2,t2,_⟩:=Ct hA t1 ci hy eI eY (v:=u);refine hA.ar Try.func96 G5 (zc ?_);refine br (I<4) (by rw[aB hA]) (fun _=>?_) (fun q=>om)<;>refine zc ?_;rw[<-yW];refine zq ?_;rw[aF hA om om];refine ih (i+1) (I+1) h2 om om om (t2.congr (fun i' j Ei hj=>?_));rw[eu,ev];unfold tD VD Ext.sw;by_cases c:i'=i
 ·subst c
  simp only[Nat.lt_irrefl,if_false,true_and,Nat.lt_succ_self,if_true];by_cases c1:j=y
  ·rw[if_pos c1]
   by_cases c2:j=x
   ·rw[if_pos c2,<-c1,<-c2]
   ·rw[if_neg c2,if_pos c1]
  ·rw[if_neg c1]
   by_cases c2:j=x
   ·rw[if_pos c2,if_pos c2]
   ·rw[if_neg c2,if_neg c2,if_neg c1]
 ·rw[if_neg om,if_neg om]
  by_cases c1:i'<i
  ·rw[if_pos c1,if_pos (show i'<i+1 by omega)]
  ·rw[if_neg c1,if_neg (show ¬i'<i+1 by omega)]
theorem EO{h0 h:af}(aq:h.low<=h.next){b s x y:Nat}{M:Nat->Nat->Int}(t:Sq h0 h b s M)(hx:x<4)(hy:y<4){X Y:Int}(eX:X=x)(eY:Y=y){Q:Value->af->Prop}
  (hQ:∀h',Sq h0 h' b s (fun i j=>M i (Ext.sw x y j))->Q (.tuple #[]) h') :
  call 96 [.pointer (some ⟨b,0,none⟩),.int .i64 X,.int .i64 Y] h Q:=by
 refine hA.aQ Try.func96 G5 (hA.alike _ _ _ rfl) aq (zc ?_);refine Am hA hx hy eX eY (fun h' t'=>?_) 4 0 0 h om om rfl (t.congr (fun i j hi hj=>by unfold VD;rw[if_neg om]));refine zq ?_;exact hQ h' t'
theorem Xv{h0:af}{b s k i:Nat}{C:Nat->Nat->Int}{last:Int}(hs:s<=4)(hk:k<i)(hi:i<s){K I S:Int}(eK:K=k)(eI:I=i)(eS:S=s)(hb:∀x y,k<=x->x<s->k<=y->y<s->(C x y).natAbs<=157464)(lz:last≠0){Q:Exit->SS->Prop}
  (hQ:∀(h':af),Sq h0 h' b s (A8 s C k last i s)->Q (.exit 4) ⟨[(0,.pointer (some ⟨b,0,none⟩)),(3,.func (.func 95) #[.pointer (some ⟨b,0,none⟩)] #[]),(4,.func (.func 96) #[.pointer (some ⟨b,0,none⟩)] #[]),(5,.int .i64 last),(6,.int .i64 K),(9,.int .i64 I),(18,.int .i64 S),(19,.int .i64 K)],0,[],h'⟩) :
  ∀(d j:Nat) (J:Int) (h:af),s-j<=d->k<j->j<=s->J=j->Sq h0 h b s (A8 s C k last i j)->
   head 81 16 0 ⟨[(0,.pointer (some ⟨b,0,none⟩)),(3,.func (.func 95) #[.pointer (some ⟨b,0,none⟩)] #[]),(4,.func (.func 96) #[.pointer (some ⟨b,0,none⟩)] #[]),(5,.int .i64 last),(6,.int .i64 K),(9,.int .i64 I),(10,.int .i64 J),(18,.int .i64 S),(19,.int .i64 K)],0,[],h⟩ Q:=by
 intro d
 induction d with
 |zero=>
  intro j J h hd kj hj eJ t;have r1:=jw hA t eS;refine hA.ar Try.func81 og (zc ?_);refine zq ?_;refine br (J<S) (by rw[aB hA]) (fun q=>om) (fun _=>?_)<;>refine zc ?_;obtain rfl:j=s:=om
  exact hQ h t
 |succ d ih=>
 intro j J h hd kj hj eJ t;have r1:=jw hA t eS;by_cases cj:j<s
 rotate_left
 ·refine hA.ar Try.func81 og (zc ?_)
  refine zq ?_;refine br (J<S) (by rw[aB hA]) (fun q=>om) (fun _=>?_)<;>refine zc ?_;obtain rfl:j=s:=om
  exact hQ h t
 obtain⟨h9,yW⟩:∃z,z=aH h 45:=⟨_,rfl⟩;have t9:=t.more (show Ext h h9 by rw[yW];exact av hA _ _);obtain⟨p,ep⟩:∃z,z=C k k:=⟨_,rfl⟩;obtain⟨v,ev⟩:∃z,z=C i j:=⟨_,rfl⟩;obtain⟨u,eu⟩:∃z,z=C i k:=⟨_,rfl⟩;obtain⟨w,ew⟩:∃z,z=C k j:=⟨_,rfl⟩;have bp:=hb k k om om om om;have bv:=hb i j om om om om;have bu:=hb i k om om om om;have bw:=hb k j om om om om;rw[<-ep]at bp;rw[<-ev]at bv;rw[<-eu]at bu;rw[<-ew]at bw;have r2:=tE hA t9 (i:=k) (j:=k) om om eK eK (v:=p) (by unfold A8;rw[if_neg om,ep]);have r3:=tE hA t9 (i:=i) (j:=j) om om eI eJ (v:=v) (by unfold A8;rw[if_neg om,ev]);have r4:=tE hA t9 (i:=i) (j:=k) om om eI eK (v:=u) (by unfold A8;rw[if_neg om,eu]);have r5:=tE hA t9 (i:=k) (j:=j) om om eK eJ (v:=w) (by unfold A8;rw[if_neg om,ew]);have b1:=Ext.jN bp bv;have b2:=Ext.jN bu bw;obtain⟨x1,QD⟩:∃z,z=p*v:=⟨_,rfl⟩;obtain⟨x2,Pz⟩:∃z,z=u*w:=⟨_,rfl⟩;rw[<-QD]at b1;rw[<-Pz]at b2;have m1:arith .mul .i64 p v=x1:=by rw[QD];exact jh hA om om
 have m2:arith .mul .i64 u w=x2:=by rw[Pz];exact jh hA om om
 obtain⟨x3,Xs⟩:∃z,z=x1-x2:=⟨_,rfl⟩;have m3:arith .sub .i64 x1 x2=x3:=by rw[Xs];exact bR hA om om
 obtain⟨g,eg⟩:∃z,z=x3.tdiv last:=⟨_,rfl⟩;have m4:arith .quo .i64 x3 last=g:=by
  rw[Dw hA,<-eg];have:=Int.natAbs_tdiv_le_natAbs x3 last;rw[<-eg]at this;exact wrap64 om om
 obtain⟨h2,w1,t2,_⟩:=Ct hA t9 (i:=i) (j:=j) om om eI eJ (v:=g);refine hA.ar Try.func81 og (zc ?_);refine zq ?_;refine br (J<S) (by rw[aB hA]) (fun _=>?_) (fun q=>om)<;>refine zc ?_;rw[<-yW]
 (refine zq ?_;repeat ((first|rw[m1]|rw[m2]|rw[m3]|rw[m4]);refine zq ?_))
 rw[aF hA om om];refine ih (j+1) (J+1) h2 om om om om (t2.congr (fun x y hx hy=>?_));unfold tD A8;by_cases c:x=i/\y=j
 ·rw[if_pos c,if_pos om,eg,Xs,QD,Pz,ep,ev,eu,ew,c.1,c.2]
 ·rw[if_neg c]
  by_cases c2:k<x/\k<y/\y<s/\(x<i\/x=i/\y<j)
  ·rw[if_pos c2,if_pos om]
  ·rw[if_neg c2,if_neg om]
theorem Nt{h0:af}{b s k:Nat}{C:Nat->Nat->Int}{last:Int}(hs:s<=4)(hk:k<s){K S:Int}(eK:K=k)(eS:S=s)(hb:∀x y,k<=x->x<s->k<=y->y<s->(C x y).natAbs<=157464)(lz:last≠0){Q:Exit->SS->Prop}
  (hQ:∀(h':af),Sq h0 h' b s (A8 s C k last s (k+1))->Q (.exit 2) ⟨[(0,.pointer (some ⟨b,0,none⟩)),(3,.func (.func 95) #[.pointer (some ⟨b,0,none⟩)] #[]),(4,.func (.func 96) #[.pointer (some ⟨b,0,none⟩)] #[]),(6,.int .i64 K),(18,.int .i64 S),(19,.int .i64 K)],0,[],h'⟩) :
  ∀(d i:Nat) (I:Int) (h:af),s-i<=d->k<i->i<=s->I=i->Sq h0 h b s (A8 s C k last i (k+1))->
   head 81 13 0 ⟨[(0,.pointer (some ⟨b,0,none⟩)),(3,.func (.func 95) #[.pointer (some ⟨b,0,none⟩)] #[]),(4,.func (.func 96) #[.pointer (some ⟨b,0,none⟩)] #[]),(5,.int .i64 last),(6,.int .i64 K),(9,.int .i64 I),(18,.int .i64 S),(19,.int .i64 K)],0,[],h⟩ Q:=by
 intro d
 induction d with
 |zero=>
  intro i I h hd ki hi eI t;have r1:=jw hA t eS;refine hA.ar Try.func81 og (zc ?_);refine zq ?_;refine br (I<S) (by rw[aB hA]) (fun q=>om) (fun _=>?_)<;>refine zc ?_;obtain rfl:i=s:=om
  exact hQ h t
 |succ d ih=>
 intro i I h hd ki hi eI t;have r1:=jw hA t eS;by_cases ci:i<s
 rotate_left
 ·refine hA.ar Try.func81 og (zc ?_)
  refine zq ?_;refine br (I<S) (by rw[aB hA]) (fun q=>om) (fun _=>?_)<;>refine zc ?_;obtain rfl:i=s:=om
  exact hQ h t
 refine hA.ar Try.func81 og (zc ?_);refine zq ?_;refine br (I<S) (by rw[aB hA]) (fun _=>?_) (fun q=>om)<;>refine zc ?_;refine zq ?_;rw[aF hA om om];refine Xv hA hs ki ci eK eI eS hb lz (fun h' t'=>?_) (s-(k+1)) (k+1) (K+1) h om om om om t;refine zq ?_;rw[aF hA om om];exact ih (i+1) (I+1) h' om om om om (t'.congr (fun x y _ _=>QA s C k last i x y))
theorem EP{h0 h' X:af}{b s nb:Nat}{C:Nat->Nat->Int}(t:Sq h0 h' b s C)(eX:X=push h' 2 [.int .i64 0,.int .i64 0])(en:nb=next h')(I J:Int):∃h2,wr X nb 0 [.int .i64 I,.int .i64 J] h2/\Sq h0 h2 b s C/\aJ h2 nb 2 [.int .i64 I,.int .i64 J]/\nb<h2.next:=by
 rw[aV hA]at eX;rw[aW hA]at en;subst eX en;obtain⟨h2,w1,w2,w3⟩:=(aJ.push h' 2 [.int .i64 0,.int .i64 0]).write (o:=0) (vs:=[.int .i64 I,.int .i64 J]) (by show 0+2<=2;omega);have t1:=t.more (Ext.push h' 2 [.int .i64 0,.int .i64 0]);have dV:=t.lt;have n1:h2.next=h'.next+1:=w3.next;refine⟨h2,kI hA w1,⟨w3.ext t1.ext t.ext.next,w3.own t1.own om,t.cJ,om⟩,w2,om⟩
set_option maxHeartbeats 1000000 in
theorem QF{h0:af}(gq:h0.low<=h0.next){b s:Nat}{P:Nat->Nat->Int}(hs:s<=4){S:Int}(eS:S=s){Q:Exit->SS->Prop}
  (lM:∀h' env kn T,(Ext.dt s P).natAbs=0->Ext h0 h'->Q .ret ⟨(2,.int .i64 0) :: env,kn,T,h'⟩)
  (hQ:∀(h':af) (last:Int),last.natAbs=(Ext.dt s P).natAbs->last.natAbs<=157464->Ext h0 h'->Q (.exit 0) ⟨[(5,.int .i64 last)],0,[],h'⟩) :
  ∀(d k:Nat) (K last:Int) (h:af) (C:Nat->Nat->Int),s-k<=d->k<=s->K=k->Ext.A7 s P k last C->Sq h0 h b s C->
   head 81 4 0 ⟨[(0,.pointer (some ⟨b,0,none⟩)),(3,.func (.func 95) #[.pointer (some ⟨b,0,none⟩)] #[]),(4,.func (.func 96) #[.pointer (some ⟨b,0,none⟩)] #[]),(5,.int .i64 last),(18,.int .i64 S),(19,.int .i64 K)],0,[],h⟩ Q:=by
 refine oR (fun d ih=>?_);intro k K last h C hd hk eK B t;by_cases ck:k<s
 rotate_left
 ·refine hA.ar Try.func81 og (zc ?_)
  refine br (K<S) (by rw[aB hA]) (fun q=>om) (fun _=>?_)<;>refine zc ?_;obtain rfl:k=s:=om
  exact hQ h last B.fin (B.last (Nat.le_refl _)).1 t.ext
 obtain⟨d,rfl⟩:∃k,d=k+1:=⟨d-1,om⟩
 replace ih:=ih d rfl
 refine hA.ar Try.func81 og (zc ?_);refine br (K<S) (by rw[aB hA]) (fun _=>?_) (fun q=>om)<;>refine zc ?_;refine zq ?_;refine QC hA (t.ext.az gq) t hs hk eK (fun i j I J h' i0 i1 j0 j1 eI eJ nz t'=>⟨_,_,_,rfl,?_⟩) (fun h' hz t'=>⟨_,_,_,rfl,?_⟩)
 ·obtain⟨nb,FX⟩:∃z,z=next h':=⟨_,rfl⟩
  obtain⟨X,eX⟩:∃z,z=push h' 2 [.int .i64 0,.int .i64 0]:=⟨_,rfl⟩;obtain⟨h2,w1,t2,QG,n2⟩:=EP hA t' eX FX I J;have r2:=iQ hA (QG.aL (o:=0) (n:=2) (by show 0+2<=2;omega));have r3:rd h2 nb (place 0 0 1) 1 [.int .i64 I]:=aC hA (QG.aL (o:=0+(0:Int).toNat*1) (n:=1) (by show 0+0*1+1<=2;omega));refine zc ?_;rw[<-eX,<-FX];refine zq ?_;rw[show fP true=false by rw[df hA];rfl];refine zq ?_;rw[sP hA];obtain⟨r,er,hr⟩:=eqP I J K K;refine⟨Uo,r,er,?_⟩;refine zc ?_;refine br (¬(I=K/\J=K)) (by rw[df hA];cases r<;>simp_all) (fun c=>?_) (fun c=>?_)<;>refine zc ?_
  ·refine zq ?_
   refine EN hA (t2.ext.az gq) t2 (show k<4 by omega) (show i<4 by omega) eK eI (fun h3 t3 o3=>?_);have aaK:=QG.gF (o3.get nb n2 (by have:=t'.lt;rw[FX,aW hA];omega));have r4:rd h3 nb (place 0 1 1) 1 [.int .i64 J]:=aC hA (aaK.aL (o:=0+(1:Int).toNat*1) (n:=1) (by show 0+1*1+1<=2;omega));refine zq ?_;refine EO hA (t3.ext.az gq) t3 (show k<4 by omega) (show j<4 by omega) eK eJ (fun h4 t4=>?_);obtain⟨C1,Uq⟩:∃z:Nat->Nat->Int,z=fun x y=>C (Ext.sw k i x) (Ext.sw k j y):=⟨_,rfl⟩
   have t1:Sq h0 h4 b s C1:=by rw[Uq];exact t4
   have B1:Ext.A7 s P k last C1:=by rw[Uq];exact B.swap ck i0 i1 j0 j1
   have nz1:C1 k k≠0:=by
    rw[Uq];show C (Ext.sw k i k) (Ext.sw k j k)≠0;unfold Ext.sw;rw[if_pos rfl,if_pos rfl];exact nz
   refine zq ?_;rw[aF hA om om];refine Nt hA hs ck eK eS (fun x y x0 x1 y0 y1=>B1.le hk x0 x1 y0 y1) (B.last hk).2 (fun h5 t5=>?_) (s-(k+1)) (k+1) (K+1) _ om om om om (t1.congr (fun x y _ _=>(A9 s C1 k last x y).symm));obtain⟨p,ep⟩:∃z,z=C1 k k:=⟨_,rfl⟩;have r5:=tE hA t5 (i:=k) (j:=k) om om eK eK (v:=p) (by unfold A8;rw[if_neg om,ep]);have B2:=B1.step hs ck nz1 (D:=A8 s C1 k last s (k+1)) (fun x y x0 x1 y0 y1=>by unfold A8;rw[if_pos om]);rw[<-ep]at B2;refine zq ?_;rw[aF hA om om];exact ih (k+1) (K+1) p h5 _ om om om B2 t5
  ·obtain⟨C1,Uq⟩:∃z:Nat->Nat->Int,z=C:=⟨_,rfl⟩
   have t1:Sq h0 h2 b s C1:=by rw[Uq];exact t2
   have B1:Ext.A7 s P k last C1:=by rw[Uq];exact B
   have nz1:C1 k k≠0:=by
    have:I=K/\J=K:=Classical.byContradiction c;rw[Uq];rw[show i=k by omega,show j=k by omega]at nz;exact nz
   refine zq ?_;rw[aF hA om om];refine Nt hA hs ck eK eS (fun x y x0 x1 y0 y1=>B1.le hk x0 x1 y0 y1) (B.last hk).2 (fun h5 t5=>?_) (s-(k+1)) (k+1) (K+1) _ om om om om (t1.congr (fun x y _ _=>(A9 s C1 k last x y).symm));obtain⟨p,ep⟩:∃z,z=C1 k k:=⟨_,rfl⟩;have r5:=tE hA t5 (i:=k) (j:=k) om om eK eK (v:=p) (by unfold A8;rw[if_neg om,ep]);have B2:=B1.step hs ck nz1 (D:=A8 s C1 k last s (k+1)) (fun x y x0 x1 y0 y1=>by unfold A8;rw[if_pos om]);rw[<-ep]at B2;refine zq ?_;rw[aF hA om om];exact ih (k+1) (K+1) p h5 _ om om om B2 t5
 ·obtain⟨nb,FX⟩:∃z,z=next h':=⟨_,rfl⟩
  obtain⟨X,eX⟩:∃z,z=push h' 2 [.int .i64 0,.int .i64 0]:=⟨_,rfl⟩;obtain⟨h2,w1,t2,QG,n2⟩:=EP hA t' eX FX 0 0;refine zc ?_;rw[<-eX,<-FX];refine zq ?_;rw[show fP false=true by rw[df hA];rfl];refine zq ?_;exact lM h2 _ _ _ (B.none hs ck hz) t2.ext
theorem Hc{h0 h:af}(gq:h0.low<=h0.next){b s:Nat}{M:Nat->Nat->Int}(t:Sq h0 h b s M)(hs:s<=4)(h9:∀i j,i<s->j<s->(M i j).natAbs<=9){Q:Value->af->Prop}
  (hQ:∀(v:Int) h',v=((Ext.dt s M).natAbs:Int)->v<=157464->Ext h0 h'->Q (.int .i64 v) h'):call 81 [.pointer (some ⟨b,0,none⟩)] h Q:=by
 have aq:=t.ext.az gq;obtain⟨S,eS⟩:∃z:Int,z=s:=⟨_,rfl⟩;have r1:=jw hA t eS;refine hA.aQ Try.func81 og (hA.alike _ _ _ rfl) aq (zc ?_);refine zq ?_;refine QF hA gq hs eS (fun h' env kn T z x=>?_) (fun h' last e e2 x=>?_) s 0 0 1 h M om om rfl (Ext.A7.start h9) t
 ·refine zq ?_
  exact hQ 0 h' (by rw[z];rfl) om x
 ·obtain⟨v,ev⟩:∃z:Int,z=(last.natAbs:Int):=⟨_,rfl⟩
  have m1:imax last (neg .i64 last)=v:=by rw[LJ hA,u7 hA,wrap64 om om];omega
  (refine zq ?_;repeat ((first|rw[m1]);refine zq ?_))
  exact hQ v h' (by rw[ev,e]) om x
