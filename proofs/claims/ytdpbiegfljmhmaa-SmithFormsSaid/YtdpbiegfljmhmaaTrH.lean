import Derived.Test.YtdpbiegfljmhmaaTrF
set_option linter.unusedSimpArgs false
set_option linter.unusedVariables false
namespace Go.Proofs.Ytdpbiegfljmhmaa
open Go.Sim
namespace Ext
def bC:Nat->Nat
 |0=>9|1=>162|2=>52488|_=>157464
def bU:Nat->Nat
 |0=>1|1=>18|2=>5832|_=>157464
def uU:Nat->Nat
 |0=>0|1=>162|2=>8503218|3=>1338959222370|_=>210839243950492050
def P1(n:Nat):Pl:=⟨fun a c=>if c<n then bC a else bU a,fun a c=>if c<n then bC (a+1)else bU (a+1),fun a c=>if c<n then bC (a+1)else bU (a+1),uU⟩
theorem minor_2{x y u v:Int}{A B:Nat}(hx:x.natAbs<=A)(hy:y.natAbs<=B)(hu:u.natAbs<=A)(hv:v.natAbs<=B):(x*y-u*v).natAbs<=2*(A*B):=by
 have h1:=abs_mul_le hx hy;have h2:=abs_mul_le hu hv;omega
theorem vol_4(W:Nat->Vec)(h1:W 1 0=0)(h2:W 0 0=0)(h3:W 2 0=0)(h4:W 1 1=0)(h5:W 0 1=0):prod 4 W 4 (top 4)=W 3 0*(W 2 1*(W 1 2*W 0 3-W 0 2*W 1 3))\/prod 4 W 4 (top 4)=-(W 3 0*(W 2 1*(W 1 2*W 0 3-W 0 2*W 1 3))):=by
 have:prod 4 W 4 (top 4)=W 3 0*(W 2 1*(W 1 2*W 0 3-W 0 2*W 1 3))\/prod 4 W 4 (top 4)=-(W 3 0*(W 2 1*(W 1 2*W 0 3-W 0 2*W 1 3))):=by
  simp only[prod,wedge,top,List.replicate,unit,List.all_cons,List.all_nil,Bool.and_true,Bool.not_true,Bool.not_false,Bool.true_and,Bool.false_and,Bool.and_self,h1,h2,h3,h4,h5];simp only[reduceCtorEq,if_true,if_false,Bool.false_eq_true];first
   |(left;grind)
   |(right;grind)
 exact this
theorem bC_le(a:Nat):bC a<=bC (a+1)/\bU a<=bU (a+1)/\bU a<=bC a:=by
 match a with
 |0=>decide
 |1=>decide
 |2=>decide
 |a+3=>exact⟨Nat.le_refl _,Nat.le_refl _,Nat.le_refl _⟩
theorem join_unit(g:List (List Int))(n i j:Nat)(h:¬j<n):(joinM g n i j).natAbs<=1:=by
 unfold joinM;rw[if_neg h];split<;>decide
theorem four_le{w:Nat}{G F:Nat->Vec}(h:Lat w 4 F G)(h9:∀i j,(G i j).natAbs<=9){p q k c:Nat}(x0:F 0 p≠0)(x1:F 1 q≠0)(z1:F 1 p=0)(z2:F 2 p=0)(z3:F 3 p=0)(z4:F 2 q=0)(z5:F 3 q=0):(F 2 k*F 3 c-F 3 k*F 2 c).natAbs<=157464:=by
 obtain⟨J,eJ⟩:∃J:Nat->Nat,J=fun i=>match i with|0=>p|1=>q|2=>k|_=>c:=⟨_,rfl⟩
 have j0:J 0=p:=by subst eJ;rfl
 have j1:J 1=q:=by subst eJ;rfl
 have j2:J 2=k:=by subst eJ;rfl
 have j3:J 3=c:=by subst eJ;rfl
 have hab:=h.abs 4 J (top 4);have hb:=prod_cnt (m:=4) (W:=rv 4 G J) (M:=9) 4 (fun y hy i _=>h9 _ _) (top 4);rw[cnt_top,show fall 4 4*9 ^ 4=157464 from rfl]at hb;have hv:=vol_4 (rv 4 F J) (by unfold rv;rw[j0];exact z2) (by unfold rv;rw[j0];exact z3) (by unfold rv;rw[j0];exact z1) (by unfold rv;rw[j1];exact z4) (by unfold rv;rw[j1];exact z5);have e:rv 4 F J 3 0*(rv 4 F J 2 1*(rv 4 F J 1 2*rv 4 F J 0 3-rv 4 F J 0 2*rv 4 F J 1 3))=F 0 p*(F 1 q*(F 2 k*F 3 c-F 3 k*F 2 c)):=by
  unfold rv;rw[j0,j1,j2,j3]
 rw[e]at hv;have hn:(F 0 p*(F 1 q*(F 2 k*F 3 c-F 3 k*F 2 c))).natAbs<=157464:=by
  rcases hv with q|q<;>omega
 rw[Int.natAbs_mul,Int.natAbs_mul]at hn;refine Nat.le_trans ?_ hn;refine Nat.le_trans (Nat.le_mul_of_pos_left _ (show 0<(F 1 q).natAbs by omega)) (Nat.le_mul_of_pos_left _ (by omega))
theorem P1_ok{g:List (List Int)}{m n:Nat}(hM:Mat g m n):PlOK (P1 n) (n+m) n m (joinM g n):=by
 have m4:=hM.m4;have hK:∀a c,(P1 n).K a c<=bC (a+1):=fun a c=>by
  show(if c<n then bC (a+1)else bU (a+1))<=_;split
  ·exact Nat.le_refl _
  ·exact(bC_le (a+1)).2.2
 have h9:∀i j,(joinM g n i j).natAbs<=9:=join_le (fun i j=>hM.nine i j);have small:∀a,a<4->bC (a+1)<=uU (a+1)/\uU a+uU a*bC (a+1)<=uU (a+1)/\bC (a+1)<=157464:=fun a ha=>by
  match a with
  |0=>decide
  |1=>decide
  |2=>decide
  |3=>decide
 refine⟨by omega,fun a c _ _=>?_,fun a c _ _=>Nat.le_refl _,fun a c _ _=>Nat.le_refl _,fun a c ha _=>?_,fun a c ha _=>?_,fun a ha=>?_,fun a k c ha _ _=>?_,fun a k F ha hk t i j c i1 i2 j1 j2 hc=>?_⟩
 ·show(if c<n then bC a else bU a)<=(if c<n then bC (a+1)else bU (a+1))
  split
  ·exact(bC_le a).1
  ·exact(bC_le a).2.1
 ·exact Nat.le_trans (hK a c) (small a (by omega)).1
 ·refine Nat.le_trans ?_ (small a (by omega)).2.1
  exact Nat.add_le_add_left (Nat.mul_le_mul_left _ (hK a c)) _
 ·show uU a<=_
  match a with
  |0=>decide
  |1=>decide
  |2=>decide
  |3=>decide
  |a+4=>exact(show 210839243950492050<=4000000000000000000 by decide)
 ·have h1:=Nat.le_trans (hK a k) (small a (by omega)).2.2
  have h2:=Nat.le_trans (hK a c) (small a (by omega)).2.2;have:=Nat.mul_le_mul h1 h2;omega
 ·show _<=(if c<n then bC (a+1)else bU (a+1))
  have b1:=t.lob i k i1 i2 (by omega);have b2:=t.lob j k j1 j2 (by omega);have b3:=t.lob i c i1 i2 hc;have b4:=t.lob j c j1 j2 hc;have b1:(F i k).natAbs<=bC a:=by have:(F i k).natAbs<=(if k<n then bC a else bU a):=b1;rw[if_pos hk]at this;exact this
  have b2:(F j k).natAbs<=bC a:=by have:(F j k).natAbs<=(if k<n then bC a else bU a):=b2;rw[if_pos hk]at this;exact this
  have b3:(F i c).natAbs<=(if c<n then bC a else bU a):=b3;have b4:(F j c).natAbs<=(if c<n then bC a else bU a):=b4;have two:=minor_2 b1 b4 b2 b3;have tight:a<2->2*(bC a*(if c<n then bC a else bU a))<=(if c<n then bC (a+1)else bU (a+1)):=fun q=>by
   match a with
   |0=>split<;>decide
   |1=>split<;>decide
   |a+2=>omega
  by_cases a2:a<2
  ·exact Nat.le_trans two (tight a2)
  have big:(if c<n then bC (a+1)else bU (a+1))=157464:=by
   obtain⟨x,rfl⟩:∃x,a=x+2:=⟨a-2,by omega⟩;split<;>rfl
  rw[big];by_cases e:i=j
  ·rw[e,Int.sub_self];decide
  obtain rfl:m=4:=by omega
  obtain rfl:a=2:=by omega
  have top:=t.top;have l0:=t.lead 0 (by omega);have l1:=t.lead 1 (by omega);have inc:=top.inc 0 1 (by omega) (by omega);have p0:=top.pos 0 (by omega);have p1:=top.pos 1 (by omega);have key:=four_le (k:=k) (c:=c) t.lat h9 (p:=leadV (n+4) (F 0)) (q:=leadV (n+4) (F 1)) (by omega) (by omega) (leadV_zero (w:=n+4) inc) (t.low 2 _ (by omega) (by omega) l0) (t.low 3 _ (by omega) (by omega) l0) (t.low 2 _ (by omega) (by omega) l1) (t.low 3 _ (by omega) (by omega) l1);have hij:(i=2/\j=3)\/(i=3/\j=2):=by omega
  rcases hij with ⟨rfl,rfl⟩|⟨rfl,rfl⟩
  ·exact key
  ·omega
theorem T1_start{g:List (List Int)}{m n:Nat}(hM:Mat g m n):Trg (P1 n) (n+m) m (joinM g n) 0 0 (joinM g n):=
 ⟨Nat.zero_le _,.refl _ _ _,⟨fun i hi=>by omega,fun i hi=>by omega,fun i j _ hj=>by omega,fun i j _ hj=>by omega⟩,fun y hy=>by omega,fun i c _ _ hc=>by omega,fun y c hy=>by omega,fun i c _ _ _=>by
  show _<=(if c<n then bC 0 else bU 0);split
  ·exact join_le (fun i j=>hM.nine i j) i c
  ·rename_i q;exact join_unit g n i c q⟩
end Ext
end Go.Proofs.Ytdpbiegfljmhmaa
namespace Go.Proofs.Ytdpbiegfljmhmaa
open Go.Sim
namespace Ext
def b2(s b:Nat):Nat->Nat
 |0=>b
 |a+1=>if a+1<s then 2*(b2 s b a*b2 s b a)else b2 s b a
def u2(s b:Nat):Nat->Nat
 |0=>0
 |a+1=>u2 s b a+u2 s b a*b2 s b (a+1)+b2 s b (a+1)
def P2(s b:Nat):Pl:=⟨fun a _=>b2 s b a,fun a _=>b2 s b (a+1),fun a _=>b2 s b (a+1),u2 s b⟩
def Few(s b:Nat):Prop:=(s=4/\b=1)\/(s=3/\b=18)\/(s=2/\b=5832)\/(s=1/\b=157464)\/s=0
theorem few_ok{s b:Nat}(h:Few s b):∀a,a<s->u2 s b (a+1)<=4000000000000000000/\b2 s b (a+1)*b2 s b (a+1)+b2 s b (a+1)<=4000000000000000000:=by
 intro a ha;rcases h with ⟨rfl,rfl⟩|⟨rfl,rfl⟩|⟨rfl,rfl⟩|⟨rfl,rfl⟩|rfl
 ·match a with
  |0=>decide
  |1=>decide
  |2=>decide
  |3=>decide
 ·match a with
  |0=>decide
  |1=>decide
  |2=>decide
 ·match a with
  |0=>decide
  |1=>decide
 ·match a with
  |0=>decide
 ·omega
theorem b2_le(s b a:Nat):b2 s b a<=b2 s b (a+1):=by
 show _<=(if a+1<s then 2*(b2 s b a*b2 s b a)else b2 s b a);split
 ·rcases Nat.eq_zero_or_pos (b2 s b a)with e|e
  ·rw[e];exact Nat.zero_le _
  ·have:=Nat.le_mul_of_pos_left (b2 s b a) e;omega
 ·exact Nat.le_refl _
theorem P2_ok{s b m:Nat}(h:Few s b)(T:Nat->Vec):PlOK (P2 s b) m m s T:=by
 have fw:=few_ok h;refine⟨Nat.le_refl _,fun a c _ _=>b2_le s b a,fun a c _ _=>Nat.le_refl _,fun a c _ _=>Nat.le_refl _,fun a c ha _=>?_,fun a c ha _=>?_,fun a ha=>?_,fun a k c ha _ _=>(fw a ha).2,fun a k F ha hk t i j c i1 i2 j1 j2 hc=>?_⟩
 ·show b2 s b (a+1)<=u2 s b a+u2 s b a*b2 s b (a+1)+b2 s b (a+1);omega
 ·show u2 s b a+u2 s b a*b2 s b (a+1)<=u2 s b a+u2 s b a*b2 s b (a+1)+b2 s b (a+1);omega
 ·show u2 s b a<=_
  cases a with
  |zero=>exact Nat.zero_le _
  |succ a=>exact(fw a (by omega)).1
 ·show _<=(if a+1<s then 2*(b2 s b a*b2 s b a)else b2 s b a)
  by_cases e:i=j
  ·rw[e,Int.sub_self];exact Nat.zero_le _
  ·rw[if_pos (by omega)]
   exact minor_2 (t.lob i k i1 i2 hk) (t.lob j c j1 j2 hc) (t.lob j k j1 j2 hk) (t.lob i c i1 i2 hc)
theorem T2_start{s b m:Nat}{T:Nat->Vec}(hb:∀i c,i<s->c<m->(T i c).natAbs<=b):Trg (P2 s b) m s T 0 0 T:=
 ⟨Nat.zero_le _,.refl _ _ _,⟨fun i hi=>by omega,fun i hi=>by omega,fun i j _ hj=>by omega,fun i j _ hj=>by omega⟩,fun y hy=>by omega,fun i c _ _ hc=>by omega,fun y c hy=>by omega,fun i c _ hi hc=>hb i c hi hc⟩
theorem tails_nz{g:List (List Int)}{m n r s:Nat}{F:Nat->Vec}(m1:1<=m)(l:Lat (n+m) m F (joinM g n))(hs:r+s=m):∃d J I,(∀x,x<d->J x<m)/\prod d (rv s (fun y j=>F (r+y) (n+j)) J) s I≠0:=by
 obtain⟨J0,eJ⟩:∃J0:Nat->Nat,J0=fun x=>n+(m-1-x):=⟨_,rfl⟩
 have h1:prod m (rv m (joinM g n) J0) m (top m)≠0:=by
  rw[prod_congr m (V:=E) (fun y hy x hx=>?_)]
  ·have:=vol_unit m
   unfold vol at this;rw[this];decide
  ·rw[eJ]
   show joinM g n (m-1-y) (n+(m-1-x))=E y x;unfold joinM E;rw[if_neg (by omega)];by_cases c:x=y
   ·rw[if_pos (by omega),if_pos c]
   ·rw[if_neg (by omega),if_neg c]
 have h2:=l.abs m J0 (top m);have h3:prod m (rv m F J0) m (top m)≠0:=by omega
 have h4:∃I,prod m (rv m F J0) s I≠0:=by
  refine Classical.byContradiction fun q=>h3 ?_
  have z:prod m (rv m F J0) s=fun _=>0:=by
   funext I
   exact Classical.byContradiction fun w=>q ⟨I,w⟩
  have:=prod_none z r;rw[show s+r=m by omega]at this;rw[this]
 obtain⟨I,hI⟩:=h4;refine⟨m,fun x=>m-1-x,I,fun x hx=>by show m-1-x<m;omega,?_⟩;rw[prod_congr s (V:=rv m F J0) (fun y hy x hx=>?_)]
 ·exact hI
 ·rw[eJ]
  show F (r+(s-1-y)) (n+(m-1-x))=F (m-1-y) (n+(m-1-x));rw[show r+(s-1-y)=m-1-y by omega]
theorem T2_end{s b m a k:Nat}{T G:Nat->Vec}(t:Trg (P2 s b) m s T a k G)(hk:k=m\/a=s)(nz:∃d J I,(∀x,x<d->J x<m)/\prod d (rv s T J) s I≠0):Hnf m s G/\Lat m s G T:=by
 refine⟨?_,t.lat⟩;have am:=t.am;by_cases e:a=s
 ·rw[<-e];exact t.top
 ·exfalso
  obtain⟨d,J,I,h1,h2⟩:=nz;have h3:=t.lat.ne h1 h2 (r:=a) (by omega);exact leadV_ne h3 (t.low a _ (Nat.le_refl _) (by omega) (by omega))
theorem T1_few{g:List (List Int)}{m n a k:Nat}{F:Nat->Vec}(m4:m<=4)(t:Trg (P1 n) (n+m) m (joinM g n) a k F):∃b,Few (m-a) b/\∀i c,i<m-a->c<m->(F (a+i) (n+c)).natAbs<=b:=by
 have hb:∀i c,i<m-a->c<m->(F (a+i) (n+c)).natAbs<=bU a:=fun i c hi hc=>by
  have h:(F (a+i) (n+c)).natAbs<=(if n+c<n then bC a else bU a):=t.lob (a+i) (n+c) (by omega) (by omega) (by omega);rw[if_neg (by omega)]at h;exact h
 have am:=t.am;obtain⟨z,ez⟩:∃z,z=m-a:=⟨_,rfl⟩;rw[<-ez]at hb ⊢;have mono:∀x y,x<=y->bU x<=bU y:=fun x y h=>by
  obtain⟨d,rfl⟩:∃d,y=x+d:=⟨y-x,by omega⟩;clear h
  induction d with
  |zero=>exact Nat.le_refl _
  |succ d ih=>exact Nat.le_trans ih (bC_le (x+d)).2.1
 have up:∀y,a<=y->∀i c,i<z->c<m->(F (a+i) (n+c)).natAbs<=bU y:=fun y hy i c hi hc=>Nat.le_trans (hb i c hi hc) (mono a y hy)
 have hz:z=0\/z=1\/z=2\/z=3\/z=4:=by omega
 rcases hz with e|e|e|e|e
 ·exact⟨0,.inr (.inr (.inr (.inr e))),fun i c hi=>by omega⟩
 ·exact⟨bU 3,.inr (.inr (.inr (.inl ⟨e,rfl⟩))),up 3 (by omega)⟩
 ·exact⟨bU 2,.inr (.inr (.inl ⟨e,rfl⟩)),up 2 (by omega)⟩
 ·exact⟨bU 1,.inr (.inl ⟨e,rfl⟩),up 1 (by omega)⟩
 ·exact⟨bU 0,.inl ⟨e,rfl⟩,up 0 (by omega)⟩
end Ext
