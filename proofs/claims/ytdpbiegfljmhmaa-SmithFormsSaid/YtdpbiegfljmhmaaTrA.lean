import Derived.Test.YtdpbiegfljmhmaaSmB
import Derived.Test.YtdpbiegfljmhmaaSmV
set_option linter.unusedSimpArgs false
set_option linter.unusedVariables false
namespace Go.Proofs.Ytdpbiegfljmhmaa.Ext
structure Pl where
 β:Nat->Nat->Nat
 K:Nat->Nat->Nat
 μ:Nat->Nat->Nat
 U:Nat->Nat
structure Trg(P:Pl)(w m:Nat)(F0:Nat->Vec)(a k:Nat)(F:Nat->Vec):Prop where
 am:a<=m
 lat:Lat w m F F0
 top:Hnf w a F
 lead:∀y,y<a->leadV w (F y)<k
 low:∀i c,a<=i->i<m->c<k->F i c=0
 upb:∀y c,y<a->c<w->(F y c).natAbs<=P.U a
 lob:∀i c,a<=i->i<m->c<w->(F i c).natAbs<=P.β a c
structure PlOK(P:Pl)(w n m:Nat)(F0:Nat->Vec):Prop where
 nw:n<=w
 bk:∀a c,a<m->c<w->P.β a c<=P.K a c
 mK:∀a c,a<m->c<w->P.μ a c<=P.K a c
 next:∀a c,a+1<m->c<w->P.μ a c<=P.β (a+1) c
 up0:∀a c,a<m->c<w->P.K a c<=P.U (a+1)
 up1:∀a c,a<m->c<w->P.U a+P.U a*P.K a c<=P.U (a+1)
 big:∀a,a<=m->P.U a<=4000000000000000000
 sq:∀a k c,a<m->k<n->c<w->P.K a k*P.K a c+P.K a c<=4000000000000000000
 mu:∀a k F,a<m->k<n->Trg P w m F0 a k F->∀i j c,a<=i->i<m->a<=j->j<m->c<w->(F i k*F j c-F j k*F i c).natAbs<=P.μ a c
structure Rou(P:Pl)(w m:Nat)(F0:Nat->Vec)(a k:Nat)(F:Nat->Vec):Prop where
 am:a<m
 lat:Lat w m F F0
 top:Hnf w a F
 lead:∀y,y<a->leadV w (F y)<k
 low:∀i c,a<=i->i<m->c<k->F i c=0
 upb:∀y c,y<a->c<w->(F y c).natAbs<=P.U a
 kb:∀i c,a<=i->i<m->c<w->(F i c).natAbs<=P.K a c
 mu:∀i j c,a<=i->i<m->a<=j->j<m->c<w->(F i k*F j c-F j k*F i c).natAbs<=P.μ a c
section
variable{P:Pl}{w n m a k:Nat}{F0 F:Nat->Vec}
theorem Trg.rnd(o:PlOK P w n m F0)(t:Trg P w m F0 a k F)(ha:a<m)(hk:k<n):Rou P w m F0 a k F:=
 ⟨ha,t.lat,t.top,t.lead,t.low,t.upb,fun i c h1 h2 h3=>Nat.le_trans (t.lob i c h1 h2 h3) (o.bk a c ha h3),o.mu a k F ha hk t⟩
theorem Trg.skip(t:Trg P w m F0 a k F)(hz:∀i,a<=i->i<m->F i k=0):Trg P w m F0 a (k+1) F:=
 ⟨t.am,t.lat,t.top,fun y hy=>by have:=t.lead y hy;omega,fun i c h1 h2 h3=>by
  by_cases e:c=k
  ·rw[e];exact hz i h1 h2
  ·exact t.low i c h1 h2 (by omega),t.upb,t.lob⟩
theorem Hnf.same{F G:Nat->Vec}(h:Hnf w a F)(e:∀y,y<a->G y=F y):Hnf w a G:=
 ⟨fun i hi=>by rw[e i hi];exact h.lt i hi,fun i hi=>by rw[e i hi];exact h.pos i hi,fun i j hi hj=>by rw[e i (by omega),e j hj];exact h.inc i j hi hj,fun i j hi hj=>by rw[e i (by omega),e j hj];exact h.red i j hi hj⟩
theorem Rou.swap(r:Rou P w m F0 a k F){b:Nat}(hb:a<=b)(hb2:b<m):Rou P w m F0 a k (fun y=>F (swN a b y)):=by
 have ha:=r.am;have hs:∀y,a<=y->y<m->a<=swN a b y/\swN a b y<m:=fun y h1 h2=>by unfold swN;split<;>(try split)<;>omega
 have hu:∀y,y<a->swN a b y=y:=fun y h=>by unfold swN;rw[if_neg (by omega),if_neg (by omega)]
 have hl:Lat w m (fun y=>F (swN a b y)) (swR F a b):=Lat.of_eq (fun y hy=>by
  show F (swN a b y)=(if y=b then F a else if y=a then F b else F y);unfold swN;by_cases e:y=a
  ·rw[if_pos e]
   by_cases e2:y=b
   ·rw[if_pos e2,<-e,<-e2]
   ·rw[if_neg e2,if_pos e]
  ·rw[if_neg e]
   by_cases e2:y=b
   ·rw[if_pos e2,if_pos e2]
   ·rw[if_neg e2,if_neg e2,if_neg e])
 refine⟨ha,(hl.trans (Lat.swap ha hb2)).trans r.lat,r.top.same (fun y hy=>by show F (swN a b y)=F y;rw[hu y hy]),fun y hy=>?_,fun i c h1 h2 h3=>r.low _ c (hs i h1 h2).1 (hs i h1 h2).2 h3,fun y c hy hc=>?_,fun i c h1 h2 h3=>r.kb _ c (hs i h1 h2).1 (hs i h1 h2).2 h3,fun i j c h1 h2 h3 h4 h5=>r.mu _ _ c (hs i h1 h2).1 (hs i h1 h2).2 (hs j h3 h4).1 (hs j h3 h4).2 h5⟩
 ·show leadV w (F (swN a b y))<k
  rw[hu y hy];exact r.lead y hy
 ·show(F (swN a b y) c).natAbs<=_
  rw[hu y hy];exact r.upb y c hy hc
def redF(F:Nat->Vec)(a k i:Nat):Nat->Vec:=fun y=>if a<y/\y<i then fun c=>F y c-(F y k).tdiv (F a k)*F a c else F y
theorem redF_start(F:Nat->Vec)(a k:Nat):redF F a k (a+1)=F:=by
 funext y;unfold redF;rw[if_neg (by omega)]
theorem redF_next{i:Nat}(h:a<i):redF F a k (i+1)=put (redF F a k i) i (fun c=>redF F a k i i c-(redF F a k i i k).tdiv (redF F a k i a k)*redF F a k i a c):=by
 have e1:redF F a k i i=F i:=by unfold redF;rw[if_neg (by omega)]
 have e2:redF F a k i a=F a:=by unfold redF;rw[if_neg (by omega)]
 rw[e1,e2]
 funext y
 show(if a<y/\y<i+1 then _ else _)=(if y=i then _ else redF F a k i y);by_cases e:y=i
 ·rw[if_pos e,if_pos (by omega),e]
 ·rw[if_neg e]
  unfold redF;by_cases e2:a<y/\y<i
  ·rw[if_pos e2,if_pos (by omega)]
  ·rw[if_neg e2,if_neg (by omega)]
theorem red_le{x v M r A:Int}{K:Nat}(h:x*v=M+r*A)(hr:r.natAbs<x.natAbs)(hM:M.natAbs<=K)(hA:A.natAbs<=K):v.natAbs<=K:=by
 have h1:x.natAbs*v.natAbs<=K+r.natAbs*K:=by
  rw[<-Int.natAbs_mul,h];have h2:(r*A).natAbs<=r.natAbs*K:=by rw[Int.natAbs_mul];exact Nat.mul_le_mul (Nat.le_refl _) hA
  omega
 have h3:K+r.natAbs*K<=x.natAbs*K:=by
  have:=Nat.mul_le_mul_right K (show r.natAbs+1<=x.natAbs by omega);rw[Nat.add_mul]at this;omega
 exact Nat.le_of_mul_le_mul_left (Nat.le_trans h1 h3) (by omega)
theorem tmod_is(a x:Int)(hx:x≠0):∃r,r=a-a.tdiv x*x/\r.natAbs<x.natAbs/\((0<=r/\r<=a)\/(a<=r/\r<=0)):=by
 refine⟨a.tmod x,?_,?_,?_⟩
 ·have:=Int.mul_tdiv_add_tmod a x
  rw[Int.mul_comm]at this;omega
 ·have:=Int.natAbs_tmod a x
  rw[this];exact Nat.mod_lt _ (by omega)
 ·have h1:=Int.natAbs_tmod a x
  have h2:=Nat.mod_le a.natAbs x.natAbs;rcases Int.le_total 0 a with c|c
  ·have:=Int.tmod_nonneg x c;left;omega
  ·have h3:=Int.neg_tmod a x
   have:=Int.tmod_nonneg x (show 0<=-a by omega);right;omega
theorem minor_le{x ai aj ri rj S T M M':Int}{N:Nat}(hx:x≠0)(e1:x*M=ai*S-aj*T)(e2:x*M'=ri*S-rj*T)(hi:ri.natAbs<x.natAbs)(hj:rj.natAbs<x.natAbs)(bi:(0<=ri/\ri<=ai)\/(ai<=ri/\ri<=0))(bj:(0<=rj/\rj<=aj)\/(aj<=rj/\rj<=0))(hM:M.natAbs<=N)(hS:S.natAbs<=N)(hT:T.natAbs<=N):M'.natAbs<=N:=by
 have key:∀{r a S:Int},r.natAbs<x.natAbs->((0<=r/\r<=a)\/(a<=r/\r<=0))->S.natAbs<=N->((0<=r*S/\r*S<=a*S)\/(a*S<=r*S/\r*S<=0))/\(r*S).natAbs<=x.natAbs*N:=fun {r a S} hr b hS=>by
  refine⟨?_,by rw[Int.natAbs_mul];exact Nat.mul_le_mul (Nat.le_of_lt hr) hS⟩;rcases Int.le_total 0 S with c|c
  ·rcases b with ⟨b1,b2⟩|⟨b1,b2⟩
   ·exact .inl ⟨Int.mul_nonneg b1 c,Int.mul_le_mul_of_nonneg_right b2 c⟩
   ·refine .inr ⟨Int.mul_le_mul_of_nonneg_right b1 c,?_⟩
    have:=Int.mul_le_mul_of_nonneg_right b2 c;rw[Int.zero_mul]at this;exact this
  ·rcases b with ⟨b1,b2⟩|⟨b1,b2⟩
   ·refine .inr ⟨Int.mul_le_mul_of_nonpos_right b2 c,?_⟩
    have:=Int.mul_le_mul_of_nonpos_right b1 c;rw[Int.zero_mul]at this;exact this
   ·refine .inl ⟨?_,Int.mul_le_mul_of_nonpos_right b1 c⟩
    have:=Int.mul_le_mul_of_nonpos_right b2 c;rw[Int.zero_mul]at this;exact this
 obtain⟨k1,k2⟩:=key hi bi hS;obtain⟨k3,k4⟩:=key hj bj hT;have h1:(ai*S-aj*T).natAbs<=x.natAbs*N:=by rw[<-e1,Int.natAbs_mul];exact Nat.mul_le_mul (Nat.le_refl _) hM
 have h2:(ri*S-rj*T).natAbs<=x.natAbs*N:=by omega
 rw[<-e2,Int.natAbs_mul]at h2;exact Nat.le_of_mul_le_mul_left h2 (by omega)
theorem Rou.red(o:PlOK P w n m F0)(r:Rou P w m F0 a k F)(hx:F a k≠0){y c:Nat}(hy:a<y)(hm:y<m)(hc:c<w):(F y c-(F y k).tdiv (F a k)*F a c).natAbs<=P.K a c:=by
 obtain⟨s,es,hs,_⟩:=tmod_is (F y k) (F a k) hx;refine red_le (x:=F a k) (M:=F a k*F y c-F y k*F a c) (r:=s) (A:=F a c) ?_ hs ?_ (r.kb a c (Nat.le_refl _) r.am hc)
 ·rw[es];grind
 ·exact Nat.le_trans (r.mu a y c (Nat.le_refl _) r.am (by omega) hm hc) (o.mK a c r.am hc)
theorem red_lat(h:∀i,i<m->a<m):∀i,i<=m->Lat w m (redF F a k i) F:=by
 intro i
 induction i with
 |zero=>intro _;exact Lat.of_eq (fun y _=>by unfold redF;rw[if_neg (by omega)])
 |succ i ih=>
  intro hi;by_cases c:a<i
  ·rw[redF_next c]
   exact(Lat.sub (show i<m by omega) (h i (by omega)) (by omega) _).trans (ih (by omega))
  ·exact Lat.of_eq (fun y _=>by unfold redF;rw[if_neg (by omega)])
theorem Rou.round(o:PlOK P w n m F0)(r:Rou P w m F0 a k F)(kn:k<n)(hx:F a k≠0):Rou P w m F0 a k (redF F a k m):=by
 have ha:=r.am;have hs:∀y,a<y->y<m->redF F a k m y=fun c=>F y c-(F y k).tdiv (F a k)*F a c:=fun y h1 h2=>by unfold redF;rw[if_pos ⟨h1,h2⟩]
 have hu:∀y,y<=a->redF F a k m y=F y:=fun y h=>by unfold redF;rw[if_neg (by omega)]
 have nw:=o.nw;refine⟨ha,(red_lat (fun _ _=>ha) m (Nat.le_refl _)).trans r.lat,r.top.same (fun y hy=>hu y (by omega)),fun y hy=>by rw[hu y (by omega)];exact r.lead y hy,fun i c h1 h2 h3=>?_,fun y c hy hc=>by rw[hu y (by omega)];exact r.upb y c hy hc,fun i c h1 h2 h3=>?_,fun i j c h1 h2 h3 h4 h5=>?_⟩
 ·by_cases e:i=a
  ·rw[hu i (by omega)];exact r.low i c h1 h2 h3
  ·rw[hs i (by omega) h2]
   show F i c-(F i k).tdiv (F a k)*F a c=0;rw[r.low i c h1 h2 h3,r.low a c (Nat.le_refl _) ha h3];omega
 ·by_cases e:i=a
  ·rw[hu i (by omega)];exact r.kb i c h1 h2 h3
  ·rw[hs i (by omega) h2];exact r.red o hx (by omega) h2 h3
 ·have one:∀j,a<j->j<m->redF F a k m a k*redF F a k m j c-redF F a k m j k*redF F a k m a c=F a k*F j c-F j k*F a c:=fun j q1 q2=>by
   rw[hu a (Nat.le_refl _),hs j q1 q2];show F a k*(F j c-(F j k).tdiv (F a k)*F a c)-(F j k-(F j k).tdiv (F a k)*F a k)*F a c=_;grind
  by_cases e1:i=a
  ·by_cases e2:j=a
   ·rw[e1,e2,Int.sub_self];exact Nat.zero_le _
   ·rw[e1,one j (by omega) h4];exact r.mu a j c (Nat.le_refl _) ha h3 h4 h5
  ·by_cases e2:j=a
   ·have:=one i (by omega) h2
    rw[e2,show redF F a k m i k*redF F a k m a c-redF F a k m a k*redF F a k m i c=-(redF F a k m a k*redF F a k m i c-redF F a k m i k*redF F a k m a c) by omega,this,Int.natAbs_neg];exact r.mu a i c (Nat.le_refl _) ha h1 h2 h5
   ·obtain⟨s,es,hs1,hs2⟩:=tmod_is (F i k) (F a k) hx
    obtain⟨t,et,ht1,ht2⟩:=tmod_is (F j k) (F a k) hx;rw[hs i (by omega) h2,hs j (by omega) h4];show((F i k-(F i k).tdiv (F a k)*F a k)*(F j c-(F j k).tdiv (F a k)*F a c)-(F j k-(F j k).tdiv (F a k)*F a k)*(F i c-(F i k).tdiv (F a k)*F a c)).natAbs<=_;refine minor_le (x:=F a k) (ai:=F i k) (aj:=F j k) (ri:=s) (rj:=t) (S:=F a k*F j c-F j k*F a c) (T:=F a k*F i c-F i k*F a c) (M:=F i k*F j c-F j k*F i c) hx ?_ ?_ hs1 ht1 hs2 ht2 (r.mu i j c h1 h2 h3 h4 h5) (r.mu a j c (Nat.le_refl _) ha h3 h4 h5) (r.mu a i c (Nat.le_refl _) ha h1 h2 h5)
    ·grind
    ·rw[es,et];grind
structure Dn(P:Pl)(w m:Nat)(F0:Nat->Vec)(a k:Nat)(F:Nat->Vec):Prop where
 am:a<m
 lat:Lat w m F F0
 top:Hnf w a F
 lead:∀y,y<a->leadV w (F y)<k
 low:∀i c,a<=i->i<m->c<k->F i c=0
 zero:∀i,a<i->i<m->F i k=0
 ne:F a k≠0
 upb:∀y c,y<a->c<w->(F y c).natAbs<=P.U a
 kb:∀c,c<w->(F a c).natAbs<=P.K a c
 lob:∀i c,a<i->i<m->c<w->(F i c).natAbs<=P.β (a+1) c
theorem Rou.done(o:PlOK P w n m F0)(r:Rou P w m F0 a k F)(hx:F a k≠0)(hz:∀i,a<i->i<m->F i k=0):Dn P w m F0 a k F:=by
 refine⟨r.am,r.lat,r.top,r.lead,r.low,hz,hx,r.upb,fun c hc=>r.kb a c (Nat.le_refl _) r.am hc,fun i c h1 h2 h3=>?_⟩;have h4:=r.mu a i c (Nat.le_refl _) r.am (by omega) h2 h3;rw[hz i h1 h2,Int.zero_mul,Int.sub_zero,Int.natAbs_mul]at h4;refine Nat.le_trans ?_ (o.next a c (by omega) h3);refine Nat.le_trans ?_ h4;exact Nat.le_mul_of_pos_left _ (by omega)
theorem Dn.neg(d:Dn P w m F0 a k F):Dn P w m F0 a k (put F a (fun c=>-(F a c))):=by
 have ha:=d.am;have hu:∀y,y≠a->put F a (fun c=>-(F a c)) y=F y:=fun y h=>by unfold put;rw[if_neg h]
 have hs:put F a (fun c=>-(F a c)) a=fun c=>-(F a c):=by unfold put;rw[if_pos rfl]
 refine⟨ha,(Lat.neg ha).trans d.lat,d.top.same (fun y hy=>hu y (by omega)),fun y hy=>by rw[hu y (by omega)];exact d.lead y hy,fun i c h1 h2 h3=>?_,fun i h1 h2=>by rw[hu i (by omega)];exact d.zero i h1 h2,?_,fun y c hy hc=>by rw[hu y (by omega)];exact d.upb y c hy hc,fun c hc=>?_,fun i c h1 h2 h3=>by rw[hu i (by omega)];exact d.lob i c h1 h2 h3⟩
 ·by_cases e:i=a
  ·rw[e,hs];show -(F a c)=0;rw[d.low a c (Nat.le_refl _) ha h3];rfl
  ·rw[hu i e];exact d.low i c h1 h2 h3
 ·rw[hs];have:=d.ne;show -(F a k)≠0;omega
 ·rw[hs];show(-(F a c)).natAbs<=_;rw[Int.natAbs_neg];exact d.kb c hc
def upF(F:Nat->Vec)(a k i:Nat):Nat->Vec:=fun y=>if y<i then fun c=>F y c-F y k / F a k*F a c else F y
theorem upF_start(F:Nat->Vec)(a k:Nat):upF F a k 0=F:=by funext y;unfold upF;rw[if_neg (by omega)]
theorem upF_next{i:Nat}(h:i<a):upF F a k (i+1)=put (upF F a k i) i (fun c=>upF F a k i i c-upF F a k i i k / upF F a k i a k*upF F a k i a c):=by
 have e1:upF F a k i i=F i:=by unfold upF;rw[if_neg (by omega)]
 have e2:upF F a k i a=F a:=by unfold upF;rw[if_neg (by omega)]
 rw[e1,e2]
 funext y
 show(if y<i+1 then _ else _)=(if y=i then _ else upF F a k i y);by_cases e:y=i
 ·rw[if_pos e,if_pos (by omega),e]
 ·rw[if_neg e]
  unfold upF;by_cases e2:y<i
  ·rw[if_pos e2,if_pos (by omega)]
  ·rw[if_neg e2,if_neg (by omega)]
theorem ediv_le{a b:Int}(hb:0<b):(a / b).natAbs<=a.natAbs:=by
 have h1:=Int.emod_nonneg a (show b≠0 by omega);have h2:=Int.emod_lt_of_pos a hb;have h3:=Int.emod_add_mul_ediv a b;obtain⟨q,eq⟩:∃q,q=a / b:=⟨_,rfl⟩;rw[<-eq]at h3 ⊢;rcases Int.le_total 0 q with c|c
 ·have:=Int.mul_le_mul_of_nonneg_right (show(1:Int)<=b by omega) c
  rw[Int.one_mul]at this;omega
 ·have:=Int.mul_le_mul_of_nonpos_right (show(1:Int)<=b by omega) c
  rw[Int.one_mul]at this;by_cases e:q=0
  ·omega
  ·have:=Int.mul_le_mul_of_nonneg_left (show q<=-1 by omega) (Int.le_of_lt hb)
   have h5:b*q<=-b:=by omega
   have h6:=Int.mul_le_mul_of_nonneg_left (show(1:Int)<=b by omega) (show 0<=-q-1 by omega);have h7:(-q-1)*b=-(b*q)-b:=by grind
   omega
theorem Dn.up(o:PlOK P w n m F0)(d:Dn P w m F0 a k F)(kw:k<w)(hp:0<F a k){y c:Nat}(hy:y<a)(hc:c<w):(F y k / F a k*F a c).natAbs<=P.U (a+1)/\(F y c-F y k / F a k*F a c).natAbs<=P.U (a+1):=by
 have h1:(F y k / F a k*F a c).natAbs<=P.U a*P.K a c:=by
  rw[Int.natAbs_mul];exact Nat.mul_le_mul (Nat.le_trans (ediv_le hp) (d.upb y k hy kw)) (d.kb c hc)
 have h2:=o.up1 a c d.am hc;have h3:=d.upb y c hy hc;omega
theorem up_lat(ha:a<m):∀i,i<=a->Lat w m (upF F a k i) F:=by
 intro i
 induction i with
 |zero=>intro _;exact Lat.of_eq (fun y _=>by unfold upF;rw[if_neg (by omega)])
 |succ i ih=>
  intro hi;rw[upF_next (by omega)];exact(Lat.sub (show i<m by omega) ha (by omega) _).trans (ih (by omega))
theorem Dn.tri(o:PlOK P w n m F0)(d:Dn P w m F0 a k F)(kw:k<w)(hp:0<F a k):Trg P w m F0 (a+1) (k+1) (upF F a k a):=by
 have ha:=d.am;have hs:∀y,y<a->upF F a k a y=fun c=>F y c-F y k / F a k*F a c:=fun y h=>by unfold upF;rw[if_pos h]
 have hu:∀y,a<=y->upF F a k a y=F y:=fun y h=>by unfold upF;rw[if_neg (by omega)]
 have old:∀y c,y<a->c<k->upF F a k a y c=F y c:=fun y c hy hc=>by
  rw[hs y hy];show F y c-F y k / F a k*F a c=F y c;rw[d.low a c (Nat.le_refl _) ha hc];omega
 have l1:∀y,y<a->leadV w (upF F a k a y)=leadV w (F y):=fun y hy=>by
  have hl:=d.lead y hy;refine leadV_eq (leadV_le _ _) (fun j hj=>by rw[old y j hy (by omega)];exact leadV_zero hj) (fun q=>by rw[old y _ hy hl];exact leadV_ne q)
 have l2:leadV w (upF F a k a a)=k:=by
  rw[hu a (Nat.le_refl _)];exact leadV_eq (by omega) (fun j hj=>d.low a j (Nat.le_refl _) ha hj) (fun _=>d.ne)
 refine⟨ha,(up_lat ha a (Nat.le_refl _)).trans d.lat,⟨fun i hi=>?_,fun i hi=>?_,fun i j hi hj=>?_,fun i j hi hj=>?_⟩,fun y hy=>?_,fun i c h1 h2 h3=>?_,fun y c hy hc=>?_,fun i c h1 h2 h3=>by rw[hu i (by omega)];exact d.lob i c (by omega) h2 h3⟩
 ·by_cases e:i=a
  ·rw[e,l2];exact kw
  ·rw[l1 i (by omega)];exact d.top.lt i (by omega)
 ·by_cases e:i=a
  ·rw[e,l2,hu a (Nat.le_refl _)];exact hp
  ·rw[l1 i (by omega),old i _ (by omega) (d.lead i (by omega))];exact d.top.pos i (by omega)
 ·rw[l1 i (by omega)]
  by_cases e:j=a
  ·rw[e,l2];exact d.lead i (by omega)
  ·rw[l1 j (by omega)];exact d.top.inc i j hi (by omega)
 ·by_cases e:j=a
  ·rw[e,l2,hu a (Nat.le_refl _),hs i (by omega)]
   show 0<=F i k-F i k / F a k*F a k/\F i k-F i k / F a k*F a k<F a k;have h1:=Int.emod_nonneg (F i k) (show F a k≠0 by omega);have h2:=Int.emod_lt_of_pos (F i k) hp;have h3:=Int.emod_add_mul_ediv (F i k) (F a k);rw[Int.mul_comm]at h3;omega
  ·rw[l1 j (by omega),old i _ (by omega) (d.lead j (by omega)),old j _ (by omega) (d.lead j (by omega))]
   exact d.top.red i j hi (by omega)
 ·by_cases e:y=a
  ·rw[e,l2];omega
  ·rw[l1 y (by omega)];have:=d.lead y (by omega);omega
 ·rw[hu i (by omega)]
  by_cases e:c=k
  ·rw[e];exact d.zero i (by omega) h2
  ·exact d.low i c (by omega) h2 (by omega)
 ·by_cases e:y=a
  ·rw[e,hu a (Nat.le_refl _)];exact Nat.le_trans (d.kb c hc) (o.up0 a c ha hc)
  ·rw[hs y (by omega)];exact(d.up o kw hp (by omega) hc).2
end
end Go.Proofs.Ytdpbiegfljmhmaa.Ext
