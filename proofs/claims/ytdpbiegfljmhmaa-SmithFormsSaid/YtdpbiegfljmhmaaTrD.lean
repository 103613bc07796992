import Derived.Test.YtdpbiegfljmhmaaTrC
set_option linter.unusedSimpArgs false
set_option linter.unusedVariables false
namespace Go.Proofs.Ytdpbiegfljmhmaa
open Go.Sim
set_option maxRecDepth 100000
theorem Ext.PlOK.k18{P:Ext.Pl}{w n m:Nat}{F0:Nat->Ext.Vec}(o:Ext.PlOK P w n m F0){a c:Nat}(ha:a<m)(hc:c<w):P.K a c<=4000000000000000000:=Nat.le_trans (o.up0 a c ha hc) (o.big (a+1) (by omega))
theorem rowT_all{F G:Nat->Ext.Vec}{r w:Nat}{g:Ext.Vec}(e:G=Ext.put F r g):∀y x,y<y+1->x<w->rowT F r w g y x=G y x:=fun y x _ hx=>by
 rw[e];unfold rowT Ext.put;by_cases c:y=r
 ·rw[if_pos ⟨c,hx⟩,if_pos c]
 ·rw[if_neg (fun q=>c q.1),if_neg c]
variable{F:Prims}{a0 head arith b0 c0 d0 f0 g0 i0 j0 k0 ofNat l0 place m0 nz n0 rd wr o0 next p0 r0 s0 t0 u0 v0 w0 x0 y0 z0 a1 b1 c1 d1 e1 bump f1 g1 lt ne i1 j1 l1 yn n1 o1 p1 u1 v1 w1:_}(hA:AP F ⟨a0,head,arith,b0,c0,d0,f0,g0,i0,j0,k0,ofNat,l0,place,m0,nz,n0,rd,wr,o0,next,p0,r0,s0,t0,u0,v0,w0,x0,y0,z0,a1,b1,c1,d1,e1,bump,f1,g1,lt,ne,i1,j1,l1,yn,n1,o1,p1,u1,v1,w1⟩)
include hA
theorem tr_rows{P:Ext.Pl}{n:Nat}{F0:Nat->Ext.Vec}{h0:AHeap}(hl0:h0.low<=h0.next){m w cp a k:Nat}{ra:Option Addr}{bs:Nat->Nat}{F:Nat->Ext.Vec}(o:Ext.PlOK P w n m F0)(r:Ext.Rou P w m F0 a k F)(hx:F a k≠0)(kn:k<n)(hw:w<=1000)(hm:m<=1000){N K A:Int}(eA:A=a)(eK:K=k){M:Int}(eM:M=m){Q:Exit->SS->Prop}
  (hQ:∀(h':AHeap) (more:Bool),Grd h0 h' m w ra cp bs (Ext.redF F a k m)->(more=true↔∃y,a<y/\y<m/\Ext.redF F a k m y k≠0)->Q (.exit 6) ⟨[(0,.slice ra m cp),(1,.int .i64 N),(5,.int .i64 A),(6,.int .i64 K),(7,.bool more)],16,[],h'⟩) :
  ∀(d i:Nat) (I:Int) (more:Bool) (h:AHeap),m-i<=d->i<=m->a<i->I=i->Grd h0 h m w ra cp bs (Ext.redF F a k i)->(more=true↔∃y,a<y/\y<i/\Ext.redF F a k m y k≠0)->
   head 59 17 16 ⟨[(0,.slice ra m cp),(1,.int .i64 N),(5,.int .i64 A),(6,.int .i64 K),(7,.bool more),(10,.int .i64 I)],16,[],h⟩ Q:=by
 intro d;have nw:=o.nw;have am:=r.am;obtain⟨cw,ecw⟩:∃z,z=someCap 1 w:=⟨_,rfl⟩;have e0:ofNat m=M:=by rw[eM];exact e_ofNat hA m
 induction d with
 |zero=>
  intro i I more h hd hi ai eI t hmore;refine hA.roundR Try.func59 r59_ok (zc ?_)
  (refine zq ?_;repeat ((first|rw[e0]);refine zq ?_))
  refine br (I<M) (by rw[e_lss hA]) (fun q=>by omega) (fun _=>?_)<;>refine zc ?_;obtain rfl:i=m:=by omega
  exact hQ h more t hmore
 |succ d ih=>
 intro i I more h hd hi ai eI t hmore;by_cases ci:i<m
 rotate_left
 ·refine hA.roundR Try.func59 r59_ok (zc ?_)
  (refine zq ?_;repeat ((first|rw[e0]);refine zq ?_))
  refine br (I<M) (by rw[e_lss hA]) (fun q=>by omega) (fun _=>?_)<;>refine zc ?_;obtain rfl:i=m:=by omega
  exact hQ h more t hmore
 obtain⟨h9,eh9⟩:∃z,z=bump h 16:=⟨_,rfl⟩;have t9:=t.more (show Ext h h9 by rw[eh9];exact ext_bump hA _ _);obtain⟨b,rfl,_,q1⟩:=t9.head ci;obtain⟨b',e',_,q2⟩:=t9.head am;cases e';rw[<-ecw]at q1 q2;have r1:rd h9 b (place 0 I 1) 1 [.slice (some ⟨bs i,0,none⟩) w cw]:=rd_ok hA (by rw[eI];exact q1);have r2:rd h9 b (place 0 A 1) 1 [.slice (some ⟨bs a,0,none⟩) w cw]:=rd_ok hA (by rw[eA];exact q2);have fi:Ext.redF F a k i i=F i:=by unfold Ext.redF;rw[if_neg (by omega)]
 have fa:Ext.redF F a k i a=F a:=by unfold Ext.redF;rw[if_neg (by omega)]
 obtain⟨x,ex⟩:∃z,z=F i k:=⟨_,rfl⟩;obtain⟨y,ey⟩:∃z,z=F a k:=⟨_,rfl⟩;have r3:rd h9 (bs i) (place 0 K 1) 1 [.int .i64 x]:=rd_ok hA (by have:=t9.rows.el ci (show k<w by omega);rw[fi]at this;rw[eK,ex];exact this);have r4:rd h9 (bs a) (place 0 K 1) 1 [.int .i64 y]:=rd_ok hA (by have:=t9.rows.el am (show k<w by omega);rw[fa]at this;rw[eK,ey];exact this);have k1:=r.kb i k (by omega) ci (by omega);have k18:=o.k18 am (show k<w by omega);rw[<-ex]at k1;rw[<-ey]at hx;obtain⟨q,eq⟩:∃z,z=x.tdiv y:=⟨_,rfl⟩;have q0:q.natAbs<=x.natAbs:=by rw[eq];exact Int.natAbs_tdiv_le_natAbs x y
 have m1:arith .quo .i64 x y=q:=by rw[eq,e_quo hA];exact wrap64 (by omega) (by omega)
 obtain⟨W,eW⟩:∃z:Int,z=w:=⟨_,rfl⟩;refine hA.roundR Try.func59 r59_ok (zc ?_)
 (refine zq ?_;repeat ((first|rw[e0]);refine zq ?_))
 refine br (I<M) (by rw[e_lss hA]) (fun _=>?_) (fun q=>by omega)<;>refine zc ?_;rw[<-eh9]
 (refine zq ?_;repeat ((first|rw[m1]);refine zq ?_))
 refine tr_sub hA hl0 (E:=Ext.redF F a k i) (q:=q) (at':=a) (w:=w) (i:=i) ci am (by omega) hw hm eA eI (fun c hc=>?_) eW (fun h1 t1=>?_) w 0 0 h9 (by omega) (by omega) rfl (t9.congr (fun z c hz hc=>by unfold rowT;rw[if_neg (by omega)]))
 ·rw[fi,fa]
  have k2:=r.kb i c (by omega) ci hc;have k3:=r.kb a c (Nat.le_refl _) am hc;have k4:=o.sq a k c am kn hc;have k5:=r.red o (by rw[<-ey];exact hx) ai ci hc;have k6:=o.k18 am hc;rw[<-ex,<-ey,<-eq]at k5;have k7:(q*F a c).natAbs<=P.K a k*P.K a c:=by rw[Int.natAbs_mul];exact Nat.mul_le_mul (by omega) k3
  omega
 have t2:Grd h0 h1 m w (some ⟨b,0,none⟩) cp bs (Ext.redF F a k (i+1)):=t1.congr (fun z c hz hc=>by
  refine rowT_all ?_ z c (by omega) hc;rw[Ext.redF_next ai,fi,fa,eq,ex,ey])
 have fs:Ext.redF F a k (i+1) i=Ext.redF F a k m i:=by unfold Ext.redF;rw[if_pos (by omega),if_pos (by omega)]
 obtain⟨u,eu⟩:∃z,z=Ext.redF F a k m i k:=⟨_,rfl⟩;obtain⟨b',e',_,q3⟩:=t2.head ci;cases e';rw[<-ecw]at q3;have r5:rd h1 b (place 0 I 1) 1 [.slice (some ⟨bs i,0,none⟩) w cw]:=rd_ok hA (by rw[eI];exact q3);have r6:rd h1 (bs i) (place 0 K 1) 1 [.int .i64 u]:=rd_ok hA (by have:=t2.rows.el ci (show k<w by omega);rw[fs]at this;rw[eK,eu];exact this);cases more with
 |true=>
  refine zq ?_;rw[add64 hA (by omega) (by omega)];refine ih (i+1) (I+1) true h1 (by omega) (by omega) (by omega) (by omega) t2 ⟨fun _=>?_,fun _=>rfl⟩;obtain⟨y,y1,y2,y3⟩:=hmore.1 rfl;exact⟨y,y1,by omega,y3⟩
 |false=>
  refine zq ?_;rw[add64 hA (by omega) (by omega),e_neq hA];refine ih (i+1) (I+1) (decide (u≠0)) h1 (by omega) (by omega) (by omega) (by omega) t2 ⟨fun h=>⟨i,ai,by omega,by rw[<-eu];exact of_decide_eq_true h⟩,fun⟨y,y1,y2,y3⟩=>decide_eq_true ?_⟩;by_cases e:y=i
  ·rw[e,<-eu]at y3;exact y3
  ·exact absurd (hmore.2 ⟨y,y1,by omega,y3⟩) (by simp)
theorem tr_ups{P:Ext.Pl}{n:Nat}{F0:Nat->Ext.Vec}{h0:AHeap}(hl0:h0.low<=h0.next){m w cp a k:Nat}{ra:Option Addr}{bs:Nat->Nat}{F:Nat->Ext.Vec}(o:Ext.PlOK P w n m F0)(r:Ext.Dn P w m F0 a k F)(hx:0<F a k)(kw:k<w)(hw:w<=1000)(hm:m<=1000){N K A:Int}(eA:A=a)(eK:K=k){Q:Exit->SS->Prop}
  (hQ:∀(h':AHeap),Grd h0 h' m w ra cp bs (Ext.upF F a k a)->Q (.exit 12) ⟨[(0,.slice ra m cp),(1,.int .i64 N),(5,.int .i64 A),(6,.int .i64 K)],0,[],h'⟩) :
  ∀(d i:Nat) (I:Int) (h:AHeap),a-i<=d->i<=a->I=i->Grd h0 h m w ra cp bs (Ext.upF F a k i)->
   head 59 32 0 ⟨[(0,.slice ra m cp),(1,.int .i64 N),(5,.int .i64 A),(6,.int .i64 K),(14,.int .i64 I)],0,[],h⟩ Q:=by
 intro d;have am:=r.am;obtain⟨cw,ecw⟩:∃z,z=someCap 1 w:=⟨_,rfl⟩
 induction d with
 |zero=>
  intro i I h hd hi eI t;refine hA.roundR Try.func59 r59_ok (zc ?_);refine br (I<A) (by rw[e_lss hA]) (fun q=>by omega) (fun _=>?_)<;>refine zc ?_;obtain rfl:i=a:=by omega
  exact hQ h t
 |succ d ih=>
 intro i I h hd hi eI t;by_cases ci:i<a
 rotate_left
 ·refine hA.roundR Try.func59 r59_ok (zc ?_)
  refine br (I<A) (by rw[e_lss hA]) (fun q=>by omega) (fun _=>?_)<;>refine zc ?_;obtain rfl:i=a:=by omega
  exact hQ h t
 have im:i<m:=by omega
 obtain⟨h9,eh9⟩:∃z,z=bump h 16:=⟨_,rfl⟩;have t9:=t.more (show Ext h h9 by rw[eh9];exact ext_bump hA _ _);obtain⟨b,rfl,_,q1⟩:=t9.head im;obtain⟨b',e',_,q2⟩:=t9.head am;cases e';rw[<-ecw]at q1 q2;have r1:rd h9 b (place 0 I 1) 1 [.slice (some ⟨bs i,0,none⟩) w cw]:=rd_ok hA (by rw[eI];exact q1);have r2:rd h9 b (place 0 A 1) 1 [.slice (some ⟨bs a,0,none⟩) w cw]:=rd_ok hA (by rw[eA];exact q2);have fi:Ext.upF F a k i i=F i:=by unfold Ext.upF;rw[if_neg (by omega)]
 have fa:Ext.upF F a k i a=F a:=by unfold Ext.upF;rw[if_neg (by omega)]
 obtain⟨x,ex⟩:∃z,z=F i k:=⟨_,rfl⟩;obtain⟨y,ey⟩:∃z,z=F a k:=⟨_,rfl⟩;have r3:rd h9 (bs i) (place 0 K 1) 1 [.int .i64 x]:=rd_ok hA (by have:=t9.rows.el im kw;rw[fi]at this;rw[eK,ex];exact this);have r4:rd h9 (bs a) (place 0 K 1) 1 [.int .i64 y]:=rd_ok hA (by have:=t9.rows.el am kw;rw[fa]at this;rw[eK,ey];exact this);have k1:=r.upb i k ci kw;have k18:=o.big a (by omega);rw[<-ex]at k1;rw[<-ey]at hx;have hy0:y≠0:=by omega
 obtain⟨p,ep⟩:∃z,z=x.tdiv y:=⟨_,rfl⟩;obtain⟨s,es⟩:∃z,z=x.tmod y:=⟨_,rfl⟩;have q0:p.natAbs<=x.natAbs:=by rw[ep];exact Int.natAbs_tdiv_le_natAbs x y
 have m1:arith .quo .i64 x y=p:=by rw[ep,e_quo hA];exact wrap64 (by omega) (by omega)
 have m2:arith .rem .i64 x y=s:=by rw[es,e_rem hA]
 have key:=Int.mul_tdiv_add_tmod x y;rw[<-ep,<-es,Int.mul_comm]at key;have s1:s<y:=by rw[es];exact Int.tmod_lt_of_pos x hx
 have s2:-y<s:=by
  have h1:=Int.neg_tmod x y;have:=Int.tmod_lt_of_pos (-x) hx;omega
 have hd':∀q:Int,(q*y<=x/\x<q*y+y)->q=x / y:=fun q ⟨z1,z2⟩=>by
  have y1:=Int.emod_nonneg x (show y≠0 by omega);have y2:=Int.emod_lt_of_pos x hx;have y3:=Int.emod_add_mul_ediv x y;rw[Int.mul_comm]at y3;rcases Int.lt_trichotomy q (x / y)with c|c|c
  ·have:=Int.mul_le_mul_of_nonneg_right (show q+1<=x / y by omega) (Int.le_of_lt hx)
   rw[Int.add_mul]at this;omega
  ·exact c
  ·have:=Int.mul_le_mul_of_nonneg_right (show x / y+1<=q by omega) (Int.le_of_lt hx)
   rw[Int.add_mul]at this;omega
 obtain⟨h8,eh8⟩:∃z,z=bump h9 16:=⟨_,rfl⟩;have t8:=t9.more (show Ext h9 h8 by rw[eh8];exact ext_bump hA _ _);obtain⟨b',e',_,q3⟩:=t8.head im;cases e';obtain⟨b',e',_,q4⟩:=t8.head am;cases e';rw[<-ecw]at q3 q4;have r5:rd h8 b (place 0 I 1) 1 [.slice (some ⟨bs i,0,none⟩) w cw]:=rd_ok hA (by rw[eI];exact q3);have r6:rd h8 b (place 0 A 1) 1 [.slice (some ⟨bs a,0,none⟩) w cw]:=rd_ok hA (by rw[eA];exact q4);have r7:rd h8 (bs i) (place 0 K 1) 1 [.int .i64 x]:=rd_ok hA (by have:=t8.rows.el im kw;rw[fi]at this;rw[eK,ex];exact this);have r8:rd h8 (bs a) (place 0 K 1) 1 [.int .i64 y]:=rd_ok hA (by have:=t8.rows.el am kw;rw[fa]at this;rw[eK,ey];exact this);obtain⟨W,eW⟩:∃z:Int,z=w:=⟨_,rfl⟩;have bnd:∀q:Int,q=x / y->∀c,c<w->(Ext.upF F a k i i c).natAbs<=9000000000000000000/\(q*Ext.upF F a k i a c).natAbs<=9000000000000000000/\(Ext.upF F a k i i c-q*Ext.upF F a k i a c).natAbs<=9000000000000000000:=fun q eq c hc=>by
  rw[fi,fa,eq,ex,ey];have k2:=r.up o kw (by rw[<-ey];exact hx) ci hc;have k3:=r.upb i c ci hc;have k4:=o.big (a+1) (by omega);omega
 have nxt:∀q:Int,q=x / y->∀h1,Grd h0 h1 m w (some ⟨b,0,none⟩) cp bs (rowT (Ext.upF F a k i) i w (fun c=>Ext.upF F a k i i c-q*Ext.upF F a k i a c))->Grd h0 h1 m w (some ⟨b,0,none⟩) cp bs (Ext.upF F a k (i+1)):=fun q eq h1 t1=>t1.congr (fun z c hz hc=>by
  refine rowT_all ?_ z c (by omega) hc;rw[Ext.upF_next ci,eq,fi,fa,ex,ey])
 refine hA.roundR Try.func59 r59_ok (zc ?_);refine br (I<A) (by rw[e_lss hA]) (fun _=>?_) (fun q=>by omega)<;>refine zc ?_;rw[<-eh9]
 (refine zq ?_;repeat ((first|rw[m1]);refine zq ?_))
 rw[<-eh8]
 (refine zq ?_;repeat ((first|rw[m2]);refine zq ?_))
 refine br (s<0) (by rw[e_lss hA]) (fun c=>?_) (fun c=>?_)<;>refine zc ?_
 ·obtain⟨q,eq⟩:∃q,q=p-1:=⟨_,rfl⟩
  have m3:arith .sub .i64 p 1=q:=by rw[eq];exact sub64 hA (by omega) (by omega)
  have eq':q=x / y:=hd' q (by rw[eq,Int.sub_mul];omega)
  (refine zq ?_;repeat ((first|rw[m3]);refine zq ?_))
  refine tr_sub2 hA hl0 (E:=Ext.upF F a k i) (q:=q) (at':=a) (w:=w) (i:=i) im am (by omega) hw hm eA eI (bnd q eq') eW (fun h1 t1=>?_) w 0 0 h8 (by omega) (by omega) rfl (t8.congr (fun z c hz hc=>by unfold rowT;rw[if_neg (by omega)]));refine zq ?_;rw[add64 hA (by omega) (by omega)];exact ih (i+1) (I+1) h1 (by omega) (by omega) (by omega) (nxt q eq' h1 t1)
 ·have eq':p=x / y:=hd' p (by omega)
  refine zq ?_;refine tr_sub2 hA hl0 (E:=Ext.upF F a k i) (q:=p) (at':=a) (w:=w) (i:=i) im am (by omega) hw hm eA eI (bnd p eq') eW (fun h1 t1=>?_) w 0 0 h8 (by omega) (by omega) rfl (t8.congr (fun z c hz hc=>by unfold rowT;rw[if_neg (by omega)]));refine zq ?_;rw[add64 hA (by omega) (by omega)];exact ih (i+1) (I+1) h1 (by omega) (by omega) (by omega) (nxt p eq' h1 t1)
