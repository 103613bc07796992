import Derived.Test.YtlimjlpjldijdaaQuMd
set_option linter.unusedSimpArgs false
set_option linter.unusedVariables false
namespace Go.Proofs.Ytlimjlpjldijdaa
open Go.Sim
set_option maxRecDepth 100000
variable{F:Prims}{call head arith c0 d0 e0 f0 conv q0 u0 v0 z0 a1 place c1 nz d1 rd wr push next f1 q1 u1 v1 z1 a2 c2 d2 f2 i2 j2 k2 l2 m2 u2 bump v2 z2 lt ne a3 b3 c3 yn d3 e3 f3 g3 i3 j3 k3 l3:_}(hA:AP F ⟨call,head,arith,c0,d0,e0,f0,conv,q0,u0,v0,z0,a1,place,c1,nz,d1,rd,wr,push,next,f1,q1,u1,v1,z1,a2,c2,d2,f2,i2,j2,k2,l2,m2,u2,bump,v2,z2,lt,ne,a3,b3,c3,yn,d3,e3,f3,g3,i3,j3,k3,l3⟩)
include hA
theorem dat_swap2{h0 h:AHeap}{b n sb:Nat}{L:List F2}{w:Value}(t:Dat h0 h b n L)(s:Cnt h0 h b sb w){i j:Int}(i0:0<=i)(i1:i<n)(j0:0<=j)(j1:j<n){x1 y1 x2 y2:Int}(g1:gt L i=⟨x1,y1⟩)(g2:gt L j=⟨x2,y2⟩) :
  ∃h1 h2,wr h b (place 0 i 2) [.int .i64 x2,.int .i64 y2] h1/\wr h1 b (place 0 j 2) [.int .i64 x1,.int .i64 y1] h2/\Dat h0 h2 b n (swapL L i j)/\Cnt h0 h2 b sb w:=by
 have o1:=t.ok i i0 i1;have o2:=t.ok j j0 j1;rw[g1]at o1;rw[g2]at o2;have key:∀{h:AHeap} {L:List F2} {i:Int} {x:F2},0<=i->i<n->okP x.n x.d->Dat h0 h b n L->Cnt h0 h b sb w->∃h',wr h b (place 0 i 2) x.cells h'/\Dat h0 h' b n (L.set i.toNat x)/\Cnt h0 h' b sb w:=fun {h L i x} i0 i1 hx t s=>by
  obtain⟨h',w1,w2,w3⟩:=Own.setRow t.own f2_len (i:=i.toNat) (by have:=t.len;omega) x;refine⟨h',wr_ok hA (by rw[Nat.zero_add];exact w1),⟨w3.ext t.ext t.old,w2,t.old,by rw[w3.next];exact t.lt,by rw[List.length_set];exact t.len,fun j j0 j1=>?_,t.few⟩,⟨w3.own s.own s.ne,by rw[w3.next];exact s.lt,s.old,s.ne⟩⟩;rw[gt_set L i0 j0 (by have:=t.len;omega)];split
  ·exact hx
  ·exact t.ok j j0 j1
 obtain⟨h1,w1,t1,s1⟩:=key i0 i1 (x:=⟨x2,y2⟩) o2 t s;obtain⟨h2,w2,t2,s2⟩:=key j0 j1 (x:=⟨x1,y1⟩) o1 t1 s1;refine⟨h1,h2,w1,w2,?_,s2⟩;unfold swapL;rw[g1,g2];exact t2
theorem e_xorU(a b:Int):0<=arith .xor .u64 a b/\arith .xor .u64 a b<18446744073709551616:=by
 rw[e_xor hA,wrapUm];omega
theorem len_ok{h:AHeap}(hlow:h.low<=h.next){x:Int}(hx:u64 x){Q:Value->AHeap->Prop}(hQ:∀n:Int,isLen x n->Q (.int .i64 n) h):call 73 [.int .u64 x] h Q:=by
 refine hA.bodyR Try.func73 r73_ok (hA.alike _ _ _ rfl) hlow (zc ?_);refine len64_ok hA hlow hx (fun n hn=>⟨_,rfl,?_⟩);refine zc ?_;exact hQ n hn
theorem power_ok{h:AHeap}(hlow:h.low<=h.next){l:Int}(l0:0<l)(l1:l<=100000){Q:Value->AHeap->Prop}(hQ:∀(k:Nat) (M:Int),k<=40->M=2 ^ k->l<=M->M<=2*l->Q (.int .u64 M) h):call 86 [.int .i64 l] h Q:=by
 refine hA.bodyR Try.func86 r86_ok (hA.alike _ _ _ rfl) hlow (zc ?_);rw[convU hA (by omega) (by omega)];refine len_ok hA hlow (by unfold u64;omega) (fun n hn=>⟨_,rfl,?_⟩);obtain⟨n0,n1,n2⟩:=hn;obtain⟨k,hk⟩:∃k:Nat,n=k:=⟨n.toNat,by omega⟩;rw[hk,Int.toNat_natCast]at n1 n2;rw[show max l 1=l by omega]at n2;have k40:k<=40:=by
  by_cases c:k<=40
  ·exact c
  ·have h1:=Nat.pow_le_pow_right (n:=2) (by omega) (show 40<=k by omega)
   have h2:((2 ^ 40:Nat):Int)<=((2 ^ k:Nat):Int):=by exact_mod_cast h1
   have h3:((2 ^ k:Nat):Int)=2 ^ k:=by push_cast;rfl
   have h4:((2 ^ 40:Nat):Int)=1099511627776:=by decide
   omega
 have es:arith .shl .u64 1 n=2 ^ k:=by
  rw[shlU hA 1 k (by omega) hk,Int.one_mul];exact Int.emod_eq_of_lt (Int.le_of_lt (Int.pow_pos (by omega))) (by omega)
 obtain⟨M,hM⟩:∃z:Int,z=2 ^ k:=⟨_,rfl⟩;rw[<-hM]at es n1 n2;refine zq ?_;rw[es];exact hQ k M k40 hM (Int.le_of_lt n1) n2
theorem next_ok{h0 h:AHeap}(hlow:h0.low<=h0.next){b n sb:Nat}{L:List F2}{w:Int}(t:Dat h0 h b n L)(s:Cnt h0 h b sb (.int .u64 w)){Q:Value->AHeap->Prop}
  (hQ:∀h' r w',u64 r->Dat h0 h' b n L->Cnt h0 h' b sb (.int .u64 w')->Q (.int .u64 r) h'):call 87 [.pointer (some ⟨sb,0,none⟩)] h Q:=by
 have hlow':=hlow
 replace hlow:=t.ext.lowOK hlow
 refine hA.bodyR Try.func87 r87_ok (hA.alike _ _ _ rfl) hlow (zc ?_);obtain⟨g0,hg0⟩:∃z,z=bump h 10:=⟨_,rfl⟩;have x0:Ext h g0:=by rw[hg0];exact ext_bump hA _ _
 have t0:=t.more x0;have s0:=s.more x0;rw[<-hg0];obtain⟨w0,hw0⟩:∃z,z=arith .xor .u64 w (arith .shl .u64 w 13):=⟨_,rfl⟩;have b0:=e_xorU hA w (arith .shl .u64 w 13);have r0:rd g0 sb 0 1 [.int .u64 w]:=rd_at hA (s0.own.readG (o:=0) (n:=1) (by simp));obtain⟨y0,p0,s0',t0'⟩:=s0.put t0 (.int .u64 w0);have p0':wr g0 sb 0 [.int .u64 w0] y0:=wr_at hA p0;rw[hw0]at p0';refine zq ?_;rw[<-hw0]at b0;obtain⟨g1,hg1⟩:∃z,z=bump y0 10:=⟨_,rfl⟩;have x1:Ext y0 g1:=by rw[hg1];exact ext_bump hA _ _
 have t1:=t0'.more x1;have s1:=s0'.more x1;rw[<-hg1];obtain⟨w1,hw1⟩:∃z,z=arith .xor .u64 w0 (arith .shr .u64 w0 7):=⟨_,rfl⟩;have b1:=e_xorU hA w0 (arith .shr .u64 w0 7);have r1:rd g1 sb 0 1 [.int .u64 w0]:=rd_at hA (s1.own.readG (o:=0) (n:=1) (by simp));obtain⟨y1,p1,s1',t1'⟩:=s1.put t1 (.int .u64 w1);have p1':wr g1 sb 0 [.int .u64 w1] y1:=wr_at hA p1;rw[hw1]at p1';refine zq ?_;rw[<-hw1]at b1;obtain⟨g2,hg2⟩:∃z,z=bump y1 10:=⟨_,rfl⟩;have x2:Ext y1 g2:=by rw[hg2];exact ext_bump hA _ _
 have t2:=t1'.more x2;have s2:=s1'.more x2;rw[<-hg2];obtain⟨w2,hw2⟩:∃z,z=arith .xor .u64 w1 (arith .shl .u64 w1 17):=⟨_,rfl⟩;have b2:=e_xorU hA w1 (arith .shl .u64 w1 17);have r2:rd g2 sb 0 1 [.int .u64 w1]:=rd_at hA (s2.own.readG (o:=0) (n:=1) (by simp));obtain⟨y2,p2,s2',t2'⟩:=s2.put t2 (.int .u64 w2);have p2':wr g2 sb 0 [.int .u64 w2] y2:=wr_at hA p2;rw[hw2]at p2';refine zq ?_;rw[<-hw2]at b2;have r9:rd y2 sb 0 1 [.int .u64 w2]:=rd_at hA (s2'.own.readG (o:=0) (n:=1) (by simp));refine zq ?_;exact hQ y2 w2 w2 ⟨b2.1,b2.2⟩ t2' s2'
theorem break_loop{h0:AHeap}(hlow:h0.low<=h0.next){b n c sb k:Nat}{L0:List F2}{A B l:Int}(a0:0<=A)(ab:A+12<B)(bn:B<=n)(hl:l=B-A){M:Int}(k40:k<=40)(hM:M=2 ^ k)(k0:l<=M)(k1:M<=2*l){Q:Exit->SS->Prop}
  (hQ:∀h' L e kn,Dat h0 h' b n L->PermOn A B L0 L->Q (.exit 0) ⟨e,kn,[],h'⟩) :
  ∀(m:Nat) (i:Int) (h:AHeap) (L:List F2) (w:Int),(A+l / 4*2+3-i).toNat<=m->i<=A+l / 4*2+2->A+l / 4*2-1<=i->Dat h0 h b n L->PermOn A B L0 L->Cnt h0 h b sb (.int .u64 w)->
   head 77 5 0 ⟨[(0,.slice (some ⟨b,0,none⟩) n c),(1,.int .i64 A),(8,.int .i64 l),(9,.pointer (some ⟨sb,0,none⟩)),(10,.int .u64 M),(11,.int .i64 i)],0,[],h⟩ Q:=by
 intro m
 induction m with
 |zero=>intro i h L w hm i9 i0 t hp s;omega
 |succ m ih=>
 intro i h L w hm i9 i0 t hp s;have few:=t.few;have e2:arith .quo .i64 l 4=l / 4:=quo64 hA (by omega) (by omega) (by omega);obtain⟨q,hq⟩:∃z,z=l / 4:=⟨_,rfl⟩;rw[<-hq]at e2 hm i0 i9;obtain⟨q2,hq2⟩:∃z,z=q*2:=⟨_,rfl⟩;have e4:arith .mul .i64 q 2=q2:=by rw[hq2];exact mul64 hA (by omega) (by omega)
 rw[<-hq2]at hm i0 i9;obtain⟨j,hj⟩:∃z,z=A+q2:=⟨_,rfl⟩;have e7:arith .add .i64 A q2=j:=by rw[hj];exact add64 hA (by omega) (by omega)
 obtain⟨j1,hj1⟩:∃z,z=j+1:=⟨_,rfl⟩;have e8:arith .add .i64 j 1=j1:=by rw[hj1];exact add64 hA (by omega) (by omega)
 refine hA.roundR Try.func77 r77_ok (zc ?_)
 (refine zq ?_;repeat ((first|rw[e2]|rw[e4]|rw[e7]|rw[e8]);refine zq ?_))
 refine br (i<=j1) (by rw[e_leq hA]) (fun ci=>?_) (fun _=>?_)<;>refine zc ?_
 rotate_left
 ·exact hQ h L _ _ t hp
 refine next_ok hA hlow t s (fun h1 r w1 hr t1 s1=>⟨_,rfl,?_⟩);obtain⟨M1,hM1⟩:∃z,z=M-1:=⟨_,rfl⟩;have e9:arith .sub .u64 M 1=M1:=by rw[hM1];exact subU hA (by omega) (by omega)
 have eA:arith .and .u64 r M1=r % M:=by rw[maskU hA hr.1 hr.2 k (by omega) (by rw[hM1,hM]),hM]
 obtain⟨o,ho⟩:∃z,z=r % M:=⟨_,rfl⟩;have o0:0<=o:=by rw[ho];exact Int.emod_nonneg _ (by omega)
 have o1:o<M:=by rw[ho];exact Int.emod_lt_of_pos _ (by omega)
 rw[<-ho]at eA;have eC:conv .i64 o=o:=conv64 hA (by omega) (by omega);refine zc ?_;rw[e9,eA,eC];have e5:arith .add .i64 i 1=i+1:=add64 hA (by omega) (by omega);obtain⟨i1,hi1⟩:∃z,z=i+1:=⟨_,rfl⟩;rw[<-hi1]at e5;have go:∀o:Int,0<=o->o<l->∃x:Int,x=A+o/\0<=x/\A<=x/\x<B/\x<n/\arith .add .i64 A o=x:=fun o p1 p2=>⟨A+o,rfl,by omega,by omega,by omega,by omega,add64 hA (by omega) (by omega)⟩
 refine br (l<=o) (by rw[e_geq hA]) (fun co=>?_) (fun co=>?_)<;>refine zc ?_
 ·have eS:arith .sub .i64 o l=o-l:=sub64 hA (by omega) (by omega)
  obtain⟨o',ho'⟩:∃z,z=o-l:=⟨_,rfl⟩;rw[<-ho']at eS;rw[eS];obtain⟨x,hx,x0,xA,xB,xn,eX⟩:=go o' (by omega) (by omega);obtain⟨h5,hh5⟩:∃z,z=bump h1 20:=⟨_,rfl⟩;have x5:Ext h1 h5:=by rw[hh5];exact ext_bump hA _ _
  have t5:=t1.more x5;obtain⟨a5,b5,g5,f5,r5⟩:=t5.read (i:=i) (by omega) (by omega);obtain⟨a5',b5',g5',f5',r5'⟩:=t5.read (i:=x) (by omega) (by omega);have q5:=rd_ok hA r5;have q5':=rd_ok hA r5';rw[<-hh5];obtain⟨h5c,h5d,p5,p5',t5d,s5d⟩:=dat_swap2 hA t5 (s1.more x5) (i:=i) (j:=x) (by omega) (by omega) (by omega) (by omega) g5 g5'
  (refine zq ?_;repeat ((first|rw[eX]|rw[e5]);refine zq ?_))
  exact ih i1 h5d _ w1 (by omega) (by omega) (by omega) t5d (hp.trans (PermOn.swap L a0 (by have:=t.len;omega) (by omega) (by omega) (by omega) (by omega))) s5d
 ·obtain⟨x,hx,x0,xA,xB,xn,eX⟩:=go o (by omega) (by omega)
  obtain⟨h5,hh5⟩:∃z,z=bump h1 20:=⟨_,rfl⟩;have x5:Ext h1 h5:=by rw[hh5];exact ext_bump hA _ _
  have t5:=t1.more x5;obtain⟨a5,b5,g5,f5,r5⟩:=t5.read (i:=i) (by omega) (by omega);obtain⟨a5',b5',g5',f5',r5'⟩:=t5.read (i:=x) (by omega) (by omega);have q5:=rd_ok hA r5;have q5':=rd_ok hA r5';rw[<-hh5];obtain⟨h5c,h5d,p5,p5',t5d,s5d⟩:=dat_swap2 hA t5 (s1.more x5) (i:=i) (j:=x) (by omega) (by omega) (by omega) (by omega) g5 g5'
  (refine zq ?_;repeat ((first|rw[eX]|rw[e5]);refine zq ?_))
  exact ih i1 h5d _ w1 (by omega) (by omega) (by omega) t5d (hp.trans (PermOn.swap L a0 (by have:=t.len;omega) (by omega) (by omega) (by omega) (by omega))) s5d
theorem break_ok{h0 h:AHeap}(hlow:h0.low<=h0.next){b n c:Nat}{L:List F2}{A B:Int}(a0:0<=A)(ab:A+12<B)(bn:B<=n)(t:Dat h0 h b n L){Q:Value->AHeap->Prop}
  (hQ:∀h' L',Dat h0 h' b n L'->PermOn A B L L'->Q (.tuple #[]) h'):call 77 [.slice (some ⟨b,0,none⟩) n c,.int .i64 A,.int .i64 B,.func (.func 64) #[] #[]] h Q:=by
 have hlow':=hlow
 replace hlow:=t.ext.lowOK hlow
 have few:=t.few;refine hA.bodyR Try.func77 r77_ok (hA.alike _ _ _ rfl) hlow (zc ?_);obtain⟨l,hl⟩:∃z,z=B-A:=⟨_,rfl⟩;have e1:arith .sub .i64 B A=l:=by rw[hl];exact sub64 hA (by omega) (by omega)
 rw[e1];have e2:arith .quo .i64 l 4=l / 4:=quo64 hA (by omega) (by omega) (by omega);obtain⟨q,hq⟩:∃z,z=l / 4:=⟨_,rfl⟩;rw[<-hq]at e2;obtain⟨q2,hq2⟩:∃z,z=q*2:=⟨_,rfl⟩;have e4:arith .mul .i64 q 2=q2:=by rw[hq2];exact mul64 hA (by omega) (by omega)
 obtain⟨j,hj⟩:∃z,z=A+q2:=⟨_,rfl⟩;have e7:arith .add .i64 A q2=j:=by rw[hj];exact add64 hA (by omega) (by omega)
 obtain⟨j1,hj1⟩:∃z,z=j-1:=⟨_,rfl⟩;have e8:arith .sub .i64 j 1=j1:=by rw[hj1];exact sub64 hA (by omega) (by omega)
 refine br (8<=l) (by rw[e_geq hA]) (fun _=>?_) (fun z=>by omega)<;>refine zc ?_;rw[e_next hA,e_push hA,convU hA (by omega) (by omega)];have x1:Ext h (h.push 1 [Value.int .u64 0]):=.push _ _ _;have o1:=Own.push h 1 [Value.int .u64 0];have n1:(h.push 1 [Value.int .u64 0]).next=h.next+1:=rfl;generalize h.push 1 [Value.int .u64 0]=h1 at *;obtain⟨sb,hsb⟩:∃z,z=h.next:=⟨_,rfl⟩;rw[<-hsb]at o1 ⊢;have t1:=t.more x1;have s1:Cnt h0 h1 b sb (.int .u64 0):=⟨o1,by omega,by have:=t.ext.next;omega,by have:=t.lt;omega⟩;obtain⟨h2,p2,s2,t2⟩:=s1.put t1 (.int .u64 l);have p2':wr h1 sb 0 [.int .u64 l] h2:=wr_at hA p2;refine zq ?_;have hlow:=t2.ext.lowOK hlow';refine power_ok hA hlow (by omega) (by omega) (fun k M k40 hM m0 m1=>⟨_,rfl,?_⟩)
 (refine zq ?_;repeat ((first|rw[e2]|rw[e4]|rw[e7]|rw[e8]);refine zq ?_))
 refine break_loop hA hlow' (L0:=L) (c:=c) (l:=l) (B:=B) (M:=M) (k:=k) a0 ab bn hl k40 hM m0 m1 (fun h' L' e kn t' hp=>?_) (A+l / 4*2+3-j1).toNat j1 h2 L l (Nat.le_refl _) (by omega) (by omega) t2 (.refl _ _ _) s2;refine zc ?_;exact hQ h' L' t' hp
