import Derived.Test.YtdpbiegfljmhmaaGreatDetK
import Derived.KernelRfl
import Derived.Test.YtdpbiegfljmhmaaGreatSlA
import Derived.Test.YtdpbiegfljmhmaaGreatSmS
set_option linter.unusedSimpArgs false
set_option linter.unusedVariables false
namespace Go.Proofs.YtdpbiegfljmhmaaGreat
open Go.cV
set_option maxRecDepth 100000
def OY(s:Nat)(M:Nat->Nat->Int)(p:Nat):Int:=if p=0 then(s:Int)else M ((p-1) / 4) ((p-1) % 4)
structure Sq(h0 h:af)(b s:Nat)(M:Nat->Nat->Int):Prop where
 ext:Ext h0 h
 own:ct h b 17 ((kR (OY s M) 17).map (.int .i64))
 cI:h0.next<=b
 lt:b<h.next
section
variable{h0 h:af}{b s:Nat}{M:Nat->Nat->Int}
theorem Sq.more{h':af}(t:Sq h0 h b s M)(e:Ext h h'):Sq h0 h' b s M:=⟨t.ext.trans e,t.own.ext e t.lt,t.cI,Nat.lt_of_lt_of_le t.lt e.next⟩
theorem Sq.congr{N:Nat->Nat->Int}(t:Sq h0 h b s M)(e:∀i j,i<4->j<4->M i j=N i j):Sq h0 h b s N:=
 ⟨t.ext,by
  have:kR (OY s N) 17=kR (OY s M) 17:=iq (fun p hp=>by
   unfold OY;split
   ·rfl
   ·exact(e _ _ om om).symm)
  rw[this];exact t.own,t.cI,t.lt⟩
theorem Sq.cell(t:Sq h0 h b s M){p:Nat}(hp:p<17):h.aN ⟨b,p,none⟩ 1=some [.int .i64 (OY s M p)]:=by
 rw[t.own.getInt (by rw[bP];exact hp),List.getD_eq_getElem?_getD,jV _ hp];rfl
theorem Sq.size(t:Sq h0 h b s M):h.aN ⟨b,0+0,none⟩ 1=some [.int .i64 s]:=t.cell (p:=0) om
theorem Sq.el(t:Sq h0 h b s M){i j:Nat}(hi:i<4)(hj:j<4):h.aN ⟨b,0+1+i*4+j*1,none⟩ 1=some [.int .i64 (M i j)]:=by
 rw[t.cell om];unfold OY;rw[if_neg om,show(0+1+i*4+j*1-1) / 4=i by omega,show(0+1+i*4+j*1-1) % 4=j by omega]
theorem Sq.wr{v:Int}{p:Nat}{s':Nat}{N:Nat->Nat->Int}(t:Sq h0 h b s M)(hp:p<17)(e:∀q,q<17->(if q=p then v else OY s M q)=OY s' N q):∃h',h.write b p [.int .i64 v]=some h'/\Sq h0 h' b s' N/\ku h h' b:=by
 obtain⟨h',w1,w2,w3⟩:=t.own.setInt (i:=p) (by rw[bP];exact hp) v;refine⟨h',w1,⟨w3.ext t.ext t.cI,?_,t.cI,by rw[w3.next];exact t.lt⟩,w3⟩;rw[wN,iq e]at w2;exact w2
theorem Sq.set(t:Sq h0 h b s M){i j:Nat}(hi:i<4)(hj:j<4)(v:Int):∃h',h.write b (0+1+i*4+j*1) [.int .i64 v]=some h'/\Sq h0 h' b s (tO M i j v)/\ku h h' b:=
 t.wr om (fun q hq=>by
  unfold OY tO;by_cases c:q=0+1+i*4+j*1
  ·rw[if_pos c,if_neg om,if_pos om]
  ·rw[if_neg c]
   by_cases c0:q=0
   ·rw[if_pos c0,if_pos c0]
   ·rw[if_neg c0,if_neg c0,if_neg om])
theorem Sq.grow(t:Sq h0 h b s M){S:Int}(eS:S=(s:Int)+1):∃h',h.write b (0+0) [.int .i64 S]=some h'/\Sq h0 h' b (s+1) M/\ku h h' b:=
 t.wr om (fun q hq=>by
  unfold OY;by_cases c:q=0+0
  ·rw[if_pos c,if_pos c,eS];rfl
  ·rw[if_neg c,if_neg om,if_neg om])
theorem Sq.row(t:Sq h0 h b s M){i:Nat}(hi:i<4):h.aN ⟨b,0+1+i*4,none⟩ 4=some [.int .i64 (M i 0),.int .i64 (M i 1),.int .i64 (M i 2),.int .i64 (M i 3)]:=by
 rw[t.own.aN (by rw[List.length_map,bP];omega)];have h:i=0\/i=1\/i=2\/i=3:=om
 rcases h with rfl|rfl|rfl|rfl<;>rfl
def Tz(M:Nat->Nat->Int)(i:Nat)(w:Nat->Int):Nat->Nat->Int:=fun x y=>if x=i then w y else M x y
theorem Sq.setRow(t:Sq h0 h b s M){i:Nat}(hi:i<4)(w:Nat->Int):∃h',h.write b (0+1+i*4) [.int .i64 (w 0),.int .i64 (w 1),.int .i64 (w 2),.int .i64 (w 3)]=some h'/\Sq h0 h' b s (Tz M i w)/\ku h h' b:=by
 obtain⟨h',w1,w2,w3⟩:=t.own.write (o:=0+1+i*4) (vs:=[.int .i64 (w 0),.int .i64 (w 1),.int .i64 (w 2),.int .i64 (w 3)]) (by rw[List.length_map,bP];show 0+1+i*4+4<=17;omega);refine⟨h',w1,⟨w3.ext t.ext t.cI,?_,t.cI,by rw[w3.next];exact t.lt⟩,w3⟩;have h:i=0\/i=1\/i=2\/i=3:=om
 rcases h with rfl|rfl|rfl|rfl<;>exact w2
theorem Sq.new(h:af):Sq h (h.push 17 (List.replicate 17 (.int .i64 0))) h.next 0 (fun _ _=>0):=
 ⟨.push h _ _,ct.push h 17 _,Nat.le_refl _,by simp[af.push]⟩
end
def Be(s:Nat)(C:Nat->Nat->Int)(k:Nat)(last:Int)(i j:Nat):Nat->Nat->Int:=fun x y=>if k<x/\k<y/\y<s/\(x<i\/x=i/\y<j)then(C k k*C x y-C x k*C k y).tdiv last else C x y
theorem Bf(s:Nat)(C:Nat->Nat->Int)(k:Nat)(last:Int)(x y:Nat):Be s C k last (k+1) (k+1) x y=C x y:=by unfold Be;rw[if_neg om]
theorem Qg(s:Nat)(C:Nat->Nat->Int)(k:Nat)(last:Int)(i x y:Nat):Be s C k last i s x y=Be s C k last (i+1) (k+1) x y:=by
 unfold Be;by_cases c:k<x/\k<y/\y<s/\(x<i\/x=i/\y<s)
 ·rw[if_pos c,if_pos om]
 ·rw[if_neg c,if_neg om]
theorem TA:Tryz.prog.eqGuardType Tryz.prog.depth 124=false:=by kernel_rfl
theorem eqP(a b c d:Int):∃r,px Tryz.prog 30 124 (.agg #[.int .i64 a,.int .i64 b]) (.agg #[.int .i64 c,.int .i64 d])=some r/\(r=true↔a=c/\b=d):=by
 have h3:Tryz.prog.underlying 3=some (.int .i64):=by kernel_rfl
 have h4:Tryz.prog.underlying 124=some (.array 2 3):=by kernel_rfl
 have i3:iP Tryz.prog 3=some false:=by kernel_rfl
 have s3:bY Tryz.prog 3=some 1:=by kernel_rfl
 have e3:∀(n:Nat) (x y:Int),px Tryz.prog (n+1) 3 (.int .i64 x) (.int .i64 y)=some (x == y):=by
  intro n x y;unfold px;rw[h3];simp
 have e4:px Tryz.prog (29+1) 124 (.agg #[.int .i64 a,.int .i64 b]) (.agg #[.int .i64 c,.int .i64 d])=some ((a == c) && (b == d)):=by
  unfold px;rw[h4];have OS:∀(x y:Int),px Tryz.prog 29 3 (.int .i64 x) (.int .i64 y)=some (x == y):=e3 28;simp only[s3,List.range,List.range.loop,List.foldr,kL,i3,List.getElem?_cons_zero,List.getElem?_cons_succ,OS,Nat.mul_one];cases a == c<;>cases b == d<;>rfl
 refine⟨_,e4,?_⟩;simp only[Bool.and_eq_true,beq_iff_eq]
structure oX(g:List (List Int))(m n:Nat):Prop where
 m1:1<=m
 m4:m<=4
 n1:1<=n
 n4:n<=4
 len:g.length=m
 row:∀i:Int,0<=i->i<m->(gt g i).length=n
 nine:∀i j,(gt (gt g i) j).natAbs<=9
theorem CA{α:Type}[Inhabited α](l:List α){i:Int}(h:¬(0<=i/\i<l.length))(h0:0<=i):gt l i=default:=by
 unfold gt;rw[List.getD_eq_getElem?_getD,List.getElem?_eq_none om];rfl
theorem Good.YA{g:List (List Int)}{B:List Fc}(h:Good g B)(hm:¬GZ g):∃m n,oX g m n:=by
 have m1:=h.m1;have n1:=h.n1;have m4:g.length<=4:=Nat.le_of_not_lt (fun q=>hm (.inl q));have n4:(gt g 0).length<=4:=Nat.le_of_not_lt (fun q=>hm (.inr ⟨0,om,om,q⟩));refine⟨g.length,(gt g 0).length,m1,m4,n1,n4,rfl,h.row,fun i j=>?_⟩;have neg:∀{α:Type} [Inhabited α] (l:List α) (i:Int),i<0->gt l i=gt l 0:=fun l i q=>by unfold gt;rw[show i.toNat=0 by omega];rfl
 have key:∀i j:Int,0<=i->0<=j->(gt (gt g i) j).natAbs<=9:=fun i j i0 j0=>by
  by_cases ci:i<g.length
  ·by_cases cj:j<(gt g i).length
   ·have:=h.TB i i0 ci j j0 cj;omega
   ·rw[CA _ om j0];decide
  ·rw[CA g om i0]
   show(gt ([]:List Int) j).natAbs<=9;rw[CA ([]:List Int) (fun q=>by have:=q.2;simp at this;omega) j0];decide
 by_cases ci:0<=i
 ·by_cases cj:0<=j
  ·exact key i j ci cj
  ·rw[neg _ j om];exact key i 0 ci om
 ·rw[neg _ i om]
  by_cases cj:0<=j
  ·exact key 0 j om cj
  ·rw[neg _ j om];exact key 0 0 om om
structure bL(g:List (List Int))(m n r s:Nat)(A:Nat->Ext.aR):Prop where
 PV:Ext.Gc (n+m) m A
 C2:Ext.kY (n+m) m A (gU g n)
 sum:r+s=m
 lo:∀y,y<r->Ext.aj (n+m) (A y)<n
 hi:∀y,r<=y->y<m->n<=Ext.aj (n+m) (A y)
structure Fx(g:List (List Int))(n R C i j:Nat)(M:Nat->Nat->Int):Prop where
 up:∀r c,r<(Ext.bl i R).length->c<(Ext.bl n C).length->M r c=Ext.el g (gt (Ext.bl i R) (r:Int)) (gt (Ext.bl n C) (c:Int))
 cur:∀c,c<(Ext.bl j C).length->M (Ext.bl i R).length c=Ext.el g i (gt (Ext.bl j C) (c:Int))
theorem Fx.skip{g:List (List Int)}{n R C i j:Nat}{M:Nat->Nat->Int}(t:Fx g n R C i j M)(h:C.testBit j=false):Fx g n R C i (j+1) M:=by
 refine⟨t.up,fun c hc=>?_⟩;rw[Ext.mJ,if_neg (by rw[h];decide)]at hc ⊢;exact t.cur c hc
theorem Fx.put{g:List (List Int)}{n R C i j:Nat}{M:Nat->Nat->Int}(t:Fx g n R C i j M)(h:C.testBit j=true):Fx g n R C i (j+1) (tO M (Ext.bl i R).length (Ext.bl j C).length (Ext.el g i j)):=by
 refine⟨fun r c hr hc=>?_,fun c hc=>?_⟩
 ·unfold tO;rw[if_neg om];exact t.up r c hr hc
 ·rw[Ext.mJ,if_pos h]at hc ⊢
  rw[List.length_append,List.length_singleton]at hc;rw[Ext.Iz _ _ om];unfold tO;by_cases e:c<(Ext.bl j C).length
  ·rw[if_neg om,if_pos e];exact t.cur c e
  ·rw[if_pos om,if_neg e]
theorem Fx.next{g:List (List Int)}{n R C i:Nat}{M:Nat->Nat->Int}(t:Fx g n R C i n M)(h:R.testBit i=true):Fx g n R C (i+1) 0 M:=by
 refine⟨fun r c hr hc=>?_,fun c hc=>absurd hc (by show ¬c<0;omega)⟩;rw[Ext.mJ,if_pos h]at hr ⊢;rw[List.length_append,List.length_singleton]at hr;rw[Ext.Iz _ _ om];by_cases e:r<(Ext.bl i R).length
 ·rw[if_pos e];exact t.up r c e hc
 ·rw[if_neg e,show r=(Ext.bl i R).length by omega];exact t.cur c hc
theorem Fx.aaj{g:List (List Int)}{n R C i:Nat}{M:Nat->Nat->Int}(t:Fx g n R C i 0 M)(h:R.testBit i=false):Fx g n R C (i+1) 0 M:=by
 refine⟨fun r c hr hc=>?_,fun c hc=>absurd hc (by show ¬c<0;omega)⟩;rw[Ext.mJ,if_neg (by rw[h];decide)]at hr ⊢;exact t.up r c hr hc
variable{F:bg}{call head arith d0 f0 fD k0 conv neg imax l0 ofNat n0 place o0 nz p0 rd wr push next s0 t0 u0 v0 w0 z0 d1 f1 g1 k1 l1 o1 s1 fresh aB aH wrote bZ lt ne kp u1 z1 yn d2 f2 k2 l2 s2 u2:_}(hA:AP F ⟨call,head,arith,d0,f0,fD,k0,conv,neg,imax,l0,ofNat,n0,place,o0,nz,p0,rd,wr,push,next,s0,t0,u0,v0,w0,z0,d1,f1,g1,k1,l1,o1,s1,fresh,aB,aH,wrote,bZ,lt,ne,kp,u1,z1,yn,d2,f2,k2,l2,s2,u2⟩)
include hA
theorem Kg{h0:af}(g:Nat){Q:Exit->SS->Prop}
  (hQ:∀(a:Int) h',a.natAbs=g->a.natAbs<=9000000000000000000->Ext h0 h'->Q (.exit 0) ⟨[(0,.int .i64 a)],0,[],h'⟩) :
  ∀(d:Nat) (a b:Int) (h:af),b.natAbs<=d->Int.gcd a b=g->a.natAbs<=9000000000000000000->b.natAbs<=9000000000000000000->Ext h0 h->
   head 45 1 0 ⟨[(0,.int .i64 a),(1,.int .i64 b)],0,[],h⟩ Q:=by
 intro d
 induction d with
 |zero=>
  intro a b h hd hg ha hb x;obtain rfl:b=0:=om
  refine hA.au Tryz.func45 x45.2 (zc ?_);refine br ((0:Int)≠0) (by rw[bR hA]) (fun q=>absurd rfl q) (fun _=>?_)<;>refine zc ?_;exact hQ a h (by rw[<-hg,Int.gcd_zero_right]) ha x
 |succ d ih=>
 intro a b h hd hg ha hb x;by_cases cb:b=0
 ·subst cb
  refine hA.au Tryz.func45 x45.2 (zc ?_);refine br ((0:Int)≠0) (by rw[bR hA]) (fun q=>absurd rfl q) (fun _=>?_)<;>refine zc ?_;exact hQ a h (by rw[<-hg,Int.gcd_zero_right]) ha x
 obtain⟨r,er⟩:∃z,z=a.tmod b:=⟨_,rfl⟩;have m1:arith .rem .i64 a b=r:=by rw[er,A4 hA]
 have lt:r.natAbs<b.natAbs:=by rw[er,Int.natAbs_tmod];exact Nat.mod_lt _ om
 have eg:Int.gcd b r=g:=by
  rw[<-hg,er];show Nat.gcd b.natAbs (a.tmod b).natAbs=Nat.gcd a.natAbs b.natAbs;rw[Int.natAbs_tmod,Nat.gcd_comm a.natAbs,Nat.gcd_comm b.natAbs (a.natAbs % b.natAbs),<-Nat.gcd_rec]
 refine hA.au Tryz.func45 x45.2 (zc ?_);refine br (b≠0) (by rw[bR hA]) (fun _=>?_) (fun q=>absurd cb q)<;>refine zc ?_
 (refine zq ?_;repeat ((first|rw[m1]);refine zq ?_))
 exact ih b r _ om eg hb om (x.trans (aw hA _ _))
theorem IA{h:af}(ar:h.low<=h.next){a b:Int}(ha:a.natAbs<=9000000000000000000)(hb:b.natAbs<=9000000000000000000){Q:Value->af->Prop}(hQ:∀h',Ext h h'->Q (.int .i64 (Int.gcd a b)) h'):call 45 [.int .i64 a,.int .i64 b] h Q:=by
 refine hA.aO Tryz.func45 x45.2 (hA.alike _ _ _ rfl) ar (zc ?_);refine Kg hA (h0:=h) (Int.gcd a b) (fun x h' hx hle x1=>?_) b.natAbs a b h (Nat.le_refl _) rfl ha hb (.refl h);obtain⟨G,eG⟩:∃z:Int,z=Int.gcd a b:=⟨_,rfl⟩;have m1:imax x (neg .i64 x)=G:=by rw[Mt hA,vE hA,wrap64 om om];omega
 have hq:=hQ h' x1;rw[<-eG]at hq
 (refine zq ?_;repeat ((first|rw[m1]);refine zq ?_))
 exact hq
theorem Kh{x:Int}(h0:0<=x)(h1:x<16){h:af}(ar:h.low<=h.next){Q:Value->af->Prop}(hQ:∀v:Int,v=(Ext.bl 4 x.toNat).length->Q (.int .i64 v) h):call 84 [.int .u64 x] h Q:=by
 refine hA.aO Tryz.func84 x84.2 (hA.alike _ _ _ rfl) ar (zc ?_);refine zq ?_;refine hQ _ ?_;simp only[Mz hA,My hA,HZ hA,sA hA];have hx:x=0\/x=1\/x=2\/x=3\/x=4\/x=5\/x=6\/x=7\/x=8\/x=9\/x=10\/x=11\/x=12\/x=13\/x=14\/x=15:=om
 rcases hx with rfl|rfl|rfl|rfl|rfl|rfl|rfl|rfl|rfl|rfl|rfl|rfl|rfl|rfl|rfl|rfl<;>rfl
theorem IB{x:Int}(h0:0<=x)(h1:x<16){h:af}(ar:h.low<=h.next){Q:Value->af->Prop}(hQ:∀v:Int,v=(Ext.bl 4 x.toNat).length->Q (.int .i64 v) h):call 70 [.int .u64 x] h Q:=by
 refine hA.aO Tryz.func70 x70.2 (hA.alike _ _ _ rfl) ar (zc ?_);refine Kh hA h0 h1 ar (fun v ev=>⟨v,rfl,?_⟩);refine zq ?_;exact hQ v ev
theorem jE{h0 h:af}{b s:Nat}{M:Nat->Nat->Int}(t:Sq h0 h b s M){S:Int}(eS:S=s):rd h b (bZ 0 0) 1 [.int .i64 S]:=PQ hA (by rw[eS];exact t.size)
theorem tU{h0 h:af}{b s:Nat}{M:Nat->Nat->Int}(t:Sq h0 h b s M){i j:Nat}(hi:i<4)(hj:j<4){I J v:Int}(eI:I=i)(eJ:J=j)(ev:v=M i j):rd h b (place (place (bZ 0 1) I 4) J 1) 1 [.int .i64 v]:=by
 rw[Ce hA,fZ hA,fZ hA,dj hA,eI,eJ,ev];exact t.el hi hj
theorem Nv{h0 h:af}{b s:Nat}{M:Nat->Nat->Int}(t:Sq h0 h b s M){i:Nat}(hi:i<4){I:Int}(eI:I=i):rd h b (place (bZ 0 1) I 4) 4 [.int .i64 (M i 0),.int .i64 (M i 1),.int .i64 (M i 2),.int .i64 (M i 3)]:=by
 rw[Ce hA,fZ hA,dj hA,eI];exact t.row hi
theorem CB{h0 h:af}{b s:Nat}{M:Nat->Nat->Int}(t:Sq h0 h b s M){i j:Nat}(hi:i<4)(hj:j<4){I J v:Int}(eI:I=i)(eJ:J=j):∃h',wr h b (place (place (bZ 0 1) I 4) J 1) [.int .i64 v] h'/\Sq h0 h' b s (tO M i j v)/\ku h h' b:=by
 obtain⟨h',w1,w2,w3⟩:=t.set hi hj v;refine⟨h',?_,w2,w3⟩;rw[Ms hA,fZ hA,fZ hA,dj hA,eI,eJ];exact w1
theorem Bg{h0 h:af}{b s:Nat}{M:Nat->Nat->Int}(t:Sq h0 h b s M){i:Nat}(hi:i<4){I:Int}(eI:I=i)(w:Nat->Int){a0 a1 a2 a3:Int}(e0:a0=w 0)(e1:a1=w 1)(e2:a2=w 2)(e3:a3=w 3):∃h',wr h b (place (bZ 0 1) I 4) [.int .i64 a0,.int .i64 a1,.int .i64 a2,.int .i64 a3] h'/\Sq h0 h' b s (Tz M i w)/\ku h h' b:=by
 obtain⟨h',w1,w2,w3⟩:=t.setRow hi w;refine⟨h',?_,w2,w3⟩;rw[Ms hA,fZ hA,dj hA,eI,e0,e1,e2,e3];exact w1
theorem Qh{h0:af}{b s k i:Nat}{M:Nat->Nat->Int}(hs:s<=4)(hi:i<s){K I S:Int}(eK:K=k)(eI:I=i)(eS:S=s){c0 c1:Int}{Q:Exit->SS->Prop}
  (Nx:∀(j:Nat) (J:Int) (h':af),k<=j->j<s->J=j->M i j≠0->Sq h0 h' b s M->Q .ret ⟨[(5,.bool true),(37,.agg #[.int .i64 I,.int .i64 J]),(36,.int .i64 J),(35,.int .i64 I),(4,.pointer (some ⟨0,0,some 0⟩)),(6,.int .i64 I),(7,.int .i64 J)],1,[(0,[.int .i64 I,.int .i64 J]),(0,[.int .i64 c0,.int .i64 c1])],h'⟩)
  (FR:∀(h':af),(∀j,k<=j->j<s->M i j=0)->Sq h0 h' b s M->Q (.exit 2) ⟨[(0,.pointer (some ⟨b,0,none⟩)),(1,.int .i64 K),(4,.pointer (some ⟨0,0,some 0⟩)),(6,.int .i64 I)],1,[(0,[.int .i64 c0,.int .i64 c1])],h'⟩) :
  ∀(d j:Nat) (J:Int) (h:af),s-j<=d->k<=j->j<=s->J=j->(∀x,k<=x->x<j->M i x=0)->Sq h0 h b s M->
   head 87 5 1 ⟨[(0,.pointer (some ⟨b,0,none⟩)),(1,.int .i64 K),(4,.pointer (some ⟨0,0,some 0⟩)),(6,.int .i64 I),(7,.int .i64 J)],1,[(0,[.int .i64 c0,.int .i64 c1])],h⟩ Q:=by
 intro d
 induction d with
 |zero=>
  intro j J h hd kj hj eJ hz t;have r1:=jE hA t eS;refine hA.au Tryz.func87 x87.2 (zc ?_);refine zq ?_;refine br (J<S) (by rw[aA hA]) (fun q=>om) (fun _=>?_)<;>refine zc ?_;exact FR h (fun x x0 x1=>hz x x0 om) t
 |succ d ih=>
 intro j J h hd kj hj eJ hz t;have r1:=jE hA t eS;by_cases cj:j<s
 rotate_left
 ·refine hA.au Tryz.func87 x87.2 (zc ?_)
  refine zq ?_;refine br (J<S) (by rw[aA hA]) (fun q=>om) (fun _=>?_)<;>refine zc ?_;exact FR h (fun x x0 x1=>hz x x0 om) t
 obtain⟨v,ev⟩:∃z,z=M i j:=⟨_,rfl⟩;have r2:=tU hA t (i:=i) (j:=j) om om eI eJ ev;refine hA.au Tryz.func87 x87.2 (zc ?_);refine zq ?_;refine br (J<S) (by rw[aA hA]) (fun _=>?_) (fun q=>om)<;>refine zc ?_;refine zq ?_;refine br (v≠0) (by rw[bR hA]) (fun c=>?_) (fun c=>?_)<;>refine zc ?_
 ·refine zq ?_
  exact Nx j J h kj cj eJ (by rw[<-ev];exact c) t
 refine zq ?_;rw[aG hA om om];refine ih (j+1) (J+1) h om om om om (fun x x0 x1=>?_) t;by_cases e:x=j
 ·rw[e,<-ev];omega
 ·exact hz x x0 om
theorem Ny{h0:af}{b s k:Nat}{M:Nat->Nat->Int}(hs:s<=4){K S:Int}(eK:K=k)(eS:S=s){c0 c1:Int}{Q:Exit->SS->Prop}
  (Nx:∀(i j:Nat) (I J:Int) (h':af),k<=i->i<s->k<=j->j<s->I=i->J=j->M i j≠0->Sq h0 h' b s M->Q .ret ⟨[(5,.bool true),(37,.agg #[.int .i64 I,.int .i64 J]),(36,.int .i64 J),(35,.int .i64 I),(4,.pointer (some ⟨0,0,some 0⟩)),(6,.int .i64 I),(7,.int .i64 J)],1,[(0,[.int .i64 I,.int .i64 J]),(0,[.int .i64 c0,.int .i64 c1])],h'⟩)
  (FR:∀(h':af),(∀i j,k<=i->i<s->k<=j->j<s->M i j=0)->Sq h0 h' b s M->Q (.exit 0) ⟨[(4,.pointer (some ⟨0,0,some 0⟩))],1,[(0,[.int .i64 c0,.int .i64 c1])],h'⟩) :
  ∀(d i:Nat) (I:Int) (h:af),s-i<=d->k<=i->i<=s->I=i->(∀x j,k<=x->x<i->k<=j->j<s->M x j=0)->Sq h0 h b s M->
   head 87 2 1 ⟨[(0,.pointer (some ⟨b,0,none⟩)),(1,.int .i64 K),(4,.pointer (some ⟨0,0,some 0⟩)),(6,.int .i64 I)],1,[(0,[.int .i64 c0,.int .i64 c1])],h⟩ Q:=by
 intro d
 induction d with
 |zero=>
  intro i I h hd ki hi eI hz t;have r1:=jE hA t eS;refine hA.au Tryz.func87 x87.2 (zc ?_);refine zq ?_;refine br (I<S) (by rw[aA hA]) (fun q=>om) (fun _=>?_)<;>refine zc ?_;exact FR h (fun x j x0 x1=>hz x j x0 om) t
 |succ d ih=>
 intro i I h hd ki hi eI hz t;have r1:=jE hA t eS;by_cases ci:i<s
 rotate_left
 ·refine hA.au Tryz.func87 x87.2 (zc ?_)
  refine zq ?_;refine br (I<S) (by rw[aA hA]) (fun q=>om) (fun _=>?_)<;>refine zc ?_;exact FR h (fun x j x0 x1=>hz x j x0 om) t
 refine hA.au Tryz.func87 x87.2 (zc ?_);refine zq ?_;refine br (I<S) (by rw[aA hA]) (fun _=>?_) (fun q=>om)<;>refine zc ?_;refine zq ?_;refine Qh hA hs ci eK eI eS (fun j J h' j0 j1 eJ nz t'=>?_) (fun h' SM t'=>?_) (s-k) k K h om om om eK (fun x x0 x1=>om) t
 ·exact Nx i j I J h' ki ci j0 j1 eI eJ nz t'
 refine zq ?_;rw[aG hA om om];refine ih (i+1) (I+1) h' om om om om (fun x j x0 x1 j0 j1=>?_) t';by_cases e:x=i
 ·rw[e];exact SM j j0 j1
 ·exact hz x j x0 om j0 j1
theorem Qi{h0 h:af}(ar:h.low<=h.next){b s k:Nat}{M:Nat->Nat->Int}(t:Sq h0 h b s M)(hs:s<=4)(hk:k<=s){K:Int}(eK:K=k){Q:Value->af->Prop}
  (Nx:∀(i j:Nat) (I J:Int) (h':af),k<=i->i<s->k<=j->j<s->I=i->J=j->M i j≠0->Sq h0 h' b s M->Q (.tuple #[.agg #[.int .i64 I,.int .i64 J],.bool true]) h')
  (FR:∀(h':af),(∀i j,k<=i->i<s->k<=j->j<s->M i j=0)->Sq h0 h' b s M->Q (.tuple #[.agg #[.int .i64 0,.int .i64 0],.bool false]) h') :
  call 87 [.pointer (some ⟨b,0,none⟩),.int .i64 K] h Q:=by
 obtain⟨S,eS⟩:∃z:Int,z=s:=⟨_,rfl⟩;refine hA.aO Tryz.func87 x87.2 (hA.alike _ _ _ rfl) ar (zc ?_);refine Ny hA (h0:=h0) hs eK eS (fun i j I J h' i0 i1 j0 j1 eI eJ nz t'=>?_) (fun h' hz t'=>?_) (s-k) k K h om om hk eK (fun x j x0 x1=>om) t
 ·refine zq ?_
  exact Nx i j I J h' i0 i1 j0 j1 eI eJ nz t'
 ·refine zq ?_
  exact FR h' hz t'
theorem EO{h0 h:af}(ar:h.low<=h.next){b s x y:Nat}{M:Nat->Nat->Int}(t:Sq h0 h b s M)(hx:x<4)(hy:y<4){X Y:Int}(eX:X=x)(eY:Y=y){Q:Value->af->Prop}
  (hQ:∀h',Sq h0 h' b s (fun i j=>M (Ext.sw x y i) j)->kA h h' b->Q (.tuple #[]) h') :
  call 85 [.pointer (some ⟨b,0,none⟩),.int .i64 X,.int .i64 Y] h Q:=by
 obtain⟨h9,Bh⟩:∃z,z=aH h 24:=⟨_,rfl⟩;have x9:Ext h h9:=by rw[Bh];exact aw hA _ _
 have t9:=t.more x9;have r1:=Nv hA t9 hx eX;have r2:=Nv hA t9 hy eY;obtain⟨x0,ex0⟩:∃z,z=M x 0:=⟨_,rfl⟩;obtain⟨x1,Qj⟩:∃z,z=M x 1:=⟨_,rfl⟩;obtain⟨x2,OX⟩:∃z,z=M x 2:=⟨_,rfl⟩;obtain⟨x3,WO⟩:∃z,z=M x 3:=⟨_,rfl⟩;obtain⟨y0,ey0⟩:∃z,z=M y 0:=⟨_,rfl⟩;obtain⟨y1,WQ⟩:∃z,z=M y 1:=⟨_,rfl⟩;obtain⟨y2,WS⟩:∃z,z=M y 2:=⟨_,rfl⟩;obtain⟨y3,ey3⟩:∃z,z=M y 3:=⟨_,rfl⟩;rw[<-ex0,<-Qj,<-OX,<-WO]at r1;rw[<-ey0,<-WQ,<-WS,<-ey3]at r2;obtain⟨h1,w1,t1,v1⟩:=Bg hA t9 hx eX (M y) ey0 WQ WS ey3;obtain⟨h2,w2,t2,v2⟩:=Bg hA t1 hy eY (M x) ex0 Qj OX WO;refine hA.aO Tryz.func85 x85.2 (hA.alike _ _ _ rfl) ar (zc ?_);rw[<-Bh];refine zq ?_;refine hQ h2 (t2.congr (fun i j hi hj=>?_)) ((((kA.refl h b).ext x9).wrote v1).wrote v2);unfold Tz Ext.sw;by_cases c:i=y
 ·rw[if_pos c]
  by_cases d:i=x
  ·rw[if_pos d,<-c,<-d]
  ·rw[if_neg d,if_pos c]
 ·rw[if_neg c]
  by_cases d:i=x
  ·rw[if_pos d,if_pos d]
  ·rw[if_neg d,if_neg d,if_neg c]
def UU(M:Nat->Nat->Int)(x y n:Nat):Nat->Nat->Int:=fun i j=>if i<n then M i (Ext.sw x y j)else M i j
theorem Au{h0:af}{b s x y:Nat}{M:Nat->Nat->Int}(hx:x<4)(hy:y<4){X Y:Int}(eX:X=x)(eY:Y=y){Q:Exit->SS->Prop}
  (hQ:∀h',Sq h0 h' b s (fun i j=>M i (Ext.sw x y j))->Q (.exit 0) ⟨[],0,[],h'⟩) :
  ∀(d i:Nat) (I:Int) (h:af),4-i<=d->i<=4->I=i->Sq h0 h b s (UU M x y i)->
   head 86 1 0 ⟨[(0,.pointer (some ⟨b,0,none⟩)),(1,.int .i64 X),(2,.int .i64 Y),(7,.int .i64 I)],0,[],h⟩ Q:=by
 refine o8 (fun d ih=>?_);intro i I h hd hi eI t;by_cases ci:i<4
 rotate_left
 ·refine hA.au Tryz.func86 Gy (zc ?_)
  refine br (I<4) (by rw[aA hA]) (fun q=>om) (fun _=>?_)<;>refine zc ?_;exact hQ h (t.congr (fun i' j zZ hj=>by unfold UU;rw[if_pos om]))
 obtain⟨d,rfl⟩:∃k,d=k+1:=⟨d-1,om⟩
 replace ih:=ih d rfl
 obtain⟨h9,Bh⟩:∃z,z=aH h 32:=⟨_,rfl⟩;have t9:=t.more (show Ext h h9 by rw[Bh];exact aw hA _ _);obtain⟨u,eu⟩:∃z,z=UU M x y i i x:=⟨_,rfl⟩;obtain⟨v,ev⟩:∃z,z=UU M x y i i y:=⟨_,rfl⟩;have r1:=tU hA t9 ci hx eI eX eu;have r2:=tU hA t9 ci hy eI eY ev;obtain⟨h1,w1,t1,_⟩:=CB hA t9 ci hx eI eX (v:=v);obtain⟨h2,w2,t2,_⟩:=CB hA t1 ci hy eI eY (v:=u);refine hA.au Tryz.func86 Gy (zc ?_);refine br (I<4) (by rw[aA hA]) (fun _=>?_) (fun q=>om)<;>refine zc ?_;rw[<-Bh];refine zq ?_;rw[aG hA om om];refine ih (i+1) (I+1) h2 om om om (t2.congr (fun i' j zZ hj=>?_));rw[eu,ev];unfold tO UU Ext.sw;by_cases c:i'=i
 ·subst c
  simp only[Nat.lt_irrefl,if_false,true_and,Nat.lt_succ_self,if_true];by_cases c1:j=y
  ·rw[if_pos c1]
   by_cases c2:j=x
   ·rw[if_pos c2,<-c1,<-c2]
   ·rw[if_neg c2,if_pos c1]
  ·rw[if_neg c1]
   by_cases c2:j=x
   ·rw[if_pos c2,if_pos c2]
   ·rw[if_neg c2,if_neg c2,if_neg c1]
 ·rw[if_neg om,if_neg om]
  by_cases c1:i'<i
  ·rw[if_pos c1,if_pos (show i'<i+1 by omega)]
  ·rw[if_neg c1,if_neg (show ¬i'<i+1 by omega)]
theorem EP{h0 h:af}(ar:h.low<=h.next){b s x y:Nat}{M:Nat->Nat->Int}(t:Sq h0 h b s M)(hx:x<4)(hy:y<4){X Y:Int}(eX:X=x)(eY:Y=y){Q:Value->af->Prop}
  (hQ:∀h',Sq h0 h' b s (fun i j=>M i (Ext.sw x y j))->Q (.tuple #[]) h') :
  call 86 [.pointer (some ⟨b,0,none⟩),.int .i64 X,.int .i64 Y] h Q:=by
 refine hA.aO Tryz.func86 Gy (hA.alike _ _ _ rfl) ar (zc ?_);refine Au hA hx hy eX eY (fun h' t'=>?_) 4 0 0 h om om rfl (t.congr (fun i j hi hj=>by unfold UU;rw[if_neg om]));refine zq ?_;exact hQ h' t'
theorem WT{h0:af}{b s k i:Nat}{C:Nat->Nat->Int}{last:Int}(hs:s<=4)(hk:k<i)(hi:i<s){K I S:Int}(eK:K=k)(eI:I=i)(eS:S=s)(hb:∀x y,k<=x->x<s->k<=y->y<s->(C x y).natAbs<=157464)(lz:last≠0){Q:Exit->SS->Prop}
  (hQ:∀(h':af),Sq h0 h' b s (Be s C k last i s)->Q (.exit 4) ⟨[(0,.pointer (some ⟨b,0,none⟩)),(3,.func (.func 85) #[.pointer (some ⟨b,0,none⟩)] #[]),(4,.func (.func 86) #[.pointer (some ⟨b,0,none⟩)] #[]),(5,.int .i64 last),(6,.int .i64 K),(9,.int .i64 I),(18,.int .i64 S),(19,.int .i64 K)],0,[],h'⟩) :
  ∀(d j:Nat) (J:Int) (h:af),s-j<=d->k<j->j<=s->J=j->Sq h0 h b s (Be s C k last i j)->
   head 72 16 0 ⟨[(0,.pointer (some ⟨b,0,none⟩)),(3,.func (.func 85) #[.pointer (some ⟨b,0,none⟩)] #[]),(4,.func (.func 86) #[.pointer (some ⟨b,0,none⟩)] #[]),(5,.int .i64 last),(6,.int .i64 K),(9,.int .i64 I),(10,.int .i64 J),(18,.int .i64 S),(19,.int .i64 K)],0,[],h⟩ Q:=by
 intro d
 induction d with
 |zero=>
  intro j J h hd kj hj eJ t;have r1:=jE hA t eS;refine hA.au Tryz.func72 ow (zc ?_);refine zq ?_;refine br (J<S) (by rw[aA hA]) (fun q=>om) (fun _=>?_)<;>refine zc ?_;obtain rfl:j=s:=om
  exact hQ h t
 |succ d ih=>
 intro j J h hd kj hj eJ t;have r1:=jE hA t eS;by_cases cj:j<s
 rotate_left
 ·refine hA.au Tryz.func72 ow (zc ?_)
  refine zq ?_;refine br (J<S) (by rw[aA hA]) (fun q=>om) (fun _=>?_)<;>refine zc ?_;obtain rfl:j=s:=om
  exact hQ h t
 obtain⟨h9,Bh⟩:∃z,z=aH h 45:=⟨_,rfl⟩;have t9:=t.more (show Ext h h9 by rw[Bh];exact aw hA _ _);obtain⟨p,ep⟩:∃z,z=C k k:=⟨_,rfl⟩;obtain⟨v,ev⟩:∃z,z=C i j:=⟨_,rfl⟩;obtain⟨u,eu⟩:∃z,z=C i k:=⟨_,rfl⟩;obtain⟨w,ew⟩:∃z,z=C k j:=⟨_,rfl⟩;have bp:=hb k k om om om om;have bv:=hb i j om om om om;have bu:=hb i k om om om om;have bw:=hb k j om om om om;rw[<-ep]at bp;rw[<-ev]at bv;rw[<-eu]at bu;rw[<-ew]at bw;have r2:=tU hA t9 (i:=k) (j:=k) om om eK eK (v:=p) (by unfold Be;rw[if_neg om,ep]);have r3:=tU hA t9 (i:=i) (j:=j) om om eI eJ (v:=v) (by unfold Be;rw[if_neg om,ev]);have r4:=tU hA t9 (i:=i) (j:=k) om om eI eK (v:=u) (by unfold Be;rw[if_neg om,eu]);have r5:=tU hA t9 (i:=k) (j:=j) om om eK eJ (v:=w) (by unfold Be;rw[if_neg om,ew]);have b1:=Ext.jW bp bv;have b2:=Ext.jW bu bw;obtain⟨x1,Qj⟩:∃z,z=p*v:=⟨_,rfl⟩;obtain⟨x2,OX⟩:∃z,z=u*w:=⟨_,rfl⟩;rw[<-Qj]at b1;rw[<-OX]at b2;have m1:arith .mul .i64 p v=x1:=by rw[Qj];exact jg hA om om
 have m2:arith .mul .i64 u w=x2:=by rw[OX];exact jg hA om om
 obtain⟨x3,WO⟩:∃z,z=x1-x2:=⟨_,rfl⟩;have m3:arith .sub .i64 x1 x2=x3:=by rw[WO];exact bN hA om om
 obtain⟨g,eg⟩:∃z,z=x3.tdiv last:=⟨_,rfl⟩;have m4:arith .quo .i64 x3 last=g:=by
  rw[A3 hA,<-eg];have:=Int.natAbs_tdiv_le_natAbs x3 last;rw[<-eg]at this;exact wrap64 om om
 obtain⟨h2,w1,t2,_⟩:=CB hA t9 (i:=i) (j:=j) om om eI eJ (v:=g);refine hA.au Tryz.func72 ow (zc ?_);refine zq ?_;refine br (J<S) (by rw[aA hA]) (fun _=>?_) (fun q=>om)<;>refine zc ?_;rw[<-Bh]
 (refine zq ?_;repeat ((first|rw[m1]|rw[m2]|rw[m3]|rw[m4]);refine zq ?_))
 rw[aG hA om om];refine ih (j+1) (J+1) h2 om om om om (t2.congr (fun x y hx hy=>?_));unfold tO Be;by_cases c:x=i/\y=j
 ·rw[if_pos c,if_pos om,eg,WO,Qj,OX,ep,ev,eu,ew,c.1,c.2]
 ·rw[if_neg c]
  by_cases c2:k<x/\k<y/\y<s/\(x<i\/x=i/\y<j)
  ·rw[if_pos c2,if_pos om]
  ·rw[if_neg c2,if_neg om]
theorem Nz{h0:af}{b s k:Nat}{C:Nat->Nat->Int}{last:Int}(hs:s<=4)(hk:k<s){K S:Int}(eK:K=k)(eS:S=s)(hb:∀x y,k<=x->x<s->k<=y->y<s->(C x y).natAbs<=157464)(lz:last≠0){Q:Exit->SS->Prop}
  (hQ:∀(h':af),Sq h0 h' b s (Be s C k last s (k+1))->Q (.exit 2) ⟨[(0,.pointer (some ⟨b,0,none⟩)),(3,.func (.func 85) #[.pointer (some ⟨b,0,none⟩)] #[]),(4,.func (.func 86) #[.pointer (some ⟨b,0,none⟩)] #[]),(6,.int .i64 K),(18,.int .i64 S),(19,.int .i64 K)],0,[],h'⟩) :
  ∀(d i:Nat) (I:Int) (h:af),s-i<=d->k<i->i<=s->I=i->Sq h0 h b s (Be s C k last i (k+1))->
   head 72 13 0 ⟨[(0,.pointer (some ⟨b,0,none⟩)),(3,.func (.func 85) #[.pointer (some ⟨b,0,none⟩)] #[]),(4,.func (.func 86) #[.pointer (some ⟨b,0,none⟩)] #[]),(5,.int .i64 last),(6,.int .i64 K),(9,.int .i64 I),(18,.int .i64 S),(19,.int .i64 K)],0,[],h⟩ Q:=by
 intro d
 induction d with
 |zero=>
  intro i I h hd ki hi eI t;have r1:=jE hA t eS;refine hA.au Tryz.func72 ow (zc ?_);refine zq ?_;refine br (I<S) (by rw[aA hA]) (fun q=>om) (fun _=>?_)<;>refine zc ?_;obtain rfl:i=s:=om
  exact hQ h t
 |succ d ih=>
 intro i I h hd ki hi eI t;have r1:=jE hA t eS;by_cases ci:i<s
 rotate_left
 ·refine hA.au Tryz.func72 ow (zc ?_)
  refine zq ?_;refine br (I<S) (by rw[aA hA]) (fun q=>om) (fun _=>?_)<;>refine zc ?_;obtain rfl:i=s:=om
  exact hQ h t
 refine hA.au Tryz.func72 ow (zc ?_);refine zq ?_;refine br (I<S) (by rw[aA hA]) (fun _=>?_) (fun q=>om)<;>refine zc ?_;refine zq ?_;rw[aG hA om om];refine WT hA hs ki ci eK eI eS hb lz (fun h' t'=>?_) (s-(k+1)) (k+1) (K+1) h om om om om t;refine zq ?_;rw[aG hA om om];exact ih (i+1) (I+1) h' om om om om (t'.congr (fun x y _ _=>Qg s C k last i x y))
theorem ES{h0 h' X:af}{b s nb:Nat}{C:Nat->Nat->Int}(t:Sq h0 h' b s C)(eX:X=push h' 2 [.int .i64 0,.int .i64 0])(en:nb=next h')(I J:Int):∃h2,wr X nb 0 [.int .i64 I,.int .i64 J] h2/\Sq h0 h2 b s C/\ct h2 nb 2 [.int .i64 I,.int .i64 J]/\nb<h2.next:=by
 rw[dy hA]at eX;rw[cX hA]at en;subst eX en;obtain⟨h2,w1,w2,w3⟩:=(ct.push h' 2 [.int .i64 0,.int .i64 0]).write (o:=0) (vs:=[.int .i64 I,.int .i64 J]) (by show 0+2<=2;omega);have t1:=t.more (Ext.push h' 2 [.int .i64 0,.int .i64 0]);have dW:=t.lt;have n1:h2.next=h'.next+1:=w3.next;refine⟨h2,kP hA w1,⟨w3.ext t1.ext t.ext.next,w3.own t1.own om,t.cI,om⟩,w2,om⟩
set_option maxHeartbeats 1000000 in
theorem Qk{h0:af}(dE:h0.low<=h0.next){b s:Nat}{P:Nat->Nat->Int}(hs:s<=4){S:Int}(eS:S=s){Q:Exit->SS->Prop}
  (iu:∀h' env kn T,(Ext.dt s P).natAbs=0->Ext h0 h'->Q .ret ⟨(2,.int .i64 0) :: env,kn,T,h'⟩)
  (hQ:∀(h':af) (last:Int),last.natAbs=(Ext.dt s P).natAbs->last.natAbs<=157464->Ext h0 h'->Q (.exit 0) ⟨[(5,.int .i64 last)],0,[],h'⟩) :
  ∀(d k:Nat) (K last:Int) (h:af) (C:Nat->Nat->Int),s-k<=d->k<=s->K=k->Ext.Bi s P k last C->Sq h0 h b s C->
   head 72 4 0 ⟨[(0,.pointer (some ⟨b,0,none⟩)),(3,.func (.func 85) #[.pointer (some ⟨b,0,none⟩)] #[]),(4,.func (.func 86) #[.pointer (some ⟨b,0,none⟩)] #[]),(5,.int .i64 last),(18,.int .i64 S),(19,.int .i64 K)],0,[],h⟩ Q:=by
 refine o8 (fun d ih=>?_);intro k K last h C hd hk eK B t;by_cases ck:k<s
 rotate_left
 ·refine hA.au Tryz.func72 ow (zc ?_)
  refine br (K<S) (by rw[aA hA]) (fun q=>om) (fun _=>?_)<;>refine zc ?_;obtain rfl:k=s:=om
  exact hQ h last B.fin (B.last (Nat.le_refl _)).1 t.ext
 obtain⟨d,rfl⟩:∃k,d=k+1:=⟨d-1,om⟩
 replace ih:=ih d rfl
 refine hA.au Tryz.func72 ow (zc ?_);refine br (K<S) (by rw[aA hA]) (fun _=>?_) (fun q=>om)<;>refine zc ?_;refine zq ?_;refine Qi hA (t.ext.aD dE) t hs hk eK (fun i j I J h' i0 i1 j0 j1 eI eJ nz t'=>⟨_,_,_,rfl,?_⟩) (fun h' hz t'=>⟨_,_,_,rfl,?_⟩)
 ·obtain⟨nb,Fs⟩:∃z,z=next h':=⟨_,rfl⟩
  obtain⟨X,eX⟩:∃z,z=push h' 2 [.int .i64 0,.int .i64 0]:=⟨_,rfl⟩;obtain⟨h2,w1,t2,Ql,n2⟩:=ES hA t' eX Fs I J;have r2:=jf hA (Ql.aN (o:=0) (n:=2) (by show 0+2<=2;omega));have r3:rd h2 nb (place 0 0 1) 1 [.int .i64 I]:=aE hA (Ql.aN (o:=0+(0:Int).toNat*1) (n:=1) (by show 0+0*1+1<=2;omega));refine zc ?_;rw[<-eX,<-Fs];refine zq ?_;rw[show fD true=false by rw[cB hA];rfl];refine zq ?_;rw[mI hA];obtain⟨r,er,hr⟩:=eqP I J K K;refine⟨TA,r,er,?_⟩;refine zc ?_;refine br (¬(I=K/\J=K)) (by rw[cB hA];cases r<;>simp_all) (fun c=>?_) (fun c=>?_)<;>refine zc ?_
  ·refine zq ?_
   refine EO hA (t2.ext.aD dE) t2 (show k<4 by omega) (show i<4 by omega) eK eI (fun h3 t3 o3=>?_);have aak:=Ql.gQ (o3.get nb n2 (by have:=t'.lt;rw[Fs,cX hA];omega));have r4:rd h3 nb (place 0 1 1) 1 [.int .i64 J]:=aE hA (aak.aN (o:=0+(1:Int).toNat*1) (n:=1) (by show 0+1*1+1<=2;omega));refine zq ?_;refine EP hA (t3.ext.aD dE) t3 (show k<4 by omega) (show j<4 by omega) eK eJ (fun h4 t4=>?_);obtain⟨C1,TC⟩:∃z:Nat->Nat->Int,z=fun x y=>C (Ext.sw k i x) (Ext.sw k j y):=⟨_,rfl⟩
   have t1:Sq h0 h4 b s C1:=by rw[TC];exact t4
   have B1:Ext.Bi s P k last C1:=by rw[TC];exact B.swap ck i0 i1 j0 j1
   have nz1:C1 k k≠0:=by
    rw[TC];show C (Ext.sw k i k) (Ext.sw k j k)≠0;unfold Ext.sw;rw[if_pos rfl,if_pos rfl];exact nz
   refine zq ?_;rw[aG hA om om];refine Nz hA hs ck eK eS (fun x y x0 x1 y0 y1=>B1.le hk x0 x1 y0 y1) (B.last hk).2 (fun h5 t5=>?_) (s-(k+1)) (k+1) (K+1) _ om om om om (t1.congr (fun x y _ _=>(Bf s C1 k last x y).symm));obtain⟨p,ep⟩:∃z,z=C1 k k:=⟨_,rfl⟩;have r5:=tU hA t5 (i:=k) (j:=k) om om eK eK (v:=p) (by unfold Be;rw[if_neg om,ep]);have B2:=B1.step hs ck nz1 (D:=Be s C1 k last s (k+1)) (fun x y x0 x1 y0 y1=>by unfold Be;rw[if_pos om]);rw[<-ep]at B2;refine zq ?_;rw[aG hA om om];exact ih (k+1) (K+1) p h5 _ om om om B2 t5
  ·obtain⟨C1,TC⟩:∃z:Nat->Nat->Int,z=C:=⟨_,rfl⟩
   have t1:Sq h0 h2 b s C1:=by rw[TC];exact t2
   have B1:Ext.Bi s P k last C1:=by rw[TC];exact B
   have nz1:C1 k k≠0:=by
    have:I=K/\J=K:=Classical.byContradiction c;rw[TC];rw[show i=k by omega,show j=k by omega]at nz;exact nz
   refine zq ?_;rw[aG hA om om];refine Nz hA hs ck eK eS (fun x y x0 x1 y0 y1=>B1.le hk x0 x1 y0 y1) (B.last hk).2 (fun h5 t5=>?_) (s-(k+1)) (k+1) (K+1) _ om om om om (t1.congr (fun x y _ _=>(Bf s C1 k last x y).symm));obtain⟨p,ep⟩:∃z,z=C1 k k:=⟨_,rfl⟩;have r5:=tU hA t5 (i:=k) (j:=k) om om eK eK (v:=p) (by unfold Be;rw[if_neg om,ep]);have B2:=B1.step hs ck nz1 (D:=Be s C1 k last s (k+1)) (fun x y x0 x1 y0 y1=>by unfold Be;rw[if_pos om]);rw[<-ep]at B2;refine zq ?_;rw[aG hA om om];exact ih (k+1) (K+1) p h5 _ om om om B2 t5
 ·obtain⟨nb,Fs⟩:∃z,z=next h':=⟨_,rfl⟩
  obtain⟨X,eX⟩:∃z,z=push h' 2 [.int .i64 0,.int .i64 0]:=⟨_,rfl⟩;obtain⟨h2,w1,t2,Ql,n2⟩:=ES hA t' eX Fs 0 0;refine zc ?_;rw[<-eX,<-Fs];refine zq ?_;rw[show fD false=true by rw[cB hA];rfl];refine zq ?_;exact iu h2 _ _ _ (B.none hs ck hz) t2.ext
theorem G1{h0 h:af}(dE:h0.low<=h0.next){b s:Nat}{M:Nat->Nat->Int}(t:Sq h0 h b s M)(hs:s<=4)(h9:∀i j,i<s->j<s->(M i j).natAbs<=9){Q:Value->af->Prop}
  (hQ:∀(v:Int) h',v=((Ext.dt s M).natAbs:Int)->v<=157464->Ext h0 h'->Q (.int .i64 v) h'):call 72 [.pointer (some ⟨b,0,none⟩)] h Q:=by
 have ar:=t.ext.aD dE;obtain⟨S,eS⟩:∃z:Int,z=s:=⟨_,rfl⟩;have r1:=jE hA t eS;refine hA.aO Tryz.func72 ow (hA.alike _ _ _ rfl) ar (zc ?_);refine zq ?_;refine Qk hA dE hs eS (fun h' env kn T z x=>?_) (fun h' last e e2 x=>?_) s 0 0 1 h M om om rfl (Ext.Bi.start h9) t
 ·refine zq ?_
  exact hQ 0 h' (by rw[z];rfl) om x
 ·obtain⟨v,ev⟩:∃z:Int,z=(last.natAbs:Int):=⟨_,rfl⟩
  have m1:imax last (neg .i64 last)=v:=by rw[Mt hA,vE hA,wrap64 om om];omega
  (refine zq ?_;repeat ((first|rw[m1]);refine zq ?_))
  exact hQ v h' (by rw[ev,e]) om x
theorem NA{h:af}{m ac k bc:Nat}{aa ba:Option Addr}{dk:List Hd}{g:List (List Int)}(hg:zm nC 1 h aa m dk g)(hm:m<=1000){M:Int}(eM:M=m){Q:Exit->SS->Prop}
  (iu:(∃i:Int,0<=i/\i<m/\4<(gt g i).length)->∀env,Q .ret ⟨(2,.int .i64 4) :: env,1,[(0,[.slice aa m ac,.slice ba k bc])],h⟩)
  (dr:(∀i:Int,0<=i->i<m->(gt g i).length<=4)->Q (.exit 0) ⟨[(1,.pointer (some ⟨0,0,some 0⟩))],1,[(0,[.slice aa m ac,.slice ba k bc])],h⟩) :
  ∀(d i:Nat) (I:Int),m-i<=d->i<=m->I=i->(∀j:Int,0<=j->j<i->(gt g j).length<=4)->
   head 25 4 1 ⟨[(1,.pointer (some ⟨0,0,some 0⟩)),(16,.slice aa m ac),(17,.int .i64 M),(18,.int .i64 I)],1,[(0,[.slice aa m ac,.slice ba k bc])],h⟩ Q:=by
 refine o8 (fun d ih=>?_);intro i I hd hi eI hp;by_cases ci:i<m
 rotate_left
 ·refine hA.au Tryz.func25 x25.2 (zc ?_)
  refine br (I<M) (by rw[aA hA]) (fun q=>om) (fun _=>?_)<;>refine zc ?_;exact dr (fun j j0 j1=>hp j j0 om)
 obtain⟨d,rfl⟩:∃k,d=k+1:=⟨d-1,om⟩
 replace ih:=ih d rfl
 obtain⟨b,o,rfl,hb,q1⟩:=hg.jJ (i:=I) om om;obtain⟨ra,era⟩:∃z,z=(gt dk I).a:=⟨_,rfl⟩;obtain⟨rn,Fy⟩:∃z,z=(gt dk I).n:=⟨_,rfl⟩;obtain⟨rc,sS⟩:∃z,z=(gt dk I).c:=⟨_,rfl⟩;rw[<-era,<-Fy,<-sS]at q1;have r1:rd h b (place o I 1) 1 [.slice ra rn rc]:=aE hA q1;have YB:(gt g I).length=rn:=by rw[Fy];exact hg.u5 om om
 obtain⟨R,eR⟩:∃z:Int,z=rn:=⟨_,rfl⟩;have e1:ofNat rn=R:=by rw[eR];exact aJ hA rn
 refine hA.au Tryz.func25 x25.2 (zc ?_);refine br (I<M) (by rw[aA hA]) (fun _=>?_) (fun q=>om)<;>refine zc ?_
 (refine zq ?_;repeat ((first|rw[e1]);refine zq ?_))
 refine br (4<R) (by rw[cS hA]) (fun c4=>?_) (fun c4=>?_)<;>refine zc ?_
 ·refine zq ?_
  exact iu ⟨I,om,om,om⟩ _
 refine zq ?_;rw[aG hA om om];exact ih (i+1) (I+1) om om om (fun j j0 j1=>by
  by_cases e:j=I
  ·rw[e];omega
  ·exact hp j j0 om)
theorem TD{h:af}{m ac k bc rn rc:Nat}{aa ba ra:Option Addr}{row:List Int}{J0 M:Int}(hr:0<rn->Rows nC 1 h ra rn row)(hn:rn<=1000){R:Int}(eR:R=rn){Q:Exit->SS->Prop}
  (iu:(∃j:Int,0<=j/\j<rn/\¬(-9<=gt row j/\gt row j<=9))->∀env,Q .ret ⟨(2,.int .i64 8) :: env,1,[(0,[.slice aa m ac,.slice ba k bc])],h⟩)
  (dr:(∀j:Int,0<=j->j<rn->-9<=gt row j/\gt row j<=9)->Q (.exit 4) ⟨[(1,.pointer (some ⟨0,0,some 0⟩)),(48,.slice aa m ac),(49,.int .i64 M),(50,.int .i64 J0)],1,[(0,[.slice aa m ac,.slice ba k bc])],h⟩) :
  ∀(d i:Nat) (I:Int),rn-i<=d->i<=rn->I=i->(∀j:Int,0<=j->j<i->-9<=gt row j/\gt row j<=9)->
   head 25 17 1 ⟨[(1,.pointer (some ⟨0,0,some 0⟩)),(48,.slice aa m ac),(49,.int .i64 M),(50,.int .i64 J0),(62,.slice ra rn rc),(63,.int .i64 R),(64,.int .i64 I)],1,[(0,[.slice aa m ac,.slice ba k bc])],h⟩ Q:=by
 refine o8 (fun d ih=>?_);intro i I hd hi eI hp;by_cases ci:i<rn
 rotate_left
 ·refine hA.au Tryz.func25 x25.2 (zc ?_)
  refine br (I<R) (by rw[aA hA]) (fun q=>om) (fun _=>?_)<;>refine zc ?_;exact dr (fun j j0 j1=>hp j j0 om)
 obtain⟨d,rfl⟩:∃k,d=k+1:=⟨d-1,om⟩
 replace ih:=ih d rfl
 obtain⟨b,o,rfl,hb,q1⟩:=(hr om).at (i:=I) om om;have q2:=q1 0 1 om om;obtain⟨x,ex⟩:∃z,z=gt row I:=⟨_,rfl⟩;rw[<-ex]at q2;have r1:rd h b (place o I 1) 1 [.int .i64 x]:=aE hA q2;refine hA.au Tryz.func25 x25.2 (zc ?_);refine br (I<R) (by rw[aA hA]) (fun _=>?_) (fun q=>om)<;>refine zc ?_;refine zq ?_;refine br (x < -9) (by rw[aA hA]) (fun c4=>?_) (fun c4=>?_)<;>refine zc ?_
 ·refine zq ?_
  exact iu ⟨I,om,om,om⟩ _
 refine zq ?_;refine br (9<x) (by rw[cS hA]) (fun c5=>?_) (fun c5=>?_)<;>refine zc ?_
 ·refine zq ?_
  exact iu ⟨I,om,om,om⟩ _
 refine zq ?_;rw[aG hA om om];exact ih (i+1) (I+1) om om om (fun j j0 j1=>by
  by_cases e:j=I
  ·rw[e,<-ex];omega
  ·exact hp j j0 om)
theorem Qm{h:af}{m ac k bc:Nat}{aa ba:Option Addr}{dk:List Hd}{g:List (List Int)}(hg:zm nC 1 h aa m dk g)(m0:0<m)(hm:m<=1000)(hl:∀i:Int,0<=i->i<m->(gt g i).length<=1000){M:Int}(eM:M=m){Q:Exit->SS->Prop}
  (iu:(∃i:Int,0<=i/\i<m/\¬((gt g i).length=(gt g 0).length/\∀j:Int,0<=j->j<(gt g i).length->-9<=gt (gt g i) j/\gt (gt g i) j<=9))->∀env,Q .ret ⟨(2,.int .i64 8) :: env,1,[(0,[.slice aa m ac,.slice ba k bc])],h⟩)
  (dr:(∀i:Int,0<=i->i<m->(gt g i).length=(gt g 0).length/\∀j:Int,0<=j->j<(gt g i).length->-9<=gt (gt g i) j/\gt (gt g i) j<=9)->Q (.exit 2) ⟨[(1,.pointer (some ⟨0,0,some 0⟩))],1,[(0,[.slice aa m ac,.slice ba k bc])],h⟩) :
  ∀(d i:Nat) (I:Int),m-i<=d->i<=m->I=i->(∀j:Int,0<=j->j<i->(gt g j).length=(gt g 0).length/\∀x:Int,0<=x->x<(gt g j).length->-9<=gt (gt g j) x/\gt (gt g j) x<=9)->
   head 25 12 1 ⟨[(1,.pointer (some ⟨0,0,some 0⟩)),(48,.slice aa m ac),(49,.int .i64 M),(50,.int .i64 I)],1,[(0,[.slice aa m ac,.slice ba k bc])],h⟩ Q:=by
 refine o8 (fun d ih=>?_);intro i I hd hi eI hp;by_cases ci:i<m
 rotate_left
 ·refine hA.au Tryz.func25 x25.2 (zc ?_)
  refine br (I<M) (by rw[aA hA]) (fun q=>om) (fun _=>?_)<;>refine zc ?_;exact dr (fun j j0 j1=>hp j j0 om)
 obtain⟨d,rfl⟩:∃k,d=k+1:=⟨d-1,om⟩
 replace ih:=ih d rfl
 obtain⟨b,o,rfl,hb,q1⟩:=hg.jJ (i:=I) om om;obtain⟨b',o',e',_,q0⟩:=hg.jJ (i:=0) om om;cases e';obtain⟨ra,era⟩:∃z,z=(gt dk I).a:=⟨_,rfl⟩;obtain⟨rn,Fy⟩:∃z,z=(gt dk I).n:=⟨_,rfl⟩;obtain⟨rc,sS⟩:∃z,z=(gt dk I).c:=⟨_,rfl⟩;obtain⟨sa,Ki⟩:∃z,z=(gt dk 0).a:=⟨_,rfl⟩;obtain⟨sn,NB⟩:∃z,z=(gt dk 0).n:=⟨_,rfl⟩;obtain⟨sc,NC⟩:∃z,z=(gt dk 0).c:=⟨_,rfl⟩;rw[<-era,<-Fy,<-sS]at q1;rw[<-Ki,<-NB,<-NC]at q0;have r1:rd h b (place o I 1) 1 [.slice ra rn rc]:=aE hA q1;have r0:rd h b (place o 0 1) 1 [.slice sa sn sc]:=aE hA q0;have row:=(hg.row I om om).2;rw[<-era,<-Fy]at row;have YB:(gt g I).length=rn:=by rw[Fy];exact hg.u5 om om
 have C0:(gt g 0).length=sn:=by rw[NB];exact hg.u5 om om
 have zN:=hl I om om;have dE:=hl 0 om om;obtain⟨R,eR⟩:∃z:Int,z=rn:=⟨_,rfl⟩;have e1:ofNat rn=R:=by rw[eR];exact aJ hA rn
 obtain⟨S,eS⟩:∃z:Int,z=sn:=⟨_,rfl⟩;have e2:ofNat sn=S:=by rw[eS];exact aJ hA sn
 refine hA.au Tryz.func25 x25.2 (zc ?_);refine br (I<M) (by rw[aA hA]) (fun _=>?_) (fun q=>om)<;>refine zc ?_
 (refine zq ?_;repeat ((first|rw[e1]|rw[e2]);refine zq ?_))
 refine br (R≠S) (by rw[bR hA]) (fun c4=>?_) (fun c4=>?_)<;>refine zc ?_
 ·refine zq ?_
  exact iu ⟨I,om,om,fun q=>c4 (by have:=q.1;omega)⟩ _
 (refine zq ?_;repeat ((first|rw[e1]);refine zq ?_))
 refine TD hA row om eR (fun c env=>?_) (fun c=>?_) rn 0 0 om om rfl (fun j j0 j1=>om)
 ·obtain⟨j,j0,j1,j2⟩:=c
  exact iu ⟨I,om,om,fun q=>j2 (q.2 j j0 om)⟩ env
 refine zq ?_;rw[aG hA om om];exact ih (i+1) (I+1) om om om (fun j j0 j1=>by
  by_cases e:j=I
  ·rw[e];exact⟨om,fun x x0 x1=>c x x0 om⟩
  ·exact hp j j0 om)
theorem ND{h0:af}(dE:h0.low<=h0.next){k bc:Nat}{ba:Option Addr}{B:List Fc}{cells:List Value}(hB:Rows fC 2 h0 ba k B)(hk:k<=1000)(hi:∀i:Int,0<=i->i<k->i64 (gt B i).n/\i64 (gt B i).d){K:Int}(eK:K=k){Q:Exit->SS->Prop}
  (iu:(∃i:Int,0<=i/\i<k/\¬(cH (gt B i)/\(gt B i).d<=60))->∀env kn T h',Ext h0 h'->Q .ret ⟨(2,.int .i64 8) :: env,kn,T,h'⟩)
  (dr:(∀i:Int,0<=i->i<k->cH (gt B i)/\(gt B i).d<=60)->∀kn T h',Ext h0 h'->Q (.exit 6) ⟨[],kn,T,h'⟩) :
  ∀(d i:Nat) (I:Int) (h:af),k-i<=d->i<=k->I=i->Ext h0 h->(∀j:Int,0<=j->j<i->cH (gt B j)/\(gt B j).d<=60)->
   head 25 24 1 ⟨[(77,.slice ba k bc),(78,.int .i64 K),(79,.int .i64 I)],1,[(0,cells)],h⟩ Q:=by
 refine o8 (fun d ih=>?_);intro i I h hd zZ eI x hp;by_cases ci:i<k
 rotate_left
 ·refine hA.au Tryz.func25 x25.2 (zc ?_)
  refine br (I<K) (by rw[aA hA]) (fun q=>om) (fun _=>?_)<;>refine zc ?_;exact dr (fun j j0 j1=>hp j j0 om) _ _ h x
 obtain⟨d,rfl⟩:∃k,d=k+1:=⟨d-1,om⟩
 replace ih:=ih d rfl
 have ar:h.low<=h.next:=x.aD dE;obtain⟨b,o,rfl,hb,q1⟩:=(hB.ext x).at (i:=I) om om;have q2:=q1 0 2 om om;obtain⟨y,ey⟩:∃z,z=gt B I:=⟨_,rfl⟩;obtain⟨i1,i2⟩:=hi I om om;rw[<-ey]at q2 i1 i2;obtain⟨yn,yd⟩:=y;have r1:rd h b (place o I 2) 2 [.int .i64 yn,.int .i64 yd]:=aE hA q2;refine hA.au Tryz.func25 x25.2 (zc ?_);refine br (I<K) (by rw[aA hA]) (fun _=>?_) (fun q=>om)<;>refine zc ?_;refine zq ?_;refine IC hA (x:=⟨yn,yd⟩) ar i1 i2 (fun t h1 ht x1=>⟨t,rfl,?_⟩);have x2:=x.trans x1;refine zq ?_;cases t with
 |false=>
  have nt:¬cH ⟨yn,yd⟩:=fun q=>by have:=ht.2 q;cases this
  rw[show fD false=true by rw[cB hA];rfl];refine zq ?_;exact iu ⟨I,om,om,fun q=>nt (by rw[ey];exact q.1)⟩ _ _ _ h1 x2
 |true=>
  have tt:cH ⟨yn,yd⟩:=ht.1 rfl;rw[show fD true=false by rw[cB hA];rfl];refine zq ?_;refine br (60<yd) (by rw[cS hA]) (fun c=>?_) (fun c=>?_)<;>refine zc ?_
  ·refine zq ?_
   exact iu ⟨I,om,om,fun q=>by rw[<-ey]at q;have:=q.2;simp only at this;omega⟩ _ _ _ h1 x2
  ·refine zq ?_
   rw[aG hA om om];exact ih (i+1) (I+1) h1 om om om x2 (fun j j0 j1=>by
    by_cases e:j=I
    ·rw[e,<-ey];exact⟨tt,by show yd<=60;omega⟩
    ·exact hp j j0 om)
theorem tV{h:af}(ar:h.low<=h.next){m ac k bc:Nat}{aa ba:Option Addr}{dk:List Hd}{g:List (List Int)}{B:List Fc}(hg:zm nC 1 h aa m dk g)(hB:Rows fC 2 h ba k B)(hi:∀i:Int,0<=i->i<k->i64 (gt B i).n/\i64 (gt B i).d){Q:Value->af->Prop}
  (hQ:∀e h',ic g B e->Ext h h'->Q (.int .i64 e) h'):call 25 [.agg #[.slice aa m ac,.slice ba k bc]] h Q:=by
 have hgm:=hg.len;have hbk:=hB.len;obtain⟨M,eM⟩:∃z:Int,z=m:=⟨_,rfl⟩;have e1:ofNat m=M:=by rw[eM];exact aJ hA m
 obtain⟨K,eK⟩:∃z:Int,z=k:=⟨_,rfl⟩;have e2:ofNat k=K:=by rw[eK];exact aJ hA k
 refine hA.aO Tryz.func25 x25.2 (hA.alike _ _ _ rfl) ar (zc ?_)
 (refine zq ?_;repeat ((first|rw[e1]);refine zq ?_))
 refine br (4<M) (by rw[cS hA]) (fun c=>?_) (fun c=>?_)<;>refine zc ?_
 ·refine zq ?_
  exact hQ _ _ (.inl ⟨.inl om,rfl⟩) (.refl h)
 have WU:m<=1000:=om
 (refine zq ?_;repeat ((first|rw[e1]);refine zq ?_))
 refine NA hA hg WU eM (fun q env=>?_) (fun WV=>?_) m 0 0 om om rfl (fun j j0 j1=>om)
 ·refine zq ?_
  obtain⟨i,i0,i1,i2⟩:=q;exact hQ _ _ (.inl ⟨.inr ⟨i,i0,om,i2⟩,rfl⟩) (.refl h)
 have nm:¬GZ g:=fun q=>by
  rcases q with q|⟨i,i0,i1,i2⟩
  ·omega
  ·have:=WV i i0 om;omega
 have hl:∀i:Int,0<=i->i<m->(gt g i).length<=1000:=fun i i0 i1=>by have:=WV i i0 i1;omega
 have bad:¬Good g B->∀h',Ext h h'->Q (.int .i64 8) h':=fun q h' x=>hQ _ _ (.inr (.inr ⟨nm,q,rfl⟩)) x
 (refine zq ?_;repeat ((first|rw[e1]);refine zq ?_))
 refine br (M=0) (by rw[cY hA]) (fun c0=>?_) (fun c0=>?_)<;>refine zc ?_
 ·refine zq ?_
  exact bad (fun q=>by have:=q.m1;omega) h (.refl h)
 obtain⟨b,o,rfl,hb,q0⟩:=hg.jJ (i:=0) om om;obtain⟨sa,Ki⟩:∃z,z=(gt dk 0).a:=⟨_,rfl⟩;obtain⟨sn,NB⟩:∃z,z=(gt dk 0).n:=⟨_,rfl⟩;obtain⟨sc,NC⟩:∃z,z=(gt dk 0).c:=⟨_,rfl⟩;rw[<-Ki,<-NB,<-NC]at q0;have r0:rd h b (place o 0 1) 1 [.slice sa sn sc]:=aE hA q0;have C0:(gt g 0).length=sn:=by rw[NB];exact hg.u5 om om
 have dE:=hl 0 om om;obtain⟨S,eS⟩:∃z:Int,z=sn:=⟨_,rfl⟩;have e3:ofNat sn=S:=by rw[eS];exact aJ hA sn
 (refine zq ?_;repeat ((first|rw[e3]);refine zq ?_))
 refine br (S=0) (by rw[cY hA]) (fun cs=>?_) (fun cs=>?_)<;>refine zc ?_
 ·refine zq ?_
  exact bad (fun q=>by have:=q.n1;omega) h (.refl h)
 (refine zq ?_;repeat ((first|rw[e1]|rw[e2]);refine zq ?_))
 refine br (K≠M) (by rw[bR hA]) (fun ck=>?_) (fun ck=>?_)<;>refine zc ?_
 ·refine zq ?_
  exact bad (fun q=>by have:=q.len;omega) h (.refl h)
 (refine zq ?_;repeat ((first|rw[e1]);refine zq ?_))
 refine Qm hA hg om WU hl eM (fun q env=>?_) (fun Kj=>?_) m 0 0 om om rfl (fun j j0 j1=>om)
 ·refine zq ?_
  obtain⟨i,i0,i1,i2⟩:=q;exact bad (fun w=>i2 ⟨w.row i i0 om,w.TB i i0 om⟩) h (.refl h)
 (refine zq ?_;repeat ((first|rw[e2]);refine zq ?_))
 refine ND hA ar hB om hi eK (fun q env kn T h' x=>?_) (fun q kn T h' x=>?_) k 0 0 h om om rfl (.refl h) (fun j j0 j1=>om)
 ·refine zq ?_
  obtain⟨i,i0,i1,i2⟩:=q;exact bad (fun w=>i2 (w.turn i i0 om)) h' x
 ·refine zq ?_
  exact hQ _ _ (.inr (.inl ⟨nm,⟨om,om,om,fun i i0 i1=>(Kj i i0 om).1,fun i i0 i1=>(Kj i i0 om).2,fun i i0 i1=>q i i0 om⟩,rfl⟩)) x
theorem ET{h:af}(ar:h.low<=h.next){x:Fc}(hn:i64 x.n)(hd:i64 x.d){Q:Value->af->Prop}(hQ:∀b h',(b=true↔cH x)->Ext h h'->Q (.bool b) h'):call 17 [.agg #[.int .i64 x.n,.int .i64 x.d]] h Q:=by
 obtain⟨n,d⟩:=x;simp only at hn hd;refine hA.aO Tryz.func17 x17.2 (hA.alike _ _ _ rfl) ar (zc ?_);refine lI hA ar hn hd (fun e h' k x1=>?_);refine⟨e,rfl,?_⟩;refine zq ?_;refine br (e=0) (by rw[cY hA]) (fun c=>?_) (fun c=>?_)<;>refine zc ?_
 rotate_left
 ·refine zq ?_
  refine hQ false h' ⟨(fun q=>by cases q),fun q=>?_⟩ x1;rcases k with ⟨k,_⟩|⟨_,k⟩
  ·exact absurd k c
  ·exact absurd q.1 k
 have ok:okF n d:=by rcases k with ⟨_,k⟩|⟨k,_⟩;exact k;omega
 refine zq ?_;refine br (0<=n) (by rw[bX hA]) (fun c2=>?_) (fun c2=>?_)<;>refine zc ?_
 rotate_left
 ·refine zq ?_
  exact hQ false h' ⟨(fun q=>by cases q),fun q=>absurd q.2.1 c2⟩ x1
 refine zq ?_;rw[aA hA];exact hQ _ h' ⟨fun q=>⟨ok,c2,of_decide_eq_true q⟩,fun q=>decide_eq_true q.2.2⟩ x1
theorem Kk{h:af}{m ac k bc:Nat}{aa ba:Option Addr}{dk:List Hd}{g:List (List Int)}(hg:zm nC 1 h aa m dk g)(hm:m<=1000){Q:Exit->SS->Prop}
  (iu:(∃i:Int,0<=i/\i<m/\4<(gt g i).length)->∀env,Q .ret ⟨(2,.int .i64 4) :: env,1,[(0,[.slice aa m ac,.slice ba k bc])],h⟩)
  (dr:(∀i:Int,0<=i->i<m->(gt g i).length<=4)->Q (.exit 0) ⟨[(1,.pointer (some ⟨0,0,some 0⟩))],1,[(0,[.slice aa m ac,.slice ba k bc])],h⟩) :
  ∀(d i:Nat) (I:Int),m-i<=d->i<=m->I=i->(∀j:Int,0<=j->j<i->(gt g j).length<=4)->
   head 6 4 1 ⟨[(1,.pointer (some ⟨0,0,some 0⟩)),(3,.int .i64 I)],1,[(0,[.slice aa m ac,.slice ba k bc])],h⟩ Q:=by
 intro d;obtain⟨M,eM⟩:∃z:Int,z=m:=⟨_,rfl⟩;have e0:ofNat m=M:=by rw[eM];exact aJ hA m
 induction d with
 |zero=>
  intro i I hd hi eI hp;refine hA.au Tryz.func6 rU (zc ?_)
  (refine zq ?_;repeat ((first|rw[e0]);refine zq ?_))
  refine br (I<M) (by rw[aA hA]) (fun q=>om) (fun _=>?_)<;>refine zc ?_;exact dr (fun j j0 j1=>hp j j0 om)
 |succ d ih=>
 intro i I hd hi eI hp;by_cases ci:i<m
 rotate_left
 ·refine hA.au Tryz.func6 rU (zc ?_)
  (refine zq ?_;repeat ((first|rw[e0]);refine zq ?_))
  refine br (I<M) (by rw[aA hA]) (fun q=>om) (fun _=>?_)<;>refine zc ?_;exact dr (fun j j0 j1=>hp j j0 om)
 obtain⟨b,o,rfl,hb,q1⟩:=hg.jJ (i:=I) om om;obtain⟨ra,era⟩:∃z,z=(gt dk I).a:=⟨_,rfl⟩;obtain⟨rn,Fy⟩:∃z,z=(gt dk I).n:=⟨_,rfl⟩;obtain⟨rc,sS⟩:∃z,z=(gt dk I).c:=⟨_,rfl⟩;rw[<-era,<-Fy,<-sS]at q1;have r1:rd h b (place o I 1) 1 [.slice ra rn rc]:=aE hA q1;have YB:(gt g I).length=rn:=by rw[Fy];exact hg.u5 om om
 obtain⟨R,eR⟩:∃z:Int,z=rn:=⟨_,rfl⟩;have e1:ofNat rn=R:=by rw[eR];exact aJ hA rn
 refine hA.au Tryz.func6 rU (zc ?_)
 (refine zq ?_;repeat ((first|rw[e0]);refine zq ?_))
 refine br (I<M) (by rw[aA hA]) (fun _=>?_) (fun q=>om)<;>refine zc ?_
 (refine zq ?_;repeat ((first|rw[e1]);refine zq ?_))
 refine br (4<R) (by rw[cS hA]) (fun c4=>?_) (fun c4=>?_)<;>refine zc ?_
 ·refine zq ?_
  exact iu ⟨I,om,om,om⟩ _
 refine zq ?_;rw[aG hA om om];exact ih (i+1) (I+1) om om om (fun j j0 j1=>by
  by_cases e:j=I
  ·rw[e];omega
  ·exact hp j j0 om)
theorem Qn{h:af}{m ac k bc:Nat}{aa ba:Option Addr}{dk:List Hd}{g:List (List Int)}{I:Int}(hg:zm nC 1 h aa m dk g)(I0:0<=I)(I1:I<m)(hn:(gt g I).length<=1000){Q:Exit->SS->Prop}
  (iu:(∃j:Int,0<=j/\j<(gt g I).length/\¬(-9<=gt (gt g I) j/\gt (gt g I) j<=9))->∀env,Q .ret ⟨(2,.int .i64 8) :: env,31,[(0,[.slice aa m ac,.slice ba k bc])],h⟩)
  (dr:(∀j:Int,0<=j->j<(gt g I).length->-9<=gt (gt g I) j/\gt (gt g I) j<=9)->Q (.exit 4) ⟨[(1,.pointer (some ⟨0,0,some 0⟩)),(4,.int .i64 I)],31,[(0,[.slice aa m ac,.slice ba k bc])],h⟩) :
  ∀(d j:Nat) (J:Int),(gt g I).length-j<=d->j<=(gt g I).length->J=j->(∀x:Int,0<=x->x<j->-9<=gt (gt g I) x/\gt (gt g I) x<=9)->
   head 6 16 31 ⟨[(1,.pointer (some ⟨0,0,some 0⟩)),(4,.int .i64 I),(5,.int .i64 J)],31,[(0,[.slice aa m ac,.slice ba k bc])],h⟩ Q:=by
 intro d;obtain⟨b,o,rfl,hb,q1⟩:=hg.jJ (i:=I) I0 I1;obtain⟨ra,era⟩:∃z,z=(gt dk I).a:=⟨_,rfl⟩;obtain⟨rn,Fy⟩:∃z,z=(gt dk I).n:=⟨_,rfl⟩;obtain⟨rc,sS⟩:∃z,z=(gt dk I).c:=⟨_,rfl⟩;have row:=(hg.row I I0 I1).2;have WW:(gt g I).length=rn:=by rw[Fy];exact hg.u5 I0 I1
 rw[<-era,<-Fy]at row;rw[<-era,<-Fy,<-sS]at q1;have r1:rd h b (place o I 1) 1 [.slice ra rn rc]:=aE hA q1;obtain⟨w,ew⟩:∃z,z=gt g I:=⟨_,rfl⟩;rw[<-ew]at row hn iu dr WW ⊢;have YB:w.length=rn:=WW;obtain⟨R,eR⟩:∃z:Int,z=rn:=⟨_,rfl⟩;have e1:ofNat rn=R:=by rw[eR];exact aJ hA rn
 induction d with
 |zero=>
  intro j J hd hi eI hp;refine hA.au Tryz.func6 rU (zc ?_)
  (refine zq ?_;repeat ((first|rw[e1]);refine zq ?_))
  refine br (J<R) (by rw[aA hA]) (fun q=>om) (fun _=>?_)<;>refine zc ?_;exact dr (fun x j0 j1=>hp x j0 om)
 |succ d ih=>
 intro j J hd hi eI hp;by_cases ci:j<rn
 rotate_left
 ·refine hA.au Tryz.func6 rU (zc ?_)
  (refine zq ?_;repeat ((first|rw[e1]);refine zq ?_))
  refine br (J<R) (by rw[aA hA]) (fun q=>om) (fun _=>?_)<;>refine zc ?_;exact dr (fun x j0 j1=>hp x j0 om)
 obtain⟨b2,o2,rfl,vZ,q2⟩:=(row om).at (i:=J) om om;have q3:=q2 0 1 om om;obtain⟨x,ex⟩:∃z,z=gt w J:=⟨_,rfl⟩;rw[<-ex]at q3;have r2:rd h b2 (place o2 J 1) 1 [.int .i64 x]:=aE hA q3;refine hA.au Tryz.func6 rU (zc ?_)
 (refine zq ?_;repeat ((first|rw[e1]);refine zq ?_))
 refine br (J<R) (by rw[aA hA]) (fun _=>?_) (fun q=>om)<;>refine zc ?_
 (refine zq ?_;repeat ((first|rw[e1]);refine zq ?_))
 refine br (x < -9) (by rw[aA hA]) (fun c4=>?_) (fun c4=>?_)<;>refine zc ?_
 ·refine zq ?_
  exact iu ⟨J,om,om,om⟩ _
 (refine zq ?_;repeat ((first|rw[e1]);refine zq ?_))
 refine br (9<x) (by rw[cS hA]) (fun c5=>?_) (fun c5=>?_)<;>refine zc ?_
 ·refine zq ?_
  exact iu ⟨J,om,om,om⟩ _
 refine zq ?_;rw[aG hA om om];exact ih (j+1) (J+1) om om om (fun y j0 j1=>by
  by_cases e:y=J
  ·rw[e,<-ex];omega
  ·exact hp y j0 om)
theorem NF{h0:af}(dE:h0.low<=h0.next){m ac k bc:Nat}{aa ba:Option Addr}{dk:List Hd}{g:List (List Int)}{B:List Fc}(hg:zm nC 1 h0 aa m dk g)(hB:Rows fC 2 h0 ba k B)(m0:0<m)(hm:m<=1000)(RV:k=m)(hl:∀i:Int,0<=i->i<m->(gt g i).length<=1000)(hi:∀i:Int,0<=i->i<k->i64 (gt B i).n/\i64 (gt B i).d){Q:Exit->SS->Prop}
  (iu:(∃i:Int,0<=i/\i<m/\¬((gt g i).length=(gt g 0).length/\(cH (gt B i)/\(gt B i).d<=60)/\∀j:Int,0<=j->j<(gt g i).length->-9<=gt (gt g i) j/\gt (gt g i) j<=9))->∀env kn T h',Ext h0 h'->Q .ret ⟨(2,.int .i64 8) :: env,kn,T,h'⟩)
  (dr:(∀i:Int,0<=i->i<m->(gt g i).length=(gt g 0).length/\(cH (gt B i)/\(gt B i).d<=60)/\∀j:Int,0<=j->j<(gt g i).length->-9<=gt (gt g i) j/\gt (gt g i) j<=9)->∀kn T h',Ext h0 h'->Q (.exit 2) ⟨[],kn,T,h'⟩) :
  ∀(d i:Nat) (I:Int) (h:af),m-i<=d->i<=m->I=i->Ext h0 h->(∀j:Int,0<=j->j<i->(gt g j).length=(gt g 0).length/\(cH (gt B j)/\(gt B j).d<=60)/\∀x:Int,0<=x->x<(gt g j).length->-9<=gt (gt g j) x/\gt (gt g j) x<=9)->
   head 6 11 1 ⟨[(1,.pointer (some ⟨0,0,some 0⟩)),(4,.int .i64 I)],1,[(0,[.slice aa m ac,.slice ba k bc])],h⟩ Q:=by
 intro d;obtain⟨M,eM⟩:∃z:Int,z=m:=⟨_,rfl⟩;have e0:ofNat m=M:=by rw[eM];exact aJ hA m
 induction d with
 |zero=>
  intro i I h hd zZ eI x hp;refine hA.au Tryz.func6 rU (zc ?_)
  (refine zq ?_;repeat ((first|rw[e0]);refine zq ?_))
  refine br (I<M) (by rw[aA hA]) (fun q=>om) (fun _=>?_)<;>refine zc ?_;exact dr (fun j j0 j1=>hp j j0 om) _ _ h x
 |succ d ih=>
 intro i I h hd zZ eI x hp;by_cases ci:i<m
 rotate_left
 ·refine hA.au Tryz.func6 rU (zc ?_)
  (refine zq ?_;repeat ((first|rw[e0]);refine zq ?_))
  refine br (I<M) (by rw[aA hA]) (fun q=>om) (fun _=>?_)<;>refine zc ?_;exact dr (fun j j0 j1=>hp j j0 om) _ _ h x
 have ar:h.low<=h.next:=x.aD dE;have xb:Ext h (aH h 30):=aw hA _ _;have gb:=hg.ext (x.trans xb);obtain⟨b,o,rfl,hb,q1⟩:=gb.jJ (i:=I) om om;obtain⟨b',o',e',_,q0⟩:=gb.jJ (i:=0) om om;cases e';obtain⟨b2,o2,rfl,vZ,q2⟩:=(hB.ext (x.trans xb)).at (i:=I) om om;obtain⟨y,ey⟩:∃z,z=gt B I:=⟨_,rfl⟩;obtain⟨i1,i2⟩:=hi I om om;have q3:=q2 0 2 om om;have q4:=q2 1 1 om om;rw[<-ey]at q3 q4 i1 i2;obtain⟨yn,yd⟩:=y;have r3:rd (aH h 30) b2 (place o2 I 2) 2 [.int .i64 yn,.int .i64 yd]:=aE hA q3;have r4:rd (aH h 30) b2 (bZ (place o2 I 2) 1) 1 [.int .i64 yd]:=Mx hA q4;obtain⟨ra,era⟩:∃z,z=(gt dk I).a:=⟨_,rfl⟩;obtain⟨rn,Fy⟩:∃z,z=(gt dk I).n:=⟨_,rfl⟩;obtain⟨rc,sS⟩:∃z,z=(gt dk I).c:=⟨_,rfl⟩;obtain⟨sa,Ki⟩:∃z,z=(gt dk 0).a:=⟨_,rfl⟩;obtain⟨sn,NB⟩:∃z,z=(gt dk 0).n:=⟨_,rfl⟩;obtain⟨sc,NC⟩:∃z,z=(gt dk 0).c:=⟨_,rfl⟩;rw[<-era,<-Fy,<-sS]at q1;rw[<-Ki,<-NB,<-NC]at q0;have r1:rd (aH h 30) b (place o I 1) 1 [.slice ra rn rc]:=aE hA q1;have r0:rd (aH h 30) b (place o 0 1) 1 [.slice sa sn sc]:=aE hA q0;have YB:(gt g I).length=rn:=by rw[Fy];exact hg.u5 om om
 have C0:(gt g 0).length=sn:=by rw[NB];exact hg.u5 om om
 have zN:=hl I om om;have hl0':=hl 0 om om;obtain⟨R,eR⟩:∃z:Int,z=rn:=⟨_,rfl⟩;have e1:ofNat rn=R:=by rw[eR];exact aJ hA rn
 obtain⟨S,eS⟩:∃z:Int,z=sn:=⟨_,rfl⟩;have e2:ofNat sn=S:=by rw[eS];exact aJ hA sn
 refine hA.au Tryz.func6 rU (zc ?_)
 (refine zq ?_;repeat ((first|rw[e0]);refine zq ?_))
 refine br (I<M) (by rw[aA hA]) (fun _=>?_) (fun q=>om)<;>refine zc ?_
 (refine zq ?_;repeat ((first|rw[e1]|rw[e2]);refine zq ?_))
 refine br (R≠S) (by rw[bR hA]) (fun c4=>?_) (fun c4=>?_)<;>refine zc ?_
 ·refine zq ?_
  exact iu ⟨I,om,om,fun q=>c4 (by have:=q.1;omega)⟩ _ _ _ _ (x.trans xb)
 refine zq ?_;refine ET hA (x:=⟨yn,yd⟩) (aC hA _) i1 i2 (fun t h1 ht x1=>⟨t,rfl,?_⟩);obtain⟨h2,Iy⟩:∃z,z=aB (aH h 30) h1:=⟨_,rfl⟩;have x2:Ext h h2:=by rw[Iy];exact bW hA ar xb x1
 have g2:=(hB.ext (x.trans x2)).at (i:=I) om om;obtain⟨b3,o3,e3,_,q5⟩:=g2;cases e3;have q6:=q5 1 1 om om;rw[<-ey]at q6;have r5:rd h2 b2 (bZ (place o2 I 2) 1) 1 [.int .i64 yd]:=Mx hA q6;refine zq ?_;have fp:∀b0,b0<h.next->kp false (wrote (aH h 30) h1) false b0 (bZ (next h) 30):=fun b0 ng=>by
  rw[Cg hA];refine⟨rfl,?_,.inr (by rw[dj hA,cX hA];omega)⟩;rw[Cf hA];exact cJ (by
   have q1:=x1.wh;have q2:(aH h 30).next<=(fresh (aH h 30)).next:=by rw[j7 hA];exact Nat.le_refl _
   have q3:(fresh (aH h 30)).low=(aH h 30).next:=by rw[j7 hA];rfl
   have:Nat.min (fresh (aH h 30)).low (fresh (aH h 30)).next<=h1.low:=q1;rw[q3]at this;exact Nat.le_trans (Nat.le_min.2 ⟨Nat.le_refl _,q2⟩) this)
 cases t with
 |false=>
  have nt:¬cH ⟨yn,yd⟩:=fun q=>by have:=ht.2 q;cases this
  rw[show fD false=true by rw[cB hA];rfl];refine zq ?_;first|rw[<-Iy]|skip
  exact iu ⟨I,om,om,fun q=>nt (by rw[ey];exact q.2.1.1)⟩ _ _ _ _ (x.trans x2)
 |true=>
  have tt:cH ⟨yn,yd⟩:=ht.1 rfl;rw[show fD true=false by rw[cB hA];rfl];refine zc ?_;rw[<-Iy];refine zq ?_;refine br (60<yd) (by rw[cS hA]) (fun c5=>?_) (fun c5=>?_)<;>refine zc ?_
  ·refine zq ?_
   exact iu ⟨I,om,om,fun q=>by rw[<-ey]at q;have:=q.2.1.2;simp only at this;omega⟩ _ _ _ _ (x.trans x2)
  refine zq ?_;have gx:=hg.ext (x.trans x2);refine Qn hA gx (I:=I) om om om (fun c env=>?_) (fun c=>?_) (gt g I).length 0 0 om om rfl (fun j j0 j1=>om)
  ·obtain⟨j,j0,j1,j2⟩:=c
   exact iu ⟨I,om,om,fun q=>j2 (q.2.2 j j0 j1)⟩ _ _ _ _ (x.trans x2)
  refine zq ?_;rw[aG hA om om];exact ih (i+1) (I+1) h2 om om om (x.trans x2) (fun j j0 j1=>by
   by_cases e:j=I
   ·rw[e,<-ey];exact⟨om,⟨tt,by show yd<=60;omega⟩,c⟩
   ·exact hp j j0 om)
theorem Bj{h:af}(ar:h.low<=h.next){m ac k bc:Nat}{aa ba:Option Addr}{dk:List Hd}{g:List (List Int)}{B:List Fc}(hg:zm nC 1 h aa m dk g)(hB:Rows fC 2 h ba k B)(hi:∀i:Int,0<=i->i<k->i64 (gt B i).n/\i64 (gt B i).d){Q:Value->af->Prop}
  (hQ:∀e h',ic g B e->Ext h h'->Q (.int .i64 e) h'):call 6 [.agg #[.slice aa m ac,.slice ba k bc]] h Q:=by
 have hgm:=hg.len;have hbk:=hB.len;obtain⟨M,eM⟩:∃z:Int,z=m:=⟨_,rfl⟩;have e1:ofNat m=M:=by rw[eM];exact aJ hA m
 obtain⟨K,eK⟩:∃z:Int,z=k:=⟨_,rfl⟩;have e2:ofNat k=K:=by rw[eK];exact aJ hA k
 refine hA.aO Tryz.func6 rU (hA.alike _ _ _ rfl) ar (zc ?_)
 (refine zq ?_;repeat ((first|rw[e1]);refine zq ?_))
 refine br (4<M) (by rw[cS hA]) (fun c=>?_) (fun c=>?_)<;>refine zc ?_
 ·refine zq ?_
  exact hQ _ _ (.inl ⟨.inl om,rfl⟩) (.refl h)
 have WU:m<=1000:=om
 (refine zq ?_;repeat ((first|rw[e1]);refine zq ?_))
 refine Kk hA hg WU (fun q env=>?_) (fun WV=>?_) m 0 0 om om rfl (fun j j0 j1=>om)
 ·refine zq ?_
  obtain⟨i,i0,i1,i2⟩:=q;exact hQ _ _ (.inl ⟨.inr ⟨i,i0,om,i2⟩,rfl⟩) (.refl h)
 have nm:¬GZ g:=fun q=>by
  rcases q with q|⟨i,i0,i1,i2⟩
  ·omega
  ·have:=WV i i0 om;omega
 have hl:∀i:Int,0<=i->i<m->(gt g i).length<=1000:=fun i i0 i1=>by have:=WV i i0 i1;omega
 have bad:¬Good g B->∀h',Ext h h'->Q (.int .i64 8) h':=fun q h' x=>hQ _ _ (.inr (.inr ⟨nm,q,rfl⟩)) x
 (refine zq ?_;repeat ((first|rw[e1]);refine zq ?_))
 refine br (M=0) (by rw[cY hA]) (fun c0=>?_) (fun c0=>?_)<;>refine zc ?_
 ·refine zq ?_
  exact bad (fun q=>by have:=q.m1;omega) h (.refl h)
 obtain⟨b,o,rfl,hb,q0⟩:=hg.jJ (i:=0) om om;obtain⟨sa,Ki⟩:∃z,z=(gt dk 0).a:=⟨_,rfl⟩;obtain⟨sn,NB⟩:∃z,z=(gt dk 0).n:=⟨_,rfl⟩;obtain⟨sc,NC⟩:∃z,z=(gt dk 0).c:=⟨_,rfl⟩;rw[<-Ki,<-NB,<-NC]at q0;have r0:rd h b (place o 0 1) 1 [.slice sa sn sc]:=aE hA q0;have C0:(gt g 0).length=sn:=by rw[NB];exact hg.u5 om om
 have dE:=hl 0 om om;obtain⟨S,eS⟩:∃z:Int,z=sn:=⟨_,rfl⟩;have e3:ofNat sn=S:=by rw[eS];exact aJ hA sn
 (refine zq ?_;repeat ((first|rw[e3]);refine zq ?_))
 refine br (S=0) (by rw[cY hA]) (fun cs=>?_) (fun cs=>?_)<;>refine zc ?_
 ·refine zq ?_
  exact bad (fun q=>by have:=q.n1;omega) h (.refl h)
 (refine zq ?_;repeat ((first|rw[e1]|rw[e2]);refine zq ?_))
 refine br (K≠M) (by rw[bR hA]) (fun ck=>?_) (fun ck=>?_)<;>refine zc ?_
 ·refine zq ?_
  exact bad (fun q=>by have:=q.len;omega) h (.refl h)
 (refine zq ?_;repeat ((first|rw[e1]);refine zq ?_))
 refine NF hA ar hg hB om WU om hl hi (fun q env kn T h' x=>?_) (fun Kj kn T h' x=>?_) m 0 0 h om om rfl (.refl h) (fun j j0 j1=>om)
 ·refine zq ?_
  obtain⟨i,i0,i1,i2⟩:=q;exact bad (fun w=>i2 ⟨w.row i i0 om,w.turn i i0 om,w.TB i i0 om⟩) h' x
 ·refine zq ?_
  exact hQ _ _ (.inr (.inl ⟨nm,⟨om,om,om,fun i i0 i1=>(Kj i i0 om).1,fun i i0 i1=>(Kj i i0 om).2.2,fun i i0 i1=>(Kj i i0 om).2.1⟩,rfl⟩)) x
theorem EU(hI:sH F){h:af}(ar:h.low<=h.next){m n ac:Nat}{aa:Option Addr}{dk:List Hd}{g:List (List Int)}(hM:oX g m n)(hg:pz nC 1 h aa m dk g){Q:Value->af->Prop}
  (hQ:∀h' r s pa pc qa qc bs rb A,bL g m n r s A->dQ h h' m (n+m) bs A->UW h h' r (n+m) pa pc bs->Fz h h' s m qa qc rb (fun y j=>A (r+y) (n+j))->(∀ad,pa=some ad->∀y,y<m->ad.block≠bs y)->Q (.tuple #[.slice pa r pc,.slice qa s qc]) h') :
  call 29 [.slice aa m ac] h Q:=
 Kl hA hI ar rfl hM.n1 hM.n4 hM.m1 hM.m4 hg (fun y y0 y1=>by rw[<-hg.u5 y0 y1];exact hM.row y y0 y1) hM.nine
  (fun h' r s pa pc qa qc bs rb A a1 a2 a3 a4 a5 a6 a7 a8 a9=>hQ h' r s pa pc qa qc bs rb A ⟨a1,a2,a3,a4,a5⟩ a6 a7 a8 a9)
theorem NG{x i:Nat}{X I:Int}(eX:X=x)(eI:I=i)(hx:x<16)(hi:i<4):arith .and .i64 (arith .shr .i64 X I) 1=if x.testBit i then 1 else 0:=by
 rw[My hA,Mz hA,eX,eI];have h1:x=0\/x=1\/x=2\/x=3\/x=4\/x=5\/x=6\/x=7\/x=8\/x=9\/x=10\/x=11\/x=12\/x=13\/x=14\/x=15:=om
 have h2:i=0\/i=1\/i=2\/i=3:=om
 rcases h1 with rfl|rfl|rfl|rfl|rfl|rfl|rfl|rfl|rfl|rfl|rfl|rfl|rfl|rfl|rfl|rfl<;>rcases h2 with rfl|rfl|rfl|rfl<;>rfl
theorem WX{h0 h1:af}(dE:h0.low<=h0.next){m n ac b s R C i:Nat}{aa:Option Addr}{dk:List Hd}{g:List (List Int)}(hM:oX g m n)(hg:pz nC 1 h0 aa m dk g){RI CI S MI I N:Int}(eS:S=s)(eR:RI=R)(eC:CI=C)(eI:I=i)(eN:N=n)(es:s=(Ext.bl i R).length)(hi:i<m)(hC:C<16){rc:Nat}{ra:Option Addr}(era:ra=(gt dk I).a){Q:Exit->SS->Prop}
  (hQ:∀(h':af) (P:Nat->Nat->Int) (kn:Nat) (T:List (Nat×List Value)),Sq h0 h' b s P->Fx g n R C i n P->Q (.exit 2) ⟨[(0,.slice aa m ac),(1,.int .i64 RI),(2,.int .i64 CI),(7,.pointer (some ⟨b,0,none⟩)),(15,.int .i64 MI),(16,.int .i64 I)],kn,T,h'⟩) :
  ∀(d j k:Nat) (J K:Int) (h:af) (P:Nat->Nat->Int),n-j<=d->j<=n->J=j->k=(Ext.bl j C).length->K=k->Sq h0 h b s P->Fx g n R C i j P->
   head 71 8 0 ⟨[(0,.slice aa m ac),(1,.int .i64 RI),(2,.int .i64 CI),(7,.pointer (some ⟨b,0,none⟩)),(9,.int .i64 K),(15,.int .i64 MI),(16,.int .i64 I),(27,.slice ra n rc),(28,.int .i64 N),(29,.int .i64 J)],0,[],h⟩ Q:=by
 intro d;have m4:=hM.m4;have n4:=hM.n4
 induction d with
 |zero=>
  intro j k J K h P hd hj eJ ek eK t p;refine hA.au Tryz.func71 x71.2 (zc ?_);refine br (J<N) (by rw[aA hA]) (fun q=>om) (fun _=>?_)<;>refine zc ?_;obtain rfl:j=n:=om
  exact hQ h P _ _ t p
 |succ d ih=>
 intro j k J K h P hd hj eJ ek eK t p;by_cases cj:j<n
 rotate_left
 ·refine hA.au Tryz.func71 x71.2 (zc ?_)
  refine br (J<N) (by rw[aA hA]) (fun q=>om) (fun _=>?_)<;>refine zc ?_;obtain rfl:j=n:=om
  exact hQ h P _ _ t p
 have gh:=hg.ext t.ext;have row:=gh.row I om om;rw[<-era]at row;have Ck:(gt g I).length=n:=hM.row I om om;have Ah:=row.len;rw[Ck]at Ah;rw[<-Ah]at row;obtain⟨b2,o2,YC,_,w⟩:=row.at (i:=J) om om;obtain⟨v,ev⟩:∃z,z=gt (gt g I) J:=⟨_,rfl⟩;have q1:=w 0 1 om om;rw[<-ev]at q1;cases ra with
 |none=>cases YC
 |some ad=>
 cases YC;have r1:rd h b2 (place o2 J 1) 1 [.int .i64 v]:=aE hA q1;obtain⟨B,eB⟩:∃z:Int,z=if C.testBit j then 1 else 0:=⟨_,rfl⟩
 have m1:=NG hA eC eJ hC (show j<4 by omega);rw[<-eB]at m1;have kl:=Ext.NH j C;have sl:=Ext.NH i R;refine hA.au Tryz.func71 x71.2 (zc ?_);refine br (J<N) (by rw[aA hA]) (fun _=>?_) (fun q=>om)<;>refine zc ?_
 (refine zq ?_;repeat ((first|rw[m1]);refine zq ?_))
 refine br (B=1) (by rw[cY hA]) (fun c=>?_) (fun c=>?_)<;>refine zc ?_
 ·have tb:C.testBit j=true:=by
   cases h:C.testBit j with
   |true=>rfl
   |false=>rw[h]at eB;simp at eB;omega
  obtain⟨h9,Bh⟩:∃z,z=aH h 12:=⟨_,rfl⟩;have t9:=t.more (show Ext h h9 by rw[Bh];exact aw hA _ _);have r2:=jE hA t9 eS;obtain⟨h2,w1,t2,_⟩:=CB hA t9 (i:=s) (j:=k) om om eS eK (v:=v);rw[<-Bh];refine zq ?_;rw[aG hA om om,aG hA om om];refine ih (j+1) (k+1) (J+1) (K+1) h2 _ om om om (by rw[Ext.mJ,if_pos tb,List.length_append,ek];rfl) om t2 ?_;have:=p.put tb;rw[<-es,<-ek,show Ext.el g i j=v by rw[ev,eI,eJ];rfl]at this;exact this
 ·have tb:C.testBit j=false:=by
   cases h:C.testBit j with
   |false=>rfl
   |true=>rw[h]at eB;simp at eB;omega
  refine zq ?_;rw[aG hA om om];exact ih (j+1) k (J+1) K h P om om om (by rw[Ext.mJ,if_neg (by rw[tb];decide),ek]) eK t (p.skip tb)
theorem TE{h0:af}(dE:h0.low<=h0.next){m n ac b R C:Nat}{aa:Option Addr}{dk:List Hd}{g:List (List Int)}(hM:oX g m n)(hg:pz nC 1 h0 aa m dk g){RI CI M:Int}(eR:RI=R)(eC:CI=C)(eM:M=m)(hR:R<16)(hC:C<16){Q:Exit->SS->Prop}
  (hQ:∀(h':af) (P:Nat->Nat->Int) (kn:Nat) (T:List (Nat×List Value)),Sq h0 h' b (Ext.bl m R).length P->Fx g n R C m 0 P->Q (.exit 0) ⟨[(7,.pointer (some ⟨b,0,none⟩))],kn,T,h'⟩) :
  ∀(d i s:Nat) (I:Int) (h:af) (P:Nat->Nat->Int),m-i<=d->i<=m->I=i->s=(Ext.bl i R).length->Sq h0 h b s P->Fx g n R C i 0 P->
   head 71 3 0 ⟨[(0,.slice aa m ac),(1,.int .i64 RI),(2,.int .i64 CI),(7,.pointer (some ⟨b,0,none⟩)),(15,.int .i64 M),(16,.int .i64 I)],0,[],h⟩ Q:=by
 intro d;have m4:=hM.m4;have n4:=hM.n4
 induction d with
 |zero=>
  intro i s I h P hd hi eI es t p;refine hA.au Tryz.func71 x71.2 (zc ?_);refine br (I<M) (by rw[aA hA]) (fun q=>om) (fun _=>?_)<;>refine zc ?_;obtain rfl:i=m:=om
  exact hQ h P _ _ (es ▸ t) p
 |succ d ih=>
 intro i s I h P hd hi eI es t p;by_cases ci:i<m
 rotate_left
 ·refine hA.au Tryz.func71 x71.2 (zc ?_)
  refine br (I<M) (by rw[aA hA]) (fun q=>om) (fun _=>?_)<;>refine zc ?_;obtain rfl:i=m:=om
  exact hQ h P _ _ (es ▸ t) p
 obtain⟨B,eB⟩:∃z:Int,z=if R.testBit i then 1 else 0:=⟨_,rfl⟩
 have m1:=NG hA eR eI hR (show i<4 by omega);rw[<-eB]at m1;obtain⟨S,eS⟩:∃z:Int,z=s:=⟨_,rfl⟩;obtain⟨N,eN⟩:∃z:Int,z=n:=⟨_,rfl⟩;have sl:=Ext.NH i R;obtain⟨ab,ao,rfl,Rp,q1⟩:=(hg.ext t.ext).jJ (i:=I) om om;have row:=hg.row I om om;have Ck:(gt g I).length=n:=hM.row I om om;have Ah:=row.len;rw[Ck]at Ah;rw[<-Ah]at q1;obtain⟨ra,era⟩:∃z,z=(gt dk I).a:=⟨_,rfl⟩;obtain⟨rc,sS⟩:∃z,z=(gt dk I).c:=⟨_,rfl⟩;rw[<-era,<-sS]at q1;have r1:rd h ab (place ao I 1) 1 [.slice ra n rc]:=aE hA q1;have e0:ofNat n=N:=by rw[eN];exact aJ hA n
 refine hA.au Tryz.func71 x71.2 (zc ?_);refine br (I<M) (by rw[aA hA]) (fun _=>?_) (fun q=>om)<;>refine zc ?_
 (refine zq ?_;repeat ((first|rw[m1]);refine zq ?_))
 refine br (B=0) (by rw[cY hA]) (fun c=>?_) (fun c=>?_)<;>refine zc ?_
 ·have tb:R.testBit i=false:=by
   cases h:R.testBit i with
   |false=>rfl
   |true=>rw[h]at eB;simp at eB;omega
  refine zq ?_;rw[aG hA om om];exact ih (i+1) s (I+1) h P om om om (by rw[Ext.mJ,if_neg (by rw[tb];decide),es]) t (p.aaj tb)
 ·have tb:R.testBit i=true:=by
   cases h:R.testBit i with
   |true=>rfl
   |false=>rw[h]at eB;simp at eB;omega
  (refine zq ?_;repeat ((first|rw[e0]);refine zq ?_))
  refine WX hA (h1:=h) dE hM hg eS eR eC eI eN es ci hC era (fun h' P' kn T t' p'=>?_) n 0 0 0 0 h P om om rfl rfl rfl t p;have r2:=jE hA t' eS;obtain⟨h2,w1,t2,_⟩:=t'.grow (S:=S+1) om;have w1:wr h' b (bZ 0 0) [.int .i64 (S+1)] h2:=PR hA w1;refine zq ?_;rw[aG hA om om];refine zq ?_;rw[aG hA om om];exact ih (i+1) (s+1) (I+1) h2 P' om om om (by rw[Ext.mJ,if_pos tb,List.length_append,es];rfl) t2 (p'.next tb)
theorem NJ{h:af}(ar:h.low<=h.next){m n ac R C:Nat}{aa:Option Addr}{dk:List Hd}{g:List (List Int)}(hM:oX g m n)(hg:pz nC 1 h aa m dk g){RI CI:Int}(eR:RI=R)(eC:CI=C)(hR:R<16)(hC:C<16){Q:Value->af->Prop}
  (hQ:∀b h' P,Sq h h' b (Ext.bl m R).length P->(∀r c,r<(Ext.bl m R).length->c<(Ext.bl n C).length->P r c=Ext.el g (gt (Ext.bl m R) (r:Int)) (gt (Ext.bl n C) (c:Int)))->Q (.pointer (some ⟨b,0,none⟩)) h') :
  call 71 [.slice aa m ac,.int .i64 RI,.int .i64 CI] h Q:=by
 obtain⟨M,eM⟩:∃z:Int,z=m:=⟨_,rfl⟩;have e1:ofNat m=M:=by rw[eM];exact aJ hA m
 refine hA.aO Tryz.func71 x71.2 (hA.alike _ _ _ rfl) ar (zc ?_)
 (refine zq ?_;repeat ((first|rw[e1]);refine zq ?_))
 rw[dy hA,cX hA];refine TE hA ar hM hg eR eC eM hR hC (fun h' P kn T t p=>?_) m 0 0 0 _ (fun _ _=>0) om om rfl rfl (Sq.new h) ⟨fun r c hr=>absurd hr (by show ¬r<0;omega),fun c hc=>absurd hc (by show ¬c<0;omega)⟩;refine zq ?_;exact hQ h.next h' P t p.up
theorem NK{m:Nat}(hm:m<=4){M:Int}(eM:M=m):arith .shl .i64 1 M=((2 ^ m:Nat):Int):=by
 rw[Rq hA,eM];have h1:m=0\/m=1\/m=2\/m=3\/m=4:=om
 rcases h1 with rfl|rfl|rfl|rfl|rfl<;>rfl
theorem WY{h0:af}(dE:h0.low<=h0.next){m n ac k R g0 p2:Nat}{aa:Option Addr}{dk:List Hd}{g:List (List Int)}(hM:oX g m n)(hg:pz nC 1 h0 aa m dk g){K RI P W:Int}(eK:K=k)(eR:RI=R)(hR:R<2 ^ m)(hk:k<=4)(lR:(Ext.bl m R).length=k)(YD:p2=2 ^ n)(eP:P=p2){Q:Exit->SS->Prop}
  (hQ:∀(h':af) (gg:Nat) (G:Int),Ext h0 h'->G=gg->gg<=157464->(∀d:Nat,d∣gg↔d∣g0/\∀C,C<p2->(Ext.bl n C).length=k->d∣(Ext.Ch g k (Ext.bl m R) (Ext.bl n C)).natAbs)->Q (.exit 2) ⟨[(0,.slice aa m ac),(1,.int .i64 K),(5,.int .i64 G),(10,.int .i64 W),(11,.int .i64 RI)],0,[],h'⟩) :
  ∀(d C gg:Nat) (CI G:Int) (h:af),p2-C<=d->C<=p2->CI=C->Ext h0 h->G=gg->gg<=157464->(∀d:Nat,d∣gg↔d∣g0/\∀x,x<C->(Ext.bl n x).length=k->d∣(Ext.Ch g k (Ext.bl m R) (Ext.bl n x)).natAbs)->
   head 43 7 0 ⟨[(0,.slice aa m ac),(1,.int .i64 K),(5,.int .i64 G),(6,.int .i64 RI),(10,.int .i64 W),(11,.int .i64 RI),(23,.int .i64 P),(24,.int .i64 CI)],0,[],h⟩ Q:=by
 intro d;have m4:=hM.m4;have n4:=hM.n4;have pw:∀x,x<=4->2 ^ x<=16:=fun x hx=>Nat.pow_le_pow_right (n:=2) om hx
 have pn:=pw n n4;have pm:=pw m m4
 induction d with
 |zero=>
  intro C gg CI G h hd hC eC x eG hb EV;refine hA.au Tryz.func43 x43.2 (zc ?_);refine br (CI<P) (by rw[aA hA]) (fun q=>om) (fun _=>?_)<;>refine zc ?_;obtain rfl:C=p2:=om
  exact hQ h gg G x eG hb EV
 |succ d ih=>
 intro C gg CI G h hd hC eC x eG hb EV;by_cases cC:C<p2
 rotate_left
 ·refine hA.au Tryz.func43 x43.2 (zc ?_)
  refine br (CI<P) (by rw[aA hA]) (fun q=>om) (fun _=>?_)<;>refine zc ?_;obtain rfl:C=p2:=om
  exact hQ h gg G x eG hb EV
 have ar:=x.aD dE;have m1:conv .u64 CI=CI:=kQ hA om om;have l4:=Ext.ID n C n4 om;refine hA.au Tryz.func43 x43.2 (zc ?_);refine br (CI<P) (by rw[aA hA]) (fun _=>?_) (fun q=>om)<;>refine zc ?_
 (refine zq ?_;repeat ((first|rw[m1]);refine zq ?_))
 refine IB hA om om ar (fun v ev=>⟨v,rfl,?_⟩);rw[eC,Int.toNat_natCast,l4]at ev;refine zq ?_;refine br (v=K) (by rw[cY hA]) (fun c=>?_) (fun c=>?_)<;>refine zc ?_
 ·have lC:(Ext.bl n C).length=k:=om
  refine zq ?_;refine NJ hA ar hM (hg.ext x) eR eC om om (fun b h1 P1 t1 p1=>⟨_,_,rfl,?_⟩);rw[lR]at t1 p1;refine zq ?_;refine G1 hA ar t1 hk (fun i j hi hj=>by rw[p1 i j hi om];exact hM.nine _ _) (fun w h2 ew wb x2=>⟨w,rfl,?_⟩);have ed:Ext.dt k P1=Ext.Ch g k (Ext.bl m R) (Ext.bl n C):=by
   unfold Ext.Ch;exact Ext.eV (fun i j hi hj=>p1 i j hi om)
  rw[ed]at ew;refine zq ?_;refine IA hA (x2.aD ar) (a:=G) (b:=w) om om (fun h3 x3=>⟨_,rfl,?_⟩);have eg2:Int.gcd G w=Nat.gcd gg (Ext.Ch g k (Ext.bl m R) (Ext.bl n C)).natAbs:=by
   rw[eG,ew];rfl
  rw[eg2];have vZ:Nat.gcd gg (Ext.Ch g k (Ext.bl m R) (Ext.bl n C)).natAbs<=157464:=Ext.TF hb om;have TG:∀d:Nat,d∣Nat.gcd gg (Ext.Ch g k (Ext.bl m R) (Ext.bl n C)).natAbs↔d∣g0/\∀x,x<C+1->(Ext.bl n x).length=k->d∣(Ext.Ch g k (Ext.bl m R) (Ext.bl n x)).natAbs:=fun d=>by
   rw[Nat.dvd_gcd_iff,EV d];constructor
   ·rintro⟨⟨a1,a2⟩,a3⟩
    refine⟨a1,fun y hy ly=>?_⟩;by_cases e:y=C
    ·rw[e];exact a3
    ·exact a2 y om ly
   ·rintro⟨a1,a2⟩
    exact⟨⟨a1,fun y hy ly=>a2 y om ly⟩,a2 C om lC⟩
  generalize Nat.gcd gg (Ext.Ch g k (Ext.bl m R) (Ext.bl n C)).natAbs=g2 at *;obtain⟨G2,YE⟩:∃z:Int,z=g2:=⟨_,rfl⟩;rw[<-YE];refine zq ?_;rw[aG hA om om];exact ih (C+1) g2 (CI+1) G2 h3 om om om ((x.trans x2).trans x3) YE vZ TG
 ·refine zq ?_
  rw[aG hA om om];refine ih (C+1) gg (CI+1) G h om om om x eG hb (fun d=>?_);rw[EV d];refine and_congr Iff.rfl ⟨fun a y hy ly=>?_,fun a y hy ly=>a y om ly⟩;by_cases e:y=C
  ·rw[e]at ly;omega
  ·exact a y om ly
theorem TH{h0:af}(dE:h0.low<=h0.next){m n ac k pm:Nat}{aa:Option Addr}{dk:List Hd}{g:List (List Int)}(hM:oX g m n)(hg:pz nC 1 h0 aa m dk g){K W:Int}(eK:K=k)(hk:k<=4)(YF:pm=2 ^ m)(eW:W=pm){Q:Exit->SS->Prop}
  (hQ:∀(h':af) (gg:Nat) (G:Int) (kn:Nat) (T:List (Nat×List Value)),Ext h0 h'->G=gg->(∀d:Nat,d∣gg↔∀R,R<pm->(Ext.bl m R).length=k->∀C,C<2 ^ n->(Ext.bl n C).length=k->d∣(Ext.Ch g k (Ext.bl m R) (Ext.bl n C)).natAbs)->Q (.exit 0) ⟨[(5,.int .i64 G)],kn,T,h'⟩) :
  ∀(d R gg:Nat) (RI G:Int) (h:af),pm-R<=d->R<=pm->RI=R->Ext h0 h->G=gg->gg<=157464->(∀d:Nat,d∣gg↔∀x,x<R->(Ext.bl m x).length=k->∀C,C<2 ^ n->(Ext.bl n C).length=k->d∣(Ext.Ch g k (Ext.bl m x) (Ext.bl n C)).natAbs)->
   head 43 3 0 ⟨[(0,.slice aa m ac),(1,.int .i64 K),(5,.int .i64 G),(10,.int .i64 W),(11,.int .i64 RI)],0,[],h⟩ Q:=by
 intro d;have m4:=hM.m4;have n4:=hM.n4;have pw:∀x,x<=4->2 ^ x<=16:=fun x hx=>Nat.pow_le_pow_right (n:=2) om hx
 have pm16:=pw m m4;have mpos:=hM.m1
 induction d with
 |zero=>
  intro R gg RI G h hd hR eR x eG hb EV;refine hA.au Tryz.func43 x43.2 (zc ?_);refine br (RI<W) (by rw[aA hA]) (fun q=>om) (fun _=>?_)<;>refine zc ?_;obtain rfl:R=pm:=om
  exact hQ h gg G _ _ x eG EV
 |succ d ih=>
 intro R gg RI G h hd hR eR x eG hb EV;by_cases cR:R<pm
 rotate_left
 ·refine hA.au Tryz.func43 x43.2 (zc ?_)
  refine br (RI<W) (by rw[aA hA]) (fun q=>om) (fun _=>?_)<;>refine zc ?_;obtain rfl:R=pm:=om
  exact hQ h gg G _ _ x eG EV
 have ar:=x.aD dE;have m1:conv .u64 RI=RI:=kQ hA om om;have l4:=Ext.ID m R m4 om;obtain⟨N,eN⟩:∃z:Int,z=n:=⟨_,rfl⟩;have e0:ofNat n=N:=by rw[eN];exact aJ hA n
 obtain⟨p2,YD⟩:∃z:Nat,z=2 ^ n:=⟨_,rfl⟩;obtain⟨P,eP⟩:∃z:Int,z=p2:=⟨_,rfl⟩;have m2:arith .shl .i64 1 N=P:=by rw[eP,YD];exact NK hA hM.n4 eN
 obtain⟨ab,ao,rfl,Rp,q1⟩:=(hg.ext x).jJ (i:=0) om (by have:=hM.m1;omega);have row:=hg.row 0 om (by have:=hM.m1;omega);have Ck:(gt g 0).length=n:=hM.row 0 om (by have:=hM.m1;omega);have Ah:=row.len;rw[Ck]at Ah;rw[<-Ah]at q1;obtain⟨ra,era⟩:∃z,z=(gt dk 0).a:=⟨_,rfl⟩;obtain⟨rc,sS⟩:∃z,z=(gt dk 0).c:=⟨_,rfl⟩;rw[<-era,<-sS]at q1;have r1:rd h ab (place ao 0 1) 1 [.slice ra n rc]:=aE hA q1;refine hA.au Tryz.func43 x43.2 (zc ?_);refine br (RI<W) (by rw[aA hA]) (fun _=>?_) (fun q=>om)<;>refine zc ?_
 (refine zq ?_;repeat ((first|rw[m1]);refine zq ?_))
 refine IB hA om om ar (fun v ev=>⟨v,rfl,?_⟩);rw[eR,Int.toNat_natCast,l4]at ev;refine zq ?_;refine br (v≠K) (by rw[bR hA]) (fun c=>?_) (fun c=>?_)<;>refine zc ?_
 ·refine zq ?_
  rw[aG hA om om];refine ih (R+1) gg (RI+1) G h om om om x eG hb (fun d=>?_);rw[EV d];refine⟨fun a y hy ly=>?_,fun a y hy ly=>a y om ly⟩;by_cases e:y=R
  ·rw[e]at ly;omega
  ·exact a y om ly
 ·have lR:(Ext.bl m R).length=k:=om
  (refine zq ?_;repeat ((first|rw[e0]|rw[m2]);refine zq ?_))
  refine WY hA dE hM hg eK eR om hk lR YD eP (g0:=gg) (fun h' g2 G2 x' YE vZ TG=>?_) p2 0 gg 0 G h om om rfl x eG hb (fun d=>⟨fun a=>⟨a,fun y hy=>om⟩,fun a=>a.1⟩);refine zq ?_;rw[aG hA om om];refine ih (R+1) g2 (RI+1) G2 h' om om om x' YE vZ (fun d=>?_);rw[TG d,EV d,<-YD];constructor
  ·rintro⟨a1,a2⟩ y hy ly
   by_cases e:y=R
   ·rw[e];exact a2
   ·exact a1 y om ly
  ·intro a
   exact⟨fun y hy ly=>a y om ly,a R om lR⟩
theorem GI{h:af}(ar:h.low<=h.next){m n ac k:Nat}{aa:Option Addr}{dk:List Hd}{g:List (List Int)}(hM:oX g m n)(hg:pz nC 1 h aa m dk g){K:Int}(eK:K=k)(hk:k<=4){Q:Value->af->Prop}
  (hQ:∀(v:Int) h',v=Ext.Dv g m n k->Ext h h'->Q (.int .i64 v) h'):call 43 [.slice aa m ac,.int .i64 K] h Q:=by
 obtain⟨M,eM⟩:∃z:Int,z=m:=⟨_,rfl⟩;have e1:ofNat m=M:=by rw[eM];exact aJ hA m
 obtain⟨pm,YF⟩:∃z:Nat,z=2 ^ m:=⟨_,rfl⟩;obtain⟨W,eW⟩:∃z:Int,z=pm:=⟨_,rfl⟩;have m2:arith .shl .i64 1 M=W:=by rw[eW,YF];exact NK hA hM.m4 eM
 refine hA.aO Tryz.func43 x43.2 (hA.alike _ _ _ rfl) ar (zc ?_)
 (refine zq ?_;repeat ((first|rw[e1]|rw[m2]);refine zq ?_))
 refine TH hA ar hM hg eK hk YF eW (fun h' gg G kn T x eG EV=>?_) pm 0 0 0 0 h om om rfl (.refl h) rfl om (fun d=>⟨fun _ y hy=>om,fun _=>Nat.dvd_zero d⟩);have:=Ext.WZ hM.m4 hM.n4 hk (fun d=>by rw[<-YF];exact EV d);refine zq ?_;exact hQ G h' (by rw[eG,this]) x
