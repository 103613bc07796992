import Derived.Test.YtmkiclinllifiaaCyWay
import Derived.Test.YtmkiclinllifiaaSeatA
import Derived.Test.YtmkiclinllifiaaSeatB
import Derived.Test.YtmkiclinllifiaaSeatC
import Derived.Test.YtmkiclinllifiaaSeatD
import Derived.Test.YtmkiclinllifiaaSeatE
import Derived.Test.YtmkiclinllifiaaSeatF
import Derived.Test.YtmkiclinllifiaaSeatG
import Derived.KernelRfl
import Derived.Test.YtmkiclinllifiaaQuO
import Derived.Test.YtmkiclinllifiaaSymSlc
import Derived.Test.YtmkiclinllifiaaCxA
set_option linter.unusedSimpArgs false
set_option linter.unusedVariables false
namespace Go.Proofs.Ytmkiclinllifiaa
open Go.Sim
set_option maxRecDepth 100000
theorem mixed:Try.prog.follows .mixedOrders=true:=mixedP
theorem named(g : FuncId)(fn : Func)(h : Try.prog.funcs[g]? = some fn) : (fn.name == "runtime.NumGoroutine") = false := namedP g fn h
theorem prims0_ok:CallOK Try.prog prims0:=leastF_ok (wayF_ok noPrims_ok)
theorem withF_keep{g0:FuncId}{f:List Value->AHeap->Option (Value×AHeap)}{F:Prims}(hf:∀args h v h',f args h=some (v,h')->KeepB h.next h h')(hF:CallKeep F):CallKeep (withF g0 f F):=by
 intro g args h v h' hc;unfold withF at hc;cases hb:Nat.beq g g0 with
 |false=>rw[hb]at hc;exact hF g args h v h' hc
 |true=>rw[hb]at hc;exact hf args h v h' hc
theorem leastF_keep(args:List Value)(h:AHeap)(v:Value)(h':AHeap)(hc:leastF args h=some (v,h')):KeepB h.next h h':=by
 unfold leastF at hc;repeat' split at hc
 all_goals first
  |(cases hc;done)
  |(simp only[oi,pj]at hc;obtain⟨_,rfl⟩:=hc;exact .refl _ _)
theorem wayF_keep(args:List Value)(h:AHeap)(v:Value)(h':AHeap)(hc:wayF args h=some (v,h')):KeepB h.next h h':=by
 unfold wayF at hc;simp only[Bool.cond_eq_ite]at hc;repeat' split at hc
 all_goals first
  |(cases hc;done)
  |(simp only[oi,pj]at hc;obtain⟨_,rfl⟩:=hc;exact .refl _ _)
  |(simp only[oi,pj]at hc;obtain⟨_,rfl⟩:=hc;exact .push (Nat.le_refl _) _ _)
theorem prims0_keep:CallKeep prims0:=withF_keep leastF_keep (withF_keep wayF_keep noPrims_keep)
end Go.Proofs.Ytmkiclinllifiaa
namespace Go.Proofs.Ytmkiclinllifiaa
open Go.Sim
set_option maxRecDepth 100000
theorem guardC:Try.prog.eqGuardType Try.prog.depth 60=false:=by kernel_rfl
theorem eqC(a b c a' b' c':Int):∃r,eqA Try.prog 30 60 (.agg #[.int .i64 a,.int .i64 b,.int .i64 c]) (.agg #[.int .i64 a',.int .i64 b',.int .i64 c'])=some r/\(r=true↔a=a'/\b=b'/\c=c'):=by
 have h3:Try.prog.underlying 2=some (.int .i64):=by kernel_rfl
 have hst:Try.prog.stoodInHeld 60=false:=by kernel_rfl
 have i3:isAggB Try.prog 2=some false:=by kernel_rfl
 have e3:∀(n:Nat) (x y:Int),eqA Try.prog (n+1) 2 (.int .i64 x) (.int .i64 y)=some (x == y):=by
  intro n x y;unfold eqA;rw[h3];simp
 have key:eqA Try.prog (28+1+1) 60 (.agg #[.int .i64 a,.int .i64 b,.int .i64 c]) (.agg #[.int .i64 a',.int .i64 b',.int .i64 c'])=some ((a == a') && ((b == b') && (c == c'))):=by
  unfold eqA;rw[Try.underlying60];have e3':∀(x y:Int),eqA Try.prog 29 2 (.int .i64 x) (.int .i64 y)=some (x == y):=e3 28;simp only[hst,cond_false,List.foldr,partA,i3,List.getElem?_cons_zero,List.getElem?_cons_succ,e3',String.reduceEq,if_false];cases a == a'<;>cases b == b'<;>cases c == c'<;>rfl
 refine⟨_,key,?_⟩;simp only[Bool.and_eq_true,beq_iff_eq]
end Go.Proofs.Ytmkiclinllifiaa
namespace Go.Sim
theorem Cells.part{h:AHeap}{a:Option Addr}{n es:Nat}{cells:List Value}(c:Cells h a n es cells){i m:Nat}(hi:i+m<=n):Cells h (a.map (aadd · (i*es))) m es ((cells.drop (i*es)).take (m*es)):=by
 have hlen:=c.length;have hm:i*es+m*es<=n*es:=by rw[<-Nat.add_mul];exact Nat.mul_le_mul_right es hi
 cases a with
 |none=>
  obtain⟨rfl,rfl⟩:=c;exact⟨by omega,by simp⟩
 |some ad=>
  obtain⟨h1,h2,h3⟩:=c;obtain⟨b,o,sp⟩:=ad;simp only at h1;subst h1;refine⟨rfl,h2,?_⟩;unfold AHeap.readG aadd at *;simp only[]at h3 ⊢;split at h3
  ·rename_i cs hcs
   obtain⟨e1,e2⟩:=readN_eq h3;refine readN_some ?_ ?_
   ·subst e1
    rw[List.drop_take,List.take_take,List.drop_drop,Nat.min_eq_left (by omega)]
   ·simp only[List.length_take,List.length_drop];omega
  ·cases h3
theorem Cells.head{h:AHeap}{a:Option Addr}{n es:Nat}{cells:List Value}(c:Cells h a n es cells){m:Nat}(hm:m<=n):Cells h a m es (cells.take (m*es)):=by
 have:=c.part (i:=0) (m:=m) (by omega);rw[Nat.zero_mul,List.drop_zero]at this;cases a with
 |none=>exact this
 |some ad=>exact this
theorem flat_takeN{α:Type}{enc:α->List Value}{es:Nat}(he:∀x,(enc x).length=es)(l:List α)(k:Nat):(l.flatMap enc).take (k*es)=(l.take k).flatMap enc:=by
 induction l generalizing k with
 |nil=>simp
 |cons x l ih=>
  cases k with
  |zero=>simp
  |succ k=>rw[List.flatMap_cons,List.take_succ_cons,List.flatMap_cons,List.take_append,he,List.take_of_length_le (by rw[he,Nat.succ_mul];omega),show(k+1)*es-es=k*es by rw[Nat.succ_mul];omega,ih]
theorem flat_dropN{α:Type}{enc:α->List Value}{es:Nat}(he:∀x,(enc x).length=es)(l:List α)(k:Nat):(l.flatMap enc).drop (k*es)=(l.drop k).flatMap enc:=by
 induction l generalizing k with
 |nil=>simp
 |cons x l ih=>
  cases k with
  |zero=>simp
  |succ k=>rw[List.flatMap_cons,List.drop_succ_cons,List.drop_append,he,List.drop_of_length_le (by rw[he,Nat.succ_mul];omega),show(k+1)*es-es=k*es by rw[Nat.succ_mul];omega,ih,List.nil_append]
end Go.Sim
namespace Go.Proofs.Ytmkiclinllifiaa
open Go.Sim
set_option maxRecDepth 100000
structure Ck where
 a:Int
 b:Int
 d:Int
instance:Inhabited Ck:=⟨⟨0,0,0⟩⟩
def Ck.cells(k:Ck):List Value:=[.int .i64 k.a,.int .i64 k.b,.int .i64 k.d]
def Ck.ok(k:Ck):Prop:=okC k.a k.b k.d
abbrev Cs(h:AHeap)(a:Option Addr)(n:Nat)(l:List Ck):Prop:=Rows Ck.cells 3 h a n l
theorem ck_len(k:Ck):k.cells.length=3:=rfl
theorem ck_ok(k:Ck):k.cells.all cellOK=true:=rfl
theorem cs_at{h:AHeap}{a:Option Addr}{n:Nat}{l:List Ck}(p:Cs h a n l){i:Int}(h0:0<=i)(hi:i<n) :
  ∃b o x y z,a=some ⟨b,o,none⟩/\b<h.next/\gt l i=⟨x,y,z⟩/\h.readG ⟨b,o+i.toNat*3,none⟩ 3=some [.int .i64 x,.int .i64 y,.int .i64 z]:=by
 obtain⟨b,o,h1,h2,h3⟩:=p.at h0 hi;exact⟨b,o,(gt l i).a,(gt l i).b,(gt l i).d,h1,h2,rfl,h3 0 3 (by omega) (by omega)⟩
theorem gt_extR{α:Type}[Inhabited α]{l l':List α}(h:l.length=l'.length)(k:∀j:Int,0<=j->j<l.length->gt l j=gt l' j):l=l':=by
 apply List.ext_getElem h;intro i h1 h2;have:=k i (by omega) (by omega);unfold gt at this;simpa[h1,h2]using this
variable{F:Prims}{call head arith c0 e0 f0 j0 k0 neg l0 m0 n0 o0 p0 q0 nz r0 rd wr push next s0 t0 u0 v0 w0 x0 y0 z0 f1 part j1 n1 o1 r1 lowered bump t1 u1 lt ne v1 w1 y1 yn z1 f2 g2 i2 j2 n2 o2 r2:_}(hA:AP F ⟨call,head,arith,c0,e0,f0,j0,k0,neg,l0,m0,n0,o0,p0,q0,nz,r0,rd,wr,push,next,s0,t0,u0,v0,w0,x0,y0,z0,f1,part,j1,n1,o1,r1,lowered,bump,t1,u1,lt,ne,v1,w1,y1,yn,z1,f2,g2,i2,j2,n2,o2,r2⟩)
include hA
theorem rcgcd_loop{h0:AHeap}{Q:Exit->SS->Prop}:∀(m:Nat) (a b:Int) (h:AHeap),b.natAbs<=m->i63 a->i63 b->0<=a->0<=b->Ext h0 h->
  (∀a':Int,i63 a'->(a'.natAbs:Int)=Int.gcd a b->0<=a'->∀e kn K h',Ext h0 h'->Q (.exit 0) ⟨(0,.int .i64 a') :: e,kn,K,h'⟩)->head 60 2 0 ⟨[(0,.int .i64 a),(1,.int .i64 b)],0,[],h⟩ Q:=by
 intro m
 induction m with
 |zero=>
  intro a b h hm ha hb a0 b0 he hQ;have hb0:b=0:=by omega
  refine hA.roundR Try.func60 r60_ok (zc ?_);refine br (b≠0) (by rw[e_neq hA]) (fun c=>absurd hb0 c) (fun c=>?_)<;>refine zc ?_;exact hQ a ha (by rw[hb0];simp) a0 _ _ _ h he
 |succ m ih=>
  intro a b h hm ha hb a0 b0 he hQ;refine hA.roundR Try.func60 r60_ok (zc ?_);refine br (b≠0) (by rw[e_neq hA]) (fun c=>?_) (fun c=>?_)<;>refine zc ?_
  ·obtain⟨h9,hh9⟩:∃z,z=bump h 6:=⟨_,rfl⟩
   have e9:Ext h h9:=by rw[hh9,e_bump hA];exact .bump _ _
   rw[<-hh9];refine⟨nz_ok hA c,?_⟩;refine zc ?_;rw[rem_tmod hA];have l1:(a.tmod b).natAbs<b.natAbs:=by rw[Int.natAbs_tmod];exact Nat.mod_lt _ (by omega)
   unfold i63 at hb;refine ih b (a.tmod b) h9 (by omega) hb (by unfold i63;omega) b0 (Int.tmod_nonneg _ a0) (he.trans e9) (fun a' h1 h2=>hQ a' h1 ?_);rw[h2,gcd_tmod]
  ·have hb0:b=0:=by omega
   exact hQ a ha (by rw[hb0];simp) a0 _ _ _ h he
theorem rcgcd_ok{h:AHeap}(hlow:h.low<=h.next){a b:Int}(ha:i63 a)(hb:i63 b){Q:Value->AHeap->Prop}(hQ:∀g:Int,g=Int.gcd a b->∀h',Ext h h'->Q (.int .i64 g) h'):call 60 [.int .i64 a,.int .i64 b] h Q:=by
 refine hA.bodyR Try.func60 r60_ok (hA.alike _ _ _ rfl) hlow (zc ?_);rw[imax_abs hA ha,imax_abs hA hb];have ha':i63 (a.natAbs:Int):=by unfold i63 at *;omega
 have hb':i63 (b.natAbs:Int):=by unfold i63 at *;omega
 have e:Int.gcd (a.natAbs:Int) (b.natAbs:Int)=Int.gcd a b:=by unfold Int.gcd;rw[Int.natAbs_natCast,Int.natAbs_natCast]
 have a0:(0:Int)<=(a.natAbs:Int):=by omega
 have b0:(0:Int)<=(b.natAbs:Int):=by omega
 rw[<-e]at hQ;generalize (a.natAbs:Int)=x at *;generalize (b.natAbs:Int)=y at *;refine rcgcd_loop hA y.natAbs x y h (Nat.le_refl _) ha' hb' a0 b0 (.refl h) (fun a' h1 h2 h3 e kn K h' he=>?_);refine zc ?_;exact hQ _ (by omega) h' he
theorem rccheck_ok{h:AHeap}(hlow:h.low<=h.next){a b d:Int}{Q:Value->AHeap->Prop}
  (hQ:∀(e:Int) h',(e=0/\okC a b d)\/(e=8/\¬okC a b d)->Ext h h'->Q (.int .i64 e) h'):call 33 [.agg #[.int .i64 a,.int .i64 b,.int .i64 d]] h Q:=by
 have bad:¬(1<=d/\d<=1000000000/\-1000000000<=a/\a<=1000000000/\-1000000000<=b/\b<=1000000000/\Int.gcd (Int.gcd a b) d=1)->¬okC a b d:=fun w q=>w ((okC_iff a b d).1 q)
 obtain⟨h9,hh9⟩:∃z,z=bump h 39:=⟨_,rfl⟩;have e9:Ext h h9:=by rw[hh9];exact ext_bump hA _ _
 have l9:=e9.lowOK hlow;refine hA.bodyR Try.func33 r33_ok (hA.alike _ _ _ rfl) hlow (zc ?_);rw[<-hh9];refine br (d<1) (by rw[e_lss hA]) (fun c1=>?_) (fun c1=>?_)<;>refine zc ?_
 ·exact hQ _ _ (.inr ⟨rfl,bad (by omega)⟩) e9
 refine br (1000000000<d) (by rw[e_gtr hA]) (fun c2=>?_) (fun c2=>?_)<;>refine zc ?_
 ·exact hQ _ _ (.inr ⟨rfl,bad (by omega)⟩) e9
 refine br (a < -1000000000) (by rw[e_lss hA]) (fun c3=>?_) (fun c3=>?_)<;>refine zc ?_
 ·exact hQ _ _ (.inr ⟨rfl,bad (by omega)⟩) e9
 refine br (1000000000<a) (by rw[e_gtr hA]) (fun c4=>?_) (fun c4=>?_)<;>refine zc ?_
 ·exact hQ _ _ (.inr ⟨rfl,bad (by omega)⟩) e9
 refine br (b < -1000000000) (by rw[e_lss hA]) (fun c5=>?_) (fun c5=>?_)<;>refine zc ?_
 ·exact hQ _ _ (.inr ⟨rfl,bad (by omega)⟩) e9
 refine br (1000000000<b) (by rw[e_gtr hA]) (fun c6=>?_) (fun c6=>?_)<;>refine zc ?_
 ·exact hQ _ _ (.inr ⟨rfl,bad (by omega)⟩) e9
 refine rcgcd_ok hA (low_fresh hA h9) (by unfold i63;omega) (by unfold i63;omega) (fun g hg hz ez=>⟨_,rfl,?_⟩);obtain⟨hX,hhX⟩:∃z,z=lowered h9 hz:=⟨_,rfl⟩;have eX:Ext h hX:=by rw[hhX];exact ext_low hA hlow e9 ez
 have lX:=eX.lowOK hlow;refine zc ?_;rw[<-hhX];have g1:=gcd_i63 (a:=a) (b:=b) (by unfold i63;omega) (by unfold i63;omega);rw[<-hg]at g1;refine rcgcd_ok hA (low_fresh hA hX) g1 (by unfold i63;omega) (fun g' hg' hz' ez'=>⟨_,rfl,?_⟩);obtain⟨hY,hhY⟩:∃z,z=lowered hX hz':=⟨_,rfl⟩;have eY:Ext h hY:=by rw[hhY];exact ext_low hA hlow eX ez'
 refine zc ?_;rw[<-hhY];rw[hg]at hg';refine br (g'≠1) (by rw[e_neq hA]) (fun c5=>?_) (fun c5=>?_)<;>refine zc ?_
 ·exact hQ _ _ (.inr ⟨rfl,bad (by omega)⟩) eY
 ·exact hQ _ _ (.inl ⟨rfl,(okC_iff a b d).2 (by omega)⟩) eY
theorem rcboth_ok{h:AHeap}(hlow:h.low<=h.next){a b d a' b' d':Int}{Q:Value->AHeap->Prop}
  (hQ:∀(e:Int) h',(e=0/\okC a b d/\okC a' b' d')\/(e=8/\¬(okC a b d/\okC a' b' d'))->Ext h h'->Q (.int .i64 e) h'):call 73 [.agg #[.int .i64 a,.int .i64 b,.int .i64 d],.agg #[.int .i64 a',.int .i64 b',.int .i64 d']] h Q:=by
 refine hA.bodyR Try.func73 r73_ok (hA.alike _ _ _ rfl) hlow (zc ?_);refine rccheck_ok hA hlow (fun e h1 k1 x1=>⟨_,rfl,?_⟩);refine zc ?_;refine br (e≠0) (by rw[e_neq hA]) (fun c=>?_) (fun c=>?_)<;>refine zc ?_
 ·refine hQ _ _ (.inr ⟨rfl,fun w=>?_⟩) x1
  rcases k1 with ⟨q,_⟩|⟨_,q⟩
  ·exact c q
  ·exact q w.1
 have q1:okC a b d:=by
  rcases k1 with ⟨_,q⟩|⟨q,_⟩
  ·exact q
  ·omega
 refine rccheck_ok hA (x1.lowOK hlow) (fun e h2 k2 x2=>⟨_,rfl,?_⟩);refine zc ?_;refine br (e≠0) (by rw[e_neq hA]) (fun c=>?_) (fun c=>?_)<;>refine zc ?_
 ·refine hQ _ _ (.inr ⟨rfl,fun w=>?_⟩) (x1.trans x2)
  rcases k2 with ⟨q,_⟩|⟨_,q⟩
  ·exact c q
  ·exact q w.2
 refine hQ _ _ (.inl ⟨rfl,q1,?_⟩) (x1.trans x2);rcases k2 with ⟨_,q⟩|⟨q,_⟩
 ·exact q
 ·omega
theorem made_ok{h:AHeap}(hlow:h.low<=h.next){n m d:Int}(hn:wideC n)(hm:wideC m)(hd:wideC d)(d0:d≠0){z:Cq}(h1:(n:Rat)=z.re*d)(h2:(m:Rat)=z.im*d){Q:Value->AHeap->Prop}
  (hQ:∀(r s t e:Int) h',outC z r s t e->Ext h h'->Q (.tuple #[.agg #[.int .i64 r,.int .i64 s,.int .i64 t],.int .i64 e]) h'):call 74 [.int .i64 n,.int .i64 m,.int .i64 d] h Q:=by
 unfold wideC at hn hm hd;refine hA.bodyR Try.func74 r74_ok (hA.alike _ _ _ rfl) hlow (zc ?_);refine br (d=0) (by rw[e_eql hA]) (fun q=>absurd q d0) (fun _=>?_)<;>refine zc ?_;refine rcgcd_ok hA hlow (by unfold i63;omega) (by unfold i63;omega) (fun g0 hg0 k1 x1=>⟨_,rfl,?_⟩);refine zc ?_;have i0:i63 g0:=by rw[hg0];exact gcd_i63 (by unfold i63;omega) (by unfold i63;omega)
 refine rcgcd_ok hA (x1.lowOK hlow) i0 (by unfold i63;omega) (fun g hg k2 x2=>⟨_,rfl,?_⟩);have y2:=x1.trans x2;have i1:i63 g:=by rw[hg];exact gcd_i63 i0 (by unfold i63;omega)
 have g0':0<=g:=by omega
 rw[hg0]at hg;unfold i63 at i1;obtain⟨s,hs⟩:∃s,s=if d<0 then -g else g:=⟨_,rfl⟩
 have R:=red_ok d0 hg hs h1 h2;obtain⟨R0,R1,Rn,Rm,Rd,Rp,Rg,Rre,Rim⟩:=R;have q1:arith .quo .i64 n s=n.tdiv s:=quoT hA (by omega) (by omega);have q2:arith .quo .i64 m s=m.tdiv s:=quoT hA (by omega) (by omega);have q3:arith .quo .i64 d s=d.tdiv s:=quoT hA (by omega) (by omega);refine zc ?_;generalize n.tdiv s=r at *;generalize m.tdiv s=t at *;generalize d.tdiv s=u at *;have yes:(-1000000000<=r/\r<=1000000000)->(-1000000000<=t/\t<=1000000000)->(-1000000000<=u/\u<=1000000000)->isC r t u z:=fun a b c=>⟨Rp,c.2,a.1,a.2,b.1,b.2,Rg,Rre,Rim⟩
 have no:¬(isC r t u z)->∀a b c,¬isC a b c z:=fun w a b c k=>by
  have c1:=cross (a:=r) (a':=a) Rre k.re;have c2:=cross (a:=t) (a':=b) Rim k.im;have p:=Nat.dvd_antisymm (den_dvd c1 c2 Rg) (den_dvd c1.symm c2.symm k.g);have hd:u=c:=by have:=k.d1;omega
  subst hd;have e1:r=a:=Int.eq_of_mul_eq_mul_right (by omega) c1;have e2:t=b:=Int.eq_of_mul_eq_mul_right (by omega) c2;rw[e1,e2]at w;exact w k
 have l2:=y2.lowOK hlow;refine br (d<0) (by rw[e_lss hA]) (fun c=>?_) (fun c=>?_)<;>refine zc ?_
 ·have e:neg .i64 g=s:=by rw[hs,if_pos c,e_neg hA,wrap64 (by omega) (by omega)];omega
  rw[e];obtain⟨h9,hh9⟩:∃z,z=bump k2 12:=⟨_,rfl⟩;have e9:Ext k2 h9:=by rw[hh9];exact ext_bump hA _ _
  have l9:=e9.lowOK l2;have y9:=y2.trans e9;rw[<-hh9]
  (refine zq ?_;repeat ((first|rw[q1]|rw[q2]|rw[q3]);refine zq ?_))
  refine rccheck_ok hA l9 (fun e3 h3 k3 x3=>⟨_,rfl,?_⟩);refine zc ?_;refine br (e3≠0) (by rw[e_neq hA]) (fun c3=>?_) (fun c3=>?_)<;>refine zc ?_
  ·refine hQ _ _ _ _ _ (.inr ⟨no (fun w=>?_),rfl,rfl,rfl,rfl⟩) (y9.trans x3)
   rcases k3 with ⟨q,_⟩|⟨_,q⟩
   ·exact c3 q
   ·exact q ⟨_,w⟩
  have ok:okC r t u:=by
   rcases k3 with ⟨_,q⟩|⟨q,_⟩
   ·exact q
   ·omega
  obtain⟨z',hz'⟩:=ok;exact hQ _ _ _ _ _ (.inl ⟨yes ⟨hz'.a1,hz'.a2⟩ ⟨hz'.b1,hz'.b2⟩ ⟨by have:=hz'.d1;omega,hz'.d2⟩,rfl⟩) (y9.trans x3)
 ·have e:g=s:=by rw[hs,if_neg c]
  rw[e];obtain⟨h9,hh9⟩:∃z,z=bump k2 12:=⟨_,rfl⟩;have e9:Ext k2 h9:=by rw[hh9];exact ext_bump hA _ _
  have l9:=e9.lowOK l2;have y9:=y2.trans e9;rw[<-hh9]
  (refine zq ?_;repeat ((first|rw[q1]|rw[q2]|rw[q3]);refine zq ?_))
  refine rccheck_ok hA l9 (fun e3 h3 k3 x3=>⟨_,rfl,?_⟩);refine zc ?_;refine br (e3≠0) (by rw[e_neq hA]) (fun c3=>?_) (fun c3=>?_)<;>refine zc ?_
  ·refine hQ _ _ _ _ _ (.inr ⟨no (fun w=>?_),rfl,rfl,rfl,rfl⟩) (y9.trans x3)
   rcases k3 with ⟨q,_⟩|⟨_,q⟩
   ·exact c3 q
   ·exact q ⟨_,w⟩
  have ok:okC r t u:=by
   rcases k3 with ⟨_,q⟩|⟨q,_⟩
   ·exact q
   ·omega
  obtain⟨z',hz'⟩:=ok;exact hQ _ _ _ _ _ (.inl ⟨yes ⟨hz'.a1,hz'.a2⟩ ⟨hz'.b1,hz'.b2⟩ ⟨by have:=hz'.d1;omega,hz'.d2⟩,rfl⟩) (y9.trans x3)
theorem rcmul_ok{h:AHeap}(hlow:h.low<=h.next){a b d a' b' d':Int}{Q:Value->AHeap->Prop}
  (hQ:∀(r s t e:Int) h',OpC Cq.mul a b d a' b' d' r s t e->Ext h h'->Q (.tuple #[.agg #[.int .i64 r,.int .i64 s,.int .i64 t],.int .i64 e]) h'):call 54 [.agg #[.int .i64 a,.int .i64 b,.int .i64 d],.agg #[.int .i64 a',.int .i64 b',.int .i64 d']] h Q:=by
 refine hA.bodyR Try.func54 r54_ok (hA.alike _ _ _ rfl) hlow (zc ?_);refine rcboth_ok hA hlow (fun e h1 k1 x1=>⟨_,rfl,?_⟩);refine zc ?_;refine br (e≠0) (by rw[e_neq hA]) (fun c=>?_) (fun c=>?_)<;>refine zc ?_
 ·rcases k1 with ⟨q,_⟩|⟨q,w⟩
  ·exact absurd q c
  ·exact hQ _ _ _ _ _ (.inl ⟨w,rfl,rfl,rfl,rfl⟩) x1
 obtain⟨⟨z,hz⟩,⟨w,hw⟩⟩:okC a b d/\okC a' b' d':=by
  rcases k1 with ⟨_,q⟩|⟨q,_⟩
  ·exact q
  ·omega
 have p1:=prod18 hz.a1 hz.a2 hw.a1 hw.a2;have p2:=prod18 hz.b1 hz.b2 hw.b1 hw.b2;have p3:=prod18 hz.a1 hz.a2 hw.b1 hw.b2;have p4:=prod18 hz.b1 hz.b2 hw.a1 hw.a2;have p5:=prod18 (x:=d) (y:=d') (by have:=hz.d1;omega) hz.d2 (by have:=hw.d1;omega) hw.d2;have dd:d*d'≠0:=Int.mul_ne_zero (by have:=hz.d1;omega) (by have:=hw.d1;omega);have m1:arith .mul .i64 a a'=a*a':=mul64 hA (by omega) (by omega);have m2:arith .mul .i64 b b'=b*b':=mul64 hA (by omega) (by omega);have m3:arith .mul .i64 a b'=a*b':=mul64 hA (by omega) (by omega);have m4:arith .mul .i64 b a'=b*a':=mul64 hA (by omega) (by omega);have m5:arith .mul .i64 d d'=d*d':=mul64 hA (by omega) (by omega);have s1:arith .sub .i64 (a*a') (b*b')=a*a'-b*b':=sub64 hA (by omega) (by omega);have s2:arith .add .i64 (a*b') (b*a')=a*b'+b*a':=add64 hA (by omega) (by omega);rw[m1,m2,m3,m4,m5,s1,s2];refine made_ok hA (x1.lowOK hlow) (z:=z.mul w) (by unfold wideC;omega) (by unfold wideC;omega) (by unfold wideC;omega) dd ?_ ?_ (fun r s t e h2 k2 x2=>⟨_,_,_,_,rfl,?_⟩)
 ·show _=(z.re*w.re-z.im*w.im)*_
  rw[Rat.intCast_sub,Rat.intCast_mul,Rat.intCast_mul,Rat.intCast_mul,hz.re,hw.re,hz.im,hw.im];grind
 ·show _=(z.re*w.im+z.im*w.re)*_
  rw[Rat.intCast_add,Rat.intCast_mul,Rat.intCast_mul,Rat.intCast_mul,hz.im,hw.im,hz.re,hw.re];grind
 refine zc ?_;exact hQ _ _ _ _ _ (.inr ⟨z,w,hz,hw,k2⟩) (x1.trans x2)
