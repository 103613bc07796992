import Derived.Test.YtmkiclinllifiaaSymFacts
import Derived.Test.YtmkiclinllifiaaSymN
import Derived.Test.YtmkiclinllifiaaSimF
import Derived.KernelRfl
import Derived.Test.YtmkiclinllifiaaCyA
import Derived.Test.YtmkiclinllifiaaTreeP
set_option linter.unusedSimpArgs false
set_option linter.unusedVariables false
namespace Go.Proofs.Ytmkiclinllifiaa
open Go.Sim
set_option maxRecDepth 100000
def leftN(n:Nat)(seen:List Nat):Nat:=((List.range n).filter fun i=>!seen.contains i).length
theorem leftN_lt{n:Nat}{seen:List Nat}{i:Nat}(hi:i<n)(hs:i∉seen):leftN n (seen++[i])<leftN n seen:=by
 unfold leftN;have e:(List.range n).filter (fun j=>!(seen++[i]).contains j)=((List.range n).filter fun j=>!seen.contains j).filter (fun j=>j != i):=by
  rw[List.filter_filter]
  congr 1
  funext j
  by_cases h:j=i
  ·subst h;simp
  ·simp[h]
 rw[e];refine List.length_filter_lt_length_iff_exists.2 ⟨i,?_,by simp⟩;rw[List.mem_filter];exact⟨List.mem_range.2 hi,by simpa using hs⟩
def LeastIs(l:List (Int×Bool))(S:Nat->Prop)(f:Int):Prop:=
 (f=-1/\∀(i:Nat) (e:Int×Bool),S i->l[i]?=some e->e.2=true)\/(0<=f/\(∃i,S i/\l[i]?=some (f,false))/\∀(i:Nat) (e:Int×Bool),S i->l[i]?=some e->e.2=false->f<=e.1)
theorem LeastIs.uniq{l:List (Int×Bool)}{S:Nat->Prop}{f g:Int}(h:LeastIs l S f)(k:LeastIs l S g):f=g:=by
 rcases h with ⟨rfl,h1⟩|⟨h0,⟨i,hi,h1⟩,h2⟩<;>rcases k with ⟨rfl,k1⟩|⟨k0,⟨j,hj,k1⟩,k2⟩
 ·rfl
 ·have:=h1 j _ hj k1;simp at this
 ·have:=k1 i _ hi h1;simp at this
 ·have:=h2 j _ hj k1 rfl
  have:=k2 i _ hi h1 rfl;simp only at *;omega
theorem LeastIs.step{l:List (Int×Bool)}{S:Nat->Prop}{f:Int}(h:LeastIs l S f){i:Nat}{n:Int}{b:Bool}(hi:l[i]?=some (n,b))(hn:0<=n){S':Nat->Prop}(hS:∀j,S' j↔S j\/j=i) :
  LeastIs l S' (if b=false/\(f<0\/n<f)then n else f):=by
 by_cases c:b=false/\(f<0\/n<f)
 ·rw[if_pos c]
  obtain⟨rfl,c⟩:=c;refine .inr ⟨hn,⟨i,(hS i).2 (.inr rfl),hi⟩,fun j e hj he hb=>?_⟩;rcases(hS j).1 hj with hj|rfl
  ·rcases h with ⟨rfl,h1⟩|⟨h0,_,h2⟩
   ·have:=h1 j e hj he;rw[this]at hb;cases hb
   ·have:=h2 j e hj he hb;omega
  ·rw[hi]at he;obtain rfl:=Option.some.inj he;exact Int.le_refl _
 ·rw[if_neg c]
  rcases h with ⟨rfl,h1⟩|⟨h0,⟨k,hk,h1⟩,h2⟩
  ·refine .inl ⟨rfl,fun j e hj he=>?_⟩
   rcases(hS j).1 hj with hj|rfl
   ·exact h1 j e hj he
   ·rw[hi]at he;obtain rfl:=Option.some.inj he
    cases b with
    |true=>rfl
    |false=>exact absurd ⟨rfl,.inl (by omega)⟩ c
  ·refine .inr ⟨h0,⟨k,(hS k).2 (.inl hk),h1⟩,fun j e hj he hb=>?_⟩
   rcases(hS j).1 hj with hj|rfl
   ·exact h2 j e hj he hb
   ·rw[hi]at he;obtain rfl:=Option.some.inj he
    simp only at hb ⊢;refine Int.not_lt.1 fun q=>c ⟨hb,.inr q⟩
theorem leastOf_is:∀(l:List (Int×Bool)),(∀e∈l,0<=e.1)->LeastIs l (fun i=>i<l.length) (leastOf l)
 | [],_=>.inl ⟨rfl,fun i e hi he=>by simp at he⟩
 |(n,b) :: r,h=>by
  have ih:=leastOf_is r (fun e he=>h e (List.mem_cons_of_mem _ he));have hn:0<=n:=h (n,b) (List.mem_cons_self);have ih':LeastIs ((n,b) :: r) (fun i=>0<i/\i<r.length+1) (leastOf r):=by
   rcases ih with ⟨e,h1⟩|⟨h0,⟨k,hk,h1⟩,h2⟩
   ·refine .inl ⟨e,fun i e hi he=>?_⟩
    obtain⟨j,rfl⟩:∃j,i=j+1:=⟨i-1,by omega⟩;exact h1 j e (by omega) (by simpa using he)
   ·refine .inr ⟨h0,⟨k+1,⟨by omega,by omega⟩,by simpa using h1⟩,fun i e hi he hb=>?_⟩
    obtain⟨j,rfl⟩:∃j,i=j+1:=⟨i-1,by omega⟩;exact h2 j e (by omega) (by simpa using he) hb
  have:=ih'.step (i:=0) (n:=n) (b:=b) rfl hn (S':=fun i=>i<((n,b) :: r).length) (fun j=>by simp only[List.length_cons];omega);have e:leastOf ((n,b) :: r)=if b=false/\(leastOf r<0\/n<leastOf r)then n else leastOf r:=by
   simp only[leastOf];cases b with
   |true=>simp
   |false=>
    by_cases c:leastOf r<0\/n<leastOf r
    ·rw[if_pos ⟨rfl,c⟩]
     rcases c with c|c<;>simp[c]
    ·rw[if_neg (fun q=>c q.2)]
     have c1:¬leastOf r<0:=fun q=>c (.inl q)
     have c2:¬n<leastOf r:=fun q=>c (.inr q)
     simp[c1,c2]
  rw[e];exact this
theorem flagsOf_at:∀{es:List (Value×Value)} {l:List (Int×Bool)},flagsOf es=some l->l.length=es.length/\(∀e∈l,0<=e.1)/\∀(i:Nat) (e:Value×Value),es[i]?=some e->∃n b,e=(.int .i64 n,.bool b)/\l[i]?=some (n,b)/\0<=n
 | [],l,h=>by
  simp only[flagsOf,oi]at h;subst h;exact⟨rfl,(fun e he=>by cases he),(fun i e he=>by simp at he)⟩
 |e :: r,l,h=>by
  simp only[flagsOf]at h;split at h
  ·rename_i n b l' h1 h2 h3
   cases c:decide (0<=n)with
   |false=>rw[c]at h;cases h
   |true=>
    rw[c]at h;simp only[cond_true,oi]at h;subst h;have hn:=of_decide_eq_true c;obtain⟨k1,k2,k3⟩:=flagsOf_at h3;refine⟨by simp[k1],fun x hx=>?_,fun i x hx=>?_⟩
    ·rcases List.mem_cons.1 hx with rfl|hx
     ·exact hn
     ·exact k2 x hx
    ·match i with
     |0=>simp at hx;subst hx;exact⟨n,b,by rw[<-h1,<-h2],rfl,hn⟩
     |i+1=>simpa using k3 i x (by simpa using hx)
  ·cases h
theorem mixedP:Try.prog.follows .mixedOrders=true:=by kernel_rfl
theorem namesP : Try.prog.funcs.toList.all (fun fn => !(fn.name == "runtime.NumGoroutine")) = true := by kernel_rfl
theorem namedP(g : FuncId)(fn : Func)(h : Try.prog.funcs[g]? = some fn) : (fn.name == "runtime.NumGoroutine") = false := by
 have:=List.all_eq_true.1 namesP fn (List.mem_of_getElem? (by simpa using h));simpa using this
theorem u76:Try.prog.underlying 76=some (.map 3 4):=by kernel_rfl
noncomputable def cLeast:Code:=Try.f63.body.getD .skip
theorem cLeast_is:Try.f63.body=some cLeast:=by kernel_rfl
variable{F:Prims}{a0 head b0 c0 d0 bnot e0 f0 g0 j0 l0 m0 n0 o0 p0 nz q0 rd wr r0 next s0 t0 u0 v0 w0 x0 y0 z0 a1 part b1 d1 e1 l1 o1 p1 r1 u1 lt ne v1 x1 y1 yn z1 a2 b2 e2 i2 m2 mrng ment:_}(hA:AP F ⟨a0,head,b0,c0,d0,bnot,e0,f0,g0,j0,l0,m0,n0,o0,p0,nz,q0,rd,wr,r0,next,s0,t0,u0,v0,w0,x0,y0,z0,a1,part,b1,d1,e1,l1,o1,p1,r1,u1,lt,ne,v1,x1,y1,yn,z1,a2,b2,e2,i2,m2,mrng,ment⟩)
include hA
theorem e_mrng(t:TypeId)(x:Value)(h h':AHeap):mrng t x h h'=(rangeH Try.prog h t x=some (.pointer (some ⟨h.next,0,none⟩),h')):=by have:=hA.eq;injections;subst_vars;rfl
theorem e_ment(h:AHeap)(x k v:Value):ment h x k v=(entryH h x=some (.tuple #[k,v],h)):=by have:=hA.eq;injections;subst_vars;rfl
theorem least_wn(hF:CallOK Try.prog F){h:AHeap}(hlow:h.low=h.next){id:Nat}(hid:id<h.next){es:List (Value×Value)}(hm:h.m.get id=some (.map es)){l:List (Int×Bool)}(hfl:flagsOf es=some l) :
  WNs progU Try.f63.ntmps cLeast ⟨argsL [.map (some id)] 0 [],0,[],h⟩ (fun e s'=>(e=.normal\/e=.ret)/\∃v,lk s'.env 2=some v/\noLoc v=true/\v=.int .i64 (leastOf l)/\h.next<=s'.h.low):=by
 have run:=fun {c:Code} {s:SS} {Q:Exit->SS->Prop} (hl:loopsOf c=[]) (hr:rangesOf c=[])=>WNs.run hA.toAOK live mixedP hF namedP Try.func63 cLeast_is (c:=c) hl hr (s:=s) (Q:=Q)
 refine WNs.seq (run rfl rfl (zc ?_));refine WNs.seq (run rfl rfl (zc ?_));obtain⟨h1,hh1⟩:∃z,z=h.pushB (.iter (some id) es.length []):=⟨_,rfl⟩;refine WNs.seq (WNs.seq (run rfl rfl (zc ?_)));refine⟨h1,(e_mrng hA _ _ _ _).mpr (by unfold rangeH;rw[u76];simp only[hm,hh1]),?_⟩;refine zc ?_;rw[e_next hA];have g1:h1.m.get h.next=some (.iter (some id) es.length []):=by rw[hh1];show(h.m.set _ _).get _=_;rw[Tri.get_set];simp
 have g2:h1.m.get id=some (.map es):=by rw[hh1];show(h.m.set _ _).get _=_;rw[Tri.get_set_ne _ _ (by omega)];exact hm
 obtain⟨k1,k2,k3⟩:=flagsOf_at hfl;refine WNs.block ?_;refine WNs.lessE (env0:=[(3,.int .i64 (-1)),(7,.pointer (some ⟨h.next,0,none⟩))]) (fun p hp=>?_) ?_
 ·simp only[List.mem_cons,List.not_mem_nil,or_false]at hp
  rcases hp with rfl|rfl<;>rfl
 refine WNs.loop [3,7] 0 (fun m s=>∃seen f h',s=⟨[(3,.int .i64 f),(7,.pointer (some ⟨h.next,0,none⟩))],0,[],h'⟩/\h'.m.get h.next=some (.iter (some id) es.length seen)/\h'.m.get id=some (.map es)/\LeastIs l (·∈seen) f/\(∀i∈seen,i<es.length)/\m=leftN es.length seen/\h.next<=h'.low) ?_
  (m:=leftN es.length []) ⟨[],-1,h1,rfl,g1,g2,.inl ⟨rfl,fun i e hi=>(by cases hi)⟩,(fun i hi=>by cases hi),rfl,by rw[hh1];show h.next<=h.low;omega⟩
 rintro m s ⟨seen,f,h',rfl,q1,q2,q3,q4,rfl,q5⟩;refine WNs.seq (WNs.next (d:=8) (d2:=9) (x:=.tmp 7) rfl rfl rfl (by decide) rfl rfl rfl (by decide) rfl rfl q1 q2 (fun hall=>?_) (fun i e he hi=>?_))
 ·refine WNs.seq (WNs.cond rfl (WNs.exit ?_))
  refine WNs.seq (run rfl rfl (zc ?_));refine WNs.ret ⟨.inr rfl,_,rfl,rfl,?_,q5⟩;rw[q3.uniq (g:=leastOf l) ?_];have:=leastOf_is l k2;rcases this with ⟨e,w1⟩|⟨e,⟨j,j1,j2⟩,w2⟩
  ·exact .inl ⟨e,fun i x hi=>w1 i x (by show i<l.length;rw[k1];exact q4 i hi)⟩
  ·exact .inr ⟨e,⟨j,hall j (by rw[<-k1];exact j1),j2⟩,fun i x hi=>w2 i x (by show i<l.length;rw[k1];exact q4 i hi)⟩
 ·refine WNs.seq (WNs.cond rfl (WNs.skip ?_))
  obtain⟨n,b,rfl,f1,f2⟩:=k3 i e he;have hi':i<es.length:=(List.getElem?_eq_some_iff.1 he).1;obtain⟨h2,hh2⟩:∃z,z=h'.putB h.next (.iter (some id) es.length (seen++[i])):=⟨_,rfl⟩;have g3:h2.m.get h.next=some (.iter (some id) es.length (seen++[i])):=by rw[hh2];show(h'.m.set _ _).get _=_;rw[Tri.get_set];simp
  have g4:h2.m.get id=some (.map es):=by rw[hh2];show(h'.m.set _ _).get _=_;rw[Tri.get_set_ne _ _ (by omega)];exact q2
  have g5:h.next<=h2.low:=by rw[hh2];show h.next<=Nat.min h'.low h.next;exact Nat.le_min.2 ⟨q5,Nat.le_refl _⟩
  have hent:entryH h2 (.pointer (some ⟨h.next,0,none⟩))=some (.tuple #[.int .i64 n,.bool b],h2):=by
   unfold entryH;simp only[g3,g4,List.getLast?_append,List.getLast?_singleton,Option.some_or,Nat.beq_refl,cond_true,he]
  have next:∀f',f'=(if b=false/\(f<0\/n<f)then n else f)->∃m' s2,m'<leftN es.length seen/\s2=(⟨[(3,.int .i64 f'),(7,.pointer (some ⟨h.next,0,none⟩))],0,[],h2⟩:SS)/\∃seen f h',s2=⟨[(3,.int .i64 f),(7,.pointer (some ⟨h.next,0,none⟩))],0,[],h'⟩/\h'.m.get h.next=some (.iter (some id) es.length seen)/\h'.m.get id=some (.map es)/\LeastIs l (·∈seen) f/\(∀i∈seen,i<es.length)/\m'=leftN es.length seen/\h.next<=h'.low:=by
   intro f' hf';refine⟨_,_,leftN_lt hi' hi,rfl,seen++[i],f',h2,rfl,g3,g4,?_,?_,rfl,g5⟩
   ·rw[hf']
    exact q3.step f1 f2 (fun j=>by simp)
   ·intro j hj
    rcases List.mem_append.1 hj with hj|hj
    ·exact q4 j hj
    ·rw[List.mem_singleton.1 hj];exact hi'
  rw[<-hh2];refine run rfl rfl (zc ?_);refine⟨.int .i64 n,.bool b,(e_ment hA _ _ _ _).mpr hent,?_⟩;refine zc ?_;cases b with
  |true=>
   rw[show bnot true=false from e_bnot hA true];refine zc ?_;obtain⟨m',s2,w1,rfl,w2⟩:=next f (by simp);exact⟨m',_,w1,rfl,w2⟩
  |false=>
   rw[show bnot false=true from e_bnot hA false];refine zc ?_;refine br (f<0) (by rw[e_lss hA]) (fun c1=>?_) (fun c1=>?_)<;>refine zc ?_
   ·obtain⟨m',s2,w1,rfl,w2⟩:=next n (by rw[if_pos ⟨rfl,.inl c1⟩])
    exact⟨m',_,w1,rfl,w2⟩
   ·refine br (n<f) (by rw[e_lss hA]) (fun c2=>?_) (fun c2=>?_)<;>refine zc ?_
    ·obtain⟨m',s2,w1,rfl,w2⟩:=next n (by rw[if_pos ⟨rfl,.inr c2⟩])
     exact⟨m',_,w1,rfl,w2⟩
    ·obtain⟨m',s2,w1,rfl,w2⟩:=next f (by rw[if_neg];rintro⟨_,c|c⟩;exact c1 c;exact c2 c)
     exact⟨m',_,w1,rfl,w2⟩
omit hA in
theorem leastF_ok{F:Prims}(hF:CallOK Try.prog F):CallOK Try.prog (withF 63 leastF F):=by
 intro g args h v h' hc hg G w cargs hR hA;unfold withF at hc;cases hb:Nat.beq g 63 with
 |false=>rw[hb]at hc;exact hF g args h v h' hc hg G w cargs hR hA
 |true=>
  obtain rfl:=Nat.eq_of_beq_eq_true hb;rw[hb]at hc;simp only[cond_true]at hc;unfold leastF at hc;split at hc
  ·rename_i id
   split at hc
   ·rename_i es hm
    split at hc
    ·rename_i l hl
     simp only[oi,pj]at hc;obtain⟨rfl,rfl⟩:=hc;have hid:id<h.next:=by
      obtain⟨c,l2,_,hv,_⟩:=hA.head;obtain⟨L,hL,_⟩:=hv.mapL;exact hR.gdom id L hL
     have hB:AP noPrims (atomsOf Try.prog hint noPrims):=⟨⟨rfl,noPrims_keep⟩,fun _ _ _ _=>rfl⟩;have wn:=least_wn hB noPrims_ok (h:=h.anew) rfl hid (es:=es) hm hl;exact Does.plain hR rfl (WNs.does (P:=progU) Try.func63 cLeast_is (namedP _ _ Try.func63) rfl (Nat.le_refl _) wn (anewHR hR) hA)
    ·cases hc
   ·cases hc
  ·cases hc
end Go.Proofs.Ytmkiclinllifiaa
namespace Go.Proofs.Ytmkiclinllifiaa
open Go.Sim
def F2.t(p:F2):Int×Int:=(p.n,p.d)
def cutP(R:Int->Bool)(p:F2):Bool:=R p.n != R p.d
def setR(R:Int->Bool)(s:Int):Int->Bool:=fun x=>if x=s then true else R x
def addR(R:Int->Bool)(p:F2):Int->Bool:=setR (setR R p.n) p.d
structure Bas(l:List Vk)(P:List F2):Prop where
 sorted:∀i j:Int,0<=i->i<j->j<P.length->(gt P i).q<(gt P j).q
 mem:∀x,x∈P↔∃v∈l,x=v.pr
inductive Reach(P:List F2):(Int->Bool)->List F2->(Int->Bool)->List F2->Prop
 |stop {R:Int->Bool} {t:List F2} (h:P.find? (cutP R)=none):Reach P R t R t
 |step {R:Int->Bool} {t:List F2} {p:F2} {R':Int->Bool} {t':List F2} (h:P.find? (cutP R)=some p) (r:Reach P (addR R p) (t++[p]) R' t'):Reach P R t R' t'
inductive Parts(P:List F2)(S:Int->Prop):(Int->Bool)->List F2->Int->List F2->Int->Prop
 |stop {R:Int->Bool} {t:List F2} {k:Int} (h:∀s,S s->R s=true):Parts P S R t k t k
 |part {R:Int->Bool} {t:List F2} {k:Int} {s:Int} {R1:Int->Bool} {t1 t':List F2} {k':Int} (h1:S s) (h2:R s=false) (h3:∀x,S x->x<s->R x=true) (r:Reach P (setR R s) t R1 t1) (q:Parts P S R1 t1 (k+1) t' k'):Parts P S R t k t' k'
theorem Reach.uniq{P:List F2}{R:Int->Bool}{t:List F2}{R1 R2:Int->Bool}{t1 t2:List F2}(h:Reach P R t R1 t1)(k:Reach P R t R2 t2):R1=R2/\t1=t2:=by
 induction h with
 |stop h=>
  cases k with
  |stop _=>exact⟨rfl,rfl⟩
  |step k _=>rw[h]at k;cases k
 |step h r ih=>
  cases k with
  |stop k=>rw[h]at k;cases k
  |step k k2=>
   rw[h]at k;obtain rfl:=Option.some.inj k;exact ih k2
theorem Parts.uniq{P:List F2}{S:Int->Prop}{R:Int->Bool}{t:List F2}{n:Int}{t1 t2:List F2}{k1 k2:Int}(h:Parts P S R t n t1 k1)(k:Parts P S R t n t2 k2):t1=t2/\k1=k2:=by
 induction h with
 |stop h=>
  cases k with
  |stop _=>exact⟨rfl,rfl⟩
  |part q1 q2 _ _ _=>rw[h _ q1]at q2;cases q2
 | @part R t n s R1 t1 t' k' h1 h2 h3 r q ih=>
  cases k with
  |stop k=>rw[k _ h1]at h2;cases h2
  | @part _ _ _ s2 _ _ _ _ q1 q2 q3 r2 q4=>
   have e:s=s2:=by
    rcases Int.lt_trichotomy s s2 with c|c|c
    ·have:=q3 s h1 c;rw[h2]at this;cases this
    ·exact c
    ·have:=h3 s2 q1 c;rw[q2]at this;cases this
   subst e;obtain⟨rfl,rfl⟩:=r.uniq r2;exact ih q4
theorem rq_ok{x y:F2}(hx:okP x.n x.d)(hy:okP y.n y.d)(h:x.q=y.q):x=y:=by
 obtain⟨h1,h2,h3,h4,_⟩:=hx.is;obtain⟨k1,k2,k3,k4,_⟩:=hy.is;have e:8*x.n+x.d=8*y.n+y.d:=Rat.intCast_inj.1 h;obtain⟨a,b⟩:=x;obtain⟨c,d⟩:=y;simp only at *;rw[show a=c by omega,show b=d by omega]
theorem strict_uniq:∀{P P':List F2},(∀x∈P,okP x.n x.d)->(∀x∈P',okP x.n x.d)->P.Pairwise (fun x y=>x.q<y.q)->P'.Pairwise (fun x y=>x.q<y.q)->(∀x,x∈P↔x∈P')->P=P'
 | [],[],_,_,_,_,_=>rfl
 | [],x :: P',_,_,_,_,h=>by have:=(h x).2 List.mem_cons_self;cases this
 |x :: P,[],_,_,_,_,h=>by have:=(h x).1 List.mem_cons_self;cases this
 |x :: P,y :: P',o,o',s,s',h=>by
  obtain⟨s1,s2⟩:=List.pairwise_cons.1 s;obtain⟨s1',s2'⟩:=List.pairwise_cons.1 s';have e:x=y:=by
   rcases List.mem_cons.1 ((h x).1 List.mem_cons_self)with e|hx
   ·exact e
   rcases List.mem_cons.1 ((h y).2 List.mem_cons_self)with e|hy
   ·exact e.symm
   have a:=s1 y hy;have b:=s1' x hx;exact absurd a (Rat.not_lt.2 (Rat.le_of_lt b))
  subst e
  congr 1
  refine strict_uniq (fun z hz=>o z (List.mem_cons_of_mem _ hz)) (fun z hz=>o' z (List.mem_cons_of_mem _ hz)) s2 s2' (fun z=>?_);constructor
  ·intro hz
   rcases List.mem_cons.1 ((h z).1 (List.mem_cons_of_mem _ hz))with e|q
   ·subst e;exact absurd (s1 z hz) (Rat.lt_irrefl)
   ·exact q
  ·intro hz
   rcases List.mem_cons.1 ((h z).2 (List.mem_cons_of_mem _ hz))with e|q
   ·subst e;exact absurd (s1' z hz) (Rat.lt_irrefl)
   ·exact q
theorem Bas.pw{l:List Vk}{P:List F2}(h:Bas l P):P.Pairwise (fun x y=>x.q<y.q):=by
 rw[List.pairwise_iff_getElem];intro i j hi hj hij;have:=h.sorted i j (by omega) (by omega) (by omega);unfold gt at this;simp only[List.getD,Int.toNat_natCast,List.getElem?_eq_getElem hi,List.getElem?_eq_getElem hj,Option.getD_some]at this;exact this
theorem Bas.ok{l:List Vk}{P:List F2}(h:Bas l P)(hs:stOK l):∀x∈P,okP x.n x.d:=fun x hx=>by
 obtain⟨v,hv,rfl⟩:=(h.mem x).1 hx;obtain⟨i,i0,i1,rfl⟩:=mem_gt hv;exact hs i i0 i1
theorem Bas.uniq{l:List Vk}{P P':List F2}(hs:stOK l)(h:Bas l P)(k:Bas l P'):P=P':=
 strict_uniq (h.ok hs) (k.ok hs) h.pw k.pw (fun x=>by rw[h.mem,k.mem])
def trT(t:List F2):List (Int×Int):=(t.map F2.t).reverse
theorem trT_add(t:List F2)(p:F2):trT (t++[p])=p.t :: trT t:=by unfold trT;simp
def InR(R:Int->Bool)(t:List F2):Prop:=∀x,hasV (trT t) x=true->R x=true
theorem cut_grows{R:Int->Bool}{t:List F2}{p:F2}(hg:grows (trT t)=true)(hr:InR R t)(hc:cutP R p=true):grows (trT (t++[p]))=true/\InR (addR R p) (t++[p]):=by
 have hne:R p.n≠R p.d:=by unfold cutP at hc;simpa using hc
 constructor
 ·rw[trT_add]
  show grows ((p.n,p.d) :: trT t)=true;simp only[grows,Bool.and_eq_true,Bool.or_eq_true,Bool.not_eq_true',decide_eq_false_iff_not];refine⟨⟨fun e=>hne (by rw[e]),?_⟩,hg⟩;cases h1:hasV (trT t) p.n with
  |false=>exact .inl rfl
  |true=>
   right;cases h2:hasV (trT t) p.d with
   |false=>rfl
   |true=>exact absurd ((hr _ h1).trans (hr _ h2).symm) hne
 ·intro x hx
  rw[trT_add,hasV_cons]at hx;unfold addR setR;rcases hx with h|h|h
  ·have:x=p.n:=h.symm
   by_cases c:x=p.d
   ·rw[if_pos c]
   ·rw[if_neg c,if_pos this]
  ·rw[if_pos (show x=p.d from h.symm)]
  ·have:=hr x h
   by_cases c:x=p.d
   ·rw[if_pos c]
   ·rw[if_neg c]
    by_cases c2:x=p.n
    ·rw[if_pos c2]
    ·rw[if_neg c2];exact this
theorem Reach.grows{P:List F2}{R:Int->Bool}{t:List F2}{R':Int->Bool}{t':List F2}(h:Reach P R t R' t')(hg:grows (trT t)=true)(hr:InR R t):grows (trT t')=true/\InR R' t'/\(∀x,R x=true->R' x=true)/\(∀x∈t',x∈t\/x∈P)/\P.find? (cutP R')=none:=by
 induction h with
 |stop h=>exact⟨hg,hr,fun _ h=>h,fun x hx=>.inl hx,h⟩
 | @step R t p R' t' h r ih=>
  obtain⟨g1,g2⟩:=cut_grows hg hr (List.find?_some h);obtain⟨k1,k2,k3,k4,k5⟩:=ih g1 g2;refine⟨k1,k2,fun x hx=>k3 x ?_,fun x hx=>?_,k5⟩
  ·unfold addR setR
   by_cases c:x=p.d
   ·rw[if_pos c]
   ·rw[if_neg c]
    by_cases c2:x=p.n
    ·rw[if_pos c2]
    ·rw[if_neg c2];exact hx
  ·rcases k4 x hx with q|q
   ·rcases List.mem_append.1 q with q|q
    ·exact .inl q
    ·rw[List.mem_singleton.1 q];exact .inr (List.mem_of_find?_eq_some h)
   ·exact .inr q
theorem Parts.grows{P:List F2}{S:Int->Prop}{R:Int->Bool}{t:List F2}{k:Int}{t':List F2}{k':Int}(h:Parts P S R t k t' k')(hg:grows (trT t)=true)(hr:InR R t):grows (trT t')=true/\(∀x∈t',x∈t\/x∈P):=by
 induction h with
 |stop h=>exact⟨hg,fun x hx=>.inl hx⟩
 | @part R t k s R1 t1 t' k' h1 h2 h3 r q ih=>
  have hr':InR (setR R s) t:=fun x hx=>by
   unfold setR;by_cases c:x=s
   ·rw[if_pos c]
   ·rw[if_neg c];exact hr x hx
  obtain⟨g1,g2,g3,g4,g5⟩:=r.grows hg hr';obtain⟨k1,k2⟩:=ih g1 g2;refine⟨k1,fun x hx=>?_⟩;rcases k2 x hx with q|q
  ·exact g4 x q
  ·exact .inr q
structure RMap(S:Int->Prop)(M:List (Int×Bool))(R:Int->Bool):Prop where
 nd:(M.map (·.1)).Nodup
 keys:∀x,(getL M x).isSome=true↔S x
 val:∀x,R x=decide (getL M x=some true)
theorem RMap.put{S:Int->Prop}{M M':List (Int×Bool)}{R:Int->Bool}(h:RMap S M R){s:Int}(hs:S s)(h1:∀k,getL M' k=if k=s then some true else getL M k)(h2:∀u,getL M s=some u->M'.map (·.1)=M.map (·.1)):RMap S M' (setR R s):=by
 obtain⟨u,hu⟩:=Option.isSome_iff_exists.1 ((h.keys s).2 hs);refine⟨by rw[h2 u hu];exact h.nd,fun x=>?_,fun x=>?_⟩
 ·rw[h1]
  by_cases c:x=s
  ·rw[if_pos c,c];exact⟨fun _=>hs,fun _=>rfl⟩
  ·rw[if_neg c];exact h.keys x
 ·rw[h1]
  unfold setR;by_cases c:x=s
  ·rw[if_pos c,if_pos c];simp
  ·rw[if_neg c,if_neg c];exact h.val x
theorem flags_enc:∀{M:List (Int×Bool)},(∀e∈M,0<=e.1)->flagsOf (encE intK boolK M)=some M
 | [],_=>rfl
 |(n,b) :: M,h=>by
  have h0:0<=n:=h (n,b) List.mem_cons_self;have ih:=flags_enc (M:=M) (fun e he=>h e (List.mem_cons_of_mem _ he));show(match (Value.int .i64 n),(Value.bool b),flagsOf (encE intK boolK M)with
   | .int .i64 n,.bool b,some l=>bif decide (0<=n)then some ((n,b) :: l)else none
   |_,_,_=>none)=_
  rw[ih];simp[h0]
theorem getL_nd:∀{M:List (Int×Bool)},(M.map (·.1)).Nodup->∀{i:Nat} {e:Int×Bool},M[i]?=some e->getL M e.1=some e.2
 | [],_,i,e,h=>by simp at h
 |x :: M,hn,i,e,h=>by
  simp only[List.map_cons,List.nodup_cons]at hn
  match i with
  |0=>simp at h;subst h;simp[getL]
  |i+1=>
   have h':M[i]?=some e:=by simpa using h
   have hm:e.1∈M.map (·.1):=List.mem_map_of_mem (List.mem_of_getElem? h');simp only[getL];rw[if_neg (fun q:x.1=e.1=>hn.1 (by rw[q];exact hm))];exact getL_nd hn.2 h'
theorem RMap.least{S:Int->Prop}{M:List (Int×Bool)}{R:Int->Bool}(h:RMap S M R)(hs:∀x,S x->0<=x):(leastOf M=-1/\∀x,S x->R x=true)\/(0<=leastOf M/\S (leastOf M)/\R (leastOf M)=false/\∀x,S x->x<leastOf M->R x=true):=by
 have key:∀x,S x->∃(i:Nat) (b:Bool),M[i]?=some (x,b)/\R x=b:=fun x hx=>by
  obtain⟨b,hb⟩:=Option.isSome_iff_exists.1 ((h.keys x).2 hx);obtain⟨i,hi⟩:=List.getElem?_of_mem (getL_mem hb);refine⟨i,b,hi,?_⟩;rw[h.val,hb];cases b<;>simp
 have pos:∀e∈M,0<=e.1:=fun e he=>by
  obtain⟨i,hi⟩:=List.getElem?_of_mem he;exact hs _ ((h.keys _).1 (by rw[getL_nd h.nd hi];rfl))
 rcases leastOf_is M pos with ⟨e,h1⟩|⟨h0,⟨i,hi,h1⟩,h2⟩
 ·refine .inl ⟨e,fun x hx=>?_⟩
  obtain⟨i,b,hi,hb⟩:=key x hx;rw[hb];exact h1 i _ (List.getElem?_eq_some_iff.1 hi).1 hi
 ·have hg:=getL_nd h.nd h1
  refine .inr ⟨h0,(h.keys _).1 (by rw[hg];rfl),by rw[h.val,hg];simp,fun x hx hlt=>?_⟩;obtain⟨j,b,hj,hb⟩:=key x hx;cases b with
  |true=>exact hb
  |false=>
   have:=h2 j _ (List.getElem?_eq_some_iff.1 hj).1 hj rfl;simp only at this;omega
end Go.Proofs.Ytmkiclinllifiaa
namespace Go.Proofs.Ytmkiclinllifiaa
open Go.Sim
def eqF2(x y:F2):Bool:=decide (x.n=y.n) && decide (x.d=y.d)
theorem eqF2_iff{x y:F2}:eqF2 x y=true↔x=y:=by
 unfold eqF2;obtain⟨a,b⟩:=x;obtain⟨c,d⟩:=y;simp
theorem bas_of{l:List Vk}{n:Nat}{P:List F2}(hl:l.length=n)(hp:PermOn 0 n (l.map Vk.pr) P)(hs:SortedOn leF P 0 n)(hd:(l.map Vk.pr).Nodup)(ho:stOK l):Bas l P:=by
 have hlen:P.length=n:=by rw[hp.len,List.length_map,hl]
 have mem:∀x,x∈P↔x∈l.map Vk.pr:=fun x=>by
  have h1:(0<P.countP (fun y=>eqF2 y x))↔x∈P:=by
   rw[List.countP_pos_iff];exact⟨fun⟨a,ha,e⟩=>by rw[<-eqF2_iff.1 e];exact ha,fun h=>⟨x,h,eqF2_iff.2 rfl⟩⟩
  have h2:(0<(l.map Vk.pr).countP (fun y=>eqF2 y x))↔x∈l.map Vk.pr:=by
   rw[List.countP_pos_iff];exact⟨fun⟨a,ha,e⟩=>by rw[<-eqF2_iff.1 e];exact ha,fun h=>⟨x,h,eqF2_iff.2 rfl⟩⟩
  rw[<-h1,<-h2,hp.cnt]
 have okP':∀x∈P,okP x.n x.d:=fun x hx=>by
  obtain⟨v,hv,rfl⟩:=List.mem_map.1 ((mem x).1 hx);obtain⟨i,i0,i1,rfl⟩:=mem_gt hv;exact ho i i0 i1
 refine⟨fun i j i0 hij j1=>?_,fun x=>?_⟩
 ·have hle:=hs i j i0 hij (by omega)
  refine Rat.lt_of_le_of_ne hle (fun e=>?_);have h1:=gt_mem P i0 (show i<P.length by omega);have h2:=gt_mem P (show 0<=j by omega) j1;have he:=rq_ok (okP' _ h1) (okP' _ h2) e;have hc:P.countP (fun y=>eqF2 y (gt P i))<=1:=by
   rw[hp.cnt];have key:∀(L:List F2) (x:F2),L.Nodup->L.countP (fun y=>eqF2 y x)<=1:=by
    intro L x
    induction L with
    |nil=>intro _;simp
    |cons z L ih=>
     intro hn;obtain⟨n1,n2⟩:=List.nodup_cons.1 hn;rw[List.countP_cons];by_cases c:eqF2 z x=true
     ·rw[if_pos c]
      have:L.countP (fun y=>eqF2 y x)=0:=by
       rw[List.countP_eq_zero];intro y hy q;rw[eqF2_iff]at q c;rw[c,<-q]at n1;exact n1 hy
      omega
     ·rw[if_neg c]
      have:=ih n2;omega
   exact key _ _ hd
  have hc2:2<=P.countP (fun y=>eqF2 y (gt P i)):=by
   obtain⟨i',rfl⟩:∃i':Nat,i=i':=⟨i.toNat,by omega⟩;obtain⟨j',rfl⟩:∃j':Nat,j=j':=⟨j.toNat,by omega⟩;have hi':i'<P.length:=by omega
   have hj':j'<P.length:=by omega
   have gi:gt P (i':Int)=P[i']:=by unfold gt;simp[List.getElem?_eq_getElem hi']
   have gj:gt P (j':Int)=P[j']:=by unfold gt;simp[List.getElem?_eq_getElem hj']
   rw[gi];rw[gi,gj]at he;have m1:P[i']∈P.take j':=by
    rw[List.mem_iff_getElem];exact⟨i',by rw[List.length_take];omega,by rw[List.getElem_take]⟩
   have c1:0<(P.take j').countP (fun y=>eqF2 y P[i']):=List.countP_pos_iff.2 ⟨_,m1,eqF2_iff.2 rfl⟩;have c2:(P.drop j').countP (fun y=>eqF2 y P[i'])=(P.drop (j'+1)).countP (fun y=>eqF2 y P[i'])+1:=by
    rw[List.drop_eq_getElem_cons hj',List.countP_cons,if_pos (eqF2_iff.2 he.symm)]
   have c3:P.countP (fun y=>eqF2 y P[i'])=(P.take j').countP (fun y=>eqF2 y P[i'])+(P.drop j').countP (fun y=>eqF2 y P[i']):=by
    rw[<-List.countP_append,List.take_append_drop]
   omega
  omega
 ·rw[mem,List.mem_map]
  exact⟨fun⟨v,h1,h2⟩=>⟨v,h1,h2.symm⟩,fun⟨v,h1,h2⟩=>⟨v,h1,h2.symm⟩⟩
