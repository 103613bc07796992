import Derived.Test.YtlimjlpjldijdaaSymFacts
import Derived.Test.YtlimjlpjldijdaaSymN
import Derived.Test.YtlimjlpjldijdaaSimF
import Derived.KernelRfl
set_option linter.unusedSimpArgs false
set_option linter.unusedVariables false
namespace Go.Proofs.Ytlimjlpjldijdaa
open Go.Sim
set_option maxRecDepth 100000
def leftN(n:Nat)(seen:List Nat):Nat:=((List.range n).filter fun i=>!seen.contains i).length
theorem leftN_lt{n:Nat}{seen:List Nat}{i:Nat}(hi:i<n)(hs:i∉seen):leftN n (seen++[i])<leftN n seen:=by
 unfold leftN;have e:(List.range n).filter (fun j=>!(seen++[i]).contains j)=((List.range n).filter fun j=>!seen.contains j).filter (fun j=>j != i):=by
  rw[List.filter_filter]
  congr 1
  funext j
  by_cases h:j=i
  ·subst h;simp
  ·simp[h]
 rw[e];refine List.length_filter_lt_length_iff_exists.2 ⟨i,?_,by simp⟩;rw[List.mem_filter];exact⟨List.mem_range.2 hi,by simpa using hs⟩
def LeastIs(l:List (Int×Bool))(S:Nat->Prop)(f:Int):Prop:=
 (f=-1/\∀(i:Nat) (e:Int×Bool),S i->l[i]?=some e->e.2=true)\/(0<=f/\(∃i,S i/\l[i]?=some (f,false))/\∀(i:Nat) (e:Int×Bool),S i->l[i]?=some e->e.2=false->f<=e.1)
theorem LeastIs.uniq{l:List (Int×Bool)}{S:Nat->Prop}{f g:Int}(h:LeastIs l S f)(k:LeastIs l S g):f=g:=by
 rcases h with ⟨rfl,h1⟩|⟨h0,⟨i,hi,h1⟩,h2⟩<;>rcases k with ⟨rfl,k1⟩|⟨k0,⟨j,hj,k1⟩,k2⟩
 ·rfl
 ·have:=h1 j _ hj k1;simp at this
 ·have:=k1 i _ hi h1;simp at this
 ·have:=h2 j _ hj k1 rfl
  have:=k2 i _ hi h1 rfl;simp only at *;omega
theorem LeastIs.step{l:List (Int×Bool)}{S:Nat->Prop}{f:Int}(h:LeastIs l S f){i:Nat}{n:Int}{b:Bool}(hi:l[i]?=some (n,b))(hn:0<=n){S':Nat->Prop}(hS:∀j,S' j↔S j\/j=i) :
  LeastIs l S' (if b=false/\(f<0\/n<f)then n else f):=by
 by_cases c:b=false/\(f<0\/n<f)
 ·rw[if_pos c]
  obtain⟨rfl,c⟩:=c;refine .inr ⟨hn,⟨i,(hS i).2 (.inr rfl),hi⟩,fun j e hj he hb=>?_⟩;rcases(hS j).1 hj with hj|rfl
  ·rcases h with ⟨rfl,h1⟩|⟨h0,_,h2⟩
   ·have:=h1 j e hj he;rw[this]at hb;cases hb
   ·have:=h2 j e hj he hb;omega
  ·rw[hi]at he;obtain rfl:=Option.some.inj he;exact Int.le_refl _
 ·rw[if_neg c]
  rcases h with ⟨rfl,h1⟩|⟨h0,⟨k,hk,h1⟩,h2⟩
  ·refine .inl ⟨rfl,fun j e hj he=>?_⟩
   rcases(hS j).1 hj with hj|rfl
   ·exact h1 j e hj he
   ·rw[hi]at he;obtain rfl:=Option.some.inj he
    cases b with
    |true=>rfl
    |false=>exact absurd ⟨rfl,.inl (by omega)⟩ c
  ·refine .inr ⟨h0,⟨k,(hS k).2 (.inl hk),h1⟩,fun j e hj he hb=>?_⟩
   rcases(hS j).1 hj with hj|rfl
   ·exact h2 j e hj he hb
   ·rw[hi]at he;obtain rfl:=Option.some.inj he
    simp only at hb ⊢;refine Int.not_lt.1 fun q=>c ⟨hb,.inr q⟩
theorem leastOf_is:∀(l:List (Int×Bool)),(∀e∈l,0<=e.1)->LeastIs l (fun i=>i<l.length) (leastOf l)
 | [],_=>.inl ⟨rfl,fun i e hi he=>by simp at he⟩
 |(n,b) :: r,h=>by
  have ih:=leastOf_is r (fun e he=>h e (List.mem_cons_of_mem _ he));have hn:0<=n:=h (n,b) (List.mem_cons_self);have ih':LeastIs ((n,b) :: r) (fun i=>0<i/\i<r.length+1) (leastOf r):=by
   rcases ih with ⟨e,h1⟩|⟨h0,⟨k,hk,h1⟩,h2⟩
   ·refine .inl ⟨e,fun i e hi he=>?_⟩
    obtain⟨j,rfl⟩:∃j,i=j+1:=⟨i-1,by omega⟩;exact h1 j e (by omega) (by simpa using he)
   ·refine .inr ⟨h0,⟨k+1,⟨by omega,by omega⟩,by simpa using h1⟩,fun i e hi he hb=>?_⟩
    obtain⟨j,rfl⟩:∃j,i=j+1:=⟨i-1,by omega⟩;exact h2 j e (by omega) (by simpa using he) hb
  have:=ih'.step (i:=0) (n:=n) (b:=b) rfl hn (S':=fun i=>i<((n,b) :: r).length) (fun j=>by simp only[List.length_cons];omega);have e:leastOf ((n,b) :: r)=if b=false/\(leastOf r<0\/n<leastOf r)then n else leastOf r:=by
   simp only[leastOf];cases b with
   |true=>simp
   |false=>
    by_cases c:leastOf r<0\/n<leastOf r
    ·rw[if_pos ⟨rfl,c⟩]
     rcases c with c|c<;>simp[c]
    ·rw[if_neg (fun q=>c q.2)]
     have c1:¬leastOf r<0:=fun q=>c (.inl q)
     have c2:¬n<leastOf r:=fun q=>c (.inr q)
     simp[c1,c2]
  rw[e];exact this
theorem flagsOf_at:∀{es:List (Value×Value)} {l:List (Int×Bool)},flagsOf es=some l->l.length=es.length/\(∀e∈l,0<=e.1)/\∀(i:Nat) (e:Value×Value),es[i]?=some e->∃n b,e=(.int .i64 n,.bool b)/\l[i]?=some (n,b)/\0<=n
 | [],l,h=>by
  simp only[flagsOf,oi]at h;subst h;exact⟨rfl,(fun e he=>by cases he),(fun i e he=>by simp at he)⟩
 |e :: r,l,h=>by
  simp only[flagsOf]at h;split at h
  ·rename_i n b l' h1 h2 h3
   cases c:decide (0<=n)with
   |false=>rw[c]at h;cases h
   |true=>
    rw[c]at h;simp only[cond_true,oi]at h;subst h;have hn:=of_decide_eq_true c;obtain⟨k1,k2,k3⟩:=flagsOf_at h3;refine⟨by simp[k1],fun x hx=>?_,fun i x hx=>?_⟩
    ·rcases List.mem_cons.1 hx with rfl|hx
     ·exact hn
     ·exact k2 x hx
    ·match i with
     |0=>simp at hx;subst hx;exact⟨n,b,by rw[<-h1,<-h2],rfl,hn⟩
     |i+1=>simpa using k3 i x (by simpa using hx)
  ·cases h
theorem mixedP:Try.prog.follows .mixedOrders=true:=by kernel_rfl
theorem namesP : Try.prog.funcs.toList.all (fun fn => !(fn.name == "runtime.NumGoroutine")) = true := by kernel_rfl
theorem namedP(g : FuncId)(fn : Func)(h : Try.prog.funcs[g]? = some fn) : (fn.name == "runtime.NumGoroutine") = false := by
 have:=List.all_eq_true.1 namesP fn (List.mem_of_getElem? (by simpa using h));simpa using this
theorem u76:Try.prog.underlying 114=some (.map 3 4):=by kernel_rfl
noncomputable def cLeast:Code:=Try.f69.body.getD .skip
theorem cLeast_is:Try.f69.body=some cLeast:=by kernel_rfl
variable{F:Prims}{a0 head b0 c0 d0 bnot e0 f0 g0 i0 j0 l0 m0 n0 o0 nz p0 rd wr q0 next r0 s0 t0 u0 v0 w0 x0 y0 z0 a1 b1 d1 e1 i1 l1 m1 n1 o1 lt ne p1 r1 s1 yn t1 u1 v1 x1 y1 z1 mrng ment:_}(hA:AP F ⟨a0,head,b0,c0,d0,bnot,e0,f0,g0,i0,j0,l0,m0,n0,o0,nz,p0,rd,wr,q0,next,r0,s0,t0,u0,v0,w0,x0,y0,z0,a1,b1,d1,e1,i1,l1,m1,n1,o1,lt,ne,p1,r1,s1,yn,t1,u1,v1,x1,y1,z1,mrng,ment⟩)
include hA
theorem e_mrng(t:TypeId)(x:Value)(h h':AHeap):mrng t x h h'=(rangeH Try.prog h t x=some (.pointer (some ⟨h.next,0,none⟩),h')):=by have:=hA.eq;injections;subst_vars;rfl
theorem e_ment(h:AHeap)(x k v:Value):ment h x k v=(entryH h x=some (.tuple #[k,v],h)):=by have:=hA.eq;injections;subst_vars;rfl
theorem least_wn(hF:CallOK Try.prog F){h:AHeap}(hlow:h.low=h.next){id:Nat}(hid:id<h.next){es:List (Value×Value)}(hm:h.m.get id=some (.map es)){l:List (Int×Bool)}(hfl:flagsOf es=some l) :
  WNs progU Try.f69.ntmps cLeast ⟨argsL [.map (some id)] 0 [],0,[],h⟩ (fun e s'=>(e=.normal\/e=.ret)/\∃v,lk s'.env 2=some v/\noLoc v=true/\v=.int .i64 (leastOf l)/\h.next<=s'.h.low):=by
 have run:=fun {c:Code} {s:SS} {Q:Exit->SS->Prop} (hl:loopsOf c=[]) (hr:rangesOf c=[])=>WNs.run hA.toAOK live mixedP hF namedP Try.func69 cLeast_is (c:=c) hl hr (s:=s) (Q:=Q)
 refine WNs.seq (run rfl rfl (zc ?_));refine WNs.seq (run rfl rfl (zc ?_));obtain⟨h1,hh1⟩:∃z,z=h.pushB (.iter (some id) es.length []):=⟨_,rfl⟩;refine WNs.seq (WNs.seq (run rfl rfl (zc ?_)));refine⟨h1,(e_mrng hA _ _ _ _).mpr (by unfold rangeH;rw[u76];simp only[hm,hh1]),?_⟩;refine zc ?_;rw[e_next hA];have g1:h1.m.get h.next=some (.iter (some id) es.length []):=by rw[hh1];show(h.m.set _ _).get _=_;rw[Tri.get_set];simp
 have g2:h1.m.get id=some (.map es):=by rw[hh1];show(h.m.set _ _).get _=_;rw[Tri.get_set_ne _ _ (by omega)];exact hm
 obtain⟨k1,k2,k3⟩:=flagsOf_at hfl;refine WNs.block ?_;refine WNs.lessE (env0:=[(3,.int .i64 (-1)),(7,.pointer (some ⟨h.next,0,none⟩))]) (fun p hp=>?_) ?_
 ·simp only[List.mem_cons,List.not_mem_nil,or_false]at hp
  rcases hp with rfl|rfl<;>rfl
 refine WNs.loop [3,7] 0 (fun m s=>∃seen f h',s=⟨[(3,.int .i64 f),(7,.pointer (some ⟨h.next,0,none⟩))],0,[],h'⟩/\h'.m.get h.next=some (.iter (some id) es.length seen)/\h'.m.get id=some (.map es)/\LeastIs l (·∈seen) f/\(∀i∈seen,i<es.length)/\m=leftN es.length seen/\h.next<=h'.low) ?_
  (m:=leftN es.length []) ⟨[],-1,h1,rfl,g1,g2,.inl ⟨rfl,fun i e hi=>(by cases hi)⟩,(fun i hi=>by cases hi),rfl,by rw[hh1];show h.next<=h.low;omega⟩
 rintro m s ⟨seen,f,h',rfl,q1,q2,q3,q4,rfl,q5⟩;refine WNs.seq (WNs.next (d:=8) (d2:=9) (x:=.tmp 7) rfl rfl rfl (by decide) rfl rfl rfl (by decide) rfl rfl q1 q2 (fun hall=>?_) (fun i e he hi=>?_))
 ·refine WNs.seq (WNs.cond rfl (WNs.exit ?_))
  refine WNs.seq (run rfl rfl (zc ?_));refine WNs.ret ⟨.inr rfl,_,rfl,rfl,?_,q5⟩;rw[q3.uniq (g:=leastOf l) ?_];have:=leastOf_is l k2;rcases this with ⟨e,w1⟩|⟨e,⟨j,j1,j2⟩,w2⟩
  ·exact .inl ⟨e,fun i x hi=>w1 i x (by show i<l.length;rw[k1];exact q4 i hi)⟩
  ·exact .inr ⟨e,⟨j,hall j (by rw[<-k1];exact j1),j2⟩,fun i x hi=>w2 i x (by show i<l.length;rw[k1];exact q4 i hi)⟩
 ·refine WNs.seq (WNs.cond rfl (WNs.skip ?_))
  obtain⟨n,b,rfl,f1,f2⟩:=k3 i e he;have hi':i<es.length:=(List.getElem?_eq_some_iff.1 he).1;obtain⟨h2,hh2⟩:∃z,z=h'.putB h.next (.iter (some id) es.length (seen++[i])):=⟨_,rfl⟩;have g3:h2.m.get h.next=some (.iter (some id) es.length (seen++[i])):=by rw[hh2];show(h'.m.set _ _).get _=_;rw[Tri.get_set];simp
  have g4:h2.m.get id=some (.map es):=by rw[hh2];show(h'.m.set _ _).get _=_;rw[Tri.get_set_ne _ _ (by omega)];exact q2
  have g5:h.next<=h2.low:=by rw[hh2];show h.next<=Nat.min h'.low h.next;exact Nat.le_min.2 ⟨q5,Nat.le_refl _⟩
  have hent:entryH h2 (.pointer (some ⟨h.next,0,none⟩))=some (.tuple #[.int .i64 n,.bool b],h2):=by
   unfold entryH;simp only[g3,g4,List.getLast?_append,List.getLast?_singleton,Option.some_or,Nat.beq_refl,cond_true,he]
  have next:∀f',f'=(if b=false/\(f<0\/n<f)then n else f)->∃m' s2,m'<leftN es.length seen/\s2=(⟨[(3,.int .i64 f'),(7,.pointer (some ⟨h.next,0,none⟩))],0,[],h2⟩:SS)/\∃seen f h',s2=⟨[(3,.int .i64 f),(7,.pointer (some ⟨h.next,0,none⟩))],0,[],h'⟩/\h'.m.get h.next=some (.iter (some id) es.length seen)/\h'.m.get id=some (.map es)/\LeastIs l (·∈seen) f/\(∀i∈seen,i<es.length)/\m'=leftN es.length seen/\h.next<=h'.low:=by
   intro f' hf';refine⟨_,_,leftN_lt hi' hi,rfl,seen++[i],f',h2,rfl,g3,g4,?_,?_,rfl,g5⟩
   ·rw[hf']
    exact q3.step f1 f2 (fun j=>by simp)
   ·intro j hj
    rcases List.mem_append.1 hj with hj|hj
    ·exact q4 j hj
    ·rw[List.mem_singleton.1 hj];exact hi'
  rw[<-hh2];refine run rfl rfl (zc ?_);refine⟨.int .i64 n,.bool b,(e_ment hA _ _ _ _).mpr hent,?_⟩;refine zc ?_;cases b with
  |true=>
   rw[show bnot true=false from e_bnot hA true];refine zc ?_;obtain⟨m',s2,w1,rfl,w2⟩:=next f (by simp);exact⟨m',_,w1,rfl,w2⟩
  |false=>
   rw[show bnot false=true from e_bnot hA false];refine zc ?_;refine br (f<0) (by rw[e_lss hA]) (fun c1=>?_) (fun c1=>?_)<;>refine zc ?_
   ·obtain⟨m',s2,w1,rfl,w2⟩:=next n (by rw[if_pos ⟨rfl,.inl c1⟩])
    exact⟨m',_,w1,rfl,w2⟩
   ·refine br (n<f) (by rw[e_lss hA]) (fun c2=>?_) (fun c2=>?_)<;>refine zc ?_
    ·obtain⟨m',s2,w1,rfl,w2⟩:=next n (by rw[if_pos ⟨rfl,.inr c2⟩])
     exact⟨m',_,w1,rfl,w2⟩
    ·obtain⟨m',s2,w1,rfl,w2⟩:=next f (by rw[if_neg];rintro⟨_,c|c⟩;exact c1 c;exact c2 c)
     exact⟨m',_,w1,rfl,w2⟩
omit hA in
theorem leastF_ok{F:Prims}(hF:CallOK Try.prog F):CallOK Try.prog (withF 69 leastF F):=by
 intro g args h v h' hc hg G w cargs hR hA;unfold withF at hc;cases hb:Nat.beq g 69 with
 |false=>rw[hb]at hc;exact hF g args h v h' hc hg G w cargs hR hA
 |true=>
  obtain rfl:=Nat.eq_of_beq_eq_true hb;rw[hb]at hc;simp only[cond_true]at hc;unfold leastF at hc;split at hc
  ·rename_i id
   split at hc
   ·rename_i es hm
    split at hc
    ·rename_i l hl
     simp only[oi,pj]at hc;obtain⟨rfl,rfl⟩:=hc;have hid:id<h.next:=by
      obtain⟨c,l2,_,hv,_⟩:=hA.head;obtain⟨L,hL,_⟩:=hv.mapL;exact hR.gdom id L hL
     have hB:AP noPrims (atomsOf Try.prog hint noPrims):=⟨⟨rfl,noPrims_keep⟩,fun _ _ _ _=>rfl⟩;have wn:=least_wn hB noPrims_ok (h:=h.anew) rfl hid (es:=es) hm hl;exact Does.plain hR rfl (WNs.does (P:=progU) Try.func69 cLeast_is (namedP _ _ Try.func69) rfl (Nat.le_refl _) wn (anewHR hR) hA)
    ·cases hc
   ·cases hc
  ·cases hc
