import Derived.Test.YtlimjlpjldijdaaCyA
import Derived.Test.YtlimjlpjldijdaaTreeP
import Derived.Test.YtlimjlpjldijdaaCyLeast
set_option linter.unusedSimpArgs false
set_option linter.unusedVariables false
namespace Go.Proofs.Ytlimjlpjldijdaa
open Go.Sim
def F2.t(p:F2):Int×Int:=(p.n,p.d)
def cutP(R:Int->Bool)(p:F2):Bool:=R p.n != R p.d
def setR(R:Int->Bool)(s:Int):Int->Bool:=fun x=>if x=s then true else R x
def addR(R:Int->Bool)(p:F2):Int->Bool:=setR (setR R p.n) p.d
structure Bas(l:List Vk)(P:List F2):Prop where
 sorted:∀i j:Int,0<=i->i<j->j<P.length->(gt P i).q<(gt P j).q
 mem:∀x,x∈P↔∃v∈l,x=v.pr
inductive Reach(P:List F2):(Int->Bool)->List F2->(Int->Bool)->List F2->Prop
 |stop {R:Int->Bool} {t:List F2} (h:P.find? (cutP R)=none):Reach P R t R t
 |step {R:Int->Bool} {t:List F2} {p:F2} {R':Int->Bool} {t':List F2} (h:P.find? (cutP R)=some p) (r:Reach P (addR R p) (t++[p]) R' t'):Reach P R t R' t'
inductive Parts(P:List F2)(S:Int->Prop):(Int->Bool)->List F2->Int->List F2->Int->Prop
 |stop {R:Int->Bool} {t:List F2} {k:Int} (h:∀s,S s->R s=true):Parts P S R t k t k
 |part {R:Int->Bool} {t:List F2} {k:Int} {s:Int} {R1:Int->Bool} {t1 t':List F2} {k':Int} (h1:S s) (h2:R s=false) (h3:∀x,S x->x<s->R x=true) (r:Reach P (setR R s) t R1 t1) (q:Parts P S R1 t1 (k+1) t' k'):Parts P S R t k t' k'
theorem Reach.uniq{P:List F2}{R:Int->Bool}{t:List F2}{R1 R2:Int->Bool}{t1 t2:List F2}(h:Reach P R t R1 t1)(k:Reach P R t R2 t2):R1=R2/\t1=t2:=by
 induction h with
 |stop h=>
  cases k with
  |stop _=>exact⟨rfl,rfl⟩
  |step k _=>rw[h]at k;cases k
 |step h r ih=>
  cases k with
  |stop k=>rw[h]at k;cases k
  |step k k2=>
   rw[h]at k;obtain rfl:=Option.some.inj k;exact ih k2
theorem Parts.uniq{P:List F2}{S:Int->Prop}{R:Int->Bool}{t:List F2}{n:Int}{t1 t2:List F2}{k1 k2:Int}(h:Parts P S R t n t1 k1)(k:Parts P S R t n t2 k2):t1=t2/\k1=k2:=by
 induction h with
 |stop h=>
  cases k with
  |stop _=>exact⟨rfl,rfl⟩
  |part q1 q2 _ _ _=>rw[h _ q1]at q2;cases q2
 | @part R t n s R1 t1 t' k' h1 h2 h3 r q ih=>
  cases k with
  |stop k=>rw[k _ h1]at h2;cases h2
  | @part _ _ _ s2 _ _ _ _ q1 q2 q3 r2 q4=>
   have e:s=s2:=by
    rcases Int.lt_trichotomy s s2 with c|c|c
    ·have:=q3 s h1 c;rw[h2]at this;cases this
    ·exact c
    ·have:=h3 s2 q1 c;rw[q2]at this;cases this
   subst e;obtain⟨rfl,rfl⟩:=r.uniq r2;exact ih q4
theorem rq_ok{x y:F2}(hx:okP x.n x.d)(hy:okP y.n y.d)(h:x.q=y.q):x=y:=by
 obtain⟨h1,h2,h3,h4,_⟩:=hx.is;obtain⟨k1,k2,k3,k4,_⟩:=hy.is;have e:8*x.n+x.d=8*y.n+y.d:=Rat.intCast_inj.1 h;obtain⟨a,b⟩:=x;obtain⟨c,d⟩:=y;simp only at *;rw[show a=c by omega,show b=d by omega]
theorem strict_uniq:∀{P P':List F2},(∀x∈P,okP x.n x.d)->(∀x∈P',okP x.n x.d)->P.Pairwise (fun x y=>x.q<y.q)->P'.Pairwise (fun x y=>x.q<y.q)->(∀x,x∈P↔x∈P')->P=P'
 | [],[],_,_,_,_,_=>rfl
 | [],x :: P',_,_,_,_,h=>by have:=(h x).2 List.mem_cons_self;cases this
 |x :: P,[],_,_,_,_,h=>by have:=(h x).1 List.mem_cons_self;cases this
 |x :: P,y :: P',o,o',s,s',h=>by
  obtain⟨s1,s2⟩:=List.pairwise_cons.1 s;obtain⟨s1',s2'⟩:=List.pairwise_cons.1 s';have e:x=y:=by
   rcases List.mem_cons.1 ((h x).1 List.mem_cons_self)with e|hx
   ·exact e
   rcases List.mem_cons.1 ((h y).2 List.mem_cons_self)with e|hy
   ·exact e.symm
   have a:=s1 y hy;have b:=s1' x hx;exact absurd a (Rat.not_lt.2 (Rat.le_of_lt b))
  subst e
  congr 1
  refine strict_uniq (fun z hz=>o z (List.mem_cons_of_mem _ hz)) (fun z hz=>o' z (List.mem_cons_of_mem _ hz)) s2 s2' (fun z=>?_);constructor
  ·intro hz
   rcases List.mem_cons.1 ((h z).1 (List.mem_cons_of_mem _ hz))with e|q
   ·subst e;exact absurd (s1 z hz) (Rat.lt_irrefl)
   ·exact q
  ·intro hz
   rcases List.mem_cons.1 ((h z).2 (List.mem_cons_of_mem _ hz))with e|q
   ·subst e;exact absurd (s1' z hz) (Rat.lt_irrefl)
   ·exact q
theorem Bas.pw{l:List Vk}{P:List F2}(h:Bas l P):P.Pairwise (fun x y=>x.q<y.q):=by
 rw[List.pairwise_iff_getElem];intro i j hi hj hij;have:=h.sorted i j (by omega) (by omega) (by omega);unfold gt at this;simp only[List.getD,Int.toNat_natCast,List.getElem?_eq_getElem hi,List.getElem?_eq_getElem hj,Option.getD_some]at this;exact this
theorem Bas.ok{l:List Vk}{P:List F2}(h:Bas l P)(hs:stOK l):∀x∈P,okP x.n x.d:=fun x hx=>by
 obtain⟨v,hv,rfl⟩:=(h.mem x).1 hx;obtain⟨i,i0,i1,rfl⟩:=mem_gt hv;exact hs i i0 i1
theorem Bas.uniq{l:List Vk}{P P':List F2}(hs:stOK l)(h:Bas l P)(k:Bas l P'):P=P':=
 strict_uniq (h.ok hs) (k.ok hs) h.pw k.pw (fun x=>by rw[h.mem,k.mem])
def trT(t:List F2):List (Int×Int):=(t.map F2.t).reverse
theorem trT_add(t:List F2)(p:F2):trT (t++[p])=p.t :: trT t:=by unfold trT;simp
def InR(R:Int->Bool)(t:List F2):Prop:=∀x,hasV (trT t) x=true->R x=true
theorem cut_grows{R:Int->Bool}{t:List F2}{p:F2}(hg:grows (trT t)=true)(hr:InR R t)(hc:cutP R p=true):grows (trT (t++[p]))=true/\InR (addR R p) (t++[p]):=by
 have hne:R p.n≠R p.d:=by unfold cutP at hc;simpa using hc
 constructor
 ·rw[trT_add]
  show grows ((p.n,p.d) :: trT t)=true;simp only[grows,Bool.and_eq_true,Bool.or_eq_true,Bool.not_eq_true',decide_eq_false_iff_not];refine⟨⟨fun e=>hne (by rw[e]),?_⟩,hg⟩;cases h1:hasV (trT t) p.n with
  |false=>exact .inl rfl
  |true=>
   right;cases h2:hasV (trT t) p.d with
   |false=>rfl
   |true=>exact absurd ((hr _ h1).trans (hr _ h2).symm) hne
 ·intro x hx
  rw[trT_add,hasV_cons]at hx;unfold addR setR;rcases hx with h|h|h
  ·have:x=p.n:=h.symm
   by_cases c:x=p.d
   ·rw[if_pos c]
   ·rw[if_neg c,if_pos this]
  ·rw[if_pos (show x=p.d from h.symm)]
  ·have:=hr x h
   by_cases c:x=p.d
   ·rw[if_pos c]
   ·rw[if_neg c]
    by_cases c2:x=p.n
    ·rw[if_pos c2]
    ·rw[if_neg c2];exact this
theorem Reach.grows{P:List F2}{R:Int->Bool}{t:List F2}{R':Int->Bool}{t':List F2}(h:Reach P R t R' t')(hg:grows (trT t)=true)(hr:InR R t):grows (trT t')=true/\InR R' t'/\(∀x,R x=true->R' x=true)/\(∀x∈t',x∈t\/x∈P)/\P.find? (cutP R')=none:=by
 induction h with
 |stop h=>exact⟨hg,hr,fun _ h=>h,fun x hx=>.inl hx,h⟩
 | @step R t p R' t' h r ih=>
  obtain⟨g1,g2⟩:=cut_grows hg hr (List.find?_some h);obtain⟨k1,k2,k3,k4,k5⟩:=ih g1 g2;refine⟨k1,k2,fun x hx=>k3 x ?_,fun x hx=>?_,k5⟩
  ·unfold addR setR
   by_cases c:x=p.d
   ·rw[if_pos c]
   ·rw[if_neg c]
    by_cases c2:x=p.n
    ·rw[if_pos c2]
    ·rw[if_neg c2];exact hx
  ·rcases k4 x hx with q|q
   ·rcases List.mem_append.1 q with q|q
    ·exact .inl q
    ·rw[List.mem_singleton.1 q];exact .inr (List.mem_of_find?_eq_some h)
   ·exact .inr q
theorem Parts.grows{P:List F2}{S:Int->Prop}{R:Int->Bool}{t:List F2}{k:Int}{t':List F2}{k':Int}(h:Parts P S R t k t' k')(hg:grows (trT t)=true)(hr:InR R t):grows (trT t')=true/\(∀x∈t',x∈t\/x∈P):=by
 induction h with
 |stop h=>exact⟨hg,fun x hx=>.inl hx⟩
 | @part R t k s R1 t1 t' k' h1 h2 h3 r q ih=>
  have hr':InR (setR R s) t:=fun x hx=>by
   unfold setR;by_cases c:x=s
   ·rw[if_pos c]
   ·rw[if_neg c];exact hr x hx
  obtain⟨g1,g2,g3,g4,g5⟩:=r.grows hg hr';obtain⟨k1,k2⟩:=ih g1 g2;refine⟨k1,fun x hx=>?_⟩;rcases k2 x hx with q|q
  ·exact g4 x q
  ·exact .inr q
structure RMap(S:Int->Prop)(M:List (Int×Bool))(R:Int->Bool):Prop where
 nd:(M.map (·.1)).Nodup
 keys:∀x,(getL M x).isSome=true↔S x
 val:∀x,R x=decide (getL M x=some true)
theorem RMap.put{S:Int->Prop}{M M':List (Int×Bool)}{R:Int->Bool}(h:RMap S M R){s:Int}(hs:S s)(h1:∀k,getL M' k=if k=s then some true else getL M k)(h2:∀u,getL M s=some u->M'.map (·.1)=M.map (·.1)):RMap S M' (setR R s):=by
 obtain⟨u,hu⟩:=Option.isSome_iff_exists.1 ((h.keys s).2 hs);refine⟨by rw[h2 u hu];exact h.nd,fun x=>?_,fun x=>?_⟩
 ·rw[h1]
  by_cases c:x=s
  ·rw[if_pos c,c];exact⟨fun _=>hs,fun _=>rfl⟩
  ·rw[if_neg c];exact h.keys x
 ·rw[h1]
  unfold setR;by_cases c:x=s
  ·rw[if_pos c,if_pos c];simp
  ·rw[if_neg c,if_neg c];exact h.val x
theorem flags_enc:∀{M:List (Int×Bool)},(∀e∈M,0<=e.1)->flagsOf (encE intK boolK M)=some M
 | [],_=>rfl
 |(n,b) :: M,h=>by
  have h0:0<=n:=h (n,b) List.mem_cons_self;have ih:=flags_enc (M:=M) (fun e he=>h e (List.mem_cons_of_mem _ he));show(match (Value.int .i64 n),(Value.bool b),flagsOf (encE intK boolK M)with
   | .int .i64 n,.bool b,some l=>bif decide (0<=n)then some ((n,b) :: l)else none
   |_,_,_=>none)=_
  rw[ih];simp[h0]
theorem getL_nd:∀{M:List (Int×Bool)},(M.map (·.1)).Nodup->∀{i:Nat} {e:Int×Bool},M[i]?=some e->getL M e.1=some e.2
 | [],_,i,e,h=>by simp at h
 |x :: M,hn,i,e,h=>by
  simp only[List.map_cons,List.nodup_cons]at hn
  match i with
  |0=>simp at h;subst h;simp[getL]
  |i+1=>
   have h':M[i]?=some e:=by simpa using h
   have hm:e.1∈M.map (·.1):=List.mem_map_of_mem (List.mem_of_getElem? h');simp only[getL];rw[if_neg (fun q:x.1=e.1=>hn.1 (by rw[q];exact hm))];exact getL_nd hn.2 h'
theorem RMap.least{S:Int->Prop}{M:List (Int×Bool)}{R:Int->Bool}(h:RMap S M R)(hs:∀x,S x->0<=x):(leastOf M=-1/\∀x,S x->R x=true)\/(0<=leastOf M/\S (leastOf M)/\R (leastOf M)=false/\∀x,S x->x<leastOf M->R x=true):=by
 have key:∀x,S x->∃(i:Nat) (b:Bool),M[i]?=some (x,b)/\R x=b:=fun x hx=>by
  obtain⟨b,hb⟩:=Option.isSome_iff_exists.1 ((h.keys x).2 hx);obtain⟨i,hi⟩:=List.getElem?_of_mem (getL_mem hb);refine⟨i,b,hi,?_⟩;rw[h.val,hb];cases b<;>simp
 have pos:∀e∈M,0<=e.1:=fun e he=>by
  obtain⟨i,hi⟩:=List.getElem?_of_mem he;exact hs _ ((h.keys _).1 (by rw[getL_nd h.nd hi];rfl))
 rcases leastOf_is M pos with ⟨e,h1⟩|⟨h0,⟨i,hi,h1⟩,h2⟩
 ·refine .inl ⟨e,fun x hx=>?_⟩
  obtain⟨i,b,hi,hb⟩:=key x hx;rw[hb];exact h1 i _ (List.getElem?_eq_some_iff.1 hi).1 hi
 ·have hg:=getL_nd h.nd h1
  refine .inr ⟨h0,(h.keys _).1 (by rw[hg];rfl),by rw[h.val,hg];simp,fun x hx hlt=>?_⟩;obtain⟨j,b,hj,hb⟩:=key x hx;cases b with
  |true=>exact hb
  |false=>
   have:=h2 j _ (List.getElem?_eq_some_iff.1 hj).1 hj rfl;simp only at this;omega
end Go.Proofs.Ytlimjlpjldijdaa
namespace Go.Proofs.Ytlimjlpjldijdaa
open Go.Sim
def eqF2(x y:F2):Bool:=decide (x.n=y.n) && decide (x.d=y.d)
theorem eqF2_iff{x y:F2}:eqF2 x y=true↔x=y:=by
 unfold eqF2;obtain⟨a,b⟩:=x;obtain⟨c,d⟩:=y;simp
theorem bas_of{l:List Vk}{n:Nat}{P:List F2}(hl:l.length=n)(hp:PermOn 0 n (l.map Vk.pr) P)(hs:SortedOn leF P 0 n)(hd:(l.map Vk.pr).Nodup)(ho:stOK l):Bas l P:=by
 have hlen:P.length=n:=by rw[hp.len,List.length_map,hl]
 have mem:∀x,x∈P↔x∈l.map Vk.pr:=fun x=>by
  have h1:(0<P.countP (fun y=>eqF2 y x))↔x∈P:=by
   rw[List.countP_pos_iff];exact⟨fun⟨a,ha,e⟩=>by rw[<-eqF2_iff.1 e];exact ha,fun h=>⟨x,h,eqF2_iff.2 rfl⟩⟩
  have h2:(0<(l.map Vk.pr).countP (fun y=>eqF2 y x))↔x∈l.map Vk.pr:=by
   rw[List.countP_pos_iff];exact⟨fun⟨a,ha,e⟩=>by rw[<-eqF2_iff.1 e];exact ha,fun h=>⟨x,h,eqF2_iff.2 rfl⟩⟩
  rw[<-h1,<-h2,hp.cnt]
 have okP':∀x∈P,okP x.n x.d:=fun x hx=>by
  obtain⟨v,hv,rfl⟩:=List.mem_map.1 ((mem x).1 hx);obtain⟨i,i0,i1,rfl⟩:=mem_gt hv;exact ho i i0 i1
 refine⟨fun i j i0 hij j1=>?_,fun x=>?_⟩
 ·have hle:=hs i j i0 hij (by omega)
  refine Rat.lt_of_le_of_ne hle (fun e=>?_);have h1:=gt_mem P i0 (show i<P.length by omega);have h2:=gt_mem P (show 0<=j by omega) j1;have he:=rq_ok (okP' _ h1) (okP' _ h2) e;have hc:P.countP (fun y=>eqF2 y (gt P i))<=1:=by
   rw[hp.cnt];have key:∀(L:List F2) (x:F2),L.Nodup->L.countP (fun y=>eqF2 y x)<=1:=by
    intro L x
    induction L with
    |nil=>intro _;simp
    |cons z L ih=>
     intro hn;obtain⟨n1,n2⟩:=List.nodup_cons.1 hn;rw[List.countP_cons];by_cases c:eqF2 z x=true
     ·rw[if_pos c]
      have:L.countP (fun y=>eqF2 y x)=0:=by
       rw[List.countP_eq_zero];intro y hy q;rw[eqF2_iff]at q c;rw[c,<-q]at n1;exact n1 hy
      omega
     ·rw[if_neg c]
      have:=ih n2;omega
   exact key _ _ hd
  have hc2:2<=P.countP (fun y=>eqF2 y (gt P i)):=by
   obtain⟨i',rfl⟩:∃i':Nat,i=i':=⟨i.toNat,by omega⟩;obtain⟨j',rfl⟩:∃j':Nat,j=j':=⟨j.toNat,by omega⟩;have hi':i'<P.length:=by omega
   have hj':j'<P.length:=by omega
   have gi:gt P (i':Int)=P[i']:=by unfold gt;simp[List.getElem?_eq_getElem hi']
   have gj:gt P (j':Int)=P[j']:=by unfold gt;simp[List.getElem?_eq_getElem hj']
   rw[gi];rw[gi,gj]at he;have m1:P[i']∈P.take j':=by
    rw[List.mem_iff_getElem];exact⟨i',by rw[List.length_take];omega,by rw[List.getElem_take]⟩
   have c1:0<(P.take j').countP (fun y=>eqF2 y P[i']):=List.countP_pos_iff.2 ⟨_,m1,eqF2_iff.2 rfl⟩;have c2:(P.drop j').countP (fun y=>eqF2 y P[i'])=(P.drop (j'+1)).countP (fun y=>eqF2 y P[i'])+1:=by
    rw[List.drop_eq_getElem_cons hj',List.countP_cons,if_pos (eqF2_iff.2 he.symm)]
   have c3:P.countP (fun y=>eqF2 y P[i'])=(P.take j').countP (fun y=>eqF2 y P[i'])+(P.drop j').countP (fun y=>eqF2 y P[i']):=by
    rw[<-List.countP_append,List.take_append_drop]
   omega
  omega
 ·rw[mem,List.mem_map]
  exact⟨fun⟨v,h1,h2⟩=>⟨v,h1,h2.symm⟩,fun⟨v,h1,h2⟩=>⟨v,h1,h2.symm⟩⟩
