import Derived.Test.YtmkiclinllifiaaCyP
set_option linter.unusedSimpArgs false
set_option linter.unusedVariables false
namespace Go.Proofs.Ytmkiclinllifiaa
open Go.Sim
def Conn(T:List (Int×Int))(x y:Int):Prop:=∃p,pathR T x y=some p
theorem Conn.refl(T:List (Int×Int))(x:Int):Conn T x x:=⟨_,path_self T x⟩
theorem Conn.symm{T:List (Int×Int)}(hg:grows T=true){x y:Int}(h:Conn T x y):Conn T y x:=by
 obtain⟨p,hp⟩:=h;exact⟨_,by rw[path_back hg x y,hp];rfl⟩
theorem conn_suf{T:List (Int×Int)}(hg:grows T=true){y j:Int}:∀(p:List Int) (i:Int),pathR T i y=some p->j∈p->Conn T j y
 | [],i,h,hj=>by cases hj
 | [z],i,h,hj=>by
  rw[List.mem_singleton]at hj;obtain⟨⟨q,h1⟩,_⟩:=path_ends hg h;simp only[List.cons.injEq]at h1;rw[hj,h1.1];exact⟨_,h⟩
 |z :: u :: q,i,h,hj=>by
  obtain⟨⟨q',h1⟩,_⟩:=path_ends hg h;simp only[List.cons.injEq]at h1;have hz:=h1.1;subst hz;rcases List.mem_cons.1 hj with e|hj
  ·rw[e];exact⟨_,h⟩
  ·exact conn_suf hg (u :: q) u (path_rest hg h).1 hj
theorem Conn.step{T:List (Int×Int)}(hg:grows T=true){i j y:Int}(ha:Adj T i j)(h:Conn T i y):Conn T j y:=by
 obtain⟨p,hp⟩:=h;by_cases c:j∈p
 ·exact conn_suf hg p i hp c
 ·exact⟨_,path_step hg ha hp c⟩
theorem conn_trans_aux{T:List (Int×Int)}(hg:grows T=true){y z:Int}(hz:Conn T y z):∀(p:List Int) (x:Int),pathR T x y=some p->Conn T x z
 | [],x,h=>by obtain⟨⟨q,h1⟩,_⟩:=path_ends hg h;cases h1
 | [u],x,h=>by rw[path_one hg h];exact hz
 |u :: v :: q,x,h=>by
  obtain⟨⟨q',h1⟩,_⟩:=path_ends hg h;simp only[List.cons.injEq]at h1;have hx:=h1.1;subst hx;obtain⟨h2,h3⟩:=path_rest hg h;exact(conn_trans_aux hg hz (v :: q) v h2).step hg h3.symm
theorem Conn.trans{T:List (Int×Int)}(hg:grows T=true){x y z:Int}(h:Conn T x y)(k:Conn T y z):Conn T x z:=by
 obtain⟨p,hp⟩:=h;exact conn_trans_aux hg k p x hp
theorem path_more{T:List (Int×Int)}{e:Int×Int}(hg:grows (e :: T)=true){x y:Int}{p:List Int}(h:pathR T x y=some p):pathR (e :: T) x y=some p:=by
 obtain⟨a,b⟩:=e;obtain⟨l,o,L⟩:=leaf_of hg;have hg':=grows_tail hg;by_cases c:x=y
 ·subst c;rw[path_self]at h ⊢;exact h
 rw[L.path,if_neg c];have nl:∀u,u∈p->u≠l:=fun u hu e=>by
  rcases path_mem hg' h u hu with ⟨e1,_⟩|e1
  ·exact c e1
  ·rw[e,L.new]at e1;cases e1
 obtain⟨⟨q1,h1⟩,q2,h2⟩:=path_ends hg' h;rw[if_neg (nl x (by rw[h1];exact List.mem_cons_self)),if_neg (nl y (by rw[h2];simp))];exact h
theorem Conn.more{T:List (Int×Int)}{e:Int×Int}(hg:grows (e :: T)=true){x y:Int}(h:Conn T x y):Conn (e :: T) x y:=by
 obtain⟨p,hp⟩:=h;exact⟨p,path_more hg hp⟩
theorem cut_none{P:List F2}{R:Int->Bool}(h:P.find? (cutP R)=none):∀p∈P,R p.n=R p.d:=fun p hp=>by
 have:=List.find?_eq_none.1 h p hp;unfold cutP at this;simpa using this
theorem Reach.conn{P:List F2}{R0:Int->Bool}{s:Int}(hc:∀p∈P,R0 p.n=R0 p.d){R:Int->Bool}{t:List F2}{R':Int->Bool}{t':List F2}(h:Reach P R t R' t')(hg:Go.Sim.grows (trT t)=true)(hr:InR R t)
  (h0:∀x,R0 x=true->R x=true) (hs:∀x,R x=true->R0 x=true\/Conn (trT t) s x) :
  (∀x,R' x=true->R0 x=true\/Conn (trT t') s x)/\(∀x y,Conn (trT t) x y->Conn (trT t') x y):=by
 induction h with
 |stop h=>exact⟨hs,fun _ _ h=>h⟩
 | @step R t p R' t' h r ih=>
  have hcut:=List.find?_some h;have hmem:=List.mem_of_find?_eq_some h;obtain⟨g1,g2⟩:=cut_grows hg hr hcut;have gg:=g1;rw[trT_add]at gg;have mono:∀x y,Conn (trT t) x y->Conn (trT (t++[p])) x y:=fun x y hxy=>by rw[trT_add];exact hxy.more gg
  have adj:Adj (trT (t++[p])) p.n p.d:=by rw[trT_add];exact .inl List.mem_cons_self
  have hne:R p.n≠R p.d:=by unfold cutP at hcut;simpa using hcut
  have hRs:∀x,R x=true->addR R p x=true:=fun x hx=>by
   unfold addR setR;by_cases c:x=p.d
   ·rw[if_pos c]
   ·rw[if_neg c]
    by_cases c2:x=p.n
    ·rw[if_pos c2]
    ·rw[if_neg c2];exact hx
  obtain⟨k1,k2⟩:=ih g1 g2 (fun x hx=>hRs x (h0 x hx)) (fun x hx=>by
   by_cases c:R x=true
   ·rcases hs x c with q|q
    ·exact .inl q
    ·exact .inr (mono _ _ q)
   ·
    right;have hx':x=p.n\/x=p.d:=by
     unfold addR setR at hx;by_cases c1:x=p.d
     ·exact .inr c1
     ·rw[if_neg c1]at hx
      by_cases c2:x=p.n
      ·exact .inl c2
      ·rw[if_neg c2]at hx;exact absurd hx c
    rcases hx' with rfl|rfl
    ·have hd:R p.d=true:=by
      cases q:R p.d with
      |true=>rfl
      |false=>rw[q]at hne;cases q2:R p.n with
       |true=>exact absurd q2 c
       |false=>exact absurd q2 hne
     rcases hs _ hd with q|q
     ·exact absurd (h0 _ (by rw[hc p hmem];exact q)) c
     ·exact(((mono _ _ q).symm g1).step g1 adj.symm).symm g1
    ·have hd:R p.n=true:=by
      cases q:R p.n with
      |true=>rfl
      |false=>rw[q]at hne;cases q2:R p.d with
       |true=>exact absurd q2 c
       |false=>exact absurd q2.symm hne
     rcases hs _ hd with q|q
     ·exact absurd (h0 _ (by rw[<-hc p hmem];exact q)) c
     ·exact(((mono _ _ q).symm g1).step g1 adj).symm g1)
  exact⟨k1,fun x y hxy=>k2 x y (mono x y hxy)⟩
theorem Parts.conn{P:List F2}{S:Int->Prop}(hS:∀p∈P,S p.n/\S p.d){R:Int->Bool}{t:List F2}{k:Int}{t':List F2}{k':Int}(h:Parts P S R t k t' k')(hg:Go.Sim.grows (trT t)=true)(hr:InR R t)
  (hc:∀p∈P,R p.n=R p.d) (hj:∀p∈P,R p.n=true->Conn (trT t) p.n p.d):∀p∈P,Conn (trT t') p.n p.d:=by
 induction h with
 |stop h=>exact fun p hp=>hj p hp (h _ (hS p hp).1)
 | @part R t k s R1 t1 t' k' h1 h2 h3 r q ih=>
  have hr':InR (setR R s) t:=fun x hx=>by
   unfold setR;by_cases c:x=s
   ·rw[if_pos c]
   ·rw[if_neg c];exact hr x hx
  obtain⟨g1,g2,g3,g4,g5⟩:=r.grows hg hr';obtain⟨k1,k2⟩:=r.conn (R0:=R) (s:=s) hc hg hr' (fun x hx=>by
   unfold setR;by_cases c:x=s
   ·rw[if_pos c]
   ·rw[if_neg c];exact hx) (fun x hx=>by
   unfold setR at hx;by_cases c:x=s
   ·right;rw[c];exact .refl _ _
   ·rw[if_neg c]at hx;exact .inl hx)
  refine ih g1 g2 (cut_none g5) (fun p hp hx=>?_);by_cases c:R p.n=true
  ·exact k2 _ _ (hj p hp c)
  ·have cd:¬R p.d=true:=by rw[<-hc p hp];exact c
   rcases k1 _ hx with q|q
   ·exact absurd q c
   ·rcases k1 _ ((cut_none g5 p hp).symm.trans hx)with q'|q'
    ·exact absurd q' cd
    ·exact(q.symm g1).trans g1 q'
theorem Parts.conn0{P:List F2}{S:Int->Prop}(hS:∀p∈P,S p.n/\S p.d){t:List F2}{k:Int}(h:Parts P S (fun _=>false) [] 0 t k):∀p∈P,Conn (trT t) p.n p.d:=
 h.conn hS rfl (fun x hx=>by cases hx) (fun _ _=>rfl) (fun p hp hx=>by cases hx)
end Go.Proofs.Ytmkiclinllifiaa
namespace Go.Proofs.Ytmkiclinllifiaa
open Go.Sim
def findS(T:List (Int×Int))(x y but:Int):Option (List Int):=
 match pathR T x y with
 |some p=>if p.tail.head?=some but then none else some p
 |none=>none
theorem findS_self(T:List (Int×Int))(x but:Int):findS T x x but=some [x]:=by
 unfold findS;rw[path_self];rfl
theorem path_suf{T:List (Int×Int)}(hg:grows T=true){y j:Int}:∀(p:List Int) (i:Int),pathR T i y=some p->j∈p->∃p1 p2,p=p1++p2/\pathR T j y=some p2
 | [],i,h,hj=>by cases hj
 | [z],i,h,hj=>by
  rw[List.mem_singleton]at hj;obtain⟨⟨q,h1⟩,_⟩:=path_ends hg h;simp only[List.cons.injEq]at h1;exact⟨[],[z],rfl,by rw[hj,h1.1];rw[<-h1.1]at h ⊢;exact h⟩
 |z :: u :: q,i,h,hj=>by
  obtain⟨⟨q',h1⟩,_⟩:=path_ends hg h;simp only[List.cons.injEq]at h1;have hz:=h1.1;subst hz;rcases List.mem_cons.1 hj with e|hj
  ·exact⟨[],_,rfl,by rw[e];exact h⟩
  ·obtain⟨p1,p2,e,hp⟩:=path_suf hg (u :: q) u (path_rest hg h).1 hj
   exact⟨z :: p1,p2,by rw[e];rfl,hp⟩
theorem adj_ne{T:List (Int×Int)}(hg:grows T=true){x v:Int}(ha:Adj T x v):x≠v:=by
 have:∀{T:List (Int×Int)},grows T=true->∀{a b:Int},(a,b)∈T->a≠b:=by
  intro T
  induction T with
  |nil=>intro _ a b h;cases h
  |cons p T ih=>
   intro hg a b h;obtain⟨c,d⟩:=p;have hg':=hg;simp only[grows,Bool.and_eq_true,Bool.not_eq_true',decide_eq_false_iff_not]at hg';rcases List.mem_cons.1 h with e|h
   ·cases e;exact hg'.1.1
   ·exact ih (grows_tail hg) h
 rcases ha with h|h
 ·exact this hg h
 ·exact(this hg h).symm
theorem adj_path{T:List (Int×Int)}(hg:grows T=true){x v:Int}(ha:Adj T x v):pathR T x v=some [x,v]:=
 path_step hg ha.symm (path_self T v) (by simp;exact adj_ne hg ha)
theorem not_back{T:List (Int×Int)}(hg:grows T=true){x v y:Int}(ha:Adj T v x){r:List Int}(hr:pathR T v y=some r)(hs:r.tail.head?≠some x):x∉r:=by
 intro hx;have hb:pathR T y v=some r.reverse:=by rw[path_back hg v y,hr];rfl
 obtain⟨p1,p2,e,hp⟩:=path_suf hg (j:=x) r.reverse y hb (List.mem_reverse.2 hx);rw[adj_path hg ha.symm]at hp;obtain rfl:=Option.some.inj hp;have:r=v :: x :: p1.reverse:=by
  have:=congrArg List.reverse e;rw[List.reverse_reverse]at this;rw[this];simp
 rw[this]at hs;exact hs rfl
theorem find_step{T:List (Int×Int)}(hg:grows T=true){x v y but:Int}(ha:Adj T x v)(hv:v≠but){r:List Int}(h:findS T v y x=some r):findS T x y but=some (x :: r):=by
 unfold findS at h;cases c:pathR T v y with
 |none=>rw[c]at h;cases h
 |some r'=>
  rw[c]at h;simp only at h;by_cases c2:r'.tail.head?=some x
  ·rw[if_pos c2]at h;cases h
  ·rw[if_neg c2]at h
   obtain rfl:=Option.some.inj h;have hx:=not_back hg ha.symm c c2;have hp:=path_step hg ha.symm c hx;unfold findS;rw[hp];obtain⟨⟨q,e⟩,_⟩:=path_ends hg c;simp only[List.tail_cons];rw[e];simp only[List.head?_cons,oi];rw[if_neg hv]
theorem find_none{T:List (Int×Int)}(hg:grows T=true){x y but:Int}(hne:x≠y)(h:∀v,Adj T x v->v≠but->findS T v y x=none):findS T x y but=none:=by
 unfold findS;cases c:pathR T x y with
 |none=>rfl
 |some p=>
  simp only;obtain⟨⟨q0,e⟩,_⟩:=path_ends hg c;subst e;cases q0 with
  |nil=>exact absurd (path_one hg c) hne
  |cons u q=>
   by_cases cu:u=but
   ·rw[if_pos (by rw[cu];rfl)]
   ·exfalso
    obtain⟨h1,h2⟩:=path_rest hg c;have h3:=h u h2 cu;unfold findS at h3;rw[h1]at h3;have nd:=path_nodup hg c;have hn2:¬((u :: q).tail.head?=some x):=fun e=>by
     have e':q.head?=some x:=e;cases q with
     |nil=>cases e'
     |cons w q=>
      have:w=x:=Option.some.inj e';subst this;simp at nd
    have h4:(if (u :: q).tail.head?=some x then none else some (u :: q))=none:=h3;rw[if_neg hn2]at h4;cases h4
def inD(T:List (Int×Int))(x but z:Int):Bool:=(findS T x z but).isSome
def cntD(T:List (Int×Int))(x but:Int):Nat:=((List.range 8).filter (fun z:Nat=>inD T x but z)).length
theorem cntD_lt{T:List (Int×Int)}(hg:grows T=true){x v but:Int}(x0:0<=x)(x8:x<8)(ha:Adj T x v)(hv:v≠but):cntD T v x<cntD T x but:=by
 unfold cntD;rw[<-List.countP_eq_length_filter,<-List.countP_eq_length_filter];have hsub:∀z:Nat,inD T v x z=true->inD T x but z=true:=fun z hz=>by
  unfold inD at hz ⊢;obtain⟨r,hr⟩:=Option.isSome_iff_exists.1 hz;rw[find_step hg ha hv hr];rfl
 have h1:inD T x but x=true:=by unfold inD;rw[findS_self];rfl
 have h2:inD T v x x=false:=by
  unfold inD findS;rw[adj_path hg ha.symm];simp
 have split:List.range 8=List.range x.toNat++(x.toNat :: (List.range (8-x.toNat-1)).map (x.toNat+1 + ·)):=by
  have:(8:Nat)=x.toNat+(1+(8-x.toNat-1)):=by omega
  conv=>lhs;rw[this,List.range_add,Nat.add_comm 1,List.range_succ_eq_map]
  simp only[List.map_cons,List.map_map,Nat.add_zero]
  congr 2
  apply List.map_congr_left;intro a _;simp only[Function.comp];omega
 have mono:∀L:List Nat,L.countP (fun z:Nat=>inD T v x z)<=L.countP (fun z:Nat=>inD T x but z):=fun L=>List.countP_mono_left (fun z _ hz=>hsub z hz)
 have hxc:((x.toNat:Nat):Int)=x:=by omega
 rw[split,List.countP_append,List.countP_append,List.countP_cons,List.countP_cons,hxc,if_pos h1,if_neg (by rw[h2];simp)];have m1:=mono (List.range x.toNat);have m2:=mono ((List.range (8-x.toNat-1)).map (x.toNat+1 + ·));omega
theorem cntD_pos{T:List (Int×Int)}{x but:Int}(x0:0<=x)(x8:x<8):0<cntD T x but:=by
 unfold cntD;refine List.length_pos_iff_exists_mem.2 ⟨x.toNat,List.mem_filter.2 ⟨List.mem_range.2 (by omega),?_⟩⟩;rw[show((x.toNat:Nat):Int)=x by omega];unfold inD;rw[findS_self];rfl
theorem cntD_le(T:List (Int×Int))(x but:Int):cntD T x but<=8:=by
 unfold cntD;have:=List.length_filter_le (fun z:Nat=>inD T x but z) (List.range 8);rw[List.length_range]at this;exact this
theorem findS_top{T:List (Int×Int)}(hg:grows T=true)(hp:∀u,hasV T u=true->0<=u){x y:Int}(x0:0<=x):findS T x y (-1)=pathR T x y:=by
 unfold findS;cases c:pathR T x y with
 |none=>rfl
 |some p=>
  simp only;refine if_neg (fun e=>?_);obtain⟨⟨q0,e0⟩,_⟩:=path_ends hg c;subst e0;cases q0 with
  |nil=>cases e
  |cons u q=>
   simp only[List.tail_cons,List.head?_cons,oi]at e;have:=hp u (path_rest hg c).2.v2;omega
theorem trT_mem{t:List F2}{a b:Int}:(a,b)∈trT t↔(⟨a,b⟩:F2)∈t:=by
 unfold trT;rw[List.mem_reverse,List.mem_map];constructor
 ·rintro⟨p,hp,e⟩
  obtain⟨c,d⟩:=p;simp only[F2.t,pj]at e;rw[<-e.1,<-e.2];exact hp
 ·intro h
  exact⟨_,h,rfl⟩
