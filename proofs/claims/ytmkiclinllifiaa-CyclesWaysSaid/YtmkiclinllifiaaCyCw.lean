import Derived.Test.YtmkiclinllifiaaCyCo
import Derived.Test.YtmkiclinllifiaaCyLT
import Derived.Test.YtmkiclinllifiaaCxR
import Derived.Test.YtmkiclinllifiaaSortH
set_option linter.unusedSimpArgs false
set_option linter.unusedVariables false
namespace Go.Proofs.Ytmkiclinllifiaa
open Go.Sim
set_option maxRecDepth 100000
theorem reach_len{P:List F2}(hP:∀p∈P,okP p.n p.d){R:Int->Bool}{t:List F2}{R':Int->Bool}{t':List F2}(h:Reach P R t R' t'):t'.length+unr R'=t.length+unr R:=by
 induction h with
 |stop h=>rfl
 |step h r ih=>
  have e:=unr_add (hP _ (List.mem_of_find?_eq_some h)) (List.find?_some h);rw[List.length_append]at ih;simp only[List.length_cons,List.length_nil]at ih;omega
theorem parts_len{P:List F2}(hP:∀p∈P,okP p.n p.d){S:Int->Prop}(hS:∀s,S s->0<=s/\s<8){R:Int->Bool}{t:List F2}{k:Int}{t':List F2}{k':Int}(h:Parts P S R t k t' k'):t'.length<=t.length+unr R:=by
 induction h with
 |stop h=>omega
 |part h1 h2 h3 r q ih=>
  have e:=unr_set (hS _ h1).1 (hS _ h1).2 h2;have:=reach_len hP r;omega
end Go.Proofs.Ytmkiclinllifiaa
namespace Go.Proofs.Ytmkiclinllifiaa
open Go.Sim
set_option maxRecDepth 100000
def walkP:List Int->List F2
 | []=>[]
 | [_]=>[]
 |x :: y :: r=>⟨x,y⟩ :: walkP (y :: r)
theorem walkP_cons(x y:Int)(r:List Int):walkP (x :: y :: r)=⟨x,y⟩ :: walkP (y :: r):=rfl
theorem walkP_adj{T:List (Int×Int)}(hg:grows T=true):∀(p:List Int) (x y:Int),pathR T x y=some p->∀q∈walkP p,Adj T q.n q.d
 | [],x,y,_,q,hq=>by cases hq
 | [_],x,y,_,q,hq=>by cases hq
 |a :: b :: r,x,y,h,q,hq=>by
  obtain⟨⟨w,e⟩,_⟩:=path_ends hg h;cases e;obtain⟨h1,h2⟩:=path_rest hg h;rcases List.mem_cons.1 hq with rfl|hq
  ·exact h2
  ·exact walkP_adj hg (b :: r) b y h1 q hq
theorem walkP_len:∀(x:Int) (u:List Int),(walkP (x :: u)).length=u.length
 |x,[]=>rfl
 |x,y :: u=>by rw[walkP_cons,List.length_cons,walkP_len y u,List.length_cons]
theorem gt_walkP:∀(u:List Int) (k:Int),0<=k->k+1<u.length->gt (walkP u) k=⟨gt u k,gt u (k+1)⟩
 | [],k,h0,h1=>by simp at h1;omega
 | [x],k,h0,h1=>by simp at h1;omega
 |x :: y :: u,k,h0,h1=>by
  rw[walkP_cons];by_cases c:k=0
  ·subst c;rfl
  ·have ih:=gt_walkP (y :: u) (k-1) (by omega) (by simp only[List.length_cons]at h1 ⊢;omega)
   have sh:∀{α:Type} [Inhabited α] (a:α) (l:List α) (j:Int),0<j->gt (a :: l) j=gt l (j-1):=fun a l j hj=>by
    unfold gt;rw[show j.toNat=(j-1).toNat+1 by omega];rfl
   rw[sh _ _ k (by omega),sh _ _ k (by omega),sh _ _ (k+1) (by omega),ih,show k+1-1=k-1+1 by omega]
end Go.Proofs.Ytmkiclinllifiaa
namespace Go.Proofs.Ytmkiclinllifiaa
open Go.Sim
set_option maxRecDepth 100000
theorem fv_bas{l:List Vk}(hk:∀v∈l,okV v){x y:Int}:fv l x y≠none↔(⟨min x y,max x y⟩:F2)∈basP l:=by
 rw[(basP_is hk).mem];constructor
 ·intro h
  by_cases c:∃v∈l,(v.i=x/\v.j=y)\/(v.i=y/\v.j=x)
  ·obtain⟨v,hv,e⟩:=c
   have:=(hk v hv).2.1;refine⟨v,hv,?_⟩;unfold Vk.pr;rw[F2.mk.injEq];omega
  ·exact absurd (fv_none.2 (fun v hv=>⟨fun q=>c ⟨v,hv,.inl q⟩,fun q=>c ⟨v,hv,.inr q⟩⟩)) h
 ·rintro⟨v,hv,e⟩ h
  unfold Vk.pr at e;rw[F2.mk.injEq]at e;have h1:=(fv_none.1 h) v hv;omega
variable{F:Prims}{a0 b0 c0 d0 e0 f0 g0 i0 j0 k0 l0 m0 n0 o0 p0 nz q0 rd wr r0 s0 t0 u0 v0 w0 x0 y0 z0 a1 b1 part c1 d1 f1 g1 i1 j1 k1 l1 lt ne m1 n1 o1 yn p1 q1 r1 s1 t1 u1 v1 w1:_}(hA:AP F ⟨a0,b0,c0,d0,e0,f0,g0,i0,j0,k0,l0,m0,n0,o0,p0,nz,q0,rd,wr,r0,s0,t0,u0,v0,w0,x0,y0,z0,a1,b1,part,c1,d1,f1,g1,i1,j1,k1,l1,lt,ne,m1,n1,o1,yn,p1,q1,r1,s1,t1,u1,v1,w1⟩)
include hA
end Go.Proofs.Ytmkiclinllifiaa
namespace Go.Proofs.Ytmkiclinllifiaa
open Go.Sim
set_option maxRecDepth 100000
abbrev TreeP(l:List Vk)(t:List F2)(pk:Int):Prop:=Parts (basP l) (stS l) (fun _=>false) [] 0 t pk
theorem bas_lt{l:List Vk}(h:CkR l 0){p:F2}(hp:p∈basP l):0<=p.n/\p.n<p.d/\p.d<8:=by
 obtain⟨v,hv,rfl⟩:=((basP_is h.ok0.2.1).mem p).1 hp;have:=h.ok0.2.1 v hv;exact⟨this.1,this.2.1,this.2.2.1⟩
theorem tree_in{l:List Vk}{t:List F2}{pk:Int}(hp:TreeP l t pk):∀p∈t,p∈basP l:=fun p h=>by
 rcases(hp.grows rfl (fun x hx=>by cases hx)).2 p h with q|q
 ·cases q
 ·exact q
theorem mem_trT{t:List F2}{a b:Int}:(a,b)∈trT t↔(⟨a,b⟩:F2)∈t:=by
 unfold trT;rw[List.mem_reverse,List.mem_map];constructor
 ·rintro⟨p,hp,e⟩
  obtain⟨x,y⟩:=p;cases e;exact hp
 ·intro h
  exact⟨_,h,rfl⟩
theorem tree_st{l:List Vk}(h:CkR l 0){t:List F2}{pk:Int}(hp:TreeP l t pk):∀v,hasV (trT t) v=true->0<=v/\v<8:=by
 intro v hv;obtain⟨⟨a,b⟩,hm,e⟩:=hasV_mem.1 hv;have:=bas_lt h (tree_in hp _ (mem_trT.1 hm));simp only at this e;omega
theorem parts_len1{P:List F2}(hP:∀p∈P,okP p.n p.d){S:Int->Prop}(hS:∀s,S s->0<=s/\s<8){R:Int->Bool}{t:List F2}{k:Int}{t':List F2}{k':Int}(h:Parts P S R t k t' k'):t'=t\/t'.length+1<=t.length+unr R:=by
 cases h with
 |stop h=>exact .inl rfl
 |part h1 h2 h3 r q=>
  have e:=unr_set (hS _ h1).1 (hS _ h1).2 h2;have:=reach_len hP r;have:=parts_len hP hS q;exact .inr (by omega)
theorem tree_len7{l:List Vk}(h:CkR l 0){t:List F2}{pk:Int}(hp:TreeP l t pk):t.length<=7:=by
 have hs:=okV.st h.ok0.2.1;rcases parts_len1 ((basP_is h.ok0.2.1).ok hs) (fun s hs'=>stS_pos hs hs') hp with q|q
 ·rw[q];simp
 ·have:unr (fun _=>false)=8:=rfl
  simp only[List.length_nil]at q;omega
end Go.Proofs.Ytmkiclinllifiaa
namespace Go.Proofs.Ytmkiclinllifiaa
open Go.Sim
set_option maxRecDepth 100000
def exP:List F2:=[⟨0,1⟩,⟨1,2⟩,⟨2,3⟩,⟨0,3⟩,⟨0,2⟩]
def exV(p:F2):Vk:=⟨p.n,p.d,1,0,1,0⟩
def exL:List Vk:=exP.map exV
def exT:List F2:=[⟨0,1⟩,⟨0,2⟩,⟨0,3⟩]
theorem exP_ok:∀p∈exP,(0<=p.n/\p.n<p.d/\p.d<8)/\p.n∈[(0:Int),1,2,3]/\p.d∈[(0:Int),1,2,3]:=by decide
theorem ex_ck:CkR exL 0:=by
 refine .ok (by decide) (fun v hv=>?_) (by decide);obtain⟨p,hp,rfl⟩:=List.mem_map.1 hv;have h1:okC 1 0 1:=(okC_iff _ _ _).2 (by decide);have:=(exP_ok p hp).1;exact⟨this.1,this.2.1,this.2.2,Int.le_refl 0,h1⟩
theorem ex_bas:basP exL=[⟨0,1⟩,⟨0,2⟩,⟨0,3⟩,⟨1,2⟩,⟨2,3⟩]:=by decide
theorem ex_parts:Parts (basP exL) (stS exL) (fun _=>false) [] 0 exT 1:=by
 rw[ex_bas];refine .part (s:=0) ⟨exV ⟨0,1⟩,List.mem_map_of_mem (show(⟨0,1⟩:F2)∈exP by decide),.inl rfl⟩ rfl (fun x hx hl=>?_) (.step (p:=⟨0,1⟩) (by decide) (.step (p:=⟨0,2⟩) (by decide) (.step (p:=⟨0,3⟩) (by decide) (.stop (by decide))))) (.stop (fun s hs=>?_))
 ·have:=(stS_pos (okV.st ex_ck.ok0.2.1) hx).1
  omega
 ·obtain⟨v,hv,e⟩:=hs
  obtain⟨p,hp,rfl⟩:=List.mem_map.1 hv;have:=(exP_ok p hp).2;have hs':s∈[(0:Int),1,2,3]:=by
   rcases e with rfl|rfl
   ·exact this.1
   ·exact this.2
  have key:∀s∈[(0:Int),1,2,3],addR (addR (addR (setR (fun x=>false) 0) { n:=0,d:=1 }) { n:=0,d:=2 }) { n:=0,d:=3 } s=true:=by decide
  exact key s hs'
theorem ex_chds:chds exT (basP exL)=[⟨1,2⟩,⟨2,3⟩]:=by rw[ex_bas];decide
theorem ex_circ:([⟨1,2⟩,⟨2,3⟩]:List F2).map (circF exT)=[[1,2,0],[2,3,0]]:=by decide
theorem ex_tree:TreeO exL (exT,1) 0:=.ok ex_ck ex_parts
theorem ex_chd:ChdO exL [⟨1,2⟩,⟨2,3⟩] 0:=by
 have:=AnsG.ok (f:=fun t _=>chds t (basP exL)) (z:=[]) ex_ck ex_parts;simp only[ex_chds]at this;exact this
theorem ex_bass:BasO exL [[1,2,0],[2,3,0]] 0:=by
 have:=AnsG.ok (f:=fun t _=>(chds t (basP exL)).map (circF t)) (z:=[]) ex_ck ex_parts;simp only[ex_chds,ex_circ]at this;exact this
theorem ex_co{c:List Int}(hc:circle c)(h:∀p∈sps c,(⟨min p.n p.d,max p.n p.d⟩:F2)∈[(⟨0,1⟩:F2),⟨0,2⟩,⟨0,3⟩,⟨1,2⟩,⟨2,3⟩]){x:List Int}(hx:([⟨1,2⟩,⟨2,3⟩]:List F2).map (fun p=>steps c p.n p.d)=x):CoO exL c x 0:=by
 have:=CoO.ok (c:=c) ex_ck hc (fun p hp=>(fv_bas ex_ck.ok0.2.1).2 (by rw[ex_bas];exact h p hp)) ex_parts;rw[ex_chds,hx]at this;exact this
theorem circ_dec{c:List Int}(h1:3<=c.length)(h2:c.length<=8)(h3:∀s∈c,0<=s/\s<8)(h4:c.Nodup):circle c:=⟨h1,h2,h3,h4⟩
theorem ex_co1:CoO exL [0,1,2,3] [1,1] 0:=ex_co (circ_dec (by decide) (by decide) (by decide) (by decide)) (by decide) (by decide)
theorem ex_co2:CoO exL [0,3,2] [0,-1] 0:=ex_co (circ_dec (by decide) (by decide) (by decide) (by decide)) (by decide) (by decide)
end Go.Proofs.Ytmkiclinllifiaa
namespace Go.Proofs.Ytmkiclinllifiaa
open Go.Sim
set_option maxRecDepth 100000
def rlx(v:Vk)(A:Int->Int):Int->Int:=fun x=>if x=v.i\/x=v.j then min (A v.i) (A v.j)else A x
def rlxL:List Vk->(Int->Int)->Int->Int
 | [],A=>A
 |v :: l,A=>rlxL l (rlx v A)
theorem rlxL_append:∀(l m:List Vk) (A:Int->Int),rlxL (l++m) A=rlxL m (rlxL l A)
 | [],m,A=>rfl
 |v :: l,m,A=>rlxL_append l m (rlx v A)
def rlxN(l:List Vk):Nat->Int->Int
 |0=>fun x=>x
 |n+1=>rlxL l (rlxN l n)
theorem rlx_le(v:Vk)(A:Int->Int)(x:Int):rlx v A x<=A x:=by
 unfold rlx;split
 ·rename_i h;rcases h with rfl|rfl<;>omega
 ·omega
theorem rlxL_le:∀(l:List Vk) (A:Int->Int) (x:Int),rlxL l A x<=A x
 | [],A,x=>Int.le_refl _
 |v :: l,A,x=>Int.le_trans (rlxL_le l (rlx v A) x) (rlx_le v A x)
theorem rlxL_edge:∀{l:List Vk} {v:Vk},v∈l->∀A:Int->Int,rlxL l A v.i<=A v.j/\rlxL l A v.j<=A v.i
 | [],v,h,_=>by cases h
 |w :: l,v,h,A=>by
  show rlxL l (rlx w A) v.i<=A v.j/\rlxL l (rlx w A) v.j<=A v.i;rcases List.mem_cons.1 h with rfl|h
  ·have h1:=rlxL_le l (rlx v A) v.i
   have h2:=rlxL_le l (rlx v A) v.j;have e1:rlx v A v.i=min (A v.i) (A v.j):=by unfold rlx;rw[if_pos (.inl rfl)]
   have e2:rlx v A v.j=min (A v.i) (A v.j):=by unfold rlx;rw[if_pos (.inr rfl)]
   omega
  ·have ih:=rlxL_edge h (rlx w A)
   have h1:=rlx_le w A v.i;have h2:=rlx_le w A v.j;omega
theorem rlxL_conn{C:Int->Int->Prop}(hs:∀{x y},C x y->C y x)(ht:∀{x y z},C x y->C y z->C x z):∀{l:List Vk},(∀v∈l,C v.i v.j)->∀{A:Int->Int},(∀x,C x (A x))->∀x,C x (rlxL l A x)
 | [],_,A,hA,x=>hA x
 |v :: l,hl,A,hA,x=>by
  refine rlxL_conn (C:=C) hs ht (fun w hw=>hl w (List.mem_cons_of_mem _ hw)) (A:=rlx v A) (fun x=>?_) x;have e:=hl v (List.mem_cons_self ..);unfold rlx;split
  ·rename_i h
   rcases(by omega:min (A v.i) (A v.j)=A v.i\/min (A v.i) (A v.j)=A v.j)with q|q
   ·rw[q]
    rcases h with rfl|rfl
    ·exact hA _
    ·exact ht (hs e) (hA _)
   ·rw[q]
    rcases h with rfl|rfl
    ·exact ht e (hA _)
    ·exact hA _
  ·exact hA x
theorem rlxN_conn{l:List Vk}(h:CkR l 0){t:List F2}{pk:Int}(hp:TreeP l t pk):∀(n:Nat) (x:Int),Conn (trT t) x (rlxN l n x)
 |0,x=>.refl _ _
 |n+1,x=>rlxL_conn (C:=Conn (trT t)) (fun q=>q.symm (parts_grows hp)) (fun q r=>q.trans (parts_grows hp) r) (fun v hv=>hp.conn0 (bas_st (basP_is h.ok0.2.1)) v.pr (((basP_is h.ok0.2.1).mem _).2 ⟨v,hv,rfl⟩)) (rlxN_conn h hp n) x
theorem rlxN_path{l:List Vk}(h:CkR l 0){t:List F2}{pk:Int}(hp:TreeP l t pk):∀(n:Nat) (p:List Int) (x y:Int),pathR (trT t) x y=some p->p.length<=n+1->rlxN l n x<=y
 |n,[],x,y,hw,_=>by obtain⟨⟨q,e⟩,_⟩:=path_ends (parts_grows hp) hw;cases e
 |0,[z],x,y,hw,_=>by have:=path_one (parts_grows hp) hw;show x<=y;omega
 |0,_ :: _ :: _,x,y,hw,hl=>by simp at hl
 |n+1,[z],x,y,hw,_=>by
  have e:=path_one (parts_grows hp) hw;have:=rlxL_le l (rlxN l n) x;have ih:=rlxN_path h hp n [z] x y hw (by simp);show rlxL l (rlxN l n) x<=y;omega
 |n+1,a :: b :: q,x,y,hw,hl=>by
  have hg:=parts_grows hp;obtain⟨⟨q',e⟩,_⟩:=path_ends hg hw;cases e;obtain⟨h1,h2⟩:=path_rest hg hw;have ih:=rlxN_path h hp n (b :: q) b y h1 (by simp only[List.length_cons]at hl ⊢;omega);have key:rlxL l (rlxN l n) a<=rlxN l n b:=by
   rcases h2 with r|r
   ·obtain⟨v,hv,e⟩:=((basP_is h.ok0.2.1).mem _).1 (tree_in hp _ (mem_trT.1 r))
    have:=(rlxL_edge hv (rlxN l n)).1;unfold Vk.pr at e;rw[F2.mk.injEq]at e;rw[<-e.1,<-e.2]at this;exact this
   ·obtain⟨v,hv,e⟩:=((basP_is h.ok0.2.1).mem _).1 (tree_in hp _ (mem_trT.1 r))
    have:=(rlxL_edge hv (rlxN l n)).2;unfold Vk.pr at e;rw[F2.mk.injEq]at e;rw[<-e.1,<-e.2]at this;exact this
  show rlxL l (rlxN l n) a<=y;omega
theorem rlx8{l:List Vk}(h:CkR l 0){t:List F2}{pk:Int}(hp:TreeP l t pk)(x y:Int):rlxN l 8 x=rlxN l 8 y↔Conn (trT t) x y:=by
 have hg:=parts_grows hp;have t7:=tree_len7 h hp;have htl:(trT t).length=t.length:=by unfold trT;simp
 have le:∀x y,Conn (trT t) x y->rlxN l 8 x<=y:=fun x y ⟨p,q⟩=>rlxN_path h hp 8 p x y q (by have:=path_len hg q;omega)
 constructor
 ·intro e
  have h1:=rlxN_conn h hp 8 x;have h2:=rlxN_conn h hp 8 y;rw[e]at h1;exact h1.trans hg (h2.symm hg)
 ·intro c
  have h1:=le x _ (c.trans hg (rlxN_conn h hp 8 y));have h2:=le y _ ((c.symm hg).trans hg (rlxN_conn h hp 8 x));omega
