import Derived.Test.YtmkiclinllifiaaCyCo
import Derived.Test.YtmkiclinllifiaaCyAl
set_option linter.unusedSimpArgs false
set_option linter.unusedVariables false
namespace Go.Proofs.Ytmkiclinllifiaa
open Go.Sim
set_option maxRecDepth 100000
theorem reach_len{P:List F2}(hP:∀p∈P,okP p.n p.d){R:Int->Bool}{t:List F2}{R':Int->Bool}{t':List F2}(h:Reach P R t R' t'):t'.length+unr R'=t.length+unr R:=by
 induction h with
 |stop h=>rfl
 |step h r ih=>
  have e:=unr_add (hP _ (List.mem_of_find?_eq_some h)) (List.find?_some h);rw[List.length_append]at ih;simp only[List.length_cons,List.length_nil]at ih;omega
theorem parts_len{P:List F2}(hP:∀p∈P,okP p.n p.d){S:Int->Prop}(hS:∀s,S s->0<=s/\s<8){R:Int->Bool}{t:List F2}{k:Int}{t':List F2}{k':Int}(h:Parts P S R t k t' k'):t'.length<=t.length+unr R:=by
 induction h with
 |stop h=>omega
 |part h1 h2 h3 r q ih=>
  have e:=unr_set (hS _ h1).1 (hS _ h1).2 h2;have:=reach_len hP r;omega
end Go.Proofs.Ytmkiclinllifiaa
namespace Go.Proofs.Ytmkiclinllifiaa
open Go.Sim
set_option maxRecDepth 100000
def walkP:List Int->List F2
 | []=>[]
 | [_]=>[]
 |x :: y :: r=>⟨x,y⟩ :: walkP (y :: r)
theorem walkP_cons(x y:Int)(r:List Int):walkP (x :: y :: r)=⟨x,y⟩ :: walkP (y :: r):=rfl
theorem walkP_adj{T:List (Int×Int)}(hg:grows T=true):∀(p:List Int) (x y:Int),pathR T x y=some p->∀q∈walkP p,Adj T q.n q.d
 | [],x,y,_,q,hq=>by cases hq
 | [_],x,y,_,q,hq=>by cases hq
 |a :: b :: r,x,y,h,q,hq=>by
  obtain⟨⟨w,e⟩,_⟩:=path_ends hg h;cases e;obtain⟨h1,h2⟩:=path_rest hg h;rcases List.mem_cons.1 hq with rfl|hq
  ·exact h2
  ·exact walkP_adj hg (b :: r) b y h1 q hq
theorem walkP_len:∀(x:Int) (u:List Int),(walkP (x :: u)).length=u.length
 |x,[]=>rfl
 |x,y :: u=>by rw[walkP_cons,List.length_cons,walkP_len y u,List.length_cons]
theorem gt_walkP:∀(u:List Int) (k:Int),0<=k->k+1<u.length->gt (walkP u) k=⟨gt u k,gt u (k+1)⟩
 | [],k,h0,h1=>by simp at h1;omega
 | [x],k,h0,h1=>by simp at h1;omega
 |x :: y :: u,k,h0,h1=>by
  rw[walkP_cons];by_cases c:k=0
  ·subst c;rfl
  ·have ih:=gt_walkP (y :: u) (k-1) (by omega) (by simp only[List.length_cons]at h1 ⊢;omega)
   have sh:∀{α:Type} [Inhabited α] (a:α) (l:List α) (j:Int),0<j->gt (a :: l) j=gt l (j-1):=fun a l j hj=>by
    unfold gt;rw[show j.toNat=(j-1).toNat+1 by omega];rfl
   rw[sh _ _ k (by omega),sh _ _ k (by omega),sh _ _ (k+1) (by omega),ih,show k+1-1=k-1+1 by omega]
theorem sps_walk(x:Int)(c:List Int):sps (x :: c)=walkP (x :: c++[x]):=by
 apply gt_extR
 ·rw[sps_len]
  show _=(walkP (x :: (c++[x]))).length;rw[walkP_len];simp
 ·intro k k0 k1
  rw[sps_len]at k1;rw[gt_sps _ k0 k1,gt_walkP _ k k0 (by simp only[List.length_append,List.length_cons,List.length_nil]at k1 ⊢;omega)];unfold stepP nxC;have ap:∀j:Int,0<=j->j<(x :: c).length->gt (x :: c++[x]) j=gt (x :: c) j:=fun j j0 j1=>by
   unfold gt;rw[List.getD_eq_getElem?_getD,List.getD_eq_getElem?_getD,List.getElem?_append_left (by omega)]
  rw[ap k k0 k1];rcases nx_cases k0 k1 with ⟨e1,e2⟩|⟨e1,e2⟩
  ·rw[e1,ap (k+1) (by omega) e2]
  ·rw[e1,e2]
   congr 1
   unfold gt;rw[List.getD_eq_getElem?_getD,List.getD_eq_getElem?_getD,List.getElem?_append_right (by omega)];simp
end Go.Proofs.Ytmkiclinllifiaa
namespace Go.Proofs.Ytmkiclinllifiaa
open Go.Sim
set_option maxRecDepth 100000
abbrev TreeP(l:List Vk)(t:List F2)(pk:Int):Prop:=Parts (basP l) (stS l) (fun _=>false) [] 0 t pk
theorem bas_lt{l:List Vk}(h:CkR l 0){p:F2}(hp:p∈basP l):0<=p.n/\p.n<p.d/\p.d<8:=by
 obtain⟨v,hv,rfl⟩:=((basP_is h.ok0.2.1).mem p).1 hp;have:=h.ok0.2.1 v hv;exact⟨this.1,this.2.1,this.2.2.1⟩
theorem tree_in{l:List Vk}{t:List F2}{pk:Int}(hp:TreeP l t pk):∀p∈t,p∈basP l:=fun p h=>by
 rcases(hp.grows rfl (fun x hx=>by cases hx)).2 p h with q|q
 ·cases q
 ·exact q
theorem mem_trT{t:List F2}{a b:Int}:(a,b)∈trT t↔(⟨a,b⟩:F2)∈t:=by
 unfold trT;rw[List.mem_reverse,List.mem_map];constructor
 ·rintro⟨p,hp,e⟩
  obtain⟨x,y⟩:=p;cases e;exact hp
 ·intro h
  exact⟨_,h,rfl⟩
theorem chd_in{l:List Vk}{t:List F2}{p:F2}(h:p∈chds t (basP l)):p∈basP l/\p∉t:=by
 have:=List.mem_filter.1 h;exact⟨this.1,by simpa using this.2⟩
theorem chd_adj{l:List Vk}(h:CkR l 0){t:List F2}{pk:Int}(hp:TreeP l t pk){p:F2}(hc:p∈chds t (basP l)):¬Adj (trT t) p.n p.d:=by
 rintro(q|q)
 ·exact(chd_in hc).2 (mem_trT.1 q)
 ·have h1:=bas_lt h (tree_in hp _ (mem_trT.1 q))
  have h2:=bas_lt h (chd_in hc).1;simp only at h1;omega
theorem tree_st{l:List Vk}(h:CkR l 0){t:List F2}{pk:Int}(hp:TreeP l t pk):∀v,hasV (trT t) v=true->0<=v/\v<8:=by
 intro v hv;obtain⟨⟨a,b⟩,hm,e⟩:=hasV_mem.1 hv;have:=bas_lt h (tree_in hp _ (mem_trT.1 hm));simp only at this e;omega
theorem parts_len1{P:List F2}(hP:∀p∈P,okP p.n p.d){S:Int->Prop}(hS:∀s,S s->0<=s/\s<8){R:Int->Bool}{t:List F2}{k:Int}{t':List F2}{k':Int}(h:Parts P S R t k t' k'):t'=t\/t'.length+1<=t.length+unr R:=by
 cases h with
 |stop h=>exact .inl rfl
 |part h1 h2 h3 r q=>
  have e:=unr_set (hS _ h1).1 (hS _ h1).2 h2;have:=reach_len hP r;have:=parts_len hP hS q;exact .inr (by omega)
theorem tree_len7{l:List Vk}(h:CkR l 0){t:List F2}{pk:Int}(hp:TreeP l t pk):t.length<=7:=by
 have hs:=okV.st h.ok0.2.1;rcases parts_len1 ((basP_is h.ok0.2.1).ok hs) (fun s hs'=>stS_pos hs hs') hp with q|q
 ·rw[q];simp
 ·have:unr (fun _=>false)=8:=rfl
  simp only[List.length_nil]at q;omega
theorem circ_walk{l:List Vk}(h:CkR l 0){t:List F2}{pk:Int}(hp:TreeP l t pk){p:F2}(hc:p∈chds t (basP l)):∃w,pathR (trT t) p.d p.n=some w/\sps (circF t p)=p :: walkP w/\circle (circF t p):=by
 obtain⟨k1,k2,k3⟩:=h.ok0;obtain⟨⟨w,hw⟩,hne⟩:=chds_ok (okV.st k2) (okV.lt k2) (basP_is k2) hp p hc;have hg:=parts_grows hp;obtain⟨⟨q1,e1⟩,q2,e2⟩:=path_ends hg hw;have wl:=path_len hg hw;have wn:=path_nodup hg hw;have htl:(trT t).length=t.length:=by unfold trT;simp
 have t7:=tree_len7 h hp;have ed:w.dropLast=q2:=by rw[e2];simp
 have ec:circF t p=p.n :: q2:=by unfold circF;rw[hw,Option.getD_some,ed]
 have hl:w.length=q2.length+1:=by rw[e2];simp
 obtain⟨n,d⟩:=p;simp only at *;refine⟨w,hw,?_,?_,?_,?_,?_⟩
 ·rw[ec,sps_walk]
  show walkP (n :: (q2++[n]))=_;rw[<-e2,e1];rfl
 ·rw[ec,List.length_cons]
  rcases Nat.lt_or_ge q2.length 2 with c|c
  ·exfalso
   cases q1 with
   |nil=>exact hne (path_one hg (by rw[hw,e1])).symm
   |cons z q1=>
    have:q1=[]:=by
     rw[e1]at hl;simp only[List.length_cons]at hl;exact List.length_eq_zero_iff.1 (by omega)
    subst this;have ez:z=n:=by
     rw[e1]at e2;have h2:=congrArg List.getLast? e2;rw[List.getLast?_concat]at h2;simpa using h2
    subst ez;rw[e1]at hw;exact chd_adj h hp hc ((path_rest hg hw).2.symm)
  ·omega
 ·rw[ec,List.length_cons];omega
 ·intro s hs
  rw[ec]at hs;have hs':s∈w:=by
   rw[e2];rcases List.mem_cons.1 hs with rfl|z
   ·simp
   ·exact List.mem_append_left _ z
  rcases path_mem hg hw s hs' with ⟨q,_⟩|q
  ·exact absurd q.symm hne
  ·exact tree_st h hp s q
 ·rw[ec]
  rw[e2,List.nodup_append]at wn;refine List.nodup_cons.2 ⟨fun q=>?_,wn.1⟩;exact wn.2.2 _ q _ (List.mem_singleton.2 rfl) rfl
theorem flI_none:∀{L:List F2} {i j:Int},(∀s∈L,¬(s.n=i/\s.d=j)/\¬(s.n=j/\s.d=i))->flI L i j=0
 | [],i,j,_=>rfl
 |p :: L,i,j,h=>by
  have h1:=h p (List.mem_cons_self ..);unfold flI;rw[flI_none (fun s hs=>h s (List.mem_cons_of_mem _ hs)),if_neg h1.1,if_neg h1.2];rfl
theorem circ_fl{l:List Vk}(h:CkR l 0){t:List F2}{pk:Int}(hp:TreeP l t pk){p:F2}(hc:p∈chds t (basP l)){x y:Int}(hn:¬Adj (trT t) x y):flI (sps (circF t p)) x y=(if p.n=x/\p.d=y then 1 else 0)-(if p.n=y/\p.d=x then 1 else 0):=by
 obtain⟨w,hw,e,_⟩:=circ_walk h hp hc;rw[e];show flI (walkP w) x y+_=_;have ha:=walkP_adj (parts_grows hp) w _ _ hw;rw[flI_none (fun s hs=>⟨fun q=>hn (by rw[<-q.1,<-q.2];exact ha s hs),fun q=>hn (by rw[<-q.1,<-q.2];exact(ha s hs).symm)⟩)];omega
theorem circ_one{l:List Vk}(h:CkR l 0){t:List F2}{pk:Int}(hp:TreeP l t pk){p q:F2}(hc:p∈chds t (basP l))(hq:q∈chds t (basP l)):steps (circF t p) q.n q.d=if p=q then 1 else 0:=by
 rw[steps_flI,circ_fl h hp hc (chd_adj h hp hq)];have h1:=bas_lt h (chd_in hc).1;have h2:=bas_lt h (chd_in hq).1;rw[if_neg (show ¬(p.n=q.d/\p.d=q.n) by omega)];by_cases c:p=q
 ·subst c;simp
 ·rw[if_neg c,if_neg (fun z=>c (by obtain⟨a,b⟩:=p;obtain⟨a',b'⟩:=q;obtain⟨rfl,rfl⟩:=z;rfl))];rfl
theorem bas_nodup(l:List Vk):(basP l).Nodup:=by
 have:(basP l).Pairwise (fun x y=>8*x.n+x.d<8*y.n+y.d):=allP_pw.sublist List.filter_sublist;exact this.imp (fun h e=>by rw[e]at h;omega)
theorem chds_nodup(l:List Vk)(t:List F2):(chds t (basP l)).Nodup:=(bas_nodup l).sublist List.filter_sublist
end Go.Proofs.Ytmkiclinllifiaa
namespace Go.Proofs.Ytmkiclinllifiaa
open Go.Sim
set_option maxRecDepth 100000
variable{F:Prims}{call a0 b0 d0 e0 f0 g0 i0 l0 m0 n0 o0 p0 q0 r0 nz s0 rd wr t0 next v0 w0 x0 y0 z0 a1 b1 d1 f1 part i1 l1 m1 o1 p1 s1 t1 u1 lt ne v1 w1 x1 yn y1 z1 a2 b2 c2 d2 f2 i2:_}(hA:AP F ⟨call,a0,b0,d0,e0,f0,g0,i0,l0,m0,n0,o0,p0,q0,r0,nz,s0,rd,wr,t0,next,v0,w0,x0,y0,z0,a1,b1,d1,f1,part,i1,l1,m1,o1,p1,s1,t1,u1,lt,ne,v1,w1,x1,yn,y1,z1,a2,b2,c2,d2,f2,i2⟩)
include hA
theorem rcheck_any{h:AHeap}(hlow:h.low<=h.next){a:Option Addr}{n c:Nat}{l:List Vk}(hl:Vs h a n l){Q:Value->AHeap->Prop}
  (hbad:∀e h',e≠0->Ext h h'->Q (.int .i64 e) h') (hok:∀h',CkR l 0->n<=64->Ext h h'->Q (.int .i64 0) h'):call 22 [.slice a n c] h Q:=by
 by_cases c0:n<=1000
 ·refine rclcheck_ok hA hlow hl c0 (fun e h' ke x=>?_)
  by_cases c1:e=0
  ·subst c1
   exact hok h' ke (by have:=ke.ok0.1;have:=hl.len;omega) x
  ·exact hbad e h' c1 x
 ·refine hA.bodyR Try.func22 r22_ok (hA.alike _ _ _ rfl) hlow (zc ?_)
  refine hA.bodyR Try.func46 r46_ok (hA.alike _ _ _ rfl) hlow (zc ?_);refine br (64<n) (by rw[e_gtr hA,e_ofNat hA];simp;omega) (fun c1=>?_) (fun c1=>by omega)<;>refine zc ?_;refine⟨_,rfl,?_⟩;refine zc ?_;refine br True (by rw[e_neq hA];rfl) (fun _=>?_) (fun q=>absurd trivial q)<;>refine zc ?_;exact hbad 4 h (by omega) (.refl h)
end Go.Proofs.Ytmkiclinllifiaa
namespace Go.Proofs.Ytmkiclinllifiaa
open Go.Sim
set_option maxRecDepth 100000
theorem setR_sub{S:Int->Prop}{R:Int->Bool}(h:∀x,R x=true->S x){s:Int}(hs:S s):∀x,setR R s x=true->S x:=by
 intro x hx;unfold setR at hx;by_cases c:x=s
 ·rw[c];exact hs
 ·rw[if_neg c]at hx;exact h x hx
theorem reach_sub{P:List F2}{S:Int->Prop}(hS:∀p∈P,S p.n/\S p.d){R:Int->Bool}{t:List F2}{R':Int->Bool}{t':List F2}(h:Reach P R t R' t')(hR:∀x,R x=true->S x):∀x,R' x=true->S x:=by
 induction h with
 |stop h=>exact hR
 |step h r ih=>
  have hm:=hS _ (List.mem_of_find?_eq_some h);exact ih (setR_sub (setR_sub hR hm.1) hm.2)
theorem parts_count{P:List F2}(hP:∀p∈P,okP p.n p.d){S:Int->Prop}(hS:∀p∈P,S p.n/\S p.d)(hb:∀s,S s->0<=s/\s<8){R:Int->Bool}{t:List F2}{k:Int}{t':List F2}{k':Int}(h:Parts P S R t k t' k')(hR:∀x,R x=true->S x) :
  ∃Rf:Int->Bool,(∀x,Rf x=true↔S x)/\(t'.length:Int)+(k'-k)+unr Rf=t.length+unr R:=by
 induction h with
 | @stop R t k h=>exact⟨R,fun x=>⟨hR x,h x⟩,by omega⟩
 |part h1 h2 h3 r q ih=>
  have e:=unr_set (hb _ h1).1 (hb _ h1).2 h2;have e2:=reach_len hP r;obtain⟨Rf,r1,r2⟩:=ih (reach_sub hS r (setR_sub hR h1));exact⟨Rf,r1,by omega⟩
def cntR(R:Int->Bool):Nat->Int
 |0=>0
 |i+1=>cntR R i+(if R i=true then 1 else 0)
theorem cntR_8(R:Int->Bool):cntR R 8+unr R=8:=by
 unfold unr un;simp only[cntR];show 0+(if R 0=true then(1:Int)else 0)+(if R 1=true then 1 else 0)+(if R 2=true then 1 else 0)+(if R 3=true then 1 else 0)+(if R 4=true then 1 else 0)+(if R 5=true then 1 else 0)+(if R 6=true then 1 else 0)+(if R 7=true then 1 else 0)+_=8;cases R 0<;>cases R 1<;>cases R 2<;>cases R 3<;>cases R 4<;>cases R 5<;>cases R 6<;>cases R 7<;>rfl
theorem cntR_bd(R:Int->Bool):∀i:Nat,0<=cntR R i/\cntR R i<=i
 |0=>by simp[cntR]
 |i+1=>by
  have:=cntR_bd R i;unfold cntR;split<;>omega
theorem tree_count{l:List Vk}(h:CkR l 0){t:List F2}{pk:Int}(hp:TreeP l t pk):∃Rf:Int->Bool,(∀x,Rf x=true↔stS l x)/\(t.length:Int)+pk=cntR Rf 8/\0<=pk:=by
 have hs:=okV.st h.ok0.2.1;obtain⟨Rf,r1,r2⟩:=parts_count ((basP_is h.ok0.2.1).ok hs) (bas_st (basP_is h.ok0.2.1)) (fun s hs'=>stS_pos hs hs') hp (fun x hx=>by cases hx);refine⟨Rf,r1,?_,?_⟩
 ·have:=cntR_8 Rf
  have u0:unr (fun _=>false)=8:=rfl;rw[u0]at r2;simp only[List.length_nil]at r2;omega
 ·have mono:∀{R:Int->Bool} {u:List F2} {k:Int} {u':List F2} {k':Int},Parts (basP l) (stS l) R u k u' k'->k<=k':=fun h=>by
   induction h with
   |stop _=>omega
   |part _ _ _ _ _ ih=>omega
  exact mono hp
theorem len_split(p:F2->Bool):∀L:List F2,(L.filter p).length+(L.filter (fun x=>!p x)).length=L.length
 | []=>rfl
 |a :: L=>by
  have:=len_split p L;cases c:p a with
  |true=>rw[List.filter_cons_of_pos c,List.filter_cons_of_neg (by simp[c])];simp only[List.length_cons];omega
  |false=>rw[List.filter_cons_of_neg (by simp[c]),List.filter_cons_of_pos (by simp[c])];simp only[List.length_cons];omega
theorem perm_len:∀{A B:List F2},A.Nodup->B.Nodup->(∀x,x∈A↔x∈B)->A.length=B.length
 | [],B,_,_,h=>by
  cases B with
  |nil=>rfl
  |cons b B=>have:=(h b).2 (List.mem_cons_self ..);cases this
 |a :: A,B,ha,hb,h=>by
  obtain⟨n1,n2⟩:=List.nodup_cons.1 ha;have hm:a∈B:=(h a).1 (List.mem_cons_self ..);have:=perm_len (A:=A) (B:=B.erase a) n2 (hb.erase a) (fun x=>by
   rw[List.Nodup.mem_erase_iff hb];constructor
   ·intro hx
    exact⟨fun e=>n1 (e ▸ hx),(h x).1 (List.mem_cons_of_mem _ hx)⟩
   ·rintro⟨hx,hx2⟩
    rcases List.mem_cons.1 ((h x).2 hx2)with e|e
    ·exact absurd e hx
    ·exact e)
  rw[List.length_erase_of_mem hm]at this;have:0<B.length:=List.length_pos_of_mem hm;simp only[List.length_cons];omega
theorem all_count{l:List Vk}{t:List F2}{pk:Int}(hp:TreeP l t pk):t.length+(chds t (basP l)).length=(basP l).length:=by
 have e:=len_split (fun p=>decide (p∈t)) (basP l);have e2:(basP l).filter (fun x=>!decide (x∈t))=chds t (basP l):=by
  unfold chds
  congr 1
  funext x
  by_cases c:x∈t<;>simp[c]
 rw[e2]at e;have e3:((basP l).filter (fun p=>decide (p∈t))).length=t.length:=by
  refine perm_len ((bas_nodup l).sublist List.filter_sublist) hp.nodup (fun x=>?_);rw[List.mem_filter,decide_eq_true_iff];exact⟨fun q=>q.2,fun q=>⟨tree_in hp x q,q⟩⟩
 omega
def cntP(p:F2):List F2->Int
 | []=>0
 |q :: L=>cntP p L+(if q=p then 1 else 0)
theorem cntP_append(p:F2):∀(L M:List F2),cntP p (L++M)=cntP p L+cntP p M
 | [],M=>by show cntP p M=0+cntP p M;omega
 |q :: L,M=>by
  show cntP p (L++M)+_=cntP p L+_+cntP p M;rw[cntP_append p L M];omega
theorem cntP_bd(p:F2):∀L:List F2,0<=cntP p L/\cntP p L<=L.length
 | []=>by simp[cntP]
 |q :: L=>by
  have:=cntP_bd p L;show 0<=cntP p L+_/\cntP p L+_<=((L.length+1:Nat):Int);split<;>omega
theorem cntP_nodup{p:F2}:∀{L:List F2},L.Nodup->cntP p L=if p∈L then 1 else 0
 | [],_=>by simp[cntP]
 |q :: L,h=>by
  obtain⟨h1,h2⟩:=List.nodup_cons.1 h;show cntP p L+_=_;rw[cntP_nodup h2];by_cases c:q=p
  ·subst c
   rw[if_neg h1,if_pos rfl,if_pos (List.mem_cons_self ..)];rfl
  ·rw[if_neg c]
   by_cases d:p∈L
   ·rw[if_pos d,if_pos (List.mem_cons_of_mem _ d)];rfl
   ·rw[if_neg d,if_neg (fun q=>by rcases List.mem_cons.1 q with e|e;exact c e.symm;exact d e)];rfl
theorem cnt_once{l:List Vk}{t:List F2}{pk:Int}(hp:TreeP l t pk){p:F2}(hm:p∈basP l):cntP p t+cntP p (chds t (basP l))=1:=by
 rw[cntP_nodup hp.nodup,cntP_nodup (chds_nodup l t)];by_cases c:p∈t
 ·rw[if_pos c,if_neg (fun q=>(chd_in q).2 c)];rfl
 ·have hm':p∈chds t (basP l):=List.mem_filter.2 ⟨hm,by simpa using c⟩
  rw[if_neg c,if_pos hm'];rfl
theorem circ_there{l:List Vk}(h:CkR l 0){t:List F2}{pk:Int}(hp:TreeP l t pk){p:F2}(hc:p∈chds t (basP l)):∀s∈sps (circF t p),fv l s.n s.d≠none:=by
 obtain⟨w,hw,e,_⟩:=circ_walk h hp hc;intro s hs;rw[e]at hs;rw[fv_bas h.ok0.2.1];have fit:∀a b:Int,(⟨a,b⟩:F2)∈basP l->(⟨min a b,max a b⟩:F2)∈basP l/\(⟨min b a,max b a⟩:F2)∈basP l:=fun a b hm=>by
  have:=bas_lt h hm;simp only at this;rw[show min a b=a by omega,show max a b=b by omega,show min b a=a by omega,show max b a=b by omega];exact⟨hm,hm⟩
 rcases List.mem_cons.1 hs with rfl|hs
 ·exact(fit _ _ (chd_in hc).1).1
 ·rcases walkP_adj (parts_grows hp) w _ _ hw s hs with q|q
  ·exact(fit _ _ (tree_in hp _ (mem_trT.1 q))).1
  ·exact(fit _ _ (tree_in hp _ (mem_trT.1 q))).2
theorem circ_co{l:List Vk}(h:CkR l 0){t:List F2}{pk:Int}(hp:TreeP l t pk){p:F2}(hc:p∈chds t (basP l)):CoO l (circF t p) ((chds t (basP l)).map fun q=>steps (circF t p) q.n q.d) 0:=by
 obtain⟨w,hw,e,h1⟩:=circ_walk h hp hc;exact .ok h h1 (circ_there h hp hc) hp
theorem circ_head{l:List Vk}(h:CkR l 0){t:List F2}{pk:Int}(hp:TreeP l t pk){p:F2}(hc:p∈chds t (basP l)):gt (circF t p) 0=p.n/\gt (circF t p) 1=p.d:=by
 obtain⟨w,hw,e,h1⟩:=circ_walk h hp hc;have h3:=h1.1;have g:gt (sps (circF t p)) 0=p:=by rw[e];rfl
 rw[gt_sps _ (by omega) (by omega)]at g;unfold stepP nxC at g;rw[show(0+1:Int) % ((circF t p).length:Int)=1 from Int.emod_eq_of_lt (by omega) (by omega)]at g;have g1:=congrArg F2.n g;have g2:=congrArg F2.d g;exact⟨g1,g2⟩
