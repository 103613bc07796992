import Derived.Test.YtmkiclinllifiaaCyCo
import Derived.Test.YtmkiclinllifiaaCyAl
import Derived.Test.YtmkiclinllifiaaCyWay
set_option linter.unusedSimpArgs false
set_option linter.unusedVariables false
namespace Go.Proofs.Ytmkiclinllifiaa
open Go.Sim
set_option maxRecDepth 100000
def sgC(c:Int)(p:Ck):Ck:=if c<0 then⟨p.a,-p.b,p.d⟩else p
theorem sg_ray{c:Int}{p:Ck}(h:isRay p):isRay (sgC c p):=by
 unfold sgC;split
 ·exact⟨by rw[Int.gcd_neg];exact h.g,h.d,h.a1,h.a2,by have:=h.b2;show -1000000000<=-p.b;omega,by have:=h.b1;show -p.b<=1000000000;omega⟩
 ·exact h
inductive FaR(l:List Vk):List (Int×List Int)->List Ck->List Ck->Int->Prop
 |nil (acc:List Ck):FaR l [] acc acc 0
 |skip {b:List Int} {rest:List (Int×List Int)} {acc fs:List Ck} {e:Int} (r:FaR l rest acc fs e):FaR l ((0,b) :: rest) acc fs e
 |err {c:Int} {b:List Int} {rest:List (Int×List Int)} {acc:List Ck} {p:Ck} {e:Int} (h0:c≠0) (hp:PhO l b p e) (he:e≠0):FaR l ((c,b) :: rest) acc [] e
 |take {c:Int} {b:List Int} {rest:List (Int×List Int)} {acc fs:List Ck} {p:Ck} {e:Int} (h0:c≠0) (hp:PhO l b p 0) (r:FaR l rest (acc++[sgC c p]) fs e):FaR l ((c,b) :: rest) acc fs e
theorem FaR.rays{l:List Vk}{Z:List (Int×List Int)}{acc x:List Ck}{e:Int}(h:FaR l Z acc x e)(hr:∀v∈acc,isRay v):∀v∈x,isRay v:=by
 induction h with
 |nil acc=>exact hr
 |skip r ih=>exact ih hr
 |err h0 hp he=>intro v hv;cases hv
 |take h0 hp r ih=>
  refine ih (fun v hv=>?_);rcases List.mem_append.1 hv with z|z
  ·exact hr v z
  ·rw[List.mem_singleton.1 z];exact sg_ray hp.ray
theorem FaR.len{l:List Vk}{Z:List (Int×List Int)}{acc x:List Ck}{e:Int}(h:FaR l Z acc x e):x.length<=acc.length+Z.length:=by
 induction h with
 |nil acc=>simp
 |skip r ih=>simp only[List.length_cons];omega
 |err h0 hp he=>simp
 |take h0 hp r ih=>simp only[List.length_append,List.length_cons,List.length_nil]at ih ⊢;omega
def zsC(l:List Vk)(c:List Int)(t:List F2):List (Int×List Int):=(chds t (basP l)).map fun p=>(steps c p.n p.d,circF t p)
theorem zs_fst(l:List Vk)(c:List Int)(t:List F2):(zsC l c t).map Prod.fst=(chds t (basP l)).map fun p=>steps c p.n p.d:=by unfold zsC;rw[List.map_map];rfl
theorem zs_snd(l:List Vk)(c:List Int)(t:List F2):(zsC l c t).map Prod.snd=(chds t (basP l)).map (circF t):=by unfold zsC;rw[List.map_map];rfl
inductive ReO(l:List Vk)(c:List Int):Ck->Int->Prop
 |bad {e:Int} (h0:e≠0) (h:CoO l c [] e):ReO l c zeC e
 |ph {x:List Int} {t:List F2} {pk e:Int} (h:CoO l c x 0) (hp:Parts (basP l) (stS l) (fun _=>false) [] 0 t pk) (hf:FaR l (zsC l c t) [] [] e) (he:e≠0):ReO l c zeC e
 |range {x:List Int} {t:List F2} {pk:Int} {fs:List Ck} (h:CoO l c x 0) (hp:Parts (basP l) (stS l) (fun _=>false) [] 0 t pk) (hf:FaR l (zsC l c t) [] fs 0) (hr:trnF oneC fs=none):ReO l c zeC 16
 |ok {x:List Int} {t:List F2} {pk:Int} {fs:List Ck} {p:Ck} (h:CoO l c x 0) (hp:Parts (basP l) (stS l) (fun _=>false) [] 0 t pk) (hf:FaR l (zsC l c t) [] fs 0) (hr:trnF oneC fs=some p):ReO l c p 0
theorem reach_len{P:List F2}(hP:∀p∈P,okP p.n p.d){R:Int->Bool}{t:List F2}{R':Int->Bool}{t':List F2}(h:Reach P R t R' t'):t'.length+unr R'=t.length+unr R:=by
 induction h with
 |stop h=>rfl
 |step h r ih=>
  have e:=unr_add (hP _ (List.mem_of_find?_eq_some h)) (List.find?_some h);rw[List.length_append]at ih;simp only[List.length_cons,List.length_nil]at ih;omega
theorem parts_len{P:List F2}(hP:∀p∈P,okP p.n p.d){S:Int->Prop}(hS:∀s,S s->0<=s/\s<8){R:Int->Bool}{t:List F2}{k:Int}{t':List F2}{k':Int}(h:Parts P S R t k t' k'):t'.length<=t.length+unr R:=by
 induction h with
 |stop h=>omega
 |part h1 h2 h3 r q ih=>
  have e:=unr_set (hS _ h1).1 (hS _ h1).2 h2;have:=reach_len hP r;omega
theorem parts_len8{l:List Vk}(h:CkR l 0){t:List F2}{pk:Int}(hp:Parts (basP l) (stS l) (fun _=>false) [] 0 t pk):t.length<=8:=by
 have hs:=okV.st h.ok0.2.1;have:=parts_len ((basP_is h.ok0.2.1).ok hs) (fun s hs'=>stS_pos hs hs') hp;exact this
theorem zs_rows{l:List Vk}{c:List Int}{t:List F2}{pk:Int}(h:CkR l 0)(hp:Parts (basP l) (stS l) (fun _=>false) [] 0 t pk):∀z∈zsC l c t,z.2.length<=1000:=by
 intro z hz;unfold zsC at hz;obtain⟨p,hp',rfl⟩:=List.mem_map.1 hz;show(circF t p).length<=1000;unfold circF;obtain⟨k1,k2,k3⟩:=h.ok0;obtain⟨⟨w,hw⟩,_⟩:=chds_ok (okV.st k2) (okV.lt k2) (basP_is k2) hp p hp';have wl:=path_len (parts_grows hp) hw;have htl:(trT t).length=t.length:=by unfold trT;simp
 have:=parts_len8 h hp;simp only[hw,Option.getD_some,List.length_cons,List.length_dropLast];omega
end Go.Proofs.Ytmkiclinllifiaa
namespace Go.Proofs.Ytmkiclinllifiaa
open Go.Sim
set_option maxRecDepth 100000
def sum8(f:Int->Int):Int:=f 0+f 1+f 2+f 3+f 4+f 5+f 6+f 7
theorem sum8_add(f g:Int->Int):sum8 (fun y=>f y+g y)=sum8 f+sum8 g:=by unfold sum8;dsimp only;omega
theorem sum8_sub(f g:Int->Int):sum8 (fun y=>f y-g y)=sum8 f-sum8 g:=by unfold sum8;dsimp only;omega
theorem sum8_mul(c:Int)(f:Int->Int):sum8 (fun y=>c*f y)=c*sum8 f:=by unfold sum8;simp only[Int.mul_add]
theorem sum8_ind{d:Int}(h0:0<=d)(h1:d<8)(a:Int):sum8 (fun y=>if d=y then a else 0)=a:=by
 unfold sum8;rcases(by omega:d=0\/d=1\/d=2\/d=3\/d=4\/d=5\/d=6\/d=7)with rfl|rfl|rfl|rfl|rfl|rfl|rfl|rfl<;>simp
theorem sum8_only{f:Int->Int}{o:Int}(h0:0<=o)(h1:o<8)(h:∀y,y≠o->f y=0):sum8 f=f o:=by
 have e:f=fun y=>if o=y then f o else 0:=by
  funext y
  by_cases c:o=y
  ·rw[if_pos c,c]
  ·rw[if_neg c];exact h y (fun q=>c q.symm)
 rw[e,sum8_ind h0 h1];simp
theorem flI_anti:∀(L:List F2) (i j:Int),flI L j i=- flI L i j
 | [],i,j=>rfl
 |p :: L,i,j=>by
  unfold flI;rw[flI_anti L i j];omega
def outI:List F2->Int->Int
 | [],_=>0
 |p :: L,x=>outI L x+((if p.n=x then 1 else 0)-(if p.d=x then 1 else 0))
theorem flI_out:∀{L:List F2},(∀p∈L,0<=p.n/\p.n<8/\0<=p.d/\p.d<8)->∀x,sum8 (flI L x)=outI L x
 | [],_,x=>rfl
 |p :: L,h,x=>by
  obtain⟨h1,h2,h3,h4⟩:=h p (List.mem_cons_self ..);have ih:=flI_out (L:=L) (fun q hq=>h q (List.mem_cons_of_mem _ hq)) x;have e:flI (p :: L) x=fun y=>flI L x y+((if p.d=y then(if p.n=x then 1 else 0)else 0)-(if p.n=y then(if p.d=x then 1 else 0)else 0)):=by
   funext y
   show flI L x y+_=_;have s1:(if p.n=x/\p.d=y then(1:Int)else 0)=if p.d=y then(if p.n=x then 1 else 0)else 0:=by
    by_cases c1:p.n=x<;>by_cases c2:p.d=y<;>simp[c1,c2]
   have s2:(if p.n=y/\p.d=x then(1:Int)else 0)=if p.n=y then(if p.d=x then 1 else 0)else 0:=by
    by_cases c1:p.n=y<;>by_cases c2:p.d=x<;>simp[c1,c2]
   rw[s1,s2]
  rw[e,sum8_add,sum8_sub,sum8_ind h3 h4,sum8_ind h1 h2,ih];rfl
def cntI:List Int->Int->Int
 | [],_=>0
 |a :: L,x=>cntI L x+(if a=x then 1 else 0)
theorem cntI_append:∀(L M:List Int) (x:Int),cntI (L++M) x=cntI L x+cntI M x
 | [],M,x=>by show cntI M x=0+cntI M x;omega
 |p :: L,M,x=>by
  show cntI (L++M) x+_=cntI L x+_+cntI M x;rw[cntI_append L M x];omega
theorem outI_cnt:∀(L:List F2) (x:Int),outI L x=cntI (L.map F2.n) x-cntI (L.map F2.d) x
 | [],x=>rfl
 |p :: L,x=>by
  show outI L x+_=cntI (L.map F2.n) x+_-(cntI (L.map F2.d) x+_);rw[outI_cnt L x];omega
theorem sps_snd(c:List Int):(sps c).map F2.d=c.drop 1++c.take 1:=by
 apply gt_extR
 ·rw[List.length_map,sps_len,List.length_append,List.length_drop,List.length_take]
  omega
 ·intro k k0 k1
  rw[List.length_map,sps_len]at k1;rw[gt_map F2.d (sps c) k0 (by rw[sps_len];exact k1),gt_sps c k0 k1];show nxC c k=_;unfold nxC;rcases nx_cases k0 k1 with ⟨e1,e2⟩|⟨e1,e2⟩
  ·rw[e1]
   unfold gt;rw[List.getD_eq_getElem?_getD,List.getD_eq_getElem?_getD,List.getElem?_append_left (by rw[List.length_drop];omega),List.getElem?_drop,show 1+k.toNat=(k+1).toNat by omega]
  ·rw[e1]
   unfold gt;rw[List.getD_eq_getElem?_getD,List.getD_eq_getElem?_getD,List.getElem?_append_right (by rw[List.length_drop];omega),List.length_drop,List.getElem?_take,show k.toNat-(c.length-1)=0 by omega];rfl
theorem sps_out(c:List Int)(x:Int):outI (sps c) x=0:=by
 rw[outI_cnt,sps_fst,sps_snd,cntI_append];have:=cntI_append (c.take 1) (c.drop 1) x;rw[List.take_append_drop]at this;omega
theorem sps_in{c:List Int}(h:∀s∈c,0<=s/\s<8):∀p∈sps c,0<=p.n/\p.n<8/\0<=p.d/\p.d<8:=by
 intro p hp;obtain⟨k,k0,k1,rfl⟩:=mem_sps hp;have:=nx_cases k0 k1;have h1:=h _ (gt_mem c k0 k1);have h2:=h _ (gt_mem c (i:=(k+1) % c.length) (by omega) (by omega));exact⟨h1.1,h1.2,h2.1,h2.2⟩
theorem flow_zero:∀{T:List (Int×Int)},grows T=true->(∀v,hasV T v=true->0<=v/\v<8)->∀{D:Int->Int->Int},(∀x y,D y x=- D x y)->(∀x y,¬Adj T x y->D x y=0)->(∀x,0<=x->x<8->sum8 (D x)=0)->∀x y,D x y=0
 | [],_,_,D,h1,h2,h3,x,y=>h2 x y (fun q=>by rcases q with q|q<;>cases q)
 |(a,b) :: r,hg,hv,D,h1,h2,h3,x,y=>by
  obtain⟨l,o,L⟩:=leaf_of hg;have lv:hasV ((a,b) :: r) l=true/\hasV ((a,b) :: r) o=true:=by
   rw[hasV_cons,hasV_cons];rcases L.is with ⟨rfl,rfl⟩|⟨rfl,rfl⟩
   ·exact⟨.inl rfl,.inr (.inl rfl)⟩
   ·exact⟨.inr (.inl rfl),.inl rfl⟩
  have adj:∀x y,Adj ((a,b) :: r) x y->(x=l/\y=o)\/(x=o/\y=l)\/Adj r x y:=fun x y q=>by
   rcases q with q|q<;>rcases List.mem_cons.1 q with e|e
   ·cases e
    rcases L.is with ⟨rfl,rfl⟩|⟨rfl,rfl⟩
    ·exact .inl ⟨rfl,rfl⟩
    ·exact .inr (.inl ⟨rfl,rfl⟩)
   ·exact .inr (.inr (.inl e))
   ·cases e
    rcases L.is with ⟨rfl,rfl⟩|⟨rfl,rfl⟩
    ·exact .inr (.inl ⟨rfl,rfl⟩)
    ·exact .inl ⟨rfl,rfl⟩
   ·exact .inr (.inr (.inr e))
  have nol:∀y,¬Adj r l y:=fun y q=>by have:=q.v1;rw[L.new]at this;cases this
  have lo:D l o=0:=by
   have hl:=hv l lv.1;have ho:=hv o lv.2;rw[<-sum8_only (f:=D l) ho.1 ho.2 (fun y hy=>?_)]
   ·exact h3 l hl.1 hl.2
   ·refine h2 l y (fun q=>?_)
    rcases adj l y q with ⟨_,e⟩|⟨e,_⟩|e
    ·exact hy e
    ·exact L.ne e
    ·exact nol y e
  refine flow_zero (grows_tail hg) (fun v hv'=>hv v (by rw[hasV_cons];exact .inr (.inr hv'))) h1 (fun x y q=>?_) h3 x y;by_cases c:Adj ((a,b) :: r) x y
  ·rcases adj x y c with ⟨rfl,rfl⟩|⟨rfl,rfl⟩|e
   ·exact lo
   ·rw[h1,lo];rfl
   ·exact absurd e q
  ·exact h2 x y c
def walkP:List Int->List F2
 | []=>[]
 | [_]=>[]
 |x :: y :: r=>⟨x,y⟩ :: walkP (y :: r)
theorem walkP_cons(x y:Int)(r:List Int):walkP (x :: y :: r)=⟨x,y⟩ :: walkP (y :: r):=rfl
theorem walkP_adj{T:List (Int×Int)}(hg:grows T=true):∀(p:List Int) (x y:Int),pathR T x y=some p->∀q∈walkP p,Adj T q.n q.d
 | [],x,y,_,q,hq=>by cases hq
 | [_],x,y,_,q,hq=>by cases hq
 |a :: b :: r,x,y,h,q,hq=>by
  obtain⟨⟨w,e⟩,_⟩:=path_ends hg h;cases e;obtain⟨h1,h2⟩:=path_rest hg h;rcases List.mem_cons.1 hq with rfl|hq
  ·exact h2
  ·exact walkP_adj hg (b :: r) b y h1 q hq
theorem walkP_len:∀(x:Int) (u:List Int),(walkP (x :: u)).length=u.length
 |x,[]=>rfl
 |x,y :: u=>by rw[walkP_cons,List.length_cons,walkP_len y u,List.length_cons]
theorem gt_walkP:∀(u:List Int) (k:Int),0<=k->k+1<u.length->gt (walkP u) k=⟨gt u k,gt u (k+1)⟩
 | [],k,h0,h1=>by simp at h1;omega
 | [x],k,h0,h1=>by simp at h1;omega
 |x :: y :: u,k,h0,h1=>by
  rw[walkP_cons];by_cases c:k=0
  ·subst c;rfl
  ·have ih:=gt_walkP (y :: u) (k-1) (by omega) (by simp only[List.length_cons]at h1 ⊢;omega)
   have sh:∀{α:Type} [Inhabited α] (a:α) (l:List α) (j:Int),0<j->gt (a :: l) j=gt l (j-1):=fun a l j hj=>by
    unfold gt;rw[show j.toNat=(j-1).toNat+1 by omega];rfl
   rw[sh _ _ k (by omega),sh _ _ k (by omega),sh _ _ (k+1) (by omega),ih,show k+1-1=k-1+1 by omega]
theorem sps_walk(x:Int)(c:List Int):sps (x :: c)=walkP (x :: c++[x]):=by
 apply gt_extR
 ·rw[sps_len]
  show _=(walkP (x :: (c++[x]))).length;rw[walkP_len];simp
 ·intro k k0 k1
  rw[sps_len]at k1;rw[gt_sps _ k0 k1,gt_walkP _ k k0 (by simp only[List.length_append,List.length_cons,List.length_nil]at k1 ⊢;omega)];unfold stepP nxC;have ap:∀j:Int,0<=j->j<(x :: c).length->gt (x :: c++[x]) j=gt (x :: c) j:=fun j j0 j1=>by
   unfold gt;rw[List.getD_eq_getElem?_getD,List.getD_eq_getElem?_getD,List.getElem?_append_left (by omega)]
  rw[ap k k0 k1];rcases nx_cases k0 k1 with ⟨e1,e2⟩|⟨e1,e2⟩
  ·rw[e1,ap (k+1) (by omega) e2]
  ·rw[e1,e2]
   congr 1
   unfold gt;rw[List.getD_eq_getElem?_getD,List.getD_eq_getElem?_getD,List.getElem?_append_right (by omega)];simp
end Go.Proofs.Ytmkiclinllifiaa
namespace Go.Proofs.Ytmkiclinllifiaa
open Go.Sim
set_option maxRecDepth 100000
abbrev TreeP(l:List Vk)(t:List F2)(pk:Int):Prop:=Parts (basP l) (stS l) (fun _=>false) [] 0 t pk
theorem bas_lt{l:List Vk}(h:CkR l 0){p:F2}(hp:p∈basP l):0<=p.n/\p.n<p.d/\p.d<8:=by
 obtain⟨v,hv,rfl⟩:=((basP_is h.ok0.2.1).mem p).1 hp;have:=h.ok0.2.1 v hv;exact⟨this.1,this.2.1,this.2.2.1⟩
theorem tree_in{l:List Vk}{t:List F2}{pk:Int}(hp:TreeP l t pk):∀p∈t,p∈basP l:=fun p h=>by
 rcases(hp.grows rfl (fun x hx=>by cases hx)).2 p h with q|q
 ·cases q
 ·exact q
theorem mem_trT{t:List F2}{a b:Int}:(a,b)∈trT t↔(⟨a,b⟩:F2)∈t:=by
 unfold trT;rw[List.mem_reverse,List.mem_map];constructor
 ·rintro⟨p,hp,e⟩
  obtain⟨x,y⟩:=p;cases e;exact hp
 ·intro h
  exact⟨_,h,rfl⟩
theorem chd_in{l:List Vk}{t:List F2}{p:F2}(h:p∈chds t (basP l)):p∈basP l/\p∉t:=by
 have:=List.mem_filter.1 h;exact⟨this.1,by simpa using this.2⟩
theorem chd_adj{l:List Vk}(h:CkR l 0){t:List F2}{pk:Int}(hp:TreeP l t pk){p:F2}(hc:p∈chds t (basP l)):¬Adj (trT t) p.n p.d:=by
 rintro(q|q)
 ·exact(chd_in hc).2 (mem_trT.1 q)
 ·have h1:=bas_lt h (tree_in hp _ (mem_trT.1 q))
  have h2:=bas_lt h (chd_in hc).1;simp only at h1;omega
theorem tree_st{l:List Vk}(h:CkR l 0){t:List F2}{pk:Int}(hp:TreeP l t pk):∀v,hasV (trT t) v=true->0<=v/\v<8:=by
 intro v hv;obtain⟨⟨a,b⟩,hm,e⟩:=hasV_mem.1 hv;have:=bas_lt h (tree_in hp _ (mem_trT.1 hm));simp only at this e;omega
theorem parts_len1{P:List F2}(hP:∀p∈P,okP p.n p.d){S:Int->Prop}(hS:∀s,S s->0<=s/\s<8){R:Int->Bool}{t:List F2}{k:Int}{t':List F2}{k':Int}(h:Parts P S R t k t' k'):t'=t\/t'.length+1<=t.length+unr R:=by
 cases h with
 |stop h=>exact .inl rfl
 |part h1 h2 h3 r q=>
  have e:=unr_set (hS _ h1).1 (hS _ h1).2 h2;have:=reach_len hP r;have:=parts_len hP hS q;exact .inr (by omega)
theorem tree_len7{l:List Vk}(h:CkR l 0){t:List F2}{pk:Int}(hp:TreeP l t pk):t.length<=7:=by
 have hs:=okV.st h.ok0.2.1;rcases parts_len1 ((basP_is h.ok0.2.1).ok hs) (fun s hs'=>stS_pos hs hs') hp with q|q
 ·rw[q];simp
 ·have:unr (fun _=>false)=8:=rfl
  simp only[List.length_nil]at q;omega
theorem circ_walk{l:List Vk}(h:CkR l 0){t:List F2}{pk:Int}(hp:TreeP l t pk){p:F2}(hc:p∈chds t (basP l)):∃w,pathR (trT t) p.d p.n=some w/\sps (circF t p)=p :: walkP w/\circle (circF t p):=by
 obtain⟨k1,k2,k3⟩:=h.ok0;obtain⟨⟨w,hw⟩,hne⟩:=chds_ok (okV.st k2) (okV.lt k2) (basP_is k2) hp p hc;have hg:=parts_grows hp;obtain⟨⟨q1,e1⟩,q2,e2⟩:=path_ends hg hw;have wl:=path_len hg hw;have wn:=path_nodup hg hw;have htl:(trT t).length=t.length:=by unfold trT;simp
 have t7:=tree_len7 h hp;have ed:w.dropLast=q2:=by rw[e2];simp
 have ec:circF t p=p.n :: q2:=by unfold circF;rw[hw,Option.getD_some,ed]
 have hl:w.length=q2.length+1:=by rw[e2];simp
 obtain⟨n,d⟩:=p;simp only at *;refine⟨w,hw,?_,?_,?_,?_,?_⟩
 ·rw[ec,sps_walk]
  show walkP (n :: (q2++[n]))=_;rw[<-e2,e1];rfl
 ·rw[ec,List.length_cons]
  rcases Nat.lt_or_ge q2.length 2 with c|c
  ·exfalso
   cases q1 with
   |nil=>exact hne (path_one hg (by rw[hw,e1])).symm
   |cons z q1=>
    have:q1=[]:=by
     rw[e1]at hl;simp only[List.length_cons]at hl;exact List.length_eq_zero_iff.1 (by omega)
    subst this;have ez:z=n:=by
     rw[e1]at e2;have h2:=congrArg List.getLast? e2;rw[List.getLast?_concat]at h2;simpa using h2
    subst ez;rw[e1]at hw;exact chd_adj h hp hc ((path_rest hg hw).2.symm)
  ·omega
 ·rw[ec,List.length_cons];omega
 ·intro s hs
  rw[ec]at hs;have hs':s∈w:=by
   rw[e2];rcases List.mem_cons.1 hs with rfl|z
   ·simp
   ·exact List.mem_append_left _ z
  rcases path_mem hg hw s hs' with ⟨q,_⟩|q
  ·exact absurd q.symm hne
  ·exact tree_st h hp s q
 ·rw[ec]
  rw[e2,List.nodup_append]at wn;refine List.nodup_cons.2 ⟨fun q=>?_,wn.1⟩;exact wn.2.2 _ q _ (List.mem_singleton.2 rfl) rfl
theorem flI_none:∀{L:List F2} {i j:Int},(∀s∈L,¬(s.n=i/\s.d=j)/\¬(s.n=j/\s.d=i))->flI L i j=0
 | [],i,j,_=>rfl
 |p :: L,i,j,h=>by
  have h1:=h p (List.mem_cons_self ..);unfold flI;rw[flI_none (fun s hs=>h s (List.mem_cons_of_mem _ hs)),if_neg h1.1,if_neg h1.2];rfl
theorem circ_fl{l:List Vk}(h:CkR l 0){t:List F2}{pk:Int}(hp:TreeP l t pk){p:F2}(hc:p∈chds t (basP l)){x y:Int}(hn:¬Adj (trT t) x y):flI (sps (circF t p)) x y=(if p.n=x/\p.d=y then 1 else 0)-(if p.n=y/\p.d=x then 1 else 0):=by
 obtain⟨w,hw,e,_⟩:=circ_walk h hp hc;rw[e];show flI (walkP w) x y+_=_;have ha:=walkP_adj (parts_grows hp) w _ _ hw;rw[flI_none (fun s hs=>⟨fun q=>hn (by rw[<-q.1,<-q.2];exact ha s hs),fun q=>hn (by rw[<-q.1,<-q.2];exact(ha s hs).symm)⟩)];omega
theorem circ_one{l:List Vk}(h:CkR l 0){t:List F2}{pk:Int}(hp:TreeP l t pk){p q:F2}(hc:p∈chds t (basP l))(hq:q∈chds t (basP l)):steps (circF t p) q.n q.d=if p=q then 1 else 0:=by
 rw[steps_flI,circ_fl h hp hc (chd_adj h hp hq)];have h1:=bas_lt h (chd_in hc).1;have h2:=bas_lt h (chd_in hq).1;rw[if_neg (show ¬(p.n=q.d/\p.d=q.n) by omega)];by_cases c:p=q
 ·subst c;simp
 ·rw[if_neg c,if_neg (fun z=>c (by obtain⟨a,b⟩:=p;obtain⟨a',b'⟩:=q;obtain⟨rfl,rfl⟩:=z;rfl))];rfl
def sumL(f:F2->Int):List F2->Int
 | []=>0
 |p :: L=>sumL f L+f p
theorem sumL_zero{f:F2->Int}:∀{L:List F2},(∀p∈L,f p=0)->sumL f L=0
 | [],_=>rfl
 |p :: L,h=>by
  show sumL f L+f p=0;rw[sumL_zero (fun q hq=>h q (List.mem_cons_of_mem _ hq)),h p (List.mem_cons_self ..)];rfl
theorem sumL_neg{f g:F2->Int}:∀{L:List F2},(∀p∈L,g p=- f p)->sumL g L=- sumL f L
 | [],_=>rfl
 |p :: L,h=>by
  show sumL g L+g p=-(sumL f L+f p);rw[sumL_neg (fun q hq=>h q (List.mem_cons_of_mem _ hq)),h p (List.mem_cons_self ..)];omega
theorem sumL_one{f:F2->Int}{q:F2}:∀{L:List F2},L.Nodup->q∈L->(∀p∈L,p≠q->f p=0)->sumL f L=f q
 | [],_,h,_=>by cases h
 |p :: L,hn,h,hz=>by
  obtain⟨n1,n2⟩:=List.nodup_cons.1 hn;show sumL f L+f p=f q;by_cases c:p=q
  ·subst c
   rw[sumL_zero (fun r hr=>hz r (List.mem_cons_of_mem _ hr) (fun e=>n1 (e ▸ hr)))];omega
  ·rw[hz p (List.mem_cons_self ..) c,sumL_one n2 (by rcases List.mem_cons.1 h with e|e;exact absurd e.symm c;exact e) (fun r hr=>hz r (List.mem_cons_of_mem _ hr))]
   omega
theorem sum8_sumL{g:F2->Int}{F:F2->Int->Int}:∀(L:List F2),sum8 (fun y=>sumL (fun p=>g p*F p y) L)=sumL (fun p=>g p*sum8 (F p)) L
 | []=>rfl
 |p :: L=>by
  show sum8 (fun y=>sumL (fun p=>g p*F p y) L+g p*F p y)=sumL (fun p=>g p*sum8 (F p)) L+g p*sum8 (F p);rw[sum8_add,sum8_sumL L,sum8_mul]
theorem bas_nodup(l:List Vk):(basP l).Nodup:=by
 have:(basP l).Pairwise (fun x y=>8*x.n+x.d<8*y.n+y.d):=allP_pw.sublist List.filter_sublist;exact this.imp (fun h e=>by rw[e]at h;omega)
theorem chds_nodup(l:List Vk)(t:List F2):(chds t (basP l)).Nodup:=(bas_nodup l).sublist List.filter_sublist
theorem chain{l:List Vk}(h:CkR l 0){t:List F2}{pk:Int}(hp:TreeP l t pk){c:List Int}(hc:circle c)(hv:∀p∈sps c,fv l p.n p.d≠none)(x y:Int) :
  flI (sps c) x y=sumL (fun p=>steps c p.n p.d*flI (sps (circF t p)) x y) (chds t (basP l)):=by
 have key:=flow_zero (parts_grows hp) (tree_st h hp) (D:=fun x y=>flI (sps c) x y-sumL (fun p=>steps c p.n p.d*flI (sps (circF t p)) x y) (chds t (basP l))) (fun x y=>?_) (fun x y hn=>?_) (fun x x0 x8=>?_) x y
 ·omega
 ·rw[flI_anti (sps c) x y,sumL_neg (f:=fun p=>steps c p.n p.d*flI (sps (circF t p)) x y) (fun p _=>by rw[flI_anti (sps (circF t p)) x y,Int.mul_neg])]
  omega
 ·have main:∀x y,¬Adj (trT t) x y->(⟨x,y⟩:F2)∈chds t (basP l)->flI (sps c) x y-sumL (fun p=>steps c p.n p.d*flI (sps (circF t p)) x y) (chds t (basP l))=0:=fun x y hn hm=>by
   rw[sumL_one (q:=⟨x,y⟩) (chds_nodup l t) hm (fun p hp' hne=>?_)]
   ·have:=circ_one h hp hm hm
    rw[steps_flI,if_pos rfl]at this;simp only at this ⊢;rw[this,steps_flI];omega
   ·have:=circ_one h hp hp' hm
    rw[steps_flI,if_neg hne]at this;simp only at this ⊢;rw[this,Int.mul_zero]
  by_cases c1:(⟨x,y⟩:F2)∈chds t (basP l)
  ·exact main x y hn c1
  by_cases c2:(⟨y,x⟩:F2)∈chds t (basP l)
  ·have:=main y x (fun q=>hn q.symm) c2
   rw[flI_anti (sps c) x y,sumL_neg (f:=fun p=>steps c p.n p.d*flI (sps (circF t p)) x y) (fun p _=>by rw[flI_anti (sps (circF t p)) x y,Int.mul_neg])]at this;omega
  ·rw[flI_none (fun s hs=>?_),sumL_zero (fun p hp'=>?_)]
   ·rfl
   ·rw[circ_fl h hp hp' hn,if_neg (fun q=>c1 (by obtain⟨a,b⟩:=p;obtain⟨rfl,rfl⟩:=q;exact hp')),if_neg (fun q=>c2 (by obtain⟨a,b⟩:=p;obtain⟨rfl,rfl⟩:=q;exact hp'))]
    simp
   ·have hb:=(fv_bas h.ok0.2.1).1 (hv s hs)
    have no:∀a b:Int,(⟨a,b⟩:F2)∈basP l->(⟨a,b⟩:F2)∉chds t (basP l)->Adj (trT t) a b:=fun a b h1 h2=>by
     by_cases c3:(⟨a,b⟩:F2)∈t
     ·exact .inl (mem_trT.2 c3)
     ·exact absurd (List.mem_filter.2 ⟨h1,by simpa using c3⟩) h2
    have hlt:=bas_lt h hb;simp only at hlt;constructor
    ·rintro⟨rfl,rfl⟩
     rcases(by omega:(min s.n s.d=s.n/\max s.n s.d=s.d)\/(min s.n s.d=s.d/\max s.n s.d=s.n))with ⟨e1,e2⟩|⟨e1,e2⟩
     ·rw[e1,e2]at hb;exact hn (no _ _ hb c1)
     ·rw[e1,e2]at hb;exact hn (no _ _ hb c2).symm
    ·rintro⟨rfl,rfl⟩
     rcases(by omega:(min s.n s.d=s.n/\max s.n s.d=s.d)\/(min s.n s.d=s.d/\max s.n s.d=s.n))with ⟨e1,e2⟩|⟨e1,e2⟩
     ·rw[e1,e2]at hb;exact hn (no _ _ hb c2).symm
     ·rw[e1,e2]at hb;exact hn (no _ _ hb c1)
 ·show sum8 (fun y=>flI (sps c) x y-sumL (fun p=>steps c p.n p.d*flI (sps (circF t p)) x y) (chds t (basP l)))=0
  rw[sum8_sub,sum8_sumL (F:=fun p y=>flI (sps (circF t p)) x y),sumL_zero (fun p hp'=>?_),flI_out (sps_in hc.2.2.1),sps_out]
  ·rfl
  ·obtain⟨_,_,_,hcc⟩:=circ_walk h hp hp'
   rw[show sum8 (fun y=>flI (sps (circF t p)) x y)=outI (sps (circF t p)) x from flI_out (sps_in hcc.2.2.1) x,sps_out,Int.mul_zero]
end Go.Proofs.Ytmkiclinllifiaa
namespace Go.Proofs.Ytmkiclinllifiaa
open Go.Sim
set_option maxRecDepth 100000
theorem mixed:Try.prog.follows .mixedOrders=true:=mixedP
theorem named(g : FuncId)(fn : Func)(h : Try.prog.funcs[g]? = some fn) : (fn.name == "runtime.NumGoroutine") = false := namedP g fn h
theorem prims0_ok:CallOK Try.prog prims0:=leastF_ok (wayF_ok noPrims_ok)
theorem withF_keep{g0:FuncId}{f:List Value->AHeap->Option (Value×AHeap)}{F:Prims}(hf:∀args h v h',f args h=some (v,h')->KeepB h.next h h')(hF:CallKeep F):CallKeep (withF g0 f F):=by
 intro g args h v h' hc;unfold withF at hc;cases hb:Nat.beq g g0 with
 |false=>rw[hb]at hc;exact hF g args h v h' hc
 |true=>rw[hb]at hc;exact hf args h v h' hc
theorem leastF_keep(args:List Value)(h:AHeap)(v:Value)(h':AHeap)(hc:leastF args h=some (v,h')):KeepB h.next h h':=by
 unfold leastF at hc;repeat' split at hc
 all_goals first
  |(cases hc;done)
  |(simp only[oi,pj]at hc;obtain⟨_,rfl⟩:=hc;exact .refl _ _)
theorem wayF_keep(args:List Value)(h:AHeap)(v:Value)(h':AHeap)(hc:wayF args h=some (v,h')):KeepB h.next h h':=by
 unfold wayF at hc;simp only[Bool.cond_eq_ite]at hc;repeat' split at hc
 all_goals first
  |(cases hc;done)
  |(simp only[oi,pj]at hc;obtain⟨_,rfl⟩:=hc;exact .refl _ _)
  |(simp only[oi,pj]at hc;obtain⟨_,rfl⟩:=hc;exact .push (Nat.le_refl _) _ _)
theorem prims0_keep:CallKeep prims0:=withF_keep leastF_keep (withF_keep wayF_keep noPrims_keep)
end Go.Proofs.Ytmkiclinllifiaa
namespace Go.Proofs.Ytmkiclinllifiaa
open Go.Sim
set_option maxRecDepth 100000
theorem circ_there{l:List Vk}(h:CkR l 0){t:List F2}{pk:Int}(hp:TreeP l t pk){p:F2}(hc:p∈chds t (basP l)):∀s∈sps (circF t p),fv l s.n s.d≠none:=by
 obtain⟨w,hw,e,_⟩:=circ_walk h hp hc;intro s hs;rw[e]at hs;rw[fv_bas h.ok0.2.1];have fit:∀a b:Int,(⟨a,b⟩:F2)∈basP l->(⟨min a b,max a b⟩:F2)∈basP l/\(⟨min b a,max b a⟩:F2)∈basP l:=fun a b hm=>by
  have:=bas_lt h hm;simp only at this;rw[show min a b=a by omega,show max a b=b by omega,show min b a=a by omega,show max b a=b by omega];exact⟨hm,hm⟩
 rcases List.mem_cons.1 hs with rfl|hs
 ·exact(fit _ _ (chd_in hc).1).1
 ·rcases walkP_adj (parts_grows hp) w _ _ hw s hs with q|q
  ·exact(fit _ _ (tree_in hp _ (mem_trT.1 q))).1
  ·exact(fit _ _ (tree_in hp _ (mem_trT.1 q))).2
