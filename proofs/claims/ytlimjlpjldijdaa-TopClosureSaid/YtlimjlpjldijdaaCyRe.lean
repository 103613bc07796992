import Derived.Test.YtlimjlpjldijdaaCyCo
set_option linter.unusedSimpArgs false
set_option linter.unusedVariables false
namespace Go.Proofs.Ytlimjlpjldijdaa
open Go.Sim
set_option maxRecDepth 100000
def sgC(c:Int)(p:Ck):Ck:=if c<0 then⟨p.a,-p.b,p.d⟩else p
theorem sg_ray{c:Int}{p:Ck}(h:isRay p):isRay (sgC c p):=by
 unfold sgC;split
 ·exact⟨by rw[Int.gcd_neg];exact h.g,h.d,h.a1,h.a2,by have:=h.b2;show -1000000000<=-p.b;omega,by have:=h.b1;show -p.b<=1000000000;omega⟩
 ·exact h
inductive FaR(l:List Vk):List (Int×List Int)->List Ck->List Ck->Int->Prop
 |nil (acc:List Ck):FaR l [] acc acc 0
 |skip {b:List Int} {rest:List (Int×List Int)} {acc fs:List Ck} {e:Int} (r:FaR l rest acc fs e):FaR l ((0,b) :: rest) acc fs e
 |err {c:Int} {b:List Int} {rest:List (Int×List Int)} {acc:List Ck} {p:Ck} {e:Int} (h0:c≠0) (hp:PhO l b p e) (he:e≠0):FaR l ((c,b) :: rest) acc [] e
 |take {c:Int} {b:List Int} {rest:List (Int×List Int)} {acc fs:List Ck} {p:Ck} {e:Int} (h0:c≠0) (hp:PhO l b p 0) (r:FaR l rest (acc++[sgC c p]) fs e):FaR l ((c,b) :: rest) acc fs e
theorem FaR.rays{l:List Vk}{Z:List (Int×List Int)}{acc x:List Ck}{e:Int}(h:FaR l Z acc x e)(hr:∀v∈acc,isRay v):∀v∈x,isRay v:=by
 induction h with
 |nil acc=>exact hr
 |skip r ih=>exact ih hr
 |err h0 hp he=>intro v hv;cases hv
 |take h0 hp r ih=>
  refine ih (fun v hv=>?_);rcases List.mem_append.1 hv with z|z
  ·exact hr v z
  ·rw[List.mem_singleton.1 z];exact sg_ray hp.ray
theorem FaR.len{l:List Vk}{Z:List (Int×List Int)}{acc x:List Ck}{e:Int}(h:FaR l Z acc x e):x.length<=acc.length+Z.length:=by
 induction h with
 |nil acc=>simp
 |skip r ih=>simp only[List.length_cons];omega
 |err h0 hp he=>simp
 |take h0 hp r ih=>simp only[List.length_append,List.length_cons,List.length_nil]at ih ⊢;omega
def zsC(l:List Vk)(c:List Int)(t:List F2):List (Int×List Int):=(chds t (basP l)).map fun p=>(steps c p.n p.d,circF t p)
theorem zs_fst(l:List Vk)(c:List Int)(t:List F2):(zsC l c t).map Prod.fst=(chds t (basP l)).map fun p=>steps c p.n p.d:=by unfold zsC;rw[List.map_map];rfl
theorem zs_snd(l:List Vk)(c:List Int)(t:List F2):(zsC l c t).map Prod.snd=(chds t (basP l)).map (circF t):=by unfold zsC;rw[List.map_map];rfl
inductive ReO(l:List Vk)(c:List Int):Ck->Int->Prop
 |bad {e:Int} (h0:e≠0) (h:CoO l c [] e):ReO l c zeC e
 |ph {x:List Int} {t:List F2} {pk e:Int} (h:CoO l c x 0) (hp:Parts (basP l) (stS l) (fun _=>false) [] 0 t pk) (hf:FaR l (zsC l c t) [] [] e) (he:e≠0):ReO l c zeC e
 |range {x:List Int} {t:List F2} {pk:Int} {fs:List Ck} (h:CoO l c x 0) (hp:Parts (basP l) (stS l) (fun _=>false) [] 0 t pk) (hf:FaR l (zsC l c t) [] fs 0) (hr:trnF oneC fs=none):ReO l c zeC 16
 |ok {x:List Int} {t:List F2} {pk:Int} {fs:List Ck} {p:Ck} (h:CoO l c x 0) (hp:Parts (basP l) (stS l) (fun _=>false) [] 0 t pk) (hf:FaR l (zsC l c t) [] fs 0) (hr:trnF oneC fs=some p):ReO l c p 0
theorem reach_len{P:List F2}(hP:∀p∈P,okP p.n p.d){R:Int->Bool}{t:List F2}{R':Int->Bool}{t':List F2}(h:Reach P R t R' t'):t'.length+unr R'=t.length+unr R:=by
 induction h with
 |stop h=>rfl
 |step h r ih=>
  have e:=unr_add (hP _ (List.mem_of_find?_eq_some h)) (List.find?_some h);rw[List.length_append]at ih;simp only[List.length_cons,List.length_nil]at ih;omega
theorem parts_len{P:List F2}(hP:∀p∈P,okP p.n p.d){S:Int->Prop}(hS:∀s,S s->0<=s/\s<8){R:Int->Bool}{t:List F2}{k:Int}{t':List F2}{k':Int}(h:Parts P S R t k t' k'):t'.length<=t.length+unr R:=by
 induction h with
 |stop h=>omega
 |part h1 h2 h3 r q ih=>
  have e:=unr_set (hS _ h1).1 (hS _ h1).2 h2;have:=reach_len hP r;omega
theorem parts_len8{l:List Vk}(h:CkR l 0){t:List F2}{pk:Int}(hp:Parts (basP l) (stS l) (fun _=>false) [] 0 t pk):t.length<=8:=by
 have hs:=okV.st h.ok0.2.1;have:=parts_len ((basP_is h.ok0.2.1).ok hs) (fun s hs'=>stS_pos hs hs') hp;exact this
theorem zs_rows{l:List Vk}{c:List Int}{t:List F2}{pk:Int}(h:CkR l 0)(hp:Parts (basP l) (stS l) (fun _=>false) [] 0 t pk):∀z∈zsC l c t,z.2.length<=1000:=by
 intro z hz;unfold zsC at hz;obtain⟨p,hp',rfl⟩:=List.mem_map.1 hz;show(circF t p).length<=1000;unfold circF;obtain⟨k1,k2,k3⟩:=h.ok0;obtain⟨⟨w,hw⟩,_⟩:=chds_ok (okV.st k2) (okV.lt k2) (basP_is k2) hp p hp';have wl:=path_len (parts_grows hp) hw;have htl:(trT t).length=t.length:=by unfold trT;simp
 have:=parts_len8 h hp;simp only[hw,Option.getD_some,List.length_cons,List.length_dropLast];omega
end Go.Proofs.Ytlimjlpjldijdaa
namespace Go.Proofs.Ytlimjlpjldijdaa
open Go.Sim
set_option maxRecDepth 100000
def sum8(f:Int->Int):Int:=f 0+f 1+f 2+f 3+f 4+f 5+f 6+f 7
theorem sum8_add(f g:Int->Int):sum8 (fun y=>f y+g y)=sum8 f+sum8 g:=by unfold sum8;dsimp only;omega
theorem sum8_sub(f g:Int->Int):sum8 (fun y=>f y-g y)=sum8 f-sum8 g:=by unfold sum8;dsimp only;omega
theorem sum8_mul(c:Int)(f:Int->Int):sum8 (fun y=>c*f y)=c*sum8 f:=by unfold sum8;simp only[Int.mul_add]
theorem sum8_ind{d:Int}(h0:0<=d)(h1:d<8)(a:Int):sum8 (fun y=>if d=y then a else 0)=a:=by
 unfold sum8;rcases(by omega:d=0\/d=1\/d=2\/d=3\/d=4\/d=5\/d=6\/d=7)with rfl|rfl|rfl|rfl|rfl|rfl|rfl|rfl<;>simp
theorem sum8_only{f:Int->Int}{o:Int}(h0:0<=o)(h1:o<8)(h:∀y,y≠o->f y=0):sum8 f=f o:=by
 have e:f=fun y=>if o=y then f o else 0:=by
  funext y
  by_cases c:o=y
  ·rw[if_pos c,c]
  ·rw[if_neg c];exact h y (fun q=>c q.symm)
 rw[e,sum8_ind h0 h1];simp
theorem flI_anti:∀(L:List F2) (i j:Int),flI L j i=- flI L i j
 | [],i,j=>rfl
 |p :: L,i,j=>by
  unfold flI;rw[flI_anti L i j];omega
def outI:List F2->Int->Int
 | [],_=>0
 |p :: L,x=>outI L x+((if p.n=x then 1 else 0)-(if p.d=x then 1 else 0))
theorem flI_out:∀{L:List F2},(∀p∈L,0<=p.n/\p.n<8/\0<=p.d/\p.d<8)->∀x,sum8 (flI L x)=outI L x
 | [],_,x=>rfl
 |p :: L,h,x=>by
  obtain⟨h1,h2,h3,h4⟩:=h p (List.mem_cons_self ..);have ih:=flI_out (L:=L) (fun q hq=>h q (List.mem_cons_of_mem _ hq)) x;have e:flI (p :: L) x=fun y=>flI L x y+((if p.d=y then(if p.n=x then 1 else 0)else 0)-(if p.n=y then(if p.d=x then 1 else 0)else 0)):=by
   funext y
   show flI L x y+_=_;have s1:(if p.n=x/\p.d=y then(1:Int)else 0)=if p.d=y then(if p.n=x then 1 else 0)else 0:=by
    by_cases c1:p.n=x<;>by_cases c2:p.d=y<;>simp[c1,c2]
   have s2:(if p.n=y/\p.d=x then(1:Int)else 0)=if p.n=y then(if p.d=x then 1 else 0)else 0:=by
    by_cases c1:p.n=y<;>by_cases c2:p.d=x<;>simp[c1,c2]
   rw[s1,s2]
  rw[e,sum8_add,sum8_sub,sum8_ind h3 h4,sum8_ind h1 h2,ih];rfl
def cntI:List Int->Int->Int
 | [],_=>0
 |a :: L,x=>cntI L x+(if a=x then 1 else 0)
theorem cntI_append:∀(L M:List Int) (x:Int),cntI (L++M) x=cntI L x+cntI M x
 | [],M,x=>by show cntI M x=0+cntI M x;omega
 |p :: L,M,x=>by
  show cntI (L++M) x+_=cntI L x+_+cntI M x;rw[cntI_append L M x];omega
theorem outI_cnt:∀(L:List F2) (x:Int),outI L x=cntI (L.map F2.n) x-cntI (L.map F2.d) x
 | [],x=>rfl
 |p :: L,x=>by
  show outI L x+_=cntI (L.map F2.n) x+_-(cntI (L.map F2.d) x+_);rw[outI_cnt L x];omega
theorem sps_snd(c:List Int):(sps c).map F2.d=c.drop 1++c.take 1:=by
 apply gt_extR
 ·rw[List.length_map,sps_len,List.length_append,List.length_drop,List.length_take]
  omega
 ·intro k k0 k1
  rw[List.length_map,sps_len]at k1;rw[gt_map F2.d (sps c) k0 (by rw[sps_len];exact k1),gt_sps c k0 k1];show nxC c k=_;unfold nxC;rcases nx_cases k0 k1 with ⟨e1,e2⟩|⟨e1,e2⟩
  ·rw[e1]
   unfold gt;rw[List.getD_eq_getElem?_getD,List.getD_eq_getElem?_getD,List.getElem?_append_left (by rw[List.length_drop];omega),List.getElem?_drop,show 1+k.toNat=(k+1).toNat by omega]
  ·rw[e1]
   unfold gt;rw[List.getD_eq_getElem?_getD,List.getD_eq_getElem?_getD,List.getElem?_append_right (by rw[List.length_drop];omega),List.length_drop,List.getElem?_take,show k.toNat-(c.length-1)=0 by omega];rfl
theorem sps_out(c:List Int)(x:Int):outI (sps c) x=0:=by
 rw[outI_cnt,sps_fst,sps_snd,cntI_append];have:=cntI_append (c.take 1) (c.drop 1) x;rw[List.take_append_drop]at this;omega
theorem sps_in{c:List Int}(h:∀s∈c,0<=s/\s<8):∀p∈sps c,0<=p.n/\p.n<8/\0<=p.d/\p.d<8:=by
 intro p hp;obtain⟨k,k0,k1,rfl⟩:=mem_sps hp;have:=nx_cases k0 k1;have h1:=h _ (gt_mem c k0 k1);have h2:=h _ (gt_mem c (i:=(k+1) % c.length) (by omega) (by omega));exact⟨h1.1,h1.2,h2.1,h2.2⟩
theorem flow_zero:∀{T:List (Int×Int)},grows T=true->(∀v,hasV T v=true->0<=v/\v<8)->∀{D:Int->Int->Int},(∀x y,D y x=- D x y)->(∀x y,¬Adj T x y->D x y=0)->(∀x,0<=x->x<8->sum8 (D x)=0)->∀x y,D x y=0
 | [],_,_,D,h1,h2,h3,x,y=>h2 x y (fun q=>by rcases q with q|q<;>cases q)
 |(a,b) :: r,hg,hv,D,h1,h2,h3,x,y=>by
  obtain⟨l,o,L⟩:=leaf_of hg;have lv:hasV ((a,b) :: r) l=true/\hasV ((a,b) :: r) o=true:=by
   rw[hasV_cons,hasV_cons];rcases L.is with ⟨rfl,rfl⟩|⟨rfl,rfl⟩
   ·exact⟨.inl rfl,.inr (.inl rfl)⟩
   ·exact⟨.inr (.inl rfl),.inl rfl⟩
  have adj:∀x y,Adj ((a,b) :: r) x y->(x=l/\y=o)\/(x=o/\y=l)\/Adj r x y:=fun x y q=>by
   rcases q with q|q<;>rcases List.mem_cons.1 q with e|e
   ·cases e
    rcases L.is with ⟨rfl,rfl⟩|⟨rfl,rfl⟩
    ·exact .inl ⟨rfl,rfl⟩
    ·exact .inr (.inl ⟨rfl,rfl⟩)
   ·exact .inr (.inr (.inl e))
   ·cases e
    rcases L.is with ⟨rfl,rfl⟩|⟨rfl,rfl⟩
    ·exact .inr (.inl ⟨rfl,rfl⟩)
    ·exact .inl ⟨rfl,rfl⟩
   ·exact .inr (.inr (.inr e))
  have nol:∀y,¬Adj r l y:=fun y q=>by have:=q.v1;rw[L.new]at this;cases this
  have lo:D l o=0:=by
   have hl:=hv l lv.1;have ho:=hv o lv.2;rw[<-sum8_only (f:=D l) ho.1 ho.2 (fun y hy=>?_)]
   ·exact h3 l hl.1 hl.2
   ·refine h2 l y (fun q=>?_)
    rcases adj l y q with ⟨_,e⟩|⟨e,_⟩|e
    ·exact hy e
    ·exact L.ne e
    ·exact nol y e
  refine flow_zero (grows_tail hg) (fun v hv'=>hv v (by rw[hasV_cons];exact .inr (.inr hv'))) h1 (fun x y q=>?_) h3 x y;by_cases c:Adj ((a,b) :: r) x y
  ·rcases adj x y c with ⟨rfl,rfl⟩|⟨rfl,rfl⟩|e
   ·exact lo
   ·rw[h1,lo];rfl
   ·exact absurd e q
  ·exact h2 x y c
def walkP:List Int->List F2
 | []=>[]
 | [_]=>[]
 |x :: y :: r=>⟨x,y⟩ :: walkP (y :: r)
theorem walkP_cons(x y:Int)(r:List Int):walkP (x :: y :: r)=⟨x,y⟩ :: walkP (y :: r):=rfl
theorem walkP_adj{T:List (Int×Int)}(hg:grows T=true):∀(p:List Int) (x y:Int),pathR T x y=some p->∀q∈walkP p,Adj T q.n q.d
 | [],x,y,_,q,hq=>by cases hq
 | [_],x,y,_,q,hq=>by cases hq
 |a :: b :: r,x,y,h,q,hq=>by
  obtain⟨⟨w,e⟩,_⟩:=path_ends hg h;cases e;obtain⟨h1,h2⟩:=path_rest hg h;rcases List.mem_cons.1 hq with rfl|hq
  ·exact h2
  ·exact walkP_adj hg (b :: r) b y h1 q hq
theorem walkP_len:∀(x:Int) (u:List Int),(walkP (x :: u)).length=u.length
 |x,[]=>rfl
 |x,y :: u=>by rw[walkP_cons,List.length_cons,walkP_len y u,List.length_cons]
theorem gt_walkP:∀(u:List Int) (k:Int),0<=k->k+1<u.length->gt (walkP u) k=⟨gt u k,gt u (k+1)⟩
 | [],k,h0,h1=>by simp at h1;omega
 | [x],k,h0,h1=>by simp at h1;omega
 |x :: y :: u,k,h0,h1=>by
  rw[walkP_cons];by_cases c:k=0
  ·subst c;rfl
  ·have ih:=gt_walkP (y :: u) (k-1) (by omega) (by simp only[List.length_cons]at h1 ⊢;omega)
   have sh:∀{α:Type} [Inhabited α] (a:α) (l:List α) (j:Int),0<j->gt (a :: l) j=gt l (j-1):=fun a l j hj=>by
    unfold gt;rw[show j.toNat=(j-1).toNat+1 by omega];rfl
   rw[sh _ _ k (by omega),sh _ _ k (by omega),sh _ _ (k+1) (by omega),ih,show k+1-1=k-1+1 by omega]
theorem sps_walk(x:Int)(c:List Int):sps (x :: c)=walkP (x :: c++[x]):=by
 apply gt_extR
 ·rw[sps_len]
  show _=(walkP (x :: (c++[x]))).length;rw[walkP_len];simp
 ·intro k k0 k1
  rw[sps_len]at k1;rw[gt_sps _ k0 k1,gt_walkP _ k k0 (by simp only[List.length_append,List.length_cons,List.length_nil]at k1 ⊢;omega)];unfold stepP nxC;have ap:∀j:Int,0<=j->j<(x :: c).length->gt (x :: c++[x]) j=gt (x :: c) j:=fun j j0 j1=>by
   unfold gt;rw[List.getD_eq_getElem?_getD,List.getD_eq_getElem?_getD,List.getElem?_append_left (by omega)]
  rw[ap k k0 k1];rcases nx_cases k0 k1 with ⟨e1,e2⟩|⟨e1,e2⟩
  ·rw[e1,ap (k+1) (by omega) e2]
  ·rw[e1,e2]
   congr 1
   unfold gt;rw[List.getD_eq_getElem?_getD,List.getD_eq_getElem?_getD,List.getElem?_append_right (by omega)];simp
end Go.Proofs.Ytlimjlpjldijdaa
namespace Go.Proofs.Ytlimjlpjldijdaa
open Go.Sim
set_option maxRecDepth 100000
theorem drop_gt{α:Type}[Inhabited α](l:List α){i:Int}(i0:0<=i)(i1:i<l.length):l.drop i.toNat=gt l i :: l.drop (i+1).toNat:=by
 rw[show(i+1).toNat=i.toNat+1 by omega];unfold gt;rw[List.getD_eq_getElem?_getD,List.getElem?_eq_getElem (by omega)];exact List.drop_eq_getElem_cons (by omega)
variable{F:Prims}{call head arith a0 b0 c0 d0 f0 g0 l0 m0 n0 o0 place p0 nz q0 rd wr r0 next s0 t0 u0 v0 w0 x0 y0 z0 d1 part f1 m1 n1 o1 t1 u1 w1 y1 lt ne z1 d2 f2 yn i2 j2 m2 n2 o2 p2 r2 t2:_}(hA:AP F ⟨call,head,arith,a0,b0,c0,d0,f0,g0,l0,m0,n0,o0,place,p0,nz,q0,rd,wr,r0,next,s0,t0,u0,v0,w0,x0,y0,z0,d1,part,f1,m1,n1,o1,t1,u1,w1,y1,lt,ne,z1,d2,f2,yn,i2,j2,m2,n2,o2,p2,r2,t2⟩)
include hA
theorem re_loop1{h0:AHeap}(hlow0:h0.low<=h0.next){a:Option Addr}{n c:Nat}{l:List Vk}(hl:Vs h0 a n l)(hn:n<=1000){ca:Option Addr}{k cc:Nat}{N:Int}(hN:N=k){Z:List (Int×List Int)}(hC:Rows iC 1 h0 ca k (Z.map Prod.fst))(hk:k<=1000){ga:Option Addr}{gc:Nat}{hs:List Hd}(hG:GrR iC 1 h0 ga k hs (Z.map Prod.snd))(hrow:∀z∈Z,z.2.length<=1000){Q:Exit->SS->Prop}
  (hbad:∀h' e,e≠0->FaR l Z [] [] e->Ext h0 h'->∀v67 v66 v14 K,Q .ret ⟨[(5,.int .i64 e),(67,v67),(66,v66),(4,.pointer (some ⟨0,0,some 0⟩)),(14,v14)],2,(0,[.int .i64 0,.int .i64 0,.int .i64 0]) :: K,h'⟩)
  (hok:∀h' a' m c' fs,FaR l Z [] fs 0->Apd h' 3 a' m c' (fs.flatMap Ck.cells)->fs.length=m->Ext h0 h'->Q (.exit 0) ⟨[(4,.pointer (some ⟨0,0,some 0⟩)),(10,.slice a' m c')],1,[(0,[.int .i64 0,.int .i64 0,.int .i64 0])],h'⟩) :
  ∀(M:Nat) (i:Int) (h:AHeap) (a':Option Addr) (m c':Nat) (acc:List Ck),(k-i).toNat<=M->0<=i->i<=k->(∀fs e,FaR l (Z.drop i.toNat) acc fs e->FaR l Z [] fs e)->Apd h 3 a' m c' (acc.flatMap Ck.cells)->acc.length=m->(m:Int)<=i->From h0.next a'->Ext h0 h->
   head 28 7 1 ⟨[(0,.slice a n c),(4,.pointer (some ⟨0,0,some 0⟩)),(9,.slice ga k gc),(10,.slice a' m c'),(35,.slice ca k cc),(36,.int .i64 N),(37,.int .i64 i)],1,[(0,[.int .i64 0,.int .i64 0,.int .i64 0])],h⟩ Q:=by
 have hlen:=hC.len;rw[List.length_map]at hlen;refine upTo (fun M ih=>?_);intro i h a' m c' acc hm i0 i1 hR hap hml hmi hf he;by_cases ci:i<k
 rotate_left
 ·refine hA.roundR Try.func28 r28_ok (zc ?_)
  refine br (i<N) (by rw[e_lss hA]) (fun c1=>by omega) (fun c1=>?_)<;>refine zc ?_;refine hok h a' m c' acc (hR _ _ ?_) hap hml he;rw[List.drop_eq_nil_of_le (by omega)];exact .nil acc
 obtain⟨M,rfl⟩:∃k,M=k+1:=⟨M-1,by omega⟩
 replace ih:=ih M rfl
 obtain⟨bb,o,rfl,_,r1⟩:=(hC.ext he).at (i:=i) i0 (by omega);obtain⟨cf,row,hz⟩:∃cf row,gt Z i=(cf,row):=⟨_,_,rfl⟩;have hdr:=drop_gt Z i0 (by omega);rw[hz]at hdr;rw[hdr]at hR;have hzm:(cf,row)∈Z:=by rw[<-hz];exact gt_mem Z i0 (by omega)
 have g1:gt (Z.map Prod.fst) i=cf:=by rw[gt_map Prod.fst Z i0 (by omega),hz]
 have g2:gt (Z.map Prod.snd) i=row:=by rw[gt_map Prod.snd Z i0 (by omega),hz]
 have p1:rd h bb (place o i 1) 1 [.int .i64 cf]:=by rw[<-g1];exact rd_ok hA (r1 0 1 (by omega) (by omega))
 have e2:arith .add .i64 i 1=i+1:=add64 hA (by omega) (by omega);have G1:=hG.ext he;obtain⟨gb,go,rfl,_⟩:=G1.some (by omega);have q2:=gr_head hA G1 i0 ci;have R2:=G1.row i i0 ci;obtain⟨⟨va,vn,vc⟩,hv⟩:∃z,z=gt hs i:=⟨_,rfl⟩;rw[<-hv]at q2 R2;rw[g2]at R2;simp only at q2 R2;refine hA.roundR Try.func28 r28_ok (zc ?_);refine br (i<N) (by rw[e_lss hA]) (fun c1=>?_) (fun c1=>by omega)<;>refine zc ?_;refine zq ?_;refine br (cf=0) (by rw[e_eql hA]) (fun c2=>?_) (fun c2=>?_)<;>refine zc ?_
 ·refine zc ?_
  rw[e2];refine ih (i+1) h a' m c' acc (by omega) (by omega) (by omega) (fun fs e r=>hR fs e (by rw[c2];exact .skip r)) hap hml (by omega) hf he
 refine zq ?_;refine Phase_ok hA (he.lowOK hlow0) (hl.ext he) hn R2 (by have:=R2.len;have:=hrow _ hzm;simp only at this;omega) (fun h1 p e po x1=>⟨_,_,_,_,rfl,?_⟩);have e1:=he.trans x1;refine zc ?_;have nxt:∀hh x,x=sgC cf p->Ext h hh->e=0->∀a2 c2' h4,Apd h4 3 a2 (m+1) c2' ((acc++[x]).flatMap Ck.cells)->From h0.next a2->Ext h0 h4->
   head 28 7 1 ⟨[(0,.slice a n c),(4,.pointer (some ⟨0,0,some 0⟩)),(9,.slice (some ⟨gb,go,none⟩) k gc),(10,.slice a2 (m+1) c2'),(35,.slice (some ⟨bb,o,none⟩) k cc),(36,.int .i64 N),(37,.int .i64 (i+1))],1,[(0,[.int .i64 0,.int .i64 0,.int .i64 0])],h4⟩ Q:=fun hh x hx _ e0 a2 c2' h4 hp2 hf4 x4=>by
  subst hx e0;exact ih (i+1) h4 a2 (m+1) c2' (acc++[sgC cf p]) (by omega) (by omega) (by omega) (fun fs e r=>hR fs e (.take c2 po r)) hp2 (by simp[hml]) (by omega) hf4 x4
 have hap1:=hap.ext x1;refine br (e=0) (by rw[e_eql hA]) (fun c3=>?_) (fun c3=>?_)<;>refine zc ?_
 rotate_left
 ·refine zc ?_
  refine br (e≠0) (by rw[e_neq hA]) (fun c4=>?_) (fun c4=>absurd c3 c4)<;>refine zc ?_;exact hbad h1 e c3 (hR _ _ (.err c2 po c3)) e1 _ _ _ _
 have hray:isRay p:=by subst c3;exact po.ray
 refine br (cf<0) (by rw[e_lss hA]) (fun c4=>?_) (fun c4=>?_)<;>refine zc ?_
 ·refine cconj_ok hA (e1.lowOK hlow0) (fun r s t e' h2 hc x2=>⟨_,_,_,_,rfl,?_⟩)
  have okp:=hray.ok;obtain⟨hr1,hs1,ht1,he1⟩:r=p.a/\s=-p.b/\t=p.d/\e'=0:=by
   rcases hc with ⟨z,_⟩|⟨_,z⟩
   ·exact absurd okp z
   ·exact z
  refine zc ?_;refine br (e'≠0) (by rw[e_neq hA]) (fun c5=>absurd he1 c5) (fun _=>?_)<;>refine zc ?_;refine appR_ok hA TC2 ck_len (by omega) ck_ok (v:=⟨r,s,t⟩) (hap1.ext x2) (by omega) (fun a2 c2' h4 hp2 hx=>?_);obtain⟨x4,hf4⟩:=hx h0 (e1.trans x2) hf;refine zc ?_;rw[e2];exact nxt h2 ⟨r,s,t⟩ (by unfold sgC;rw[if_pos c4,hr1,hs1,ht1]) (x1.trans x2) c3 a2 c2' h4 hp2 hf4 x4
 ·refine zc ?_
  refine br (e≠0) (by rw[e_neq hA]) (fun c5=>absurd c3 c5) (fun _=>?_)<;>refine zc ?_;refine appR_ok hA TC2 ck_len (by omega) ck_ok (v:=p) hap1 (by omega) (fun a2 c2' h4 hp2 hx=>?_);obtain⟨x4,hf4⟩:=hx h0 e1 hf;refine zc ?_;rw[e2];exact nxt h1 p (by unfold sgC;rw[if_neg c4]) x1 c3 a2 c2' h4 hp2 hf4 x4
theorem re_loop2{h0:AHeap}(hlow0:h0.low<=h0.next){sa:Option Addr}{ns sc:Nat}{V:List Ck}(hS:Cs h0 sa ns V)(hns:ns<=1000)(hk:∀v∈V,isRay v){N:Int}(hN:N=ns){R:Option Ck}{Q:Exit->SS->Prop}
  (hno:∀h',R=none->Ext h0 h'->∀v89 v88 v19 K,Q .ret ⟨[(5,.int .i64 16),(89,v89),(88,v88),(4,.pointer (some ⟨0,0,some 0⟩)),(19,v19)],4,(0,[.int .i64 0,.int .i64 0,.int .i64 0]) :: K,h'⟩)
  (hok:∀h' q,R=some q->isRay q->Ext h0 h'->Q (.exit 2) ⟨[(4,.pointer (some ⟨0,0,some 0⟩)),(15,.pointer (some ⟨1,0,some 0⟩))],2,[(0,[.int .i64 0,.int .i64 0,.int .i64 0]),(1,[.int .i64 q.a,.int .i64 q.b,.int .i64 q.d])],h'⟩) :
  ∀(m:Nat) (i:Int) (p:Ck) (h:AHeap),(ns-i).toNat<=m->0<=i->i<=ns->isRay p->trnF p (V.drop i.toNat)=R->Ext h0 h->
   head 28 19 2 ⟨[(4,.pointer (some ⟨0,0,some 0⟩)),(15,.pointer (some ⟨1,0,some 0⟩)),(74,.slice sa ns sc),(75,.int .i64 N),(76,.int .i64 i)],2,[(0,[.int .i64 0,.int .i64 0,.int .i64 0]),(1,[.int .i64 p.a,.int .i64 p.b,.int .i64 p.d])],h⟩ Q:=by
 have hlen:=hS.len;refine upTo (fun m ih=>?_);intro i p h hm i0 i1 hp hR he;by_cases ci:i<ns
 rotate_left
 ·refine hA.roundR Try.func28 r28_ok (zc ?_)
  refine br (i<N) (by rw[e_lss hA]) (fun c1=>by omega) (fun c1=>?_)<;>refine zc ?_;rw[List.drop_eq_nil_of_le (by omega)]at hR;exact hok h p hR.symm hp he
 obtain⟨m,rfl⟩:∃k,m=k+1:=⟨m-1,by omega⟩
 replace ih:=ih m rfl
 obtain⟨bb,o,h1,h2,h3⟩:=(hS.ext he).at (i:=i) i0 (by omega);subst h1;obtain⟨v,hv⟩:∃v,v=gt V i:=⟨_,rfl⟩;have q1:rd h bb (place o i 3) 3 [.int .i64 v.a,.int .i64 v.b,.int .i64 v.d]:=by rw[hv];exact rd_ok hA (h3 0 3 (by omega) (by omega))
 have hmem:v∈V:=by rw[hv];exact gt_mem V i0 (by omega)
 have e2:arith .add .i64 i 1=i+1:=add64 hA (by omega) (by omega);have hdr:=drop_gt V i0 (by omega);rw[<-hv]at hdr;have rr:=hk v hmem;rw[hdr]at hR;unfold trnF at hR;rw[rr.ray]at hR;refine hA.roundR Try.func28 r28_ok (zc ?_);refine br (i<N) (by rw[e_lss hA]) (fun c1=>?_) (fun c1=>by omega)<;>refine zc ?_;refine zq ?_;refine cmul_is hA (he.lowOK hlow0) hp rr (fun h2 t x2=>⟨_,_,_,_,rfl,?_⟩) (fun k h2 hk' hkz t tr x2=>⟨_,_,_,_,rfl,?_⟩)
 ·refine zc ?_
  refine br True (by rw[e_neq hA];rfl) (fun _=>?_) (fun q=>absurd trivial q)<;>refine zc ?_;rw[t]at hR;exact hno h2 hR.symm (he.trans x2) _ _ _ _
 ·refine zc ?_
  refine br False (by rw[e_neq hA];rfl) (fun q=>q.elim) (fun _=>?_)<;>refine zc ?_;have e12:=he.trans x2;refine cray_is hA (e12.lowOK hlow0) hk' hkz (fun q h3 hq x3=>⟨_,_,_,_,rfl,?_⟩);refine zc ?_;refine br False (by rw[e_neq hA];rfl) (fun q=>q.elim) (fun _=>?_)<;>refine zc ?_;rw[t,<-hq]at hR;rw[<-hq]at tr;rw[e2];exact ih (i+1) q h3 (by omega) (by omega) (by omega) tr hR (e12.trans x3)
theorem Reckon_ok(hW:LW F){h:AHeap}(hlow:h.low<=h.next){a:Option Addr}{n c:Nat}{l:List Vk}(hl:Vs h a n l)(hn:n<=1000){sa:Option Addr}{ns sc:Nat}{C:List Int}(hS:Rows iC 1 h sa ns C)(hns:ns<=1000){Q:Value->AHeap->Prop}
  (hQ:∀h' p e,ReO l C p e->Ext h h'->Q (.tuple #[.agg #[.int .i64 p.a,.int .i64 p.b,.int .i64 p.d],.int .i64 e]) h') :
  call 28 [.slice a n c,.slice sa ns sc] h Q:=by
 refine hA.bodyR Try.func28 r28_ok (hA.alike _ _ _ rfl) hlow (zc ?_);refine Coefs_ok hA hW hlow hl hn hS hns (fun h1 ca k cc x e co hC hk x1=>⟨_,_,_,_,rfl,?_⟩);refine zc ?_;refine br (e≠0) (by rw[e_neq hA]) (fun c1=>?_) (fun c1=>?_)<;>refine zc ?_
 ·refine hQ h1 zeC e (.bad c1 ?_) x1
  cases co with
  |bad _ k=>exact .bad c1 k
  |arg k q=>exact .arg k q
  |no k q q2=>exact .no k q q2
  |ok=>exact absurd rfl c1
 have e0:e=0:=by omega
 subst e0;have co':=co;cases co with
 |bad h0 _=>exact absurd rfl h0
 | @ok t pk ke hc q hp=>
 obtain⟨k1,k2,k3⟩:=ke.ok0;refine basis_ok hA hW (x1.lowOK hlow) (hl.ext x1) (okV.st k2) (okV.lt k2) hn (basP_is k2) k3 (fun t' pk' h2 a1 k1' c1' a2 c2 hs' q1 q2 q3 q4 q5 q6 q7=>?_);obtain⟨rfl,rfl⟩:=hp.uniq q1;refine⟨_,_,_,_,_,_,rfl,?_⟩;refine zc ?_;have x12:=x1.trans q5;have kk:k1'=k:=by
  have l1:=hC.len;have l2:=q3.len;rw[List.length_map]at l1;omega
 subst kk;rw[<-zs_fst]at hC;rw[<-zs_snd l C]at q4;refine re_loop1 hA (x12.lowOK hlow) (hl.ext x12) hn (e_ofNat hA k1') (hC.ext q5) (by omega) q4 (zs_rows ke hp) (fun h3 e he0 fr x3 v67 v66 v14 K=>?_) (fun h3 a3 m3 c3 fs fr hap hfl x3=>?_) k1' 0 h2 none 0 0 [] (by omega) (by omega) (by omega) (fun fs e r=>r) (by simp;exact Apd.nil _ _) rfl (by omega) (From.none _) (.refl h2)
 ·refine zc ?_
  exact hQ h3 zeC e (.ph co' hp fr he0) (x12.trans x3)
 refine zc ?_;have x13:=x12.trans x3;have fl:=fr.len;have zl:(zsC l C t).length=k1':=by have:=hC.len;rw[List.length_map]at this;exact this
 have hF:Cs h3 a3 m3 fs:=⟨hap.cells,ck_len,by omega⟩;refine re_loop2 hA (x13.lowOK hlow) hF (by simp only[List.length_nil]at fl;omega) (fr.rays (fun v hv=>by cases hv)) (e_ofNat hA m3) (R:=trnF oneC fs) (fun h4 hn4 x4 v89 v88 v19 K=>?_) (fun h4 q hq hr4 x4=>?_) m3 0 oneC h3 (by omega) (by omega) (by omega) one_ray rfl (.refl h3)
 ·refine zc ?_
  exact hQ h4 zeC 16 (.range co' hp fr hn4) (x13.trans x4)
 ·refine zc ?_
  exact hQ h4 q 0 (.ok co' hp fr hq) (x13.trans x4)
