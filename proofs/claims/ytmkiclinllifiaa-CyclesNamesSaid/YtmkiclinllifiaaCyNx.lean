import Derived.Test.YtmkiclinllifiaaCyCo
import Derived.Test.YtmkiclinllifiaaCyLT
import Derived.Test.YtmkiclinllifiaaSymApp2
set_option linter.unusedSimpArgs false
set_option linter.unusedVariables false
namespace Go.Proofs.Ytmkiclinllifiaa
open Go.Sim
set_option maxRecDepth 100000
def sgC(c:Int)(p:Ck):Ck:=if c<0 then⟨p.a,-p.b,p.d⟩else p
theorem sg_ray{c:Int}{p:Ck}(h:isRay p):isRay (sgC c p):=by
 unfold sgC;split
 ·exact⟨by rw[Int.gcd_neg];exact h.g,h.d,h.a1,h.a2,by have:=h.b2;show -1000000000<=-p.b;omega,by have:=h.b1;show -p.b<=1000000000;omega⟩
 ·exact h
inductive FaR(l:List Vk):List (Int×List Int)->List Ck->List Ck->Int->Prop
 |nil (acc:List Ck):FaR l [] acc acc 0
 |skip {b:List Int} {rest:List (Int×List Int)} {acc fs:List Ck} {e:Int} (r:FaR l rest acc fs e):FaR l ((0,b) :: rest) acc fs e
 |err {c:Int} {b:List Int} {rest:List (Int×List Int)} {acc:List Ck} {p:Ck} {e:Int} (h0:c≠0) (hp:PhO l b p e) (he:e≠0):FaR l ((c,b) :: rest) acc [] e
 |take {c:Int} {b:List Int} {rest:List (Int×List Int)} {acc fs:List Ck} {p:Ck} {e:Int} (h0:c≠0) (hp:PhO l b p 0) (r:FaR l rest (acc++[sgC c p]) fs e):FaR l ((c,b) :: rest) acc fs e
theorem FaR.uniq{l:List Vk}{Z:List (Int×List Int)}{acc x y:List Ck}{e f:Int}(h:FaR l Z acc x e)(k:FaR l Z acc y f):x=y/\e=f:=by
 induction h generalizing y f with
 |nil acc=>cases k;exact⟨rfl,rfl⟩
 |skip r ih=>cases k with
  |skip k=>exact ih k
  |err h0 _ _=>exact absurd rfl h0
  |take h0 _ _=>exact absurd rfl h0
 |err h0 hp he=>cases k with
  |skip k=>exact absurd rfl h0
  |err _ kp _=>exact⟨rfl,(hp.uniq kp).2⟩
  |take _ kp _=>exact absurd (hp.uniq kp).2 he
 |take h0 hp r ih=>cases k with
  |skip k=>exact absurd rfl h0
  |err _ kp ke=>exact absurd (kp.uniq hp).2 ke
  |take _ kp k=>
   obtain⟨rfl,_⟩:=hp.uniq kp;exact ih k
theorem FaR.rays{l:List Vk}{Z:List (Int×List Int)}{acc x:List Ck}{e:Int}(h:FaR l Z acc x e)(hr:∀v∈acc,isRay v):∀v∈x,isRay v:=by
 induction h with
 |nil acc=>exact hr
 |skip r ih=>exact ih hr
 |err h0 hp he=>intro v hv;cases hv
 |take h0 hp r ih=>
  refine ih (fun v hv=>?_);rcases List.mem_append.1 hv with z|z
  ·exact hr v z
  ·rw[List.mem_singleton.1 z];exact sg_ray hp.ray
theorem FaR.len{l:List Vk}{Z:List (Int×List Int)}{acc x:List Ck}{e:Int}(h:FaR l Z acc x e):x.length<=acc.length+Z.length:=by
 induction h with
 |nil acc=>simp
 |skip r ih=>simp only[List.length_cons];omega
 |err h0 hp he=>simp
 |take h0 hp r ih=>simp only[List.length_append,List.length_cons,List.length_nil]at ih ⊢;omega
def zsC(l:List Vk)(c:List Int)(t:List F2):List (Int×List Int):=(chds t (basP l)).map fun p=>(steps c p.n p.d,circF t p)
theorem zs_fst(l:List Vk)(c:List Int)(t:List F2):(zsC l c t).map Prod.fst=(chds t (basP l)).map fun p=>steps c p.n p.d:=by unfold zsC;rw[List.map_map];rfl
theorem zs_snd(l:List Vk)(c:List Int)(t:List F2):(zsC l c t).map Prod.snd=(chds t (basP l)).map (circF t):=by unfold zsC;rw[List.map_map];rfl
inductive ReO(l:List Vk)(c:List Int):Ck->Int->Prop
 |bad {e:Int} (h0:e≠0) (h:CoO l c [] e):ReO l c zeC e
 |ph {x:List Int} {t:List F2} {pk e:Int} (h:CoO l c x 0) (hp:Parts (basP l) (stS l) (fun _=>false) [] 0 t pk) (hf:FaR l (zsC l c t) [] [] e) (he:e≠0):ReO l c zeC e
 |range {x:List Int} {t:List F2} {pk:Int} {fs:List Ck} (h:CoO l c x 0) (hp:Parts (basP l) (stS l) (fun _=>false) [] 0 t pk) (hf:FaR l (zsC l c t) [] fs 0) (hr:trnF oneC fs=none):ReO l c zeC 16
 |ok {x:List Int} {t:List F2} {pk:Int} {fs:List Ck} {p:Ck} (h:CoO l c x 0) (hp:Parts (basP l) (stS l) (fun _=>false) [] 0 t pk) (hf:FaR l (zsC l c t) [] fs 0) (hr:trnF oneC fs=some p):ReO l c p 0
theorem ReO.uniq{l:List Vk}{c:List Int}{p q:Ck}{e f:Int}(h:ReO l c p e)(k:ReO l c q f):p=q/\e=f:=by
 cases h with
 |bad h0 h=>cases k with
  |bad _ k=>exact⟨rfl,(h.uniq k).2⟩
  |_ k=>exact absurd (h.uniq k).2 h0
 |ph h hp hf he=>cases k with
  |bad h0 k=>exact absurd (k.uniq h).2 h0
  |ph k kp kf ke=>obtain⟨rfl,_⟩:=hp.uniq kp;exact⟨rfl,(hf.uniq kf).2⟩
  |range k kp kf kr=>obtain⟨rfl,_⟩:=hp.uniq kp;exact absurd (hf.uniq kf).2 he
  |ok k kp kf kr=>obtain⟨rfl,_⟩:=hp.uniq kp;exact absurd (hf.uniq kf).2 he
 |range h hp hf hr=>cases k with
  |bad h0 k=>exact absurd (k.uniq h).2 h0
  |ph k kp kf ke=>obtain⟨rfl,_⟩:=hp.uniq kp;exact absurd (kf.uniq hf).2 ke
  |range k kp kf kr=>exact⟨rfl,rfl⟩
  |ok k kp kf kr=>obtain⟨rfl,_⟩:=hp.uniq kp;obtain⟨rfl,_⟩:=hf.uniq kf;rw[hr]at kr;cases kr
 |ok h hp hf hr=>cases k with
  |bad h0 k=>exact absurd (k.uniq h).2 h0
  |ph k kp kf ke=>obtain⟨rfl,_⟩:=hp.uniq kp;exact absurd (kf.uniq hf).2 ke
  |range k kp kf kr=>obtain⟨rfl,_⟩:=hp.uniq kp;obtain⟨rfl,_⟩:=hf.uniq kf;rw[hr]at kr;cases kr
  |ok k kp kf kr=>obtain⟨rfl,_⟩:=hp.uniq kp;obtain⟨rfl,_⟩:=hf.uniq kf;rw[hr]at kr;exact⟨Option.some.inj kr,rfl⟩
theorem reach_len{P:List F2}(hP:∀p∈P,okP p.n p.d){R:Int->Bool}{t:List F2}{R':Int->Bool}{t':List F2}(h:Reach P R t R' t'):t'.length+unr R'=t.length+unr R:=by
 induction h with
 |stop h=>rfl
 |step h r ih=>
  have e:=unr_add (hP _ (List.mem_of_find?_eq_some h)) (List.find?_some h);rw[List.length_append]at ih;simp only[List.length_cons,List.length_nil]at ih;omega
theorem parts_len{P:List F2}(hP:∀p∈P,okP p.n p.d){S:Int->Prop}(hS:∀s,S s->0<=s/\s<8){R:Int->Bool}{t:List F2}{k:Int}{t':List F2}{k':Int}(h:Parts P S R t k t' k'):t'.length<=t.length+unr R:=by
 induction h with
 |stop h=>omega
 |part h1 h2 h3 r q ih=>
  have e:=unr_set (hS _ h1).1 (hS _ h1).2 h2;have:=reach_len hP r;omega
theorem parts_len8{l:List Vk}(h:CkR l 0){t:List F2}{pk:Int}(hp:Parts (basP l) (stS l) (fun _=>false) [] 0 t pk):t.length<=8:=by
 have hs:=okV.st h.ok0.2.1;have:=parts_len ((basP_is h.ok0.2.1).ok hs) (fun s hs'=>stS_pos hs hs') hp;exact this
theorem zs_rows{l:List Vk}{c:List Int}{t:List F2}{pk:Int}(h:CkR l 0)(hp:Parts (basP l) (stS l) (fun _=>false) [] 0 t pk):∀z∈zsC l c t,z.2.length<=1000:=by
 intro z hz;unfold zsC at hz;obtain⟨p,hp',rfl⟩:=List.mem_map.1 hz;show(circF t p).length<=1000;unfold circF;obtain⟨k1,k2,k3⟩:=h.ok0;obtain⟨⟨w,hw⟩,_⟩:=chds_ok (okV.st k2) (okV.lt k2) (basP_is k2) hp p hp';have wl:=path_len (parts_grows hp) hw;have htl:(trT t).length=t.length:=by unfold trT;simp
 have:=parts_len8 h hp;simp only[hw,Option.getD_some,List.length_cons,List.length_dropLast];omega
end Go.Proofs.Ytmkiclinllifiaa
namespace Go.Proofs.Ytmkiclinllifiaa
open Go.Sim
set_option maxRecDepth 100000
theorem fv_bas{l:List Vk}(hk:∀v∈l,okV v){x y:Int}:fv l x y≠none↔(⟨min x y,max x y⟩:F2)∈basP l:=by
 rw[(basP_is hk).mem];constructor
 ·intro h
  by_cases c:∃v∈l,(v.i=x/\v.j=y)\/(v.i=y/\v.j=x)
  ·obtain⟨v,hv,e⟩:=c
   have:=(hk v hv).2.1;refine⟨v,hv,?_⟩;unfold Vk.pr;rw[F2.mk.injEq];omega
  ·exact absurd (fv_none.2 (fun v hv=>⟨fun q=>c ⟨v,hv,.inl q⟩,fun q=>c ⟨v,hv,.inr q⟩⟩)) h
 ·rintro⟨v,hv,e⟩ h
  unfold Vk.pr at e;rw[F2.mk.injEq]at e;have h1:=(fv_none.1 h) v hv;omega
variable{F:Prims}{a0 b0 c0 d0 e0 f0 g0 i0 j0 k0 l0 m0 n0 o0 p0 nz q0 rd wr r0 s0 t0 u0 v0 w0 x0 y0 z0 c1 d1 part e1 f1 g1 i1 j1 l1 n1 o1 lt ne p1 q1 r1 yn s1 t1 u1 v1 w1 x1 y1 z1:_}(hA:AP F ⟨a0,b0,c0,d0,e0,f0,g0,i0,j0,k0,l0,m0,n0,o0,p0,nz,q0,rd,wr,r0,s0,t0,u0,v0,w0,x0,y0,z0,c1,d1,part,e1,f1,g1,i1,j1,l1,n1,o1,lt,ne,p1,q1,r1,yn,s1,t1,u1,v1,w1,x1,y1,z1⟩)
include hA
end Go.Proofs.Ytmkiclinllifiaa
namespace Go.Proofs.Ytmkiclinllifiaa
open Go.Sim
set_option maxRecDepth 100000
def exP:List F2:=[⟨0,1⟩,⟨1,2⟩,⟨2,3⟩,⟨0,3⟩,⟨0,2⟩]
def exV(p:F2):Vk:=⟨p.n,p.d,1,0,1,0⟩
def exL:List Vk:=exP.map exV
def exT:List F2:=[⟨0,1⟩,⟨0,2⟩,⟨0,3⟩]
theorem exP_ok:∀p∈exP,(0<=p.n/\p.n<p.d/\p.d<8)/\p.n∈[(0:Int),1,2,3]/\p.d∈[(0:Int),1,2,3]:=by decide
theorem ex_ck:CkR exL 0:=by
 refine .ok (by decide) (fun v hv=>?_) (by decide);obtain⟨p,hp,rfl⟩:=List.mem_map.1 hv;have h1:okC 1 0 1:=(okC_iff _ _ _).2 (by decide);have:=(exP_ok p hp).1;exact⟨this.1,this.2.1,this.2.2,Int.le_refl 0,h1⟩
theorem ex_bas:basP exL=[⟨0,1⟩,⟨0,2⟩,⟨0,3⟩,⟨1,2⟩,⟨2,3⟩]:=by decide
theorem ex_parts:Parts (basP exL) (stS exL) (fun _=>false) [] 0 exT 1:=by
 rw[ex_bas];refine .part (s:=0) ⟨exV ⟨0,1⟩,List.mem_map_of_mem (show(⟨0,1⟩:F2)∈exP by decide),.inl rfl⟩ rfl (fun x hx hl=>?_) (.step (p:=⟨0,1⟩) (by decide) (.step (p:=⟨0,2⟩) (by decide) (.step (p:=⟨0,3⟩) (by decide) (.stop (by decide))))) (.stop (fun s hs=>?_))
 ·have:=(stS_pos (okV.st ex_ck.ok0.2.1) hx).1
  omega
 ·obtain⟨v,hv,e⟩:=hs
  obtain⟨p,hp,rfl⟩:=List.mem_map.1 hv;have:=(exP_ok p hp).2;have hs':s∈[(0:Int),1,2,3]:=by
   rcases e with rfl|rfl
   ·exact this.1
   ·exact this.2
  have key:∀s∈[(0:Int),1,2,3],addR (addR (addR (setR (fun x=>false) 0) { n:=0,d:=1 }) { n:=0,d:=2 }) { n:=0,d:=3 } s=true:=by decide
  exact key s hs'
theorem ex_chds:chds exT (basP exL)=[⟨1,2⟩,⟨2,3⟩]:=by rw[ex_bas];decide
theorem ex_circ:([⟨1,2⟩,⟨2,3⟩]:List F2).map (circF exT)=[[1,2,0],[2,3,0]]:=by decide
theorem ex_tree:TreeO exL (exT,1) 0:=.ok ex_ck ex_parts
theorem ex_chd:ChdO exL [⟨1,2⟩,⟨2,3⟩] 0:=by
 have:=AnsG.ok (f:=fun t _=>chds t (basP exL)) (z:=[]) ex_ck ex_parts;simp only[ex_chds]at this;exact this
theorem ex_bass:BasO exL [[1,2,0],[2,3,0]] 0:=by
 have:=AnsG.ok (f:=fun t _=>(chds t (basP exL)).map (circF t)) (z:=[]) ex_ck ex_parts;simp only[ex_chds,ex_circ]at this;exact this
theorem ex_co{c:List Int}(hc:circle c)(h:∀p∈sps c,(⟨min p.n p.d,max p.n p.d⟩:F2)∈[(⟨0,1⟩:F2),⟨0,2⟩,⟨0,3⟩,⟨1,2⟩,⟨2,3⟩]){x:List Int}(hx:([⟨1,2⟩,⟨2,3⟩]:List F2).map (fun p=>steps c p.n p.d)=x):CoO exL c x 0:=by
 have:=CoO.ok (c:=c) ex_ck hc (fun p hp=>(fv_bas ex_ck.ok0.2.1).2 (by rw[ex_bas];exact h p hp)) ex_parts;rw[ex_chds,hx]at this;exact this
theorem circ_dec{c:List Int}(h1:3<=c.length)(h2:c.length<=8)(h3:∀s∈c,0<=s/\s<8)(h4:c.Nodup):circle c:=⟨h1,h2,h3,h4⟩
theorem ex_co1:CoO exL [0,1,2,3] [1,1] 0:=ex_co (circ_dec (by decide) (by decide) (by decide) (by decide)) (by decide) (by decide)
theorem ex_co2:CoO exL [0,3,2] [0,-1] 0:=ex_co (circ_dec (by decide) (by decide) (by decide) (by decide)) (by decide) (by decide)
end Go.Proofs.Ytmkiclinllifiaa
namespace Go.Proofs.Ytmkiclinllifiaa
open Go.Sim
set_option maxRecDepth 100000
theorem v1_ok{p:F2}(h:0<=p.n/\p.n<p.d/\p.d<8):okV (exV p):=⟨h.1,h.2.1,h.2.2,Int.le_refl 0,(okC_iff 1 0 1).2 (by decide)⟩
def n65:List Vk:=List.replicate 65 default
theorem n65_ck:CkR n65 4:=.many (by unfold n65;rw[List.length_replicate];omega)
theorem n65_tree:TreeO n65 ([],0) 4:=.bad (by omega) n65_ck
def nBad:List Vk:=[exV ⟨2,1⟩]
theorem nBad_ck:CkR nBad 8:=.bad (by decide) (exV ⟨2,1⟩) (List.mem_cons_self ..) (fun h=>by have:=h.2.1;exact absurd this (by decide))
theorem nBad_chd:ChdO nBad [] 8:=.bad (by omega) nBad_ck
def nTwice:List Vk:=[exV ⟨0,1⟩,exV ⟨0,1⟩]
theorem nTwice_ck:CkR nTwice 14:=.twice (by decide) (fun v hv=>by
 have:v=exV ⟨0,1⟩:=by
  rcases List.mem_cons.1 hv with e|hv
  ·exact e
  ·exact List.mem_singleton.1 hv
 rw[this];exact v1_ok (by decide)) (by decide)
theorem nTwice_bas:BasO nTwice [] 14:=.bad (by omega) nTwice_ck
def twoP:List F2:=[⟨5,7⟩,⟨1,3⟩]
def twoL:List Vk:=twoP.map exV
def twoT:List F2:=[⟨1,3⟩,⟨5,7⟩]
theorem twoP_ok:∀p∈twoP,(0<=p.n/\p.n<p.d/\p.d<8)/\p.n∈[(1:Int),3,5,7]/\p.d∈[(1:Int),3,5,7]:=by decide
theorem two_ck:CkR twoL 0:=by
 refine .ok (by decide) (fun v hv=>?_) (by decide);obtain⟨p,hp,rfl⟩:=List.mem_map.1 hv;exact v1_ok (twoP_ok p hp).1
theorem two_bas:basP twoL=[⟨1,3⟩,⟨5,7⟩]:=by decide
theorem two_st{s:Int}:stS twoL s↔s∈[(1:Int),3,5,7]:=by
 constructor
 ·rintro⟨v,hv,e⟩
  obtain⟨p,hp,rfl⟩:=List.mem_map.1 hv;have:=(twoP_ok p hp).2;rcases e with rfl|rfl
  ·exact this.1
  ·exact this.2
 ·intro h
  have m1:exV ⟨1,3⟩∈twoL:=List.mem_map_of_mem (show(⟨1,3⟩:F2)∈twoP by decide);have m2:exV ⟨5,7⟩∈twoL:=List.mem_map_of_mem (show(⟨5,7⟩:F2)∈twoP by decide);simp only[List.mem_cons,List.not_mem_nil,or_false]at h;rcases h with rfl|rfl|rfl|rfl
  ·exact⟨_,m1,.inl rfl⟩
  ·exact⟨_,m1,.inr rfl⟩
  ·exact⟨_,m2,.inl rfl⟩
  ·exact⟨_,m2,.inr rfl⟩
theorem two_parts:Parts (basP twoL) (stS twoL) (fun _=>false) [] 0 twoT 2:=by
 rw[two_bas];refine .part (s:=1) (two_st.2 (by decide)) rfl (fun x hx hl=>?_) (.step (p:=⟨1,3⟩) (by decide) (.stop (by decide))) (.part (s:=5) (two_st.2 (by decide)) (by decide) (fun x hx hl=>?_) (.step (p:=⟨5,7⟩) (by decide) (.stop (by decide))) (.stop (fun s hs=>?_)))
 ·have:=two_st.1 hx
  simp only[List.mem_cons,List.not_mem_nil,or_false]at this;omega
 ·have:=two_st.1 hx
  simp only[List.mem_cons,List.not_mem_nil,or_false]at this;rcases(by omega:x=1\/x=3)with rfl|rfl<;>decide
 ·have key:∀s∈[(1:Int),3,5,7],addR (setR (addR (setR (fun _=>false) 1) ⟨1,3⟩) 5) ⟨5,7⟩ s=true:=by decide
  exact key s (two_st.1 hs)
theorem two_tree:TreeO twoL (twoT,2) 0:=.ok two_ck two_parts
theorem two_w1:WayO twoL 1 5 [] 6:=.no two_ck (two_st.2 (by decide)) (two_st.2 (by decide)) two_parts (by decide)
theorem two_w2:WayO twoL 1 0 [] 2:=.arg two_ck (fun q=>absurd (two_st.1 q.2) (by decide))
theorem two_w3:WayO twoL (-1) 1 [] 2:=.arg two_ck (fun q=>absurd (two_st.1 q.1) (by decide))
theorem two_w4:WayO twoL 7 7 [7] 0:=.ok two_ck (two_st.2 (by decide)) (two_st.2 (by decide)) two_parts (by decide)
theorem ex_w:WayO exL 3 1 [3,0,1] 0:=.ok ex_ck ⟨exV ⟨2,3⟩,List.mem_map_of_mem (show(⟨2,3⟩:F2)∈exP by decide),.inr rfl⟩ ⟨exV ⟨0,1⟩,List.mem_map_of_mem (show(⟨0,1⟩:F2)∈exP by decide),.inr rfl⟩ ex_parts (by decide)
theorem two_c1:CoO twoL [1,3] [] 2:=.arg two_ck (fun q=>absurd q.1 (by decide))
theorem two_circ:circle [1,3,5]:=circ_dec (by decide) (by decide) (by decide) (by decide)
theorem two_35:fv twoL 3 5=none:=by
 have key:∀p∈twoP,¬(p.n=3/\p.d=5)/\¬(p.n=5/\p.d=3):=by decide
 rw[fv_none];intro v hv;obtain⟨p,hp,rfl⟩:=List.mem_map.1 hv;exact key p hp
theorem two_c2:CoO twoL [1,3,5] [] 6:=.no two_ck two_circ ⟨⟨3,5⟩,by decide,two_35⟩
theorem two_r:ReO twoL [1,3,5] zeC 6:=.bad (by omega) two_c2
theorem nil_ck:CkR [] 0:=.ok (by decide) (fun v hv=>by cases hv) List.nodup_nil
theorem nil_tree:TreeO [] ([],0) 0:=by
 have hp:Parts (basP []) (stS []) (fun _=>false) [] 0 [] 0:=.stop (fun s ⟨v,hv,_⟩=>by cases hv);exact .ok nil_ck hp
def exZ:List Vk:=[exV ⟨0,1⟩,exV ⟨1,2⟩,exV ⟨2,3⟩,exV ⟨0,3⟩,⟨0,2,0,0,1,0⟩]
theorem exZ_pr:exZ.map Vk.pr=exL.map Vk.pr:=by decide
theorem exZ_bas:basP exZ=basP exL:=by unfold basP;rw[exZ_pr]
theorem exZ_st:stS exZ=stS exL:=by
 funext s
 have key:∀l:List Vk,stS l s↔∃p∈l.map Vk.pr,s=p.n\/s=p.d:=fun l=>by
  constructor
  ·rintro⟨v,hv,e⟩;exact⟨_,List.mem_map_of_mem hv,e⟩
  ·rintro⟨p,hp,e⟩;obtain⟨v,hv,rfl⟩:=List.mem_map.1 hp;exact⟨v,hv,e⟩
 exact propext (by rw[key,key,exZ_pr])
theorem exZ_ck:CkR exZ 0:=by
 refine .ok (by decide) (fun v hv=>?_) (by decide);unfold exZ at hv;simp only[List.mem_cons,List.not_mem_nil,or_false]at hv;rcases hv with rfl|rfl|rfl|rfl|rfl
 ·exact v1_ok (by decide)
 ·exact v1_ok (by decide)
 ·exact v1_ok (by decide)
 ·exact v1_ok (by decide)
 ·exact⟨by decide,by decide,by decide,by decide,(okC_iff _ _ _).2 (by decide)⟩
theorem exZ_parts:Parts (basP exZ) (stS exZ) (fun _=>false) [] 0 exT 1:=by rw[exZ_bas,exZ_st];exact ex_parts
theorem exZ_co:CoO exZ [0,1,2,3] [1,1] 0:=by
 have h:∀p∈sps [0,1,2,3],(⟨min p.n p.d,max p.n p.d⟩:F2)∈[(⟨0,1⟩:F2),⟨0,2⟩,⟨0,3⟩,⟨1,2⟩,⟨2,3⟩]:=by decide
 have:=CoO.ok (c:=[0,1,2,3]) exZ_ck (circ_dec (by decide) (by decide) (by decide) (by decide)) (fun p hp=>(fv_bas exZ_ck.ok0.2.1).2 (by rw[exZ_bas,ex_bas];exact h p hp)) exZ_parts;rw[exZ_bas,ex_chds]at this;exact this
theorem exZ_ph:PhO exZ [1,2,0] zeC 18:=by
 have h:∀p∈sps [1,2,0],(⟨min p.n p.d,max p.n p.d⟩:F2)∈[(⟨0,1⟩:F2),⟨0,2⟩,⟨0,3⟩,⟨1,2⟩,⟨2,3⟩]:=by decide
 exact .zero exZ_ck (circ_dec (by decide) (by decide) (by decide) (by decide)) (fun p hp=>(fv_bas exZ_ck.ok0.2.1).2 (by rw[exZ_bas,ex_bas];exact h p hp)) ⟨vis1 exZ ⟨2,0⟩,List.mem_map_of_mem (by decide),⟨by decide,by decide⟩⟩
theorem exZ_re:ReO exZ [0,1,2,3] zeC 18:=by
 have hz:zsC exZ [0,1,2,3] exT=[(1,[1,2,0]),(1,[2,3,0])]:=by
  unfold zsC;rw[exZ_bas,ex_chds];decide
 refine .ph exZ_co exZ_parts ?_ (by omega);rw[hz];exact .err (by omega) exZ_ph (by omega)
