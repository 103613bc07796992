import Derived.Test.YtmkiclinllifiaaCyLT
import Derived.Test.YtmkiclinllifiaaCyCh
import Derived.Test.YtmkiclinllifiaaCxR
import Derived.Test.YtmkiclinllifiaaSortH
set_option linter.unusedSimpArgs false
set_option linter.unusedVariables false
namespace Go.Proofs.Ytmkiclinllifiaa
open Go.Sim
set_option maxRecDepth 100000
theorem fv_bas{l:List Vk}(hk:∀v∈l,okV v){x y:Int}:fv l x y≠none↔(⟨min x y,max x y⟩:F2)∈basP l:=by
 rw[(basP_is hk).mem];constructor
 ·intro h
  by_cases c:∃v∈l,(v.i=x/\v.j=y)\/(v.i=y/\v.j=x)
  ·obtain⟨v,hv,e⟩:=c
   have:=(hk v hv).2.1;refine⟨v,hv,?_⟩;unfold Vk.pr;rw[F2.mk.injEq];omega
  ·exact absurd (fv_none.2 (fun v hv=>⟨fun q=>c ⟨v,hv,.inl q⟩,fun q=>c ⟨v,hv,.inr q⟩⟩)) h
 ·rintro⟨v,hv,e⟩ h
  unfold Vk.pr at e;rw[F2.mk.injEq]at e;have h1:=(fv_none.1 h) v hv;omega
variable{F:Prims}{a0 b0 c0 d0 e0 f0 g0 h0 i0 j0 k0 l0 m0 n0 o0 nz p0 rd wr q0 r0 s0 t0 u0 v0 w0 y0 z0 a1 b1 part d1 f1 g1 i1 j1 l1 m1 o1 lt ne p1 r1 s1 yn t1 u1 v1 w1 x1 y1 z1 a2:_}(hA:AP F ⟨a0,b0,c0,d0,e0,f0,g0,h0,i0,j0,k0,l0,m0,n0,o0,nz,p0,rd,wr,q0,r0,s0,t0,u0,v0,w0,y0,z0,a1,b1,part,d1,f1,g1,i1,j1,l1,m1,o1,lt,ne,p1,r1,s1,yn,t1,u1,v1,w1,x1,y1,z1,a2⟩)
include hA
end Go.Proofs.Ytmkiclinllifiaa
namespace Go.Proofs.Ytmkiclinllifiaa
open Go.Sim
set_option maxRecDepth 100000
def exP:List F2:=[⟨0,1⟩,⟨1,2⟩,⟨2,3⟩,⟨0,3⟩,⟨0,2⟩]
def exV(p:F2):Vk:=⟨p.n,p.d,1,0,1,0⟩
def exL:List Vk:=exP.map exV
def exT:List F2:=[⟨0,1⟩,⟨0,2⟩,⟨0,3⟩]
theorem exP_ok:∀p∈exP,(0<=p.n/\p.n<p.d/\p.d<8)/\p.n∈[(0:Int),1,2,3]/\p.d∈[(0:Int),1,2,3]:=by decide
theorem ex_ck:CkR exL 0:=by
 refine .ok (by decide) (fun v hv=>?_) (by decide);obtain⟨p,hp,rfl⟩:=List.mem_map.1 hv;have h1:okC 1 0 1:=(okC_iff _ _ _).2 (by decide);have:=(exP_ok p hp).1;exact⟨this.1,this.2.1,this.2.2,Int.le_refl 0,h1⟩
theorem ex_bas:basP exL=[⟨0,1⟩,⟨0,2⟩,⟨0,3⟩,⟨1,2⟩,⟨2,3⟩]:=by decide
theorem ex_parts:Parts (basP exL) (stS exL) (fun _=>false) [] 0 exT 1:=by
 rw[ex_bas];refine .part (s:=0) ⟨exV ⟨0,1⟩,List.mem_map_of_mem (show(⟨0,1⟩:F2)∈exP by decide),.inl rfl⟩ rfl (fun x hx hl=>?_) (.step (p:=⟨0,1⟩) (by decide) (.step (p:=⟨0,2⟩) (by decide) (.step (p:=⟨0,3⟩) (by decide) (.stop (by decide))))) (.stop (fun s hs=>?_))
 ·have:=(stS_pos (okV.st ex_ck.ok0.2.1) hx).1
  omega
 ·obtain⟨v,hv,e⟩:=hs
  obtain⟨p,hp,rfl⟩:=List.mem_map.1 hv;have:=(exP_ok p hp).2;have hs':s∈[(0:Int),1,2,3]:=by
   rcases e with rfl|rfl
   ·exact this.1
   ·exact this.2
  have key:∀s∈[(0:Int),1,2,3],addR (addR (addR (setR (fun x=>false) 0) { n:=0,d:=1 }) { n:=0,d:=2 }) { n:=0,d:=3 } s=true:=by decide
  exact key s hs'
theorem ex_chds:chds exT (basP exL)=[⟨1,2⟩,⟨2,3⟩]:=by rw[ex_bas];decide
theorem ex_circ:([⟨1,2⟩,⟨2,3⟩]:List F2).map (circF exT)=[[1,2,0],[2,3,0]]:=by decide
theorem ex_tree:TreeO exL (exT,1) 0:=.ok ex_ck ex_parts
theorem ex_chd:ChdO exL [⟨1,2⟩,⟨2,3⟩] 0:=by
 have:=AnsG.ok (f:=fun t _=>chds t (basP exL)) (z:=[]) ex_ck ex_parts;simp only[ex_chds]at this;exact this
theorem ex_bass:BasO exL [[1,2,0],[2,3,0]] 0:=by
 have:=AnsG.ok (f:=fun t _=>(chds t (basP exL)).map (circF t)) (z:=[]) ex_ck ex_parts;simp only[ex_chds,ex_circ]at this;exact this
theorem ex_co{c:List Int}(hc:circle c)(h:∀p∈sps c,(⟨min p.n p.d,max p.n p.d⟩:F2)∈[(⟨0,1⟩:F2),⟨0,2⟩,⟨0,3⟩,⟨1,2⟩,⟨2,3⟩]){x:List Int}(hx:([⟨1,2⟩,⟨2,3⟩]:List F2).map (fun p=>steps c p.n p.d)=x):CoO exL c x 0:=by
 have:=CoO.ok (c:=c) ex_ck hc (fun p hp=>(fv_bas ex_ck.ok0.2.1).2 (by rw[ex_bas];exact h p hp)) ex_parts;rw[ex_chds,hx]at this;exact this
theorem circ_dec{c:List Int}(h1:3<=c.length)(h2:c.length<=8)(h3:∀s∈c,0<=s/\s<8)(h4:c.Nodup):circle c:=⟨h1,h2,h3,h4⟩
theorem ex_co1:CoO exL [0,1,2,3] [1,1] 0:=ex_co (circ_dec (by decide) (by decide) (by decide) (by decide)) (by decide) (by decide)
theorem ex_co2:CoO exL [0,3,2] [0,-1] 0:=ex_co (circ_dec (by decide) (by decide) (by decide) (by decide)) (by decide) (by decide)
end Go.Proofs.Ytmkiclinllifiaa
namespace Go.Proofs.Ytmkiclinllifiaa
open Go.Sim
set_option maxRecDepth 100000
abbrev TreeP(l:List Vk)(t:List F2)(pk:Int):Prop:=Parts (basP l) (stS l) (fun _=>false) [] 0 t pk
theorem bas_lt{l:List Vk}(h:CkR l 0){p:F2}(hp:p∈basP l):0<=p.n/\p.n<p.d/\p.d<8:=by
 obtain⟨v,hv,rfl⟩:=((basP_is h.ok0.2.1).mem p).1 hp;have:=h.ok0.2.1 v hv;exact⟨this.1,this.2.1,this.2.2.1⟩
theorem tree_in{l:List Vk}{t:List F2}{pk:Int}(hp:TreeP l t pk):∀p∈t,p∈basP l:=fun p h=>by
 rcases(hp.grows rfl (fun x hx=>by cases hx)).2 p h with q|q
 ·cases q
 ·exact q
theorem mem_trT{t:List F2}{a b:Int}:(a,b)∈trT t↔(⟨a,b⟩:F2)∈t:=by
 unfold trT;rw[List.mem_reverse,List.mem_map];constructor
 ·rintro⟨p,hp,e⟩
  obtain⟨x,y⟩:=p;cases e;exact hp
 ·intro h
  exact⟨_,h,rfl⟩
theorem chd_in{l:List Vk}{t:List F2}{p:F2}(h:p∈chds t (basP l)):p∈basP l/\p∉t:=by
 have:=List.mem_filter.1 h;exact⟨this.1,by simpa using this.2⟩
theorem chd_adj{l:List Vk}(h:CkR l 0){t:List F2}{pk:Int}(hp:TreeP l t pk){p:F2}(hc:p∈chds t (basP l)):¬Adj (trT t) p.n p.d:=by
 rintro(q|q)
 ·exact(chd_in hc).2 (mem_trT.1 q)
 ·have h1:=bas_lt h (tree_in hp _ (mem_trT.1 q))
  have h2:=bas_lt h (chd_in hc).1;simp only at h1;omega
theorem tree_st{l:List Vk}(h:CkR l 0){t:List F2}{pk:Int}(hp:TreeP l t pk):∀v,hasV (trT t) v=true->0<=v/\v<8:=by
 intro v hv;obtain⟨⟨a,b⟩,hm,e⟩:=hasV_mem.1 hv;have:=bas_lt h (tree_in hp _ (mem_trT.1 hm));simp only at this e;omega
theorem parts_len1{P:List F2}(hP:∀p∈P,okP p.n p.d){S:Int->Prop}(hS:∀s,S s->0<=s/\s<8){R:Int->Bool}{t:List F2}{k:Int}{t':List F2}{k':Int}(h:Parts P S R t k t' k'):t'=t\/t'.length+1<=t.length+unr R:=by
 cases h with
 |stop h=>exact .inl rfl
 |part h1 h2 h3 r q=>
  have e:=unr_set (hS _ h1).1 (hS _ h1).2 h2;have:=reach_len hP r;have:=parts_len hP hS q;exact .inr (by omega)
theorem tree_len7{l:List Vk}(h:CkR l 0){t:List F2}{pk:Int}(hp:TreeP l t pk):t.length<=7:=by
 have hs:=okV.st h.ok0.2.1;rcases parts_len1 ((basP_is h.ok0.2.1).ok hs) (fun s hs'=>stS_pos hs hs') hp with q|q
 ·rw[q];simp
 ·have:unr (fun _=>false)=8:=rfl
  simp only[List.length_nil]at q;omega
theorem circ_walk{l:List Vk}(h:CkR l 0){t:List F2}{pk:Int}(hp:TreeP l t pk){p:F2}(hc:p∈chds t (basP l)):∃w,pathR (trT t) p.d p.n=some w/\sps (circF t p)=p :: walkP w/\circle (circF t p):=by
 obtain⟨k1,k2,k3⟩:=h.ok0;obtain⟨⟨w,hw⟩,hne⟩:=chds_ok (okV.st k2) (okV.lt k2) (basP_is k2) hp p hc;have hg:=parts_grows hp;obtain⟨⟨q1,e1⟩,q2,e2⟩:=path_ends hg hw;have wl:=path_len hg hw;have wn:=path_nodup hg hw;have htl:(trT t).length=t.length:=by unfold trT;simp
 have t7:=tree_len7 h hp;have ed:w.dropLast=q2:=by rw[e2];simp
 have ec:circF t p=p.n :: q2:=by unfold circF;rw[hw,Option.getD_some,ed]
 have hl:w.length=q2.length+1:=by rw[e2];simp
 obtain⟨n,d⟩:=p;simp only at *;refine⟨w,hw,?_,?_,?_,?_,?_⟩
 ·rw[ec,sps_walk]
  show walkP (n :: (q2++[n]))=_;rw[<-e2,e1];rfl
 ·rw[ec,List.length_cons]
  rcases Nat.lt_or_ge q2.length 2 with c|c
  ·exfalso
   cases q1 with
   |nil=>exact hne (path_one hg (by rw[hw,e1])).symm
   |cons z q1=>
    have:q1=[]:=by
     rw[e1]at hl;simp only[List.length_cons]at hl;exact List.length_eq_zero_iff.1 (by omega)
    subst this;have ez:z=n:=by
     rw[e1]at e2;have h2:=congrArg List.getLast? e2;rw[List.getLast?_concat]at h2;simpa using h2
    subst ez;rw[e1]at hw;exact chd_adj h hp hc ((path_rest hg hw).2.symm)
  ·omega
 ·rw[ec,List.length_cons];omega
 ·intro s hs
  rw[ec]at hs;have hs':s∈w:=by
   rw[e2];rcases List.mem_cons.1 hs with rfl|z
   ·simp
   ·exact List.mem_append_left _ z
  rcases path_mem hg hw s hs' with ⟨q,_⟩|q
  ·exact absurd q.symm hne
  ·exact tree_st h hp s q
 ·rw[ec]
  rw[e2,List.nodup_append]at wn;refine List.nodup_cons.2 ⟨fun q=>?_,wn.1⟩;exact wn.2.2 _ q _ (List.mem_singleton.2 rfl) rfl
theorem flI_none:∀{L:List F2} {i j:Int},(∀s∈L,¬(s.n=i/\s.d=j)/\¬(s.n=j/\s.d=i))->flI L i j=0
 | [],i,j,_=>rfl
 |p :: L,i,j,h=>by
  have h1:=h p (List.mem_cons_self ..);unfold flI;rw[flI_none (fun s hs=>h s (List.mem_cons_of_mem _ hs)),if_neg h1.1,if_neg h1.2];rfl
theorem circ_fl{l:List Vk}(h:CkR l 0){t:List F2}{pk:Int}(hp:TreeP l t pk){p:F2}(hc:p∈chds t (basP l)){x y:Int}(hn:¬Adj (trT t) x y):flI (sps (circF t p)) x y=(if p.n=x/\p.d=y then 1 else 0)-(if p.n=y/\p.d=x then 1 else 0):=by
 obtain⟨w,hw,e,_⟩:=circ_walk h hp hc;rw[e];show flI (walkP w) x y+_=_;have ha:=walkP_adj (parts_grows hp) w _ _ hw;rw[flI_none (fun s hs=>⟨fun q=>hn (by rw[<-q.1,<-q.2];exact ha s hs),fun q=>hn (by rw[<-q.1,<-q.2];exact(ha s hs).symm)⟩)];omega
theorem circ_one{l:List Vk}(h:CkR l 0){t:List F2}{pk:Int}(hp:TreeP l t pk){p q:F2}(hc:p∈chds t (basP l))(hq:q∈chds t (basP l)):steps (circF t p) q.n q.d=if p=q then 1 else 0:=by
 rw[steps_flI,circ_fl h hp hc (chd_adj h hp hq)];have h1:=bas_lt h (chd_in hc).1;have h2:=bas_lt h (chd_in hq).1;rw[if_neg (show ¬(p.n=q.d/\p.d=q.n) by omega)];by_cases c:p=q
 ·subst c;simp
 ·rw[if_neg c,if_neg (fun z=>c (by obtain⟨a,b⟩:=p;obtain⟨a',b'⟩:=q;obtain⟨rfl,rfl⟩:=z;rfl))];rfl
def sumL(f:F2->Int):List F2->Int
 | []=>0
 |p :: L=>sumL f L+f p
theorem sumL_append(f:F2->Int):∀(L M:List F2),sumL f (L++M)=sumL f L+sumL f M
 | [],M=>by show sumL f M=0+sumL f M;omega
 |p :: L,M=>by
  show sumL f (L++M)+_=sumL f L+_+sumL f M;rw[sumL_append f L M];omega
theorem sumL_zero{f:F2->Int}:∀{L:List F2},(∀p∈L,f p=0)->sumL f L=0
 | [],_=>rfl
 |p :: L,h=>by
  show sumL f L+f p=0;rw[sumL_zero (fun q hq=>h q (List.mem_cons_of_mem _ hq)),h p (List.mem_cons_self ..)];rfl
theorem sumL_neg{f g:F2->Int}:∀{L:List F2},(∀p∈L,g p=- f p)->sumL g L=- sumL f L
 | [],_=>rfl
 |p :: L,h=>by
  show sumL g L+g p=-(sumL f L+f p);rw[sumL_neg (fun q hq=>h q (List.mem_cons_of_mem _ hq)),h p (List.mem_cons_self ..)];omega
theorem sumL_one{f:F2->Int}{q:F2}:∀{L:List F2},L.Nodup->q∈L->(∀p∈L,p≠q->f p=0)->sumL f L=f q
 | [],_,h,_=>by cases h
 |p :: L,hn,h,hz=>by
  obtain⟨n1,n2⟩:=List.nodup_cons.1 hn;show sumL f L+f p=f q;by_cases c:p=q
  ·subst c
   rw[sumL_zero (fun r hr=>hz r (List.mem_cons_of_mem _ hr) (fun e=>n1 (e ▸ hr)))];omega
  ·rw[hz p (List.mem_cons_self ..) c,sumL_one n2 (by rcases List.mem_cons.1 h with e|e;exact absurd e.symm c;exact e) (fun r hr=>hz r (List.mem_cons_of_mem _ hr))]
   omega
theorem sum8_sumL{g:F2->Int}{F:F2->Int->Int}:∀(L:List F2),sum8 (fun y=>sumL (fun p=>g p*F p y) L)=sumL (fun p=>g p*sum8 (F p)) L
 | []=>rfl
 |p :: L=>by
  show sum8 (fun y=>sumL (fun p=>g p*F p y) L+g p*F p y)=sumL (fun p=>g p*sum8 (F p)) L+g p*sum8 (F p);rw[sum8_add,sum8_sumL L,sum8_mul]
theorem bas_nodup(l:List Vk):(basP l).Nodup:=by
 have:(basP l).Pairwise (fun x y=>8*x.n+x.d<8*y.n+y.d):=allP_pw.sublist List.filter_sublist;exact this.imp (fun h e=>by rw[e]at h;omega)
theorem chds_nodup(l:List Vk)(t:List F2):(chds t (basP l)).Nodup:=(bas_nodup l).sublist List.filter_sublist
theorem chain{l:List Vk}(h:CkR l 0){t:List F2}{pk:Int}(hp:TreeP l t pk){c:List Int}(hc:circle c)(hv:∀p∈sps c,fv l p.n p.d≠none)(x y:Int) :
  flI (sps c) x y=sumL (fun p=>steps c p.n p.d*flI (sps (circF t p)) x y) (chds t (basP l)):=by
 have key:=flow_zero (parts_grows hp) (tree_st h hp) (D:=fun x y=>flI (sps c) x y-sumL (fun p=>steps c p.n p.d*flI (sps (circF t p)) x y) (chds t (basP l))) (fun x y=>?_) (fun x y hn=>?_) (fun x x0 x8=>?_) x y
 ·omega
 ·rw[flI_anti (sps c) x y,sumL_neg (f:=fun p=>steps c p.n p.d*flI (sps (circF t p)) x y) (fun p _=>by rw[flI_anti (sps (circF t p)) x y,Int.mul_neg])]
  omega
 ·have main:∀x y,¬Adj (trT t) x y->(⟨x,y⟩:F2)∈chds t (basP l)->flI (sps c) x y-sumL (fun p=>steps c p.n p.d*flI (sps (circF t p)) x y) (chds t (basP l))=0:=fun x y hn hm=>by
   rw[sumL_one (q:=⟨x,y⟩) (chds_nodup l t) hm (fun p hp' hne=>?_)]
   ·have:=circ_one h hp hm hm
    rw[steps_flI,if_pos rfl]at this;simp only at this ⊢;rw[this,steps_flI];omega
   ·have:=circ_one h hp hp' hm
    rw[steps_flI,if_neg hne]at this;simp only at this ⊢;rw[this,Int.mul_zero]
  by_cases c1:(⟨x,y⟩:F2)∈chds t (basP l)
  ·exact main x y hn c1
  by_cases c2:(⟨y,x⟩:F2)∈chds t (basP l)
  ·have:=main y x (fun q=>hn q.symm) c2
   rw[flI_anti (sps c) x y,sumL_neg (f:=fun p=>steps c p.n p.d*flI (sps (circF t p)) x y) (fun p _=>by rw[flI_anti (sps (circF t p)) x y,Int.mul_neg])]at this;omega
  ·rw[flI_none (fun s hs=>?_),sumL_zero (fun p hp'=>?_)]
   ·rfl
   ·rw[circ_fl h hp hp' hn,if_neg (fun q=>c1 (by obtain⟨a,b⟩:=p;obtain⟨rfl,rfl⟩:=q;exact hp')),if_neg (fun q=>c2 (by obtain⟨a,b⟩:=p;obtain⟨rfl,rfl⟩:=q;exact hp'))]
    simp
   ·have hb:=(fv_bas h.ok0.2.1).1 (hv s hs)
    have no:∀a b:Int,(⟨a,b⟩:F2)∈basP l->(⟨a,b⟩:F2)∉chds t (basP l)->Adj (trT t) a b:=fun a b h1 h2=>by
     by_cases c3:(⟨a,b⟩:F2)∈t
     ·exact .inl (mem_trT.2 c3)
     ·exact absurd (List.mem_filter.2 ⟨h1,by simpa using c3⟩) h2
    have hlt:=bas_lt h hb;simp only at hlt;constructor
    ·rintro⟨rfl,rfl⟩
     rcases(by omega:(min s.n s.d=s.n/\max s.n s.d=s.d)\/(min s.n s.d=s.d/\max s.n s.d=s.n))with ⟨e1,e2⟩|⟨e1,e2⟩
     ·rw[e1,e2]at hb;exact hn (no _ _ hb c1)
     ·rw[e1,e2]at hb;exact hn (no _ _ hb c2).symm
    ·rintro⟨rfl,rfl⟩
     rcases(by omega:(min s.n s.d=s.n/\max s.n s.d=s.d)\/(min s.n s.d=s.d/\max s.n s.d=s.n))with ⟨e1,e2⟩|⟨e1,e2⟩
     ·rw[e1,e2]at hb;exact hn (no _ _ hb c2).symm
     ·rw[e1,e2]at hb;exact hn (no _ _ hb c1)
 ·show sum8 (fun y=>flI (sps c) x y-sumL (fun p=>steps c p.n p.d*flI (sps (circF t p)) x y) (chds t (basP l)))=0
  rw[sum8_sub,sum8_sumL (F:=fun p y=>flI (sps (circF t p)) x y),sumL_zero (fun p hp'=>?_),flI_out (sps_in hc.2.2.1),sps_out]
  ·rfl
  ·obtain⟨_,_,_,hcc⟩:=circ_walk h hp hp'
   rw[show sum8 (fun y=>flI (sps (circF t p)) x y)=outI (sps (circF t p)) x from flI_out (sps_in hcc.2.2.1) x,sps_out,Int.mul_zero]
