import Derived.Test.YtlimjlpjldijdaaCyLT
import Derived.Test.YtlimjlpjldijdaaCyCo
import Derived.Test.YtlimjlpjldijdaaCxM
import Derived.Test.YtlimjlpjldijdaaCyE
import Derived.Test.YtlimjlpjldijdaaCyRe
set_option linter.unusedSimpArgs false
set_option linter.unusedVariables false
namespace Go.Proofs.Ytlimjlpjldijdaa
open Go.Sim
set_option maxRecDepth 100000
theorem fv_bas{l:List Vk}(hk:∀v∈l,okV v){x y:Int}:fv l x y≠none↔(⟨min x y,max x y⟩:F2)∈basP l:=by
 rw[(basP_is hk).mem];constructor
 ·intro h
  by_cases c:∃v∈l,(v.i=x/\v.j=y)\/(v.i=y/\v.j=x)
  ·obtain⟨v,hv,e⟩:=c
   have:=(hk v hv).2.1;refine⟨v,hv,?_⟩;unfold Vk.pr;rw[F2.mk.injEq];omega
  ·exact absurd (fv_none.2 (fun v hv=>⟨fun q=>c ⟨v,hv,.inl q⟩,fun q=>c ⟨v,hv,.inr q⟩⟩)) h
 ·rintro⟨v,hv,e⟩ h
  unfold Vk.pr at e;rw[F2.mk.injEq]at e;have h1:=(fv_none.1 h) v hv;omega
variable{F:Prims}{call head arith cmp scmp bnot bsame conv neg imax imin ofNat slen place inR nz geZ rd wr push next mkOK nat zeros sadd eqAgg cut slc sslc strAt part app cpy putAt fresh lowered bump wrote addN lt ne fpAll fpApp brk yn rng mget mput mnew bytes clr mrng ment:_}(hA:AP F ⟨call,head,arith,cmp,scmp,bnot,bsame,conv,neg,imax,imin,ofNat,slen,place,inR,nz,geZ,rd,wr,push,next,mkOK,nat,zeros,sadd,eqAgg,cut,slc,sslc,strAt,part,app,cpy,putAt,fresh,lowered,bump,wrote,addN,lt,ne,fpAll,fpApp,brk,yn,rng,mget,mput,mnew,bytes,clr,mrng,ment⟩)
include hA
end Go.Proofs.Ytlimjlpjldijdaa
namespace Go.Proofs.Ytlimjlpjldijdaa
open Go.Sim
set_option maxRecDepth 100000
def exP:List F2:=[⟨0,1⟩,⟨1,2⟩,⟨2,3⟩,⟨0,3⟩,⟨0,2⟩]
def exV(p:F2):Vk:=⟨p.n,p.d,1,0,1,0⟩
def exL:List Vk:=exP.map exV
theorem circ_dec{c:List Int}(h1:3<=c.length)(h2:c.length<=8)(h3:∀s∈c,0<=s/\s<8)(h4:c.Nodup):circle c:=⟨h1,h2,h3,h4⟩
end Go.Proofs.Ytlimjlpjldijdaa
namespace Go.Proofs.Ytlimjlpjldijdaa
open Go.Sim
set_option maxRecDepth 100000
theorem lit_ints(h:AHeap)(c:List Int):Rows iC 1 (h.push 1 (c.flatMap iC)) (some ⟨h.next,0,none⟩) c.length c:=
 Own.rows (Own.push h 1 (c.flatMap iC)) iC_len (by omega) (by show h.next<h.next+1;omega)
variable{F:Prims}{call head arith cmp scmp bnot bsame conv neg imax imin ofNat slen place inR nz geZ rd wr push next mkOK nat zeros sadd eqAgg cut slc sslc strAt part app cpy putAt fresh lowered bump wrote addN lt ne fpAll fpApp brk yn rng mget mput mnew bytes clr mrng ment:_}(hA:AP F ⟨call,head,arith,cmp,scmp,bnot,bsame,conv,neg,imax,imin,ofNat,slen,place,inR,nz,geZ,rd,wr,push,next,mkOK,nat,zeros,sadd,eqAgg,cut,slc,sslc,strAt,part,app,cpy,putAt,fresh,lowered,bump,wrote,addN,lt,ne,fpAll,fpApp,brk,yn,rng,mget,mput,mnew,bytes,clr,mrng,ment⟩)
include hA
end Go.Proofs.Ytlimjlpjldijdaa
namespace Go.Proofs.Ytlimjlpjldijdaa
open Go.Sim
set_option maxRecDepth 100000
abbrev TreeP(l:List Vk)(t:List F2)(pk:Int):Prop:=Parts (basP l) (stS l) (fun _=>false) [] 0 t pk
theorem bas_lt{l:List Vk}(h:CkR l 0){p:F2}(hp:p∈basP l):0<=p.n/\p.n<p.d/\p.d<8:=by
 obtain⟨v,hv,rfl⟩:=((basP_is h.ok0.2.1).mem p).1 hp;have:=h.ok0.2.1 v hv;exact⟨this.1,this.2.1,this.2.2.1⟩
theorem tree_in{l:List Vk}{t:List F2}{pk:Int}(hp:TreeP l t pk):∀p∈t,p∈basP l:=fun p h=>by
 rcases(hp.grows rfl (fun x hx=>by cases hx)).2 p h with q|q
 ·cases q
 ·exact q
theorem mem_trT{t:List F2}{a b:Int}:(a,b)∈trT t↔(⟨a,b⟩:F2)∈t:=by
 unfold trT;rw[List.mem_reverse,List.mem_map];constructor
 ·rintro⟨p,hp,e⟩
  obtain⟨x,y⟩:=p;cases e;exact hp
 ·intro h
  exact⟨_,h,rfl⟩
theorem chd_in{l:List Vk}{t:List F2}{p:F2}(h:p∈chds t (basP l)):p∈basP l/\p∉t:=by
 have:=List.mem_filter.1 h;exact⟨this.1,by simpa using this.2⟩
theorem chd_adj{l:List Vk}(h:CkR l 0){t:List F2}{pk:Int}(hp:TreeP l t pk){p:F2}(hc:p∈chds t (basP l)):¬Adj (trT t) p.n p.d:=by
 rintro(q|q)
 ·exact(chd_in hc).2 (mem_trT.1 q)
 ·have h1:=bas_lt h (tree_in hp _ (mem_trT.1 q))
  have h2:=bas_lt h (chd_in hc).1;simp only at h1;omega
theorem tree_st{l:List Vk}(h:CkR l 0){t:List F2}{pk:Int}(hp:TreeP l t pk):∀v,hasV (trT t) v=true->0<=v/\v<8:=by
 intro v hv;obtain⟨⟨a,b⟩,hm,e⟩:=hasV_mem.1 hv;have:=bas_lt h (tree_in hp _ (mem_trT.1 hm));simp only at this e;omega
theorem parts_len1{P:List F2}(hP:∀p∈P,okP p.n p.d){S:Int->Prop}(hS:∀s,S s->0<=s/\s<8){R:Int->Bool}{t:List F2}{k:Int}{t':List F2}{k':Int}(h:Parts P S R t k t' k'):t'=t\/t'.length+1<=t.length+unr R:=by
 cases h with
 |stop h=>exact .inl rfl
 |part h1 h2 h3 r q=>
  have e:=unr_set (hS _ h1).1 (hS _ h1).2 h2;have:=reach_len hP r;have:=parts_len hP hS q;exact .inr (by omega)
theorem tree_len7{l:List Vk}(h:CkR l 0){t:List F2}{pk:Int}(hp:TreeP l t pk):t.length<=7:=by
 have hs:=okV.st h.ok0.2.1;rcases parts_len1 ((basP_is h.ok0.2.1).ok hs) (fun s hs'=>stS_pos hs hs') hp with q|q
 ·rw[q];simp
 ·have:unr (fun _=>false)=8:=rfl
  simp only[List.length_nil]at q;omega
theorem circ_walk{l:List Vk}(h:CkR l 0){t:List F2}{pk:Int}(hp:TreeP l t pk){p:F2}(hc:p∈chds t (basP l)):∃w,pathR (trT t) p.d p.n=some w/\sps (circF t p)=p :: walkP w/\circle (circF t p):=by
 obtain⟨k1,k2,k3⟩:=h.ok0;obtain⟨⟨w,hw⟩,hne⟩:=chds_ok (okV.st k2) (okV.lt k2) (basP_is k2) hp p hc;have hg:=parts_grows hp;obtain⟨⟨q1,e1⟩,q2,e2⟩:=path_ends hg hw;have wl:=path_len hg hw;have wn:=path_nodup hg hw;have htl:(trT t).length=t.length:=by unfold trT;simp
 have t7:=tree_len7 h hp;have ed:w.dropLast=q2:=by rw[e2];simp
 have ec:circF t p=p.n :: q2:=by unfold circF;rw[hw,Option.getD_some,ed]
 have hl:w.length=q2.length+1:=by rw[e2];simp
 obtain⟨n,d⟩:=p;simp only at *;refine⟨w,hw,?_,?_,?_,?_,?_⟩
 ·rw[ec,sps_walk]
  show walkP (n :: (q2++[n]))=_;rw[<-e2,e1];rfl
 ·rw[ec,List.length_cons]
  rcases Nat.lt_or_ge q2.length 2 with c|c
  ·exfalso
   cases q1 with
   |nil=>exact hne (path_one hg (by rw[hw,e1])).symm
   |cons z q1=>
    have:q1=[]:=by
     rw[e1]at hl;simp only[List.length_cons]at hl;exact List.length_eq_zero_iff.1 (by omega)
    subst this;have ez:z=n:=by
     rw[e1]at e2;have h2:=congrArg List.getLast? e2;rw[List.getLast?_concat]at h2;simpa using h2
    subst ez;rw[e1]at hw;exact chd_adj h hp hc ((path_rest hg hw).2.symm)
  ·omega
 ·rw[ec,List.length_cons];omega
 ·intro s hs
  rw[ec]at hs;have hs':s∈w:=by
   rw[e2];rcases List.mem_cons.1 hs with rfl|z
   ·simp
   ·exact List.mem_append_left _ z
  rcases path_mem hg hw s hs' with ⟨q,_⟩|q
  ·exact absurd q.symm hne
  ·exact tree_st h hp s q
 ·rw[ec]
  rw[e2,List.nodup_append]at wn;refine List.nodup_cons.2 ⟨fun q=>?_,wn.1⟩;exact wn.2.2 _ q _ (List.mem_singleton.2 rfl) rfl
theorem flI_none:∀{L:List F2} {i j:Int},(∀s∈L,¬(s.n=i/\s.d=j)/\¬(s.n=j/\s.d=i))->flI L i j=0
 | [],i,j,_=>rfl
 |p :: L,i,j,h=>by
  have h1:=h p (List.mem_cons_self ..);unfold flI;rw[flI_none (fun s hs=>h s (List.mem_cons_of_mem _ hs)),if_neg h1.1,if_neg h1.2];rfl
theorem circ_fl{l:List Vk}(h:CkR l 0){t:List F2}{pk:Int}(hp:TreeP l t pk){p:F2}(hc:p∈chds t (basP l)){x y:Int}(hn:¬Adj (trT t) x y):flI (sps (circF t p)) x y=(if p.n=x/\p.d=y then 1 else 0)-(if p.n=y/\p.d=x then 1 else 0):=by
 obtain⟨w,hw,e,_⟩:=circ_walk h hp hc;rw[e];show flI (walkP w) x y+_=_;have ha:=walkP_adj (parts_grows hp) w _ _ hw;rw[flI_none (fun s hs=>⟨fun q=>hn (by rw[<-q.1,<-q.2];exact ha s hs),fun q=>hn (by rw[<-q.1,<-q.2];exact(ha s hs).symm)⟩)];omega
theorem circ_one{l:List Vk}(h:CkR l 0){t:List F2}{pk:Int}(hp:TreeP l t pk){p q:F2}(hc:p∈chds t (basP l))(hq:q∈chds t (basP l)):steps (circF t p) q.n q.d=if p=q then 1 else 0:=by
 rw[steps_flI,circ_fl h hp hc (chd_adj h hp hq)];have h1:=bas_lt h (chd_in hc).1;have h2:=bas_lt h (chd_in hq).1;rw[if_neg (show ¬(p.n=q.d/\p.d=q.n) by omega)];by_cases c:p=q
 ·subst c;simp
 ·rw[if_neg c,if_neg (fun z=>c (by obtain⟨a,b⟩:=p;obtain⟨a',b'⟩:=q;obtain⟨rfl,rfl⟩:=z;rfl))];rfl
def sumL(f:F2->Int):List F2->Int
 | []=>0
 |p :: L=>sumL f L+f p
theorem sumL_zero{f:F2->Int}:∀{L:List F2},(∀p∈L,f p=0)->sumL f L=0
 | [],_=>rfl
 |p :: L,h=>by
  show sumL f L+f p=0;rw[sumL_zero (fun q hq=>h q (List.mem_cons_of_mem _ hq)),h p (List.mem_cons_self ..)];rfl
theorem sumL_neg{f g:F2->Int}:∀{L:List F2},(∀p∈L,g p=- f p)->sumL g L=- sumL f L
 | [],_=>rfl
 |p :: L,h=>by
  show sumL g L+g p=-(sumL f L+f p);rw[sumL_neg (fun q hq=>h q (List.mem_cons_of_mem _ hq)),h p (List.mem_cons_self ..)];omega
theorem sumL_one{f:F2->Int}{q:F2}:∀{L:List F2},L.Nodup->q∈L->(∀p∈L,p≠q->f p=0)->sumL f L=f q
 | [],_,h,_=>by cases h
 |p :: L,hn,h,hz=>by
  obtain⟨n1,n2⟩:=List.nodup_cons.1 hn;show sumL f L+f p=f q;by_cases c:p=q
  ·subst c
   rw[sumL_zero (fun r hr=>hz r (List.mem_cons_of_mem _ hr) (fun e=>n1 (e ▸ hr)))];omega
  ·rw[hz p (List.mem_cons_self ..) c,sumL_one n2 (by rcases List.mem_cons.1 h with e|e;exact absurd e.symm c;exact e) (fun r hr=>hz r (List.mem_cons_of_mem _ hr))]
   omega
theorem sum8_sumL{g:F2->Int}{F:F2->Int->Int}:∀(L:List F2),sum8 (fun y=>sumL (fun p=>g p*F p y) L)=sumL (fun p=>g p*sum8 (F p)) L
 | []=>rfl
 |p :: L=>by
  show sum8 (fun y=>sumL (fun p=>g p*F p y) L+g p*F p y)=sumL (fun p=>g p*sum8 (F p)) L+g p*sum8 (F p);rw[sum8_add,sum8_sumL L,sum8_mul]
theorem bas_nodup(l:List Vk):(basP l).Nodup:=by
 have:(basP l).Pairwise (fun x y=>8*x.n+x.d<8*y.n+y.d):=allP_pw.sublist List.filter_sublist;exact this.imp (fun h e=>by rw[e]at h;omega)
theorem chds_nodup(l:List Vk)(t:List F2):(chds t (basP l)).Nodup:=(bas_nodup l).sublist List.filter_sublist
theorem chain{l:List Vk}(h:CkR l 0){t:List F2}{pk:Int}(hp:TreeP l t pk){c:List Int}(hc:circle c)(hv:∀p∈sps c,fv l p.n p.d≠none)(x y:Int) :
  flI (sps c) x y=sumL (fun p=>steps c p.n p.d*flI (sps (circF t p)) x y) (chds t (basP l)):=by
 have key:=flow_zero (parts_grows hp) (tree_st h hp) (D:=fun x y=>flI (sps c) x y-sumL (fun p=>steps c p.n p.d*flI (sps (circF t p)) x y) (chds t (basP l))) (fun x y=>?_) (fun x y hn=>?_) (fun x x0 x8=>?_) x y
 ·omega
 ·rw[flI_anti (sps c) x y,sumL_neg (f:=fun p=>steps c p.n p.d*flI (sps (circF t p)) x y) (fun p _=>by rw[flI_anti (sps (circF t p)) x y,Int.mul_neg])]
  omega
 ·have main:∀x y,¬Adj (trT t) x y->(⟨x,y⟩:F2)∈chds t (basP l)->flI (sps c) x y-sumL (fun p=>steps c p.n p.d*flI (sps (circF t p)) x y) (chds t (basP l))=0:=fun x y hn hm=>by
   rw[sumL_one (q:=⟨x,y⟩) (chds_nodup l t) hm (fun p hp' hne=>?_)]
   ·have:=circ_one h hp hm hm
    rw[steps_flI,if_pos rfl]at this;simp only at this ⊢;rw[this,steps_flI];omega
   ·have:=circ_one h hp hp' hm
    rw[steps_flI,if_neg hne]at this;simp only at this ⊢;rw[this,Int.mul_zero]
  by_cases c1:(⟨x,y⟩:F2)∈chds t (basP l)
  ·exact main x y hn c1
  by_cases c2:(⟨y,x⟩:F2)∈chds t (basP l)
  ·have:=main y x (fun q=>hn q.symm) c2
   rw[flI_anti (sps c) x y,sumL_neg (f:=fun p=>steps c p.n p.d*flI (sps (circF t p)) x y) (fun p _=>by rw[flI_anti (sps (circF t p)) x y,Int.mul_neg])]at this;omega
  ·rw[flI_none (fun s hs=>?_),sumL_zero (fun p hp'=>?_)]
   ·rfl
   ·rw[circ_fl h hp hp' hn,if_neg (fun q=>c1 (by obtain⟨a,b⟩:=p;obtain⟨rfl,rfl⟩:=q;exact hp')),if_neg (fun q=>c2 (by obtain⟨a,b⟩:=p;obtain⟨rfl,rfl⟩:=q;exact hp'))]
    simp
   ·have hb:=(fv_bas h.ok0.2.1).1 (hv s hs)
    have no:∀a b:Int,(⟨a,b⟩:F2)∈basP l->(⟨a,b⟩:F2)∉chds t (basP l)->Adj (trT t) a b:=fun a b h1 h2=>by
     by_cases c3:(⟨a,b⟩:F2)∈t
     ·exact .inl (mem_trT.2 c3)
     ·exact absurd (List.mem_filter.2 ⟨h1,by simpa using c3⟩) h2
    have hlt:=bas_lt h hb;simp only at hlt;constructor
    ·rintro⟨rfl,rfl⟩
     rcases(by omega:(min s.n s.d=s.n/\max s.n s.d=s.d)\/(min s.n s.d=s.d/\max s.n s.d=s.n))with ⟨e1,e2⟩|⟨e1,e2⟩
     ·rw[e1,e2]at hb;exact hn (no _ _ hb c1)
     ·rw[e1,e2]at hb;exact hn (no _ _ hb c2).symm
    ·rintro⟨rfl,rfl⟩
     rcases(by omega:(min s.n s.d=s.n/\max s.n s.d=s.d)\/(min s.n s.d=s.d/\max s.n s.d=s.n))with ⟨e1,e2⟩|⟨e1,e2⟩
     ·rw[e1,e2]at hb;exact hn (no _ _ hb c2).symm
     ·rw[e1,e2]at hb;exact hn (no _ _ hb c1)
 ·show sum8 (fun y=>flI (sps c) x y-sumL (fun p=>steps c p.n p.d*flI (sps (circF t p)) x y) (chds t (basP l)))=0
  rw[sum8_sub,sum8_sumL (F:=fun p y=>flI (sps (circF t p)) x y),sumL_zero (fun p hp'=>?_),flI_out (sps_in hc.2.2.1),sps_out]
  ·rfl
  ·obtain⟨_,_,_,hcc⟩:=circ_walk h hp hp'
   rw[show sum8 (fun y=>flI (sps (circF t p)) x y)=outI (sps (circF t p)) x from flI_out (sps_in hcc.2.2.1) x,sps_out,Int.mul_zero]
end Go.Proofs.Ytlimjlpjldijdaa
namespace Go.Proofs.Ytlimjlpjldijdaa
open Go.Sim
set_option maxRecDepth 100000
structure Gz where
 re:Int
 im:Int
def Gz.one:Gz:=⟨1,0⟩
def Gz.mul(z w:Gz):Gz:=⟨z.re*w.re-z.im*w.im,z.re*w.im+z.im*w.re⟩
def Gz.conj(z:Gz):Gz:=⟨z.re,-z.im⟩
def Gz.nz(z:Gz):Prop:=¬(z.re=0/\z.im=0)
theorem Gz.ext'{z w:Gz}(h1:z.re=w.re)(h2:z.im=w.im):z=w:=by cases z;cases w;simp only at h1 h2;rw[h1,h2]
theorem Gz.mul_comm(z w:Gz):z.mul w=w.mul z:=Gz.ext' (by unfold Gz.mul;grind) (by unfold Gz.mul;grind)
theorem Gz.mul_assoc(z w v:Gz):(z.mul w).mul v=z.mul (w.mul v):=Gz.ext' (by unfold Gz.mul;grind) (by unfold Gz.mul;grind)
theorem Gz.one_mul(z:Gz):Gz.one.mul z=z:=Gz.ext' (by unfold Gz.mul Gz.one;simp) (by unfold Gz.mul Gz.one;simp)
theorem Gz.mul_one(z:Gz):z.mul Gz.one=z:=by rw[Gz.mul_comm,Gz.one_mul]
theorem Gz.conj_mul(z w:Gz):(z.mul w).conj=z.conj.mul w.conj:=Gz.ext' (by unfold Gz.mul Gz.conj;grind) (by unfold Gz.mul Gz.conj;grind)
theorem Gz.conj_conj(z:Gz):z.conj.conj=z:=Gz.ext' rfl (by unfold Gz.conj;simp)
def Par(z w:Gz):Prop:=∃s t:Int,0<s/\0<t/\s*z.re=t*w.re/\s*z.im=t*w.im
theorem Par.refl(z:Gz):Par z z:=⟨1,1,by omega,by omega,rfl,rfl⟩
theorem Par.of_eq{z w:Gz}(h:z=w):Par z w:=h ▸ Par.refl z
theorem Par.symm{z w:Gz}:Par z w->Par w z:=fun⟨s,t,hs,ht,h1,h2⟩=>⟨t,s,ht,hs,h1.symm,h2.symm⟩
theorem Par.trans{z w v:Gz}:Par z w->Par w v->Par z v:=fun⟨s,t,hs,ht,h1,h2⟩ ⟨s',t',hs',ht',h1',h2'⟩=>
 ⟨s*s',t*t',Int.mul_pos hs hs',Int.mul_pos ht ht',by
  have e1:s*s'*z.re=s'*(s*z.re):=by grind
  have e2:t*t'*v.re=t*(t'*v.re):=by grind
  rw[e1,e2,h1,<-h1'];grind,by
  have e1:s*s'*z.im=s'*(s*z.im):=by grind
  have e2:t*t'*v.im=t*(t'*v.im):=by grind
  rw[e1,e2,h2,<-h2'];grind⟩
theorem Par.mul{z w z' w':Gz}:Par z w->Par z' w'->Par (z.mul z') (w.mul w'):=fun⟨s,t,hs,ht,h1,h2⟩ ⟨s',t',hs',ht',h1',h2'⟩=>
 ⟨s*s',t*t',Int.mul_pos hs hs',Int.mul_pos ht ht',by
  unfold Gz.mul;simp only;have e1:s*s'*(z.re*z'.re-z.im*z'.im)=(s*z.re)*(s'*z'.re)-(s*z.im)*(s'*z'.im):=by grind
  have e2:t*t'*(w.re*w'.re-w.im*w'.im)=(t*w.re)*(t'*w'.re)-(t*w.im)*(t'*w'.im):=by grind
  rw[e1,e2,h1,h2,h1',h2'],by
  unfold Gz.mul;simp only;have e1:s*s'*(z.re*z'.im+z.im*z'.re)=(s*z.re)*(s'*z'.im)+(s*z.im)*(s'*z'.re):=by grind
  have e2:t*t'*(w.re*w'.im+w.im*w'.re)=(t*w.re)*(t'*w'.im)+(t*w.im)*(t'*w'.re):=by grind
  rw[e1,e2,h1,h2,h1',h2']⟩
theorem Par.conj{z w:Gz}:Par z w->Par z.conj w.conj:=fun⟨s,t,hs,ht,h1,h2⟩=>⟨s,t,hs,ht,h1,by
 unfold Gz.conj;simp only;rw[Int.mul_neg,Int.mul_neg,h2]⟩
theorem norm_pos{z:Gz}(h:z.nz):0<z.re*z.re+z.im*z.im:=by
 have h1:0<=z.re*z.re:=by rcases Int.le_total 0 z.re with q|q;exact Int.mul_nonneg q q;exact Int.mul_nonneg_of_nonpos_of_nonpos q q
 have h2:0<=z.im*z.im:=by rcases Int.le_total 0 z.im with q|q;exact Int.mul_nonneg q q;exact Int.mul_nonneg_of_nonpos_of_nonpos q q
 rcases Int.lt_or_eq_of_le (show 0<=z.re*z.re+z.im*z.im by omega)with q|q
 ·exact q
 ·exact absurd (sq_pos' q.symm) h
theorem Par.inv{z:Gz}(h:z.nz):Par (z.mul z.conj) Gz.one:=⟨1,z.re*z.re+z.im*z.im,by omega,norm_pos h,by unfold Gz.mul Gz.conj Gz.one;grind,by unfold Gz.mul Gz.conj Gz.one;grind⟩
def pn(z:Gz):Nat->Gz
 |0=>Gz.one
 |k+1=>(pn z k).mul z
theorem pn_conj(z:Gz):∀k,pn z.conj k=(pn z k).conj
 |0=>rfl
 |k+1=>by
  show(pn z.conj k).mul z.conj=((pn z k).mul z).conj;rw[pn_conj z k,Gz.conj_mul]
def pw(z:Gz):Int->Gz
 | .ofNat k=>pn z k
 | .negSucc k=>pn z.conj (k+1)
theorem pw_zero(z:Gz):pw z 0=Gz.one:=rfl
theorem pw_neg(z:Gz):∀n:Int,pw z (-n)=(pw z n).conj
 | .ofNat 0=>rfl
 | .ofNat (k+1)=>pn_conj z (k+1)
 | .negSucc k=>by
  show pn z (k+1)=(pn z.conj (k+1)).conj;rw[pn_conj,Gz.conj_conj]
theorem pw_succ{z:Gz}(h:z.nz):∀n:Int,Par (pw z (n+1)) ((pw z n).mul z)
 | .ofNat k=>.refl _
 | .negSucc 0=>by
  show Par Gz.one ((Gz.one.mul z.conj).mul z);rw[Gz.one_mul,Gz.mul_comm];exact(Par.inv h).symm
 | .negSucc (k+1)=>by
  show Par (pn z.conj (k+1)) (((pn z.conj (k+1)).mul z.conj).mul z);rw[Gz.mul_assoc,Gz.mul_comm z.conj z];have:=(Par.refl (pn z.conj (k+1))).mul (Par.inv h);rw[Gz.mul_one]at this;exact this.symm
theorem pw_pred{z:Gz}(h:z.nz)(n:Int):Par (pw z (n-1)) ((pw z n).mul z.conj):=by
 have h1:=pw_succ h (n-1);rw[show n-1+1=n by omega]at h1;have h2:=h1.mul (.refl z.conj);rw[Gz.mul_assoc]at h2;have h3:=(Par.refl (pw z (n-1))).mul (Par.inv h);rw[Gz.mul_one]at h3;exact(h2.trans h3).symm
theorem pw_addN{z:Gz}(h:z.nz)(m:Int):∀k:Nat,Par (pw z (m+k)) ((pw z m).mul (pw z k))
 |0=>by
  show Par (pw z (m+0)) ((pw z m).mul Gz.one);rw[Int.add_zero,Gz.mul_one];exact .refl _
 |k+1=>by
  have ih:=pw_addN h m k;have h1:=pw_succ h (m+k);rw[show m+(k:Int)+1=m+((k+1:Nat):Int) by omega]at h1;have h2:pw z ((k+1:Nat):Int)=(pw z (k:Int)).mul z:=rfl;rw[h2,<-Gz.mul_assoc];exact h1.trans (ih.mul (.refl z))
theorem pw_subN{z:Gz}(h:z.nz)(m:Int):∀k:Nat,Par (pw z (m-k)) ((pw z m).mul (pw z (-(k:Int))))
 |0=>by
  show Par (pw z (m-0)) ((pw z m).mul Gz.one);rw[Int.sub_zero,Gz.mul_one];exact .refl _
 |k+1=>by
  have ih:=pw_subN h m k;have h1:=pw_pred h (m-k);rw[show m-(k:Int)-1=m-((k+1:Nat):Int) by omega]at h1;have h2:=pw_pred h (-(k:Int));rw[show -(k:Int)-1=-((k+1:Nat):Int) by omega]at h2;have h3:=(Par.refl (pw z m)).mul h2;rw[<-Gz.mul_assoc]at h3;exact(h1.trans (ih.mul (.refl z.conj))).trans h3.symm
theorem pw_add{z:Gz}(h:z.nz)(m n:Int):Par (pw z (m+n)) ((pw z m).mul (pw z n)):=by
 rcases Int.le_total 0 n with q|q
 ·have:=pw_addN h m n.toNat
  rw[show((n.toNat:Nat):Int)=n by omega]at this;exact this
 ·have:=pw_subN h m (-n).toNat
  rw[show(((-n).toNat:Nat):Int)=-n by omega,show m - -n=m+n by omega,show - -n=n by omega]at this;exact this
def prG(g:F2->Gz)(f:F2->Int):List F2->Gz
 | []=>Gz.one
 |p :: P=>(prG g f P).mul (pw (g p) (f p))
theorem prG_zero(g:F2->Gz):∀P,prG g (fun _=>0) P=Gz.one
 | []=>rfl
 |p :: P=>by show(prG g (fun _=>0) P).mul Gz.one=_;rw[prG_zero g P,Gz.mul_one]
theorem mul_swap(a b c d:Gz):(a.mul b).mul (c.mul d)=(a.mul c).mul (b.mul d):=by
 rw[Gz.mul_assoc,<-Gz.mul_assoc b,Gz.mul_comm b c,Gz.mul_assoc c,<-Gz.mul_assoc a]
theorem prG_add{g:F2->Gz}(hg:∀p,(g p).nz)(f f':F2->Int):∀P,Par (prG g (fun p=>f p+f' p) P) ((prG g f P).mul (prG g f' P))
 | []=>by show Par Gz.one (Gz.one.mul Gz.one);rw[Gz.one_mul];exact .refl _
 |p :: P=>by
  show Par ((prG g (fun p=>f p+f' p) P).mul (pw (g p) (f p+f' p))) (((prG g f P).mul (pw (g p) (f p))).mul ((prG g f' P).mul (pw (g p) (f' p))));rw[mul_swap];exact(prG_add hg f f' P).mul (pw_add (hg p) _ _)
theorem prG_neg(g:F2->Gz)(f:F2->Int):∀P,prG g (fun p=>- f p) P=(prG g f P).conj
 | []=>rfl
 |p :: P=>by
  show(prG g (fun p=>- f p) P).mul (pw (g p) (- f p))=((prG g f P).mul (pw (g p) (f p))).conj;rw[prG_neg g f P,pw_neg,Gz.conj_mul]
theorem prG_one{g:F2->Gz}{q:F2}{u:Int}{f:F2->Int}:∀{P:List F2},P.Nodup->q∈P->f q=u->(∀p∈P,p≠q->f p=0)->prG g f P=pw (g q) u
 | [],_,h,_,_=>by cases h
 |p :: P,hn,h,hu,hz=>by
  obtain⟨n1,n2⟩:=List.nodup_cons.1 hn;show(prG g f P).mul (pw (g p) (f p))=_;have zero:∀{P:List F2},(∀p∈P,f p=0)->prG g f P=Gz.one:=fun {P}=>by
   intro h
   induction P with
   |nil=>rfl
   |cons a P ih=>
    show(prG g f P).mul (pw (g a) (f a))=_;rw[ih (fun p hp=>h p (List.mem_cons_of_mem _ hp)),h a (List.mem_cons_self ..),pw_zero,Gz.one_mul]
  by_cases c:p=q
  ·subst c
   rw[zero (fun r hr=>hz r (List.mem_cons_of_mem _ hr) (fun e=>n1 (e ▸ hr))),Gz.one_mul,hu]
  ·rw[hz p (List.mem_cons_self ..) c,pw_zero,Gz.mul_one]
   exact prG_one n2 (by rcases List.mem_cons.1 h with e|e;exact absurd e.symm c;exact e) hu (fun r hr=>hz r (List.mem_cons_of_mem _ hr))
def gz(k:Ck):Gz:=⟨k.a,k.b⟩
instance(k:Ck):Decidable k.nil:=by unfold Ck.nil;infer_instance
def gv(l:List Vk)(s:F2):Gz:=if (vis1 l s).nil then Gz.one else gz (vis1 l s)
theorem gv_nz(l:List Vk)(s:F2):(gv l s).nz:=by
 unfold gv;split
 ·rintro⟨h,_⟩;cases h
 ·rename_i h;exact h
theorem gv_rev{l:List Vk}(hk:∀v∈l,okV v)(hd:(l.map Vk.pr).Nodup){x y:Int}(h:fv l x y≠none):gv l ⟨y,x⟩=(gv l ⟨x,y⟩).conj:=by
 by_cases c:∃v∈l,(v.i=x/\v.j=y)\/(v.i=y/\v.j=x)
 ·obtain⟨v,hv,e⟩:=c
  have key:∀x y,v.i=x/\v.j=y->gv l ⟨y,x⟩=(gv l ⟨x,y⟩).conj:=fun x y e=>by
   have h1:=fv_to hk hd hv e;have h2:=fv_back hk hd hv (x:=y) (y:=x) e;have v1:vis1 l ⟨x,y⟩=⟨v.re,v.im,v.den⟩:=by unfold vis1;rw[h1];rfl
   have v2:vis1 l ⟨y,x⟩=⟨v.re,-v.im,v.den⟩:=by unfold vis1;rw[h2];rfl
   unfold gv;rw[v1,v2];by_cases c:v.re=0/\v.im=0
   ·rw[if_pos (show Ck.nil ⟨v.re,-v.im,v.den⟩from⟨c.1,by show -v.im=0;omega⟩),if_pos (show Ck.nil ⟨v.re,v.im,v.den⟩from c)]
    rfl
   ·rw[if_neg (show ¬Ck.nil ⟨v.re,-v.im,v.den⟩from fun q=>c ⟨q.1,by have:-v.im=0:=q.2;omega⟩),if_neg (show ¬Ck.nil ⟨v.re,v.im,v.den⟩from c)]
    rfl
  rcases e with e|e
  ·exact key x y e
  ·rw[key y x e,Gz.conj_conj]
 ·exact absurd (fv_none.2 (fun v hv=>⟨fun q=>c ⟨v,hv,.inl q⟩,fun q=>c ⟨v,hv,.inr q⟩⟩)) h
def prodG{α:Type}(g:α->Gz):List α->Gz
 | []=>Gz.one
 |p :: L=>(g p).mul (prodG g L)
theorem prodG_append{α:Type}(g:α->Gz):∀L M:List α,prodG g (L++M)=(prodG g L).mul (prodG g M)
 | [],M=>by show prodG g M=Gz.one.mul _;rw[Gz.one_mul]
 |p :: L,M=>by show(g p).mul (prodG g (L++M))=_;rw[prodG_append g L M,<-Gz.mul_assoc];rfl
theorem walk_pr{l:List Vk}(h:CkR l 0):∀{L:List F2},(∀s∈L,fv l s.n s.d≠none)->Par (prodG (gv l) L) (prG (gv l) (fun p=>flI L p.n p.d) (basP l))
 | [],_=>Par.of_eq (prG_zero _ _).symm
 |s :: L,hv=>by
  obtain⟨k1,k2,k3⟩:=h.ok0;have ih:=walk_pr h (L:=L) (fun q hq=>hv q (List.mem_cons_of_mem _ hq));have hs:=hv s (List.mem_cons_self ..);have hb:=(fv_bas k2).1 hs;have hlt:=bas_lt h hb;simp only at hlt;obtain⟨x,y⟩:=s;simp only at hs hb hlt;have e:=prG_add (g:=gv l) (gv_nz l) (fun p=>flI L p.n p.d) (fun p=>(if x=p.n/\y=p.d then(1:Int)else 0)-(if x=p.d/\y=p.n then 1 else 0)) (basP l);have e2:prG (gv l) (fun p=>(if x=p.n/\y=p.d then(1:Int)else 0)-(if x=p.d/\y=p.n then 1 else 0)) (basP l)=gv l ⟨x,y⟩:=by
   rcases(by omega:x<y\/y<x)with c|c
   ·rw[show min x y=x by omega,show max x y=y by omega]at hb
    rw[prG_one (q:=⟨x,y⟩) (u:=1) (bas_nodup l) hb (by simp;omega) (fun p hp hne=>?_)]
    ·show Gz.one.mul _=_;rw[Gz.one_mul]
    ·have:=bas_lt h hp
     rw[if_neg (fun q=>hne (by obtain⟨a,b⟩:=p;obtain⟨rfl,rfl⟩:=q;rfl)),if_neg (by omega)];rfl
   ·rw[show min x y=y by omega,show max x y=x by omega]at hb
    rw[prG_one (q:=⟨y,x⟩) (u:=-1) (bas_nodup l) hb (by simp;omega) (fun p hp hne=>?_)]
    ·show Gz.one.mul (gv l ⟨y,x⟩).conj=_
     rw[Gz.one_mul,gv_rev k2 k3 hs,Gz.conj_conj]
    ·have:=bas_lt h hp
     rw[if_neg (by omega),if_neg (fun q=>hne (by obtain⟨a,b⟩:=p;obtain⟨rfl,rfl⟩:=q;rfl))];rfl
  rw[e2]at e;show Par ((gv l ⟨x,y⟩).mul (prodG (gv l) L)) _;rw[Gz.mul_comm];exact(ih.mul (.refl _)).trans e.symm
theorem ray_par{k:Ck}(h:¬k.nil):Par (gz (rayC k)) (gz k):=by
 have g0:=gcd_nz h;refine⟨Int.gcd k.a k.b,1,by omega,by omega,?_,?_⟩
 ·show(Int.gcd k.a k.b:Int)*k.a.tdiv (Int.gcd k.a k.b)=1*k.a
  rw[Int.mul_comm,Int.tdiv_mul_cancel (Int.gcd_dvd_left ..)];omega
 ·show(Int.gcd k.a k.b:Int)*k.b.tdiv (Int.gcd k.a k.b)=1*k.b
  rw[Int.mul_comm,Int.tdiv_mul_cancel (Int.gcd_dvd_right ..)];omega
theorem ray_uniq{p q:Ck}(hp:isRay p)(hq:isRay q)(h:Par (gz p) (gz q)):p=q:=by
 obtain⟨s,t,hs,ht,h1,h2⟩:=h;have g1:Int.gcd (s*p.a) (s*p.b)=s.natAbs:=by rw[Int.gcd_mul_left,hp.g];simp
 have g2:Int.gcd (t*q.a) (t*q.b)=t.natAbs:=by rw[Int.gcd_mul_left,hq.g];simp
 have h1':s*p.a=t*q.a:=h1;have h2':s*p.b=t*q.b:=h2;rw[h1',h2',g2]at g1;have est:s=t:=by omega
 subst est;have ea:=Int.eq_of_mul_eq_mul_left (by omega) h1';have eb:=Int.eq_of_mul_eq_mul_left (by omega) h2';have d1:=hp.d;have d2:=hq.d;obtain⟨a,b,d⟩:=p;obtain⟨a',b',d'⟩:=q;simp only at *;rw[ea,eb,d1,d2]
theorem turn_par{p r q:Ck}(hp:¬p.nil)(hr:¬r.nil)(h:turnC p r=some q):Par (gz q) ((gz p).mul (gz r)):=by
 unfold turnC at h;by_cases c:fitM p r
 ·rw[if_pos c]at h
  obtain rfl:=Option.some.inj h;exact ray_par (k:=⟨mulR p r,mulI p r,1⟩) (mul_nz hp hr)
 ·rw[if_neg c]at h;cases h
theorem trnF_par:∀{vs:List Ck} {p q:Ck},isRay p->(∀v∈vs,v.ok)->(∀v∈vs,¬v.nil)->trnF p vs=some q->Par (gz q) ((gz p).mul (prodG gz vs))
 | [],p,q,hp,_,_,h=>by obtain rfl:=Option.some.inj h;show Par _ ((gz p).mul Gz.one);rw[Gz.mul_one];exact .refl _
 |v :: vs,p,q,hp,hk,hz,h=>by
  unfold trnF at h;cases ht:turnC p (rayC v)with
  |none=>rw[ht]at h;cases h
  |some r=>
   rw[ht]at h;have vk:=hk v (List.mem_cons_self ..);have vz:=hz v (List.mem_cons_self ..);have hr:=turn_is hp (rayC_is vk vz) ht;have ih:=trnF_par hr (fun v hv=>hk v (List.mem_cons_of_mem _ hv)) (fun v hv=>hz v (List.mem_cons_of_mem _ hv)) h;have h1:=(turn_par hp.nz (rayC_is vk vz).nz ht).trans ((Par.refl (gz p)).mul (ray_par vz));show Par (gz q) ((gz p).mul ((gz v).mul (prodG gz vs)));rw[<-Gz.mul_assoc];exact ih.trans (h1.mul (.refl _))
theorem phase_par{l:List Vk}{c:List Int}{p:Ck}(h:PhO l c p 0):Par (gz p) (prG (gv l) (fun q=>flI (sps c) q.n q.d) (basP l)):=by
 cases h with
 |bad h0 _=>exact absurd rfl h0
 |ok h h1 h2 h3 h4=>
  have h5:=trnF_par one_ray (vsF_ok h.ok0.2.1 h2) h3 h4;rw[show gz oneC=Gz.one from rfl,Gz.one_mul]at h5;have e:prodG gz (vsF l c)=prodG (gv l) (sps c):=by
   have:∀L:List F2,(∀s∈L,¬(vis1 l s).nil)->prodG gz (L.map (vis1 l))=prodG (gv l) L:=fun L=>by
    induction L with
    |nil=>intro _;rfl
    |cons s L ih=>
     intro hz;show(gz (vis1 l s)).mul (prodG gz (L.map (vis1 l)))=(gv l s).mul (prodG (gv l) L);rw[ih (fun q hq=>hz q (List.mem_cons_of_mem _ hq))];unfold gv;rw[if_neg (hz s (List.mem_cons_self ..))]
   exact this (sps c) (fun s hs=>h3 _ (List.mem_map_of_mem hs))
  rw[e]at h5;exact h5.trans (walk_pr h h2)
def sumZ(f:F2->Int):List (Int×List Int)->F2->Int
 | [],_=>0
 |z :: Z,p=>z.1*flI (sps z.2) p.n p.d+sumZ f Z p
theorem far_par{l:List Vk}{Z:List (Int×List Int)}{acc fs:List Ck}{e:Int}(h:FaR l Z acc fs e)(he:e=0)(h1:∀z∈Z,-1<=z.1/\z.1<=1):Par (prodG gz fs) ((prodG gz acc).mul (prG (gv l) (sumZ (fun _=>0) Z) (basP l))):=by
 induction h with
 |nil acc=>rw[show sumZ (fun _=>0) []=fun _=>0 from rfl,prG_zero,Gz.mul_one];exact .refl _
 | @skip b rest acc fs e r ih=>
  have:=ih he (fun z hz=>h1 z (List.mem_cons_of_mem _ hz));rw[show sumZ (fun _=>0) ((0,b) :: rest)=sumZ (fun _=>0) rest by funext p;show 0*_+_=_;rw[Int.zero_mul,Int.zero_add]];exact this
 |err h0 hp he'=>exact absurd he he'
 | @take c b rest acc fs p e h0 hp r ih=>
  have ih:=ih he (fun z hz=>h1 z (List.mem_cons_of_mem _ hz));have hc:=h1 _ (List.mem_cons_self ..);simp only at hc;rw[prodG_append]at ih;have hs:Par (gz (sgC c p)) (prG (gv l) (fun q=>c*flI (sps b) q.n q.d) (basP l)):=by
   have hph:=phase_par hp;unfold sgC;rcases(by omega:c=1\/c=-1)with rfl|rfl
   ·rw[if_neg (by omega),show(fun q:F2=>1*flI (sps b) q.n q.d)=fun q=>flI (sps b) q.n q.d by funext q;rw[Int.one_mul]]
    exact hph
   ·rw[if_pos (by omega),show(fun q:F2=>-1*flI (sps b) q.n q.d)=fun q=>-(flI (sps b) q.n q.d) by funext q;omega,prG_neg]
    exact hph.conj
  have hadd:=prG_add (gv_nz l) (fun q=>c*flI (sps b) q.n q.d) (sumZ (fun _=>0) rest) (basP l);have e1:prodG gz [sgC c p]=gz (sgC c p):=by show(gz _).mul Gz.one=_;rw[Gz.mul_one]
  rw[e1,Gz.mul_assoc]at ih;refine ih.trans ((Par.refl _).mul ?_);exact(hs.mul (.refl _)).trans hadd.symm
theorem sumZ_chain(l:List Vk)(c:List Int)(t:List F2)(p:F2):∀L:List F2,sumZ (fun _=>0) (L.map fun q=>(steps c q.n q.d,circF t q)) p=sumL (fun q=>steps c q.n q.d*flI (sps (circF t q)) p.n p.d) L
 | []=>rfl
 |q :: L=>by
  show steps c q.n q.d*flI (sps (circF t q)) p.n p.d+sumZ (fun _=>0) (L.map _) p=sumL _ L+steps c q.n q.d*flI (sps (circF t q)) p.n p.d;rw[sumZ_chain l c t p L];omega
theorem product{l:List Vk}{c:List Int}{p q:Ck}(h:PhO l c p 0)(k:ReO l c q 0):p=q:=by
 have hp:=h.ray;have hph:=phase_par h;cases h with
 |bad h0 _=>exact absurd rfl h0
 |ok ke hc hv _ _=>
 cases k with
 |bad h0 _=>exact absurd rfl h0
 |ph _ _ _ he=>exact absurd rfl he
 | @ok x t pk fs _ co tp hf hr=>
  have rays:=hf.rays (fun v hv=>by cases hv);have h1:=trnF_par one_ray (fun v hv=>(rays v hv).ok) (fun v hv=>(rays v hv).nz) hr;rw[show gz oneC=Gz.one from rfl,Gz.one_mul]at h1;have bd:∀z∈zsC l c t,-1<=z.1/\z.1<=1:=fun z hz=>by
   obtain⟨s,_,rfl⟩:=List.mem_map.1 hz;show -1<=steps c s.n s.d/\steps c s.n s.d<=1;rw[steps_flI,flI_nodup (sps_nodup hc.2.2.2)];split<;>split<;>omega
  have h2:=far_par hf rfl bd;rw[show prodG gz []=Gz.one from rfl,Gz.one_mul]at h2;have e:sumZ (fun _=>0) (zsC l c t)=fun s=>flI (sps c) s.n s.d:=by
   funext s
   unfold zsC;rw[sumZ_chain l,<-chain ke tp hc hv]
  rw[e]at h2;have hq:=trnF_ray (l:=l) one_ray (fun v hv=>(rays v hv).ok) (fun v hv=>(rays v hv).nz) hr;exact ray_uniq hp hq (hph.trans (h1.trans h2).symm)
