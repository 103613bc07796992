import Derived.Test.YtmkiclinllifiaaCyPc
import Derived.Test.YtmkiclinllifiaaCyTu
import Derived.Test.YtmkiclinllifiaaCyE
import Derived.Test.YtmkiclinllifiaaCyJ
import Derived.Test.YtmkiclinllifiaaCyLT
set_option linter.unusedSimpArgs false
set_option linter.unusedVariables false
namespace Go.Proofs.Ytmkiclinllifiaa
open Go.Sim
set_option maxRecDepth 100000
inductive CoO(l:List Vk)(c:List Int):List Int->Int->Prop
 |bad {e:Int} (h0:e≠0) (h:CkR l e):CoO l c [] e
 |arg (h:CkR l 0) (h1:¬circle c):CoO l c [] 2
 |no (h:CkR l 0) (h1:circle c) (h2:∃p∈sps c,fv l p.n p.d=none):CoO l c [] 6
 |ok {t:List F2} {pk:Int} (h:CkR l 0) (h1:circle c) (h2:∀p∈sps c,fv l p.n p.d≠none) (hp:Parts (basP l) (stS l) (fun _=>false) [] 0 t pk):CoO l c ((chds t (basP l)).map fun p=>steps c p.n p.d) 0
theorem CoO.uniq{l:List Vk}{c:List Int}{x y:List Int}{e f:Int}(h:CoO l c x e)(k:CoO l c y f):x=y/\e=f:=by
 cases h with
 |bad h0 h=>cases k with
  |bad _ k=>exact⟨rfl,h.uniq k⟩
  |_ k=>exact absurd (h.uniq k) h0
 |arg h h1=>cases k with
  |bad h0 k=>exact absurd (k.uniq h) h0
  |arg _ _=>exact⟨rfl,rfl⟩
  |_ _ k1=>exact absurd k1 h1
 |no h h1 h2=>cases k with
  |bad h0 k=>exact absurd (k.uniq h) h0
  |arg _ k1=>exact absurd h1 k1
  |no _ _ _=>exact⟨rfl,rfl⟩
  |ok _ _ k2 _=>obtain⟨s,s1,s2⟩:=h2;exact absurd s2 (k2 s s1)
 |ok h h1 h2 hp=>cases k with
  |bad h0 k=>exact absurd (k.uniq h) h0
  |arg _ k1=>exact absurd h1 k1
  |no _ _ k2=>obtain⟨s,s1,s2⟩:=k2;exact absurd s2 (h2 s s1)
  |ok _ _ _ kp=>obtain⟨rfl,rfl⟩:=hp.uniq kp;exact⟨rfl,rfl⟩
variable{F:Prims}{call head arith a0 b0 c0 d0 f0 g0 l0 m0 ofNat n0 place o0 nz p0 rd wr q0 next r0 s0 t0 u0 v0 w0 x0 y0 z0 part a1 d1 f1 g1 l1 m1 n1 o1 lt ne t1 u1 d2 yn f2 g2 i2 j2 l2 m2 n2 o2:_}(hA:AP F ⟨call,head,arith,a0,b0,c0,d0,f0,g0,l0,m0,ofNat,n0,place,o0,nz,p0,rd,wr,q0,next,r0,s0,t0,u0,v0,w0,x0,y0,z0,part,a1,d1,f1,g1,l1,m1,n1,o1,lt,ne,t1,u1,d2,yn,f2,g2,i2,j2,l2,m2,n2,o2⟩)
include hA
theorem co_loop1{h0:AHeap}{a:Option Addr}{n c:Nat}{sa:Option Addr}{ns sc:Nat}{N:Int}(hN:N=ns){C:List Int}(hS:Rows iC 1 h0 sa ns C)(hns:ns<=1000)(hnd:(sps C).Nodup){id:Nat}(hid0:h0.next<=id){K0:List (Nat×List Value)}{Q:Exit->SS->Prop}
  (hQ:∀h',h'.m.get id=some (.map (encE pairK boolK (onK (sps C))))->Ext h0 h'->id<h'.next->Q (.exit 0) ⟨[(0,.slice a n c),(9,.map (some id))],1,K0,h'⟩) :
  ∀(m:Nat) (i:Int) (h:AHeap),(ns-i).toNat<=m->0<=i->i<=ns->h.m.get id=some (.map (encE pairK boolK (onK ((sps C).take i.toNat))))->Ext h0 h->id<h.next->
   head 23 9 1 ⟨[(0,.slice a n c),(1,.slice sa ns sc),(9,.map (some id)),(35,.slice sa ns sc),(36,.int .i64 N),(37,.int .i64 i)],1,K0,h⟩ Q:=by
 have hlen:=hS.len;have hsl:=sps_len C;refine upTo (fun m ih=>?_);intro i h hm i0 i1 hg he hb;by_cases ci:i<ns
 rotate_left
 ·refine hA.roundR Try.func23 r23_ok (zc ?_)
  refine br (i<N) (by rw[e_lss hA]) (fun c1=>by omega) (fun c1=>?_)<;>refine zc ?_;rw[List.take_of_length_le (by omega)]at hg;exact hQ h hg he hb
 obtain⟨m,rfl⟩:∃k,m=k+1:=⟨m-1,by omega⟩
 replace ih:=ih m rfl
 obtain⟨M,hM⟩:∃M:Int,M=(i+1) % (ns:Int):=⟨_,rfl⟩;have M0:0<=M:=by rw[hM];exact Int.emod_nonneg _ (by omega)
 have M1:M<ns:=by rw[hM];exact Int.emod_lt_of_pos _ (by omega)
 have e2:arith .add .i64 i 1=i+1:=add64 hA (by omega) (by omega);have e3:arith .rem .i64 (i+1) (ofNat ns)=M:=by rw[e_ofNat hA,rem_tmod hA,hM,Int.tmod_eq_emod_of_nonneg (by omega)]
 obtain⟨bb,o,rfl,_,r1⟩:=(hS.ext he).at (i:=i) i0 (by omega);obtain⟨_,_,hc',_,r2⟩:=(hS.ext he).at (i:=M) M0 (by omega);cases hc';obtain⟨u,hu⟩:∃u,u=gt C i:=⟨_,rfl⟩;obtain⟨w,hw⟩:∃w,w=gt C M:=⟨_,rfl⟩;have p1:rd h bb (place o i 1) 1 [.int .i64 u]:=by rw[hu];exact rd_ok hA (r1 0 1 (by omega) (by omega))
 have p2:rd h bb (place o M 1) 1 [.int .i64 w]:=by rw[hw];exact rd_ok hA (r2 0 1 (by omega) (by omega))
 have hst:stepP C i=⟨u,w⟩:=by unfold stepP nxC;rw[hu,hw,hM,hlen]
 have htk:=gt_take (sps C) i0 (by omega);rw[gt_sps C i0 (by omega),hst]at htk;have hnot:(⟨u,w⟩:F2)∉(sps C).take i.toNat:=fun hm=>by
  have hnd':((sps C).take (i+1).toNat).Nodup:=hnd.sublist (List.take_sublist _ _);rw[htk,List.nodup_append]at hnd';exact hnd'.2.2 _ hm _ (List.mem_singleton.2 rfl) rfl
 refine hA.roundR Try.func23 r23_ok (zc ?_);refine br (i<N) (by rw[e_lss hA]) (fun c1=>?_) (fun c1=>by omega)<;>refine zc ?_;refine zq ?_;refine⟨nz_ok hA (by rw[e_ofNat hA];omega),?_⟩;refine zc ?_;rw[e2,e3];refine zq ?_;obtain⟨M1',p1',p2',p3',p4'⟩:=put_enc mPB hg (F2.t ⟨u,w⟩) true;have p5:=p3' (onK_none hnot);obtain⟨h1,hh1⟩:∃z,z=h.putB id (.map (encE pairK boolK M1')):=⟨_,rfl⟩;rw[<-hh1]at p1';refine⟨h1,(e_mput hA _ _ _ _ _ _).mpr p1',?_⟩;refine zc ?_;rw[e2];refine ih (i+1) h1 (by omega) (by omega) (by omega) ?_ (by rw[hh1];exact he.putB hid0 _) (by rw[hh1];exact hb);rw[hh1,putB_eq,p5,htk];unfold onK;rw[List.map_append];rfl
theorem co_loop2{h0:AHeap}(hlow0:h0.low<=h0.next){sa:Option Addr}{ns sc:Nat}{N:Int}(hN:N=ns){P:List F2}(hS:Rows F2.cells 2 h0 sa ns P)(hns:ns<=1000){C:List Int}{cs:List Value}{id:Nat}(hid0:id<h0.next)(hm0:h0.m.get id=some (.map (encE pairK boolK (onK (sps C))))){Q:Exit->SS->Prop}
  (hQ:∀h' a' c',Apd h' 1 a' ns c' ((P.map (cofP C)).flatMap iC)->Ext h0 h'->Q (.exit 2) ⟨[(12,.slice a' ns c')],1,[(0,cs)],h'⟩) :
  ∀(m:Nat) (i:Int) (k:Nat) (h:AHeap) (a':Option Addr) (c':Nat),(ns-i).toNat<=m->0<=i->i<=ns->(k:Int)=i->Apd h 1 a' k c' (((P.map (cofP C)).take i.toNat).flatMap iC)->From h0.next a'->Ext h0 h->
   head 23 15 1 ⟨[(9,.map (some id)),(12,.slice a' k c'),(57,.slice sa ns sc),(58,.int .i64 N),(59,.int .i64 i)],1,[(0,cs)],h⟩ Q:=by
 have hlen:=hS.len;refine upTo (fun m ih=>?_);intro i k h a' c' hm i0 i1 hk hap hf he;by_cases ci:i<ns
 rotate_left
 ·obtain rfl:k=ns:=by omega
  refine hA.roundR Try.func23 r23_ok (zc ?_);refine br (i<N) (by rw[e_lss hA]) (fun c1=>by omega) (fun c1=>?_)<;>refine zc ?_;rw[List.take_of_length_le (by rw[List.length_map];omega)]at hap;exact hQ h a' c' hap he
 obtain⟨m,rfl⟩:∃k,m=k+1:=⟨m-1,by omega⟩
 replace ih:=ih m rfl
 obtain⟨bb,o,x,y,rfl,hbb,hgt,r1,_⟩:=fr_at (hS.ext he) (i:=i) i0 ci;have q1:=rd_ok hA r1;have e2:arith .add .i64 i 1=i+1:=add64 hA (by omega) (by omega);have qm:h.m.get id=some (.map (encE pairK boolK (onK (sps C)))):=by rw[he.get id hid0];exact hm0
 obtain⟨v1,hv1⟩:∃z,z=decide ((⟨x,y⟩:F2)∈sps C):=⟨_,rfl⟩;obtain⟨v2,hv2⟩:∃z,z=decide ((⟨y,x⟩:F2)∈sps C):=⟨_,rfl⟩;refine hA.roundR Try.func23 r23_ok (zc ?_);refine br (i<N) (by rw[e_lss hA]) (fun c1=>?_) (fun c1=>by omega)<;>refine zc ?_;refine zq ?_;refine⟨v1,(getL (onK (sps C)) (x,y)).isSome,(e_mget hA _ _ _ _ _ _).mpr (by rw[hv1,<-onK_get];exact look_enc mPB qm (x,y)),?_⟩;refine zq ?_;have mk:∀z,z=cofP C ⟨x,y⟩->∀a2 c2' h4,Apd h4 1 a2 (k+1) c2' ((((P.map (cofP C)).take i.toNat)++[z]).flatMap iC)->Apd h4 1 a2 (k+1) c2' (((P.map (cofP C)).take (i+1).toNat).flatMap iC):=fun z hz a2 c2' h4 hp2=>by
  rw[gt_take (P.map (cofP C)) i0 (by rw[List.length_map];omega),gt_map (cofP C) P i0 (by omega),hgt,<-hz];exact hp2
 have b1:v1=true↔(⟨x,y⟩:F2)∈sps C:=by rw[hv1];exact decide_eq_true_iff
 have b2:v2=true↔(⟨y,x⟩:F2)∈sps C:=by rw[hv2];exact decide_eq_true_iff
 refine br (v1=true) (by simp) (fun c2=>?_) (fun c2=>?_)<;>refine zc ?_
 ·refine appR_ok hA TI1 iC_len (by omega) iC_ok (v:=1) hap (by omega) (fun a2 c2' h4 hp2 hx=>?_)
  obtain⟨x4,hf4⟩:=hx h0 he hf;refine zc ?_;rw[e2];exact ih (i+1) (k+1) h4 a2 c2' (by omega) (by omega) (by omega) (by omega) (mk 1 (by unfold cofP;rw[if_pos (b1.1 c2)]) _ _ _ hp2) hf4 x4
 refine zc ?_;refine⟨v2,(getL (onK (sps C)) (y,x)).isSome,(e_mget hA _ _ _ _ _ _).mpr (by rw[hv2,<-onK_get];exact look_enc mPB qm (y,x)),?_⟩;refine zc ?_;refine br (v2=true) (by simp) (fun c3=>?_) (fun c3=>?_)<;>refine zc ?_
 ·refine appR_ok hA TI1 iC_len (by omega) iC_ok (v:=-1) hap (by omega) (fun a2 c2' h4 hp2 hx=>?_)
  obtain⟨x4,hf4⟩:=hx h0 he hf;refine zc ?_;rw[e2];exact ih (i+1) (k+1) h4 a2 c2' (by omega) (by omega) (by omega) (by omega) (mk (-1) (by unfold cofP;rw[if_neg (fun q=>c2 (b1.2 q)),if_pos (b2.1 c3)]) _ _ _ hp2) hf4 x4
 ·refine appR_ok hA TI1 iC_len (by omega) iC_ok (v:=0) hap (by omega) (fun a2 c2' h4 hp2 hx=>?_)
  obtain⟨x4,hf4⟩:=hx h0 he hf;refine zc ?_;rw[e2];exact ih (i+1) (k+1) h4 a2 c2' (by omega) (by omega) (by omega) (by omega) (mk 0 (by unfold cofP;rw[if_neg (fun q=>c2 (b1.2 q)),if_neg (fun q=>c3 (b2.2 q))]) _ _ _ hp2) hf4 x4
omit hA in
theorem chds_len(t:List F2)(l:List Vk):(chds t (basP l)).length<=28:=by
 have h6:=List.length_filter_le (fun p=>decide (p∉t)) (basP l);have:=basP_len l;unfold chds;omega
theorem Coefs_ok(hW:LW F){h:AHeap}(hlow:h.low<=h.next){a:Option Addr}{n c:Nat}{l:List Vk}(hl:Vs h a n l)(hn:n<=1000){sa:Option Addr}{ns sc:Nat}{C:List Int}(hS:Rows iC 1 h sa ns C)(hns:ns<=1000){Q:Value->AHeap->Prop}
  (hQ:∀h' a' k c' x e,CoO l C x e->Rows iC 1 h' a' k x->k<=28->Ext h h'->Q (.tuple #[.slice a' k c',.int .i64 e]) h') :
  call 23 [.slice a n c,.slice sa ns sc] h Q:=by
 have hlen:=hS.len;refine hA.bodyR Try.func23 r23_ok (hA.alike _ _ _ rfl) hlow (zc ?_);refine clcheck_ok hA hlow hl hn (fun e h1 ke x1=>⟨_,rfl,?_⟩);refine zc ?_;refine br (e≠0) (by rw[e_neq hA]) (fun c1=>?_) (fun c1=>?_)<;>refine zc ?_
 ·exact hQ h1 none 0 0 [] e (.bad c1 ke) (Rows.nil h1 iC_len (by omega)) (by omega) x1
 have e0:e=0:=by omega
 subst e0;obtain⟨k1,k2,k3⟩:=ke.ok0;refine Phase_ok hA (x1.lowOK hlow) (hl.ext x1) hn (hS.ext x1) hns (fun h2 p e po x2=>⟨_,_,_,_,rfl,?_⟩);have x12:=x1.trans x2;refine zc ?_;refine br (e=2) (by rw[e_eql hA]) (fun c2=>?_) (fun c2=>?_)<;>refine zc ?_
 ·subst c2
  cases po with
  |bad _ k=>exact absurd (k.uniq ke) (by omega)
  |arg _ q=>exact hQ h2 none 0 0 [] 2 (.arg ke q) (Rows.nil h2 iC_len (by omega)) (by omega) x12
 refine br (e=6) (by rw[e_eql hA]) (fun c3=>?_) (fun c3=>?_)<;>refine zc ?_
 ·subst c3
  cases po with
  |bad _ k=>exact absurd (k.uniq ke) (by omega)
  |no _ q q2=>exact hQ h2 none 0 0 [] 6 (.no ke q q2) (Rows.nil h2 iC_len (by omega)) (by omega) x12
 have hc:circle C/\∀p∈sps C,fv l p.n p.d≠none:=by
  cases po with
  |bad h0 k=>exact absurd (k.uniq ke) h0
  |arg _ _=>exact absurd rfl c2
  |no _ _ _=>exact absurd rfl c3
  |zero _ q1 q2 _=>exact⟨q1,q2⟩
  |range _ q1 q2 _ _=>exact⟨q1,q2⟩
  |ok _ q1 q2 _ _=>exact⟨q1,q2⟩
 simp only[e_next hA,e_ofNat hA,e_mnew hA];refine co_loop1 hA (h0:=h2) rfl (hS.ext x12) hns (sps_nodup hc.1.2.2.2) (Nat.le_refl _) (fun h3 q1 x3 q3=>?_) ns 0 _ (by omega) (by omega) (by omega) (pushB_eq _ _) (.pushB _ _) (by show h2.next<h2.next+1;omega);refine zc ?_;have x13:=x12.trans x3;refine joins_ok hA hW (x13.lowOK hlow) (hl.ext x13) (okV.st k2) hn (basP_is k2) k3 (fun t h4 id pk y1 y2 y3 y4 y5 y6=>?_);refine⟨_,rfl,?_⟩;refine zc ?_;have x14:=x13.trans y3;refine chords_ok hA (x14.lowOK hlow) (hl.ext x14) (okV.st k2) hn (basP_is k2) k3 y5 y2 (fun h5 a5 n5 c5 z1 z2 z3 z4 z5=>?_);refine⟨_,_,_,rfl,?_⟩;refine zc ?_;have x15:=x14.trans z5;have cl:=chds_len t l;have z3':(chds t (basP l)).length=n5:=z3;have hR:Rows F2.cells 2 h5 a5 n5 (chds t (basP l)):=⟨z1.cells,f2_len,by omega⟩;refine co_loop2 hA (x15.lowOK hlow) (e_ofNat hA n5) hR (by omega) (C:=C) (id:=h2.next) (by have:=y3.next;have:=z5.next;omega) ?_ (fun h6 a6 c6 w1 x6=>?_) n5 0 0 h5 none 0 (by omega) (by omega) (by omega) rfl (by simp;exact Apd.nil _ _) (From.none _) (.refl h5)
 ·rw[z5.get h2.next (by have:=y3.next;omega),y3.get h2.next q3]
  exact q1
 refine zc ?_;have em:(chds t (basP l)).map (cofP C)=(chds t (basP l)).map fun p=>steps C p.n p.d:=List.map_congr_left (fun p _=>cofP_is hc.1 p)
 rw[em]at w1;exact hQ h6 a6 n5 c6 _ 0 (.ok ke hc.1 hc.2 y1) ⟨w1.cells,iC_len,by omega⟩ (by omega) (x15.trans x6)
end Go.Proofs.Ytmkiclinllifiaa
namespace Go.Proofs.Ytmkiclinllifiaa
open Go.Sim
set_option maxRecDepth 100000
theorem reach_len{P:List F2}(hP:∀p∈P,okP p.n p.d){R:Int->Bool}{t:List F2}{R':Int->Bool}{t':List F2}(h:Reach P R t R' t'):t'.length+unr R'=t.length+unr R:=by
 induction h with
 |stop h=>rfl
 |step h r ih=>
  have e:=unr_add (hP _ (List.mem_of_find?_eq_some h)) (List.find?_some h);rw[List.length_append]at ih;simp only[List.length_cons,List.length_nil]at ih;omega
theorem parts_len{P:List F2}(hP:∀p∈P,okP p.n p.d){S:Int->Prop}(hS:∀s,S s->0<=s/\s<8){R:Int->Bool}{t:List F2}{k:Int}{t':List F2}{k':Int}(h:Parts P S R t k t' k'):t'.length<=t.length+unr R:=by
 induction h with
 |stop h=>omega
 |part h1 h2 h3 r q ih=>
  have e:=unr_set (hS _ h1).1 (hS _ h1).2 h2;have:=reach_len hP r;omega
end Go.Proofs.Ytmkiclinllifiaa
namespace Go.Proofs.Ytmkiclinllifiaa
open Go.Sim
set_option maxRecDepth 100000
def sum8(f:Int->Int):Int:=f 0+f 1+f 2+f 3+f 4+f 5+f 6+f 7
theorem sum8_add(f g:Int->Int):sum8 (fun y=>f y+g y)=sum8 f+sum8 g:=by unfold sum8;dsimp only;omega
theorem sum8_sub(f g:Int->Int):sum8 (fun y=>f y-g y)=sum8 f-sum8 g:=by unfold sum8;dsimp only;omega
theorem sum8_mul(c:Int)(f:Int->Int):sum8 (fun y=>c*f y)=c*sum8 f:=by unfold sum8;simp only[Int.mul_add]
theorem sum8_ind{d:Int}(h0:0<=d)(h1:d<8)(a:Int):sum8 (fun y=>if d=y then a else 0)=a:=by
 unfold sum8;rcases(by omega:d=0\/d=1\/d=2\/d=3\/d=4\/d=5\/d=6\/d=7)with rfl|rfl|rfl|rfl|rfl|rfl|rfl|rfl<;>simp
theorem sum8_only{f:Int->Int}{o:Int}(h0:0<=o)(h1:o<8)(h:∀y,y≠o->f y=0):sum8 f=f o:=by
 have e:f=fun y=>if o=y then f o else 0:=by
  funext y
  by_cases c:o=y
  ·rw[if_pos c,c]
  ·rw[if_neg c];exact h y (fun q=>c q.symm)
 rw[e,sum8_ind h0 h1];simp
theorem flI_anti:∀(L:List F2) (i j:Int),flI L j i=- flI L i j
 | [],i,j=>rfl
 |p :: L,i,j=>by
  unfold flI;rw[flI_anti L i j];omega
def outI:List F2->Int->Int
 | [],_=>0
 |p :: L,x=>outI L x+((if p.n=x then 1 else 0)-(if p.d=x then 1 else 0))
theorem flI_out:∀{L:List F2},(∀p∈L,0<=p.n/\p.n<8/\0<=p.d/\p.d<8)->∀x,sum8 (flI L x)=outI L x
 | [],_,x=>rfl
 |p :: L,h,x=>by
  obtain⟨h1,h2,h3,h4⟩:=h p (List.mem_cons_self ..);have ih:=flI_out (L:=L) (fun q hq=>h q (List.mem_cons_of_mem _ hq)) x;have e:flI (p :: L) x=fun y=>flI L x y+((if p.d=y then(if p.n=x then 1 else 0)else 0)-(if p.n=y then(if p.d=x then 1 else 0)else 0)):=by
   funext y
   show flI L x y+_=_;have s1:(if p.n=x/\p.d=y then(1:Int)else 0)=if p.d=y then(if p.n=x then 1 else 0)else 0:=by
    by_cases c1:p.n=x<;>by_cases c2:p.d=y<;>simp[c1,c2]
   have s2:(if p.n=y/\p.d=x then(1:Int)else 0)=if p.n=y then(if p.d=x then 1 else 0)else 0:=by
    by_cases c1:p.n=y<;>by_cases c2:p.d=x<;>simp[c1,c2]
   rw[s1,s2]
  rw[e,sum8_add,sum8_sub,sum8_ind h3 h4,sum8_ind h1 h2,ih];rfl
def cntI:List Int->Int->Int
 | [],_=>0
 |a :: L,x=>cntI L x+(if a=x then 1 else 0)
theorem cntI_append:∀(L M:List Int) (x:Int),cntI (L++M) x=cntI L x+cntI M x
 | [],M,x=>by show cntI M x=0+cntI M x;omega
 |p :: L,M,x=>by
  show cntI (L++M) x+_=cntI L x+_+cntI M x;rw[cntI_append L M x];omega
theorem outI_cnt:∀(L:List F2) (x:Int),outI L x=cntI (L.map F2.n) x-cntI (L.map F2.d) x
 | [],x=>rfl
 |p :: L,x=>by
  show outI L x+_=cntI (L.map F2.n) x+_-(cntI (L.map F2.d) x+_);rw[outI_cnt L x];omega
theorem sps_snd(c:List Int):(sps c).map F2.d=c.drop 1++c.take 1:=by
 apply gt_extR
 ·rw[List.length_map,sps_len,List.length_append,List.length_drop,List.length_take]
  omega
 ·intro k k0 k1
  rw[List.length_map,sps_len]at k1;rw[gt_map F2.d (sps c) k0 (by rw[sps_len];exact k1),gt_sps c k0 k1];show nxC c k=_;unfold nxC;rcases nx_cases k0 k1 with ⟨e1,e2⟩|⟨e1,e2⟩
  ·rw[e1]
   unfold gt;rw[List.getD_eq_getElem?_getD,List.getD_eq_getElem?_getD,List.getElem?_append_left (by rw[List.length_drop];omega),List.getElem?_drop,show 1+k.toNat=(k+1).toNat by omega]
  ·rw[e1]
   unfold gt;rw[List.getD_eq_getElem?_getD,List.getD_eq_getElem?_getD,List.getElem?_append_right (by rw[List.length_drop];omega),List.length_drop,List.getElem?_take,show k.toNat-(c.length-1)=0 by omega];rfl
theorem sps_out(c:List Int)(x:Int):outI (sps c) x=0:=by
 rw[outI_cnt,sps_fst,sps_snd,cntI_append];have:=cntI_append (c.take 1) (c.drop 1) x;rw[List.take_append_drop]at this;omega
theorem sps_in{c:List Int}(h:∀s∈c,0<=s/\s<8):∀p∈sps c,0<=p.n/\p.n<8/\0<=p.d/\p.d<8:=by
 intro p hp;obtain⟨k,k0,k1,rfl⟩:=mem_sps hp;have:=nx_cases k0 k1;have h1:=h _ (gt_mem c k0 k1);have h2:=h _ (gt_mem c (i:=(k+1) % c.length) (by omega) (by omega));exact⟨h1.1,h1.2,h2.1,h2.2⟩
theorem flow_zero:∀{T:List (Int×Int)},grows T=true->(∀v,hasV T v=true->0<=v/\v<8)->∀{D:Int->Int->Int},(∀x y,D y x=- D x y)->(∀x y,¬Adj T x y->D x y=0)->(∀x,0<=x->x<8->sum8 (D x)=0)->∀x y,D x y=0
 | [],_,_,D,h1,h2,h3,x,y=>h2 x y (fun q=>by rcases q with q|q<;>cases q)
 |(a,b) :: r,hg,hv,D,h1,h2,h3,x,y=>by
  obtain⟨l,o,L⟩:=leaf_of hg;have lv:hasV ((a,b) :: r) l=true/\hasV ((a,b) :: r) o=true:=by
   rw[hasV_cons,hasV_cons];rcases L.is with ⟨rfl,rfl⟩|⟨rfl,rfl⟩
   ·exact⟨.inl rfl,.inr (.inl rfl)⟩
   ·exact⟨.inr (.inl rfl),.inl rfl⟩
  have adj:∀x y,Adj ((a,b) :: r) x y->(x=l/\y=o)\/(x=o/\y=l)\/Adj r x y:=fun x y q=>by
   rcases q with q|q<;>rcases List.mem_cons.1 q with e|e
   ·cases e
    rcases L.is with ⟨rfl,rfl⟩|⟨rfl,rfl⟩
    ·exact .inl ⟨rfl,rfl⟩
    ·exact .inr (.inl ⟨rfl,rfl⟩)
   ·exact .inr (.inr (.inl e))
   ·cases e
    rcases L.is with ⟨rfl,rfl⟩|⟨rfl,rfl⟩
    ·exact .inr (.inl ⟨rfl,rfl⟩)
    ·exact .inl ⟨rfl,rfl⟩
   ·exact .inr (.inr (.inr e))
  have nol:∀y,¬Adj r l y:=fun y q=>by have:=q.v1;rw[L.new]at this;cases this
  have lo:D l o=0:=by
   have hl:=hv l lv.1;have ho:=hv o lv.2;rw[<-sum8_only (f:=D l) ho.1 ho.2 (fun y hy=>?_)]
   ·exact h3 l hl.1 hl.2
   ·refine h2 l y (fun q=>?_)
    rcases adj l y q with ⟨_,e⟩|⟨e,_⟩|e
    ·exact hy e
    ·exact L.ne e
    ·exact nol y e
  refine flow_zero (grows_tail hg) (fun v hv'=>hv v (by rw[hasV_cons];exact .inr (.inr hv'))) h1 (fun x y q=>?_) h3 x y;by_cases c:Adj ((a,b) :: r) x y
  ·rcases adj x y c with ⟨rfl,rfl⟩|⟨rfl,rfl⟩|e
   ·exact lo
   ·rw[h1,lo];rfl
   ·exact absurd e q
  ·exact h2 x y c
def walkP:List Int->List F2
 | []=>[]
 | [_]=>[]
 |x :: y :: r=>⟨x,y⟩ :: walkP (y :: r)
theorem walkP_cons(x y:Int)(r:List Int):walkP (x :: y :: r)=⟨x,y⟩ :: walkP (y :: r):=rfl
theorem walkP_adj{T:List (Int×Int)}(hg:grows T=true):∀(p:List Int) (x y:Int),pathR T x y=some p->∀q∈walkP p,Adj T q.n q.d
 | [],x,y,_,q,hq=>by cases hq
 | [_],x,y,_,q,hq=>by cases hq
 |a :: b :: r,x,y,h,q,hq=>by
  obtain⟨⟨w,e⟩,_⟩:=path_ends hg h;cases e;obtain⟨h1,h2⟩:=path_rest hg h;rcases List.mem_cons.1 hq with rfl|hq
  ·exact h2
  ·exact walkP_adj hg (b :: r) b y h1 q hq
theorem walkP_len:∀(x:Int) (u:List Int),(walkP (x :: u)).length=u.length
 |x,[]=>rfl
 |x,y :: u=>by rw[walkP_cons,List.length_cons,walkP_len y u,List.length_cons]
theorem gt_walkP:∀(u:List Int) (k:Int),0<=k->k+1<u.length->gt (walkP u) k=⟨gt u k,gt u (k+1)⟩
 | [],k,h0,h1=>by simp at h1;omega
 | [x],k,h0,h1=>by simp at h1;omega
 |x :: y :: u,k,h0,h1=>by
  rw[walkP_cons];by_cases c:k=0
  ·subst c;rfl
  ·have ih:=gt_walkP (y :: u) (k-1) (by omega) (by simp only[List.length_cons]at h1 ⊢;omega)
   have sh:∀{α:Type} [Inhabited α] (a:α) (l:List α) (j:Int),0<j->gt (a :: l) j=gt l (j-1):=fun a l j hj=>by
    unfold gt;rw[show j.toNat=(j-1).toNat+1 by omega];rfl
   rw[sh _ _ k (by omega),sh _ _ k (by omega),sh _ _ (k+1) (by omega),ih,show k+1-1=k-1+1 by omega]
theorem sps_walk(x:Int)(c:List Int):sps (x :: c)=walkP (x :: c++[x]):=by
 apply gt_extR
 ·rw[sps_len]
  show _=(walkP (x :: (c++[x]))).length;rw[walkP_len];simp
 ·intro k k0 k1
  rw[sps_len]at k1;rw[gt_sps _ k0 k1,gt_walkP _ k k0 (by simp only[List.length_append,List.length_cons,List.length_nil]at k1 ⊢;omega)];unfold stepP nxC;have ap:∀j:Int,0<=j->j<(x :: c).length->gt (x :: c++[x]) j=gt (x :: c) j:=fun j j0 j1=>by
   unfold gt;rw[List.getD_eq_getElem?_getD,List.getD_eq_getElem?_getD,List.getElem?_append_left (by omega)]
  rw[ap k k0 k1];rcases nx_cases k0 k1 with ⟨e1,e2⟩|⟨e1,e2⟩
  ·rw[e1,ap (k+1) (by omega) e2]
  ·rw[e1,e2]
   congr 1
   unfold gt;rw[List.getD_eq_getElem?_getD,List.getD_eq_getElem?_getD,List.getElem?_append_right (by omega)];simp
