import Derived.Test.YtlimjlpjldijdaaCyPd
import Derived.Test.YtlimjlpjldijdaaCxM
set_option linter.unusedSimpArgs false
set_option linter.unusedVariables false
namespace Go.Proofs.Ytlimjlpjldijdaa
open Go.Sim
set_option maxRecDepth 100000
theorem mul_par{a b d a' b' d' r s t:Int}{z w:Cq}(h:isC a b d z)(k:isC a' b' d' w)(o:isC r s t (Cq.mul z w)):Par ⟨r,s⟩ (Gz.mul ⟨a,b⟩ ⟨a',b'⟩):=by
 have h1:=h.d1;have k1:=k.d1;have o1:=o.d1;have hr:=h.re;have hi:=h.im;have kr:=k.re;have ki:=k.im;have or':=o.re;have oi:=o.im;unfold Cq.mul at or' oi;simp only at or' oi;refine⟨d*d',t,Int.mul_pos (by omega) (by omega),by omega,?_,?_⟩
 ·show d*d'*r=t*(a*a'-b*b')
  apply Rat.intCast_inj.1;simp only[Rat.intCast_mul,Rat.intCast_sub];rw[or',hr,hi,kr,ki];grind
 ·show d*d'*s=t*(a*b'+b*a')
  apply Rat.intCast_inj.1;simp only[Rat.intCast_mul,Rat.intCast_add];rw[oi,hr,hi,kr,ki];grind
structure ActV(G:Int->Gz)(v w:Vk):Prop where
 i:w.i=v.i
 j:w.j=v.j
 n:w.n=v.n
 ok:okC w.re w.im w.den
 par:Par ⟨w.re,w.im⟩ (((G v.i).mul ⟨v.re,v.im⟩).mul (G v.j).conj)
structure ActL(G:Int->Gz)(l m:List Vk):Prop where
 len:m.length=l.length
 at':∀k:Int,0<=k->k<l.length->ActV G (gt l k) (gt m k)
theorem ActL.pr{G:Int->Gz}{l m:List Vk}(h:ActL G l m):m.map Vk.pr=l.map Vk.pr:=by
 apply gt_extR
 ·rw[List.length_map,List.length_map];exact h.len
 ·intro k k0 k1
  rw[List.length_map]at k1;have hl:=h.len;rw[gt_map Vk.pr m k0 k1,gt_map Vk.pr l k0 (by omega)];have:=h.at' k k0 (by omega);unfold Vk.pr;rw[this.i,this.j]
theorem ActL.ck{G:Int->Gz}{l m:List Vk}(h:ActL G l m)(ke:CkR l 0):CkR m 0:=by
 obtain⟨k1,k2,k3⟩:=ke.ok0;refine .ok (by rw[h.len];exact k1) (fun w hw=>?_) (by rw[h.pr];exact k3);obtain⟨k,k0,kl,rfl⟩:=mem_gt hw;have hl:=h.len;have a:=h.at' k k0 (by omega);have b:=k2 _ (gt_mem l k0 (by omega));exact⟨by rw[a.i];exact b.1,by rw[a.i,a.j];exact b.2.1,by rw[a.j];exact b.2.2.1,by rw[a.n];exact b.2.2.2.1,a.ok⟩
def mulO(x y r:Ck)(e:Int):Prop:=OpC Cq.mul x.a x.b x.d y.a y.b y.d r.a r.b r.d e
def conjK(k:Ck):Ck:=⟨k.a,-k.b,k.d⟩
def Vk.ck(v:Vk):Ck:=⟨v.re,v.im,v.den⟩
def GoodG(G:List Ck):Prop:=∀k∈G,k.ok/\¬k.nil
def okG(G:List Ck):Prop:=0<G.length/\G.length<=8/\GoodG G
def inG(n:Nat)(v:Vk):Prop:=0<=v.i/\v.i<v.j/\v.j<n/\0<=v.n/\v.ck.ok
structure ActY(G:List Ck)(v w:Vk):Prop where
 i:w.i=v.i
 j:w.j=v.j
 n:w.n=v.n
 ex:∃p,mulO (gt G v.i) v.ck p 0/\mulO p (conjK (gt G v.j)) w.ck 0
inductive ActX(G:List Ck)(l:List Vk):List Vk->Int->Prop
 |gains {e:Int} (h:e≠0) (k:¬okG G):ActX G l [] e
 |many {e:Int} (h:e≠0) (k:64<l.length):ActX G l [] e
 |bad {e:Int} (h:e≠0) {v:Vk} (hv:v∈l) (k:¬inG G.length v):ActX G l [] e
 |fst {e:Int} (h:e≠0) {v:Vk} {r:Ck} (hv:v∈l) (k:mulO (gt G v.i) v.ck r e):ActX G l [] e
 |snd {e:Int} (h:e≠0) {v:Vk} {p r:Ck} (hv:v∈l) (k0:mulO (gt G v.i) v.ck p 0) (k:mulO p (conjK (gt G v.j)) r e):ActX G l [] e
 |ok {m:List Vk} (h:okG G) (len:m.length=l.length) (k:∀v∈l,inG G.length v) (at':∀k:Int,0<=k->k<l.length->ActY G (gt l k) (gt m k)):ActX G l m 0
def gG(G:List Ck)(x:Int):Gz:=if 0<=x/\x<G.length then gz (gt G x)else Gz.one
theorem gG_nz{G:List Ck}(h:GoodG G)(x:Int):(gG G x).nz:=by
 unfold gG;split
 case isTrue c=>exact fun q=>(h _ (gt_mem G c.1 c.2)).2 q
 case isFalse=>rintro⟨q,_⟩;cases q
theorem mulO.is{x y r:Ck}(h:mulO x y r 0):r.ok/\Par (gz r) ((gz x).mul (gz y)):=by
 rcases h with ⟨_,_,_,_,e⟩|⟨z,w,hz,hw,o⟩
 ·cases e
 ·have k:=o.zero rfl
  exact⟨⟨_,k⟩,mul_par hz hw k⟩
theorem ActX.act{G:List Ck}{l m:List Vk}(h:ActX G l m 0):ActL (gG G) l m/\GoodG G:=by
 cases h with
 |gains h=>exact absurd rfl h
 |many h=>exact absurd rfl h
 |bad h=>exact absurd rfl h
 |fst h=>exact absurd rfl h
 |snd h=>exact absurd rfl h
 |ok h len k at'=>
 refine⟨⟨len,fun x x0 x1=>?_⟩,h.2.2⟩;obtain⟨i,j,n,p,p1,p2⟩:=at' x x0 x1;obtain⟨v1,v2,v3,_⟩:=k _ (gt_mem l x0 x1);have q1:=p1.is;have q2:=p2.is;refine⟨i,j,n,q2.1,?_⟩;unfold gG;rw[if_pos ⟨v1,by omega⟩,if_pos ⟨by omega,v3⟩];exact q2.2.trans (q1.2.mul (.refl _))
theorem bas_pr{l m:List Vk}(h:m.map Vk.pr=l.map Vk.pr):basP m=basP l:=by unfold basP;rw[h]
theorem st_pr{l m:List Vk}(h:m.map Vk.pr=l.map Vk.pr):stS m=stS l:=by
 funext s
 have key:∀l:List Vk,stS l s↔∃p∈l.map Vk.pr,s=p.n\/s=p.d:=fun l=>by
  constructor
  ·rintro⟨v,hv,e⟩;exact⟨_,List.mem_map_of_mem hv,e⟩
  ·rintro⟨p,hp,e⟩;obtain⟨v,hv,rfl⟩:=List.mem_map.1 hp;exact⟨v,hv,e⟩
 exact propext (by rw[key,key,h])
theorem tree_pr{l m:List Vk}(h:m.map Vk.pr=l.map Vk.pr){t:List F2}{pk:Int}(hp:TreeP l t pk):TreeP m t pk:=by
 unfold TreeP;rw[bas_pr h,st_pr h];exact hp
theorem fv_pr{l m:List Vk}(h:m.map Vk.pr=l.map Vk.pr)(kl:∀v∈l,okV v)(km:∀v∈m,okV v){x y:Int}:fv m x y≠none↔fv l x y≠none:=by rw[fv_bas kl,fv_bas km,bas_pr h]
theorem co_pr{l m:List Vk}(h:m.map Vk.pr=l.map Vk.pr)(kl:CkR l 0)(km:CkR m 0){c x:List Int}{e:Int}(co:CoO l c x e):CoO m c x e:=by
 cases co with
 |bad h0 k=>exact absurd (k.uniq kl) h0
 |arg _ q=>exact .arg km q
 |no _ q q2=>
  obtain⟨s,s1,s2⟩:=q2;refine .no km q ⟨s,s1,?_⟩;have:=(fv_pr h kl.ok0.2.1 km.ok0.2.1 (x:=s.n) (y:=s.d));cases hf:fv m s.n s.d with
  |none=>rfl
  |some k=>exact absurd s2 (this.1 (by rw[hf];simp))
 |ok _ q q2 tp=>
  have:=CoO.ok km q (fun s hs=>(fv_pr h kl.ok0.2.1 km.ok0.2.1).2 (q2 s hs)) (tree_pr h tp);rw[bas_pr h]at this;exact this
theorem ActL.step{G:Int->Gz}{l m:List Vk}(h:ActL G l m)(kl:CkR l 0)(km:CkR m 0){s:F2}(hs:fv l s.n s.d≠none):Par (gz (vis1 m s)) (((G s.n).mul (gz (vis1 l s))).mul (G s.d).conj):=by
 obtain⟨_,kl2,kl3⟩:=kl.ok0;obtain⟨_,km2,km3⟩:=km.ok0;have hl:=h.len;obtain⟨x,y⟩:=s;simp only at hs ⊢;have hb:=(fv_bas kl2).1 hs;obtain⟨v,hv,e⟩:=((basP_is kl2).mem _).1 hb;obtain⟨k,k0,k1,rfl⟩:=mem_gt hv;have a:=h.at' k k0 k1;have hw:=gt_mem m k0 (by omega);unfold Vk.pr at e;rw[F2.mk.injEq]at e;have hlt:=(kl2 _ hv).2.1;have conv:∀{z:Gz},Par z (((G (gt l k).i).mul ⟨(gt l k).re,(gt l k).im⟩).mul (G (gt l k).j).conj)->Par z.conj (((G (gt l k).j).mul (Gz.conj ⟨(gt l k).re,(gt l k).im⟩)).mul (G (gt l k).i).conj):=fun {z} q=>by
  have:=q.conj;rw[Gz.conj_mul,Gz.conj_mul,Gz.conj_conj,Gz.mul_comm,Gz.mul_comm (G (gt l k).i).conj,<-Gz.mul_assoc]at this;exact this
 rcases(by omega:((gt l k).i=x/\(gt l k).j=y)\/((gt l k).i=y/\(gt l k).j=x))with ⟨e1,e2⟩|⟨e1,e2⟩
 ·have h1:=fv_to kl2 kl3 hv (x:=x) (y:=y) ⟨e1,e2⟩
  have h2:=fv_to km2 km3 hw (x:=x) (y:=y) ⟨by rw[a.i];exact e1,by rw[a.j];exact e2⟩;unfold vis1;rw[h1,h2];have:=a.par;rw[e1,e2]at this;exact this
 ·have h1:=fv_back kl2 kl3 hv (x:=x) (y:=y) ⟨e1,e2⟩
  have h2:=fv_back km2 km3 hw (x:=x) (y:=y) ⟨by rw[a.i];exact e1,by rw[a.j];exact e2⟩;unfold vis1;rw[h1,h2];have:=conv a.par;rw[e1,e2]at this;exact this
theorem prodG_perm{α:Type}(g:α->Gz):∀L M:List α,prodG g (L++M)=prodG g (M++L):=fun L M=>by
 rw[prodG_append,prodG_append,Gz.mul_comm]
theorem prodG_map{α β:Type}(f:β->α)(g:α->Gz):∀L:List β,prodG g (L.map f)=prodG (fun x=>g (f x)) L
 | []=>rfl
 |x :: L=>by show(g (f x)).mul _=(g (f x)).mul _;rw[prodG_map f g L]
theorem prodG_mul{α:Type}(f g:α->Gz):∀L:List α,prodG (fun x=>(f x).mul (g x)) L=(prodG f L).mul (prodG g L)
 | []=>by show Gz.one=Gz.one.mul Gz.one;rw[Gz.one_mul]
 |x :: L=>by
  show((f x).mul (g x)).mul (prodG _ L)=((f x).mul (prodG f L)).mul ((g x).mul (prodG g L));rw[prodG_mul f g L,mul_swap]
theorem prodG_conj{α:Type}(f:α->Gz):∀L:List α,prodG (fun x=>(f x).conj) L=(prodG f L).conj
 | []=>rfl
 |x :: L=>by
  show(f x).conj.mul (prodG _ L)=((f x).mul (prodG f L)).conj;rw[prodG_conj f L,Gz.conj_mul]
theorem prodG_par{α:Type}{f g:α->Gz}:∀{L:List α},(∀x∈L,Par (f x) (g x))->Par (prodG f L) (prodG g L)
 | [],_=>.refl _
 |x :: L,h=>(h x (List.mem_cons_self ..)).mul (prodG_par (fun y hy=>h y (List.mem_cons_of_mem _ hy)))
theorem prodG_nz{α:Type}{f:α->Gz}:∀{L:List α},(∀x∈L,(f x).nz)->(prodG f L).nz
 | [],_=>by rintro⟨q,_⟩;cases q
 |x :: L,h=>by
  have h1:=h x (List.mem_cons_self ..);have h2:=prodG_nz (fun y hy=>h y (List.mem_cons_of_mem _ hy));exact fun q=>mul_nz (p:=⟨(f x).re,(f x).im,1⟩) (r:=⟨(prodG f L).re,(prodG f L).im,1⟩) h1 h2 q
theorem circ_gain{G:Int->Gz}{c:List Int}(hG:∀x∈c,(G x).nz):Par (prodG (fun s:F2=>(G s.n).mul (G s.d).conj) (sps c)) Gz.one:=by
 rw[prodG_mul,prodG_conj (fun s:F2=>G s.d),<-prodG_map F2.n G,<-prodG_map F2.d G,sps_fst,sps_snd,prodG_perm,List.take_append_drop];exact Par.inv (prodG_nz hG)
theorem phase_prod{l:List Vk}{c:List Int}{p:Ck}(h:PhO l c p 0):Par (gz p) (prodG (fun s=>gz (vis1 l s)) (sps c)):=by
 cases h with
 |bad h0 _=>exact absurd rfl h0
 |ok h h1 h2 h3 h4=>
  have h5:=trnF_par one_ray (vsF_ok h.ok0.2.1 h2) h3 h4;rw[show gz oneC=Gz.one from rfl,Gz.one_mul]at h5;unfold vsF at h5;rw[prodG_map]at h5;exact h5
theorem ActL.phase{G:Int->Gz}{l m:List Vk}(h:ActL G l m)(hG:∀x,0<=x->x<8->(G x).nz)(kl:CkR l 0)(km:CkR m 0){c:List Int}{p q:Ck}(hp:PhO l c p 0)(hq:PhO m c q 0):p=q:=by
 refine ray_uniq hp.ray hq.ray ?_;have h1:=phase_prod hp;have h2:=phase_prod hq;have hc:circle c/\∀s∈sps c,fv l s.n s.d≠none:=by
  cases hp with
  |bad h0 _=>exact absurd rfl h0
  |ok _ h1 h2 _ _=>exact⟨h1,h2⟩
 have h3:Par (prodG (fun s=>gz (vis1 m s)) (sps c)) (prodG (fun s:F2=>(((G s.n).mul (G s.d).conj)).mul (gz (vis1 l s))) (sps c)):=prodG_par (fun s hs=>by
  have:=h.step kl km (hc.2 s hs);rw[Gz.mul_assoc,Gz.mul_comm (gz (vis1 l s)),<-Gz.mul_assoc]at this;exact this)
 rw[prodG_mul]at h3;have h4:=(circ_gain (G:=G) (c:=c) (fun x hx=>hG x (hc.1.2.2.1 x hx).1 (hc.1.2.2.1 x hx).2)).mul (.refl (prodG (fun s=>gz (vis1 l s)) (sps c)));rw[Gz.one_mul]at h4;exact h1.trans ((h2.trans h3).trans h4).symm
theorem ActL.far{G:Int->Gz}{l m:List Vk}(h:ActL G l m)(hG:∀x,0<=x->x<8->(G x).nz)(kl:CkR l 0)(km:CkR m 0){Z:List (Int×List Int)}{acc fs fs':List Ck}{e e':Int}(r:FaR l Z acc fs e)(r':FaR m Z acc fs' e')(he:e=0)(he':e'=0):fs=fs':=by
 induction r generalizing fs' e' with
 |nil acc=>cases r';rfl
 |skip r ih=>cases r' with
  |skip k=>exact ih k he he'
  |err h0 _ _=>exact absurd rfl h0
  |take h0 _ _=>exact absurd rfl h0
 |err h0 hp hn=>exact absurd he hn
 |take h0 hp r ih=>cases r' with
  |skip k=>exact absurd rfl h0
  |err _ _ hn=>exact absurd he' hn
  |take _ kp k=>
   obtain rfl:=h.phase hG kl km hp kp;exact ih k he he'
theorem ActL.reckon{G:Int->Gz}{l m:List Vk}(h:ActL G l m)(hG:∀x,0<=x->x<8->(G x).nz)(kl:CkR l 0)(km:CkR m 0){c:List Int}{p q:Ck}(hp:ReO l c p 0)(hq:ReO m c q 0):p=q:=by
 cases hp with
 |bad h0 _=>exact absurd rfl h0
 |ph _ _ _ he=>exact absurd rfl he
 |ok _ tp hf hr=>cases hq with
  |bad h0 _=>exact absurd rfl h0
  |ph _ _ _ he=>exact absurd rfl he
  |ok _ tp' hf' hr'=>
   obtain⟨rfl,rfl⟩:=(tree_pr h.pr tp).uniq tp';have ez:∀t,zsC m c t=zsC l c t:=fun t=>by unfold zsC;rw[bas_pr h.pr]
   rw[ez]at hf';obtain rfl:=h.far hG kl km hf hf' rfl rfl;rw[hr]at hr';exact Option.some.inj hr'
theorem around{l:List Vk}{a b d:Int}{r:List Int}{p q w:Ck}(h1:PhO l (a :: b :: d :: r) p 0)(h2:PhO l [a,b,d] q 0)(h3:PhO l (a :: d :: r) w 0){y:Ck}(hy:isRay y)(hm:Par (gz y) ((gz q).mul (gz w))):y=p:=by
 refine ray_uniq hy h1.ray (hm.trans ?_);have g1:=phase_par h1;have g2:=phase_par h2;have g3:=phase_par h3;have e:=prG_add (gv_nz l) (fun s=>flI (sps [a,b,d]) s.n s.d) (fun s=>flI (sps (a :: d :: r)) s.n s.d) (basP l);have ef:(fun s:F2=>flI (sps [a,b,d]) s.n s.d+flI (sps (a :: d :: r)) s.n s.d)=fun s=>flI (sps (a :: b :: d :: r)) s.n s.d:=by
  funext s
  have w1:sps [a,b,d]=[⟨a,b⟩,⟨b,d⟩,⟨d,a⟩]:=(sps_walk a [b,d]).trans rfl;have w2:sps (a :: d :: r)=⟨a,d⟩ :: walkP (d :: (r++[a])):=(sps_walk a (d :: r)).trans rfl;have w3:sps (a :: b :: d :: r)=⟨a,b⟩ :: ⟨b,d⟩ :: walkP (d :: (r++[a])):=(sps_walk a (b :: d :: r)).trans rfl;rw[w1,w2,w3];generalize walkP (d :: (r++[a]))=W;have fc:∀(p:F2) (L:List F2),flI (p :: L) s.n s.d=flI L s.n s.d+flI [p] s.n s.d:=fun p L=>by
   show flI L s.n s.d+_=flI L s.n s.d+(0+_);omega
  have fk:∀u v:Int,flI [⟨d,a⟩] u v+flI [⟨a,d⟩] u v=0:=fun u v=>by
   show 0+((if d=u/\a=v then(1:Int)else 0)-(if d=v/\a=u then 1 else 0))+(0+((if a=u/\d=v then 1 else 0)-(if a=v/\d=u then 1 else 0)))=0;split<;>split<;>split<;>split<;>omega
  have fk:=fk s.n s.d;rw[fc ⟨a,b⟩ [⟨b,d⟩,⟨d,a⟩],fc ⟨b,d⟩ [⟨d,a⟩],fc ⟨a,d⟩ W,fc ⟨a,b⟩ (⟨b,d⟩ :: W),fc ⟨b,d⟩ W];omega
 rw[ef]at e;exact(g2.mul g3).trans (e.symm.trans g1.symm)
end Go.Proofs.Ytlimjlpjldijdaa
namespace Go.Proofs.Ytlimjlpjldijdaa
open Go.Sim
set_option maxRecDepth 100000
abbrev ckV(k:Ck):Value:=.agg #[.int .i64 k.a,.int .i64 k.b,.int .i64 k.d]
variable{F:Prims}{call head arith a0 b0 c0 d0 conv e0 f0 g0 j0 l0 m0 n0 nz o0 rd wr p0 next q0 r0 s0 t0 u0 v0 w0 y0 z0 a1 b1 f1 j1 l1 m1 n1 t1 u1 lt ne y1 z1 a2 yn b2 d2 f2 i2 j2 l2 m2 n2:_}(hA:AP F ⟨call,head,arith,a0,b0,c0,d0,conv,e0,f0,g0,j0,l0,m0,n0,nz,o0,rd,wr,p0,next,q0,r0,s0,t0,u0,v0,w0,y0,z0,a1,b1,f1,j1,l1,m1,n1,t1,u1,lt,ne,y1,z1,a2,yn,b2,d2,f2,i2,j2,l2,m2,n2⟩)
include hA
theorem gvis1_ok{h:AHeap}(hlow:h.low<=h.next){i:Int}{k:Ck}{Q:Value->AHeap->Prop}(hQ:∀e h',(e=0↔k.ok/\¬k.nil)->Ext h h'->Q (.int .i64 e) h'):call 41 [.int .i64 i,ckV k] h Q:=by
 refine hA.bodyR Try.func41 r41_ok (hA.alike _ _ _ rfl) hlow (zc ?_);refine ccheck_ok hA hlow (fun e h1 ke x1=>⟨_,rfl,?_⟩);refine zc ?_;refine br (e≠0) (by rw[e_neq hA]) (fun c1=>?_) (fun c1=>?_)<;>refine zc ?_
 ·refine hQ 8 h1 ⟨fun q=>by omega,fun q=>?_⟩ x1
  rcases ke with ⟨z,_⟩|⟨_,z⟩
  ·exact absurd z c1
  ·exact absurd q.1 z
 have k0:k.ok:=by
  rcases ke with ⟨_,z⟩|⟨z,_⟩
  ·exact z
  ·omega
 refine br (k.a=0) (by rw[e_eql hA]) (fun c2=>?_) (fun c2=>?_)<;>refine zc ?_
 ·refine br (k.b=0) (by rw[e_eql hA]) (fun c3=>?_) (fun c3=>?_)<;>refine zc ?_
  ·exact hQ 8 h1 ⟨fun q=>by omega,fun q=>absurd ⟨c2,c3⟩ q.2⟩ x1
  ·exact hQ 0 h1 ⟨fun _=>⟨k0,fun q=>c3 q.2⟩,fun _=>rfl⟩ x1
 ·exact hQ 0 h1 ⟨fun _=>⟨k0,fun q=>c2 q.1⟩,fun _=>rfl⟩ x1
theorem ge_loop{h0:AHeap}(hlow0:h0.low<=h0.next){a:Option Addr}{n c:Nat}{G:List Ck}(hG:Cs h0 a n G)(hn:n<=8){N:Int}(hN:N=n){Q:Exit->SS->Prop}
  (hno:∀h' e,e≠0->¬GoodG G->Ext h0 h'->∀e' kn K,Q .ret ⟨(4,.int .i64 e) :: e',kn,K,h'⟩)
  (hok:∀h',GoodG G->Ext h0 h'->Q (.exit 0) ⟨[],0,[],h'⟩) :
  ∀(m:Nat) (i:Int) (h:AHeap),(n-i).toNat<=m->0<=i->i<=n->GoodG (G.take i.toNat)->Ext h0 h->
   head 40 2 0 ⟨[(1,.func (.func 41) #[] #[]),(8,.slice a n c),(9,.int .i64 N),(10,.int .i64 i)],0,[],h⟩ Q:=by
 have hlen:=hG.len;refine upTo (fun m ih=>?_);intro i h hm i0 i1 hp he;by_cases ci:i<n
 rotate_left
 ·refine hA.roundR Try.func40 r40_ok (zc ?_)
  refine br (i<N) (by rw[e_lss hA]) (fun c1=>by omega) (fun c1=>?_)<;>refine zc ?_;rw[List.take_of_length_le (by omega)]at hp;exact hok h hp he
 obtain⟨m,rfl⟩:∃k,m=k+1:=⟨m-1,by omega⟩
 replace ih:=ih m rfl
 obtain⟨bb,o,u,v,w,rfl,hbb,hgt,r1⟩:=cs_at (hG.ext he) (i:=i) i0 ci;have q1:=rd_ok hA r1;have e2:arith .add .i64 i 1=i+1:=add64 hA (by omega) (by omega);have htk:=gt_take G i0 (by omega);rw[hgt]at htk;have hmem:(⟨u,v,w⟩:Ck)∈G:=by rw[<-hgt];exact gt_mem G i0 (by omega)
 refine hA.roundR Try.func40 r40_ok (zc ?_);refine br (i<N) (by rw[e_lss hA]) (fun c1=>?_) (fun c1=>by omega)<;>refine zc ?_;refine zq ?_;refine gvis1_ok hA (k:=⟨u,v,w⟩) (he.lowOK hlow0) (fun e h1 ke x1=>⟨_,rfl,?_⟩);refine zc ?_;refine br (e≠0) (by rw[e_neq hA]) (fun c2=>?_) (fun c2=>?_)<;>refine zc ?_
 ·exact hno h1 e c2 (fun g=>c2 (ke.2 (g _ hmem))) (he.trans x1) _ _ _
 rw[e2];refine ih (i+1) h1 (by omega) (by omega) (by omega) ?_ (he.trans x1);rw[htk];intro x hx;rcases List.mem_append.1 hx with z|z
 ·exact hp x z
 ·rw[List.mem_singleton.1 z];exact ke.1 (by omega)
theorem gcheck_ok{h:AHeap}(hlow:h.low<=h.next){a:Option Addr}{n c:Nat}{G:List Ck}(hG:Cs h a n G){Q:Value->AHeap->Prop}
  (hno:∀e h',e≠0->¬okG G->Ext h h'->Q (.int .i64 e) h') (hok:∀h',okG G->Ext h h'->Q (.int .i64 0) h'):call 17 [.slice a n c] h Q:=by
 have hlen:=hG.len;refine hA.bodyR Try.func17 r17_ok (hA.alike _ _ _ rfl) hlow (zc ?_);refine br ((8:Int)<n) (by rw[e_gtr hA,e_ofNat hA]) (fun c1=>?_) (fun c1=>?_)<;>refine zc ?_
 ·exact hno 4 h (by omega) (fun g=>by have:=g.2.1;omega) (.refl h)
 refine br ((n:Int)=0) (by rw[e_eql hA,e_ofNat hA]) (fun c2=>?_) (fun c2=>?_)<;>refine zc ?_
 ·exact hno 8 h (by omega) (fun g=>by have:=g.1;omega) (.refl h)
 refine hA.bodyR Try.func40 r40_ok (hA.alike _ _ _ rfl) hlow (zc ?_);refine ge_loop hA hlow hG (by omega) (e_ofNat hA n) (fun h1 e he hg x1 e' kn K=>?_) (fun h1 hg x1=>?_) n 0 h (by omega) (by omega) (by omega) (fun x hx=>by simp at hx) (.refl h)
 ·refine zc ?_
  refine⟨_,rfl,?_⟩;refine zc ?_;exact hno e h1 he (fun g=>hg g.2.2) x1
 ·refine zc ?_
  refine⟨_,rfl,?_⟩;refine zc ?_;exact hok h1 ⟨by omega,by omega,hg⟩ x1
theorem gvalid_ok{h:AHeap}(hlow:h.low<=h.next)(v:Vk)(n:Nat){N:Int}(hN:N=n){Q:Value->AHeap->Prop}(hQ:∀(r:Bool) h',(r=true↔inG n v)->Ext h h'->Q (.bool r) h') :
  call 18 [.agg #[.int .i64 v.i,.int .i64 v.j,.int .i64 v.re,.int .i64 v.im,.int .i64 v.den,.int .i64 v.n],.int .i64 N] h Q:=by
 refine hA.bodyR Try.func18 r18_ok (hA.alike _ _ _ rfl) hlow (zc ?_);obtain⟨x,y,re,im,d,w⟩:=v;refine br (0<=x) (by rw[e_geq hA]) (fun c1=>?_) (fun c1=>?_)<;>refine zc ?_
 rotate_left
 ·exact hQ false h (by simp;intro q;exact absurd q.1 c1) (.refl h)
 refine br (x<y) (by rw[e_lss hA]) (fun c2=>?_) (fun c2=>?_)<;>refine zc ?_
 rotate_left
 ·exact hQ false h (by simp;intro q;exact absurd q.2.1 c2) (.refl h)
 refine br (y<n) (by rw[e_lss hA,hN]) (fun c3=>?_) (fun c3=>?_)<;>refine zc ?_
 rotate_left
 ·exact hQ false h (by simp;intro q;exact absurd q.2.2.1 c3) (.refl h)
 refine br (0<=w) (by rw[e_geq hA]) (fun c4=>?_) (fun c4=>?_)<;>refine zc ?_
 rotate_left
 ·exact hQ false h (by simp;intro q;exact absurd q.2.2.2.1 c4) (.refl h)
 refine ccheck_ok hA hlow (fun e h' ke x'=>⟨_,rfl,?_⟩);refine zc ?_;rw[e_eql hA];refine hQ _ h' ?_ x';rw[decide_eq_true_iff];rcases ke with ⟨z,k⟩|⟨z,k⟩
 ·exact⟨fun _=>⟨c1,c2,c3,c4,k⟩,fun _=>z⟩
 ·exact⟨fun q=>by omega,fun q=>absurd q.2.2.2.2 k⟩
theorem tconj_ok{h:AHeap}(hlow:h.low<=h.next){x y:Ck}(hy:y.ok){Q:Value->AHeap->Prop}(hQ:∀r e h',mulO x (conjK y) r e->Ext h h'->Q (.tuple #[ckV r,.int .i64 e]) h'):call 23 [ckV x,ckV y] h Q:=by
 refine hA.bodyR Try.func23 r23_ok (hA.alike _ _ _ rfl) hlow (zc ?_);refine cconj_ok hA hlow (fun r s u e h1 ke x1=>⟨_,_,_,_,rfl,?_⟩);obtain⟨rfl,rfl,rfl,rfl⟩:r=y.a/\s=-y.b/\u=y.d/\e=0:=by
  rcases ke with ⟨z,_⟩|⟨_,z⟩
  ·exact absurd hy z
  ·exact z
 refine zc ?_;refine br False (by rw[e_neq hA];rfl) (fun q=>q.elim) (fun _=>?_)<;>refine zc ?_;refine cmul_ok hA (x1.lowOK hlow) (fun r s u e h2 ke x2=>⟨_,_,_,_,rfl,?_⟩);refine zc ?_;exact hQ ⟨r,s,u⟩ e h2 ke (x1.trans x2)
