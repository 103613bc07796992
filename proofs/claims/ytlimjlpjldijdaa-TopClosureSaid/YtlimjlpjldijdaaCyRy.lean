import Derived.Test.YtlimjlpjldijdaaCyE
import Derived.Test.YtlimjlpjldijdaaCySt
set_option linter.unusedSimpArgs false
set_option linter.unusedVariables false
namespace Go.Proofs.Ytlimjlpjldijdaa
open Go.Sim
set_option maxRecDepth 100000
theorem pr_nodup{l:List Vk}:(l.map Vk.pr).Nodup↔∀p q:Int,0<=q->q<p->p<l.length->(gt l p).pr≠(gt l q).pr:=by
 unfold List.Nodup;rw[List.pairwise_iff_getElem];constructor
 ·intro h p q q0 qp p1 e
  obtain⟨p',rfl⟩:∃p':Nat,p=p':=⟨p.toNat,by omega⟩;obtain⟨q',rfl⟩:∃q':Nat,q=q':=⟨q.toNat,by omega⟩;have hp:p'<l.length:=by omega
  have hq:q'<l.length:=by omega
  have gp:gt l (p':Int)=l[p']:=by unfold gt;simp[List.getElem?_eq_getElem hp]
  have gq:gt l (q':Int)=l[q']:=by unfold gt;simp[List.getElem?_eq_getElem hq]
  rw[gp,gq]at e;exact h q' p' (by simpa using hq) (by simpa using hp) (by omega) (by simpa using e.symm)
 ·intro h i j hi hj hij e
  rw[List.length_map]at hi hj;have gp:gt l (j:Int)=l[j]:=by unfold gt;simp[List.getElem?_eq_getElem hj]
  have gq:gt l (i:Int)=l[i]:=by unfold gt;simp[List.getElem?_eq_getElem hi]
  refine h j i (by omega) (by omega) (by omega) ?_;rw[gp,gq];simpa using e.symm
variable{F:Prims}{call head arith cmp scmp bnot bsame conv neg imax imin ofNat slen place inR nz geZ rd wr push next mkOK nat zeros sadd eqAgg cut slc sslc strAt part app cpy putAt fresh lowered bump wrote addN lt ne fpAll fpApp brk yn rng mget mput mnew bytes clr mrng ment:_}(hA:AP F ⟨call,head,arith,cmp,scmp,bnot,bsame,conv,neg,imax,imin,ofNat,slen,place,inR,nz,geZ,rd,wr,push,next,mkOK,nat,zeros,sadd,eqAgg,cut,slc,sslc,strAt,part,app,cpy,putAt,fresh,lowered,bump,wrote,addN,lt,ne,fpAll,fpApp,brk,yn,rng,mget,mput,mnew,bytes,clr,mrng,ment⟩)
include hA
theorem all_loop{h0:AHeap}(hlow0:h0.low<=h0.next){a:Option Addr}{n c:Nat}{l:List Vk}(hl:Vs h0 a n l)(hn:n<=1000){Q:Exit->SS->Prop}
  (hbad:∀h' v,v∈l->¬okV v->Ext h0 h'->∀e kn K,Q .ret ⟨(4,.int .i64 8) :: e,kn,K,h'⟩)
  (hok:∀h',(∀v∈l,okV v)->Ext h0 h'->∀e kn K,Q (.exit 0) ⟨e,kn,K,h'⟩) :
  ∀(m:Nat) (i:Int) (h:AHeap),(n-i).toNat<=m->0<=i->i<=n->(∀v∈l.take i.toNat,okV v)->Ext h0 h->
   head 14 4 0 ⟨[(0,.slice a n c),(1,.int .i64 8),(5,.int .i64 i)],0,[],h⟩ Q:=by
 have hlen:=hl.len;refine upTo (fun m ih=>?_);intro i h hm i0 i1 hv he;by_cases ci:i<n
 rotate_left
 ·refine hA.roundR Try.func14 r14_ok (zc ?_)
  refine br (i<n) (by rw[e_lss hA,e_ofNat hA]) (fun c1=>absurd c1 ci) (fun c1=>?_)<;>refine zc ?_;rw[List.take_of_length_le (by omega)]at hv;exact hok h hv he _ _ _
 obtain⟨m,rfl⟩:∃k,m=k+1:=⟨m-1,by omega⟩
 replace ih:=ih m rfl
 obtain⟨bb,o,x,y,re,im,d,w,rfl,hbb,hg,r1,_⟩:=vs_at (hl.ext he) (i:=i) i0 ci;have q1:=rd_ok hA r1;have hmem:(⟨x,y,re,im,d,w⟩:Vk)∈l:=by rw[<-hg];exact gt_mem l i0 (by omega)
 have e2:arith .add .i64 i 1=i+1:=add64 hA (by omega) (by omega);refine hA.roundR Try.func14 r14_ok (zc ?_);refine br (i<n) (by rw[e_lss hA,e_ofNat hA]) (fun c1=>?_) (fun c1=>absurd ci c1)<;>refine zc ?_;refine zq ?_;refine⟨_,_,_,_,_,_,q1,?_⟩;refine zq ?_;refine seen_ok hA (he.lowOK hlow0) ⟨x,y,re,im,d,w⟩ (fun r h' hr x'=>⟨_,rfl,?_⟩);refine zc ?_;have xx:=he.trans x';refine br (r=false) (by rw[e_bnot hA];cases r<;>rfl) (fun c4=>?_) (fun c4=>?_)<;>refine zc ?_
 ·exact hbad h' _ hmem (fun q=>by have:=hr.2 q;rw[c4]at this;cases this) xx _ _ _
 rw[e2];refine ih (i+1) h' (by omega) (by omega) (by omega) (fun v hv'=>?_) xx;rw[gt_take l i0 (by omega),hg]at hv';rcases List.mem_append.1 hv' with z|z
 ·exact hv v z
 ·rw[List.mem_singleton.1 z]
  exact hr.1 (by cases r with|true=>rfl|false=>exact absurd rfl c4)
theorem all_ok{h:AHeap}(hlow:h.low<=h.next){a:Option Addr}{n c:Nat}{l:List Vk}(hl:Vs h a n l)(hn:n<=1000){Q:Value->AHeap->Prop}
  (hQ:∀e h',(64<n/\e=4)\/(n<=64/\(∃v∈l,¬okV v)/\e=8)\/(n<=64/\(∀v∈l,okV v)/\e=0)->Ext h h'->Q (.int .i64 e) h'):call 14 [.slice a n c,.int .i64 8] h Q:=by
 refine hA.bodyR Try.func14 r14_ok (hA.alike _ _ _ rfl) hlow (zc ?_);refine br (64<n) (by rw[e_gtr hA,e_ofNat hA];simp;omega) (fun c1=>?_) (fun c1=>?_)<;>refine zc ?_
 ·exact hQ 4 h (.inl ⟨c1,rfl⟩) (.refl h)
 refine all_loop hA hlow hl hn (fun h' v hv hb x e kn K=>?_) (fun h' hok x e kn K=>?_) n 0 h (by omega) (by omega) (by omega) (fun v hv=>by simp at hv) (.refl h)
 ·refine zc ?_
  exact hQ 8 h' (.inr (.inl ⟨by omega,⟨v,hv,hb⟩,rfl⟩)) x
 ·refine zc ?_
  exact hQ 0 h' (.inr (.inr ⟨by omega,hok,rfl⟩)) x
theorem tw_in{h0:AHeap}(hlow0:h0.low<=h0.next){a:Option Addr}{n c:Nat}{l:List Vk}(hl:Vs h0 a n l)(hn:n<=1000){i:Int}(i0:0<=i)(i1:i<n){Q:Exit->SS->Prop}
  (hbad:∀h' k,0<=k->k<i->(gt l i).pr=(gt l k).pr->Ext h0 h'->∀e kn K,Q .ret ⟨(2,.int .i64 14) :: e,kn,K,h'⟩)
  (hok:∀h',(∀k,0<=k->k<i->(gt l i).pr≠(gt l k).pr)->Ext h0 h'->∀kn,Q (.exit 2) ⟨[(0,.slice a n c),(4,.int .i64 i)],kn,[],h'⟩) :
  ∀(m:Nat) (k:Int) (h:AHeap),(i-k).toNat<=m->0<=k->k<=i->(∀j,0<=j->j<k->(gt l i).pr≠(gt l j).pr)->Ext h0 h->
   head 5 8 0 ⟨[(0,.slice a n c),(4,.int .i64 i),(5,.int .i64 k)],0,[],h⟩ Q:=by
 have hlen:=hl.len;refine upTo (fun m ih=>?_);intro k h hm k0 k1 hv he;by_cases ci:k<i
 rotate_left
 ·refine hA.roundR Try.func5 r5_ok (zc ?_)
  refine br (k<i) (by rw[e_lss hA]) (fun c1=>absurd c1 ci) (fun c1=>?_)<;>refine zc ?_;exact hok h (fun j j0 j1=>hv j j0 (by omega)) he _
 obtain⟨m,rfl⟩:∃k,m=k+1:=⟨m-1,by omega⟩
 replace ih:=ih m rfl
 refine hA.roundR Try.func5 r5_ok (zc ?_);refine br (k<i) (by rw[e_lss hA]) (fun c1=>?_) (fun c1=>absurd ci c1)<;>refine zc ?_;obtain⟨h9,hh9⟩:∃z,z=bump h 24:=⟨_,rfl⟩;have e9:Ext h0 h9:=by rw[hh9];exact he.trans (ext_bump hA _ _)
 rw[<-hh9];obtain⟨bb,o,x,y,re,im,d,w,rfl,hbb,hg,_,rf⟩:=vs_at (hl.ext e9) (i:=i) i0 i1;obtain⟨_,_,x',y',re',im',d',w',hcase,_,hg',_,rf'⟩:=vs_at (hl.ext e9) (i:=k) k0 (by omega);cases hcase;rw[hg]at rf;rw[hg']at rf';have p1:rd h9 bb (addN (place o i 6) 0) 1 [.int .i64 x]:=rd_fld hA (rf 0 1 (by omega) (by omega));have p2:rd h9 bb (addN (place o i 6) 1) 1 [.int .i64 y]:=rd_fld hA (rf 1 1 (by omega) (by omega));have p3:rd h9 bb (addN (place o k 6) 0) 1 [.int .i64 x']:=rd_fld hA (rf' 0 1 (by omega) (by omega));have p4:rd h9 bb (addN (place o k 6) 1) 1 [.int .i64 y']:=rd_fld hA (rf' 1 1 (by omega) (by omega));have epr:(gt l i).pr=(gt l k).pr↔x=x'/\y=y':=by
  rw[hg,hg'];unfold Vk.pr;simp
 have e2:arith .add .i64 k 1=k+1:=add64 hA (by omega) (by omega);have nxt:(gt l i).pr≠(gt l k).pr->∀j,0<=j->j<k+1->(gt l i).pr≠(gt l j).pr:=fun hne j j0 j1=>by
  by_cases z:j=k
  ·rw[z];exact hne
  ·exact hv j j0 (by omega)
 refine zq ?_;refine br (x=x') (by rw[e_eql hA]) (fun c2=>?_) (fun c2=>?_)<;>refine zc ?_
 ·refine zq ?_
  refine br (y=y') (by rw[e_eql hA]) (fun c3=>?_) (fun c3=>?_)<;>refine zc ?_
  ·exact hbad h9 k k0 ci (epr.2 ⟨c2,c3⟩) e9 _ _ _
  ·rw[e2]
   exact ih (k+1) h9 (by omega) (by omega) (by omega) (nxt (fun q=>c3 (epr.1 q).2)) e9
 ·rw[e2]
  exact ih (k+1) h9 (by omega) (by omega) (by omega) (nxt (fun q=>c2 (epr.1 q).1)) e9
theorem tw_out{h0:AHeap}(hlow0:h0.low<=h0.next){a:Option Addr}{n c:Nat}{l:List Vk}(hl:Vs h0 a n l)(hn:n<=1000){Q:Exit->SS->Prop}
  (hbad:∀h',¬(l.map Vk.pr).Nodup->Ext h0 h'->∀e kn K,Q .ret ⟨(2,.int .i64 14) :: e,kn,K,h'⟩)
  (hok:∀h',(l.map Vk.pr).Nodup->Ext h0 h'->∀e kn K,Q (.exit 0) ⟨e,kn,K,h'⟩) :
  ∀(m:Nat) (i:Int) (h:AHeap),(n-i).toNat<=m->0<=i->i<=n->(∀p q:Int,0<=q->q<p->p<i->(gt l p).pr≠(gt l q).pr)->Ext h0 h->
   head 5 5 0 ⟨[(0,.slice a n c),(4,.int .i64 i)],0,[],h⟩ Q:=by
 have hlen:=hl.len;refine upTo (fun m ih=>?_);intro i h hm i0 i1 hv he;by_cases ci:i<n
 rotate_left
 ·refine hA.roundR Try.func5 r5_ok (zc ?_)
  refine br (i<n) (by rw[e_lss hA,e_ofNat hA]) (fun c1=>absurd c1 ci) (fun c1=>?_)<;>refine zc ?_;exact hok h (pr_nodup.2 (fun p q q0 qp p1=>hv p q q0 qp (by omega))) he _ _ _
 obtain⟨m,rfl⟩:∃k,m=k+1:=⟨m-1,by omega⟩
 replace ih:=ih m rfl
 have e2:arith .add .i64 i 1=i+1:=add64 hA (by omega) (by omega);refine hA.roundR Try.func5 r5_ok (zc ?_);refine br (i<n) (by rw[e_lss hA,e_ofNat hA]) (fun c1=>?_) (fun c1=>absurd ci c1)<;>refine zc ?_;refine tw_in hA hlow0 hl hn i0 ci (fun h' k k0 k1 hk x e kn K=>?_) (fun h' hne x kn=>?_) i.toNat 0 h (by omega) (by omega) (by omega) (fun j j0 j1=>by omega) he
 ·refine zc ?_
  exact hbad h' (fun q=>pr_nodup.1 q i k k0 k1 (by omega) hk) x _ _ _
 ·refine zc ?_
  rw[e2];refine ih (i+1) h' (by omega) (by omega) (by omega) (fun p q q0 qp p1=>?_) x;by_cases z:p=i
  ·subst z;exact hne q q0 qp
  ·exact hv p q q0 qp (by omega)
theorem rclcheck_ok{h:AHeap}(hlow:h.low<=h.next){a:Option Addr}{n c:Nat}{l:List Vk}(hl:Vs h a n l)(hn:n<=1000){Q:Value->AHeap->Prop}
  (hQ:∀e h',CkR l e->Ext h h'->Q (.int .i64 e) h'):call 5 [.slice a n c] h Q:=by
 have hlen:=hl.len;refine hA.bodyR Try.func5 r5_ok (hA.alike _ _ _ rfl) hlow (zc ?_);refine all_ok hA hlow hl hn (fun e h1 ke x1=>⟨_,rfl,?_⟩);refine zc ?_;refine br (e≠0) (by rw[e_neq hA]) (fun c1=>?_) (fun c1=>?_)<;>refine zc ?_
 ·rcases ke with ⟨z,rfl⟩|⟨z,⟨v,hv,hb⟩,rfl⟩|⟨z,hv,rfl⟩
  ·exact hQ 4 h1 (.many (by omega)) x1
  ·exact hQ 8 h1 (.bad (by omega) v hv hb) x1
  ·exact absurd rfl c1
 have hk:n<=64/\∀v∈l,okV v:=by
  rcases ke with ⟨z,rfl⟩|⟨z,⟨v,hv,hb⟩,rfl⟩|⟨z,hv,rfl⟩
  ·omega
  ·omega
  ·exact⟨z,hv⟩
 refine tw_out hA (x1.lowOK hlow) (hl.ext x1) hn (fun h' hd x e kn K=>?_) (fun h' hd x e kn K=>?_) n 0 h1 (by omega) (by omega) (by omega) (fun p q q0 qp p1=>by omega) (.refl h1)
 ·refine zc ?_
  exact hQ 14 h' (.twice (by omega) hk.2 hd) (x1.trans x)
 ·refine zc ?_
  exact hQ 0 h' (.ok (by omega) hk.2 hd) (x1.trans x)
end Go.Proofs.Ytlimjlpjldijdaa
namespace Go.Proofs.Ytlimjlpjldijdaa
open Go.Sim
set_option maxRecDepth 100000
variable{F:Prims}{call head arith cmp scmp bnot bsame conv neg imax imin ofNat slen place inR nz geZ rd wr push next mkOK nat zeros sadd eqAgg cut slc sslc strAt part app cpy putAt fresh lowered bump wrote addN lt ne fpAll fpApp brk yn rng mget mput mnew bytes clr mrng ment:_}(hA:AP F ⟨call,head,arith,cmp,scmp,bnot,bsame,conv,neg,imax,imin,ofNat,slen,place,inR,nz,geZ,rd,wr,push,next,mkOK,nat,zeros,sadd,eqAgg,cut,slc,sslc,strAt,part,app,cpy,putAt,fresh,lowered,bump,wrote,addN,lt,ne,fpAll,fpApp,brk,yn,rng,mget,mput,mnew,bytes,clr,mrng,ment⟩)
include hA
inductive FndO(l:List Vk)(x y:Int):Int->Int->Int->Int->Prop
 |no (h:∀v∈l,¬(v.i=x/\v.j=y)/\¬(v.i=y/\v.j=x)):FndO l x y 0 0 0 6
 |to (v:Vk) (hv:v∈l) (h:v.i=x/\v.j=y):FndO l x y v.re v.im v.den 0
 |back (v:Vk) (hv:v∈l) (h:v.i=y/\v.j=x):FndO l x y v.re (-v.im) v.den 0
theorem fnd_loop{h0:AHeap}(hlow0:h0.low<=h0.next){a:Option Addr}{n c:Nat}{N:Int}(hN:N=n){l:List Vk}(hl:Vs h0 a n l)(hn:n<=1000)(hv:∀v∈l,okV v){x y:Int}{Q:Exit->SS->Prop}
  (hn0:∀h',(∀v∈l,¬(v.i=x/\v.j=y)/\¬(v.i=y/\v.j=x))->Ext h0 h'->Q (.exit 0) ⟨[(6,.pointer (some ⟨0,0,some 0⟩))],1,[(0,[.int .i64 0,.int .i64 0,.int .i64 0])],h'⟩)
  (hd:∀h' (v:Vk),v∈l->v.i=x/\v.j=y->Ext h0 h'->∀v27 v26 v9 K',Q .ret ⟨[(7,.int .i64 0),(27,v27),(26,v26),(6,.pointer (some ⟨0,0,some 0⟩)),(9,v9)],2,(0,[.int .i64 v.re,.int .i64 v.im,.int .i64 v.den]) :: K',h'⟩)
  (hr:∀h' (v:Vk) (s:Int),v∈l->v.i=y/\v.j=x->s=-v.im->Ext h0 h'->∀v42 v41 v40 v39 v38 v9 K',Q .ret ⟨[(7,.int .i64 0),(42,v42),(41,v41),(40,v40),(39,v39),(38,v38),(6,.pointer (some ⟨0,0,some 0⟩)),(9,v9)],2,(0,[.int .i64 v.re,.int .i64 s,.int .i64 v.den]) :: K',h'⟩) :
  ∀(m:Nat) (i:Int) (h:AHeap),(n-i).toNat<=m->0<=i->i<=n->(∀v∈l.take i.toNat,¬(v.i=x/\v.j=y)/\¬(v.i=y/\v.j=x))->Ext h0 h->
   head 55 2 1 ⟨[(1,.int .i64 x),(2,.int .i64 y),(6,.pointer (some ⟨0,0,some 0⟩)),(10,.slice a n c),(11,.int .i64 N),(12,.int .i64 i)],1,[(0,[.int .i64 0,.int .i64 0,.int .i64 0])],h⟩ Q:=by
 have hlen:=hl.len;refine upTo (fun m ih=>?_);intro i h hm i0 i1 hno he;by_cases ci:i<n
 rotate_left
 ·refine hA.roundR Try.func55 r55_ok (zc ?_)
  refine br (i<N) (by rw[e_lss hA]) (fun c1=>by omega) (fun c1=>?_)<;>refine zc ?_;rw[List.take_of_length_le (by omega)]at hno;exact hn0 h hno he
 obtain⟨m,rfl⟩:∃k,m=k+1:=⟨m-1,by omega⟩
 replace ih:=ih m rfl
 obtain⟨bb,o,u,w,re,im,d,nn,rfl,hbb,hg,r1,_⟩:=vs_at (hl.ext he) (i:=i) i0 ci;have q1:=rd_ok hA r1;have hmem:(⟨u,w,re,im,d,nn⟩:Vk)∈l:=by rw[<-hg];exact gt_mem l i0 (by omega)
 have e2:arith .add .i64 i 1=i+1:=add64 hA (by omega) (by omega);have nxt:¬(u=x/\w=y)->¬(u=y/\w=x)->∀v∈l.take (i+1).toNat,¬(v.i=x/\v.j=y)/\¬(v.i=y/\v.j=x):=fun g1 g2 v hv'=>by
  rw[gt_take l i0 (by omega),hg]at hv';rcases List.mem_append.1 hv' with z|z
  ·exact hno v z
  ·rw[List.mem_singleton.1 z];exact⟨g1,g2⟩
 refine hA.roundR Try.func55 r55_ok (zc ?_);refine br (i<N) (by rw[e_lss hA]) (fun c1=>?_) (fun c1=>by omega)<;>refine zc ?_;refine zq ?_;refine⟨_,_,_,_,_,_,q1,?_⟩;refine zq ?_;refine br (u=x) (by rw[e_eql hA]) (fun c2=>?_) (fun c2=>?_)<;>refine zc ?_
 ·refine br (w=y) (by rw[e_eql hA]) (fun c3=>?_) (fun c3=>?_)<;>refine zc ?_
  ·exact hd h ⟨u,w,re,im,d,nn⟩ hmem ⟨c2,c3⟩ he _ _ _ _
  ·refine zc ?_
   refine br (u=y) (by rw[e_eql hA]) (fun c4=>?_) (fun c4=>?_)<;>refine zc ?_
   ·refine br (w=x) (by rw[e_eql hA]) (fun c5=>?_) (fun c5=>?_)<;>refine zc ?_
    ·refine cconj_ok hA (he.lowOK hlow0) (fun r s t e h' hc x'=>?_)
     have okd:=(hv _ hmem).2.2.2.2;obtain⟨rfl,hs,rfl,rfl⟩:r=re/\s=-im/\t=d/\e=0:=by
      rcases hc with ⟨z,_⟩|⟨_,z⟩
      ·exact absurd okd z
      ·exact z
     refine⟨_,_,_,_,rfl,?_⟩;refine zc ?_;refine hr h' ⟨u,w,r,im,t,nn⟩ s hmem ⟨c4,c5⟩ hs (he.trans x') _ _ _ _ _ _ _
    ·rw[e2]
     exact ih (i+1) h (by omega) (by omega) (by omega) (nxt (fun q=>c3 q.2) (fun q=>c5 q.2)) he
   ·rw[e2]
    exact ih (i+1) h (by omega) (by omega) (by omega) (nxt (fun q=>c3 q.2) (fun q=>c4 q.1)) he
 ·refine zc ?_
  refine br (u=y) (by rw[e_eql hA]) (fun c4=>?_) (fun c4=>?_)<;>refine zc ?_
  ·refine br (w=x) (by rw[e_eql hA]) (fun c5=>?_) (fun c5=>?_)<;>refine zc ?_
   ·refine cconj_ok hA (he.lowOK hlow0) (fun r s t e h' hc x'=>?_)
    have okd:=(hv _ hmem).2.2.2.2;obtain⟨rfl,hs,rfl,rfl⟩:r=re/\s=-im/\t=d/\e=0:=by
     rcases hc with ⟨z,_⟩|⟨_,z⟩
     ·exact absurd okd z
     ·exact z
    refine⟨_,_,_,_,rfl,?_⟩;refine zc ?_;refine hr h' ⟨u,w,r,im,t,nn⟩ s hmem ⟨c4,c5⟩ hs (he.trans x') _ _ _ _ _ _ _
   ·rw[e2]
    exact ih (i+1) h (by omega) (by omega) (by omega) (nxt (fun q=>c2 q.1) (fun q=>c5 q.2)) he
  ·rw[e2]
   exact ih (i+1) h (by omega) (by omega) (by omega) (nxt (fun q=>c2 q.1) (fun q=>c4 q.1)) he
theorem cfind_ok{h:AHeap}(hlow:h.low<=h.next){a:Option Addr}{n c:Nat}{l:List Vk}(hl:Vs h a n l)(hn:n<=1000)(hv:∀v∈l,okV v){x y:Int}{Q:Value->AHeap->Prop}
  (hQ:∀h' u v w e,FndO l x y u v w e->Ext h h'->Q (.tuple #[.agg #[.int .i64 u,.int .i64 v,.int .i64 w],.int .i64 e]) h'):call 55 [.slice a n c,.int .i64 x,.int .i64 y] h Q:=by
 refine hA.bodyR Try.func55 r55_ok (hA.alike _ _ _ rfl) hlow (zc ?_);refine fnd_loop hA hlow (e_ofNat hA n) hl hn hv (fun h' hno x'=>?_) (fun h' v hm e x' v27 v26 v9 K'=>?_) (fun h' v s hm e hs x' v42 v41 v40 v39 v38 v9 K'=>?_) n 0 h (by omega) (by omega) (by omega) (fun v hv'=>by simp at hv') (.refl h)
 ·refine zc ?_
  exact hQ h' 0 0 0 6 (.no hno) x'
 ·refine zc ?_
  exact hQ h' _ _ _ 0 (.to v hm e) x'
 ·refine zc ?_
  subst hs;exact hQ h' _ _ _ 0 (.back v hm e) x'
end Go.Proofs.Ytlimjlpjldijdaa
namespace Go.Proofs.Ytlimjlpjldijdaa
open Go.Sim
set_option maxRecDepth 100000
variable{F:Prims}{call head arith cmp scmp bnot bsame conv neg imax imin ofNat slen place inR nz geZ rd wr push next mkOK nat zeros sadd eqAgg cut slc sslc strAt part app cpy putAt fresh lowered bump wrote addN lt ne fpAll fpApp brk yn rng mget mput mnew bytes clr mrng ment:_}(hA:AP F ⟨call,head,arith,cmp,scmp,bnot,bsame,conv,neg,imax,imin,ofNat,slen,place,inR,nz,geZ,rd,wr,push,next,mkOK,nat,zeros,sadd,eqAgg,cut,slc,sslc,strAt,part,app,cpy,putAt,fresh,lowered,bump,wrote,addN,lt,ne,fpAll,fpApp,brk,yn,rng,mget,mput,mnew,bytes,clr,mrng,ment⟩)
include hA
theorem ciszero_ok{h:AHeap}(hlow:h.low<=h.next){a b d:Int}{Q:Value->AHeap->Prop}(hQ:∀r:Bool,(r=true↔a=0/\b=0)->Q (.bool r) h):call 51 [.agg #[.int .i64 a,.int .i64 b,.int .i64 d]] h Q:=by
 refine hA.bodyR Try.func51 r51_ok (hA.alike _ _ _ rfl) hlow (zc ?_);refine br (a=0) (by rw[e_eql hA]) (fun c=>?_) (fun c=>?_)<;>refine zc ?_
 ·rw[e_eql hA]
  exact hQ _ (by simp[c])
 ·exact hQ _ (by simp[c])
theorem cray_ok{h:AHeap}(hlow:h.low<=h.next){a b d:Int}(hk:okC a b d){Q:Value->AHeap->Prop}
  (h0:a=0/\b=0->∀h',Ext h h'->Q (.tuple #[.agg #[.int .i64 0,.int .i64 0,.int .i64 0],.int .i64 18]) h')
  (h1:¬(a=0/\b=0)->∀h',Ext h h'->Q (.tuple #[.agg #[.int .i64 (a.tdiv (Int.gcd a b)),.int .i64 (b.tdiv (Int.gcd a b)),.int .i64 1],.int .i64 0]) h'):call 32 [.agg #[.int .i64 a,.int .i64 b,.int .i64 d]] h Q:=by
 have hb:=(okC_iff a b d).1 hk;refine hA.bodyR Try.func32 r32_ok (hA.alike _ _ _ rfl) hlow (zc ?_);refine ccheck_ok hA hlow (fun e h' ke x'=>⟨_,rfl,?_⟩);refine zc ?_;refine br (e≠0) (by rw[e_neq hA]) (fun c1=>?_) (fun c1=>?_)<;>refine zc ?_
 ·rcases ke with ⟨z,_⟩|⟨_,z⟩
  ·exact absurd z c1
  ·exact absurd hk z
 refine ciszero_ok hA (x'.lowOK hlow) (fun r hr=>⟨_,rfl,?_⟩);refine zc ?_;refine br (r=true) (by simp) (fun c2=>?_) (fun c2=>?_)<;>refine zc ?_
 ·exact h0 (hr.1 c2) h' x'
 have hz:¬(a=0/\b=0):=fun q=>c2 (hr.2 q)
 refine cgcd_ok hA (x'.lowOK hlow) (by unfold i63;omega) (by unfold i63;omega) (fun g hg h2 x2=>⟨_,rfl,?_⟩);refine zc ?_;have g0:g≠0:=by
  rw[hg];intro q;have:=Int.gcd_eq_zero_iff.1 (show Int.gcd a b=0 by omega);exact hz this
 obtain⟨h9,hh9⟩:∃z,z=bump h2 11:=⟨_,rfl⟩;have e9:Ext h2 h9:=by rw[hh9];exact ext_bump hA _ _
 rw[<-hh9];refine⟨nz_ok hA g0,?_⟩;refine zc ?_;refine⟨nz_ok hA g0,?_⟩;refine zc ?_;rw[quoT hA (by omega) (by omega),quoT hA (by omega) (by omega),hg];exact h1 hz h9 (x'.trans (x2.trans e9))
theorem rzero_ok{h:AHeap}(hlow:h.low<=h.next){a b d:Int}{Q:Value->AHeap->Prop}(hQ:∀r:Bool,(r=true↔a=0/\b=0)->Q (.bool r) h):call 16 [.agg #[.int .i64 a,.int .i64 b,.int .i64 d]] h Q:=by
 refine hA.bodyR Try.func16 r16_ok (hA.alike _ _ _ rfl) hlow (zc ?_);refine br (a=0) (by rw[e_eql hA]) (fun c=>?_) (fun c=>?_)<;>refine zc ?_
 ·rw[e_eql hA]
  exact hQ _ (by simp[c])
 ·exact hQ _ (by simp[c])
