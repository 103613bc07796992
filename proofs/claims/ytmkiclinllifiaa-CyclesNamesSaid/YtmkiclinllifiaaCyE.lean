import Derived.Test.YtmkiclinllifiaaCyH
import Derived.Test.YtmkiclinllifiaaSymApp2
set_option linter.unusedSimpArgs false
set_option linter.unusedVariables false
namespace Go.Proofs.Ytmkiclinllifiaa
open Go.Sim
set_option maxRecDepth 100000
def rowP(i:Nat):List F2:=((List.range 8).filter (fun j=>decide (i<j))).map fun j:Nat=>⟨(i:Int),(j:Int)⟩
def allP:List F2:=(List.range 8).flatMap rowP
def basP(l:List Vk):List F2:=allP.filter (fun p=>decide (p∈l.map Vk.pr))
theorem allP_mem{i j:Int}(h1:0<=i)(h2:i<j)(h3:j<8):(⟨i,j⟩:F2)∈allP:=by
 unfold allP rowP;rw[List.mem_flatMap];refine⟨i.toNat,List.mem_range.2 (by omega),List.mem_map.2 ⟨j.toNat,List.mem_filter.2 ⟨List.mem_range.2 (by omega),decide_eq_true (by omega)⟩,?_⟩⟩;rw[show((i.toNat:Nat):Int)=i by omega,show((j.toNat:Nat):Int)=j by omega]
theorem allP_is:allP=[⟨0,1⟩,⟨0,2⟩,⟨0,3⟩,⟨0,4⟩,⟨0,5⟩,⟨0,6⟩,⟨0,7⟩,⟨1,2⟩,⟨1,3⟩,⟨1,4⟩,⟨1,5⟩,⟨1,6⟩,⟨1,7⟩,⟨2,3⟩,⟨2,4⟩,⟨2,5⟩,⟨2,6⟩,⟨2,7⟩,⟨3,4⟩,⟨3,5⟩,⟨3,6⟩,⟨3,7⟩,⟨4,5⟩,⟨4,6⟩,⟨4,7⟩,⟨5,6⟩,⟨5,7⟩,⟨6,7⟩]:=rfl
theorem allP_pw:allP.Pairwise (fun x y=>8*x.n+x.d<8*y.n+y.d):=by
 rw[allP_is];simp
theorem basP_is{l:List Vk}(h:∀v∈l,okV v):Bas l (basP l):=by
 refine⟨fun i j i0 hij j1=>?_,fun x=>?_⟩
 ·have hp:(basP l).Pairwise (fun x y=>8*x.n+x.d<8*y.n+y.d):=allP_pw.sublist List.filter_sublist
  obtain⟨i',rfl⟩:∃i':Nat,i=i':=⟨i.toNat,by omega⟩;obtain⟨j',rfl⟩:∃j':Nat,j=j':=⟨j.toNat,by omega⟩;have hi':i'<(basP l).length:=by omega
  have hj':j'<(basP l).length:=by omega
  have gi:gt (basP l) (i':Int)=(basP l)[i']:=by unfold gt;simp[List.getElem?_eq_getElem hi']
  have gj:gt (basP l) (j':Int)=(basP l)[j']:=by unfold gt;simp[List.getElem?_eq_getElem hj']
  rw[gi,gj];have:=List.pairwise_iff_getElem.1 hp i' j' hi' hj' (by omega);exact Rat.intCast_lt_intCast.2 this
 ·unfold basP
  rw[List.mem_filter,decide_eq_true_iff,List.mem_map];constructor
  ·rintro⟨_,v,hv,e⟩
   exact⟨v,hv,e.symm⟩
  ·rintro⟨v,hv,rfl⟩
   obtain⟨h1,h2,h3,_⟩:=h v hv;exact⟨allP_mem h1 h2 h3,v,hv,rfl⟩
variable{F:Prims}{call head arith cmp scmp bnot bsame conv neg imax imin ofNat slen place inR nz geZ rd wr push next mkOK nat zeros sadd eqAgg cut slc sslc strAt part app cpy putAt fresh lowered bump wrote addN lt ne fpAll fpApp brk yn rng mget mput mnew bytes clr mrng ment:_}(hA:AP F ⟨call,head,arith,cmp,scmp,bnot,bsame,conv,neg,imax,imin,ofNat,slen,place,inR,nz,geZ,rd,wr,push,next,mkOK,nat,zeros,sadd,eqAgg,cut,slc,sslc,strAt,part,app,cpy,putAt,fresh,lowered,bump,wrote,addN,lt,ne,fpAll,fpApp,brk,yn,rng,mget,mput,mnew,bytes,clr,mrng,ment⟩)
include hA
theorem tree_ok(hW:LW F){h:AHeap}(hlow:h.low<=h.next){a:Option Addr}{n c:Nat}{l:List Vk}(hl:Vs h a n l)(hn:n<=1000){Q:Value->AHeap->Prop}
  (hbad:∀e h',e≠0->CkR l e->Ext h h'->Q (.tuple #[.slice none 0 0,.int .i64 0,.int .i64 e]) h')
  (hok:∀t pk h' a' k c',CkR l 0->Parts (basP l) (stS l) (fun _=>false) [] 0 t pk->Rows F2.cells 2 h' a' k t->t.length<=8->From h.next a'->Ext h h'->Q (.tuple #[.slice a' k c',.int .i64 pk,.int .i64 0]) h') :
  call 10 [.slice a n c] h Q:=by
 refine hA.bodyR Try.func10 r10_ok (hA.alike _ _ _ rfl) hlow (zc ?_);refine clcheck_ok hA hlow hl hn (fun e h1 ke x1=>⟨_,rfl,?_⟩);refine zc ?_;refine br (e≠0) (by rw[e_neq hA]) (fun c1=>?_) (fun c1=>?_)<;>refine zc ?_
 ·exact hbad e h1 c1 ke x1
 have e0:e=0:=by omega
 subst e0;obtain⟨k1,k2,k3⟩:=ke.ok0;refine grow_ok hA hW (x1.lowOK hlow) (hl.ext x1) (okV.st k2) hn (basP_is k2) k3 (fun t h2 a' k c' pk q1 q2 q3 q4 q5 q6 q7 q8=>?_);refine⟨_,_,_,_,rfl,?_⟩;refine zc ?_;exact hok t pk h2 a' k c' ke q1 ⟨q2.cells,f2_len,by omega⟩ (by omega) (fun ad had=>by have:=q3 ad had;have:=x1.next;omega) (x1.trans q4)
theorem Chords_ok(hW:LW F){h:AHeap}(hlow:h.low<=h.next){a:Option Addr}{n c:Nat}{l:List Vk}(hl:Vs h a n l)(hn:n<=1000){Q:Value->AHeap->Prop}
  (hbad:∀e h',e≠0->CkR l e->Ext h h'->Q (.tuple #[.slice none 0 0,.int .i64 e]) h')
  (hok:∀t pk h' a' k c',CkR l 0->Parts (basP l) (stS l) (fun _=>false) [] 0 t pk->Rows F2.cells 2 h' a' k (chds t (basP l))->From h.next a'->Ext h h'->Q (.tuple #[.slice a' k c',.int .i64 0]) h') :
  call 12 [.slice a n c] h Q:=by
 refine hA.bodyR Try.func12 r12_ok (hA.alike _ _ _ rfl) hlow (zc ?_);refine clcheck_ok hA hlow hl hn (fun e h1 ke x1=>⟨_,rfl,?_⟩);refine zc ?_;refine br (e≠0) (by rw[e_neq hA]) (fun c1=>?_) (fun c1=>?_)<;>refine zc ?_
 ·exact hbad e h1 c1 ke x1
 have e0:e=0:=by omega
 subst e0;obtain⟨k1,k2,k3⟩:=ke.ok0;refine joins_ok hA hW (x1.lowOK hlow) (hl.ext x1) (okV.st k2) hn (basP_is k2) k3 (fun t h2 id pk q1 q2 q3 q4 q5 q6=>?_);refine⟨_,rfl,?_⟩;refine zc ?_;have x2:=x1.trans q3;refine chords_ok hA (x2.lowOK hlow) (hl.ext x2) (okV.st k2) hn (basP_is k2) k3 q5 q2 (fun h3 a' k c' y1 y2 y3 y4 y5=>?_);refine⟨_,_,_,rfl,?_⟩;refine zc ?_;exact hok t pk h3 a' k c' ke q1 ⟨y1.cells,f2_len,by omega⟩ (fun ad had=>by have:=y2 ad had;have:=x2.next;omega) (x2.trans y5)
theorem Basis_ok(hW:LW F){h:AHeap}(hlow:h.low<=h.next){a:Option Addr}{n c:Nat}{l:List Vk}(hl:Vs h a n l)(hn:n<=1000){Q:Value->AHeap->Prop}
  (hbad:∀e h',e≠0->CkR l e->Ext h h'->Q (.tuple #[.slice none 0 0,.int .i64 e]) h')
  (hok:∀t pk h' a' k c' hs',CkR l 0->Parts (basP l) (stS l) (fun _=>false) [] 0 t pk->t.length<=8->GrR iC 1 h' a' k hs' ((chds t (basP l)).map (circF t))->From h.next a'->Ext h h'->Q (.tuple #[.slice a' k c',.int .i64 0]) h') :
  call 14 [.slice a n c] h Q:=by
 refine hA.bodyR Try.func14 r14_ok (hA.alike _ _ _ rfl) hlow (zc ?_);refine clcheck_ok hA hlow hl hn (fun e h1 ke x1=>⟨_,rfl,?_⟩);refine zc ?_;refine br (e≠0) (by rw[e_neq hA]) (fun c1=>?_) (fun c1=>?_)<;>refine zc ?_
 ·exact hbad e h1 c1 ke x1
 have e0:e=0:=by omega
 subst e0;obtain⟨k1,k2,k3⟩:=ke.ok0;refine basis_ok hA hW (x1.lowOK hlow) (hl.ext x1) (okV.st k2) (okV.lt k2) hn (basP_is k2) k3 (fun t pk h2 a1 k1' c1' a2 c2 hs' q1 q2 q3 q4 q5 q6 q7=>?_);refine⟨_,_,_,_,_,_,rfl,?_⟩;refine zc ?_;exact hok t pk h2 a2 k1' c2 hs' ke q1 q2 q4 (fun ad had=>by have:=q7 ad had;have:=x1.next;omega) (x1.trans q5)
theorem Way_ok(hW:LW F){h:AHeap}(hlow:h.low<=h.next){a:Option Addr}{n c:Nat}{l:List Vk}(hl:Vs h a n l)(hn:n<=1000){x y:Int}{Q:Value->AHeap->Prop}
  (hbad:∀e h',e≠0->CkR l e->Ext h h'->Q (.tuple #[.slice none 0 0,.int .i64 e]) h')
  (harg:∀h',CkR l 0->¬(stS l x/\stS l y)->Ext h h'->Q (.tuple #[.slice none 0 0,.int .i64 2]) h')
  (hno:∀t pk h',CkR l 0->stS l x->stS l y->Parts (basP l) (stS l) (fun _=>false) [] 0 t pk->pathR (trT t) x y=none->Ext h h'->Q (.tuple #[.slice none 0 0,.int .i64 6]) h')
  (hok:∀t pk h' a' c' p,CkR l 0->stS l x->stS l y->Parts (basP l) (stS l) (fun _=>false) [] 0 t pk->t.length<=8->pathR (trT t) x y=some p->Rows iC 1 h' a' p.length p->From h.next a'->Ext h h'->Q (.tuple #[.slice a' p.length c',.int .i64 0]) h') :
  call 16 [.slice a n c,.int .i64 x,.int .i64 y] h Q:=by
 refine hA.bodyR Try.func16 r16_ok (hA.alike _ _ _ rfl) hlow (zc ?_);refine clcheck_ok hA hlow hl hn (fun e h1 ke x1=>⟨_,rfl,?_⟩);refine zc ?_;refine br (e≠0) (by rw[e_neq hA]) (fun c1=>?_) (fun c1=>?_)<;>refine zc ?_
 ·exact hbad e h1 c1 ke x1
 have e0:e=0:=by omega
 subst e0;obtain⟨k1,k2,k3⟩:=ke.ok0;refine stations_ok hA (x1.lowOK hlow) (hl.ext x1) hn (fun h2 id M q1 q2 q3 q4 q5=>?_);refine⟨_,rfl,?_⟩;refine zc ?_;obtain⟨u1,hu1⟩:∃z,z=(getL M x).getD false:=⟨_,rfl⟩;obtain⟨b1,hb1⟩:∃z,z=(getL M x).isSome:=⟨_,rfl⟩;obtain⟨u2,hu2⟩:∃z,z=(getL M y).getD false:=⟨_,rfl⟩;obtain⟨b2,hb2⟩:∃z,z=(getL M y).isSome:=⟨_,rfl⟩;have s1:b1=true↔stS l x:=by rw[hb1];exact q2.keys x
 have s2:b2=true↔stS l y:=by rw[hb2];exact q2.keys y
 refine⟨u1,b1,(e_mget hA _ _ _ _ _ _).mpr (by rw[hu1,hb1];exact look_enc mIB q1 x),?_⟩;refine zc ?_;refine⟨u2,b2,(e_mget hA _ _ _ _ _ _).mpr (by rw[hu2,hb2];exact look_enc mIB q1 y),?_⟩;refine zc ?_;have x2:=x1.trans q3;refine br (b1=false) (by rw[e_bnot hA];cases b1<;>rfl) (fun c2=>?_) (fun c2=>?_)<;>refine zc ?_
 ·exact harg h2 ke (fun z=>by have:=s1.2 z.1;rw[c2]at this;cases this) x2
 have t1:=s1.1 (by cases b1 with|true=>rfl|false=>exact absurd rfl c2);refine br (b2=false) (by rw[e_bnot hA];cases b2<;>rfl) (fun c3=>?_) (fun c3=>?_)<;>refine zc ?_
 ·exact harg h2 ke (fun z=>by have:=s2.2 z.2;rw[c3]at this;cases this) x2
 have t2:=s2.1 (by cases b2 with|true=>rfl|false=>exact absurd rfl c3);refine joins_ok hA hW (x2.lowOK hlow) (hl.ext x2) (okV.st k2) hn (basP_is k2) k3 (fun t h3 id2 pk y1 y2 y3 y4 y5 y6=>?_);refine⟨_,rfl,?_⟩;refine zc ?_;have x3:=x2.trans y3;refine way_call hA hW y2 (parts_grows y1) (by omega) (fun q=>?_) (fun p q=>?_)
 ·refine⟨_,_,_,rfl,?_⟩
  refine zc ?_;exact hno t pk h3 ke t1 t2 y1 q x3
 ·obtain⟨pn,hpn⟩:∃z,z=p.length:=⟨_,rfl⟩
  obtain⟨cw,hcw⟩:∃z,z=someCap 1 pn:=⟨_,rfl⟩;have ew:=Ext.push h3 1 (p.map (.int .i64));have ow:=Own.push h3 1 (p.map (.int .i64));have nw:(h3.push 1 (p.map (.int .i64))).next=h3.next+1:=rfl;generalize h3.push 1 (p.map (.int .i64))=h4 at *;rw[<-hpn,<-hcw];refine⟨_,_,_,rfl,?_⟩;refine zc ?_;rw[hpn];have hr:Rows iC 1 h4 (some ⟨h3.next,0,none⟩) p.length p:=Own.rows (by rw[iC_flat];exact ow) iC_len (by omega) (by omega);exact hok t pk h4 _ _ p ke t1 t2 y1 y6 q hr (fun ad had=>by cases had;show h.next<=h3.next;exact x3.next) (x3.trans ew)
end Go.Proofs.Ytmkiclinllifiaa
namespace Go.Proofs.Ytmkiclinllifiaa
open Go.Sim
set_option maxRecDepth 100000
theorem guardP:Try.prog.eqGuardType Try.prog.depth 54=false:=by kernel_rfl
theorem eqP(a b a' b':Int):∃r,eqA Try.prog 30 54 (.agg #[.int .i64 a,.int .i64 b]) (.agg #[.int .i64 a',.int .i64 b'])=some r/\(r=true↔a=a'/\b=b'):=by
 have h3:Try.prog.underlying 3=some (.int .i64):=by kernel_rfl
 have hst:Try.prog.stoodInHeld 54=false:=by kernel_rfl
 have i3:isAggB Try.prog 3=some false:=by kernel_rfl
 have e3:∀(n:Nat) (x y:Int),eqA Try.prog (n+1) 3 (.int .i64 x) (.int .i64 y)=some (x == y):=by
  intro n x y;unfold eqA;rw[h3];simp
 have key:eqA Try.prog (28+1+1) 54 (.agg #[.int .i64 a,.int .i64 b]) (.agg #[.int .i64 a',.int .i64 b'])=some ((a == a') && (b == b')):=by
  unfold eqA;rw[Try.underlying54];have e3':∀(x y:Int),eqA Try.prog 29 3 (.int .i64 x) (.int .i64 y)=some (x == y):=e3 28;simp only[hst,cond_false,List.foldr,partA,i3,List.getElem?_cons_zero,List.getElem?_cons_succ,e3',String.reduceEq,if_false];cases a == a'<;>cases b == b'<;>rfl
 refine⟨_,key,?_⟩;simp only[Bool.and_eq_true,beq_iff_eq]
variable{F:Prims}{call head arith cmp scmp bnot bsame conv neg imax imin ofNat slen place inR nz geZ rd wr push next mkOK nat zeros sadd eqAgg cut slc sslc strAt part app cpy putAt fresh lowered bump wrote addN lt ne fpAll fpApp brk yn rng mget mput mnew bytes clr mrng ment:_}(hA:AP F ⟨call,head,arith,cmp,scmp,bnot,bsame,conv,neg,imax,imin,ofNat,slen,place,inR,nz,geZ,rd,wr,push,next,mkOK,nat,zeros,sadd,eqAgg,cut,slc,sslc,strAt,part,app,cpy,putAt,fresh,lowered,bump,wrote,addN,lt,ne,fpAll,fpApp,brk,yn,rng,mget,mput,mnew,bytes,clr,mrng,ment⟩)
include hA
theorem spairs_loop{h0:AHeap}(hlow:h0.low<=h0.next){a a':Option Addr}{n c c':Nat}{l:List F2}(hl:Rows F2.cells 2 h0 a n l)(hl':Rows F2.cells 2 h0 a' n l)(hn:n<=100000){Q:Exit->SS->Prop}
  (hok:∀h' kn,Ext h0 h'->Q (.exit 0) ⟨[],kn,[],h'⟩) :
  ∀(m:Nat) (i:Int) (h:AHeap),(n-i).toNat<=m->0<=i->i<=n->Ext h0 h->
   head 18 4 0 ⟨[(0,.slice a n c),(1,.slice a' n c'),(5,.int .i64 i)],0,[],h⟩ Q:=by
 have hlen:=hl.len;refine upTo (fun m ih=>?_);intro i h hm i0 i1 he;by_cases ci:i<n
 rotate_left
 ·refine hA.roundR Try.func18 r18_ok (zc ?_)
  refine br (i<n) (by rw[e_lss hA,e_ofNat hA]) (fun c1=>absurd c1 ci) (fun c1=>?_)<;>refine zc ?_;exact hok h _ he
 obtain⟨m,rfl⟩:∃k,m=k+1:=⟨m-1,by omega⟩
 replace ih:=ih m rfl
 obtain⟨h9,hh9⟩:∃z,z=bump h 9:=⟨_,rfl⟩;have e9:Ext h0 h9:=by rw[hh9];exact he.trans (ext_bump hA _ _)
 obtain⟨b,o,a1,a2,rfl,_,hg,r1,_⟩:=fr_at (hl.ext e9) (i:=i) i0 ci;obtain⟨b',o',p1,p2,rfl,_,hp,q1,_⟩:=fr_at (hl'.ext e9) (i:=i) i0 ci;rw[hg]at hp;cases hp;have r2:=rd_ok hA r1;have q2:=rd_ok hA q1;obtain⟨r,hr1,hr2⟩:=eqP a1 a2 a1 a2;obtain rfl:r=true:=hr2.2 ⟨rfl,rfl⟩;refine hA.roundR Try.func18 r18_ok (zc ?_);refine br (i<n) (by rw[e_lss hA,e_ofNat hA]) (fun c1=>?_) (fun c1=>absurd ci c1)<;>refine zc ?_;rw[<-hh9];refine zq ?_;rw[e_eqAgg hA];refine⟨guardP,true,hr1,?_⟩;refine zc ?_;rw[show bnot true=false by rw[e_bnot hA];rfl];refine zc ?_;rw[add64 hA (by omega) (by omega)];exact ih (i+1) h9 (by omega) (by omega) (by omega) e9
theorem spairs_ok{h:AHeap}(hlow:h.low<=h.next){a a':Option Addr}{n n' c c':Nat}{l:List F2}(hl:Rows F2.cells 2 h a n l)(hl':Rows F2.cells 2 h a' n' l)(hn:n<=100000){Q:Value->AHeap->Prop}
  (hQ:∀h',Ext h h'->Q (.bool true) h'):call 18 [.slice a n c,.slice a' n' c'] h Q:=by
 have hlen:=hl.len;have hlen':=hl'.len;obtain rfl:n=n':=by omega
 refine hA.bodyR Try.func18 r18_ok (hA.alike _ _ _ rfl) hlow (zc ?_);refine br ((n:Int)≠n) (by rw[e_neq hA,e_ofNat hA]) (fun c1=>absurd rfl c1) (fun c1=>?_)<;>refine zc ?_;refine spairs_loop hA hlow hl hl' hn (fun h' kn x'=>?_) n 0 h (by omega) (by omega) (by omega) (.refl h);refine zc ?_;exact hQ h' x'
theorem sints_loop{h0:AHeap}(hlow:h0.low<=h0.next){a a':Option Addr}{n c c':Nat}{l:List Int}(hl:Rows iC 1 h0 a n l)(hl':Rows iC 1 h0 a' n l)(hn:n<=100000){Q:Exit->SS->Prop}
  (hok:∀h' kn,Ext h0 h'->Q (.exit 0) ⟨[],kn,[],h'⟩) :
  ∀(m:Nat) (i:Int) (h:AHeap),(n-i).toNat<=m->0<=i->i<=n->Ext h0 h->
   head 20 4 0 ⟨[(0,.slice a n c),(1,.slice a' n c'),(5,.int .i64 i)],0,[],h⟩ Q:=by
 have hlen:=hl.len;refine upTo (fun m ih=>?_);intro i h hm i0 i1 he;by_cases ci:i<n
 rotate_left
 ·refine hA.roundR Try.func20 r20_ok (zc ?_)
  refine br (i<n) (by rw[e_lss hA,e_ofNat hA]) (fun c1=>absurd c1 ci) (fun c1=>?_)<;>refine zc ?_;exact hok h _ he
 obtain⟨m,rfl⟩:∃k,m=k+1:=⟨m-1,by omega⟩
 replace ih:=ih m rfl
 obtain⟨h9,hh9⟩:∃z,z=bump h 9:=⟨_,rfl⟩;have e9:Ext h0 h9:=by rw[hh9];exact he.trans (ext_bump hA _ _)
 obtain⟨b,o,rfl,_,r1⟩:=(hl.ext e9).at (i:=i) i0 (by omega);obtain⟨b',o',rfl,_,q1⟩:=(hl'.ext e9).at (i:=i) i0 (by omega);have r2:rd h9 b (place o i 1) 1 [.int .i64 (gt l i)]:=rd_ok hA (r1 0 1 (by omega) (by omega));have q2:rd h9 b' (place o' i 1) 1 [.int .i64 (gt l i)]:=rd_ok hA (q1 0 1 (by omega) (by omega));obtain⟨v,hv⟩:∃v,v=gt l i:=⟨_,rfl⟩;rw[<-hv]at r2 q2;refine hA.roundR Try.func20 r20_ok (zc ?_);refine br (i<n) (by rw[e_lss hA,e_ofNat hA]) (fun c1=>?_) (fun c1=>absurd ci c1)<;>refine zc ?_;rw[<-hh9];refine zq ?_;refine br (v≠v) (by rw[e_neq hA]) (fun c1=>absurd rfl c1) (fun c1=>?_)<;>refine zc ?_;rw[add64 hA (by omega) (by omega)];exact ih (i+1) h9 (by omega) (by omega) (by omega) e9
theorem sints_ok{h:AHeap}(hlow:h.low<=h.next){a a':Option Addr}{n n' c c':Nat}{l:List Int}(hl:Rows iC 1 h a n l)(hl':Rows iC 1 h a' n' l)(hn:n<=100000){Q:Value->AHeap->Prop}
  (hQ:∀h',Ext h h'->Q (.bool true) h'):call 20 [.slice a n c,.slice a' n' c'] h Q:=by
 have hlen:=hl.len;have hlen':=hl'.len;obtain rfl:n=n':=by omega
 refine hA.bodyR Try.func20 r20_ok (hA.alike _ _ _ rfl) hlow (zc ?_);refine br ((n:Int)≠n) (by rw[e_neq hA,e_ofNat hA]) (fun c1=>absurd rfl c1) (fun c1=>?_)<;>refine zc ?_;refine sints_loop hA hlow hl hl' hn (fun h' kn x'=>?_) n 0 h (by omega) (by omega) (by omega) (.refl h);refine zc ?_;exact hQ h' x'
theorem slists_loop{h0:AHeap}(hlow:h0.low<=h0.next){a a':Option Addr}{n c c':Nat}{hs hs':List Hd}{g:List (List Int)}(hl:GrR iC 1 h0 a n hs g)(hl':GrR iC 1 h0 a' n hs' g)(hn:n<=100000)(hg:∀r∈g,r.length<=1000){Q:Exit->SS->Prop}
  (hok:∀h' kn,Ext h0 h'->Q (.exit 0) ⟨[],kn,[],h'⟩) :
  ∀(m:Nat) (i:Int) (h:AHeap),(n-i).toNat<=m->0<=i->i<=n->Ext h0 h->
   head 19 4 0 ⟨[(0,.slice a n c),(1,.slice a' n c'),(5,.int .i64 i)],0,[],h⟩ Q:=by
 have hlen:=hl.len;refine upTo (fun m ih=>?_);intro i h hm i0 i1 he;by_cases ci:i<n
 rotate_left
 ·refine hA.roundR Try.func19 r19_ok (zc ?_)
  refine br (i<n) (by rw[e_lss hA,e_ofNat hA]) (fun c1=>absurd c1 ci) (fun c1=>?_)<;>refine zc ?_;exact hok h _ he
 obtain⟨m,rfl⟩:∃k,m=k+1:=⟨m-1,by omega⟩
 replace ih:=ih m rfl
 obtain⟨h9,hh9⟩:∃z,z=bump h 10:=⟨_,rfl⟩;have e9:Ext h0 h9:=by rw[hh9];exact he.trans (ext_bump hA _ _)
 have G1:=hl.ext e9;have G2:=hl'.ext e9;obtain⟨b,o,rfl,_⟩:=G1.some (by omega);obtain⟨b',o',rfl,_⟩:=G2.some (by omega);have r2:=gr_head hA G1 i0 ci;have q2:=gr_head hA G2 i0 ci;have R1:=G1.row i i0 ci;have R2:=G2.row i i0 ci;have hrow:=hg (gt g i) (gt_mem g i0 (by have:=G1.len;omega));obtain⟨⟨ua,un,uc⟩,hu⟩:∃z,z=gt hs i:=⟨_,rfl⟩;obtain⟨⟨va,vn,vc⟩,hv⟩:∃z,z=gt hs' i:=⟨_,rfl⟩;rw[<-hu]at r2 R1;rw[<-hv]at q2 R2;simp only at r2 q2 R1 R2;have l9:=e9.lowOK hlow;refine hA.roundR Try.func19 r19_ok (zc ?_);refine br (i<n) (by rw[e_lss hA,e_ofNat hA]) (fun c1=>?_) (fun c1=>absurd ci c1)<;>refine zc ?_;rw[<-hh9];refine zq ?_;refine sints_ok hA (low_fresh hA h9) (R1.ext (ext_fresh hA h9)) (R2.ext (ext_fresh hA h9)) (by have:=R1.len;omega) (fun hz ez=>⟨_,rfl,?_⟩);obtain⟨hX,hhX⟩:∃z,z=lowered h9 hz:=⟨_,rfl⟩;have eX:Ext h0 hX:=by rw[hhX];exact ext_low hA hlow e9 ez
 refine zc ?_;rw[<-hhX];rw[show bnot true=false by rw[e_bnot hA];rfl];refine zc ?_;rw[add64 hA (by omega) (by omega)];exact ih (i+1) hX (by omega) (by omega) (by omega) eX
theorem slists_ok{h:AHeap}(hlow:h.low<=h.next){a a':Option Addr}{n n' c c':Nat}{hs hs':List Hd}{g:List (List Int)}(hl:GrR iC 1 h a n hs g)(hl':GrR iC 1 h a' n' hs' g)(hn:n<=100000)(hg:∀r∈g,r.length<=1000){Q:Value->AHeap->Prop}
  (hQ:∀h',Ext h h'->Q (.bool true) h'):call 19 [.slice a n c,.slice a' n' c'] h Q:=by
 have hlen:=hl.len;have hlen':=hl'.len;obtain rfl:n=n':=by omega
 refine hA.bodyR Try.func19 r19_ok (hA.alike _ _ _ rfl) hlow (zc ?_);refine br ((n:Int)≠n) (by rw[e_neq hA,e_ofNat hA]) (fun c1=>absurd rfl c1) (fun c1=>?_)<;>refine zc ?_;refine slists_loop hA hlow hl hl' hn hg (fun h' kn x'=>?_) n 0 h (by omega) (by omega) (by omega) (.refl h);refine zc ?_;exact hQ h' x'
