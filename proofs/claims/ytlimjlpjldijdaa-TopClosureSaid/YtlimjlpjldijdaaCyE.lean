import Derived.Test.YtlimjlpjldijdaaSeatA
import Derived.Test.YtlimjlpjldijdaaSeatB
import Derived.Test.YtlimjlpjldijdaaSeatC
import Derived.Test.YtlimjlpjldijdaaSeatD
import Derived.Test.YtlimjlpjldijdaaSeatE
import Derived.KernelRfl
import Derived.Test.YtlimjlpjldijdaaCxA
import Derived.Test.YtlimjlpjldijdaaCxM
import Derived.Test.YtlimjlpjldijdaaCySt
set_option linter.unusedSimpArgs false
set_option linter.unusedVariables false
namespace Go.Proofs.Ytlimjlpjldijdaa
open Go.Sim
set_option maxRecDepth 100000
theorem guardC:Try.prog.eqGuardType Try.prog.depth 30=false:=by kernel_rfl
theorem eqC(a b c a' b' c':Int):∃r,eqA Try.prog 30 30 (.agg #[.int .i64 a,.int .i64 b,.int .i64 c]) (.agg #[.int .i64 a',.int .i64 b',.int .i64 c'])=some r/\(r=true↔a=a'/\b=b'/\c=c'):=by
 have h3:Try.prog.underlying 2=some (.int .i64):=by kernel_rfl
 have hst:Try.prog.stoodInHeld 30=false:=by kernel_rfl
 have i3:isAggB Try.prog 2=some false:=by kernel_rfl
 have e3:∀(n:Nat) (x y:Int),eqA Try.prog (n+1) 2 (.int .i64 x) (.int .i64 y)=some (x == y):=by
  intro n x y;unfold eqA;rw[h3];simp
 have key:eqA Try.prog (28+1+1) 30 (.agg #[.int .i64 a,.int .i64 b,.int .i64 c]) (.agg #[.int .i64 a',.int .i64 b',.int .i64 c'])=some ((a == a') && ((b == b') && (c == c'))):=by
  unfold eqA;rw[Try.underlying30];have e3':∀(x y:Int),eqA Try.prog 29 2 (.int .i64 x) (.int .i64 y)=some (x == y):=e3 28;simp only[hst,cond_false,List.foldr,partA,i3,List.getElem?_cons_zero,List.getElem?_cons_succ,e3',String.reduceEq,if_false];cases a == a'<;>cases b == b'<;>cases c == c'<;>rfl
 refine⟨_,key,?_⟩;simp only[Bool.and_eq_true,beq_iff_eq]
end Go.Proofs.Ytlimjlpjldijdaa
namespace Go.Proofs.Ytlimjlpjldijdaa
open Go.Sim
set_option maxRecDepth 100000
structure Ck where
 a:Int
 b:Int
 d:Int
instance:Inhabited Ck:=⟨⟨0,0,0⟩⟩
def Ck.cells(k:Ck):List Value:=[.int .i64 k.a,.int .i64 k.b,.int .i64 k.d]
def Ck.ok(k:Ck):Prop:=okC k.a k.b k.d
abbrev Cs(h:AHeap)(a:Option Addr)(n:Nat)(l:List Ck):Prop:=Rows Ck.cells 3 h a n l
theorem ck_len(k:Ck):k.cells.length=3:=rfl
theorem ck_ok(k:Ck):k.cells.all cellOK=true:=rfl
theorem cs_at{h:AHeap}{a:Option Addr}{n:Nat}{l:List Ck}(p:Cs h a n l){i:Int}(h0:0<=i)(hi:i<n) :
  ∃b o x y z,a=some ⟨b,o,none⟩/\b<h.next/\gt l i=⟨x,y,z⟩/\h.readG ⟨b,o+i.toNat*3,none⟩ 3=some [.int .i64 x,.int .i64 y,.int .i64 z]:=by
 obtain⟨b,o,h1,h2,h3⟩:=p.at h0 hi;exact⟨b,o,(gt l i).a,(gt l i).b,(gt l i).d,h1,h2,rfl,h3 0 3 (by omega) (by omega)⟩
theorem gt_extR{α:Type}[Inhabited α]{l l':List α}(h:l.length=l'.length)(k:∀j:Int,0<=j->j<l.length->gt l j=gt l' j):l=l':=by
 apply List.ext_getElem h;intro i h1 h2;have:=k i (by omega) (by omega);unfold gt at this;simpa[h1,h2]using this
variable{F:Prims}{call head arith cmp scmp bnot bsame conv neg imax imin ofNat slen place inR nz geZ rd wr push next mkOK nat zeros sadd eqAgg cut slc sslc strAt part app cpy putAt fresh lowered bump wrote addN lt ne fpAll fpApp brk yn rng mget mput mnew bytes clr mrng ment:_}(hA:AP F ⟨call,head,arith,cmp,scmp,bnot,bsame,conv,neg,imax,imin,ofNat,slen,place,inR,nz,geZ,rd,wr,push,next,mkOK,nat,zeros,sadd,eqAgg,cut,slc,sslc,strAt,part,app,cpy,putAt,fresh,lowered,bump,wrote,addN,lt,ne,fpAll,fpApp,brk,yn,rng,mget,mput,mnew,bytes,clr,mrng,ment⟩)
include hA
theorem rcgcd_loop{h0:AHeap}{Q:Exit->SS->Prop}:∀(m:Nat) (a b:Int) (h:AHeap),b.natAbs<=m->i63 a->i63 b->0<=a->0<=b->Ext h0 h->
  (∀a':Int,i63 a'->(a'.natAbs:Int)=Int.gcd a b->0<=a'->∀e kn K h',Ext h0 h'->Q (.exit 0) ⟨(0,.int .i64 a') :: e,kn,K,h'⟩)->head 39 2 0 ⟨[(0,.int .i64 a),(1,.int .i64 b)],0,[],h⟩ Q:=by
 intro m
 induction m with
 |zero=>
  intro a b h hm ha hb a0 b0 he hQ;have hb0:b=0:=by omega
  refine hA.roundR Try.func39 r39_ok (zc ?_);refine br (b≠0) (by rw[e_neq hA]) (fun c=>absurd hb0 c) (fun c=>?_)<;>refine zc ?_;exact hQ a ha (by rw[hb0];simp) a0 _ _ _ h he
 |succ m ih=>
  intro a b h hm ha hb a0 b0 he hQ;refine hA.roundR Try.func39 r39_ok (zc ?_);refine br (b≠0) (by rw[e_neq hA]) (fun c=>?_) (fun c=>?_)<;>refine zc ?_
  ·obtain⟨h9,hh9⟩:∃z,z=bump h 6:=⟨_,rfl⟩
   have e9:Ext h h9:=by rw[hh9,e_bump hA];exact .bump _ _
   rw[<-hh9];refine⟨nz_ok hA c,?_⟩;refine zc ?_;rw[rem_tmod hA];have l1:(a.tmod b).natAbs<b.natAbs:=by rw[Int.natAbs_tmod];exact Nat.mod_lt _ (by omega)
   unfold i63 at hb;refine ih b (a.tmod b) h9 (by omega) hb (by unfold i63;omega) b0 (Int.tmod_nonneg _ a0) (he.trans e9) (fun a' h1 h2=>hQ a' h1 ?_);rw[h2,gcd_tmod]
  ·have hb0:b=0:=by omega
   exact hQ a ha (by rw[hb0];simp) a0 _ _ _ h he
theorem rcgcd_ok{h:AHeap}(hlow:h.low<=h.next){a b:Int}(ha:i63 a)(hb:i63 b){Q:Value->AHeap->Prop}(hQ:∀g:Int,g=Int.gcd a b->∀h',Ext h h'->Q (.int .i64 g) h'):call 39 [.int .i64 a,.int .i64 b] h Q:=by
 refine hA.bodyR Try.func39 r39_ok (hA.alike _ _ _ rfl) hlow (zc ?_);rw[imax_abs hA ha,imax_abs hA hb];have ha':i63 (a.natAbs:Int):=by unfold i63 at *;omega
 have hb':i63 (b.natAbs:Int):=by unfold i63 at *;omega
 have e:Int.gcd (a.natAbs:Int) (b.natAbs:Int)=Int.gcd a b:=by unfold Int.gcd;rw[Int.natAbs_natCast,Int.natAbs_natCast]
 have a0:(0:Int)<=(a.natAbs:Int):=by omega
 have b0:(0:Int)<=(b.natAbs:Int):=by omega
 rw[<-e]at hQ;generalize (a.natAbs:Int)=x at *;generalize (b.natAbs:Int)=y at *;refine rcgcd_loop hA y.natAbs x y h (Nat.le_refl _) ha' hb' a0 b0 (.refl h) (fun a' h1 h2 h3 e kn K h' he=>?_);refine zc ?_;exact hQ _ (by omega) h' he
theorem rccheck_ok{h:AHeap}(hlow:h.low<=h.next){a b d:Int}{Q:Value->AHeap->Prop}
  (hQ:∀(e:Int) h',(e=0/\okC a b d)\/(e=8/\¬okC a b d)->Ext h h'->Q (.int .i64 e) h'):call 15 [.agg #[.int .i64 a,.int .i64 b,.int .i64 d]] h Q:=by
 have bad:¬(1<=d/\d<=1000000000/\-1000000000<=a/\a<=1000000000/\-1000000000<=b/\b<=1000000000/\Int.gcd (Int.gcd a b) d=1)->¬okC a b d:=fun w q=>w ((okC_iff a b d).1 q)
 obtain⟨h9,hh9⟩:∃z,z=bump h 39:=⟨_,rfl⟩;have e9:Ext h h9:=by rw[hh9];exact ext_bump hA _ _
 have l9:=e9.lowOK hlow;refine hA.bodyR Try.func15 r15_ok (hA.alike _ _ _ rfl) hlow (zc ?_);rw[<-hh9];refine br (d<1) (by rw[e_lss hA]) (fun c1=>?_) (fun c1=>?_)<;>refine zc ?_
 ·exact hQ _ _ (.inr ⟨rfl,bad (by omega)⟩) e9
 refine br (1000000000<d) (by rw[e_gtr hA]) (fun c2=>?_) (fun c2=>?_)<;>refine zc ?_
 ·exact hQ _ _ (.inr ⟨rfl,bad (by omega)⟩) e9
 refine br (a < -1000000000) (by rw[e_lss hA]) (fun c3=>?_) (fun c3=>?_)<;>refine zc ?_
 ·exact hQ _ _ (.inr ⟨rfl,bad (by omega)⟩) e9
 refine br (1000000000<a) (by rw[e_gtr hA]) (fun c4=>?_) (fun c4=>?_)<;>refine zc ?_
 ·exact hQ _ _ (.inr ⟨rfl,bad (by omega)⟩) e9
 refine br (b < -1000000000) (by rw[e_lss hA]) (fun c5=>?_) (fun c5=>?_)<;>refine zc ?_
 ·exact hQ _ _ (.inr ⟨rfl,bad (by omega)⟩) e9
 refine br (1000000000<b) (by rw[e_gtr hA]) (fun c6=>?_) (fun c6=>?_)<;>refine zc ?_
 ·exact hQ _ _ (.inr ⟨rfl,bad (by omega)⟩) e9
 refine rcgcd_ok hA (low_fresh hA h9) (by unfold i63;omega) (by unfold i63;omega) (fun g hg hz ez=>⟨_,rfl,?_⟩);obtain⟨hX,hhX⟩:∃z,z=lowered h9 hz:=⟨_,rfl⟩;have eX:Ext h hX:=by rw[hhX];exact ext_low hA hlow e9 ez
 have lX:=eX.lowOK hlow;refine zc ?_;rw[<-hhX];have g1:=gcd_i63 (a:=a) (b:=b) (by unfold i63;omega) (by unfold i63;omega);rw[<-hg]at g1;refine rcgcd_ok hA (low_fresh hA hX) g1 (by unfold i63;omega) (fun g' hg' hz' ez'=>⟨_,rfl,?_⟩);obtain⟨hY,hhY⟩:∃z,z=lowered hX hz':=⟨_,rfl⟩;have eY:Ext h hY:=by rw[hhY];exact ext_low hA hlow eX ez'
 refine zc ?_;rw[<-hhY];rw[hg]at hg';refine br (g'≠1) (by rw[e_neq hA]) (fun c5=>?_) (fun c5=>?_)<;>refine zc ?_
 ·exact hQ _ _ (.inr ⟨rfl,bad (by omega)⟩) eY
 ·exact hQ _ _ (.inl ⟨rfl,(okC_iff a b d).2 (by omega)⟩) eY
end Go.Proofs.Ytlimjlpjldijdaa
namespace Go.Proofs.Ytlimjlpjldijdaa
open Go.Sim
set_option maxRecDepth 100000
variable{F:Prims}{call head arith cmp scmp bnot bsame conv neg imax imin ofNat slen place inR nz geZ rd wr push next mkOK nat zeros sadd eqAgg cut slc sslc strAt part app cpy putAt fresh lowered bump wrote addN lt ne fpAll fpApp brk yn rng mget mput mnew bytes clr mrng ment:_}(hA:AP F ⟨call,head,arith,cmp,scmp,bnot,bsame,conv,neg,imax,imin,ofNat,slen,place,inR,nz,geZ,rd,wr,push,next,mkOK,nat,zeros,sadd,eqAgg,cut,slc,sslc,strAt,part,app,cpy,putAt,fresh,lowered,bump,wrote,addN,lt,ne,fpAll,fpApp,brk,yn,rng,mget,mput,mnew,bytes,clr,mrng,ment⟩)
include hA
theorem sints_loop{h0:AHeap}(hlow:h0.low<=h0.next){a a':Option Addr}{n c c':Nat}{l:List Int}(hl:Rows iC 1 h0 a n l)(hl':Rows iC 1 h0 a' n l)(hn:n<=100000){Q:Exit->SS->Prop}
  (hok:∀h' kn,Ext h0 h'->Q (.exit 0) ⟨[],kn,[],h'⟩) :
  ∀(m:Nat) (i:Int) (h:AHeap),(n-i).toNat<=m->0<=i->i<=n->Ext h0 h->
   head 27 4 0 ⟨[(0,.slice a n c),(1,.slice a' n c'),(5,.int .i64 i)],0,[],h⟩ Q:=by
 have hlen:=hl.len;refine upTo (fun m ih=>?_);intro i h hm i0 i1 he;by_cases ci:i<n
 rotate_left
 ·refine hA.roundR Try.func27 r27_ok (zc ?_)
  refine br (i<n) (by rw[e_lss hA,e_ofNat hA]) (fun c1=>absurd c1 ci) (fun c1=>?_)<;>refine zc ?_;exact hok h _ he
 obtain⟨m,rfl⟩:∃k,m=k+1:=⟨m-1,by omega⟩
 replace ih:=ih m rfl
 obtain⟨h9,hh9⟩:∃z,z=bump h 9:=⟨_,rfl⟩;have e9:Ext h0 h9:=by rw[hh9];exact he.trans (ext_bump hA _ _)
 obtain⟨b,o,rfl,_,r1⟩:=(hl.ext e9).at (i:=i) i0 (by omega);obtain⟨b',o',rfl,_,q1⟩:=(hl'.ext e9).at (i:=i) i0 (by omega);have r2:rd h9 b (place o i 1) 1 [.int .i64 (gt l i)]:=rd_ok hA (r1 0 1 (by omega) (by omega));have q2:rd h9 b' (place o' i 1) 1 [.int .i64 (gt l i)]:=rd_ok hA (q1 0 1 (by omega) (by omega));obtain⟨v,hv⟩:∃v,v=gt l i:=⟨_,rfl⟩;rw[<-hv]at r2 q2;refine hA.roundR Try.func27 r27_ok (zc ?_);refine br (i<n) (by rw[e_lss hA,e_ofNat hA]) (fun c1=>?_) (fun c1=>absurd ci c1)<;>refine zc ?_;rw[<-hh9];refine zq ?_;refine br (v≠v) (by rw[e_neq hA]) (fun c1=>absurd rfl c1) (fun c1=>?_)<;>refine zc ?_;rw[add64 hA (by omega) (by omega)];exact ih (i+1) h9 (by omega) (by omega) (by omega) e9
theorem sints_ok{h:AHeap}(hlow:h.low<=h.next){a a':Option Addr}{n n' c c':Nat}{l:List Int}(hl:Rows iC 1 h a n l)(hl':Rows iC 1 h a' n' l)(hn:n<=100000){Q:Value->AHeap->Prop}
  (hQ:∀h',Ext h h'->Q (.bool true) h'):call 27 [.slice a n c,.slice a' n' c'] h Q:=by
 have hlen:=hl.len;have hlen':=hl'.len;obtain rfl:n=n':=by omega
 refine hA.bodyR Try.func27 r27_ok (hA.alike _ _ _ rfl) hlow (zc ?_);refine br ((n:Int)≠n) (by rw[e_neq hA,e_ofNat hA]) (fun c1=>absurd rfl c1) (fun c1=>?_)<;>refine zc ?_;refine sints_loop hA hlow hl hl' hn (fun h' kn x'=>?_) n 0 h (by omega) (by omega) (by omega) (.refl h);refine zc ?_;exact hQ h' x'
theorem slists_loop{h0:AHeap}(hlow:h0.low<=h0.next){a a':Option Addr}{n c c':Nat}{hs hs':List Hd}{g:List (List Int)}(hl:GrR iC 1 h0 a n hs g)(hl':GrR iC 1 h0 a' n hs' g)(hn:n<=100000)(hg:∀r∈g,r.length<=1000){Q:Exit->SS->Prop}
  (hok:∀h' kn,Ext h0 h'->Q (.exit 0) ⟨[],kn,[],h'⟩) :
  ∀(m:Nat) (i:Int) (h:AHeap),(n-i).toNat<=m->0<=i->i<=n->Ext h0 h->
   head 12 4 0 ⟨[(0,.slice a n c),(1,.slice a' n c'),(5,.int .i64 i)],0,[],h⟩ Q:=by
 have hlen:=hl.len;refine upTo (fun m ih=>?_);intro i h hm i0 i1 he;by_cases ci:i<n
 rotate_left
 ·refine hA.roundR Try.func12 r12_ok (zc ?_)
  refine br (i<n) (by rw[e_lss hA,e_ofNat hA]) (fun c1=>absurd c1 ci) (fun c1=>?_)<;>refine zc ?_;exact hok h _ he
 obtain⟨m,rfl⟩:∃k,m=k+1:=⟨m-1,by omega⟩
 replace ih:=ih m rfl
 obtain⟨h9,hh9⟩:∃z,z=bump h 10:=⟨_,rfl⟩;have e9:Ext h0 h9:=by rw[hh9];exact he.trans (ext_bump hA _ _)
 have G1:=hl.ext e9;have G2:=hl'.ext e9;obtain⟨b,o,rfl,_⟩:=G1.some (by omega);obtain⟨b',o',rfl,_⟩:=G2.some (by omega);have r2:=gr_head hA G1 i0 ci;have q2:=gr_head hA G2 i0 ci;have R1:=G1.row i i0 ci;have R2:=G2.row i i0 ci;have hrow:=hg (gt g i) (gt_mem g i0 (by have:=G1.len;omega));obtain⟨⟨ua,un,uc⟩,hu⟩:∃z,z=gt hs i:=⟨_,rfl⟩;obtain⟨⟨va,vn,vc⟩,hv⟩:∃z,z=gt hs' i:=⟨_,rfl⟩;rw[<-hu]at r2 R1;rw[<-hv]at q2 R2;simp only at r2 q2 R1 R2;have l9:=e9.lowOK hlow;refine hA.roundR Try.func12 r12_ok (zc ?_);refine br (i<n) (by rw[e_lss hA,e_ofNat hA]) (fun c1=>?_) (fun c1=>absurd ci c1)<;>refine zc ?_;rw[<-hh9];refine zq ?_;refine sints_ok hA (low_fresh hA h9) (R1.ext (ext_fresh hA h9)) (R2.ext (ext_fresh hA h9)) (by have:=R1.len;omega) (fun hz ez=>⟨_,rfl,?_⟩);obtain⟨hX,hhX⟩:∃z,z=lowered h9 hz:=⟨_,rfl⟩;have eX:Ext h0 hX:=by rw[hhX];exact ext_low hA hlow e9 ez
 refine zc ?_;rw[<-hhX];rw[show bnot true=false by rw[e_bnot hA];rfl];refine zc ?_;rw[add64 hA (by omega) (by omega)];exact ih (i+1) hX (by omega) (by omega) (by omega) eX
theorem slists_ok{h:AHeap}(hlow:h.low<=h.next){a a':Option Addr}{n n' c c':Nat}{hs hs':List Hd}{g:List (List Int)}(hl:GrR iC 1 h a n hs g)(hl':GrR iC 1 h a' n' hs' g)(hn:n<=100000)(hg:∀r∈g,r.length<=1000){Q:Value->AHeap->Prop}
  (hQ:∀h',Ext h h'->Q (.bool true) h'):call 12 [.slice a n c,.slice a' n' c'] h Q:=by
 have hlen:=hl.len;have hlen':=hl'.len;obtain rfl:n=n':=by omega
 refine hA.bodyR Try.func12 r12_ok (hA.alike _ _ _ rfl) hlow (zc ?_);refine br ((n:Int)≠n) (by rw[e_neq hA,e_ofNat hA]) (fun c1=>absurd rfl c1) (fun c1=>?_)<;>refine zc ?_;refine slists_loop hA hlow hl hl' hn hg (fun h' kn x'=>?_) n 0 h (by omega) (by omega) (by omega) (.refl h);refine zc ?_;exact hQ h' x'
theorem seen_ok{h:AHeap}(hlow:h.low<=h.next)(v:Vk){Q:Value->AHeap->Prop}(hQ:∀(r:Bool) h',(r=true↔okV v)->Ext h h'->Q (.bool r) h') :
  call 38 [.agg #[.int .i64 v.i,.int .i64 v.j,.int .i64 v.re,.int .i64 v.im,.int .i64 v.den,.int .i64 v.n],.int .i64 8] h Q:=by
 obtain⟨x,y,re,im,d,w⟩:=v;refine hA.bodyR Try.func38 r38_ok (hA.alike _ _ _ rfl) hlow (zc ?_);refine br (0<=x) (by rw[e_geq hA]) (fun c1=>?_) (fun c1=>?_)<;>refine zc ?_
 rotate_left
 ·exact hQ false h (by simp;intro q;exact absurd q.1 c1) (.refl h)
 refine br (x<y) (by rw[e_lss hA]) (fun c2=>?_) (fun c2=>?_)<;>refine zc ?_
 rotate_left
 ·exact hQ false h (by simp;intro q;exact absurd q.2.1 c2) (.refl h)
 refine br (y<8) (by rw[e_lss hA]) (fun c3=>?_) (fun c3=>?_)<;>refine zc ?_
 rotate_left
 ·exact hQ false h (by simp;intro q;exact absurd q.2.2.1 c3) (.refl h)
 refine rccheck_ok hA hlow (fun e h' ke x'=>⟨_,rfl,?_⟩);refine zc ?_;refine br (e=0) (by rw[e_eql hA]) (fun c4=>?_) (fun c4=>?_)<;>refine zc ?_
 rotate_left
 ·refine hQ false h' ⟨(fun q=>by cases q),fun q=>?_⟩ x'
  rcases ke with ⟨z,_⟩|⟨_,z⟩
  ·exact absurd z c4
  ·exact absurd q.2.2.2.2 z
 have ok5:okC re im d:=by
  rcases ke with ⟨_,z⟩|⟨z,_⟩
  ·exact z
  ·omega
 rw[e_geq hA];refine hQ _ h' ?_ x';rw[decide_eq_true_iff];exact⟨fun q=>⟨c1,c2,c3,q,ok5⟩,fun q=>q.2.2.2.1⟩
