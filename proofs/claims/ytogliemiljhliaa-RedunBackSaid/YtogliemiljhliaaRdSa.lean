import Derived.Test.YtogliemiljhliaaRdV
import Derived.Test.YtogliemiljhliaaFracT
set_option linter.unusedSimpArgs false
set_option linter.unusedVariables false
namespace Go.Proofs.Ytogliemiljhliaa
open Go.Sim
set_option maxRecDepth 100000
variable{F:Prims}{call head arith cmp scmp bnot bsame conv neg imax imin ofNat slen place inR nz geZ rd wr push next mkOK nat zeros sadd eqAgg cut slc sslc strAt part app cpy putAt fresh lowered bump wrote addN lt ne fpAll fpApp brk yn rng mget mput mnew bytes clr:_}(hA:AP F ⟨call,head,arith,cmp,scmp,bnot,bsame,conv,neg,imax,imin,ofNat,slen,place,inR,nz,geZ,rd,wr,push,next,mkOK,nat,zeros,sadd,eqAgg,cut,slc,sslc,strAt,part,app,cpy,putAt,fresh,lowered,bump,wrote,addN,lt,ne,fpAll,fpApp,brk,yn,rng,mget,mput,mnew,bytes,clr⟩)
include hA
theorem ints_loop{h:AHeap}(hlow:h.low<=h.next){a b:Option Addr}{n ca cb:Nat}{l:List Int}(ha:Is h a n l)(hb:Is h b n l)(n100:n<=100000){Q:Exit->SS->Prop}(hQ:∀h' kn T,Ext h h'->Q (.exit 0) ⟨[],kn,T,h'⟩) :
  ∀(d i:Nat) (I:Int) (h1:AHeap),n-i=d->i<=n->I=i->Ext h h1->head 20 4 0 ⟨[(0,.slice a n ca),(1,.slice b n cb),(5,.int .i64 I)],0,[],h1⟩ Q:=by
 intro d
 induction d with
 |zero=>
  intro i I h1 hd hi eI e;refine hA.roundR Try.func20 r20_ok (zc ?_);refine br (I<(n:Int)) (by rw[e_lss hA,e_ofNat hA]) (fun q=>by omega) (fun _=>?_)<;>refine zc ?_;exact hQ h1 _ _ e
 |succ d ih=>
 intro i I h1 hd hi eI e;have x9:Ext h1 (bump h1 9):=ext_bump hA _ _;obtain⟨ab,ao,x,e1,_,hx,r1⟩:=is_at (ha.ext (e.trans x9)) (i:=I) (by omega) (by omega);obtain⟨bb,bo,y,e2,_,hy,r2⟩:=is_at (hb.ext (e.trans x9)) (i:=I) (by omega) (by omega);subst e1 e2;obtain rfl:x=y:=by rw[<-hx,<-hy]
 have r1:=rd_ok hA r1;have r2:=rd_ok hA r2;refine hA.roundR Try.func20 r20_ok (zc ?_);refine br (I<(n:Int)) (by rw[e_lss hA,e_ofNat hA]) (fun _=>?_) (fun q=>by omega)<;>refine zc ?_;refine zq ?_;refine br (x≠x) (by rw[e_neq hA]) (fun q=>absurd rfl q) (fun _=>?_)<;>refine zc ?_;refine zq ?_;rw[add64 hA (by omega) (by omega)];exact ih (i+1) (I+1) _ (by omega) (by omega) (by omega) (e.trans x9)
theorem ints_ok{h:AHeap}(hlow:h.low<=h.next){a b:Option Addr}{n ca cb:Nat}{l:List Int}(ha:Is h a n l)(hb:Is h b n l)(n100:n<=100000){Q:Value->AHeap->Prop}(hQ:∀h',Ext h h'->Q (.bool true) h'):call 20 [.slice a n ca,.slice b n cb] h Q:=by
 refine hA.bodyR Try.func20 r20_ok (hA.alike _ _ _ rfl) hlow (zc ?_);refine br ((n:Int)≠n) (by rw[e_neq hA,e_ofNat hA]) (fun q=>absurd rfl q) (fun _=>?_)<;>refine zc ?_;refine ints_loop hA hlow ha hb n100 (fun h' kn T e=>?_) n 0 0 h (by omega) (by omega) rfl (.refl h);refine zc ?_;exact hQ h' e
theorem fracs_loop{h:AHeap}(hlow:h.low<=h.next){a b:Option Addr}{n ca cb:Nat}{l:List Fc}(ha:Rows fC 2 h a n l)(hb:Rows fC 2 h b n l)(n100:n<=100000){Q:Exit->SS->Prop}(hQ:∀h' kn T,Ext h h'->Q (.exit 0) ⟨[],kn,T,h'⟩) :
  ∀(d i:Nat) (I:Int) (h1:AHeap),n-i=d->i<=n->I=i->Ext h h1->head 28 4 0 ⟨[(0,.slice a n ca),(1,.slice b n cb),(5,.int .i64 I)],0,[],h1⟩ Q:=by
 intro d
 induction d with
 |zero=>
  intro i I h1 hd hi eI e;refine hA.roundR Try.func28 r28_ok (zc ?_);refine br (I<(n:Int)) (by rw[e_lss hA,e_ofNat hA]) (fun q=>by omega) (fun _=>?_)<;>refine zc ?_;exact hQ h1 _ _ e
 |succ d ih=>
 intro i I h1 hd hi eI e;have x9:Ext h1 (bump h1 9):=ext_bump hA _ _;obtain⟨ab,ao,e1,_,r1⟩:=(ha.ext (e.trans x9)).at (i:=I) (by omega) (by omega);obtain⟨bb,bo,e2,_,r2⟩:=(hb.ext (e.trans x9)).at (i:=I) (by omega) (by omega);subst e1 e2;obtain⟨xn,xd,hx⟩:∃x y,gt l I=⟨x,y⟩:=⟨_,_,rfl⟩;have r1:=r1 0 2 (by omega) (by omega);have r2:=r2 0 2 (by omega) (by omega);rw[hx]at r1 r2;have r1:rd (bump h1 9) ab (place ao I 2) 2 [.int .i64 xn,.int .i64 xd]:=rd_ok hA r1;have r2:rd (bump h1 9) bb (place bo I 2) 2 [.int .i64 xn,.int .i64 xd]:=rd_ok hA r2;refine hA.roundR Try.func28 r28_ok (zc ?_);refine br (I<(n:Int)) (by rw[e_lss hA,e_ofNat hA]) (fun _=>?_) (fun q=>by omega)<;>refine zc ?_;refine zq ?_;obtain⟨r,hr1,hr2⟩:=eqF xn xd xn xd;obtain rfl:r=true:=hr2.2 ⟨rfl,rfl⟩;rw[e_eqAgg hA];refine⟨guardF,true,hr1,?_⟩;refine zc ?_;refine br False (by rw[e_bnot hA];rfl) (fun q=>q.elim) (fun _=>?_)<;>refine zc ?_;rw[add64 hA (by omega) (by omega)];exact ih (i+1) (I+1) _ (by omega) (by omega) (by omega) (e.trans x9)
theorem fracs_ok{h:AHeap}(hlow:h.low<=h.next){a b:Option Addr}{n ca cb:Nat}{l:List Fc}(ha:Rows fC 2 h a n l)(hb:Rows fC 2 h b n l)(n100:n<=100000){Q:Value->AHeap->Prop}(hQ:∀h',Ext h h'->Q (.bool true) h'):call 28 [.slice a n ca,.slice b n cb] h Q:=by
 refine hA.bodyR Try.func28 r28_ok (hA.alike _ _ _ rfl) hlow (zc ?_);refine br ((n:Int)≠n) (by rw[e_neq hA,e_ofNat hA]) (fun q=>absurd rfl q) (fun _=>?_)<;>refine zc ?_;refine fracs_loop hA hlow ha hb n100 (fun h' kn T e=>?_) n 0 0 h (by omega) (by omega) rfl (.refl h);refine zc ?_;exact hQ h' e
end Go.Proofs.Ytogliemiljhliaa
namespace Go.Proofs.Ytogliemiljhliaa
open Go.Sim
set_option maxRecDepth 100000
def phOk(x:Int):Prop:=-99<=x/\x<=99
variable{F:Prims}{call head arith cmp scmp bnot bsame conv neg imax imin ofNat slen place inR nz geZ rd wr push next mkOK nat zeros sadd eqAgg cut slc sslc strAt part app cpy putAt fresh lowered bump wrote addN lt ne fpAll fpApp brk yn rng mget mput mnew bytes clr:_}(hA:AP F ⟨call,head,arith,cmp,scmp,bnot,bsame,conv,neg,imax,imin,ofNat,slen,place,inR,nz,geZ,rd,wr,push,next,mkOK,nat,zeros,sadd,eqAgg,cut,slc,sslc,strAt,part,app,cpy,putAt,fresh,lowered,bump,wrote,addN,lt,ne,fpAll,fpApp,brk,yn,rng,mget,mput,mnew,bytes,clr⟩)
include hA
theorem ph_loop{h:AHeap}{a:Option Addr}{M cp:Nat}{l:List Int}(hl:Is h a M l)(hM:M<=100000){v0 v1:Value}{MM:Int}(eM:MM=M){Q:Exit->SS->Prop}
  (hret:¬(∀i:Int,0<=i->i<M->phOk (gt l i))->∀e kn T,Q .ret ⟨(6,.int .i64 2) :: (5,.slice none 0 0) :: (4,.slice none 0 0) :: e,kn,T,h⟩)
  (h9:(∀i:Int,0<=i->i<M->phOk (gt l i))->Q (.exit 0) ⟨[(0,v0),(1,v1)],0,[],h⟩) :
  ∀(d:Nat) (i:Int),(M-i).toNat=d->0<=i->i<=M->(∀j:Int,0<=j->j<i->phOk (gt l j))->
   head 27 7 0 ⟨[(0,v0),(1,v1),(25,.slice a M cp),(26,.int .i64 MM),(27,.int .i64 i)],0,[],h⟩ Q:=by
 intro d
 induction d with
 |zero=>
  intro i hd i0 i1 hp;refine hA.roundR Try.func27 r27_ok (zc ?_);refine br (i<MM) (by rw[e_lss hA]) (fun q=>by omega) (fun _=>?_)<;>refine zc ?_;exact h9 (fun j j0 j1=>hp j j0 (by omega))
 |succ d ih=>
 intro i hd i0 i1 hp;obtain⟨pb,po,x,ea,_,hx,r1⟩:=is_at hl (i:=i) i0 (by omega);subst ea;have r1:=rd_ok hA r1;refine hA.roundR Try.func27 r27_ok (zc ?_);refine br (i<MM) (by rw[e_lss hA]) (fun _=>?_) (fun q=>by omega)<;>refine zc ?_;refine zq ?_;refine br (x < -99) (by rw[e_lss hA]) (fun c=>?_) (fun c=>?_)<;>refine zc ?_
 ·refine zq ?_
  exact hret (fun q=>by have:=q i i0 (by omega);unfold phOk at this;omega) _ _ _
 refine zq ?_;refine br (99<x) (by rw[e_gtr hA]) (fun c2=>?_) (fun c2=>?_)<;>refine zc ?_
 ·refine zq ?_
  exact hret (fun q=>by have:=q i i0 (by omega);unfold phOk at this;omega) _ _ _
 refine zq ?_;rw[add64 hA (by omega) (by omega)];exact ih (i+1) (by omega) (by omega) (by omega) (fun j j0 j1=>by
  by_cases e:j=i
  ·rw[e,hx];exact⟨by omega,by omega⟩
  ·exact hp j j0 (by omega))
theorem rest_loop{h0 h:AHeap}{sb oa cp m n k cm c9:Nat}{bs:Nat->Nat}{R:Nat->Nat->Int}{ba:Option Addr}{nb cb:Nat}{lead:Int}(t:MatW iC 1 cp h0 h oa bs m (n+1) R)(hR:Red h sb oa m cm n ba nb cb lead)(hk:k<=m)(m100:m<=100){v0:Value}{MM:Int}{o q:Nat}(eo:o=k)(eq_:q=m-k)(eM:MM=q){aS:Option Addr}(haS:0<q->aS=some ⟨oa,o,none⟩){Q:Exit->SS->Prop}
  (hret:¬(∀i,k<=i->i<m->R i n=0)->∀e kn T,Q .ret ⟨(6,.int .i64 6) :: (5,.slice none 0 0) :: (4,.slice none 0 0) :: e,kn,T,h⟩)
  (h9:(∀i,k<=i->i<m->R i n=0)->Q (.exit 2) ⟨[(0,v0),(10,.pointer (some ⟨sb,0,none⟩))],0,[],h⟩) :
  ∀(d i:Nat) (I:Int),q-i=d->i<=q->I=i->(∀j,k<=j->j<k+i->R j n=0)->
   head 27 14 0 ⟨[(0,v0),(10,.pointer (some ⟨sb,0,none⟩)),(46,.slice aS q c9),(47,.int .i64 MM),(48,.int .i64 I)],0,[],h⟩ Q:=by
 intro d
 induction d with
 |zero=>
  intro i I hd hi eI hp;refine hA.roundR Try.func27 r27_ok (zc ?_);refine br (I<MM) (by rw[e_lss hA]) (fun q=>by omega) (fun _=>?_)<;>refine zc ?_;exact h9 (fun j j0 j1=>hp j j0 (by omega))
 |succ d ih=>
 intro i I hd hi eI hp;obtain rfl:=haS (by omega);obtain⟨N,eN⟩:∃z:Int,z=n:=⟨_,rfl⟩;obtain⟨x,hx⟩:∃z,z=R (k+i) n:=⟨_,rfl⟩;have r1:rd h oa (place o I 1) 1 [.slice (some ⟨bs (k+i),0,none⟩) (n+1) cp]:=rd_ok hA (by
  have:=t.head (y:=k+i) (by omega);rw[show o+I.toNat*1=0+(k+i)*1 by omega];exact this)
 have r2:rd h sb (addN 0 1) 1 [.int .i64 N]:=by rw[e_addN hA,eN];exact rd_at hA (Own.readG hR (o:=1) (n:=1) (Nat.le_of_ble_eq_true rfl))
 have r3:rd h (bs (k+i)) (place 0 N 1) 1 [.int .i64 x]:=rd_ok hA (by rw[eN,hx];exact t.el (by omega) (by omega));refine hA.roundR Try.func27 r27_ok (zc ?_);refine br (I<MM) (by rw[e_lss hA]) (fun _=>?_) (fun q=>by omega)<;>refine zc ?_;refine zq ?_;refine br (x≠0) (by rw[e_neq hA]) (fun c=>?_) (fun c=>?_)<;>refine zc ?_
 ·refine zq ?_
  exact hret (fun z=>c (by rw[hx];exact z (k+i) (by omega) (by omega))) _ _ _
 rw[add64 hA (by omega) (by omega)];exact ih (i+1) (I+1) (by omega) (by omega) (by omega) (fun j j0 j1=>by
  by_cases e:j=k+i
  ·rw[e,<-hx];exact Decidable.of_not_not c
  ·exact hp j j0 (by omega))
theorem clone_ok{h:AHeap}(hlow:h.low<=h.next){b o n c:Nat}{l:List Fc}(hl:Rows fC 2 h (some ⟨b,o,none⟩) n l)(hn:n<=100000){Q:Value->AHeap->Prop}
  (hQ:∀h' b' c',Rows fC 2 h' (some ⟨b',0,none⟩) n l->Ext h h'->Q (.slice (some ⟨b',0,none⟩) n c') h'):call 47 [.slice (some ⟨b,o,none⟩) n c] h Q:=by
 refine hA.bodyR Try.func47 r47_ok (hA.alike _ _ _ rfl) hlow (zc ?_);refine appCopy_ok hA TF fC_ok hl hn (fun b' c' h' o' l' lt' x'=>?_);refine zc ?_;refine hQ h' b' c' ?_ x';have r:=Own.rows o' fC_len (by omega) lt';rw[hl.len]at r;exact r
theorem cut_hi{t:TypeId}{e es:Nat}(hT:SliceT Try.prog t e es){b n:Nat}(hn:n<=100000){k:IntKind}{i:Int}(i0:0<=i)(i1:i<=n){C:Option Addr->Nat->Nat->Prop}
  (h:C (some ⟨b,0,none⟩) i.toNat n):slc t (.slice (some ⟨b,0,none⟩) n n) none (some (.int k i)) none C:=by
 have e_slc:slc t (.slice (some ⟨b,0,none⟩) n n) none (some (.int k i)) none C = ∃a' n' c',sliceA Try.prog t (.slice (some ⟨b,0,none⟩) n n) none (some (.int k i)) none=some (.slice a' n' c')/\C a' n' c':=by have:=hA.eq;injections;subst_vars;rfl
 rw[e_slc];refine⟨_,_,_,?_,h⟩;have hcap:capLow n=n:=Nat.mod_eq_of_lt (by unfold slack;omega);unfold sliceA;simp only[hT.und,hT.size];unfold sliceS;simp only[boundMx,boundHi,boundLo,bound];rw[hcap,if_pos ⟨by omega,by omega⟩];simp only[];rw[ble_true (by omega),blt_true (show n<slack by unfold slack;omega)];simp;cases n.beq 0<;>rfl
theorem cut_lo{t:TypeId}{e es:Nat}(hT:SliceT Try.prog t e es){b n:Nat}(hn:n<=100000){k:IntKind}{i:Int}(i0:0<=i)(i1:i<n){C:Option Addr->Nat->Nat->Prop}
  (h:C (some ⟨b,0+i.toNat*es,none⟩) (n-i.toNat) (n-i.toNat)):slc t (.slice (some ⟨b,0,none⟩) n n) (some (.int k i)) none none C:=by
 have e_slc:slc t (.slice (some ⟨b,0,none⟩) n n) (some (.int k i)) none none C = ∃a' n' c',sliceA Try.prog t (.slice (some ⟨b,0,none⟩) n n) (some (.int k i)) none none=some (.slice a' n' c')/\C a' n' c':=by have:=hA.eq;injections;subst_vars;rfl
 rw[e_slc];refine⟨_,_,_,?_,h⟩;have hcap:capLow n=n:=Nat.mod_eq_of_lt (by unfold slack;omega);unfold sliceA;simp only[hT.und,hT.size];unfold sliceS;simp only[boundMx,boundHi,boundLo,bound];rw[if_pos ⟨by omega,by omega⟩];simp only[];rw[hcap,ble_true (Nat.le_refl _),blt_true (show n<slack by unfold slack;omega),nbeq (show n≠i.toNat by omega)];simp[aadd]
theorem slc_end{t:TypeId}{e es:Nat}(hT:SliceT Try.prog t e es){a:Option Addr}{n:Nat}(hn:n<=1000000)(n0:0<n){k:IntKind}{i:Int}(i1:i=n){C:Option Addr->Nat->Nat->Prop}
  (h:∀a' c',C a' 0 c'):slc t (.slice a n (someCap es n)) (some (.int k i)) none none C:=by
 have e_slc:slc t (.slice a n (someCap es n)) (some (.int k i)) none none C = ∃a' n' c',sliceA Try.prog t (.slice a n (someCap es n)) (some (.int k i)) none none=some (.slice a' n' c')/\C a' n' c':=by have:=hA.eq;injections;subst_vars;rfl
 rw[e_slc];refine⟨some ⟨0,0,some 0⟩,0,slack,?_,h _ _⟩;have hs:n<slack:=by unfold slack;omega
 unfold sliceA;simp only[hT.und,hT.size];unfold sliceS;simp only[boundMx,boundHi,boundLo,bound];rw[if_pos ⟨by omega,by omega⟩];simp only[];rw[capLow_some hs,ble_true (Nat.le_refl _),blt_false (someCap_ge es n),someCap_div hs];simp only[cond_true,cond_false,Option.isSome_none,Bool.or_false];rw[nbeq (show i.toNat≠0 by omega),show i.toNat=n by omega,blt_false (Nat.le_refl _)];simp
