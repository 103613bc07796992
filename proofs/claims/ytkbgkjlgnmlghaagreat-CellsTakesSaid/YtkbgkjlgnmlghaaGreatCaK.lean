import Derived.Test.YtkbgkjlgnmlghaaGreatCaH
import Derived.Test.YtkbgkjlgnmlghaaGreatCaM
set_option linter.unusedSimpArgs false
set_option linter.unusedVariables false
namespace Go.Proofs.YtkbgkjlgnmlghaaGreat
open Go.Sim
set_option linter.unusedVariables false
set_option maxRecDepth 100000
variable {F : Prims} {call head arith cmp scmp bnot bsame conv neg imax imin ofNat slen place inR nz geZ rd wr push next mkOK nat zeros sadd eqAgg cut slc sslc strAt part app cpy putAt fresh lowered bump wrote addN lt ne fpAll fpApp brk yn rng mget mput mnew bytes clr : _} (hA : AP F ⟨call,head,arith,cmp,scmp,bnot,bsame,conv,neg,imax,imin,ofNat,slen,place,inR,nz,geZ,rd,wr,push,next,mkOK,nat,zeros,sadd,eqAgg,cut,slc,sslc,strAt,part,app,cpy,putAt,fresh,lowered,bump,wrote,addN,lt,ne,fpAll,fpApp,brk,yn,rng,mget,mput,mnew,bytes,clr⟩)
include hA
theorem plus_ok {h : AHeap} (hlow : h.low ≤ h.next) {s v : Ck} (hs : s.ok) (hv : v.ok) {n d : Int} {w : Rat} (hw : isC n 0 d (Cq.real w)) {Q : Value → AHeap → Prop}
  (hQ : ∀ r t u e h',AddIs s w v r t u e → Ext h h' → Q (.tuple #[.agg #[.int .i64 r,.int .i64 t,.int .i64 u],.int .i64 e]) h') :
  call 21 [.agg #[.int .i64 s.a,.int .i64 s.b,.int .i64 s.d],.agg #[.int .i64 n,.int .i64 d],.agg #[.int .i64 v.a,.int .i64 v.b,.int .i64 v.d]] h Q:=by
 refine hA.bodyR Tryz.func21 r21_ok (hA.alike _ _ _ rfl) hlow (zc ?_)
 refine rcmul_ok hA hlow (fun r t u e h1 k1 x1 => ⟨_,_,_,_,rfl,?_⟩)
 have k1:=outK_of (k1.is hw hv.is)
 refine zc ?_
 refine br (e ≠ 0) (by rw [e_neq hA]) (fun c => ?_) (fun c => ?_) <;> refine zc ?_
 ·rcases k1 with ⟨_,_,_,_,_,q⟩ | ⟨q,_,_,_,q2⟩
  ·exact absurd q c
  ·rw [q2]
   exact hQ _ _ _ _ h1 (.inr ⟨by unfold plusF;rw [q];rfl,rfl,rfl,rfl,rfl⟩) x1
 rcases k1 with ⟨p,q,rfl,rfl,rfl,_⟩ | ⟨_,_,_,_,q⟩
 rotate_left
 ·omega
 have pk:=mkCk_some.1 q
 refine rcadd_ok hA (x1.lowOK hlow) (fun r t u e h2 k2 x2 => ⟨_,_,_,_,rfl,?_⟩)
 have k2:=outK_of (k2.is hs.is pk)
 refine zc ?_
 refine hQ r t u e h2 ?_ (x1.trans x2)
 unfold AddIs plusF
 rw [q]
 show OutK (mkCk (s.val.add p.val)) r t u e
 rw [pk.val]
 exact k2
theorem rvalid_loop {h0 : AHeap} (hlow : h0.low ≤ h0.next) {a : Option Addr} {N c : Nat} {l : List Ck} (hl : Cs h0 a N l) (hN : N ≤ 100000) {Q : Exit → SS → Prop}
  (hbad : ∀ h' e kn K,¬ ValidL l → Ext h0 h' → Q .ret ⟨(2,.bool false) :: e,kn,K,h'⟩) (hok : ∀ h' kn e K,ValidL l → Ext h0 h' → Q (.exit 0) ⟨e,kn,K,h'⟩) :
  ∀ (m : Nat) (i : Int) (h : AHeap),(N - i).toNat ≤ m → 0 ≤ i → i ≤ N → (∀ j : Int,0 ≤ j → j < i → (gt l j).ok) → Ext h0 h →
   head 24 2 0 ⟨[(0,.slice a N c),(3,.int .i64 i)],0,[],h⟩ Q:=by
 have hlen:=hl.len
 intro m
 induction m with
 | zero =>
  intro i h hm i0 i1 hall he
  refine hA.roundR Tryz.func24 r24_ok (zc ?_)
  refine br (i < N) (by rw [e_lss hA,e_ofNat hA]) (fun c1 => by omega) (fun c1 => ?_) <;> refine zc ?_
  exact hok h _ _ _ (fun j j0 j1 => hall j j0 (by omega)) he
 | succ m ih =>
 intro i h hm i0 i1 hall he
 by_cases ci : i < N
 rotate_left
 ·refine hA.roundR Tryz.func24 r24_ok (zc ?_)
  refine br (i < N) (by rw [e_lss hA,e_ofNat hA]) (fun c1 => absurd c1 ci) (fun c1 => ?_) <;> refine zc ?_
  exact hok h _ _ _ (fun j j0 j1 => hall j j0 (by omega)) he
 obtain ⟨b,o,x,y,z,ea,_,hg,r1⟩:=cs_at (hl.ext he) (i:=i) i0 ci
 cases ea
 have q1:=rd_ok hA r1
 refine hA.roundR Tryz.func24 r24_ok (zc ?_)
 refine br (i < N) (by rw [e_lss hA,e_ofNat hA]) (fun c1 => ?_) (fun c1 => absurd ci c1) <;> refine zc ?_
 refine zq ?_
 refine rccheck_ok hA (he.lowOK hlow) (fun e h1 k1 x1 => ⟨_,rfl,?_⟩)
 have y1:=he.trans x1
 refine zc ?_
 refine br (e ≠ 0) (by rw [e_neq hA]) (fun c3 => ?_) (fun c3 => ?_) <;> refine zc ?_
 ·refine hbad h1 _ _ _ (fun w => ?_) y1
  have:=w i i0 (by omega)
  rw [hg] at this
  rcases k1 with ⟨q,_⟩ | ⟨_,q⟩
  ·exact c3 q
  ·exact q this
 have ok1 : okC x y z:=by
  rcases k1 with ⟨_,q⟩ | ⟨q,_⟩
  ·exact q
  ·omega
 rw [add64 hA (by omega) (by omega)]
 refine ih (i + 1) h1 (by omega) (by omega) (by omega) (fun j j0 j1 => ?_) y1
 by_cases z : j = i
 ·subst z;rw [hg];exact ok1
 ·exact hall j j0 (by omega)
theorem rvalid_ok {h : AHeap} (hlow : h.low ≤ h.next) {a : Option Addr} {N c : Nat} {l : List Ck} (hl : Cs h a N l) (hN : N ≤ 100000) {Q : Value → AHeap → Prop}
  (hQ : ∀ r h',(r = true ↔ ValidL l) → Ext h h' → Q (.bool r) h') : call 24 [.slice a N c] h Q:=by
 refine hA.bodyR Tryz.func24 r24_ok (hA.alike _ _ _ rfl) hlow (zc ?_)
 refine rvalid_loop hA hlow hl hN (fun h' e kn K hg x' => ?_) (fun h' kn e K hg x' => ?_) N 0 h (by omega) (by omega) (by omega) (fun j j0 j1 => by omega) (.refl h)
 ·refine zc ?_
  exact hQ false h' ⟨(fun q => by cases q),fun q => absurd q hg⟩ x'
 ·refine zc ?_
  exact hQ true h' ⟨fun _ => hg,fun _ => rfl⟩ x'
end Go.Proofs.YtkbgkjlgnmlghaaGreat
