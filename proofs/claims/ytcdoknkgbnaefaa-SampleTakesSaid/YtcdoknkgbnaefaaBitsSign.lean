import Derived.Test.YtcdoknkgbnaefaaDigit
set_option linter.unusedSimpArgs false
set_option linter.unusedVariables false
namespace Go.Proofs.Ytcdoknkgbnaefaa
open Go.Sim
set_option linter.unusedVariables false
set_option maxRecDepth 100000
def wide (x : Int) : Bool:=decide (x = -3) || decide (x = 3)
theorem T22 : SliceT Try.prog 22 3 1:=⟨by kernel_rfl,by kernel_rfl,⟨8,by kernel_rfl,by omega⟩,⟨.int .i64 0,by kernel_rfl,rfl⟩⟩
variable {F : Prims} {call head arith cmp scmp bnot bsame conv neg imax imin ofNat slen place inR nz geZ rd wr push next mkOK nat zeros sadd eqAgg cut slc sslc strAt part app cpy putAt fresh lowered bump wrote addN lt ne fpAll fpApp brk yn rng mget mput mnew bytes clr : _} (hA : AP F ⟨call,head,arith,cmp,scmp,bnot,bsame,conv,neg,imax,imin,ofNat,slen,place,inR,nz,geZ,rd,wr,push,next,mkOK,nat,zeros,sadd,eqAgg,cut,slc,sslc,strAt,part,app,cpy,putAt,fresh,lowered,bump,wrote,addN,lt,ne,fpAll,fpApp,brk,yn,rng,mget,mput,mnew,bytes,clr⟩)
include hA
theorem long_ok {h : AHeap} (hlow : h.low ≤ h.next) {a : Option Addr} {n c : Nat} {Q : Value → AHeap → Prop} (hQ : ∀ r,r = decide (300 < (n : Int)) → Q (.bool r) h) : call 10 [.slice a n c] h Q:=by
 refine hA.bodyR Try.func10 r10_ok (hA.alike _ _ _ rfl) hlow (zc ?_)
 exact hQ _ (by rw [e_gtr hA,e_ofNat hA])
theorem same_loop {h : AHeap} (hlow : h.low ≤ h.next) {a a2 : Option Addr} {n c c2 : Nat} (hn : n ≤ 1000000) {l l2 : List Int} (hs : Ints h .i64 a n l) (hs2 : Ints h .i64 a2 n l2) {Q : Exit → SS → Prop}
  (h0 : l = l2 → ∀ h',Ext h h' → Q (.exit 0) ⟨[],0,[],h'⟩) (h1 : ∀ e K kn h',l ≠ l2 → Ext h h' → Q .ret ⟨(4,.bool false) :: e,kn,K,h'⟩) :
  ∀ (i : Int),0 ≤ i → i ≤ n → l.take i.toNat = l2.take i.toNat → ∀ h',Ext h h' → head 16 4 0 ⟨[(0,.slice a n c),(1,.slice a2 n c2),(5,.int .i64 i)],0,[],h'⟩ Q:=by
 have hl:=hs.len
 have hl2:=hs2.len
 refine countUp (fun i hi0 hin ih hj h' he => ?_)
 refine hA.roundR Try.func16 r16_ok (zc ?_)
 refine br (i < n) (by rw [e_lss hA,e_ofNat hA]) (fun c => ?_) (fun c => ?_) <;> refine zc ?_
 ·obtain ⟨b,o,x,rfl,hb,hx,hr⟩:=(hs.ext he).atI hi0 c
  obtain ⟨b2,o2,x2,rfl,hb2,hx2,hr2⟩:=(hs2.ext he).atI hi0 c
  have ht:=take_succ' l hi0 (by omega)
  have ht2:=take_succ' l2 hi0 (by omega)
  refine ⟨b,o,rfl,in_ok hA hi0 c,?_⟩
  refine zc ?_
  refine ⟨_,rd_ok hA (by rw [e_bump hA];exact hr),?_⟩
  refine zc ?_
  refine ⟨b2,o2,rfl,in_ok hA hi0 c,?_⟩
  refine zc ?_
  refine ⟨_,rd_ok hA (by rw [e_bump hA];exact hr2),?_⟩
  refine zc ?_
  have he2 : Ext h (bump h' 9):=by rw [e_bump hA];exact he.trans (.bump _ _)
  refine br (x ≠ x2) (e_neq hA _ _) (fun c2 => ?_) (fun c2 => ?_) <;> refine zc ?_
  ·refine h1 _ _ _ _ (fun e => c2 ?_) he2
   rw [hx,hx2,e]
  ·rw [add64 hA (by omega) (by omega)]
   refine ih c ?_ _ he2
   have : x = x2:=Classical.not_not.1 c2
   rw [ht,ht2,hj,← hx,← hx2,this]
 ·refine zc ?_
  rw [List.take_of_length_le (by omega),List.take_of_length_le (by omega)] at hj
  exact h0 hj h' he
theorem same_ok {h : AHeap} (hlow : h.low ≤ h.next) {a a2 : Option Addr} {n n2 c c2 : Nat} (hn : n ≤ 1000000) {l l2 : List Int} (hs : Ints h .i64 a n l) (hs2 : Ints h .i64 a2 n2 l2) {Q : Value → AHeap → Prop}
  (hQ : ∀ r,r = decide (l = l2) → ∀ h',Ext h h' → Q (.bool r) h') : call 16 [.slice a n c,.slice a2 n2 c2] h Q:=by
 have hl:=hs.len
 have hl2:=hs2.len
 refine hA.bodyR Try.func16 r16_ok (hA.alike _ _ _ rfl) hlow (zc ?_)
 refine br ((n : Int) ≠ n2) (by rw [e_neq hA,e_ofNat hA,e_ofNat hA]) (fun c => ?_) (fun c => ?_) <;> refine zc ?_
 ·refine hQ _ ?_ _ (.refl _)
  have : ¬ l = l2:=fun e => c (by rw [← hl,← hl2,e])
  simp [this]
 ·have e : n = n2:=by omega
  subst e
  refine same_loop hA hlow hn hs hs2 (fun e h' he => ?_) (fun e K kn h' hne he => ?_) 0 (by omega) (by omega) (by simp) _ (.refl _)
  ·refine zc ?_
   exact hQ _ (by simp [e]) _ he
  ·refine zc ?_
   exact hQ _ (by simp [hne]) _ he
end Go.Proofs.Ytcdoknkgbnaefaa
