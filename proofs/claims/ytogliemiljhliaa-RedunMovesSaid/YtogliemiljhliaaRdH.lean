import Derived.Test.YtogliemiljhliaaRdG
set_option linter.unusedSimpArgs false
set_option linter.unusedVariables false
namespace Go.Proofs.Ytogliemiljhliaa
open Go.Sim
set_option linter.unusedVariables false
set_option maxRecDepth 100000
variable {F : Prims} {call head arith cmp scmp bnot bsame conv neg imax imin ofNat slen place inR nz geZ rd wr push next mkOK nat zeros sadd eqAgg cut slc sslc strAt part app cpy putAt fresh lowered bump wrote addN lt ne fpAll fpApp brk yn rng mget mput mnew bytes clr : _} (hA : AP F ⟨call,head,arith,cmp,scmp,bnot,bsame,conv,neg,imax,imin,ofNat,slen,place,inR,nz,geZ,rd,wr,push,next,mkOK,nat,zeros,sadd,eqAgg,cut,slc,sslc,strAt,part,app,cpy,putAt,fresh,lowered,bump,wrote,addN,lt,ne,fpAll,fpApp,brk,yn,rng,mget,mput,mnew,bytes,clr⟩)
include hA
theorem nz1_ok {h : AHeap} (hlow : h.low ≤ h.next) {rb rw_ cp qb : Nat} {C x : Int} (h1 : h.readG ⟨qb,0,none⟩ 1 = some [.int .i64 C]) (h2 : h.readG ⟨rb,0 + C.toNat * 1,none⟩ 1 = some [.int .i64 x]) (c0 : 0 ≤ C) (c1 : C < rw_) {Q : Value → AHeap → Prop} (hQ : Q (.bool (decide (x ≠ 0))) h) :
  call 71 [.slice (some ⟨rb,0,none⟩) rw_ cp,.pointer (some ⟨qb,0,none⟩)] h Q:=by
 have r1:=rd_at hA h1
 have r2:=rd_ok hA (i:=C) (es:=1) h2
 refine hA.bodyR Try.func71 r71_ok (hA.alike _ _ _ rfl) hlow (zc ?_)
 refine zq ?_
 rw [e_neq hA]
 exact hQ
theorem idx_loop {h0 : AHeap} {oa cp m w k c qb cm : Nat} {bs : Nat → Nat} {f : Nat → Nat → Int} {h : AHeap} (hlow : h.low ≤ h.next) (t : MatW iC 1 cp h0 h oa bs m w f) (hm : m ≤ 100) (hw : w ≤ 100) (hk : k < m) (hc : c < w) {C N : Int} {o n : Nat} (eo : o = k) (en : n = m - k) (eC : C = c) (eN : N = n) (hq : h.readG ⟨qb,0,none⟩ 1 = some [.int .i64 C]) {Q : Exit → SS → Prop}
  (hret : ∀ i,pick f c (m - k) k = some i → ∀ e kn T,Q .ret ⟨(4,.int .i64 ((i : Int) - k)) :: e,kn,T,h⟩)
  (h9 : pick f c (m - k) k = none → ∀ kn T,Q (.exit 0) ⟨[],kn,T,h⟩) :
  ∀ (d j : Nat) (J : Int),m - k - j = d → j ≤ m - k → J = j → pick f c (m - k) k = pick f c (m - k - j) (k + j) →
   head 70 2 0 ⟨[(0,.slice (some ⟨oa,o,none⟩) n cm),(1,.func (.func 71) #[] #[.pointer (some ⟨qb,0,none⟩)]),(7,.int .i64 N),(8,.int .i64 J)],0,[],h⟩ Q:=by
 intro d
 induction d with
 | zero =>
  intro j J hd hj eJ hp
  refine hA.roundR Try.func70 r70_ok (zc ?_)
  refine br (J < N) (by rw [e_lss hA]) (fun q => by omega) (fun _ => ?_) <;> refine zc ?_
  exact h9 (by rw [hp,hd];rfl) _ _
 | succ d ih =>
 intro j J hd hj eJ hp
 have r1 : rd h oa (place o J 1) 1 [.slice (some ⟨bs (k + j),0,none⟩) w cp]:=rd_ok hA (by
  have:=t.head (y:=k + j) (by omega)
  rw [show o + J.toNat * 1 = 0 + (k + j) * 1 by omega];exact this)
 refine hA.roundR Try.func70 r70_ok (zc ?_)
 refine br (J < N) (by rw [e_lss hA]) (fun _ => ?_) (fun q => by omega) <;> refine zc ?_
 refine zq ?_
 obtain ⟨x,hx⟩ : ∃ z,z = f (k + j) c:=⟨_,rfl⟩
 refine nz1_ok hA hlow hq (x:=x) (by rw [eC,hx];exact t.el (by omega) hc) (by omega) (by omega) ⟨_,rfl,?_⟩
 refine zc ?_
 have e1 : pick f c (m - k - j) (k + j) = if x = 0 then pick f c (m - k - (j + 1)) (k + (j + 1)) else some (k + j):=by
  obtain ⟨d',hd'⟩ : ∃ z,m - k - j = z + 1:=⟨m - k - (j + 1),by omega⟩
  rw [hd',show m - k - (j + 1) = d' by omega,hx]
  rfl
 refine br (x ≠ 0) (decide_eq_decide.2 Iff.rfl) (fun e => ?_) (fun e => ?_) <;> refine zc ?_
 ·refine zq ?_
  rw [if_neg e] at e1
  have:=hret (k + j) (by rw [hp,e1])
  rw [show ((k + j : Nat) : Int) - k = J by omega] at this
  exact this _ _ _
 ·rw [add64 hA (by omega) (by omega)]
  rw [if_pos (by omega)] at e1
  exact ih (j + 1) (J + 1) (by omega) (by omega) (by omega) (by rw [hp,e1])
def pickI (f : Nat → Nat → Int) (c m k : Nat) : Int:=match pick f c (m - k) k with | none => -1 | some i => (i : Int) - k
theorem idx_ok {h0 : AHeap} {oa cp m w k c qb cm : Nat} {bs : Nat → Nat} {f : Nat → Nat → Int} {h : AHeap} (hlow : h.low ≤ h.next) (t : MatW iC 1 cp h0 h oa bs m w f) (hm : m ≤ 100) (hw : w ≤ 100) (hk : k < m) (hc : c < w) {C : Int} {o n : Nat} (eo : o = k) (en : n = m - k) (eC : C = c) (hq : h.readG ⟨qb,0,none⟩ 1 = some [.int .i64 C]) {Q : Value → AHeap → Prop}
  (hQ : Q (.int .i64 (pickI f c m k)) h) : call 70 [.slice (some ⟨oa,o,none⟩) n cm,.func (.func 71) #[] #[.pointer (some ⟨qb,0,none⟩)]] h Q:=by
 refine hA.bodyR Try.func70 r70_ok (hA.alike _ _ _ rfl) hlow (zc ?_)
 refine zq ?_
 rw [e_ofNat hA]
 refine idx_loop hA hlow t hm hw hk hc eo en eC rfl hq (fun i hi e kn T => ?_) (fun hi kn T => ?_) (m - k) 0 0 (by omega) (by omega) rfl rfl
 ·have : pickI f c m k = (i : Int) - k:=by unfold pickI;rw [hi]
  rw [this] at hQ
  refine zc ?_
  exact hQ
 ·have : pickI f c m k = -1:=by unfold pickI;rw [hi]
  rw [this] at hQ
  refine zc ?_
  exact hQ
end Go.Proofs.Ytogliemiljhliaa
