import Derived.Test.YtogliemiljhliaaSymRows
import Derived.Test.YtogliemiljhliaaSymBits
set_option linter.unusedSimpArgs false
set_option linter.unusedVariables false
namespace Go.Proofs.Ytogliemiljhliaa
open Go.Sim
set_option linter.unusedVariables false
theorem ext_bumpPut (h : AHeap) (n : Nat) {b : Nat} (hb : h.next ≤ b) (es : Nat) (cs : List Value) : Ext h ((h.bump n).putAt b es cs):=
 ⟨by simp [AHeap.bump,AHeap.putAt],fun l => by simp only [AHeap.bump,AHeap.putAt];omega,by simp only [AHeap.bump,AHeap.putAt];exact Nat.min_le_left _ _,fun i hi => by
  simp only [AHeap.bump,AHeap.putAt];rw [Tri.get_set_ne _ _ (by omega)]⟩
theorem all_flat {α : Type} {enc : α → List Value} (hok : ∀ x,(enc x).all cellOK = true) (l : List α) : (l.flatMap enc).all cellOK = true:=by
 rw [List.all_flatMap]
 simp only [hok,List.all_eq_true,implies_true]
variable {F : Prims} {call head arith cmp scmp bnot bsame conv neg imax imin ofNat slen place inR nz geZ rd wr push next mkOK nat zeros sadd eqAgg cut slc sslc strAt part app cpy putAt fresh lowered bump wrote addN lt ne fpAll fpApp brk yn rng mget mput mnew bytes clr : _} (hA : AP F ⟨call,head,arith,cmp,scmp,bnot,bsame,conv,neg,imax,imin,ofNat,slen,place,inR,nz,geZ,rd,wr,push,next,mkOK,nat,zeros,sadd,eqAgg,cut,slc,sslc,strAt,part,app,cpy,putAt,fresh,lowered,bump,wrote,addN,lt,ne,fpAll,fpApp,brk,yn,rng,mget,mput,mnew,bytes,clr⟩)
include hA
theorem appD_ok {t e es : Nat} (hT : SliceT Try.prog t e es) {α : Type} {enc : α → List Value} (he : ∀ x,(enc x).length = es) (hp0 : 0 < es) (hok : ∀ x,(enc x).all cellOK = true) {h0 h h9 : AHeap} (hlow : h0.low ≤ h0.next) (e0 : Ext h0 h) {N k : Nat} (hk : k < N) (hh9 : h9 = bump h N)
  {a : Option Addr} {n c : Nat} {l : List α} {v : α} (hp : Apd h es a n c (l.flatMap enc)) (hf : From h0.next a) (hn : n ≤ 100000) {C : Option Addr → Nat → Nat → AHeap → Prop}
  (hC : ∀ a' c' h',Apd (lowered (putAt h9 (addN (next h) k) es (enc v)) h') es a' (n + 1) c' ((l ++ [v]).flatMap enc) → From h0.next a' → Ext h0 (lowered (putAt h9 (addN (next h) k) es (enc v)) h') → C a' (n + 1) c' h') :
  app [t,t] [.slice a n c,.slice (some ⟨addN (next h) k,0,none⟩) 1 1] (fresh (putAt h9 (addN (next h) k) es (enc v))) C:=by
 rw [e_bump hA] at hh9
 subst hh9
 rw [e_addN hA,e_next hA,e_putAt hA] at hC ⊢
 rw [e_fresh hA]
 have x1 : Ext h ((h.bump N).putAt (h.next + k) es (enc v)):=ext_bumpPut h N (by omega) es _
 have o1:=Own.putAt (h.bump N) (h.next + k) es (enc v)
 have n1 : ((h.bump N).putAt (h.next + k) es (enc v)).next = h.next + N:=rfl
 generalize (h.bump N).putAt (h.next + k) es (enc v) = X at *
 have xf:=x1.trans (Ext.freshed X)
 have o2 : Own X.freshed (h.next + k) es (enc v):=o1.ext (Ext.freshed X) (by omega)
 have hs : Cells X.freshed (some ⟨h.next + k,0,none⟩) 1 es (enc v):=⟨rfl,by show h.next + k < X.next;omega,by rw [o2.readG (by rw [he];omega),List.drop_zero,List.take_of_length_le (by rw [he];omega)]⟩
 obtain ⟨a',c',h',h1,h2,h3⟩:=append_ok hT hT.und (c2:=1) (hp.ext xf) hs (all_flat hok l) (hok v) (by omega) (by omega)
 obtain ⟨w1,w2⟩:=h3 h0 (e0.trans xf) hf
 rw [e_app hA]
 refine ⟨a',n + 1,c',h',h1,hC a' c' h' ?_ w2 ?_⟩
 ·rw [e_lowered hA]
  refine Apd.of_get (h:=h') (by simpa using h2) (Nat.le_refl _) (fun ad had hb => rfl)
 ·rw [e_lowered hA]
  exact Ext.lower' w1 (e0.trans x1) hlow
end Go.Proofs.Ytogliemiljhliaa
