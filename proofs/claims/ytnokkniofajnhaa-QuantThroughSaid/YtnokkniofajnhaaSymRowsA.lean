import Derived.Test.YtnokkniofajnhaaSymRows
import Derived.Test.YtnokkniofajnhaaSymBits
set_option linter.unusedSimpArgs false
set_option linter.unusedVariables false
namespace Go.Proofs.Ytnokkniofajnhaa
open Go.Sim
set_option linter.unusedVariables false
theorem all_flat {α : Type} {enc : α → List Value} (hok : ∀ x,(enc x).all cellOK = true) (l : List α) : (l.flatMap enc).all cellOK = true:=by
 rw [List.all_flatMap]
 simp only [hok,List.all_eq_true,implies_true]
variable {F : Prims} {call head arith cmp scmp bnot bsame conv neg imax imin ofNat slen place inR nz geZ rd wr push next mkOK nat zeros sadd eqAgg cut slc sslc strAt part app cpy putAt fresh lowered bump wrote addN lt ne fpAll brk yn rng mget mput mnew bytes clr : _} (hA : AP F ⟨call,head,arith,cmp,scmp,bnot,bsame,conv,neg,imax,imin,ofNat,slen,place,inR,nz,geZ,rd,wr,push,next,mkOK,nat,zeros,sadd,eqAgg,cut,slc,sslc,strAt,part,app,cpy,putAt,fresh,lowered,bump,wrote,addN,lt,ne,fpAll,brk,yn,rng,mget,mput,mnew,bytes,clr⟩)
include hA
theorem appR_ok {t e es : Nat} (hT : SliceT Try.prog t e es) {α : Type} {enc : α → List Value} (he : ∀ x,(enc x).length = es) (hp0 : 0 < es) (hok : ∀ x,(enc x).all cellOK = true) {h : AHeap} {a : Option Addr} {n c : Nat} {l : List α} {v : α} (hp : Apd h es a n c (l.flatMap enc)) (hn : n ≤ 100000) {C : Option Addr → Nat → Nat → AHeap → Prop}
  (hC : ∀ a' c' h',Apd h' es a' (n + 1) c' ((l ++ [v]).flatMap enc) → (∀ h0,Ext h0 h → From h0.next a → Ext h0 h' ∧ From h0.next a') → C a' (n + 1) c' h') :
  app [t,t] [.slice a n c,.slice (some ⟨next h,0,none⟩) 1 1] (push h es (enc v)) C:=by
 rw [e_app hA,e_push hA,e_next hA]
 have hs : Cells (h.push es (enc v)) (some ⟨h.next,0,none⟩) 1 es (enc v):=⟨rfl,by simp [AHeap.push],by rw [(Own.push h es _).readG (by rw [he];omega),List.drop_zero,List.take_of_length_le (by rw [he];omega)]⟩
 have hall : (l.flatMap enc).all cellOK = true:=by
  rw [List.all_flatMap]
  simp only [hok,List.all_eq_true,implies_true]
 obtain ⟨a',c',h',h1,h2,h3⟩:=append_ok hT hT.und (c2:=1) (hp.ext (.push h es (enc v))) hs hall (hok v) (by omega) (by omega)
 refine ⟨a',n + 1,c',h',h1,hC a' c' h' (by simpa using h2) (fun h0 e0 f0 => h3 h0 (e0.trans (.push _ _ _)) f0)⟩
end Go.Proofs.Ytnokkniofajnhaa
