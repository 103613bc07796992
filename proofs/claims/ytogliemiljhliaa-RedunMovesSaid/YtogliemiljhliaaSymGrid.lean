import Derived.Test.YtogliemiljhliaaSortH
import Derived.Test.YtogliemiljhliaaSymBits
set_option linter.unusedSimpArgs false
set_option linter.unusedVariables false
namespace Go.Proofs.Ytogliemiljhliaa
open Go.Sim
set_option linter.unusedVariables false
theorem ext_bumpPut (h : AHeap) (n : Nat) {b : Nat} (hb : h.next ≤ b) (es : Nat) (cs : List Value) : Ext h ((h.bump n).putAt b es cs):=
 ⟨by simp [AHeap.bump,AHeap.putAt],fun l => by simp only [AHeap.bump,AHeap.putAt];omega,by simp only [AHeap.bump,AHeap.putAt];exact Nat.min_le_left _ _,fun i hi => by
  simp only [AHeap.bump,AHeap.putAt];rw [Tri.get_set_ne _ _ (by omega)]⟩
theorem all_flat {α : Type} {enc : α → List Value} (hok : ∀ x,(enc x).all cellOK = true) (l : List α) : (l.flatMap enc).all cellOK = true:=by
 rw [List.all_flatMap]
 simp only [hok,List.all_eq_true,implies_true]
variable {F : Prims} {call head arith cmp scmp bnot bsame conv neg imax imin ofNat slen place inR nz geZ rd wr push next mkOK nat zeros sadd eqAgg cut slc sslc strAt part app cpy putAt fresh lowered bump wrote addN lt ne fpAll fpApp brk yn rng mget mput mnew bytes clr : _} (hA : AP F ⟨call,head,arith,cmp,scmp,bnot,bsame,conv,neg,imax,imin,ofNat,slen,place,inR,nz,geZ,rd,wr,push,next,mkOK,nat,zeros,sadd,eqAgg,cut,slc,sslc,strAt,part,app,cpy,putAt,fresh,lowered,bump,wrote,addN,lt,ne,fpAll,fpApp,brk,yn,rng,mget,mput,mnew,bytes,clr⟩)
include hA
theorem appR_ok {t e es : Nat} (hT : SliceT Try.prog t e es) {α : Type} {enc : α → List Value} (he : ∀ x,(enc x).length = es) (hp0 : 0 < es) (hok : ∀ x,(enc x).all cellOK = true) {h : AHeap} {a : Option Addr} {n c : Nat} {l : List α} {v : α} (hp : Apd h es a n c (l.flatMap enc)) (hn : n ≤ 100000) {C : Option Addr → Nat → Nat → AHeap → Prop}
  (hC : ∀ a' c' h',Apd h' es a' (n + 1) c' ((l ++ [v]).flatMap enc) → (∀ h0,Ext h0 h → From h0.next a → Ext h0 h' ∧ From h0.next a') → C a' (n + 1) c' h') :
  app [t,t] [.slice a n c,.slice (some ⟨next h,0,none⟩) 1 1] (push h es (enc v)) C:=by
 rw [e_app hA,e_push hA,e_next hA]
 have hs : Cells (h.push es (enc v)) (some ⟨h.next,0,none⟩) 1 es (enc v):=⟨rfl,by simp [AHeap.push],by rw [(Own.push h es _).readG (by rw [he];omega),List.drop_zero,List.take_of_length_le (by rw [he];omega)]⟩
 have hall : (l.flatMap enc).all cellOK = true:=by
  rw [List.all_flatMap]
  simp only [hok,List.all_eq_true,implies_true]
 obtain ⟨a',c',h',h1,h2,h3⟩:=append_ok hT hT.und (c2:=1) (hp.ext (.push h es (enc v))) hs hall (hok v) (by omega) (by omega)
 refine ⟨a',n + 1,c',h',h1,hC a' c' h' (by simpa using h2) (fun h0 e0 f0 => h3 h0 (e0.trans (.push _ _ _)) f0)⟩
theorem appCopy_ok {t e es : Nat} (hT : SliceT Try.prog t e es) {α : Type} {enc : α → List Value} (hok : ∀ x,(enc x).all cellOK = true) {h : AHeap} {a : Option Addr} {n c : Nat} {l : List α} (hl : Rows enc es h a n l) (hn : n ≤ 100000) {C : Option Addr → Nat → Nat → AHeap → Prop}
  (hC : ∀ b' c' h',Own h' b' es (l.flatMap enc) → h.next ≤ b' → b' < h'.next → Ext h h' → C (some ⟨b',0,none⟩) n c' h') :
  app [t,t] [.slice (some ⟨next h,0,none⟩) 0 0,.slice a n c] (push h es []) C:=by
 rw [e_app hA,e_push hA,e_next hA]
 have hall : (l.flatMap enc).all cellOK = true:=by
  rw [List.all_flatMap]
  simp only [hok,List.all_eq_true,implies_true]
 have h0:=hl.each
 obtain ⟨b',c',h',h1,h2,h3,h4⟩:=append_new hT hT.und (Own.push h es []) (by simp [AHeap.push]) (hl.ext (.push h es [])).cells hall (by omega) (c2:=c)
 obtain ⟨k1,k2⟩:=h4 h (.push h es []) (Nat.le_refl _)
 exact ⟨some ⟨b',0,none⟩,n,c',h',h1,hC b' c' h' h2 k2 h3 k1⟩
theorem appD_ok {t e es : Nat} (hT : SliceT Try.prog t e es) {α : Type} {enc : α → List Value} (he : ∀ x,(enc x).length = es) (hp0 : 0 < es) (hok : ∀ x,(enc x).all cellOK = true) {h0 h h9 : AHeap} (hlow : h0.low ≤ h0.next) (e0 : Ext h0 h) {N k : Nat} (hk : k < N) (hh9 : h9 = bump h N)
  {a : Option Addr} {n c : Nat} {l : List α} {v : α} (hp : Apd h es a n c (l.flatMap enc)) (hf : From h0.next a) (hn : n ≤ 100000) {C : Option Addr → Nat → Nat → AHeap → Prop}
  (hC : ∀ a' c' h',Apd (lowered (putAt h9 (addN (next h) k) es (enc v)) h') es a' (n + 1) c' ((l ++ [v]).flatMap enc) → From h0.next a' → Ext h0 (lowered (putAt h9 (addN (next h) k) es (enc v)) h') → C a' (n + 1) c' h') :
  app [t,t] [.slice a n c,.slice (some ⟨addN (next h) k,0,none⟩) 1 1] (fresh (putAt h9 (addN (next h) k) es (enc v))) C:=by
 rw [e_bump hA] at hh9
 subst hh9
 rw [e_addN hA,e_next hA,e_putAt hA] at hC ⊢
 rw [e_fresh hA]
 have x1 : Ext h ((h.bump N).putAt (h.next + k) es (enc v)):=ext_bumpPut h N (by omega) es _
 have o1:=Own.putAt (h.bump N) (h.next + k) es (enc v)
 have n1 : ((h.bump N).putAt (h.next + k) es (enc v)).next = h.next + N:=rfl
 generalize (h.bump N).putAt (h.next + k) es (enc v) = X at *
 have xf:=x1.trans (Ext.freshed X)
 have o2 : Own X.freshed (h.next + k) es (enc v):=o1.ext (Ext.freshed X) (by omega)
 have hs : Cells X.freshed (some ⟨h.next + k,0,none⟩) 1 es (enc v):=⟨rfl,by show h.next + k < X.next;omega,by rw [o2.readG (by rw [he];omega),List.drop_zero,List.take_of_length_le (by rw [he];omega)]⟩
 obtain ⟨a',c',h',h1,h2,h3⟩:=append_ok hT hT.und (c2:=1) (hp.ext xf) hs (all_flat hok l) (hok v) (by omega) (by omega)
 obtain ⟨w1,w2⟩:=h3 h0 (e0.trans xf) hf
 rw [e_app hA]
 refine ⟨a',n + 1,c',h',h1,hC a' c' h' ?_ w2 ?_⟩
 ·rw [e_lowered hA]
  refine Apd.of_get (h:=h') (by simpa using h2) (Nat.le_refl _) (fun ad had hb => rfl)
 ·rw [e_lowered hA]
  exact Ext.lower' w1 (e0.trans x1) hlow
end Go.Proofs.Ytogliemiljhliaa
namespace Go.Proofs.Ytogliemiljhliaa
open Go.Sim
set_option linter.unusedVariables false
set_option maxRecDepth 100000
section
variable {α : Type} {enc : α → List Value} {es : Nat} {h0 h : AHeap} {oa : Nat} {bs : List Nat} {g : List (List α)}
theorem bs_mem {bs : List Nat} {i : Nat} (h : i < bs.length) : bs.getD i 0 ∈ bs:=by
 rw [List.getD_eq_getElem?_getD,List.getElem?_eq_getElem h];exact List.getElem_mem h
theorem nodup_getD {bs : List Nat} (h : bs.Nodup) {i j : Nat} (hi : i < bs.length) (hj : j < bs.length) (e : bs.getD i 0 = bs.getD j 0) : i = j:=by
 rw [List.getD_eq_getElem?_getD,List.getD_eq_getElem?_getD,List.getElem?_eq_getElem hi,List.getElem?_eq_getElem hj] at e
 exact (List.getElem_inj h).1 (by simpa using e)
end
variable {F : Prims} {call head arith cmp scmp bnot bsame conv neg imax imin ofNat slen place inR nz geZ rd wr push next mkOK nat zeros sadd eqAgg cut slc sslc strAt part app cpy putAt fresh lowered bump wrote addN lt ne fpAll fpApp brk yn rng mget mput mnew bytes clr : _} (hA : AP F ⟨call,head,arith,cmp,scmp,bnot,bsame,conv,neg,imax,imin,ofNat,slen,place,inR,nz,geZ,rd,wr,push,next,mkOK,nat,zeros,sadd,eqAgg,cut,slc,sslc,strAt,part,app,cpy,putAt,fresh,lowered,bump,wrote,addN,lt,ne,fpAll,fpApp,brk,yn,rng,mget,mput,mnew,bytes,clr⟩)
include hA
theorem appK_ok {t e es : Nat} (hT : SliceT Try.prog t e es) {α : Type} {enc : α → List Value} (he : ∀ x,(enc x).length = es) (hp0 : 0 < es) (hok : ∀ x,(enc x).all cellOK = true) {h : AHeap} {a : Option Addr} {n c : Nat} {l : List α} {v : α} (hp : Apd h es a n c (l.flatMap enc)) (hn : n ≤ 100000) {C : Option Addr → Nat → Nat → AHeap → Prop}
  (hC : ∀ b' h',Apd h' es (some ⟨b',0,none⟩) (n + 1) (someCap es (n + 1)) ((l ++ [v]).flatMap enc) → (∀ h0,Ext h0 h → From h0.next a → Ext h0 h') → h.next < h'.next → h.next < b' → (∀ i,i < h.next → (∀ ad,a = some ad → ad.block ≠ i) → h'.m.get i = h.m.get i) → C (some ⟨b',0,none⟩) (n + 1) (someCap es (n + 1)) h') :
  app [t,t] [.slice a n c,.slice (some ⟨next h,0,none⟩) 1 1] (push h es (enc v)) C:=by
 rw [e_app hA,e_push hA,e_next hA]
 have hs : Cells (h.push es (enc v)) (some ⟨h.next,0,none⟩) 1 es (enc v):=⟨rfl,by simp [AHeap.push],by rw [(Own.push h es _).readG (by rw [he];omega),List.drop_zero,List.take_of_length_le (by rw [he];omega)]⟩
 obtain ⟨a',c',h',h1,h2,h3,h4,h5,h6⟩:=append_keep hT hT.und (c2:=1) (hp.ext (.push h es (enc v))) hs (all_flat hok l) (hok v) (by omega) (by omega)
 rcases h2 with ⟨_,w,_⟩ | ⟨b',rfl,rfl,w1,w2,w3⟩
 ·omega
 have nx : (h.push es (enc v)).next = h.next + 1:=rfl
 refine ⟨_,n + 1,_,h',h1,hC b' h' (.inr ⟨b',rfl,rfl,w1,by rw [flatE_len he];simp only [List.length_append,List.length_cons,List.length_nil];have:=hp.cells.length;rw [flatE_len he] at this;rw [Nat.eq_of_mul_eq_mul_right hp0 this],?_⟩) (fun h0 e0 f0 => (h3 h0 (e0.trans (.push _ _ _)) f0).1) (by omega) (by have:=h5 _ rfl;simp only at this;omega) (fun i hi ha => ?_)⟩
 ·simpa using w3
 ·rw [h6 i (by omega) ha]
  exact (Ext.push h es (enc v)).get i hi
end Go.Proofs.Ytogliemiljhliaa
