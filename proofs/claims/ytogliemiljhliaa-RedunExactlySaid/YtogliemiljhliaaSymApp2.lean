import Derived.Test.YtogliemiljhliaaSymMat
import Derived.Test.YtogliemiljhliaaSymGr
set_option linter.unusedSimpArgs false
set_option linter.unusedVariables false
namespace Go.Proofs.Ytogliemiljhliaa
open Go.Sim
set_option linter.unusedVariables false
set_option maxRecDepth 100000
variable {F : Prims} {call head arith cmp scmp bnot bsame conv neg imax imin ofNat slen place inR nz geZ rd wr push next mkOK nat zeros sadd eqAgg cut slc sslc strAt part app cpy putAt fresh lowered bump wrote addN lt ne fpAll fpApp brk yn rng mget mput mnew bytes clr : _} (hA : AP F ⟨call,head,arith,cmp,scmp,bnot,bsame,conv,neg,imax,imin,ofNat,slen,place,inR,nz,geZ,rd,wr,push,next,mkOK,nat,zeros,sadd,eqAgg,cut,slc,sslc,strAt,part,app,cpy,putAt,fresh,lowered,bump,wrote,addN,lt,ne,fpAll,fpApp,brk,yn,rng,mget,mput,mnew,bytes,clr⟩)
include hA
theorem appIn_ok {t e es : Nat} (hT : SliceT Try.prog t e es) {α : Type} [Inhabited α] {enc : α → List Value} (he : ∀ x,(enc x).length = es) (hp0 : 0 < es) (hok : ∀ x,(enc x).all cellOK = true) {h : AHeap} {b n c : Nat} {l : List α} {v : α} (ho : Own h b es (l.flatMap enc)) (hl : l.length = c) (hb : b < h.next) (hn : n < c) (hc : c ≤ 1000000) {C : Option Addr → Nat → Nat → AHeap → Prop}
  (hC : ∀ h',Own h' b es ((l.set n v).flatMap enc) → Wrote (h.push es (enc v)) h' b → C (some ⟨b,0,none⟩) (n + 1) c h') :
  app [t,t] [.slice (some ⟨b,0,none⟩) n c,.slice (some ⟨next h,0,none⟩) 1 1] (push h es (enc v)) C:=by
 rw [e_app hA,e_push hA,e_next hA]
 obtain ⟨by_,hby,hby2⟩:=hT.bytes
 obtain ⟨z,hz,hz2⟩:=hT.zero
 have oP : Own (h.push es (enc v)) b es (l.flatMap enc):=ho.ext (.push h es (enc v)) hb
 have hr : (h.push es (enc v)).readG ⟨h.next,0,none⟩ (1 * es) = some (enc v):=by
  rw [(Own.push h es (enc v)).readG (by rw [he];omega),List.drop_zero,List.take_of_length_le (by rw [he];omega)]
 have hnews : newsA Try.prog (h.push es (enc v)) e es false (.slice (some ⟨h.next,0,none⟩) 1 1) = some (1,enc v):=by
  unfold newsA
  simp only [cond_false,hr]
 obtain ⟨h',w1,w2,w3⟩:=Own.setRow oP he (i:=n) (by omega) v
 have hcap : capLow c = c:=Nat.mod_eq_of_lt (by unfold slack;omega)
 refine ⟨_,n + 1,_,h',?_,hC h' w2 w3⟩
 unfold appendH
 simp only [hT.und,hT.size,hby,hz,isIntDesc,hnews]
 rw [hcap,ble_true (show n + 1 ≤ c by omega)]
 simp only [cond_true,AHeap.writeG,aadd,hok,Nat.zero_add,w1]
theorem appInD_ok {t e es : Nat} (hT : SliceT Try.prog t e es) {α : Type} [Inhabited α] {enc : α → List Value} (he : ∀ x,(enc x).length = es) (hp0 : 0 < es) (hok : ∀ x,(enc x).all cellOK = true) {X : AHeap} {i b n c : Nat} {l : List α} {v : α} (ho : Own X b es (l.flatMap enc)) (hl : l.length = c) (hb : b < X.next) (hi : i < X.next) (hne : i ≠ b) (hn : n < c) (hc : c ≤ 1000000) {C : Option Addr → Nat → Nat → AHeap → Prop}
  (hC : ∀ h',Own (lowered (putAt X i es (enc v)) h') b es ((l.set n v).flatMap enc) → (lowered (putAt X i es (enc v)) h').next = X.next → (∀ j,j ≠ b → j ≠ i → (lowered (putAt X i es (enc v)) h').m.get j = X.m.get j) → (∀ h0,Ext h0 X → h0.low ≤ h0.next → h0.next ≤ b → h0.next ≤ i → Ext h0 (lowered (putAt X i es (enc v)) h')) → C (some ⟨b,0,none⟩) (n + 1) c h') :
  app [t,t] [.slice (some ⟨b,0,none⟩) n c,.slice (some ⟨i,0,none⟩) 1 1] (fresh (putAt X i es (enc v))) C:=by
 rw [e_putAt hA] at hC ⊢
 simp only [e_lowered hA] at hC
 rw [e_fresh hA,e_app hA]
 obtain ⟨by_,hby,hby2⟩:=hT.bytes
 obtain ⟨z,hz,hz2⟩:=hT.zero
 have g1 : ∀ j,j ≠ i → (X.putAt i es (enc v)).m.get j = X.m.get j:=fun j hj => by unfold AHeap.putAt;simp only [];rw [Tri.get_set_ne _ _ (fun q => hj q.symm)]
 have o0 : Own (X.putAt i es (enc v)).freshed b es (l.flatMap enc):=by unfold Own at ho ⊢;rw [← ho];exact g1 b (fun q => hne q.symm)
 have o1 : Own (X.putAt i es (enc v)).freshed i es (enc v):=Own.putAt X i es (enc v)
 have hr : (X.putAt i es (enc v)).freshed.readG ⟨i,0,none⟩ (1 * es) = some (enc v):=by
  rw [o1.readG (by rw [he];omega),List.drop_zero,List.take_of_length_le (by rw [he];omega)]
 have hnews : newsA Try.prog (X.putAt i es (enc v)).freshed e es false (.slice (some ⟨i,0,none⟩) 1 1) = some (1,enc v):=by
  unfold newsA
  simp only [cond_false,hr]
 obtain ⟨h',w1,w2,w3⟩:=Own.setRow o0 he (i:=n) (by omega) v
 have hcap : capLow c = c:=Nat.mod_eq_of_lt (by unfold slack;omega)
 refine ⟨_,n + 1,_,h',?_,hC h' w2 w3.next (fun j h1 h2 => (w3.get j h1).trans (g1 j h2)) (fun h0 x l0 x1 x2 => ?_)⟩
 ·unfold appendH
  simp only [hT.und,hT.size,hby,hz,isIntDesc,hnews]
  rw [hcap,ble_true (show n + 1 ≤ c by omega)]
  simp only [cond_true,AHeap.writeG,aadd,hok,Nat.zero_add,w1]
 ·have xP : Ext h0 (X.putAt i es (enc v)):=⟨x.next,x.low,x.lowG,fun j hj => (g1 j (by omega)).trans (x.get j hj)⟩
  exact Ext.lower' (w3.ext (xP.trans (Ext.freshed _)) x1) xP l0
theorem appKD_ok {t e es : Nat} (hT : SliceT Try.prog t e es) {α : Type} {enc : α → List Value} (he : ∀ x,(enc x).length = es) (hp0 : 0 < es) (hok : ∀ x,(enc x).all cellOK = true) {X : AHeap} {i : Nat} (hi : i < X.next)
  {a : Option Addr} {n c : Nat} {l : List α} {v : α} (hp : Apd X es a n c (l.flatMap enc)) (hai : ∀ ad,a = some ad → ad.block ≠ i) (hn : n ≤ 100000) {C : Option Addr → Nat → Nat → AHeap → Prop}
  (hC : ∀ b' h',Apd (lowered (putAt X i es (enc v)) h') es (some ⟨b',0,none⟩) (n + 1) (someCap es (n + 1)) ((l ++ [v]).flatMap enc) → X.next ≤ b' → X.next ≤ (lowered (putAt X i es (enc v)) h').next → (∀ j,j < X.next → j ≠ i → (∀ ad,a = some ad → ad.block ≠ j) → (lowered (putAt X i es (enc v)) h').m.get j = X.m.get j) → (∀ h0,Ext h0 X → h0.low ≤ h0.next → h0.next ≤ i → From h0.next a → Ext h0 (lowered (putAt X i es (enc v)) h')) → C (some ⟨b',0,none⟩) (n + 1) (someCap es (n + 1)) h') :
  app [t,t] [.slice a n c,.slice (some ⟨i,0,none⟩) 1 1] (fresh (putAt X i es (enc v))) C:=by
 rw [e_putAt hA] at hC ⊢
 simp only [e_lowered hA] at hC
 rw [e_fresh hA,e_app hA]
 have g1 : ∀ j,j ≠ i → (X.putAt i es (enc v)).m.get j = X.m.get j:=fun j hj => by unfold AHeap.putAt;simp only [];rw [Tri.get_set_ne _ _ (fun q => hj q.symm)]
 have o1 : Own (X.putAt i es (enc v)).freshed i es (enc v):=Own.putAt X i es (enc v)
 have hp1 : Apd (X.putAt i es (enc v)).freshed es a n c (l.flatMap enc):=Apd.of_get hp (Nat.le_refl _) (fun ad had _ => g1 _ (hai ad had))
 have hs : Cells (X.putAt i es (enc v)).freshed (some ⟨i,0,none⟩) 1 es (enc v):=⟨rfl,hi,by rw [o1.readG (by rw [he];omega),List.drop_zero,List.take_of_length_le (by rw [he];omega)]⟩
 obtain ⟨a',c',h',h1,h2,h3,h4,h5,h6⟩:=append_keep hT hT.und (c2:=1) hp1 hs (all_flat hok l) (hok v) (by omega) (by omega)
 rcases h2 with ⟨_,w,_⟩ | ⟨b',rfl,rfl,w1,w2,w3⟩
 ·omega
 refine ⟨_,n + 1,_,h',h1,hC b' h' (.inr ⟨b',rfl,rfl,w1,by rw [flatE_len he];simp only [List.length_append,List.length_cons,List.length_nil];have:=hp.cells.length;rw [flatE_len he] at this;rw [Nat.eq_of_mul_eq_mul_right hp0 this],?_⟩) (h5 _ rfl) h4 (fun j j0 j1 j2 => (h6 j j0 j2).trans (g1 j j1)) (fun h0 x l0 x1 x2 => ?_)⟩
 ·have w4 : Own (h'.lowered (X.putAt i es (enc v)).low) b' es (l.flatMap enc ++ enc v):=w3
  simpa using w4
 ·have xP : Ext h0 (X.putAt i es (enc v)):=⟨x.next,x.low,x.lowG,fun j hj => (g1 j (by omega)).trans (x.get j hj)⟩
  exact Ext.lower' (h3 h0 (xP.trans (Ext.freshed _)) x2).1 xP l0
end Go.Proofs.Ytogliemiljhliaa
namespace Go.Proofs.Ytogliemiljhliaa
open Go.Sim
set_option linter.unusedVariables false
theorem append_full {P : Program} {t t2 e es : Nat} (hT : SliceT P t e es) (ht2 : P.underlying t2 = some (.slice e)) {h : AHeap} {b n n2 c2 : Nat} {a2 : Option Addr} {cells news : List Value} (ho : Own h b es cells) (hb : b < h.next) (hl : cells.length = n * es) (hn : n ≤ 1000) (hs : Cells h a2 n2 es news) (hok : cells.all cellOK = true) (hok2 : news.all cellOK = true) (h0 : 0 < n2) (hbig : n2 ≤ 1000000) :
  ∃ c',appendH P h [t,t2] [.slice (some ⟨b,0,none⟩) n n,.slice a2 n2 c2] = some (.slice (some ⟨h.next,0,none⟩) (n + n2) c',h.push es (cells ++ news)):=by
 obtain ⟨by_,hby,hby2⟩:=hT.bytes
 obtain ⟨z,hz,hz2⟩:=hT.zero
 have hnl:=hs.length
 have hnews : newsA P h e es false (.slice a2 n2 c2) = some (n2,news):=by
  unfold newsA
  simp only [cond_false]
  cases a2 with
  | none => obtain ⟨rfl,rfl⟩:=hs;simp
  | some ad =>
   obtain ⟨h1,h2,h3⟩:=hs
   simp only [h3]
 have hcl : capLow n = n:=Nat.mod_eq_of_lt (by unfold slack;omega)
 unfold appendH
 simp only [hT.und,hT.size,hby,ht2,hz,isIntDesc,hnews]
 rw [hcl,ble_false (by omega)]
 simp only [cond_false]
 rw [ble_true (show n + n2 ≤ 1073741824 by omega),ble_true hby2,hok2,hz2,hnl]
 simp only [Bool.and_self,Nat.beq_refl,cond_true]
 have hr : h.readG ⟨b,0,none⟩ (n * es) = some cells:=by rw [ho.readG (by omega)];simp [← hl]
 simp only [hr]
 rw [blt_true (show n < slack by unfold slack;omega),hok]
 simp only [cond_true]
 exact ⟨_,rfl⟩
variable {F : Prims} {call head arith cmp scmp bnot bsame conv neg imax imin ofNat slen place inR nz geZ rd wr push next mkOK nat zeros sadd eqAgg cut slc sslc strAt part app cpy putAt fresh lowered bump wrote addN lt ne fpAll fpApp brk yn rng mget mput mnew bytes clr : _} (hA : AP F ⟨call,head,arith,cmp,scmp,bnot,bsame,conv,neg,imax,imin,ofNat,slen,place,inR,nz,geZ,rd,wr,push,next,mkOK,nat,zeros,sadd,eqAgg,cut,slc,sslc,strAt,part,app,cpy,putAt,fresh,lowered,bump,wrote,addN,lt,ne,fpAll,fpApp,brk,yn,rng,mget,mput,mnew,bytes,clr⟩)
include hA
theorem appKE_ok {t e es : Nat} (hT : SliceT Try.prog t e es) {α : Type} {enc : α → List Value} (he : ∀ x,(enc x).length = es) (hp0 : 0 < es) (hok : ∀ x,(enc x).all cellOK = true) {X : AHeap} {i : Nat} (hi : i < X.next)
  {a : Option Addr} {n c : Nat} {l : List α} {v : α} (hp : Apd X es a n c (l.flatMap enc)) (hai : ∀ ad,a = some ad → ad.block ≠ i) (hn : n ≤ 100000) {C : Option Addr → Nat → Nat → AHeap → Prop}
  (hC : ∀ b' h',Apd (lowered (putAt X i es (enc v)) h') es (some ⟨b',0,none⟩) (n + 1) (someCap es (n + 1)) ((l ++ [v]).flatMap enc) → X.next ≤ b' → X.next ≤ (lowered (putAt X i es (enc v)) h').next → (∀ j,j < X.next → j ≠ i → (∀ ad,a = some ad → ad.block ≠ j) → (lowered (putAt X i es (enc v)) h').m.get j = X.m.get j) → (∀ h0,Ext h0 X → h0.low ≤ h0.next → h0.next ≤ i → From h0.next a → Ext h0 (lowered (putAt X i es (enc v)) h')) → (a = none → Ext (fresh (putAt X i es (enc v))) h') → C (some ⟨b',0,none⟩) (n + 1) (someCap es (n + 1)) h') :
  app [t,t] [.slice a n c,.slice (some ⟨i,0,none⟩) 1 1] (fresh (putAt X i es (enc v))) C:=by
 rw [e_putAt hA] at hC ⊢
 simp only [e_lowered hA,e_fresh hA] at hC
 rw [e_fresh hA,e_app hA]
 have g1 : ∀ j,j ≠ i → (X.putAt i es (enc v)).m.get j = X.m.get j:=fun j hj => by unfold AHeap.putAt;simp only [];rw [Tri.get_set_ne _ _ (fun q => hj q.symm)]
 have o1 : Own (X.putAt i es (enc v)).freshed i es (enc v):=Own.putAt X i es (enc v)
 have hp1 : Apd (X.putAt i es (enc v)).freshed es a n c (l.flatMap enc):=Apd.of_get hp (Nat.le_refl _) (fun ad had _ => g1 _ (hai ad had))
 have hs : Cells (X.putAt i es (enc v)).freshed (some ⟨i,0,none⟩) 1 es (enc v):=⟨rfl,hi,by rw [o1.readG (by rw [he];omega),List.drop_zero,List.take_of_length_le (by rw [he];omega)]⟩
 obtain ⟨a',c',h',h1,h2,h3,h4,h5,h6⟩:=append_keep hT hT.und (c2:=1) hp1 hs (all_flat hok l) (hok v) (by omega) (by omega)
 rcases h2 with ⟨_,w,_⟩ | ⟨b',rfl,rfl,w1,w2,w3⟩
 ·omega
 refine ⟨_,n + 1,_,h',h1,hC b' h' (.inr ⟨b',rfl,rfl,w1,by rw [flatE_len he];simp only [List.length_append,List.length_cons,List.length_nil];have:=hp.cells.length;rw [flatE_len he] at this;rw [Nat.eq_of_mul_eq_mul_right hp0 this],?_⟩) (h5 _ rfl) h4 (fun j j0 j1 j2 => (h6 j j0 j2).trans (g1 j j1)) (fun h0 x l0 x1 x2 => ?_) (fun q => (h3 _ (Ext.refl _) (by rw [q];exact From.none _)).1)⟩
 ·have w4 : Own (h'.lowered (X.putAt i es (enc v)).low) b' es (l.flatMap enc ++ enc v):=w3
  simpa using w4
 ·have xP : Ext h0 (X.putAt i es (enc v)):=⟨x.next,x.low,x.lowG,fun j hj => (g1 j (by omega)).trans (x.get j hj)⟩
  exact Ext.lower' (h3 h0 (xP.trans (Ext.freshed _)) x2).1 xP l0
end Go.Proofs.Ytogliemiljhliaa
