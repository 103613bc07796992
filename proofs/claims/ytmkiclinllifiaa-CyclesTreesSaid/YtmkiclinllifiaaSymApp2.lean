import Derived.Test.YtmkiclinllifiaaSortP
import Derived.Test.YtmkiclinllifiaaFracA
import Derived.Test.YtmkiclinllifiaaSymFacts
set_option linter.unusedSimpArgs false
set_option linter.unusedVariables false
namespace Go.Proofs.Ytmkiclinllifiaa
open Go.Sim
set_option linter.unusedVariables false
theorem ext_bumpPut (h : AHeap) (n : Nat) {b : Nat} (hb : h.next ≤ b) (es : Nat) (cs : List Value) : Ext h ((h.bump n).putAt b es cs):=
 ⟨by simp [AHeap.bump,AHeap.putAt],fun l => by simp only [AHeap.bump,AHeap.putAt];omega,by simp only [AHeap.bump,AHeap.putAt];exact Nat.min_le_left _ _,fun i hi => by
  simp only [AHeap.bump,AHeap.putAt];rw [Tri.get_set_ne _ _ (by omega)]⟩
theorem all_flat {α : Type} {enc : α → List Value} (hok : ∀ x,(enc x).all cellOK = true) (l : List α) : (l.flatMap enc).all cellOK = true:=by
 rw [List.all_flatMap]
 simp only [hok,List.all_eq_true,implies_true]
variable {F : Prims} {call head arith cmp scmp bnot bsame conv neg imax imin ofNat slen place inR nz geZ rd wr push next mkOK nat zeros sadd eqAgg cut slc sslc strAt part app cpy putAt fresh lowered bump wrote addN lt ne fpAll fpApp brk yn rng mget mput mnew bytes clr mrng ment : _} (hA : AP F ⟨call,head,arith,cmp,scmp,bnot,bsame,conv,neg,imax,imin,ofNat,slen,place,inR,nz,geZ,rd,wr,push,next,mkOK,nat,zeros,sadd,eqAgg,cut,slc,sslc,strAt,part,app,cpy,putAt,fresh,lowered,bump,wrote,addN,lt,ne,fpAll,fpApp,brk,yn,rng,mget,mput,mnew,bytes,clr,mrng,ment⟩)
include hA
theorem app_ok {ts : List TypeId} {l : List Value} {h : AHeap} {C : Option Addr → Nat → Nat → AHeap → Prop} {a : Option Addr} {n c : Nat} {h' : AHeap} (h1 : appendH Try.prog h ts l = some (.slice a n c,h')) (h2 : C a n c h') : app ts l h C:=by
 rw [e_app hA];exact ⟨a,n,c,h',h1,h2⟩
theorem appR_ok {t e es : Nat} (hT : SliceT Try.prog t e es) {α : Type} {enc : α → List Value} (he : ∀ x,(enc x).length = es) (hp0 : 0 < es) (hok : ∀ x,(enc x).all cellOK = true) {h : AHeap} {a : Option Addr} {n c : Nat} {l : List α} {v : α} (hp : Apd h es a n c (l.flatMap enc)) (hn : n ≤ 100000) {C : Option Addr → Nat → Nat → AHeap → Prop}
  (hC : ∀ a' c' h',Apd h' es a' (n + 1) c' ((l ++ [v]).flatMap enc) → (∀ h0,Ext h0 h → From h0.next a → Ext h0 h' ∧ From h0.next a') → C a' (n + 1) c' h') :
  app [t,t] [.slice a n c,.slice (some ⟨next h,0,none⟩) 1 1] (push h es (enc v)) C:=by
 rw [e_app hA,e_push hA,e_next hA]
 have hs : Cells (h.push es (enc v)) (some ⟨h.next,0,none⟩) 1 es (enc v):=⟨rfl,by simp [AHeap.push],by rw [(Own.push h es _).readG (by rw [he];omega),List.drop_zero,List.take_of_length_le (by rw [he];omega)]⟩
 have hall : (l.flatMap enc).all cellOK = true:=by
  rw [List.all_flatMap]
  simp only [hok,List.all_eq_true,implies_true]
 obtain ⟨a',c',h',h1,h2,h3⟩:=append_ok hT hT.und (c2:=1) (hp.ext (.push h es (enc v))) hs hall (hok v) (by omega) (by omega)
 refine ⟨a',n + 1,c',h',h1,hC a' c' h' (by simpa using h2) (fun h0 e0 f0 => h3 h0 (e0.trans (.push _ _ _)) f0)⟩
end Go.Proofs.Ytmkiclinllifiaa
namespace Go.Sim
set_option linter.unusedVariables false
set_option linter.unusedSimpArgs false
theorem Cells.part {h : AHeap} {a : Option Addr} {n es : Nat} {cells : List Value} (c : Cells h a n es cells) {i m : Nat} (hi : i + m ≤ n) : Cells h (a.map (aadd · (i * es))) m es ((cells.drop (i * es)).take (m * es)):=by
 have hlen:=c.length
 have hm : i * es + m * es ≤ n * es:=by rw [← Nat.add_mul];exact Nat.mul_le_mul_right es hi
 cases a with
 | none =>
  obtain ⟨rfl,rfl⟩:=c
  exact ⟨by omega,by simp⟩
 | some ad =>
  obtain ⟨h1,h2,h3⟩:=c
  obtain ⟨b,o,sp⟩:=ad
  simp only at h1
  subst h1
  refine ⟨rfl,h2,?_⟩
  unfold AHeap.readG aadd at *
  simp only [] at h3 ⊢
  split at h3
  ·rename_i cs hcs
   obtain ⟨e1,e2⟩:=readN_eq h3
   refine readN_some ?_ ?_
   ·subst e1
    rw [List.drop_take,List.take_take,List.drop_drop,Nat.min_eq_left (by omega)]
   ·simp only [List.length_take,List.length_drop];omega
  ·cases h3
theorem Cells.head {h : AHeap} {a : Option Addr} {n es : Nat} {cells : List Value} (c : Cells h a n es cells) {m : Nat} (hm : m ≤ n) : Cells h a m es (cells.take (m * es)):=by
 have:=c.part (i:=0) (m:=m) (by omega)
 rw [Nat.zero_mul,List.drop_zero] at this
 cases a with
 | none => exact this
 | some ad => exact this
end Go.Sim
namespace Go.Proofs.Ytmkiclinllifiaa
open Go.Sim
set_option linter.unusedVariables false
set_option maxRecDepth 100000
variable {F : Prims} {call head arith cmp scmp bnot bsame conv neg imax imin ofNat slen place inR nz geZ rd wr push next mkOK nat zeros sadd eqAgg cut slc sslc strAt part app cpy putAt fresh lowered bump wrote addN lt ne fpAll fpApp brk yn rng mget mput mnew bytes clr mrng ment : _} (hA : AP F ⟨call,head,arith,cmp,scmp,bnot,bsame,conv,neg,imax,imin,ofNat,slen,place,inR,nz,geZ,rd,wr,push,next,mkOK,nat,zeros,sadd,eqAgg,cut,slc,sslc,strAt,part,app,cpy,putAt,fresh,lowered,bump,wrote,addN,lt,ne,fpAll,fpApp,brk,yn,rng,mget,mput,mnew,bytes,clr,mrng,ment⟩)
include hA
theorem appK_ok {t e es : Nat} (hT : SliceT Try.prog t e es) {α : Type} {enc : α → List Value} (he : ∀ x,(enc x).length = es) (hp0 : 0 < es) (hok : ∀ x,(enc x).all cellOK = true) {h : AHeap} {a : Option Addr} {n c : Nat} {l : List α} {v : α} (hp : Apd h es a n c (l.flatMap enc)) (hn : n ≤ 100000) {C : Option Addr → Nat → Nat → AHeap → Prop}
  (hC : ∀ b' h',Apd h' es (some ⟨b',0,none⟩) (n + 1) (someCap es (n + 1)) ((l ++ [v]).flatMap enc) → (∀ h0,Ext h0 h → From h0.next a → Ext h0 h') → h.next < h'.next → h.next < b' → (∀ i,i < h.next → (∀ ad,a = some ad → ad.block ≠ i) → h'.m.get i = h.m.get i) → C (some ⟨b',0,none⟩) (n + 1) (someCap es (n + 1)) h') :
  app [t,t] [.slice a n c,.slice (some ⟨next h,0,none⟩) 1 1] (push h es (enc v)) C:=by
 rw [e_app hA,e_push hA,e_next hA]
 have hs : Cells (h.push es (enc v)) (some ⟨h.next,0,none⟩) 1 es (enc v):=⟨rfl,by simp [AHeap.push],by rw [(Own.push h es _).readG (by rw [he];omega),List.drop_zero,List.take_of_length_le (by rw [he];omega)]⟩
 obtain ⟨a',c',h',h1,h2,h3,h4,h5,h6⟩:=append_keep hT hT.und (c2:=1) (hp.ext (.push h es (enc v))) hs (all_flat hok l) (hok v) (by omega) (by omega)
 rcases h2 with ⟨_,w,_⟩ | ⟨b',rfl,rfl,w1,w2,w3⟩
 ·omega
 have nx : (h.push es (enc v)).next = h.next + 1:=rfl
 refine ⟨_,n + 1,_,h',h1,hC b' h' (.inr ⟨b',rfl,rfl,w1,by rw [flatE_len he];simp only [List.length_append,List.length_cons,List.length_nil];have:=hp.cells.length;rw [flatE_len he] at this;rw [Nat.eq_of_mul_eq_mul_right hp0 this],?_⟩) (fun h0 e0 f0 => (h3 h0 (e0.trans (.push _ _ _)) f0).1) (by omega) (by have:=h5 _ rfl;simp only at this;omega) (fun i hi ha => ?_)⟩
 ·simpa using w3
 ·rw [h6 i (by omega) ha]
  exact (Ext.push h es (enc v)).get i hi
end Go.Proofs.Ytmkiclinllifiaa
namespace Go.Proofs.Ytmkiclinllifiaa
open Go.Sim
set_option linter.unusedVariables false
set_option maxRecDepth 100000
structure Hd where
 a : Option Addr
 n : Nat
 c : Nat
 deriving Inhabited
def Hd.cells (k : Hd) : List Value:=[.slice k.a k.n k.c]
theorem hd_len (k : Hd) : k.cells.length = 1:=rfl
theorem hd_ok (k : Hd) : k.cells.all cellOK = true:=rfl
structure GrR {α : Type} [Inhabited α] (enc : α → List Value) (es : Nat) (h : AHeap) (a : Option Addr) (N : Nat) (hs : List Hd) (g : List (List α)) : Prop where
 hd : Rows Hd.cells 1 h a N hs
 len : g.length = N
 row : ∀ y : Int,0 ≤ y → y < N → Rows enc es h (gt hs y).a (gt hs y).n (gt g y)
theorem GrR.ext {α : Type} [Inhabited α] {enc : α → List Value} {es : Nat} {h h' : AHeap} {a : Option Addr} {N : Nat} {hs : List Hd} {g : List (List α)} (t : GrR enc es h a N hs g) (e : Ext h h') : GrR enc es h' a N hs g:=⟨t.hd.ext e,t.len,fun y y0 y1 => (t.row y y0 y1).ext e⟩
theorem GrR.some {α : Type} [Inhabited α] {enc : α → List Value} {es : Nat} {h : AHeap} {a : Option Addr} {N : Nat} {hs : List Hd} {g : List (List α)} (t : GrR enc es h a N hs g) (hN : 0 < N) : ∃ b o,a = Option.some ⟨b,o,none⟩ ∧ b < h.next:=by
 obtain ⟨b,o,e,l,_⟩:=t.hd.at (i:=0) (by omega) (by omega)
 exact ⟨b,o,e,l⟩
variable {F : Prims} {call head arith cmp scmp bnot bsame conv neg imax imin ofNat slen place inR nz geZ rd wr push next mkOK nat zeros sadd eqAgg cut slc sslc strAt part app cpy putAt fresh lowered bump wrote addN lt ne fpAll fpApp brk yn rng mget mput mnew bytes clr mrng ment : _} (hA : AP F ⟨call,head,arith,cmp,scmp,bnot,bsame,conv,neg,imax,imin,ofNat,slen,place,inR,nz,geZ,rd,wr,push,next,mkOK,nat,zeros,sadd,eqAgg,cut,slc,sslc,strAt,part,app,cpy,putAt,fresh,lowered,bump,wrote,addN,lt,ne,fpAll,fpApp,brk,yn,rng,mget,mput,mnew,bytes,clr,mrng,ment⟩)
include hA
theorem gr_head {α : Type} [Inhabited α] {enc : α → List Value} {es : Nat} {h : AHeap} {b o N : Nat} {hs : List Hd} {g : List (List α)} (t : GrR enc es h (some ⟨b,o,none⟩) N hs g) {y : Int} (y0 : 0 ≤ y) (y1 : y < N) : rd h b (place o y 1) 1 [.slice (gt hs y).a (gt hs y).n (gt hs y).c]:=by
 obtain ⟨b',o',e,_,w⟩:=t.hd.at y0 y1
 cases e
 exact rd_ok hA (w 0 1 (by omega) (by omega))
end Go.Proofs.Ytmkiclinllifiaa
namespace Go.Proofs.Ytmkiclinllifiaa
open Go.Sim
set_option linter.unusedVariables false
set_option maxRecDepth 100000
variable {F : Prims} {call head arith cmp scmp bnot bsame conv neg imax imin ofNat slen place inR nz geZ rd wr push next mkOK nat zeros sadd eqAgg cut slc sslc strAt part app cpy putAt fresh lowered bump wrote addN lt ne fpAll fpApp brk yn rng mget mput mnew bytes clr mrng ment : _} (hA : AP F ⟨call,head,arith,cmp,scmp,bnot,bsame,conv,neg,imax,imin,ofNat,slen,place,inR,nz,geZ,rd,wr,push,next,mkOK,nat,zeros,sadd,eqAgg,cut,slc,sslc,strAt,part,app,cpy,putAt,fresh,lowered,bump,wrote,addN,lt,ne,fpAll,fpApp,brk,yn,rng,mget,mput,mnew,bytes,clr,mrng,ment⟩)
include hA
theorem appKD_ok {t e es : Nat} (hT : SliceT Try.prog t e es) {α : Type} {enc : α → List Value} (he : ∀ x,(enc x).length = es) (hp0 : 0 < es) (hok : ∀ x,(enc x).all cellOK = true) {X : AHeap} {i : Nat} (hi : i < X.next)
  {a : Option Addr} {n c : Nat} {l : List α} {v : α} (hp : Apd X es a n c (l.flatMap enc)) (hai : ∀ ad,a = some ad → ad.block ≠ i) (hn : n ≤ 100000) {C : Option Addr → Nat → Nat → AHeap → Prop}
  (hC : ∀ b' h',Apd (lowered (putAt X i es (enc v)) h') es (some ⟨b',0,none⟩) (n + 1) (someCap es (n + 1)) ((l ++ [v]).flatMap enc) → X.next ≤ b' → X.next ≤ (lowered (putAt X i es (enc v)) h').next → (∀ j,j < X.next → j ≠ i → (∀ ad,a = some ad → ad.block ≠ j) → (lowered (putAt X i es (enc v)) h').m.get j = X.m.get j) → (∀ h0,Ext h0 X → h0.low ≤ h0.next → h0.next ≤ i → From h0.next a → Ext h0 (lowered (putAt X i es (enc v)) h')) → C (some ⟨b',0,none⟩) (n + 1) (someCap es (n + 1)) h') :
  app [t,t] [.slice a n c,.slice (some ⟨i,0,none⟩) 1 1] (fresh (putAt X i es (enc v))) C:=by
 rw [e_putAt hA] at hC ⊢
 simp only [e_lowered hA] at hC
 rw [e_fresh hA,e_app hA]
 have g1 : ∀ j,j ≠ i → (X.putAt i es (enc v)).m.get j = X.m.get j:=fun j hj => by unfold AHeap.putAt;simp only [];rw [Tri.get_set_ne _ _ (fun q => hj q.symm)]
 have o1 : Own (X.putAt i es (enc v)).freshed i es (enc v):=Own.putAt X i es (enc v)
 have hp1 : Apd (X.putAt i es (enc v)).freshed es a n c (l.flatMap enc):=Apd.of_get hp (Nat.le_refl _) (fun ad had _ => g1 _ (hai ad had))
 have hs : Cells (X.putAt i es (enc v)).freshed (some ⟨i,0,none⟩) 1 es (enc v):=⟨rfl,hi,by rw [o1.readG (by rw [he];omega),List.drop_zero,List.take_of_length_le (by rw [he];omega)]⟩
 obtain ⟨a',c',h',h1,h2,h3,h4,h5,h6⟩:=append_keep hT hT.und (c2:=1) hp1 hs (all_flat hok l) (hok v) (by omega) (by omega)
 rcases h2 with ⟨_,w,_⟩ | ⟨b',rfl,rfl,w1,w2,w3⟩
 ·omega
 refine ⟨_,n + 1,_,h',h1,hC b' h' (.inr ⟨b',rfl,rfl,w1,by rw [flatE_len he];simp only [List.length_append,List.length_cons,List.length_nil];have:=hp.cells.length;rw [flatE_len he] at this;rw [Nat.eq_of_mul_eq_mul_right hp0 this],?_⟩) (h5 _ rfl) h4 (fun j j0 j1 j2 => (h6 j j0 j2).trans (g1 j j1)) (fun h0 x l0 x1 x2 => ?_)⟩
 ·have w4 : Own (h'.lowered (X.putAt i es (enc v)).low) b' es (l.flatMap enc ++ enc v):=w3
  simpa using w4
 ·have xP : Ext h0 (X.putAt i es (enc v)):=⟨x.next,x.low,x.lowG,fun j hj => (g1 j (by omega)).trans (x.get j hj)⟩
  exact Ext.lower' (h3 h0 (xP.trans (Ext.freshed _)) x2).1 xP l0
end Go.Proofs.Ytmkiclinllifiaa
namespace Go.Proofs.Ytmkiclinllifiaa
open Go.Sim
set_option linter.unusedVariables false
theorem append_full {P : Program} {t t2 e es : Nat} (hT : SliceT P t e es) (ht2 : P.underlying t2 = some (.slice e)) {h : AHeap} {b n n2 c2 : Nat} {a2 : Option Addr} {cells news : List Value} (ho : Own h b es cells) (hb : b < h.next) (hl : cells.length = n * es) (hn : n ≤ 1000) (hs : Cells h a2 n2 es news) (hok : cells.all cellOK = true) (hok2 : news.all cellOK = true) (h0 : 0 < n2) (hbig : n2 ≤ 1000000) :
  ∃ c',appendH P h [t,t2] [.slice (some ⟨b,0,none⟩) n n,.slice a2 n2 c2] = some (.slice (some ⟨h.next,0,none⟩) (n + n2) c',h.push es (cells ++ news)):=by
 obtain ⟨by_,hby,hby2⟩:=hT.bytes
 obtain ⟨z,hz,hz2⟩:=hT.zero
 have hnl:=hs.length
 have hnews : newsA P h e es false (.slice a2 n2 c2) = some (n2,news):=by
  unfold newsA
  simp only [cond_false]
  cases a2 with
  | none => obtain ⟨rfl,rfl⟩:=hs;simp
  | some ad =>
   obtain ⟨h1,h2,h3⟩:=hs
   simp only [h3]
 have hcl : capLow n = n:=Nat.mod_eq_of_lt (by unfold slack;omega)
 unfold appendH
 simp only [hT.und,hT.size,hby,ht2,hz,isIntDesc,hnews]
 rw [hcl,ble_false (by omega)]
 simp only [cond_false]
 rw [ble_true (show n + n2 ≤ 1073741824 by omega),ble_true hby2,hok2,hz2,hnl]
 simp only [Bool.and_self,Nat.beq_refl,cond_true]
 have hr : h.readG ⟨b,0,none⟩ (n * es) = some cells:=by rw [ho.readG (by omega)];simp [← hl]
 simp only [hr]
 rw [blt_true (show n < slack by unfold slack;omega),hok]
 simp only [cond_true]
 exact ⟨_,rfl⟩
variable {F : Prims} {call head arith cmp scmp bnot bsame conv neg imax imin ofNat slen place inR nz geZ rd wr push next mkOK nat zeros sadd eqAgg cut slc sslc strAt part app cpy putAt fresh lowered bump wrote addN lt ne fpAll fpApp brk yn rng mget mput mnew bytes clr mrng ment : _} (hA : AP F ⟨call,head,arith,cmp,scmp,bnot,bsame,conv,neg,imax,imin,ofNat,slen,place,inR,nz,geZ,rd,wr,push,next,mkOK,nat,zeros,sadd,eqAgg,cut,slc,sslc,strAt,part,app,cpy,putAt,fresh,lowered,bump,wrote,addN,lt,ne,fpAll,fpApp,brk,yn,rng,mget,mput,mnew,bytes,clr,mrng,ment⟩)
include hA
theorem put_ext {h0 X : AHeap} (x0 : Ext h0 X) {i es : Nat} (i0 : h0.next ≤ i) (cs : List Value) : Ext h0 (putAt X i es cs) ∧ Own (putAt X i es cs) i es cs ∧ (putAt X i es cs).next = X.next ∧ (∀ j,j ≠ i → (putAt X i es cs).m.get j = X.m.get j):=by
 rw [e_putAt hA]
 have g1 : ∀ j,j ≠ i → (X.putAt i es cs).m.get j = X.m.get j:=fun j hj => by unfold AHeap.putAt;simp only [];rw [Tri.get_set_ne _ _ (fun q => hj q.symm)]
 exact ⟨⟨x0.next,x0.low,x0.lowG,fun j hj => (g1 j (by omega)).trans (x0.get j hj)⟩,Own.putAt X i es cs,rfl,g1⟩
end Go.Proofs.Ytmkiclinllifiaa
