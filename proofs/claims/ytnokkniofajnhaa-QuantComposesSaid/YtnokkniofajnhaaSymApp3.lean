import Derived.Test.YtnokkniofajnhaaSymRowsA
import Derived.Test.YtnokkniofajnhaaSymSlc
set_option linter.unusedSimpArgs false
set_option linter.unusedVariables false
namespace Go.Sim
theorem Cells.part {h : AHeap} {a : Option Addr} {n es : Nat} {cells : List Value} (c : Cells h a n es cells) {i m : Nat} (hi : i + m ≤ n) : Cells h (a.map (aadd · (i * es))) m es ((cells.drop (i * es)).take (m * es)):=by
 have hlen:=c.length
 have hm : i * es + m * es ≤ n * es:=by rw [← Nat.add_mul];exact Nat.mul_le_mul_right es hi
 cases a with
 | none =>
  obtain ⟨rfl,rfl⟩:=c
  exact ⟨by omega,by simp⟩
 | some ad =>
  obtain ⟨h1,h2,h3⟩:=c
  obtain ⟨b,o,sp⟩:=ad
  simp only at h1
  subst h1
  refine ⟨rfl,h2,?_⟩
  unfold AHeap.readG aadd at *
  simp only [] at h3 ⊢
  split at h3
  ·rename_i cs hcs
   obtain ⟨e1,e2⟩:=readN_eq h3
   refine readN_some ?_ ?_
   ·subst e1
    rw [List.drop_take,List.take_take,List.drop_drop,Nat.min_eq_left (by omega)]
   ·simp only [List.length_take,List.length_drop];omega
  ·cases h3
theorem Cells.head {h : AHeap} {a : Option Addr} {n es : Nat} {cells : List Value} (c : Cells h a n es cells) {m : Nat} (hm : m ≤ n) : Cells h a m es (cells.take (m * es)):=by
 have:=c.part (i:=0) (m:=m) (by omega)
 rw [Nat.zero_mul,List.drop_zero] at this
 cases a with
 | none => exact this
 | some ad => exact this
theorem flat_takeN {α : Type} {enc : α → List Value} {es : Nat} (he : ∀ x,(enc x).length = es) (l : List α) (k : Nat) : (l.flatMap enc).take (k * es) = (l.take k).flatMap enc:=by
 induction l generalizing k with
 | nil => simp
 | cons x l ih =>
  cases k with
  | zero => simp
  | succ k => rw [List.flatMap_cons,List.take_succ_cons,List.flatMap_cons,List.take_append,he,List.take_of_length_le (by rw [he,Nat.succ_mul];omega),show (k + 1) * es - es = k * es by rw [Nat.succ_mul];omega,ih]
theorem flat_dropN {α : Type} {enc : α → List Value} {es : Nat} (he : ∀ x,(enc x).length = es) (l : List α) (k : Nat) : (l.flatMap enc).drop (k * es) = (l.drop k).flatMap enc:=by
 induction l generalizing k with
 | nil => simp
 | cons x l ih =>
  cases k with
  | zero => simp
  | succ k => rw [List.flatMap_cons,List.drop_succ_cons,List.drop_append,he,List.drop_of_length_le (by rw [he,Nat.succ_mul];omega),show (k + 1) * es - es = k * es by rw [Nat.succ_mul];omega,ih,List.nil_append]
def Feed (P : Program) (h : AHeap) (e es : Nat) (a : Option Addr) (n c : Nat) (news : List Value) : Prop:=newsA P h e es false (.slice a n c) = some (n,news) ∧ news.length = n * es
theorem Feed.of {P : Program} {h : AHeap} {e es : Nat} {a : Option Addr} {n : Nat} {news : List Value} (c : Nat) (hs : Cells h a n es news) : Feed P h e es a n c news:=by
 refine ⟨?_,hs.length⟩
 unfold newsA
 simp only [cond_false]
 cases a with
 | none => obtain ⟨rfl,rfl⟩:=hs;simp
 | some ad =>
  obtain ⟨h1,h2,h3⟩:=hs
  simp only [h3]
theorem Feed.nothing (P : Program) (h : AHeap) (e es : Nat) (x c : Nat) : Feed P h e es (some ⟨0,0,some x⟩) 0 c []:=by
 refine ⟨?_,by simp⟩
 unfold newsA AHeap.readG
 rfl
theorem append_any3 {P : Program} {t t2 e es : Nat} (hT : SliceT P t e es) (ht2 : P.underlying t2 = some (.slice e)) {h : AHeap} {b n c n2 c2 : Nat} {a2 : Option Addr} {cells news : List Value} (hp : Own2 h es b n c cells) (hs : Feed P h e es a2 n2 c2 news) (hok : cells.all cellOK = true) (hok2 : news.all cellOK = true) (hbig : n + n2 ≤ 1000000) :
  ∃ b' c' h',appendH P h [t,t2] [.slice (some ⟨b,0,none⟩) n c,.slice a2 n2 c2] = some (.slice (some ⟨b',0,none⟩) (n + n2) c',h') ∧ Own2 h' es b' (n + n2) c' (cells ++ news) ∧ h.next ≤ h'.next ∧ (b' = b ∨ h.next ≤ b') ∧ (∀ j,j < h.next → j ≠ b → h'.m.get j = h.m.get j) ∧ (∀ h0,Ext h0 h → h0.next ≤ b → Ext h0 h' ∧ h0.next ≤ b'):=by
 obtain ⟨ho,hb,hl,hc⟩:=hp
 obtain ⟨by_,hby,hby2⟩:=hT.bytes
 obtain ⟨z,hz,hz2⟩:=hT.zero
 obtain ⟨hnews,hnl⟩:=hs
 have hcl : capLow c = n:=by
  rcases hc with ⟨rfl,rfl⟩ | rfl
  ·rfl
  ·exact capLow_some (by unfold slack;omega)
 unfold appendH
 simp only [hT.und,hT.size,hby,ht2,hz,isIntDesc,hnews]
 rw [hcl]
 by_cases h0 : n2 = 0
 ·subst h0
  have : news = []:=by simpa using hnl
  subst this
  obtain ⟨h',hw,ho',hw2⟩:=ho.write (o:=n * es) (vs:=[]) (by simp;omega)
  have hwg : h.writeG (aadd ⟨b,0,none⟩ (n * es)) [] = some h':=by
   unfold AHeap.writeG aadd
   simp only [List.all_nil,cond_true,Nat.zero_add]
   exact hw
  rw [ble_true (show n + 0 ≤ n by omega)]
  simp only [cond_true,hwg]
  have e2 : cells.take (n * es) ++ ([] ++ cells.drop (n * es + ([] : List Value).length)) = cells:=by simp
  rw [e2] at ho'
  exact ⟨b,c,h',rfl,⟨by simpa using ho',by rw [hw2.next];exact hb,by simpa using hl,hc⟩,by rw [hw2.next];exact Nat.le_refl _,.inl rfl,fun j _ j1 => hw2.get j j1,fun h0 e0 hb0 => ⟨hw2.ext e0 hb0,hb0⟩⟩
 ·rw [ble_false (by omega)]
  simp only [cond_false]
  rw [ble_true (show n + n2 ≤ 1073741824 by omega),ble_true hby2,hok2,hz2,hnl]
  simp only [Bool.and_self,Nat.beq_refl,cond_true]
  have hr : h.readG ⟨b,0,none⟩ (n * es) = some cells:=by rw [ho.readG (by omega)];simp [← hl]
  simp only [hr]
  rcases hc with ⟨rfl,rfl⟩ | rfl
  ·rw [blt_true (show 0 < slack by unfold slack;omega),hok]
   simp only [cond_true]
   refine ⟨_,_,_,rfl,⟨Own.push _ _ _,by simp [AHeap.push],by simp [hl,hnl],.inr rfl⟩,by simp [AHeap.push],.inr (Nat.le_refl _),fun j j0 _ => (Ext.push h es _).get j j0,fun h0 e0 hb0 => ⟨e0.trans (.push _ _ _),e0.next⟩⟩
  ·rw [blt_false (someCap_ge es n),hok]
   simp only [cond_false,cond_true]
   rw [show h.m.get b = some (.live true es cells) from ho]
   simp only [Nat.beq_refl,cond_true]
   refine ⟨_,_,_,rfl,⟨Own.push (h.kill b) es _,by simp [AHeap.push,AHeap.kill],by simp [hl,hnl,Nat.add_mul],.inr rfl⟩,by simp [AHeap.push,AHeap.kill],.inr (Nat.le_refl _),fun j j0 j1 => ?_,fun h0 e0 hb0 => ⟨(e0.kill hb0).trans (.push _ _ _),?_⟩⟩
   ·have k1 : (h.kill b).m.get j = h.m.get j:=by unfold AHeap.kill;simp only [];rw [Tri.get_set_ne _ _ (fun q => j1 q.symm)]
    rw [← k1]
    exact (Ext.push (h.kill b) es _).get j (by unfold AHeap.kill;exact j0)
   ·exact e0.next
end Go.Sim
namespace Go.Proofs.Ytnokkniofajnhaa
open Go.Sim
set_option maxRecDepth 100000
variable {F : Prims} {a0 head b0 d0 f0 g0 i0 k0 m0 n0 o0 p0 q0 r0 s0 nz t0 rd wr push next u0 v0 w0 x0 y0 z0 slc a1 b1 part app d1 putAt fresh lowered f1 i1 l1 lt ne m1 n1 q1 yn r1 s1 t1 u1 bytes v1 : _} (hA : AP F ⟨a0,head,b0,d0,f0,g0,i0,k0,m0,n0,o0,p0,q0,r0,s0,nz,t0,rd,wr,push,next,u0,v0,w0,x0,y0,z0,slc,a1,b1,part,app,d1,putAt,fresh,lowered,f1,i1,l1,lt,ne,m1,n1,q1,yn,r1,s1,t1,u1,bytes,v1⟩)
include hA
theorem slc_from {t : TypeId} {e es : Nat} (hT : SliceT Try.prog t e es) {h : AHeap} {a : Option Addr} {n c : Nat} (hn : n ≤ 1000000) (hc : c = someCap es n ∨ (n = 0 ∧ a = none ∧ c = 0)) {cells : List Value} (hs : Cells h a n es cells) {k : IntKind} {i : Nat} (hi : i ≤ n) {C : Option Addr → Nat → Nat → Prop}
  (hC : ∀ a' c',(∀ h',Ext h h' → Feed Try.prog h' e es a' (n - i) c' (cells.drop (i * es))) → C a' (n - i) c') : slc t (.slice a n c) (some (.int k i)) none none C:=by
 have e_slc : slc t (.slice a n c) (some (.int k i)) none none C = ∃ a' n' c',sliceA Try.prog t (.slice a n c) (some (.int k i)) none none = some (.slice a' n' c') ∧ C a' n' c':=by have:=hA.eq;injections;subst_vars;rfl
 have hlen:=hs.length
 rw [e_slc]
 unfold sliceA
 simp only [hT.und,hT.size]
 unfold sliceS
 simp only [boundMx,boundHi,boundLo,bound]
 rcases hc with rfl | ⟨rfl,rfl,rfl⟩
 ·have hsl : n < slack:=by unfold slack;omega
  rw [if_pos ⟨by omega,by omega⟩]
  simp only []
  rw [capLow_some hsl,ble_true (Nat.le_refl _),blt_false (someCap_ge es n),someCap_div hsl]
  simp only [cond_true,cond_false,Option.isSome_none,Bool.or_false,Int.toNat_natCast]
  by_cases c0 : i = 0
  ·subst c0
   rw [show Nat.beq 0 0 = true from rfl]
   simp only [cond_true]
   refine ⟨_,_,_,rfl,hC _ _ (fun h' x => ?_)⟩
   rw [Nat.zero_mul,List.drop_zero]
   exact Feed.of _ (hs.ext x)
  rw [nbeq c0]
  simp only [cond_false]
  by_cases c1 : i < n
  ·rw [blt_true c1]
   simp only [Bool.true_and,Nat.beq_refl,cond_true]
   refine ⟨_,_,_,rfl,hC _ _ (fun h' x => ?_)⟩
   have:=(hs.ext x).part (i:=i) (m:=n - i) (by omega)
   rw [List.take_of_length_le (by rw [List.length_drop,hlen,Nat.sub_mul];omega)] at this
   exact Feed.of _ this
  ·have e1 : i = n:=by omega
   subst e1
   rw [blt_false (Nat.le_refl _)]
   simp only [Bool.false_and,cond_false]
   rw [show Nat.beq i i = true by simp]
   simp only [cond_true,Nat.sub_self]
   refine ⟨_,_,_,rfl,?_⟩
   have:=hC (some ⟨0,0,some 0⟩) slack (fun h' _ => by
    rw [Nat.sub_self,List.drop_of_length_le (by omega)]
    exact Feed.nothing _ _ _ _ _ _)
   rwa [Nat.sub_self] at this
 ·obtain rfl : i = 0:=by omega
  obtain ⟨_,rfl⟩:=hs
  rw [if_pos ⟨by omega,by simp⟩]
  simp only []
  refine ⟨none,0,0,rfl,?_⟩
  exact hC none 0 (fun h' _ => by simpa using Feed.of (P:=Try.prog) (h:=h') (e:=e) (es:=es) 0 (show Cells h' none 0 es [] from ⟨rfl,rfl⟩))
theorem appFD_ok {t e es : Nat} (hT : SliceT Try.prog t e es) {α : Type} {enc : α → List Value} (he : ∀ x,(enc x).length = es) (hok : ∀ x,(enc x).all cellOK = true) {X : AHeap} {i : Nat} (hi : i < X.next)
  {b n c : Nat} {l : List α} {v : α} (hp : Own2 X es b n c (l.flatMap enc)) (hbi : b ≠ i) (hn : n ≤ 100000) {C : Option Addr → Nat → Nat → AHeap → Prop}
  (hC : ∀ b' c' h',Own2 (lowered (putAt X i es (enc v)) h') es b' (n + 1) c' ((l ++ [v]).flatMap enc) → X.next ≤ (lowered (putAt X i es (enc v)) h').next → (b' = b ∨ X.next ≤ b') → (∀ j,j < X.next → j ≠ i → j ≠ b → (lowered (putAt X i es (enc v)) h').m.get j = X.m.get j) → (∀ h0,Ext h0 X → h0.low ≤ h0.next → h0.next ≤ i → h0.next ≤ b → Ext h0 (lowered (putAt X i es (enc v)) h') ∧ h0.next ≤ b') → C (some ⟨b',0,none⟩) (n + 1) c' h') :
  app [t,t] [.slice (some ⟨b,0,none⟩) n c,.slice (some ⟨i,0,none⟩) 1 1] (fresh (putAt X i es (enc v))) C:=by
 rw [e_putAt hA] at hC ⊢
 simp only [e_lowered hA] at hC
 rw [e_fresh hA,e_app hA]
 have g1 : ∀ j,j ≠ i → (X.putAt i es (enc v)).m.get j = X.m.get j:=fun j hj => by unfold AHeap.putAt;simp only [];rw [Tri.get_set_ne _ _ (fun q => hj q.symm)]
 have o1 : Own (X.putAt i es (enc v)).freshed i es (enc v):=Own.putAt X i es (enc v)
 obtain ⟨p1,p2,p3,p4⟩:=hp
 have hp1 : Own2 (X.putAt i es (enc v)).freshed es b n c (l.flatMap enc):=⟨by unfold Own at p1 ⊢;rw [← p1];exact g1 b hbi,p2,p3,p4⟩
 have hs : Cells (X.putAt i es (enc v)).freshed (some ⟨i,0,none⟩) 1 es (enc v):=⟨rfl,hi,by rw [o1.readG (by rw [he];omega),List.drop_zero,List.take_of_length_le (by rw [he];omega)]⟩
 obtain ⟨b',c',h',h1,h2,h3,h4,h5,h6⟩:=append_any3 hT hT.und (c2:=1) hp1 (Feed.of 1 hs) (all_flat hok l) (hok v) (by omega)
 refine ⟨_,n + 1,c',h',h1,hC b' c' h' ?_ h3 h4 (fun j j0 j1 j2 => (h5 j j0 j2).trans (g1 j j1)) (fun h0 x l0 x1 x2 => ?_)⟩
 ·rw [List.flatMap_append]
  simp only [List.flatMap_cons,List.flatMap_nil,List.append_nil]
  exact h2
 ·have xP : Ext h0 (X.putAt i es (enc v)):=⟨x.next,x.low,x.lowG,fun j hj => (g1 j (by omega)).trans (x.get j hj)⟩
  obtain ⟨y1,y2⟩:=h6 h0 (xP.trans (Ext.freshed _)) x2
  exact ⟨Ext.lower' y1 xP l0,y2⟩
theorem appFE_ok {t e es : Nat} (hT : SliceT Try.prog t e es) {X : AHeap} {b n c n2 c2 : Nat} {a2 : Option Addr} {cells news : List Value} (hp : Own2 X es b n c cells) (hok : cells.all cellOK = true) (hs : Feed Try.prog X.freshed e es a2 n2 c2 news) (hok2 : news.all cellOK = true) (hn : n + n2 ≤ 1000000) {C : Option Addr → Nat → Nat → AHeap → Prop}
  (hC : ∀ b' c' h',Own2 (lowered X h') es b' (n + n2) c' (cells ++ news) → (b' = b ∨ X.next ≤ b') → (∀ h0,Ext h0 X → h0.low ≤ h0.next → h0.next ≤ b → Ext h0 (lowered X h') ∧ h0.next ≤ b') → C (some ⟨b',0,none⟩) (n + n2) c' h') :
  app [t,t] [.slice (some ⟨b,0,none⟩) n c,.slice a2 n2 c2] (fresh X) C:=by
 simp only [e_lowered hA] at hC
 rw [e_fresh hA,e_app hA]
 obtain ⟨b',c',h',h1,h2,h3,h4,h5,h6⟩:=append_any3 hT hT.und (show Own2 X.freshed es b n c cells from hp) hs hok hok2 hn
 refine ⟨_,n + n2,c',h',h1,hC b' c' h' h2 h4 (fun h0 x l0 x2 => ?_)⟩
 obtain ⟨y1,y2⟩:=h6 h0 (x.trans (Ext.freshed _)) x2
 exact ⟨Ext.lower' y1 x l0,y2⟩
