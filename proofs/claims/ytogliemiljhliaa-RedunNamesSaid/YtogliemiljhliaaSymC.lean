import Derived.Test.YtogliemiljhliaaSymB
set_option linter.unusedSimpArgs false
set_option linter.unusedVariables false
namespace Go.Sim
set_option linter.unusedVariables false
set_option linter.unusedSimpArgs false
theorem br {c : Bool} {A B : Prop} (p : Prop) [Decidable p] (hc : c = decide p) (h1 : p → A) (h2 : ¬ p → B) : cond c A B:=by
 subst hc
 by_cases h : p
 ·simp only [h,decide_true,cond_true];exact h1 h
 ·simp only [h,decide_false,cond_false];exact h2 h
structure Ext (h h' : AHeap) : Prop where
 next : h.next ≤ h'.next
 low : h.low ≤ h.next → h'.low ≤ h'.next
 lowG : Nat.min h.low h.next ≤ h'.low
 get : ∀ b,b < h.next → h'.m.get b = h.m.get b
theorem Ext.refl (h : AHeap) : Ext h h:=⟨Nat.le_refl _,fun h => h,Nat.min_le_left _ _,fun _ _ => rfl⟩
theorem Ext.trans {a b c : AHeap} (h : Ext a b) (k : Ext b c) : Ext a c:=
 ⟨Nat.le_trans h.next k.next,fun l => k.low (h.low l),by
  have h1:=h.lowG;have h2:=k.lowG;have h3:=h.next
  have : Nat.min a.low a.next ≤ a.next:=Nat.min_le_right _ _
  have h4 : Nat.min a.low a.next ≤ Nat.min b.low b.next:=Nat.le_min.2 ⟨h1,by omega⟩
  omega,fun i hi => (k.get i (Nat.lt_of_lt_of_le hi h.next)).trans (h.get i hi)⟩
theorem Ext.push (h : AHeap) (es : Nat) (cs : List Value) : Ext h (h.push es cs):=
 ⟨by simp [AHeap.push],fun l => by simp only [AHeap.push];omega,by simp only [AHeap.push];exact Nat.min_le_left _ _,fun b hb => by simp only [AHeap.push];rw [Tri.get_set_ne _ _ (by omega)]⟩
theorem Ext.bump (h : AHeap) (n : Nat) : Ext h (h.bump n):=
 ⟨by simp [AHeap.bump],fun l => by simp only [AHeap.bump];omega,by simp only [AHeap.bump];exact Nat.min_le_left _ _,fun b hb => rfl⟩
theorem Ext.write {h h1 h' : AHeap} (k : Ext h h1) {b o : Nat} {vs : List Value} (hb : h.next ≤ b) (hw : h1.write b o vs = some h') : Ext h h':=by
 have kb:=KeepB.write (B:=0) hw
 unfold AHeap.write at hw
 split at hw
 ·split at hw
  ·simp only [Option.some.injEq] at hw
   subst hw
   refine ⟨k.next,fun l => ?_,?_,fun i hi => ?_⟩
   ·have:=k.low l
    have h2 : Nat.min h1.low b ≤ h1.low:=Nat.min_le_left _ _
    show Nat.min h1.low b ≤ h1.next
    omega
   ·have:=k.lowG
    show Nat.min h.low h.next ≤ Nat.min h1.low b
    have h2 : Nat.min h.low h.next ≤ h.next:=Nat.min_le_right _ _
    exact Nat.le_min.2 ⟨this,by omega⟩
   ·show (h1.m.set b _).get i = _
    rw [Tri.get_set_ne _ _ (by omega)]
    exact k.get i hi
  ·cases hw
 ·cases hw
def Cells (h : AHeap) (a : Option Addr) (n es : Nat) (cells : List Value) : Prop:=
 match a with
 | none => n = 0 ∧ cells = []
 | some ad => ad.spot = none ∧ ad.block < h.next ∧ h.readG ad (n * es) = some cells
theorem readN_some {cs : List Value} {off n : Nat} {l : List Value} (h : (cs.drop off).take n = l) (hl : l.length = n) : readN cs off n = some l:=by
 unfold readN
 simp only [h,hl]
 simp
theorem take_one {α : Type} (l : List α) (i : Nat) (x : α) (h : l[i]? = some x) : (l.drop i).take 1 = [x]:=by
 obtain ⟨hi,rfl⟩:=List.getElem?_eq_some_iff.1 h
 rw [List.drop_eq_getElem_cons hi,List.take_succ_cons,List.take_zero]
def at' (l : List Int) (i : Int) : Int:=l.getD i.toNat 0
theorem wrap64 {x : Int} (h1 : -9223372036854775808 ≤ x) (h2 : x < 9223372036854775808) : IntKind.wrap .i64 x = x:=by
 unfold IntKind.wrap
 simp [IntKind.bits,IntKind.signed,IntKind.min,IntKind.max]
 omega
theorem wrap8 {x : Int} (h1 : 0 ≤ x) (h2 : x < 256) : IntKind.wrap .u8 x = x:=by
 unfold IntKind.wrap
 simp [IntKind.bits,IntKind.signed,IntKind.min,IntKind.max]
 omega
end Go.Sim
namespace Go.Sim
set_option linter.unusedVariables false
set_option linter.unusedSimpArgs false
def Own (h : AHeap) (b es : Nat) (cells : List Value) : Prop:=h.m.get b = some (.live true es cells)
theorem Own.push (h : AHeap) (es : Nat) (cs : List Value) : Own (h.push es cs) h.next es cs:=by
 unfold Own AHeap.push;simp only [];rw [Tri.get_set_eq]
theorem Own.ext {h h' : AHeap} {b es : Nat} {cells : List Value} (c : Own h b es cells) (k : Ext h h') (hb : b < h.next) : Own h' b es cells:=by
 unfold Own;rw [k.get b hb];exact c
theorem Own.readG {h : AHeap} {b es : Nat} {cells : List Value} (c : Own h b es cells) {o n : Nat} (hn : o + n ≤ cells.length) : h.readG ⟨b,o,none⟩ n = some ((cells.drop o).take n):=by
 unfold AHeap.readG AHeap.cells?
 simp only []
 rw [show h.m.get b = some (.live true es cells) from c]
 exact readN_some rfl (by simp only [List.length_take,List.length_drop];omega)
structure Wrote (h h' : AHeap) (b : Nat) : Prop where
 next : h'.next = h.next
 low : h'.low = Nat.min h.low b
 get : ∀ b',b' ≠ b → h'.m.get b' = h.m.get b'
theorem Own.write {h : AHeap} {b es : Nat} {cells : List Value} (c : Own h b es cells) {o : Nat} {vs : List Value} (hn : o + vs.length ≤ cells.length) : ∃ h',h.write b o vs = some h' ∧ Own h' b es (cells.take o ++ (vs ++ cells.drop (o + vs.length))) ∧ Wrote h h' b:=by
 refine ⟨{ next:=h.next,low:=Nat.min h.low b,m:=h.m.set b (.live true es (cells.take o ++ (vs ++ cells.drop (o + vs.length)))) },?_,?_,rfl,rfl,fun b' hb' => ?_⟩
 ·unfold AHeap.write
  rw [show h.m.get b = some (.live true es cells) from c]
  simp only [splice]
  rw [ble_true hn]
  rfl
 ·unfold Own;simp only [];rw [Tri.get_set_eq]
 ·simp only [];rw [Tri.get_set_ne _ _ (fun e => hb' e.symm)]
theorem Wrote.ext {h0 h h' : AHeap} {b : Nat} (k : Wrote h h' b) (e : Ext h0 h) (hb : h0.next ≤ b) : Ext h0 h':=by
 refine ⟨by rw [k.next];exact e.next,fun l => ?_,?_,fun i hi => ?_⟩
 ·have:=e.low l
  rw [k.low,k.next]
  have h2 : Nat.min h.low b ≤ h.low:=Nat.min_le_left _ _
  omega
 ·have:=e.lowG
  rw [k.low]
  have h2 : Nat.min h0.low h0.next ≤ h0.next:=Nat.min_le_right _ _
  exact Nat.le_min.2 ⟨this,by omega⟩
 ·rw [k.get i (by omega)];exact e.get i hi
theorem Wrote.own {h h' : AHeap} {b b' es : Nat} {cells : List Value} (k : Wrote h h' b) (c : Own h b' es cells) (hb : b' ≠ b) : Own h' b' es cells:=by
 unfold Own;rw [k.get b' hb];exact c
theorem Ext.lowOK {h h' : AHeap} (e : Ext h h') (hl : h.low ≤ h.next) : h'.low ≤ h'.next:=e.low hl
theorem Ext.freshed (h : AHeap) : Ext h h.freshed:=⟨Nat.le_refl _,fun _ => Nat.le_refl _,Nat.min_le_right _ _,fun _ _ => rfl⟩
theorem freshed_low (h : AHeap) : h.freshed.low ≤ h.freshed.next:=Nat.le_refl _
theorem lowered_freshed {h : AHeap} (hl : h.low ≤ h.next) : h.freshed.lowered h.low = h:=by
 unfold AHeap.lowered AHeap.freshed
 have : Nat.min h.low h.next = h.low:=Nat.min_eq_left hl
 simp only [this]
theorem set_take_drop {α : Type} (l : List α) (i : Nat) (x : α) (hi : i < l.length) : l.take i ++ ([x] ++ l.drop (i + 1)) = l.set i x:=by
 rw [List.set_eq_take_append_cons_drop,if_pos hi];simp
theorem Own.setInt {h : AHeap} {b es : Nat} {k : IntKind} {l : List Int} (c : Own h b es (l.map (.int k))) {i : Nat} (hi : i < l.length) (x : Int) : ∃ h',h.write b i [.int k x] = some h' ∧ Own h' b es ((l.set i x).map (.int k)) ∧ Wrote h h' b:=by
 obtain ⟨h',h1,h2,h3⟩:=c.write (o:=i) (vs:=[.int k x]) (by simp;omega)
 refine ⟨h',h1,?_,h3⟩
 rw [List.map_set,← set_take_drop _ _ _ (by simpa using hi)]
 exact h2
theorem Own.getInt {h : AHeap} {b es : Nat} {k : IntKind} {l : List Int} (c : Own h b es (l.map (.int k))) {i : Nat} (hi : i < l.length) : h.readG ⟨b,i,none⟩ 1 = some [.int k (l.getD i 0)]:=by
 rw [c.readG (by simp;omega),take_one _ i (.int k (l.getD i 0)) (by simp [hi])]
theorem take_succ' (l : List Int) {i : Int} (h0 : 0 ≤ i) (h1 : i < l.length) : l.take (i + 1).toNat = l.take i.toNat ++ [at' l i]:=by
 have e : (i + 1).toNat = i.toNat + 1:=by omega
 have hi : i.toNat < l.length:=by omega
 rw [e,List.take_add_one,List.getElem?_eq_getElem hi]
 unfold at'
 simp [hi]
theorem at'_set (l : List Int) {i j : Int} (hi : 0 ≤ i) (hj : 0 ≤ j) (hl : i < l.length) (x : Int) : at' (l.set i.toNat x) j = if j = i then x else at' l j:=by
 unfold at'
 by_cases e : j = i
 ·subst e;rw [if_pos rfl];simp [show j.toNat < l.length by omega]
 ·rw [if_neg e]
  have : i.toNat ≠ j.toNat:=by omega
  simp [List.getD_eq_getElem?_getD,List.getElem?_set_ne this]
theorem list_ext' {l m : List Int} (hl : l.length = m.length) (h : ∀ i : Int,0 ≤ i → i < l.length → at' l i = at' m i) : l = m:=by
 apply List.ext_getElem hl
 intro i h1 h2
 have:=h i (by omega) (by omega)
 unfold at' at this
 simpa [h1,h2] using this
end Go.Sim
