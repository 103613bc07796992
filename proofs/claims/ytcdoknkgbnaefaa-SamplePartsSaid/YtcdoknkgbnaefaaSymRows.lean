import Derived.Test.YtcdoknkgbnaefaaSymC
set_option linter.unusedSimpArgs false
set_option linter.unusedVariables false
namespace Go.Proofs.Ytcdoknkgbnaefaa
open Go.Sim
set_option linter.unusedVariables false
def gt {α : Type} [Inhabited α] (l : List α) (i : Int) : α:=l.getD i.toNat default
structure Rows {α : Type} (enc : α → List Value) (es : Nat) (h : AHeap) (a : Option Addr) (n : Nat) (l : List α) : Prop where
 cells : Cells h a n es (l.flatMap enc)
 each : ∀ x,(enc x).length = es
 pos : 0 < es
theorem flatE_len {α : Type} {enc : α → List Value} {es : Nat} (he : ∀ x,(enc x).length = es) (l : List α) : (l.flatMap enc).length = l.length * es:=by
 induction l with
 | nil => simp
 | cons c l ih => rw [List.flatMap_cons,List.length_append,he,ih,List.length_cons,Nat.add_mul];omega
theorem flatE_drop {α : Type} [Inhabited α] {enc : α → List Value} {es : Nat} (he : ∀ x,(enc x).length = es) (l : List α) (i : Nat) (hi : i < l.length) (k m : Nat) (hk : k + m ≤ es) : ((l.flatMap enc).drop (i * es + k)).take m = ((enc (l.getD i default)).drop k).take m:=by
 induction l generalizing i with
 | nil => simp at hi
 | cons c l ih =>
  cases i with
  | zero =>
   rw [List.flatMap_cons,Nat.zero_mul,Nat.zero_add,List.drop_append_of_le_length (by rw [he];omega),List.take_append_of_le_length (by rw [List.length_drop,he];omega)]
   rfl
  | succ i =>
   have e : ((c :: l).flatMap enc).drop ((i + 1) * es + k) = (l.flatMap enc).drop (i * es + k):=by
    rw [List.flatMap_cons,show (i + 1) * es + k = (enc c).length + (i * es + k) by rw [he,Nat.add_mul];omega,List.drop_append,List.drop_eq_nil_of_le (by omega),Nat.add_sub_cancel_left,List.nil_append]
   rw [e]
   exact ih i (by simpa using hi)
theorem Rows.len {α : Type} {enc : α → List Value} {es : Nat} {h : AHeap} {a : Option Addr} {n : Nat} {l : List α} (p : Rows enc es h a n l) : l.length = n:=by
 have h1:=p.cells.length
 rw [flatE_len p.each] at h1
 exact Nat.eq_of_mul_eq_mul_right p.pos h1
theorem Rows.at {α : Type} [Inhabited α] {enc : α → List Value} {es : Nat} {h : AHeap} {a : Option Addr} {n : Nat} {l : List α} (p : Rows enc es h a n l) {i : Int} (h0 : 0 ≤ i) (hi : i < n) :
  ∃ b o,a = some ⟨b,o,none⟩ ∧ b < h.next ∧ ∀ k m,k + m ≤ es → 0 < m → h.readG ⟨b,o + i.toNat * es + k,none⟩ m = some (((enc (gt l i)).drop k).take m):=by
 have hl:=p.len
 have hm : ∀ k m,k + m ≤ es → i.toNat * es + k + m ≤ n * es:=fun k m hk => by
  have : (i.toNat + 1) * es ≤ n * es:=Nat.mul_le_mul_right _ (by omega)
  rw [Nat.add_mul] at this
  omega
 obtain ⟨b,o,h1,h2,_⟩:=p.cells.at (i:=i.toNat * es + 0) (m:=es) (hm 0 es (by omega)) p.pos
 refine ⟨b,o,h1,h2,fun k m hk hp => ?_⟩
 obtain ⟨b',o',h1',_,h3'⟩:=p.cells.at (i:=i.toNat * es + k) (m:=m) (hm k m hk) hp
 rw [h1] at h1'
 cases h1'
 rw [Nat.add_assoc,h3',flatE_drop p.each l i.toNat (by omega) k m hk]
 rfl
theorem Own.rows {α : Type} {enc : α → List Value} {es : Nat} {h : AHeap} {b : Nat} {l : List α} (c : Own h b es (l.flatMap enc)) (he : ∀ x,(enc x).length = es) (hp : 0 < es) (hb : b < h.next) : Rows enc es h (some ⟨b,0,none⟩) l.length l:=by
 refine ⟨⟨rfl,hb,?_⟩,he,hp⟩
 have:=c.readG (o:=0) (n:=l.length * es) (by rw [flatE_len he];omega)
 rw [this,List.drop_zero,List.take_of_length_le (by rw [flatE_len he];omega)]
theorem Own.setRow {α : Type} [Inhabited α] {enc : α → List Value} {es : Nat} {h : AHeap} {b : Nat} {l : List α} (c : Own h b es (l.flatMap enc)) (he : ∀ x,(enc x).length = es) {i : Nat} (hi : i < l.length) (x : α) : ∃ h',h.write b (i * es) (enc x) = some h' ∧ Own h' b es ((l.set i x).flatMap enc) ∧ Wrote h h' b:=by
 have hle : (i + 1) * es ≤ l.length * es:=Nat.mul_le_mul_right _ (by omega)
 rw [Nat.add_mul] at hle
 obtain ⟨h',w1,w2,w3⟩:=c.write (o:=i * es) (vs:=enc x) (by rw [flatE_len he,he];omega)
 refine ⟨h',w1,?_,w3⟩
 have e : ∀ (l : List α) (i : Nat),i < l.length → (l.flatMap enc).take (i * es) ++ (enc x ++ (l.flatMap enc).drop (i * es + (enc x).length)) = (l.set i x).flatMap enc:=by
  intro l
  induction l with
  | nil => intro i hi;simp at hi
  | cons c l ih =>
   intro i hi
   cases i with
   | zero =>
    rw [List.set_cons_zero,List.flatMap_cons,List.flatMap_cons,Nat.zero_mul,Nat.zero_add,List.take_zero,List.nil_append,he,← he c,List.drop_left]
   | succ i =>
    rw [List.set_cons_succ,List.flatMap_cons,List.flatMap_cons,show (i + 1) * es = (enc c).length + i * es by rw [he,Nat.add_mul];omega,List.take_length_add_append,Nat.add_assoc,List.drop_length_add_append,List.append_assoc]
    rw [ih i (by simpa using hi)]
 rw [← e l i hi]
 exact w2
end Go.Proofs.Ytcdoknkgbnaefaa
