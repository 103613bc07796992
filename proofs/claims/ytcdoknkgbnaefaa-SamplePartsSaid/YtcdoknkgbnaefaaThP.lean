import Derived.Test.YtcdoknkgbnaefaaSrtA
set_option linter.unusedSimpArgs false
set_option linter.unusedVariables false
namespace Go.Proofs.Ytcdoknkgbnaefaa
open Go.Sim
set_option linter.unusedVariables false
def sz (x : Int) : Int:=if x < 0 then -x else x
def bel (l : List Int) (t : Int) : Nat:=l.countP (fun x => decide (sz x < t))
def en (l : List Int) (p : Rat) (t : Int) : Prop:=(((l.length : Nat) : Int) : Rat) * p ≤ (((bel l t : Nat) : Int) : Rat)
structure LeastT (l : List Int) (p : Rat) (T : Int) : Prop where
 one : 1 ≤ T
 ok : en l p T
 min : ∀ t : Int,1 ≤ t → t < T → ¬ en l p t
def ThrOk (l : List Int) (p : Rat) (t e : Int) : Prop:=(t ≤ 1000000 ∧ LeastT l p t ∧ e = 0) ∨ ((∀ T : Int,1 ≤ T → T ≤ 1000000 → ¬ en l p T) ∧ t = 0 ∧ e = 6)
theorem ThrOk.least {l : List Int} {p : Rat} {T : Int} (h : LeastT l p T) : (T ≤ 1000000 → ThrOk l p T 0) ∧ (1000000 < T → ThrOk l p 0 6):=
 ⟨fun q => .inl ⟨q,h,rfl⟩,fun q => .inr ⟨fun t t1 t2 => h.min t t1 (by omega),rfl,rfl⟩⟩
theorem sz_nonneg (x : Int) : 0 ≤ sz x:=by unfold sz;split <;> omega
theorem gt_of_mem {l : List Int} {x : Int} (h : x ∈ l) : ∃ j : Int,0 ≤ j ∧ j < l.length ∧ gt l j = x:=by
 obtain ⟨j,hj,rfl⟩:=List.getElem_of_mem h
 exact ⟨j,by omega,by omega,by unfold gt;rw [Int.toNat_natCast,List.getD_eq_getElem?_getD,List.getElem?_eq_getElem hj];rfl⟩
theorem bel_perm {l W : List Int} (k : PermOn 0 l.length (l.map sz) W) (t : Int) : bel l t = W.countP (fun y => decide (y < t)):=by
 rw [k.cnt,List.countP_map]
 rfl
theorem count_ge {W : List Int} {t : Int} {K : Nat} (hK : K ≤ W.length) (h : ∀ j : Int,0 ≤ j → j < K → gt W j < t) : K ≤ W.countP (fun y => decide (y < t)):=by
 have e : W.take K ++ W.drop K = W:=List.take_append_drop K W
 have h1 : (W.take K).countP (fun y => decide (y < t)) = (W.take K).length:=by
  rw [List.countP_eq_length]
  intro y hy
  obtain ⟨j,j0,j1,rfl⟩:=gt_of_mem hy
  rw [List.length_take] at j1
  have:=h j j0 (by omega)
  rw [show gt (W.take K) j = gt W j by unfold gt;rw [List.getD_eq_getElem?_getD,List.getD_eq_getElem?_getD,List.getElem?_take,if_pos (by omega)]]
  exact decide_eq_true this
 rw [← e,List.countP_append,h1,List.length_take]
 omega
theorem count_le {W : List Int} {t : Int} {K : Nat} (h : ∀ j : Int,K ≤ j → j < W.length → t ≤ gt W j) : W.countP (fun y => decide (y < t)) ≤ K:=by
 have e : W.take K ++ W.drop K = W:=List.take_append_drop K W
 have h1 : (W.drop K).countP (fun y => decide (y < t)) = 0:=by
  rw [List.countP_eq_zero]
  intro y hy
  obtain ⟨j,j0,j1,rfl⟩:=gt_of_mem hy
  rw [List.length_drop] at j1
  have:=h (K + j) (by omega) (by omega)
  rw [show gt (W.drop K) j = gt W (K + j) by unfold gt;rw [List.getD_eq_getElem?_getD,List.getD_eq_getElem?_getD,List.getElem?_drop,show ((K : Int) + j).toNat = K + j.toNat by omega]]
  simp only [decide_eq_true_eq]
  omega
 have h2:=List.countP_le_length (p:=fun y => decide (y < t)) (l:=W.take K)
 rw [List.length_take] at h2
 have h3 : W.countP (fun y => decide (y < t)) = (W.take K).countP (fun y => decide (y < t)) + (W.drop K).countP (fun y => decide (y < t)):=by rw [← List.countP_append,e]
 omega
theorem least_of {l W : List Int} {p : Rat} (k : PermOn 0 l.length (l.map sz) W) (s : SortedOn leI W 0 l.length) {K : Nat} (hK : K ≤ l.length) (low : ∀ j : Int,0 ≤ j → j < K → ¬ (((l.length : Nat) : Int) : Rat) * p ≤ ((j : Int) : Rat)) (enough : (((l.length : Nat) : Int) : Rat) * p ≤ (((K : Nat) : Int) : Rat)) :
  LeastT l p (if K = 0 then 1 else gt W (K - 1 : Int) + 1):=by
 have lW : W.length = l.length:=by rw [k.len,List.length_map]
 have pos : ∀ j : Int,0 ≤ j → j < l.length → 0 ≤ gt W j:=by
  refine k.all (fun x => 0 ≤ x) (fun j j0 j1 => ?_)
  have : gt (l.map sz) j = sz (gt l j):=by
   unfold gt
   rw [List.getD_eq_getElem?_getD,List.getD_eq_getElem?_getD,List.getElem?_map,List.getElem?_eq_getElem (by omega)];rfl
  rw [this];exact sz_nonneg _
 have mono : ∀ {a b : Nat},a ≤ b → (((a : Nat) : Int) : Rat) ≤ (((b : Nat) : Int) : Rat):=fun h => by exact_mod_cast h
 by_cases c : K = 0
 ·rw [if_pos c]
  refine ⟨by omega,?_,fun t t1 t2 => by omega⟩
  unfold en
  rw [c] at enough
  exact Rat.le_trans enough (mono (Nat.zero_le _))
 rw [if_neg c]
 have sorted : ∀ a b : Int,0 ≤ a → a ≤ b → b < l.length → gt W a ≤ gt W b:=fun a b a0 ab b1 => by
  by_cases e : a = b
  ·rw [e];exact Int.le_refl _
  ·exact s a b a0 (by omega) b1
 refine ⟨by have:=pos (K - 1) (by omega) (by omega);omega,?_,fun t t1 t2 h => ?_⟩
 ·unfold en
  rw [bel_perm k]
  refine Rat.le_trans enough (mono (count_ge (by omega) (fun j j0 j1 => ?_)))
  have:=sorted j (K - 1) j0 (by omega) (by omega)
  omega
 ·unfold en at h
  rw [bel_perm k] at h
  have h1:=count_le (W:=W) (t:=t) (K:=K - 1) (fun j j0 j1 => by
   have:=sorted (K - 1) j (by omega) (by omega) (by omega)
   omega)
  have h2:=low ((K - 1 : Nat) : Int) (by omega) (by omega)
  exact h2 (Rat.le_trans h (mono h1))
end Go.Proofs.Ytcdoknkgbnaefaa
