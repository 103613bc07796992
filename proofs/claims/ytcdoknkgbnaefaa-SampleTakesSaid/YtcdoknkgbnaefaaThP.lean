import Derived.Test.YtcdoknkgbnaefaaSrtA
set_option linter.unusedSimpArgs false
set_option linter.unusedVariables false
namespace Go.Proofs.Ytcdoknkgbnaefaa
open Go.Sim
set_option linter.unusedVariables false
def sz (x : Int) : Int:=if x < 0 then -x else x
def bel (l : List Int) (t : Int) : Nat:=l.countP (fun x => decide (sz x < t))
def en (l : List Int) (p : Rat) (t : Int) : Prop:=(((l.length : Nat) : Int) : Rat) * p ≤ (((bel l t : Nat) : Int) : Rat)
structure LeastT (l : List Int) (p : Rat) (T : Int) : Prop where
 one : 1 ≤ T
 ok : en l p T
 min : ∀ t : Int,1 ≤ t → t < T → ¬ en l p t
theorem LeastT.uniq {l : List Int} {p : Rat} {T T' : Int} (h : LeastT l p T) (k : LeastT l p T') : T = T':=by
 rcases Int.lt_trichotomy T T' with q | q | q
 ·exact absurd h.ok (k.min T h.one q)
 ·exact q
 ·exact absurd k.ok (h.min T' k.one q)
def ThrOk (l : List Int) (p : Rat) (t e : Int) : Prop:=(t ≤ 1000000 ∧ LeastT l p t ∧ e = 0) ∨ ((∀ T : Int,1 ≤ T → T ≤ 1000000 → ¬ en l p T) ∧ t = 0 ∧ e = 6)
theorem ThrOk.uniq {l : List Int} {p : Rat} {t e t' e' : Int} (h : ThrOk l p t e) (k : ThrOk l p t' e') : t = t' ∧ e = e':=by
 rcases h with ⟨a,b,c⟩ | ⟨a,b,c⟩ <;> rcases k with ⟨a',b',c'⟩ | ⟨a',b',c'⟩
 ·exact ⟨b.uniq b',by omega⟩
 ·exact absurd b.ok (a' t b.one a)
 ·exact absurd b'.ok (a t' b'.one a')
 ·exact ⟨by omega,by omega⟩
theorem ThrOk.least {l : List Int} {p : Rat} {T : Int} (h : LeastT l p T) : (T ≤ 1000000 → ThrOk l p T 0) ∧ (1000000 < T → ThrOk l p 0 6):=
 ⟨fun q => .inl ⟨q,h,rfl⟩,fun q => .inr ⟨fun t t1 t2 => h.min t t1 (by omega),rfl,rfl⟩⟩
theorem bel_step {l : List Int} {t : Int} (h : ∀ x,x ∈ l → sz x + 1 ≠ t) : bel l t = bel l (t - 1):=by
 unfold bel
 refine List.countP_congr (fun x hx => ?_)
 have:=h x hx
 simp only [decide_eq_true_eq]
 omega
theorem cand_of_en {l : List Int} {p : Rat} (n1 : ¬ en l p 1) : ∀ (m : Nat) (t : Int),t.toNat ≤ m → 1 ≤ t → en l p t → ∃ x,x ∈ l ∧ sz x + 1 ≤ t ∧ en l p (sz x + 1):=by
 intro m
 induction m with
 | zero => intro t h1 h2;omega
 | succ m ih =>
 intro t hm t1 h
 by_cases c : ∃ x,x ∈ l ∧ sz x + 1 = t
 ·obtain ⟨x,hx,e⟩:=c
  exact ⟨x,hx,by omega,by rw [e];exact h⟩
 have hb:=bel_step (l:=l) (t:=t) (fun x hx e => c ⟨x,hx,e⟩)
 have h' : en l p (t - 1):=by unfold en at h ⊢;rw [← hb];exact h
 have t2 : 1 ≤ t - 1:=by
  by_cases e : t = 1
  ·rw [e] at h;exact absurd h n1
  ·omega
 obtain ⟨x,hx,h1,h2⟩:=ih (t - 1) (by omega) t2 h'
 exact ⟨x,hx,by omega,h2⟩
theorem sz_nonneg (x : Int) : 0 ≤ sz x:=by unfold sz;split <;> omega
def Best (l : List Int) (p : Rat) (i b : Int) : Prop:=
 (b = 0 ∧ ∀ j : Int,0 ≤ j → j < i → ¬ (sz (gt l j) + 1 ≤ 1000000 ∧ en l p (sz (gt l j) + 1))) ∨
 (1 ≤ b ∧ b ≤ 1000000 ∧ en l p b ∧ ∀ j : Int,0 ≤ j → j < i → en l p (sz (gt l j) + 1) → b ≤ sz (gt l j) + 1)
theorem gt_of_mem {l : List Int} {x : Int} (h : x ∈ l) : ∃ j : Int,0 ≤ j ∧ j < l.length ∧ gt l j = x:=by
 obtain ⟨j,hj,rfl⟩:=List.getElem_of_mem h
 exact ⟨j,by omega,by omega,by unfold gt;rw [Int.toNat_natCast,List.getD_eq_getElem?_getD,List.getElem?_eq_getElem hj];rfl⟩
theorem Best.done {l : List Int} {p : Rat} {b : Int} (n1 : ¬ en l p 1) (h : Best l p l.length b) : (b = 0 → ThrOk l p 0 6) ∧ (b ≠ 0 → ThrOk l p b 0):=by
 rcases h with ⟨rfl,h⟩ | ⟨b1,b2,be,h⟩
 ·refine ⟨fun _ => .inr ⟨fun T T1 T2 hT => ?_,rfl,rfl⟩,fun q => absurd rfl q⟩
  obtain ⟨x,hx,k1,k2⟩:=cand_of_en n1 _ T (Nat.le_refl _) T1 hT
  obtain ⟨j,j0,j1,rfl⟩:=gt_of_mem hx
  exact h j j0 j1 ⟨by omega,k2⟩
 ·refine ⟨fun q => by omega,fun _ => .inl ⟨b2,⟨b1,be,fun t t1 t2 ht => ?_⟩,rfl⟩⟩
  obtain ⟨x,hx,k1,k2⟩:=cand_of_en n1 _ t (Nat.le_refl _) t1 ht
  obtain ⟨j,j0,j1,rfl⟩:=gt_of_mem hx
  have:=h j j0 j1 k2
  omega
theorem Best.skip {l : List Int} {p : Rat} {i b : Int} (h : Best l p i b) (w : ¬ (sz (gt l i) + 1 ≤ 1000000 ∧ en l p (sz (gt l i) + 1)) ∨ (b ≠ 0 ∧ b ≤ sz (gt l i) + 1)) : Best l p (i + 1) b:=by
 rcases h with ⟨b0,h⟩ | ⟨b1,b2,be,h⟩
 ·refine .inl ⟨b0,fun j j0 j1 => ?_⟩
  by_cases e : j = i
  ·subst e;rcases w with w | w
   ·exact w
   ·exact absurd b0 w.1
  ·exact h j j0 (by omega)
 ·refine .inr ⟨b1,b2,be,fun j j0 j1 hj => ?_⟩
  by_cases e : j = i
  ·subst e;rcases w with w | w
   ·by_cases q : sz (gt l j) + 1 ≤ 1000000
    ·exact absurd ⟨q,hj⟩ w
    ·omega
   ·exact w.2
  ·exact h j j0 (by omega) hj
theorem Best.take {l : List Int} {p : Rat} {i b : Int} (h : Best l p i b) (w1 : sz (gt l i) + 1 ≤ 1000000) (w2 : en l p (sz (gt l i) + 1)) (w3 : b = 0 ∨ sz (gt l i) + 1 < b) : Best l p (i + 1) (sz (gt l i) + 1):=by
 refine .inr ⟨by have:=sz_nonneg (gt l i);omega,w1,w2,fun j j0 j1 hj => ?_⟩
 by_cases e : j = i
 ·rw [e];exact Int.le_refl _
 rcases h with ⟨b0,h⟩ | ⟨b1,b2,be,h⟩
 ·by_cases q : sz (gt l j) + 1 ≤ 1000000
  ·exact absurd ⟨q,hj⟩ (h j j0 (by omega))
  ·omega
 ·have:=h j j0 (by omega) hj
  omega
theorem bel_perm {l W : List Int} (k : PermOn 0 l.length (l.map sz) W) (t : Int) : bel l t = W.countP (fun y => decide (y < t)):=by
 rw [k.cnt,List.countP_map]
 rfl
theorem count_ge {W : List Int} {t : Int} {K : Nat} (hK : K ≤ W.length) (h : ∀ j : Int,0 ≤ j → j < K → gt W j < t) : K ≤ W.countP (fun y => decide (y < t)):=by
 have e : W.take K ++ W.drop K = W:=List.take_append_drop K W
 have h1 : (W.take K).countP (fun y => decide (y < t)) = (W.take K).length:=by
  rw [List.countP_eq_length]
  intro y hy
  obtain ⟨j,j0,j1,rfl⟩:=gt_of_mem hy
  rw [List.length_take] at j1
  have:=h j j0 (by omega)
  rw [show gt (W.take K) j = gt W j by unfold gt;rw [List.getD_eq_getElem?_getD,List.getD_eq_getElem?_getD,List.getElem?_take,if_pos (by omega)]]
  exact decide_eq_true this
 rw [← e,List.countP_append,h1,List.length_take]
 omega
theorem count_le {W : List Int} {t : Int} {K : Nat} (h : ∀ j : Int,K ≤ j → j < W.length → t ≤ gt W j) : W.countP (fun y => decide (y < t)) ≤ K:=by
 have e : W.take K ++ W.drop K = W:=List.take_append_drop K W
 have h1 : (W.drop K).countP (fun y => decide (y < t)) = 0:=by
  rw [List.countP_eq_zero]
  intro y hy
  obtain ⟨j,j0,j1,rfl⟩:=gt_of_mem hy
  rw [List.length_drop] at j1
  have:=h (K + j) (by omega) (by omega)
  rw [show gt (W.drop K) j = gt W (K + j) by unfold gt;rw [List.getD_eq_getElem?_getD,List.getD_eq_getElem?_getD,List.getElem?_drop,show ((K : Int) + j).toNat = K + j.toNat by omega]]
  simp only [decide_eq_true_eq]
  omega
 have h2:=List.countP_le_length (p:=fun y => decide (y < t)) (l:=W.take K)
 rw [List.length_take] at h2
 have h3 : W.countP (fun y => decide (y < t)) = (W.take K).countP (fun y => decide (y < t)) + (W.drop K).countP (fun y => decide (y < t)):=by rw [← List.countP_append,e]
 omega
theorem least_of {l W : List Int} {p : Rat} (k : PermOn 0 l.length (l.map sz) W) (s : SortedOn leI W 0 l.length) {K : Nat} (hK : K ≤ l.length) (low : ∀ j : Int,0 ≤ j → j < K → ¬ (((l.length : Nat) : Int) : Rat) * p ≤ ((j : Int) : Rat)) (enough : (((l.length : Nat) : Int) : Rat) * p ≤ (((K : Nat) : Int) : Rat)) :
  LeastT l p (if K = 0 then 1 else gt W (K - 1 : Int) + 1):=by
 have lW : W.length = l.length:=by rw [k.len,List.length_map]
 have pos : ∀ j : Int,0 ≤ j → j < l.length → 0 ≤ gt W j:=by
  refine k.all (fun x => 0 ≤ x) (fun j j0 j1 => ?_)
  have : gt (l.map sz) j = sz (gt l j):=by
   unfold gt
   rw [List.getD_eq_getElem?_getD,List.getD_eq_getElem?_getD,List.getElem?_map,List.getElem?_eq_getElem (by omega)];rfl
  rw [this];exact sz_nonneg _
 have mono : ∀ {a b : Nat},a ≤ b → (((a : Nat) : Int) : Rat) ≤ (((b : Nat) : Int) : Rat):=fun h => by exact_mod_cast h
 by_cases c : K = 0
 ·rw [if_pos c]
  refine ⟨by omega,?_,fun t t1 t2 => by omega⟩
  unfold en
  rw [c] at enough
  exact Rat.le_trans enough (mono (Nat.zero_le _))
 rw [if_neg c]
 have sorted : ∀ a b : Int,0 ≤ a → a ≤ b → b < l.length → gt W a ≤ gt W b:=fun a b a0 ab b1 => by
  by_cases e : a = b
  ·rw [e];exact Int.le_refl _
  ·exact s a b a0 (by omega) b1
 refine ⟨by have:=pos (K - 1) (by omega) (by omega);omega,?_,fun t t1 t2 h => ?_⟩
 ·unfold en
  rw [bel_perm k]
  refine Rat.le_trans enough (mono (count_ge (by omega) (fun j j0 j1 => ?_)))
  have:=sorted j (K - 1) j0 (by omega) (by omega)
  omega
 ·unfold en at h
  rw [bel_perm k] at h
  have h1:=count_le (W:=W) (t:=t) (K:=K - 1) (fun j j0 j1 => by
   have:=sorted (K - 1) j (by omega) (by omega) (by omega)
   omega)
  have h2:=low ((K - 1 : Nat) : Int) (by omega) (by omega)
  exact h2 (Rat.le_trans h (mono h1))
end Go.Proofs.Ytcdoknkgbnaefaa
