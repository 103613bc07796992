import Derived.Test.YtkbgkjlgnmlghaaGreatCaD
set_option linter.unusedSimpArgs false
set_option linter.unusedVariables false
namespace Go.Proofs.YtkbgkjlgnmlghaaGreat
open Go.Sim
set_option linter.unusedVariables false
set_option maxRecDepth 100000
theorem eq_of_sorted {α : Type} {lt : α → α → Prop} (asym : ∀ a b,lt a b → ¬ lt b a) : ∀ (L M : List α),L.Pairwise lt → M.Pairwise lt → (∀ x,x ∈ L ↔ x ∈ M) → L = M
 | [],[],_,_,_ => rfl
 | [],b :: M,_,_,h => by have:=(h b).2 (by simp);simp at this
 | a :: L,[],_,_,h => by have:=(h a).1 (by simp);simp at this
 | a :: L,b :: M,hL,hM,h => by
  obtain ⟨l1,l2⟩:=List.pairwise_cons.1 hL
  obtain ⟨m1,m2⟩:=List.pairwise_cons.1 hM
  have e : a = b:=by
   rcases List.mem_cons.1 ((h a).1 (by simp)) with q | q
   ·exact q
   ·rcases List.mem_cons.1 ((h b).2 (by simp)) with r | r
    ·exact r.symm
    ·exact absurd (l1 b r) (asym _ _ (m1 a q))
  subst e
  rw [eq_of_sorted asym L M l2 m2 (fun x => ⟨fun q => ?_,fun q => ?_⟩)]
  ·rcases List.mem_cons.1 ((h x).1 (List.mem_cons_of_mem _ q)) with r | r
   ·have:=l1 x q;rw [r] at this;exact absurd this (asym _ _ this)
   ·exact r
  ·rcases List.mem_cons.1 ((h x).2 (List.mem_cons_of_mem _ q)) with r | r
   ·have:=m1 x q;rw [r] at this;exact absurd this (asym _ _ this)
   ·exact r
def ltP (a b : Pk) : Prop:=a.y < b.y ∨ (a.y = b.y ∧ a.x < b.x)
theorem ltP_asym (a b : Pk) (h : ltP a b) : ¬ ltP b a:=by unfold ltP at *;omega
theorem mem_upTo {n x : Int} : x ∈ upTo n ↔ 0 ≤ x ∧ x < n:=by
 unfold upTo
 rw [List.mem_map]
 constructor
 ·rintro ⟨a,ha,rfl⟩
  have:=List.mem_range.1 ha
  have e : Int.ofNat a = (a : Int):=rfl
  omega
 ·rintro ⟨h0,h1⟩
  exact ⟨x.toNat,List.mem_range.2 (by omega),Int.toNat_of_nonneg h0⟩
theorem upTo_lt (n : Int) : (upTo n).Pairwise (· < ·):=by
 unfold upTo
 rw [List.pairwise_map]
 refine (List.pairwise_lt_range (n:=n.toNat)).imp (fun {a b} h => ?_)
 exact Int.ofNat_lt.2 h
theorem mem_partR {n : Int} {s : Sk} {x y : Int} {e : Pk} : e ∈ partR n s x y ↔ 0 < wR n s.un s.ud x * wR n s.vn s.vd y ∧ e = mkP x y (wR n s.un s.ud x * wR n s.vn s.vd y):=by
 unfold partR
 split
 ·rename_i h;simp [h]
 ·rename_i h;simp [h]
theorem mem_partsR {n : Int} {s : Sk} {e : Pk} : e ∈ partsR n s n ↔ ∃ x y,(0 ≤ x ∧ x < n) ∧ (0 ≤ y ∧ y < n) ∧ 0 < wR n s.un s.ud x * wR n s.vn s.vd y ∧ e = mkP x y (wR n s.un s.ud x * wR n s.vn s.vd y):=by
 unfold partsR rowR
 simp only [List.mem_flatMap,mem_upTo,mem_partR]
 constructor
 ·rintro ⟨y,hy,x,hx,h⟩;exact ⟨x,y,hx,hy,h⟩
 ·rintro ⟨x,y,hx,hy,h⟩;exact ⟨y,hy,x,hx,h⟩
theorem partsR_sorted (n : Int) (s : Sk) : (partsR n s n).Pairwise ltP:=by
 unfold partsR
 refine List.pairwise_flatMap.2 ⟨fun y _ => ?_,(upTo_lt n).imp (fun {y y'} hy a ha b hb => ?_)⟩
 ·unfold rowR
  refine List.pairwise_flatMap.2 ⟨fun x _ => ?_,(upTo_lt n).imp (fun {x x'} hx a ha b hb => ?_)⟩
  ·unfold partR
   split <;> simp
  ·obtain ⟨_,rfl⟩:=mem_partR.1 ha
   obtain ⟨_,rfl⟩:=mem_partR.1 hb
   exact .inr ⟨rfl,hx⟩
 ·unfold rowR at ha hb
  simp only [List.mem_flatMap,mem_partR] at ha hb
  obtain ⟨x,_,_,rfl⟩:=ha
  obtain ⟨x',_,_,rfl⟩:=hb
  exact .inl hy
theorem wQ_pos {n m k : Int} (h : Coord n m k) {i : Int} : 0 ≤ wQ m k i:=by
 have rm:=h.rem;have k1:=h.k1
 unfold wQ
 split
 ·exact Rat.le_of_lt (rq_pos (by omega) (by omega))
 ·by_cases z : m % k = 0
  ·unfold rq;rw [z,Rat.div_def];simp
  ·exact Rat.le_of_lt (rq_pos (by omega) (by omega))
theorem wR_at {n m k : Int} (h : Coord n m k) {i : Int} (hi : i = 0 ∨ i = 1) : 0 ≤ (m / k + i) % n ∧ (m / k + i) % n < n ∧ wR n m k ((m / k + i) % n) = wQ m k i:=by
 have X:=h.x;have n0:=h.n0
 refine ⟨Int.emod_nonneg _ (by omega),Int.emod_lt_of_pos _ (by omega),?_⟩
 unfold wR wQ
 rcases hi with rfl | rfl
 ·rw [Int.add_zero,Int.emod_eq_of_lt X.1 X.2,if_pos rfl,if_pos rfl]
 ·rw [if_neg,if_pos rfl,if_neg (by omega)]
  by_cases c : m / k + 1 < n
  ·rw [Int.emod_eq_of_lt (by omega) c];omega
  ·rw [show m / k + 1 = n by omega,Int.emod_self];omega
theorem wR_some {n m k : Int} (h : Coord n m k) {x : Int} (w : wR n m k x ≠ 0) : ∃ i,(i = 0 ∨ i = 1) ∧ x = (m / k + i) % n:=by
 have X:=h.x;have n0:=h.n0
 unfold wR at w
 split at w
 ·rename_i e;exact ⟨0,.inl rfl,by rw [Int.add_zero,Int.emod_eq_of_lt X.1 X.2];exact e⟩
 ·split at w
  ·rename_i e;exact ⟨1,.inr rfl,e⟩
  ·exact absurd rfl w
theorem mem_cand {n : Int} {s : Sk} {i j : Int} {e : Pk} : e ∈ cand n s i j ↔ wQ s.un s.ud i * wQ s.vn s.vd j ≠ 0 ∧ e = mkP ((s.un / s.ud + i) % n) ((s.vn / s.vd + j) % n) (wQ s.un s.ud i * wQ s.vn s.vd j):=by
 unfold cand
 split
 ·rename_i h;simp [h]
 ·rename_i h;simp [h]
theorem mem_cands {n : Int} {s : Sk} {e : Pk} : e ∈ cands n s ↔ ∃ i j,(i = 0 ∨ i = 1) ∧ (j = 0 ∨ j = 1) ∧ wQ s.un s.ud i * wQ s.vn s.vd j ≠ 0 ∧ e = mkP ((s.un / s.ud + i) % n) ((s.vn / s.vd + j) % n) (wQ s.un s.ud i * wQ s.vn s.vd j):=by
 unfold cands
 simp only [List.mem_append,mem_cand]
 constructor
 ·rintro (((h | h) | h) | h)
  ·exact ⟨0,0,.inl rfl,.inl rfl,h⟩
  ·exact ⟨1,0,.inr rfl,.inl rfl,h⟩
  ·exact ⟨0,1,.inl rfl,.inr rfl,h⟩
  ·exact ⟨1,1,.inr rfl,.inr rfl,h⟩
 ·rintro ⟨i,j,rfl | rfl,rfl | rfl,h⟩
  ·exact .inl (.inl (.inl h))
  ·exact .inl (.inr h)
  ·exact .inl (.inl (.inr h))
  ·exact .inr h
theorem same_mem {n : Int} {s : Sk} (cu : Coord n s.un s.ud) (cv : Coord n s.vn s.vd) (e : Pk) : e ∈ cands n s ↔ e ∈ partsR n s n:=by
 rw [mem_cands,mem_partsR]
 constructor
 ·rintro ⟨i,j,hi,hj,w,rfl⟩
  obtain ⟨x0,x1,xw⟩:=wR_at cu hi
  obtain ⟨y0,y1,yw⟩:=wR_at cv hj
  refine ⟨_,_,⟨x0,x1⟩,⟨y0,y1⟩,?_,?_⟩
  ·rw [xw,yw]
   have:=Rat.mul_nonneg (wQ_pos cu (i:=i)) (wQ_pos cv (i:=j))
   grind
  ·rw [xw,yw]
 ·rintro ⟨x,y,⟨x0,x1⟩,⟨y0,y1⟩,w,rfl⟩
  obtain ⟨i,hi,rfl⟩:=wR_some cu (x:=x) (fun z => by rw [z] at w;simp at w)
  obtain ⟨j,hj,rfl⟩:=wR_some cv (x:=y) (fun z => by rw [z] at w;simp at w)
  have xw:=(wR_at cu hi).2.2
  have yw:=(wR_at cv hj).2.2
  rw [xw,yw] at w ⊢
  exact ⟨i,j,hi,hj,by grind,rfl⟩
theorem cands_apart {n : Int} {s : Sk} (cu : Coord n s.un s.ud) (cv : Coord n s.vn s.vd) : (cands n s).Pairwise (fun a b => ¬ (a.x = b.x ∧ a.y = b.y)):=by
 have two : ∀ {m k : Int},Coord n m k → (m / k + 0) % n ≠ (m / k + 1) % n:=fun {m k} h => by
  have X:=h.x;have n0:=h.n0
  rw [Int.add_zero,Int.emod_eq_of_lt X.1 X.2]
  by_cases c : m / k + 1 < n
  ·rw [Int.emod_eq_of_lt (by omega) c];omega
  ·rw [show m / k + 1 = n by omega,Int.emod_self];omega
 have tu:=two cu
 have tv:=two cv
 have one : ∀ i j,(cand n s i j).Pairwise (fun a b => ¬ (a.x = b.x ∧ a.y = b.y)):=fun i j => by unfold cand;split <;> simp
 have cross : ∀ i j i' j',(i = 0 ∧ i' = 1 ∨ i = 1 ∧ i' = 0 ∨ j = 0 ∧ j' = 1) → ∀ a ∈ cand n s i j,∀ b ∈ cand n s i' j',¬ (a.x = b.x ∧ a.y = b.y):=by
  intro i j i' j' h a ha b hb
  obtain ⟨_,rfl⟩:=mem_cand.1 ha
  obtain ⟨_,rfl⟩:=mem_cand.1 hb
  rintro ⟨q1,q2⟩
  have q1 : (s.un / s.ud + i) % n = (s.un / s.ud + i') % n:=q1
  have q2 : (s.vn / s.vd + j) % n = (s.vn / s.vd + j') % n:=q2
  rcases h with ⟨rfl,rfl⟩ | ⟨rfl,rfl⟩ | ⟨rfl,rfl⟩
  ·exact tu q1
  ·exact tu q1.symm
  ·exact tv q2
 unfold cands
 refine List.pairwise_append.2 ⟨List.pairwise_append.2 ⟨List.pairwise_append.2 ⟨one 0 0,one 1 0,cross 0 0 1 0 (by omega)⟩,one 0 1,fun a ha b hb => ?_⟩,one 1 1,fun a ha b hb => ?_⟩
 ·rcases List.mem_append.1 ha with q | q
  ·exact cross 0 0 0 1 (by omega) a q b hb
  ·exact cross 1 0 0 1 (by omega) a q b hb
 ·rcases List.mem_append.1 ha with q | q
  ·rcases List.mem_append.1 q with q | q
   ·exact cross 0 0 1 1 (by omega) a q b hb
   ·exact cross 1 0 1 1 (by omega) a q b hb
  ·exact cross 0 1 1 1 (by omega) a q b hb
theorem sorted_parts {n : Int} {s : Sk} (cu : Coord n s.un s.ud) (cv : Coord n s.vn s.vd) {N : Nat} {L : List Pk} (hN : L.length = N) (hp : PermOn 0 N (cands n s) L) (hs : SortedOn leP L 0 N) : L = partsR n s n:=by
 have perm : (cands n s).Perm L:=by
  rw [List.perm_iff_count]
  intro a
  exact (hp.cnt (fun y => y == a)).symm
 have ap:=(perm.pairwise_iff (fun {x y} h q => h ⟨q.1.symm,q.2.symm⟩)).1 (cands_apart cu cv)
 refine eq_of_sorted ltP_asym L _ ?_ (partsR_sorted n s) (fun x => ?_)
 ·rw [List.pairwise_iff_getElem] at ap ⊢
  intro i j hi hj hij
  have a:=ap i j hi hj hij
  have b:=hs i j (by omega) (by omega) (by omega)
  unfold gt at b
  simp only [Int.toNat_natCast] at b
  rw [List.getD_eq_getElem?_getD,List.getD_eq_getElem?_getD,List.getElem?_eq_getElem hi,List.getElem?_eq_getElem hj] at b
  simp only [Option.getD_some] at b
  unfold leP at b
  unfold ltP
  omega
 ·rw [← perm.mem_iff]
  exact same_mem cu cv x
end Go.Proofs.YtkbgkjlgnmlghaaGreat
