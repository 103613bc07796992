import Derived.Test.YtkbgkjlgnmlghaaCaX
import Derived.Test.YtkbgkjlgnmlghaaCaY
import Derived.Test.YtkbgkjlgnmlghaaCaV
set_option linter.unusedSimpArgs false
set_option linter.unusedVariables false
namespace Go.Proofs.Ytkbgkjlgnmlghaa
open Go.Sim
set_option linter.unusedVariables false
set_option maxRecDepth 100000
theorem sumC_append {α : Type} (f : α → Cq) (a b : List α) : sumC f (a ++ b) = (sumC f a).add (sumC f b):=by
 induction a with
 | nil => exact (Cq.zero_add' _).symm
 | cons x a ih => simp only [List.cons_append,sumC,ih,Cq.add_assoc']
theorem sumC_flatMap {α β : Type} (f : β → Cq) (F : α → List β) (l : List α) : sumC f (l.flatMap F) = sumC (fun a => sumC f (F a)) l:=by
 induction l with
 | nil => rfl
 | cons x l ih => rw [List.flatMap_cons,sumC_append,ih];rfl
theorem sumC_map {α β : Type} (f : β → Cq) (F : α → β) (l : List α) : sumC f (l.map F) = sumC (fun a => f (F a)) l:=by
 induction l with
 | nil => rfl
 | cons x l ih => rw [List.map_cons];simp only [sumC,ih]
theorem sumC_congr {α : Type} {f g : α → Cq} {l : List α} (h : ∀ a,a ∈ l → f a = g a) : sumC f l = sumC g l:=by
 induction l with
 | nil => rfl
 | cons x l ih => simp only [sumC];rw [h x (by simp),ih (fun a q => h a (by simp [q]))]
theorem mul_sum_conj {α : Type} (v : Cq) (f : α → Cq) (l : List α) : v.mul (sumC f l).conj = sumC (fun a => v.mul (f a).conj) l:=by
 induction l with
 | nil => exact Cq.ext (by simp only [Cq.mul,Cq.conj,sumC,Cq.zero];grind) (by simp only [Cq.mul,Cq.conj,sumC,Cq.zero];grind)
 | cons x l ih =>
  simp only [sumC,← ih]
  exact Cq.ext (by simp only [Cq.mul,Cq.conj,Cq.add];grind) (by simp only [Cq.mul,Cq.conj,Cq.add];grind)
theorem sumC_set : ∀ (L M : List Ck) (j : Nat) (k : Ck) (d : Cq),j < L.length → j < M.length → k.val = (L.getD j default).val.add d → sumC term ((L.set j k).zip M) = (sumC term (L.zip M)).add (d.mul (M.getD j default).val.conj)
 | [],_,j,k,d,h,_,_ => by simp at h
 | _ :: _,[],j,k,d,_,h,_ => by simp at h
 | x :: L,y :: M,0,k,d,_,_,e => by
  simp only [List.set_cons_zero,List.zip_cons_cons,sumC,List.getD_cons_zero,term] at e ⊢
  rw [e]
  exact Cq.ext (by simp only [Cq.mul,Cq.conj,Cq.add];grind) (by simp only [Cq.mul,Cq.conj,Cq.add];grind)
 | x :: L,y :: M,j + 1,k,d,h1,h2,e => by
  simp only [List.length_cons] at h1 h2
  simp only [List.getD_cons_succ] at e ⊢
  have ih:=sumC_set L M j k d (by omega) (by omega) e
  simp only [List.set_cons_succ,List.zip_cons_cons,sumC,ih,Cq.add_assoc']
theorem flat_get {n : Nat} : ∀ (g : Gd) (y x : Nat),(∀ r,r ∈ g → r.length = n) → y < g.length → x < n → g.flatten.getD (y * n + x) default = (g.getD y default).getD x default
 | [],y,x,_,h,_ => by simp at h
 | r :: g,0,x,hr,_,hx => by
  have:=hr r (by simp)
  simp only [List.flatten_cons,Nat.zero_mul,Nat.zero_add,List.getD_cons_zero]
  rw [List.getD_eq_getElem?_getD,List.getElem?_append_left (by omega),← List.getD_eq_getElem?_getD]
 | r :: g,y + 1,x,hr,hy,hx => by
  have:=hr r (by simp)
  simp only [List.length_cons] at hy
  have ih:=flat_get g y x (fun q hq => hr q (by simp [hq])) (by omega) hx
  simp only [List.flatten_cons,List.getD_cons_succ]
  rw [List.getD_eq_getElem?_getD,Nat.add_mul,List.getElem?_append_right (by omega),← ih,List.getD_eq_getElem?_getD]
  congr 2
  omega
theorem flat_set {n : Nat} : ∀ (g : Gd) (y x : Nat) (k : Ck),(∀ r,r ∈ g → r.length = n) → y < g.length → x < n → (g.set y ((g.getD y default).set x k)).flatten = g.flatten.set (y * n + x) k
 | [],y,x,k,_,h,_ => by simp at h
 | r :: g,0,x,k,hr,_,hx => by
  have:=hr r (by simp)
  simp only [List.set_cons_zero,List.flatten_cons,Nat.zero_mul,Nat.zero_add,List.getD_cons_zero]
  rw [List.set_append,if_pos (by omega)]
 | r :: g,y + 1,x,k,hr,hy,hx => by
  have:=hr r (by simp)
  simp only [List.length_cons] at hy
  have ih:=flat_set g y x k (fun q hq => hr q (by simp [hq])) (by omega) hx
  simp only [List.set_cons_succ,List.flatten_cons,List.getD_cons_succ]
  rw [ih,List.set_append,if_neg (by rw [Nat.add_mul];omega)]
  congr 2
  rw [Nat.add_mul];omega
theorem flat_len {n : Nat} : ∀ (g : Gd),(∀ r,r ∈ g → r.length = n) → g.flatten.length = g.length * n
 | [],_ => by simp
 | r :: g,hr => by
  rw [List.flatten_cons,List.length_append,flat_len g (fun q hq => hr q (by simp [hq])),hr r (by simp),List.length_cons,Nat.add_mul];omega
theorem SqG.rows {n : Nat} {g : Gd} (h : SqG n g) : ∀ r,r ∈ g → r.length = n:=by
 intro r hr
 obtain ⟨i,hi,rfl⟩:=List.getElem_of_mem hr
 have:=h.row i (by omega) (by have:=h.len;omega)
 unfold gt at this
 rw [List.getD_eq_getElem?_getD,Int.toNat_natCast,List.getElem?_eq_getElem hi] at this
 exact this
theorem SqG.flen {n : Nat} {g : Gd} (h : SqG n g) : g.flatten.length = n * n:=by rw [flat_len g h.rows,h.len]
theorem SqG.fvalid {n : Nat} {g : Gd} (h : SqG n g) : ValidL g.flatten:=by
 intro i i0 i1
 rw [h.flen] at i1
 have hn : 0 < n:=by
  rcases Nat.eq_zero_or_pos n with q | q
  ·subst q;simp at i1;omega
  ·exact q
 have hd : i.toNat / n < n:=by rw [Nat.div_lt_iff_lt_mul hn];omega
 have hm : i.toNat % n < n:=Nat.mod_lt _ hn
 have e : i.toNat = i.toNat / n * n + i.toNat % n:=by rw [Nat.mul_comm];exact (Nat.div_add_mod _ _).symm
 unfold gt
 rw [e,flat_get g _ _ h.rows (by rw [h.len];exact hd) hm]
 have:=h.ok ((i.toNat / n : Nat) : Int) ((i.toNat % n : Nat) : Int) (Int.natCast_nonneg _) (Int.ofNat_lt.2 hd) (Int.natCast_nonneg _) (Int.ofNat_lt.2 hm)
 unfold gt at this
 simpa only [Int.toNat_natCast] using this
noncomputable def bil (G g : Gd) : Cq:=sumC term (G.flatten.zip g.flatten)
theorem bil_step {n : Nat} {G G' g : Gd} {c : Pk × Ck} (h : SqG n G) (q : SqG n g) (hx : 0 ≤ c.1.x ∧ c.1.x < n) (hy : 0 ≤ c.1.y ∧ c.1.y < n) (e : gridStep G c = some G') :
  bil G' g = (bil G g).add (((Cq.real c.1.w).mul c.2.val).mul (gt (gt g c.1.y) c.1.x).val.conj):=by
 unfold gridStep at e
 rw [Option.map_eq_some_iff] at e
 obtain ⟨k,hk,rfl⟩:=e
 have lt : c.1.y.toNat * n + c.1.x.toNat < n * n:=by
  have : (c.1.y.toNat + 1) * n ≤ n * n:=Nat.mul_le_mul_right n (by omega)
  rw [Nat.add_mul] at this
  omega
 unfold bil
 unfold gt at hk ⊢
 rw [flat_set G _ _ k h.rows (by rw [h.len];omega) (by omega)]
 rw [sumC_set _ _ _ k ((Cq.real c.1.w).mul c.2.val) (by rw [h.flen];exact lt) (by rw [q.flen];exact lt) (by rw [flat_get G _ _ h.rows (by rw [h.len];omega) (by omega)];exact (plusF_ok hk).2)]
 rw [flat_get g _ _ q.rows (by rw [q.len];omega) (by omega)]
theorem bil_zero (n : Nat) (g : Gd) : bil (zeroG n) g = Cq.zero:=by
 unfold bil
 have : ∀ (L M : List Ck),(∀ k,k ∈ L → k = zeroK) → sumC term (L.zip M) = Cq.zero:=by
  intro L
  induction L with
  | nil => intro M _;rfl
  | cons x L ih =>
   intro M hk
   cases M with
   | nil => rfl
   | cons y M =>
    rw [List.zip_cons_cons]
    simp only [sumC]
    rw [ih M (fun k q => hk k (by simp [q])),hk x (by simp)]
    unfold term
    rw [zeroK_val]
    exact Cq.ext (by simp only [Cq.mul,Cq.conj,Cq.add,Cq.zero];grind) (by simp only [Cq.mul,Cq.conj,Cq.add,Cq.zero];grind)
 refine this _ _ (fun k hk => ?_)
 unfold zeroG at hk
 simp only [List.mem_flatten,List.mem_replicate] at hk
 obtain ⟨r,⟨_,rfl⟩,hk⟩:=hk
 exact (List.mem_replicate.1 hk).2
noncomputable def part1 (g : Gd) (c : Pk × Ck) : Cq:=((Cq.real c.1.w).mul c.2.val).mul (gt (gt g c.1.y) c.1.x).val.conj
theorem bil_run {n : Nat} {g : Gd} (q : SqG n g) : ∀ (B : List (Pk × Ck)),(∀ p,p ∈ B → (0 ≤ p.1.x ∧ p.1.x < n) ∧ (0 ≤ p.1.y ∧ p.1.y < n)) → ∀ G G' : Gd,SqG n G → run B G = some G' → bil G' g = (bil G g).add (sumC (part1 g) B) ∧ SqG n G'
 | [],_,G,G',h,r => by cases r;exact ⟨(Cq.add_zero' _).symm,h⟩
 | p :: B,hB,G,G',h,r => by
  have e : run (p :: B) G = (gridStep G p).bind (run B):=by
   have:=run_append [p] B G
   rw [run_one] at this
   exact this
  rw [e] at r
  obtain ⟨k,a,b⟩:=Option.bind_eq_some_iff.1 r
  obtain ⟨px,py⟩:=hB p (by simp)
  obtain ⟨h1,h2⟩:=bil_run q B (fun q hq => hB q (by simp [hq])) k G' (h.step px py a) b
  refine ⟨?_,h2⟩
  rw [h1,bil_step h q px py a,Cq.add_assoc']
  rfl
theorem degS_val {g : Gd} : ∀ (L : List Pk) {s k : Ck},degS g L s = some k → k.val = s.val.add (sumC (fun e => (Cq.real e.w).mul (gt (gt g e.y) e.x).val) L)
 | [],s,k,h => by cases h;exact (Cq.add_zero' _).symm
 | p :: L,s,k,h => by
  have e : degS g (p :: L) s = (plusF s p.w (gt (gt g p.y) p.x)).bind (degS g L):=by
   have:=degS_append g [p] L s
   rw [degS_one] at this
   exact this
  rw [e] at h
  obtain ⟨q,a1,a2⟩:=Option.bind_eq_some_iff.1 h
  rw [degS_val L a2,(plusF_ok a1).2,Cq.add_assoc']
  rfl
theorem zip_upTo (v w : List Ck) (h : v.length = w.length) : v.zip w = (upTo v.length).map fun j => (gt v j,gt w j):=by
 apply List.ext_getElem
 ·rw [List.length_zip,List.length_map];unfold upTo;rw [List.length_map,List.length_range];omega
 ·intro i h1 h2
  rw [List.length_zip] at h1
  rw [List.getElem_zip,List.getElem_map]
  unfold upTo gt
  rw [List.getElem_map,List.getElem_range]
  show _ = (v.getD i default,w.getD i default)
  rw [List.getD_eq_getElem?_getD,List.getD_eq_getElem?_getD,List.getElem?_eq_getElem (by omega),List.getElem?_eq_getElem (by omega)]
  rfl
theorem transpose_val {n : Int} {nn : Nat} (hn : n = nn) {l : List Sk} {v Z : List Ck} {G g : Gd} {p q : Ck} (h0 : CheckS n l 0) (lv : v.length = l.length) (sq : SqG nn g) (hG : GridIs n l v G 0) (hZ : DegL nn l g Z l.length) (hp : dotS (G.flatten.zip g.flatten) zeroK = some p) (hq : dotS (v.zip Z) zeroK = some q) : p = q:=by
 have e : n.toNat = nn:=by omega
 have k1:=hG.run
 rw [contrib_places,e] at k1
 obtain ⟨b1,b2⟩:=bil_run sq _ (fun c hc => by
  rw [List.mem_map] at hc
  obtain ⟨p,hp,rfl⟩:=hc
  have:=places_in h0 hn hp
  exact ⟨this.1,this.2.1⟩) _ _ (zeroG_sq nn) k1
 rw [bil_zero,Cq.zero_add'] at b1
 obtain ⟨p1,p2⟩:=dotS_val _ hp
 obtain ⟨q1,q2⟩:=dotS_val _ hq
 rw [zeroK_val,Cq.zero_add'] at p1 q1
 have p3 : p.val = bil G g:=p1
 rw [b1,← contrib_places] at p3
 have lZ:=hZ.1
 have zl : v.length = Z.length:=by omega
 have q3 : q.val = p.val:=by
  rw [q1,p3,zip_upTo v Z zl,sumC_map]
  unfold contrib
  rw [sumC_flatMap,lv]
  refine sumC_congr (fun j hj => ?_)
  rw [mem_upTo] at hj
  obtain ⟨d1,d2⟩:=hZ.2 j hj.1 hj.2
  have d3:=degS_val _ d1
  rw [zeroK_val,Cq.zero_add'] at d3
  subst hn
  rw [sumC_map]
  unfold term
  rw [d3,mul_sum_conj]
  refine sumC_congr (fun a _ => ?_)
  unfold part1
  exact Cq.ext (by simp only [Cq.mul,Cq.conj,Cq.real];grind) (by simp only [Cq.mul,Cq.conj,Cq.real];grind)
 have ip:=(p2 zeroK_ok).is
 have iq:=(q2 zeroK_ok).is
 rw [q3] at iq
 obtain ⟨a,b,c⟩:=ip.trip iq
 cases p;cases q
 simp only at a b c
 rw [a,b,c]
end Go.Proofs.Ytkbgkjlgnmlghaa
