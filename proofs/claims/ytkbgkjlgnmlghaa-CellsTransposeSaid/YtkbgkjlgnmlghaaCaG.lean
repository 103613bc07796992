import Derived.Test.YtkbgkjlgnmlghaaCaF
import Derived.Test.YtkbgkjlgnmlghaaCaP
import Derived.Test.YtkbgkjlgnmlghaaSymGrid
import Derived.Test.YtkbgkjlgnmlghaaSymJoin
set_option linter.unusedSimpArgs false
set_option linter.unusedVariables false
namespace Go.Proofs.Ytkbgkjlgnmlghaa
open Go.Sim
set_option linter.unusedVariables false
set_option maxRecDepth 100000
noncomputable def Ck.val (k : Ck) : Cq:=⟨(k.a : Rat) / (k.d : Rat),(k.b : Rat) / (k.d : Rat)⟩
theorem isC.val {k : Ck} {z : Cq} (h : isC k.a k.b k.d z) : k.val = z:=by
 have hd : (k.d : Rat) ≠ 0:=ratne (by have:=h.d1;omega)
 refine Cq.ext (cancelQ hd ?_) (cancelQ hd ?_)
 ·show (k.a : Rat) / (k.d : Rat) * (k.d : Rat) = _
  rw [← h.re,Rat.div_def,Rat.mul_assoc,Rat.inv_mul_cancel _ hd,Rat.mul_one]
 ·show (k.b : Rat) / (k.d : Rat) * (k.d : Rat) = _
  rw [← h.im,Rat.div_def,Rat.mul_assoc,Rat.inv_mul_cancel _ hd,Rat.mul_one]
theorem Ck.ok.is {k : Ck} (h : k.ok) : isC k.a k.b k.d k.val:=by
 obtain ⟨z,hz⟩:=h
 rw [hz.val]
 exact hz
open Classical in
noncomputable def mkCk (z : Cq) : Option Ck:=if h : ∃ k : Ck,isC k.a k.b k.d z then some h.choose else none
theorem mkCk_some {z : Cq} {k : Ck} : mkCk z = some k ↔ isC k.a k.b k.d z:=by
 unfold mkCk
 split
 ·rename_i h
  have c:=h.choose_spec
  constructor
  ·intro e;cases e;exact c
  ·intro hk
   obtain ⟨a,b,d⟩:=c.trip hk
   congr 1
   generalize h.choose = j at *
   cases j;cases k
   simp only at a b d
   rw [a,b,d]
 ·rename_i h
  constructor
  ·intro e;cases e
  ·intro hk;exact absurd ⟨k,hk⟩ h
theorem mkCk_none {z : Cq} : mkCk z = none ↔ ∀ a b d,¬ isC a b d z:=by
 constructor
 ·intro e a b d h
  have:=mkCk_some (k:=⟨a,b,d⟩).2 h
  rw [e] at this;cases this
 ·intro h
  cases e : mkCk z with
  | none => rfl
  | some k => exact absurd (mkCk_some.1 e) (h _ _ _)
def OutK (o : Option Ck) (r s t e : Int) : Prop:=(∃ k,o = some k ∧ r = k.a ∧ s = k.b ∧ t = k.d ∧ e = 0) ∨ (o = none ∧ r = 0 ∧ s = 0 ∧ t = 0 ∧ e = 16)
theorem outK_of {z : Cq} {r s t e : Int} (h : outC z r s t e) : OutK (mkCk z) r s t e:=by
 rcases h with ⟨h,rfl⟩ | ⟨h,h1,h2,h3,h4⟩
 ·exact .inl ⟨⟨r,s,t⟩,mkCk_some.2 h,rfl,rfl,rfl,rfl⟩
 ·exact .inr ⟨mkCk_none.2 h,h1,h2,h3,h4⟩
noncomputable def plusF (s : Ck) (w : Rat) (v : Ck) : Option Ck:=(mkCk ((Cq.real w).mul v.val)).bind fun p => mkCk (s.val.add p.val)
theorem plusF_ok {s : Ck} {w : Rat} {v k : Ck} (h : plusF s w v = some k) : k.ok ∧ k.val = s.val.add ((Cq.real w).mul v.val):=by
 unfold plusF at h
 cases e : mkCk ((Cq.real w).mul v.val) with
 | none => rw [e] at h;cases h
 | some p =>
  rw [e] at h
  have h1:=mkCk_some.1 e
  have h2:=mkCk_some.1 (show mkCk (s.val.add p.val) = some k from h)
  exact ⟨⟨_,h2⟩,by rw [h2.val,h1.val]⟩
def zeroK : Ck:=⟨0,0,1⟩
theorem zeroK_ok : zeroK.ok:=(okC_iff _ _ _).2 ⟨by decide,by decide,by decide,by decide,by decide,by decide,by decide⟩
abbrev Gd:=List (List Ck)
def zeroG (n : Nat) : Gd:=List.replicate n (List.replicate n zeroK)
structure SqG (n : Nat) (g : Gd) : Prop where
 len : g.length = n
 row : ∀ y : Int,0 ≤ y → y < n → (gt g y).length = n
 ok : ∀ y x : Int,0 ≤ y → y < n → 0 ≤ x → x < n → (gt (gt g y) x).ok
theorem gt_replicate {α : Type} [Inhabited α] (n : Nat) (v : α) {i : Int} (h0 : 0 ≤ i) (h1 : i < n) : gt (List.replicate n v) i = v:=by
 unfold gt
 rw [List.getD_eq_getElem?_getD,List.getElem?_replicate,if_pos (by omega)]
 rfl
theorem zeroG_sq (n : Nat) : SqG n (zeroG n):=by
 unfold zeroG
 refine ⟨List.length_replicate,fun y y0 y1 => ?_,fun y x y0 y1 x0 x1 => ?_⟩
 ·rw [gt_replicate n _ y0 y1,List.length_replicate]
 ·rw [gt_replicate n _ y0 y1,gt_replicate n _ x0 x1];exact zeroK_ok
noncomputable def gridStep (g : Gd) (c : Pk × Ck) : Option Gd:=(plusF (gt (gt g c.1.y) c.1.x) c.1.w c.2).map fun k => g.set c.1.y.toNat ((gt g c.1.y).set c.1.x.toNat k)
noncomputable def run (cs : List (Pk × Ck)) (g : Gd) : Option Gd:=cs.foldlM gridStep g
theorem run_append (a b : List (Pk × Ck)) (g : Gd) : run (a ++ b) g = (run a g).bind (run b):=by
 unfold run;rw [List.foldlM_append];rfl
theorem run_one (c : Pk × Ck) (g : Gd) : run [c] g = gridStep g c:=by unfold run;rw [List.foldlM_cons];cases gridStep g c <;> rfl
theorem SqG.step {n : Nat} {g g' : Gd} {c : Pk × Ck} (h : SqG n g) (hx : 0 ≤ c.1.x ∧ c.1.x < n) (hy : 0 ≤ c.1.y ∧ c.1.y < n) (e : gridStep g c = some g') : SqG n g':=by
 unfold gridStep at e
 rw [Option.map_eq_some_iff] at e
 obtain ⟨k,hk,rfl⟩:=e
 have ky:=h.len
 refine ⟨by rw [List.length_set];exact ky,fun y y0 y1 => ?_,fun y x y0 y1 x0 x1 => ?_⟩
 ·rw [gt_set g hy.1 y0 (by omega)]
  split
  ·rw [List.length_set];exact h.row _ hy.1 hy.2
  ·exact h.row y y0 y1
 ·rw [gt_set g hy.1 y0 (by omega)]
  split
  ·rw [gt_set _ hx.1 x0 (by rw [h.row _ hy.1 hy.2];exact hx.2)]
   split
   ·exact (plusF_ok hk).1
   ·exact h.ok _ x hy.1 hy.2 x0 x1
  ·exact h.ok y x y0 y1 x0 x1
def contrib (n : Int) (l : List Sk) (v : List Ck) (i : Int) : List (Pk × Ck):=(upTo i).flatMap fun j => (partsR n (gt l j) n).map fun e => (e,gt v j)
theorem contrib_succ {n : Int} {l : List Sk} {v : List Ck} {i : Int} (h : 0 ≤ i) : contrib n l v (i + 1) = contrib n l v i ++ (partsR n (gt l i) n).map fun e => (e,gt v i):=by
 unfold contrib
 rw [upTo_succ h,List.flatMap_append]
 simp
theorem contrib_more {n : Int} {l : List Sk} {v : List Ck} {i : Int} (h : 0 ≤ i) (k : Nat) : ∃ r,contrib n l v (i + k) = contrib n l v i ++ r:=by
 induction k with
 | zero => exact ⟨[],by simp⟩
 | succ k ih =>
  obtain ⟨r,hr⟩:=ih
  rw [show i + ((k + 1 : Nat) : Int) = i + k + 1 by omega,contrib_succ (by omega),hr,List.append_assoc]
  exact ⟨_,rfl⟩
def ValidL (v : List Ck) : Prop:=∀ i : Int,0 ≤ i → i < v.length → (gt v i).ok
def GridIs (n : Int) (l : List Sk) (v : List Ck) (g : Gd) (e : Int) : Prop:=
 (CheckS n l e ∧ e ≠ 0 ∧ g = []) ∨ (CheckS n l 0 ∧ v.length ≠ l.length ∧ g = [] ∧ e = 2) ∨ (CheckS n l 0 ∧ v.length = l.length ∧ ¬ ValidL v ∧ g = [] ∧ e = 8) ∨
 (CheckS n l 0 ∧ v.length = l.length ∧ ValidL v ∧ ((run (contrib n l v l.length) (zeroG n.toNat) = none ∧ g = [] ∧ e = 16) ∨ (run (contrib n l v l.length) (zeroG n.toNat) = some g ∧ e = 0)))
def zs (k : Nat) : List Ck:=List.replicate k zeroK
theorem zs_succ (k : Nat) : zs k ++ [zeroK] = zs (k + 1):=by unfold zs;rw [List.replicate_succ']
structure Bld (h0 h : AHeap) (oa n y k : Nat) (bs : List Nat) (cur : Option Addr) (cc : Nat) : Prop where
 ext : Ext h0 h
 own : Own h oa 1 (hdrs 3 bs (List.replicate y (zs n)) ++ .slice cur k cc :: List.replicate (n - y - 1) (.slice none 0 0))
 len : bs.length = y
 row : ∀ b,b ∈ bs → Own h b 3 ((zs n).flatMap Ck.cells)
 apd : Apd h 3 cur k cc ((zs k).flatMap Ck.cells)
 old : h0.next ≤ oa
 oldr : ∀ b,b ∈ bs → h0.next ≤ b
 oldc : From h0.next cur
 lt : oa < h.next
 ltr : ∀ b,b ∈ bs → b < h.next
 out : oa ∉ bs
 dis : bs.Nodup
 apart : ∀ ad,cur = some ad → ad.block ≠ oa ∧ ad.block ∉ bs
theorem Bld.hl {h0 h : AHeap} {oa n y k : Nat} {bs : List Nat} {cur : Option Addr} {cc : Nat} (t : Bld h0 h oa n y k bs cur cc) : (hdrs 3 bs (List.replicate y (zs n))).length = y:=by
 rw [hdrs_len (by rw [List.length_replicate];exact t.len),List.length_replicate]
theorem Bld.head {h0 h : AHeap} {oa n y k : Nat} {bs : List Nat} {cur : Option Addr} {cc : Nat} (t : Bld h0 h oa n y k bs cur cc) : h.readG ⟨oa,0 + y * 1,none⟩ 1 = some [.slice cur k cc]:=by
 have l:=t.hl
 rw [Nat.zero_add,Nat.mul_one,t.own.readG (o:=y) (n:=1) (by rw [List.length_append,l,List.length_cons];omega),List.drop_append,l,Nat.sub_self,List.drop_eq_nil_of_le (by omega)]
 rfl
theorem Bld.next {h0 h h' : AHeap} {oa n y k : Nat} {bs : List Nat} {cur : Option Addr} {cc b' : Nat} (t : Bld h0 h oa n y k bs cur cc) (ha : Apd h' 3 (some ⟨b',0,none⟩) (k + 1) (someCap 3 (k + 1)) ((zs (k + 1)).flatMap Ck.cells))
  (hx : Ext h0 h') (hn : h.next < h'.next) (hb : h.next < b') (hk : ∀ i,i < h.next → (∀ ad,cur = some ad → ad.block ≠ i) → h'.m.get i = h.m.get i) :
  ∃ h'',h'.write oa (0 + y * 1) [.slice (some ⟨b',0,none⟩) (k + 1) (someCap 3 (k + 1))] = some h'' ∧ Bld h0 h'' oa n y (k + 1) bs (some ⟨b',0,none⟩) (someCap 3 (k + 1)):=by
 have l:=t.hl
 have lt:=t.lt
 have o1 : Own h' oa 1 _:=t.own.of_get (hk oa t.lt (fun ad e => (t.apart ad e).1))
 obtain ⟨h'',w1,w2,w3⟩:=o1.write (o:=y) (vs:=[.slice (some ⟨b',0,none⟩) (k + 1) (someCap 3 (k + 1))]) (by rw [List.length_append,l,List.length_cons];simp)
 refine ⟨h'',by rw [Nat.zero_add,Nat.mul_one];exact w1,w3.ext hx t.old,?_,t.len,fun b hb' => ?_,?_,t.old,t.oldr,fun ad e => ?_,by rw [w3.next];omega,fun b hb' => by rw [w3.next];have:=t.ltr b hb';omega,t.out,t.dis,fun ad e => ?_⟩
 ·have e : (hdrs 3 bs (List.replicate y (zs n)) ++ Value.slice cur k cc :: List.replicate (n - y - 1) (.slice none 0 0)).take y ++ ([Value.slice (some ⟨b',0,none⟩) (k + 1) (someCap 3 (k + 1))] ++ (hdrs 3 bs (List.replicate y (zs n)) ++ Value.slice cur k cc :: List.replicate (n - y - 1) (.slice none 0 0)).drop (y + [Value.slice (some ⟨b',0,none⟩) (k + 1) (someCap 3 (k + 1))].length)) = hdrs 3 bs (List.replicate y (zs n)) ++ Value.slice (some ⟨b',0,none⟩) (k + 1) (someCap 3 (k + 1)) :: List.replicate (n - y - 1) (.slice none 0 0):=by
   rw [List.take_append_of_le_length (by omega),List.take_of_length_le (by omega),List.drop_append,l,List.drop_eq_nil_of_le (by simp;omega)]
   simp
  rw [← e];exact w2
 ·refine ((t.row b hb').of_get (hk b (t.ltr b hb') (fun ad e => fun q => (t.apart ad e).2 (by rw [q];exact hb')))).of_get (w3.get b (fun q => t.out (by rw [← q];exact hb')))
 ·refine ha.of_get (by rw [w3.next];exact Nat.le_refl _) (fun ad e _ => w3.get _ (fun q => ?_))
  cases e
  simp only at q
  omega
 ·cases e;have:=t.ext.next;simp only;omega
 ·cases e
  refine ⟨by simp only;omega,fun q => ?_⟩
  have:=t.ltr _ q
  simp only at this
  omega
theorem Bld.row_done {h0 h : AHeap} {oa n y : Nat} {bs : List Nat} {b : Nat} (t : Bld h0 h oa n y n bs (some ⟨b,0,none⟩) (someCap 3 n)) (hy : y + 1 < n) : Bld h0 h oa n (y + 1) 0 (bs ++ [b]) none 0:=by
 obtain ⟨a1,a2⟩:=t.apart _ rfl
 have hr : Own h b 3 ((zs n).flatMap Ck.cells) ∧ b < h.next:=by
  rcases t.apd with ⟨w,_⟩ | ⟨b2,e,_,w1,_,w⟩
  ·cases w
  ·cases e;exact ⟨w,w1⟩
 have hl:=t.len
 refine ⟨t.ext,?_,by rw [List.length_append,hl];rfl,fun c hc => ?_,Apd.nil _ _,t.old,fun c hc => ?_,.none _,t.lt,fun c hc => ?_,fun hc => ?_,?_,fun ad e => by cases e⟩
 ·have e : hdrs 3 bs (List.replicate y (zs n)) ++ Value.slice (some ⟨b,0,none⟩) n (someCap 3 n) :: List.replicate (n - y - 1) (.slice none 0 0) = hdrs 3 (bs ++ [b]) (List.replicate (y + 1) (zs n)) ++ Value.slice none 0 0 :: List.replicate (n - (y + 1) - 1) (.slice none 0 0):=by
   unfold hdrs
   rw [List.replicate_succ' (n:=y),List.zipWith_append (by rw [List.length_replicate];exact hl),show n - y - 1 = n - (y + 1) - 1 + 1 by omega,List.replicate_succ,List.append_assoc]
   simp only [List.zipWith_cons_cons,List.zipWith_nil_left,List.singleton_append]
   rw [show hdr 3 (zs n).length b = Value.slice (some ⟨b,0,none⟩) n (someCap 3 n) by unfold hdr zs;rw [List.length_replicate]]
  rw [← e];exact t.own
 ·rcases List.mem_append.1 hc with q | q
  ·exact t.row c q
  ·simp only [List.mem_singleton] at q;rw [q];exact hr.1
 ·rcases List.mem_append.1 hc with q | q
  ·exact t.oldr c q
  ·simp only [List.mem_singleton] at q;rw [q];exact t.oldc _ rfl
 ·rcases List.mem_append.1 hc with q | q
  ·exact t.ltr c q
  ·simp only [List.mem_singleton] at q;rw [q];exact hr.2
 ·rcases List.mem_append.1 hc with q | q
  ·exact t.out q
  ·simp only [List.mem_singleton] at q;exact a1 q.symm
 ·rw [List.nodup_append]
  refine ⟨t.dis,by simp,fun c hc d hd e => ?_⟩
  simp only [List.mem_singleton] at hd
  rw [hd] at e
  exact a2 (by rw [← e];exact hc)
theorem Bld.done {h0 h : AHeap} {oa n y : Nat} {bs : List Nat} {b : Nat} (t : Bld h0 h oa n y n bs (some ⟨b,0,none⟩) (someCap 3 n)) (hy : y + 1 = n) : Grid2 Ck.cells 3 h0 h oa (bs ++ [b]) (zeroG n):=by
 obtain ⟨a1,a2⟩:=t.apart _ rfl
 have hr : Own h b 3 ((zs n).flatMap Ck.cells) ∧ b < h.next:=by
  rcases t.apd with ⟨w,_⟩ | ⟨b2,e,_,w1,_,w⟩
  ·cases w
  ·cases e;exact ⟨w,w1⟩
 have hl:=t.len
 have zl : (zeroG n).length = n:=by unfold zeroG;rw [List.length_replicate]
 have rows : ∀ c,c ∈ bs ++ [b] → Own h c 3 ((zs n).flatMap Ck.cells):=fun c hc => by
  rcases List.mem_append.1 hc with q | q
  ·exact t.row c q
  ·simp only [List.mem_singleton] at q;rw [q];exact hr.1
 refine ⟨t.ext,?_,by rw [List.length_append,hl,zl];exact hy,fun i i0 i1 => ?_,t.old,fun c hc => ?_,t.lt,fun c hc => ?_,fun hc => ?_,?_,ck_len⟩
 ·have e : hdrs 3 bs (List.replicate y (zs n)) ++ Value.slice (some ⟨b,0,none⟩) n (someCap 3 n) :: List.replicate (n - y - 1) (.slice none 0 0) = hdrs 3 (bs ++ [b]) (zeroG n):=by
   unfold hdrs zeroG
   rw [show List.replicate n (List.replicate n zeroK) = List.replicate (y + 1) (zs n) by rw [hy];rfl,List.replicate_succ' (n:=y),List.zipWith_append (by rw [List.length_replicate];exact hl),show n - y - 1 = 0 by omega]
   simp only [List.zipWith_cons_cons,List.zipWith_nil_left,List.replicate_zero]
   rw [show hdr 3 (zs n).length b = Value.slice (some ⟨b,0,none⟩) n (someCap 3 n) by unfold hdr zs;rw [List.length_replicate]]
  rw [← e];exact t.own
 ·rw [zl] at i1
  have : gt (zeroG n) i = zs n:=by unfold zeroG;exact gt_replicate n _ i0 i1
  rw [this]
  exact rows _ (bs_mem (by rw [List.length_append,hl,List.length_singleton];omega))
 ·rcases List.mem_append.1 hc with q | q
  ·exact t.oldr c q
  ·simp only [List.mem_singleton] at q;rw [q];exact t.oldc _ rfl
 ·rcases List.mem_append.1 hc with q | q
  ·exact t.ltr c q
  ·simp only [List.mem_singleton] at q;rw [q];exact hr.2
 ·rcases List.mem_append.1 hc with q | q
  ·exact t.out q
  ·simp only [List.mem_singleton] at q;exact a1 q.symm
 ·rw [List.nodup_append]
  refine ⟨t.dis,by simp,fun c hc d hd e => ?_⟩
  simp only [List.mem_singleton] at hd
  rw [hd] at e
  exact a2 (by rw [← e];exact hc)
end Go.Proofs.Ytkbgkjlgnmlghaa
