/-
  PRODUCTS: what they are; bytes in memory that may be written; origin.mixed.
-/
import Derived.Test.YtopppccddnplkaaOApp
namespace Go.Proofs.Ytopppccddnplkaa
open Go.Sim
set_option linter.unusedVariables false
set_option maxRecDepth 100000

/-! ### Exclusive or -/

def bx (x y : Int) : Int := IntKind.wrap .u8 ((BitVec.ofInt (IntKind.bits .u8) x ^^^ BitVec.ofInt (IntKind.bits .u8) y).toNat)

theorem bx_eq (x y : Int) : bx x y = ((BitVec.ofInt 8 x ^^^ BitVec.ofInt 8 y).toNat : Int) := by
  have h : (BitVec.ofInt 8 x ^^^ BitVec.ofInt 8 y).toNat < 256 := (BitVec.ofInt 8 x ^^^ BitVec.ofInt 8 y).isLt
  show IntKind.wrap .u8 ((BitVec.ofInt 8 x ^^^ BitVec.ofInt 8 y).toNat) = _
  exact wrap8 (by omega) (by omega)
theorem bx_in (x y : Int) : 0 ≤ bx x y ∧ bx x y < 256 := by
  rw [bx_eq]
  have h : (BitVec.ofInt 8 x ^^^ BitVec.ofInt 8 y).toNat < 256 := (BitVec.ofInt 8 x ^^^ BitVec.ofInt 8 y).isLt
  omega
theorem bx_comm (x y : Int) : bx x y = bx y x := by rw [bx_eq, bx_eq, BitVec.xor_comm]
theorem bx_zero {x : Int} (h0 : 0 ≤ x) (h1 : x < 256) : bx 0 x = x := by
  rw [bx_eq]
  have : BitVec.ofInt 8 0 = 0#8 := rfl
  rw [this, BitVec.zero_xor, BitVec.toNat_ofInt]
  omega

/-! ### Products -/

def mixS (a b : Bytes) : Bytes := (List.range (max a.length b.length)).map fun (i : Nat) => bx (at' a i) (at' b i)
def everyS (b : Bytes) (k i : Nat) : Bytes := if h : i < b.length ∧ 0 < k then b.getD i 0 :: everyS b k (i + k) else []
termination_by b.length - i
def shiftS (b : Bytes) (k : Int) : Bytes := b.map fun x => (x + k) % 256

def madeS (r : Rec) (ins : List Bytes) : Bytes :=
  if r.how = 1 then r.data else if r.how = 2 then ins.flatten else if r.how = 6 then mixS (bat ins 0) (bat ins 1) else
  if r.how = 3 then (bat ins 0).reverse else if r.how = 4 then (bat ins 0).take r.arg.toNat else if r.how = 5 then shiftS (bat ins 0) r.arg else everyS (bat ins 0) r.arg.toNat 0

theorem at'_out {l : Bytes} {i : Int} (h : (l.length : Int) ≤ i) : at' l i = 0 := by
  unfold at'
  rw [List.getD, List.getElem?_eq_none (by omega)]
  rfl
theorem okB_at0 {l : Bytes} (h : okB l) {i : Int} (h0 : 0 ≤ i) : 0 ≤ at' l i ∧ at' l i < 256 := by
  by_cases c : i < l.length
  · exact okB_at h h0 c
  · rw [at'_out (by omega)]; omega
theorem okB_range {n : Nat} {f : Int → Int} (h : ∀ i : Int, 0 ≤ i → 0 ≤ f i ∧ f i < 256) : okB ((List.range n).map fun (i : Nat) => f i) := by
  intro x hx
  obtain ⟨i, _, rfl⟩ := List.mem_map.1 hx
  exact h i (by omega)
theorem mix_len (a b : Bytes) : ((mixS a b).length : Int) = max (a.length : Int) (b.length : Int) := by unfold mixS; simp; omega
theorem mix_at {a b : Bytes} {i : Int} (h0 : 0 ≤ i) (h1 : i < max (a.length : Int) (b.length : Int)) : at' (mixS a b) i = bx (at' a i) (at' b i) := at'_range _ (fun i => bx (at' a i) (at' b i)) h0 (by omega)
theorem mix_comm (a b : Bytes) : mixS a b = mixS b a := by
  unfold mixS
  rw [Nat.max_comm]
  congr 1
  funext i
  exact bx_comm _ _

theorem every_ok {b : Bytes} (h : okB b) (k : Nat) : ∀ (d i : Nat), b.length - i ≤ d → okB (everyS b k i) := by
  intro d
  induction d with
  | zero =>
    intro i hi
    rw [everyS]
    split
    · rename_i q; omega
    · intro x hx; cases hx
  | succ d ih =>
    intro i hi
    rw [everyS]
    split
    · rename_i q
      intro x hx
      rcases List.mem_cons.1 hx with rfl | hx
      · have := okB_at h (i := (i : Int)) (by omega) (by omega)
        unfold at' at this
        rwa [Int.toNat_natCast] at this
      · exact ih (i + k) (by omega) x hx
    · intro x hx; cases hx

theorem made_okB {r : Rec} (hr : okR r) {ins : List Bytes} (h : ∀ b ∈ ins, okB b) (ha : 0 ≤ r.arg) : okB (madeS r ins) := by
  have hb : ∀ i : Int, okB (bat ins i) := fun i => by
    unfold bat
    by_cases c : i.toNat < ins.length
    · rw [List.getD, List.getElem?_eq_getElem c]; exact h _ (List.getElem_mem _)
    · rw [List.getD, List.getElem?_eq_none (by omega)]; intro x hx; cases hx
  unfold madeS
  split
  · exact hr.1
  split
  · intro x hx
    obtain ⟨l, h1, h2⟩ := List.mem_flatten.1 hx
    exact h l h1 x h2
  split
  · exact okB_range (f := fun i => bx (at' (bat ins 0) i) (at' (bat ins 1) i)) (fun i _ => bx_in _ _)
  split
  · intro x hx; exact hb 0 x (List.mem_reverse.1 hx)
  split
  · intro x hx; exact hb 0 x (List.mem_of_mem_take hx)
  split
  · intro x hx
    obtain ⟨y, _, rfl⟩ := List.mem_map.1 hx
    omega
  · exact every_ok (hb 0) _ _ 0 (Nat.le_refl _)

/-! ### In memory -/

/-- Bytes in a block of their own, at its start. -/
def BMem (h : AHeap) (lo : Nat) (a : Option Addr) (n c : Nat) (l : Bytes) : Prop :=
  (a = none ∧ n = 0 ∧ c = 0 ∧ l = []) ∨ ∃ b more, a = some ⟨b, 0, none⟩ ∧ lo ≤ b ∧ b < h.next ∧ Own h b 1 ((l ++ more).map (.int .u8)) ∧ l.length = n ∧ n ≤ capLow c

theorem BOut.mem {h : AHeap} {lo : Nat} {a : Option Addr} {n c : Nat} {l : Bytes} (p : BOut h lo a n c l) : BMem h lo a n c l := by
  have hl := p.len
  have hf := p.frm
  rcases p.apd with ⟨rfl, rfl, rfl, q⟩ | ⟨b, rfl, rfl, hb, _, ho⟩
  · exact .inl ⟨rfl, rfl, rfl, List.map_eq_nil_iff.1 q⟩
  · exact .inr ⟨b, [], rfl, hf _ rfl, hb, by rw [List.append_nil]; exact ho, hl, p.apd.cap p.lt⟩
theorem BMem.byts {h : AHeap} {lo : Nat} {a : Option Addr} {n c : Nat} {l : Bytes} (p : BMem h lo a n c l) : Byts h a n c l := by
  rcases p with ⟨rfl, rfl, rfl, rfl⟩ | ⟨b, more, rfl, hlo, hb, ho, hl, hcap⟩
  · exact Byts.nil h
  · refine .inl ⟨⟨rfl, hb, ?_⟩, (fun q => by cases q), hcap⟩
    rw [ho.readG (by simp; omega)]
    simp only [List.drop_zero, List.map_append]
    rw [List.take_left' (by simp; omega)]
theorem BMem.len {h : AHeap} {lo : Nat} {a : Option Addr} {n c : Nat} {l : Bytes} (p : BMem h lo a n c l) : l.length = n := p.byts.len
theorem BMem.ext {h h' : AHeap} {lo : Nat} {a : Option Addr} {n c : Nat} {l : Bytes} (p : BMem h lo a n c l) (e : Ext h h') : BMem h' lo a n c l := by
  rcases p with q | ⟨b, more, rfl, hlo, hb, ho, hl, hcap⟩
  · exact .inl q
  · exact .inr ⟨b, more, rfl, hlo, Nat.lt_of_lt_of_le hb e.next, ho.ext e hb, hl, hcap⟩
theorem BMem.lower {h : AHeap} {lo lo' : Nat} {a : Option Addr} {n c : Nat} {l : Bytes} (p : BMem h lo a n c l) (hl : lo' ≤ lo) : BMem h lo' a n c l := by
  rcases p with q | ⟨b, more, rfl, hlo, hb, ho, hl, hcap⟩
  · exact .inl q
  · exact .inr ⟨b, more, rfl, by omega, hb, ho, hl, hcap⟩
/-- The first of some bytes. -/
theorem BMem.cut {h : AHeap} {lo : Nat} {a : Option Addr} {n c : Nat} {l : Bytes} (p : BMem h lo a n c l) {j : Nat} (hj : j ≤ n) : BMem h lo a j c (l.take j) := by
  rcases p with ⟨rfl, rfl, rfl, rfl⟩ | ⟨b, more, rfl, hlo, hb, ho, hl, hcap⟩
  · obtain rfl : j = 0 := by omega
    exact .inl ⟨rfl, rfl, rfl, rfl⟩
  · exact .inr ⟨b, l.drop j ++ more, rfl, hlo, hb, by rw [← List.append_assoc, List.take_append_drop]; exact ho, by simp; omega, by omega⟩
/-- A byte is written. -/
theorem BMem.set {h : AHeap} {lo : Nat} {a : Option Addr} {n c : Nat} {l : Bytes} (p : BMem h lo a n c l) {i : Int} (h0 : 0 ≤ i) (h1 : i < n) (x : Int) :
    ∃ b h', a = some ⟨b, 0, none⟩ ∧ lo ≤ b ∧ b < h.next ∧ h.write b (0 + i.toNat * 1) [.int .u8 x] = some h' ∧ BMem h' lo a n c (l.set i.toNat x) ∧ Wrote h h' b := by
  have hl := p.len
  rcases p with ⟨rfl, rfl, rfl, rfl⟩ | ⟨b, more, rfl, hlo, hb, ho, _, hcap⟩
  · omega
  · obtain ⟨h', w1, w2, w3⟩ := ho.setInt (i := i.toNat) (by simp; omega) x
    refine ⟨b, h', rfl, hlo, hb, by rw [Nat.zero_add, Nat.mul_one]; exact w1, .inr ⟨b, more, rfl, hlo, by rw [w3.next]; exact hb, ?_, by simp; omega, hcap⟩, w3⟩
    rw [List.set_append_left _ _ (by omega)] at w2
    exact w2

/-- Mixed up to i. -/
def partM (a b : Bytes) (i : Int) : Bytes := (List.range a.length).map fun (j : Nat) => if (j : Int) < i then bx (at' a j) (at' b j) else at' a j
theorem partM_len (a b : Bytes) (i : Int) : (partM a b i).length = a.length := by unfold partM; simp
theorem partM_at {a b : Bytes} {i j : Int} (h0 : 0 ≤ j) (h1 : j < a.length) : at' (partM a b i) j = if j < i then bx (at' a j) (at' b j) else at' a j := at'_range _ (fun j => if j < i then bx (at' a j) (at' b j) else at' a j) h0 h1
theorem partM_zero (a b : Bytes) : partM a b 0 = a := by
  refine list_ext' (partM_len a b 0) (fun j h0 h1 => ?_)
  rw [partM_len] at h1
  rw [partM_at h0 h1, if_neg (by omega)]
theorem partM_set {a b : Bytes} {i : Int} (h0 : 0 ≤ i) (h1 : i < a.length) : (partM a b i).set i.toNat (bx (at' a i) (at' b i)) = partM a b (i + 1) := by
  refine list_ext' (by simp [partM_len]) (fun j j0 j1 => ?_)
  rw [List.length_set, partM_len] at j1
  rw [at'_set _ h0 j0 (by rw [partM_len]; omega), partM_at j0 j1, partM_at j0 j1]
  by_cases e : j = i
  · rw [if_pos e, if_pos (by omega), e]
  · rw [if_neg e]
    by_cases e2 : j < i
    · rw [if_pos e2, if_pos (by omega)]
    · rw [if_neg e2, if_neg (by omega)]
theorem partM_end {a b : Bytes} (ha : okB a) (hb : b.length ≤ a.length) : partM a b b.length = mixS a b := by
  have hm := mix_len a b
  refine list_ext' (by rw [partM_len]; omega) (fun j h0 h1 => ?_)
  rw [partM_len] at h1
  rw [partM_at h0 h1, mix_at h0 (by omega)]
  split
  · rfl
  · rw [at'_out (l := b) (by omega), bx_comm]
    obtain ⟨q1, q2⟩ := okB_at ha h0 h1
    exact (bx_zero q1 q2).symm

variable {call : FuncId → List Value → AHeap → (Value → AHeap → Prop) → Prop}
  {head : FuncId → Nat → Nat → SS → (Exit → SS → Prop) → Prop}
  {arith : BinOp → IntKind → Int → Int → Int}
  {cmp : BinOp → Int → Int → Bool}
  {scmp : BinOp → ByteArray → ByteArray → Bool}
  {bnot : Bool → Bool}
  {bsame : Bool → Bool → Bool}
  {conv : IntKind → Int → Int}
  {neg : IntKind → Int → Int}
  {imax : Int → Int → Int}
  {imin : Int → Int → Int}
  {ofNat : Nat → Int}
  {slen : ByteArray → Int}
  {place : Nat → Int → Nat → Nat}
  {inR : Int → Nat → Prop}
  {nz : Int → Prop}
  {geZ : Int → Prop}
  {rd : AHeap → Nat → Nat → Nat → List Value → Prop}
  {wr : AHeap → Nat → Nat → List Value → AHeap → Prop}
  {push : AHeap → Nat → List Value → AHeap}
  {next : AHeap → Nat}
  {mkOK : Int → Int → Prop}
  {nat : Int → Nat}
  {zeros : List Value → Int → List Value}
  {sadd : ByteArray → ByteArray → (ByteArray → Prop) → Prop}
  {eqAgg : TypeId → Array Value → Array Value → (Bool → Prop) → Prop}
  {cut : Nat → Int → Prop}
  {slc : TypeId → Value → Option Value → Option Value → Option Value → (Option Addr → Nat → Nat → Prop) → Prop}
  {sslc : TypeId → ByteArray → Option Value → Option Value → (ByteArray → Prop) → Prop}
  {strAt : ByteArray → Int → (Int → Prop) → Prop}
  {part : TypeId → Array Value → Nat → Value → Prop}
  {app : List TypeId → List Value → AHeap → (Option Addr → Nat → Nat → AHeap → Prop) → Prop}
  {cpy : List TypeId → List Value → AHeap → (Int → AHeap → Prop) → Prop}
  {putAt : AHeap → Nat → Nat → List Value → AHeap}
  {fresh : AHeap → AHeap}
  {lowered : AHeap → AHeap → AHeap}
  {bump : AHeap → Nat → AHeap}
  {wrote : AHeap → AHeap → Bool}
  {addN : Nat → Nat → Nat}
  {lt : Nat → Nat → Prop}
  {ne : Nat → Nat → Prop}
  {fpAll : Bool → Bool → Bool → Nat → Nat → Prop}
  {brk : (Unit → Prop) → Prop}
  {yn : Nat → Nat}
  {rng : FuncId → Nat → SS → (Exit → SS → Prop) → Prop}
  {mget : TypeId → Value → Value → AHeap → Value → Bool → Prop}
  {mput : TypeId → Value → Value → Value → AHeap → AHeap → Prop}
  {mnew : AHeap → AHeap}
  {bytes : TypeId → TypeId → Option Addr → Nat → AHeap → ByteArray → Prop}
  {clr : List TypeId → List Value → AHeap → AHeap → Prop}
  (hA : AOK progU hint prims ⟨call, head, arith, cmp, scmp, bnot, bsame, conv, neg, imax, imin, ofNat, slen, place, inR, nz, geZ, rd, wr, push, next, mkOK, nat, zeros, sadd, eqAgg, cut, slc, sslc, strAt, part, app, cpy, putAt, fresh, lowered, bump, wrote, addN, lt, ne, fpAll, brk, yn, rng, mget, mput, mnew, bytes, clr⟩)
include hA

theorem e_xor (a b : Int) : arith .xor .u8 a b = bx a b := by have := hA.eq; injections; subst_vars; rfl

theorem mix_loop {h0 : AHeap} (hlow0 : h0.low ≤ h0.next) {bs : Option Addr} {nb cb : Nat} {long short : Bytes} (hb : Byts h0 bs nb cb short) (hle : short.length ≤ long.length) (hlen : long.length ≤ 100000) {a : Option Addr} {n c : Nat} {Q : Exit → SS → Prop}
    (h1 : ∀ h', Ext h0 h' → BMem h' h0.next a n c (partM long short short.length) → Q (.exit 0) ⟨[(5, .slice a n c)], 0, [], h'⟩) :
    ∀ i : Int, 0 ≤ i → i ≤ nb → ∀ h, Ext h0 h → BMem h h0.next a n c (partM long short i) → head 49 5 0 ⟨[(5, .slice a n c), (18, .slice bs nb cb), (19, .int .i64 (ofNat nb)), (20, .int .i64 i)], 0, [], h⟩ Q := by
  have hlb := hb.len
  refine countUp (fun i hi0 hin ih h e hm => ?_)
  have hml := hm.len
  rw [partM_len] at hml
  refine hA.roundR Try.func49 r49_ok ?_; (try (conv => cbv)); repeat (refine brk_ok hA ?_; (try (conv => cbv)))
  refine br (i < nb) (by rw [e_lss hA, e_ofNat hA]) (fun c1 => ?_) (fun c1 => ?_) <;> (try (conv => cbv)) <;> repeat (refine brk_ok hA ?_; (try (conv => cbv)))
  · obtain ⟨b, o, x, hae, hbn, hx, hrd⟩ := (hb.ext e).at hi0 c1
    refine ⟨b, o, hae, in_ok hA hi0 c1, ?_⟩
    ((try (conv => cbv)); repeat (refine brk_ok hA ?_; (try (conv => cbv))))
    refine ⟨x, rd_ok hA hrd, ?_⟩
    ((try (conv => cbv)); repeat (refine brk_ok hA ?_; (try (conv => cbv))))
    obtain ⟨b2, o2, y, hae2, hbn2, hy, hrd2⟩ := hm.byts.at hi0 (by omega)
    obtain ⟨b3, h', hae3, hlo3, hlt3, w1, w2, w3⟩ := hm.set hi0 (by omega) (bx (at' long i) (at' short i))
    have hb23 : b3 = b2 ∧ o2 = 0 := by rw [hae3] at hae2; cases hae2; exact ⟨rfl, rfl⟩
    obtain ⟨rfl, rfl⟩ := hb23
    have hy' : y = at' long i := by rw [hy, partM_at hi0 (by omega), if_neg (by omega)]
    refine ⟨b3, 0, hae2, in_ok hA hi0 (by omega), ?_⟩
    ((try (conv => cbv)); repeat (refine brk_ok hA ?_; (try (conv => cbv))))
    refine ⟨y, rd_ok hA hrd2, ?_⟩
    ((try (conv => cbv)); repeat (refine brk_ok hA ?_; (try (conv => cbv))))
    refine ⟨b3, 0, hae2, in_ok hA hi0 (by omega), ?_⟩
    ((try (conv => cbv)); repeat (refine brk_ok hA ?_; (try (conv => cbv))))
    obtain ⟨z, hz⟩ : ∃ v, v = bx (at' long i) (at' short i) := ⟨_, rfl⟩
    have ez : arith .xor .u8 y x = z := by rw [e_xor hA, hz, hy', hx]
    rw [← hz] at w1
    rw [ez]
    refine ⟨h', wr_ok hA w1, ?_⟩
    ((try (conv => cbv)); repeat (refine brk_ok hA ?_; (try (conv => cbv))))
    rw [add64 hA (by omega) (by omega)]
    rw [partM_set hi0 (by omega)] at w2
    exact ih c1 h' (w3.ext e (by omega)) w2
  · have : i = short.length := by omega
    rw [this] at hm
    exact h1 h e hm

theorem mixed_ok {h : AHeap} (hlow : h.low ≤ h.next) {a b : Option Addr} {n c nb cb : Nat} {l m : Bytes} (hl : Byts h a n c l) (hm : Byts h b nb cb m) (ol : okB l) (om : okB m) (hn : n ≤ 100000) (hnb : nb ≤ 100000) {Q : Value → AHeap → Prop}
    (hQ : ∀ a' n' c' h', Ext h h' → BMem h' h.next a' n' c' (mixS l m) → Q (.slice a' n' c') h') : call 49 [.slice a n c, .slice b nb cb] h Q := by
  have hll := hl.len
  have hlm := hm.len
  have tail : ∀ {a b : Option Addr} {n c nb cb : Nat} {l m : Bytes}, Byts h a n c l → Byts h b nb cb m → okB l → n ≤ 100000 → nb ≤ n → ∀ {h1 : AHeap}, h1 = h.push 1 [.slice a n c] → Lists h1 (some ⟨h.next, 0, none⟩) 1 [l] ∧ Byts h1 b nb cb m ∧ Ext h h1 := by
    intro a b n c nb cb l m hl hm ol hn hnb h1 hh
    have e : Ext h h1 := by rw [hh]; exact .push _ _ _
    exact ⟨Lists.one hl hh, hm.ext e, e⟩
  refine hA.bodyR Try.func49 r49_ok (show prims _ _ _ = none from rfl) hlow ?_; (try (conv => cbv)); repeat (refine brk_ok hA ?_; (try (conv => cbv)))
  refine br ((n : Int) < nb) (by rw [e_lss hA, e_ofNat hA, e_ofNat hA]) (fun c1 => ?_) (fun c1 => ?_) <;> (try (conv => cbv)) <;> repeat (refine brk_ok hA ?_; (try (conv => cbv)))
  · rw [e_next hA, e_push hA]
    obtain ⟨h1, hh1⟩ : ∃ v, v = h.push 1 [.slice b nb cb] := ⟨_, rfl⟩
    obtain ⟨t1, t2, t3⟩ := tail hm hl om hnb (by omega) hh1
    rw [← hh1]
    refine join_ok hA (t3.lowOK hlow) t1 (by omega) (by simp; omega) (fun a2 n2 c2 h2 e2 hb2 => ⟨_, _, _, rfl, ?_⟩)
    ((try (conv => cbv)); repeat (refine brk_ok hA ?_; (try (conv => cbv))))
    have hb2' : BMem h2 h1.next a2 n2 c2 (partM m l 0) := by rw [partM_zero]; have := hb2.mem; simpa using this
    have hb3 := hb2'.lower (lo' := h.next) t3.next
    refine mix_loop hA hlow hl (by omega) (by omega) (fun h' e' hm' => ?_) 0 (by omega) (by omega) h2 (t3.trans e2) hb3
    ((try (conv => cbv)); repeat (refine brk_ok hA ?_; (try (conv => cbv))))
    rw [partM_end om (by omega), mix_comm] at hm'
    exact hQ _ _ _ h' e' hm'
  · rw [e_next hA, e_push hA]
    obtain ⟨h1, hh1⟩ : ∃ v, v = h.push 1 [.slice a n c] := ⟨_, rfl⟩
    obtain ⟨t1, t2, t3⟩ := tail hl hm ol hn (by omega) hh1
    rw [← hh1]
    refine join_ok hA (t3.lowOK hlow) t1 (by omega) (by simp; omega) (fun a2 n2 c2 h2 e2 hb2 => ⟨_, _, _, rfl, ?_⟩)
    ((try (conv => cbv)); repeat (refine brk_ok hA ?_; (try (conv => cbv))))
    have hb2' : BMem h2 h1.next a2 n2 c2 (partM l m 0) := by rw [partM_zero]; have := hb2.mem; simpa using this
    have hb3 := hb2'.lower (lo' := h.next) t3.next
    refine mix_loop hA hlow hm (by omega) (by omega) (fun h' e' hm' => ?_) 0 (by omega) (by omega) h2 (t3.trans e2) hb3
    ((try (conv => cbv)); repeat (refine brk_ok hA ?_; (try (conv => cbv))))
    rw [partM_end ol (by omega)] at hm'
    exact hQ _ _ _ h' e' hm'

end Go.Proofs.Ytopppccddnplkaa
