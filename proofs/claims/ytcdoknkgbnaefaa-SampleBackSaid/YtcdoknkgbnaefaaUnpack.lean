/-
  sample.Unpack: what it returns.
-/
import Derived.Test.YtcdoknkgbnaefaaPack
namespace Go.Proofs.Ytcdoknkgbnaefaa
open Go.Sim
set_option linter.unusedVariables false
set_option maxRecDepth 100000

theorem countUpI {lo hi : Int} {G : Int → Prop} (step : ∀ i : Int, lo ≤ i → i ≤ hi → (i < hi → G (i + 1)) → G i) : ∀ i : Int, lo ≤ i → i ≤ hi → G i := by
  have : ∀ (k : Nat) (i : Int), lo ≤ i → i + k = hi → G i := by
    intro k
    induction k with
    | zero => intro i h0 h1; exact step i h0 (by omega) (fun h => by omega)
    | succ k ih => intro i h0 h1; exact step i h0 (by omega) (fun h => ih (i + 1) (by omega) (by omega))
  intro i h0 h1
  exact this (hi - i).toNat i h0 (by omega)

def valF (d : Int) : Int := if d = 0 then 0 else if d = 1 then -3 else if d = 2 then -1 else if d = 3 then 1 else 3
def pw5 (r : Int) : Int := if r = 0 then 1 else if r = 1 then 5 else if r = 2 then 25 else 125
def qd (b : List Int) (i : Int) : Int := at' b (i / 3) / pw5 (i % 3) % 5
def outL (b : List Int) (n : Nat) : List Int := (List.range n).map fun (i : Nat) => valF (qd b i)
def endOf (n k : Int) : Int := if n < 3 * k + 3 then n else 3 * k + 3
def okB (b : List Int) (n k : Int) : Prop := at' b k / pw5 (endOf n k - 3 * k) = 0
def allOK (b : List Int) (n : Int) : Prop := ∀ k : Int, 0 ≤ k → k < b.length → okB b n k
noncomputable def unpackE (b : List Int) (n : Int) : Int := by
  classical exact if n < 0 ∨ 256 < n then 2 else if (b.length : Int) ≠ (n + 2) / 3 then 12 else if allOK b n then 0 else 12
def bytesOK (b : List Int) : Prop := ∀ x ∈ b, 0 ≤ x ∧ x < 256

theorem valF_at {d : Int} (h0 : 0 ≤ d) (h1 : d < 5) : ([0, -3, -1, 1, 3] : List Int).getD d.toNat 0 = valF d := by
  have : d = 0 ∨ d = 1 ∨ d = 2 ∨ d = 3 ∨ d = 4 := by omega
  rcases this with rfl | rfl | rfl | rfl | rfl <;> rfl

theorem pw5_pos (r : Int) : 0 < pw5 r := by unfold pw5; split; · omega
                                            split; · omega
                                            split <;> omega

theorem div_pw5 {x r : Int} (hr : 0 ≤ r) (hr2 : r < 3) : x / pw5 r / 5 = x / pw5 (r + 1) := by
  have : r = 0 ∨ r = 1 ∨ r = 2 := by omega
  rcases this with rfl | rfl | rfl <;> simp only [pw5] <;> simp <;> omega

variable {call : FuncId → List Value → AHeap → (Value → AHeap → Prop) → Prop}
  {head : FuncId → Nat → Nat → SS → (Exit → SS → Prop) → Prop}
  {arith : BinOp → IntKind → Int → Int → Int}
  {cmp : BinOp → Int → Int → Bool}
  {scmp : BinOp → ByteArray → ByteArray → Bool}
  {bnot : Bool → Bool}
  {bsame : Bool → Bool → Bool}
  {conv : IntKind → Int → Int}
  {neg : IntKind → Int → Int}
  {imax : Int → Int → Int}
  {imin : Int → Int → Int}
  {ofNat : Nat → Int}
  {slen : ByteArray → Int}
  {place : Nat → Int → Nat → Nat}
  {inR : Int → Nat → Prop}
  {nz : Int → Prop}
  {geZ : Int → Prop}
  {rd : AHeap → Nat → Nat → Nat → List Value → Prop}
  {wr : AHeap → Nat → Nat → List Value → AHeap → Prop}
  {push : AHeap → Nat → List Value → AHeap}
  {next : AHeap → Nat}
  {mkOK : Int → Int → Prop}
  {nat : Int → Nat}
  {zeros : List Value → Int → List Value}
  {sadd : ByteArray → ByteArray → (ByteArray → Prop) → Prop}
  {eqAgg : TypeId → Array Value → Array Value → (Bool → Prop) → Prop}
  {cut : Nat → Int → Prop}
  {slc : TypeId → Value → Option Value → Option Value → Option Value → (Option Addr → Nat → Nat → Prop) → Prop}
  {sslc : TypeId → ByteArray → Option Value → Option Value → (ByteArray → Prop) → Prop}
  {strAt : ByteArray → Int → (Int → Prop) → Prop}
  {part : TypeId → Array Value → Nat → Value → Prop}
  {app : List TypeId → List Value → AHeap → (Option Addr → Nat → Nat → AHeap → Prop) → Prop}
  {cpy : List TypeId → List Value → AHeap → (Int → AHeap → Prop) → Prop}
  {putAt : AHeap → Nat → Nat → List Value → AHeap}
  {fresh : AHeap → AHeap}
  {lowered : AHeap → AHeap → AHeap}
  {bump : AHeap → Nat → AHeap}
  {wrote : AHeap → AHeap → Bool}
  {addN : Nat → Nat → Nat}
  {lt : Nat → Nat → Prop}
  {ne : Nat → Nat → Prop}
  {fpAll : Bool → Bool → Bool → Nat → Nat → Prop}
  (hA : AOK progU hint prims ⟨call, head, arith, cmp, scmp, bnot, bsame, conv, neg, imax, imin, ofNat, slen, place, inR, nz, geZ, rd, wr, push, next, mkOK, nat, zeros, sadd, eqAgg, cut, slc, sslc, strAt, part, app, cpy, putAt, fresh, lowered, bump, wrote, addN, lt, ne, fpAll⟩)
include hA

theorem unpack_inner {h : AHeap} (hlow : h.low ≤ h.next) {ab : Option Addr} {nb cb m : Nat} {bs : List Int} (hbs : bytesOK bs) (hlb : bs.length = nb) {n k E : Int} (hk0 : 0 ≤ k) (hk1 : k < nb) (hn0 : 3 * k < n) (hn1 : n ≤ 256) (hm : (m : Int) = n) (hE : E = endOf n k) {vb sb : Nat} (hvs : vb ≠ sb) (hsb : h.next ≤ sb) {Q : Exit → SS → Prop}
    (h0 : ∀ h' c', Ext h h' → vb < h'.next → sb < h'.next → Own h' vb 5 (([0, -3, -1, 1, 3] : List Int).map (.int .i64)) → Own h' sb 1 ((fillTo (outL bs m) m E).map (.int .i64)) → c' = at' bs k / pw5 (E - 3 * k) →
      Q (.exit 2) ⟨[(1, .int .i64 n), (6, .pointer (some ⟨vb, 0, none⟩)), (7, .slice (some ⟨sb, 0, none⟩) m m), (9, .int .u8 c'), (25, .slice ab nb cb), (26, .int .i64 (ofNat nb)), (27, .int .i64 k)], 0, [], h'⟩) :
    ∀ (i : Int), 3 * k ≤ i → i ≤ E → ∀ h' c', Ext h h' → vb < h'.next → sb < h'.next → Own h' vb 5 (([0, -3, -1, 1, 3] : List Int).map (.int .i64)) → Own h' sb 1 ((fillTo (outL bs m) m i).map (.int .i64)) → c' = at' bs k / pw5 (i - 3 * k) →
      head 13 11 0 ⟨[(1, .int .i64 n), (6, .pointer (some ⟨vb, 0, none⟩)), (7, .slice (some ⟨sb, 0, none⟩) m m), (8, .int .i64 k), (9, .int .u8 c'), (10, .int .i64 i), (25, .slice ab nb cb), (26, .int .i64 (ofNat nb)), (27, .int .i64 k)], 0, [], h'⟩ Q := by
  have hg : (outL bs m).length = m := by unfold outL; simp
  have hxb := hbs _ (at'_mem bs hk0 (by omega))
  have hEb : E ≤ n ∧ E ≤ 3 * k + 3 ∧ 3 * k < E ∧ (E = n ∨ E = 3 * k + 3) := by rw [hE]; unfold endOf; split <;> omega
  have hmin : imin (arith .add .i64 (arith .mul .i64 k 3) 3) n = E := by
    rw [mul64 hA (by omega) (by omega), add64 hA (by omega) (by omega), e_imin hA, hE]; unfold endOf
    split <;> split <;> omega
  refine countUpI (fun i hi0 hi1 ih h' c' he hvb hsb' hov hos hc => ?_)
  have hcb : 0 ≤ c' ∧ c' < 256 := by
    have hp := pw5_pos (i - 3 * k)
    rw [hc]
    exact ⟨Int.ediv_nonneg hxb.1 (by omega), by have := Int.ediv_le_self (pw5 (i - 3 * k)) hxb.1; omega⟩
  refine hA.roundR Try.func13 r13_ok ?_; (conv => cbv)
  refine br (i < E) (by rw [e_lss hA, hmin]) (fun c => ?_) (fun c => ?_) <;> (conv => cbv)
  · obtain ⟨d, hd⟩ : ∃ d, d = c' % 5 := ⟨_, rfl⟩
    have hd2 : arith .rem .u8 c' 5 = d := by rw [rem8 hA hcb.1, hd]
    have hd5 : 0 ≤ d ∧ d < 5 := by omega
    have hqd : d = qd bs i := by
      unfold qd
      rw [hd, hc, show i / 3 = k by omega, show i % 3 = i - 3 * k by omega]
    have hv : at' (outL bs m) i = valF d := by unfold outL; rw [at'_range m (fun i => valF (qd bs i)) (by omega) (by omega), hqd]
    obtain ⟨v, hvv⟩ : ∃ v, v = valF d := ⟨_, rfl⟩
    have hrd := hov.getInt (i := d.toNat) (by simp; omega)
    rw [valF_at hd5.1 hd5.2, ← hvv] at hrd
    have hset := fill_set hg (i := i) (by omega) (by omega)
    have hfl := fill_len hg i (by omega)
    obtain ⟨h2, hw, ho2, hwr⟩ := hos.setInt (i := i.toNat) (by omega) v
    rw [hvv, ← hv, hset] at ho2
    refine ⟨nz_ok hA (by omega), ?_⟩
    rw [hd2]
    refine ⟨in_ok hA hd5.1 hd5.2, ?_⟩
    (conv => cbv)
    refine ⟨v, rd_ok hA (by rw [Nat.zero_add, Nat.mul_one]; exact hrd), ?_⟩
    (conv => cbv)
    refine ⟨sb, 0, rfl, in_ok hA (by omega) (by omega), ?_⟩
    (conv => cbv)
    refine ⟨h2, wr_ok hA (by rw [Nat.zero_add, Nat.mul_one]; exact hw), ?_⟩
    (conv => cbv)
    refine ⟨nz_ok hA (by omega), ?_⟩
    (conv => cbv)
    rw [quo8 hA hcb.1 hcb.2 (by omega), add64 hA (by omega) (by omega)]
    refine ih c h2 _ (hwr.ext he hsb) (by rw [hwr.next]; exact hvb) (by rw [hwr.next]; exact hsb') (hwr.own hov hvs) ho2 ?_
    rw [hc, div_pw5 (by omega) (by omega), show i + 1 - 3 * k = i - 3 * k + 1 by omega]
  · have : i = E := by omega
    subst this
    exact h0 h' c' he hvb hsb' hov hos hc

theorem unpack_loop {h : AHeap} (hlow : h.low ≤ h.next) {ab : Option Addr} {nb cb m : Nat} {bs : List Int} (hb : Ints h .u8 ab nb bs) (hbs : bytesOK bs) {n : Int} (hn0 : 0 ≤ n) (hn1 : n ≤ 256) (hm : (m : Int) = n) (hnb : (nb : Int) = (n + 2) / 3) {vb sb : Nat} (hvs : vb ≠ sb) (hsb : h.next ≤ sb) {Q : Exit → SS → Prop}
    (h0 : allOK bs n → ∀ h', Ext h h' → sb < h'.next → Own h' sb 1 ((outL bs m).map (.int .i64)) → Q (.exit 0) ⟨[(7, .slice (some ⟨sb, 0, none⟩) m m)], 0, [], h'⟩)
    (h1 : ¬ allOK bs n → ∀ h' e, Ext h h' → Q .ret ⟨(5, .int .i64 12) :: (4, .slice none 0 0) :: e, 0, [], h'⟩) :
    ∀ (k : Int), 0 ≤ k → k ≤ nb → ∀ h', Ext h h' → vb < h'.next → sb < h'.next → Own h' vb 5 (([0, -3, -1, 1, 3] : List Int).map (.int .i64)) → (∀ k' : Int, 0 ≤ k' → k' < k → okB bs n k') → Own h' sb 1 ((fillTo (outL bs m) m (if n < 3 * k then n else 3 * k)).map (.int .i64)) →
      head 13 8 0 ⟨[(1, .int .i64 n), (6, .pointer (some ⟨vb, 0, none⟩)), (7, .slice (some ⟨sb, 0, none⟩) m m), (25, .slice ab nb cb), (26, .int .i64 (ofNat nb)), (27, .int .i64 k)], 0, [], h'⟩ Q := by
  have hl := hb.len
  have hg : (outL bs m).length = m := by unfold outL; simp
  refine countUp (fun k hk0 hk1 ih h' he hvb hsb' hov hok hos => ?_)
  refine hA.roundR Try.func13 r13_ok ?_; (conv => cbv)
  refine br (k < nb) (by rw [e_lss hA, e_ofNat hA]) (fun c => ?_) (fun c => ?_) <;> (conv => cbv)
  · obtain ⟨b1, o1, x, rfl, hb1, hx, hr⟩ := (hb.ext he).atI hk0 c
    have h3k : 3 * k < n := by omega
    rw [if_neg (by omega)] at hos
    obtain ⟨E, hE⟩ : ∃ E, E = endOf n k := ⟨_, rfl⟩
    have hEb : E ≤ n ∧ E ≤ 3 * k + 3 ∧ 3 * k < E ∧ (E = n ∨ E = 3 * k + 3) := by rw [hE]; unfold endOf; split <;> omega
    refine ⟨b1, o1, rfl, in_ok hA hk0 c, ?_⟩
    (conv => cbv)
    refine ⟨x, rd_ok hA hr, ?_⟩
    (conv => cbv)
    rw [mul64 hA (by omega) (by omega), show k * 3 = 3 * k by omega]
    refine unpack_inner hA hlow hbs hl hk0 c h3k hn1 hm hE hvs hsb (fun h2 c2 he2 hvb2 hsb2 hov2 hos2 hc2 => ?_) (3 * k) (by omega) (by omega) h' x he hvb hsb' hov hos (by rw [hx, show 3 * k - 3 * k = 0 by omega]; simp [pw5])
    (conv => cbv)
    refine br (c2 ≠ 0) (e_neq hA _ _) (fun c3 => ?_) (fun c3 => ?_) <;> (conv => cbv)
    · refine h1 (fun ha => c3 ?_) h2 _ he2
      rw [hc2, hE]; exact ha k hk0 (by omega)
    · rw [add64 hA (by omega) (by omega)]
      refine ih c h2 he2 hvb2 hsb2 hov2 (fun k' h0' h1' => ?_) ?_
      · by_cases e : k' = k
        · rw [e]; unfold okB; rw [← hE, ← hc2]; exact Classical.not_not.1 c3
        · exact hok k' h0' (by omega)
      · have : (if n < 3 * (k + 1) then n else 3 * (k + 1)) = E := by rw [hE]; unfold endOf; split <;> split <;> omega
        rw [this]; exact hos2
  · rw [fill_end hg (by split <;> omega)] at hos
    exact h0 (fun k' h0' h1' => hok k' h0' (by omega)) h' he hsb' hos

theorem unpack_ok {h : AHeap} (hlow : h.low ≤ h.next) {ab : Option Addr} {nb cb : Nat} (hnb : nb ≤ 300) {bs : List Int} (hb : Ints h .u8 ab nb bs) (hbs : bytesOK bs) (n : Int) {Q : Value → AHeap → Prop}
    (hQ : ∀ e a' n' c' h', e = unpackE bs n → Ext h h' → Ints h' .i64 a' n' (if e = 0 then outL bs n.toNat else []) → Q (.tuple #[.slice a' n' c', .int .i64 e]) h') : call 13 [.slice ab nb cb, .int .i64 n] h Q := by
  have hl := hb.len
  refine hA.bodyR Try.func13 r13_ok (show prims _ _ _ = none from rfl) hlow ?_; (conv => cbv)
  have bad2 : (n < 0 ∨ 256 < n) → Q (.tuple #[.slice none 0 0, .int .i64 2]) h := fun hc => hQ 2 none 0 0 h (by unfold unpackE; rw [if_pos hc]) (.refl _) (by rw [if_neg (by omega)]; exact .nil _ _)
  refine br (n < 0) (e_lss hA _ _) (fun c1 => ?_) (fun c1 => ?_) <;> (conv => cbv)
  · exact bad2 (.inl c1)
  refine br (256 < n) (e_gtr hA _ _) (fun c2 => ?_) (fun c2 => ?_) <;> (conv => cbv)
  · exact bad2 (.inr c2)
  refine length_ok hA n (by omega) (by omega) hlow (fun r hr => ⟨_, rfl, ?_⟩)
  (conv => cbv)
  refine br ((nb : Int) ≠ r) (by rw [e_neq hA, e_ofNat hA]) (fun c3 => ?_) (fun c3 => ?_) <;> (conv => cbv)
  · exact hQ 12 none 0 0 h (by unfold unpackE; rw [if_neg (by omega), if_pos (by omega)]) (.refl _) (by rw [if_neg (by omega)]; exact .nil _ _)
  have hnr : (nb : Int) = (n + 2) / 3 := by omega
  obtain ⟨vb, hvb⟩ : ∃ vb, vb = next h := ⟨_, rfl⟩
  have hvb2 : vb = h.next := by rw [hvb, e_next hA]
  rw [← hvb]
  have ho1 := Own.push h 5 [Value.int .i64 0, .int .i64 0, .int .i64 0, .int .i64 0, .int .i64 0]
  obtain ⟨h2, hw, ho2, hwr⟩ := ho1.write (o := 0) (vs := [.int .i64 0, .int .i64 (-3), .int .i64 (-1), .int .i64 1, .int .i64 3]) (by simp)
  have he2 : Ext h h2 := hwr.ext (.push _ _ _) (Nat.le_refl _)
  have hn2 : h2.next = h.next + 1 := by rw [hwr.next]; rfl
  rw [← hvb2] at hw ho2
  refine ⟨h2, wr_at hA (by rw [e_push hA]; exact hw), ?_⟩
  (conv => cbv)
  refine ⟨mk_ok hA (by omega) (by omega) (by omega), ?_⟩
  (conv => cbv)
  obtain ⟨m, hm⟩ : ∃ m, m = nat n := ⟨_, rfl⟩
  have hm2 : m = n.toNat := by rw [hm, e_nat hA]
  have hz : zeros [.int .i64 0] n = (fillTo (outL bs m) m 0).map (.int .i64) := by rw [e_zeros hA, copies_ints, fill_zero, hm2]
  obtain ⟨sb, hsb⟩ : ∃ sb, sb = next h2 := ⟨_, rfl⟩
  have hsb2 : sb = h2.next := by rw [hsb, e_next hA]
  rw [← hm, ← hsb, hz, e_push hA]
  have ho3 := Own.push h2 1 ((fillTo (outL bs m) m 0).map (.int .i64))
  have he3 := Ext.push h2 1 ((fillTo (outL bs m) m 0).map (.int .i64))
  rw [← hsb2] at ho3
  have hn3 : (h2.push 1 ((fillTo (outL bs m) m 0).map (.int .i64))).next = h2.next + 1 := rfl
  refine unpack_loop hA hlow hb hbs (by omega) (by omega) (by omega) hnr (by omega) (by omega) (fun hall h' he' hsn ho' => ?_) (fun hall h' e he' => ?_) 0 (by omega) (by omega) _ (he2.trans he3) (by omega) (by omega) (ho2.ext he3 (by omega)) (fun k' h0' h1' => by omega) (by rw [if_neg (by omega)]; exact ho3)
  · (conv => cbv)
    exact hQ 0 _ _ _ h' (by unfold unpackE; rw [if_neg (by omega), if_neg (by omega), if_pos hall]) he' (by rw [if_pos rfl, ← hm2]; exact ho'.ints hsn (by unfold outL; simp))
  · (conv => cbv)
    exact hQ 12 none 0 0 h' (by unfold unpackE; rw [if_neg (by omega), if_neg (by omega), if_neg hall]) he' (by rw [if_neg (by omega)]; exact .nil _ _)

end Go.Proofs.Ytcdoknkgbnaefaa
