/-
  Needs, of the program.
-/
import Derived.Test.YtopppccddnplkaaONeed
namespace Go.Proofs.Ytopppccddnplkaa
open Go.Sim
open Classical
set_option linter.unusedVariables false
set_option maxRecDepth 100000

theorem Alls.zero {d : List Rec} {ps : List Bytes} {l : List Rec} {e : Int} {o : Option (List Bytes)} (h : Alls d ps l e o) : e = 0 ↔ o ≠ none := by
  induction h with
  | nil d ps => simp
  | twice a => simp
  | lacks a b => simp
  | bad a b c => simp
  | big a b c q => simp
  | go a b c q t ih => exact ih
theorem AllIs.zero {l : List Rec} {e : Int} {o : Option (List Bytes)} (h : AllIs l e o) : e = 0 ↔ o ≠ none := by
  rcases h with ⟨_, rfl, rfl⟩ | ⟨_, h⟩
  · simp
  · exact h.zero

theorem read_ext {h0 h : AHeap} (e : Ext h0 h) {b o k : Nat} (hb : b < h0.next) : h.readG ⟨b, o, none⟩ k = h0.readG ⟨b, o, none⟩ k := by
  unfold AHeap.readG AHeap.cells?
  rw [e.get _ hb]
/-- A record is read later on; what it points to is as it was. -/
theorem Recs.at2 {h0 h : AHeap} {a : Option Addr} {n : Nat} {l : List Rec} (p : Recs h0 a n l) (e : Ext h0 h) {i : Int} (i0 : 0 ≤ i) (hi : i < n) :
    ∃ b o x, a = some ⟨b, o, none⟩ ∧ b < h0.next ∧ RelR h0 x (rat l i) ∧ h.readG ⟨b, o + i.toNat * 6, none⟩ 6 = some x.cells ∧
      h.readG ⟨b, o + i.toNat * 6 + 0, none⟩ 1 = some [.string x.name] ∧ h.readG ⟨b, o + i.toNat * 6 + 1, none⟩ 1 = some [.int .u8 x.how] ∧ h.readG ⟨b, o + i.toNat * 6 + 2, none⟩ 1 = some [.slice x.fa x.fn x.fc] ∧
      h.readG ⟨b, o + i.toNat * 6 + 3, none⟩ 1 = some [.int .i64 x.arg] ∧ h.readG ⟨b, o + i.toNat * 6 + 4, none⟩ 1 = some [.slice x.da x.dn x.dc] ∧ h.readG ⟨b, o + i.toNat * 6 + 5, none⟩ 1 = some [.int .i64 x.dig] := by
  obtain ⟨b, o, x, q1, q2, q3, q4, q5, q6, q7, q8, q9, q10⟩ := p.at i0 hi
  exact ⟨b, o, x, q1, q2, q3, by rw [read_ext e q2]; exact q4, by rw [read_ext e q2]; exact q5, by rw [read_ext e q2]; exact q6, by rw [read_ext e q2]; exact q7, by rw [read_ext e q2]; exact q8, by rw [read_ext e q2]; exact q9, by rw [read_ext e q2]; exact q10⟩

theorem SOut.lower {h : AHeap} {lo lo' : Nat} {a : Option Addr} {n c : Nat} {l : List Str} (p : SOut h lo a n c l) (hl : lo' ≤ lo) : SOut h lo' a n c l := ⟨p.apd, fun ad had => by have := p.frm ad had; omega, p.lt⟩

def noHad : Int → Prop := fun _ => False

/-- What Needs answers. -/
def NeedIs (l : List Rec) (name : Str) (e : Int) (r : List Str) : Prop :=
  (AllIs l e none ∧ r = []) ∨ (∃ ps, AllIs l 0 (some ps) ∧ idxOf l name = -1 ∧ e = 6 ∧ r = []) ∨
    (∃ ps, AllIs l 0 (some ps) ∧ 0 ≤ idxOf l name ∧ e = 0 ∧ r = outN l (fun j => Due l noHad (idxOf l name) j ∧ j ≠ idxOf l name) l.length)
theorem NeedIs.uniq {l : List Rec} {name : Str} {e e' : Int} {r r' : List Str} (h : NeedIs l name e r) (h' : NeedIs l name e' r') : e = e' ∧ r = r' := by
  rcases h with ⟨a, rfl⟩ | ⟨ps, a, b, rfl, rfl⟩ | ⟨ps, a, b, rfl, rfl⟩ <;> rcases h' with ⟨a', rfl⟩ | ⟨ps', a', b', rfl, rfl⟩ | ⟨ps', a', b', rfl, rfl⟩
  · exact ⟨(a.uniq a').1, rfl⟩
  · cases (a.uniq a').2
  · cases (a.uniq a').2
  · cases (a.uniq a').2
  · exact ⟨rfl, rfl⟩
  · omega
  · cases (a.uniq a').2
  · omega
  · exact ⟨rfl, rfl⟩

/-- A name that is among what the records from i on are made of, of which the product needs. -/
def NS (l : List Rec) (i0 i : Int) (s : Str) : Prop := ∃ k, i ≤ k ∧ 0 ≤ k ∧ k < l.length ∧ Due l noHad i0 k ∧ s ∈ (rat l k).frm

theorem idx_name {l : List Rec} {s : Str} (h : 0 ≤ idxOf l s) : (rat l (idxOf l s)).name = s := by
  rcases idx_cases l s with ⟨q, _⟩ | ⟨_, _, q, _⟩
  · omega
  · exact q
theorem ns_due {l : List Rec} (hp : Prov l) {i0 i : Int} (h0 : 0 ≤ i) (h1 : i < l.length) : (i = i0 ∨ NS l i0 (i + 1) (rat l i).name) ↔ Due l noHad i0 i := by
  constructor
  · rintro (rfl | ⟨k, _, k0, k1, kd, m⟩)
    · exact .base id
    · exact .step kd k0 k1 ⟨_, m, hp.self i h0 h1⟩ id
  · intro h
    cases h with
    | base q => exact .inl rfl
    | @step k _ hk k0 k1 d n =>
      right
      obtain ⟨f, hf, e⟩ := d
      have hd := hp.down k k0 k1 f hf
      have hnm := idx_name hd.1
      rw [e] at hnm hd
      exact ⟨k, by omega, k0, k1, hk, by rw [hnm]; exact hf⟩
theorem ns_next {l : List Rec} {i0 i : Int} (h0 : 0 ≤ i) (h1 : i < l.length) (s : Str) : NS l i0 i s ↔ NS l i0 (i + 1) s ∨ (Due l noHad i0 i ∧ s ∈ (rat l i).frm) := by
  constructor
  · rintro ⟨k, k9, k0, k1, kd, m⟩
    by_cases e : k = i
    · subst e; exact .inr ⟨kd, m⟩
    · exact .inl ⟨k, by omega, k0, k1, kd, m⟩
  · rintro (⟨k, k9, k0, k1, kd, m⟩ | ⟨kd, m⟩)
    · exact ⟨k, by omega, k0, k1, kd, m⟩
    · exact ⟨i, by omega, h0, h1, kd, m⟩
theorem ns_end {l : List Rec} (hp : Prov l) {i0 : Int} (z0 : 0 ≤ i0) (z1 : i0 < l.length) {j : Int} (h0 : 0 ≤ j) (h1 : j < l.length) : NS l i0 0 (rat l j).name ↔ (Due l noHad i0 j ∧ j ≠ i0) := by
  constructor
  · rintro ⟨k, _, k0, k1, kd, m⟩
    have hd := hp.down k k0 k1 _ m
    rw [hp.self j h0 h1] at hd
    have := kd.range hp z0 z1
    exact ⟨.step kd k0 k1 ⟨_, m, hp.self j h0 h1⟩ id, by omega⟩
  · rintro ⟨h, hne⟩
    cases h with
    | base q => exact absurd rfl hne
    | @step k _ hk k0 k1 d n =>
      obtain ⟨f, hf, e⟩ := d
      have hd := hp.down k k0 k1 f hf
      have hnm := idx_name hd.1
      rw [e] at hnm
      exact ⟨k, k0, k0, k1, hk, by rw [hnm]; exact hf⟩

variable {call : FuncId → List Value → AHeap → (Value → AHeap → Prop) → Prop}
  {head : FuncId → Nat → Nat → SS → (Exit → SS → Prop) → Prop}
  {arith : BinOp → IntKind → Int → Int → Int}
  {cmp : BinOp → Int → Int → Bool}
  {scmp : BinOp → ByteArray → ByteArray → Bool}
  {bnot : Bool → Bool}
  {bsame : Bool → Bool → Bool}
  {conv : IntKind → Int → Int}
  {neg : IntKind → Int → Int}
  {imax : Int → Int → Int}
  {imin : Int → Int → Int}
  {ofNat : Nat → Int}
  {slen : ByteArray → Int}
  {place : Nat → Int → Nat → Nat}
  {inR : Int → Nat → Prop}
  {nz : Int → Prop}
  {geZ : Int → Prop}
  {rd : AHeap → Nat → Nat → Nat → List Value → Prop}
  {wr : AHeap → Nat → Nat → List Value → AHeap → Prop}
  {push : AHeap → Nat → List Value → AHeap}
  {next : AHeap → Nat}
  {mkOK : Int → Int → Prop}
  {nat : Int → Nat}
  {zeros : List Value → Int → List Value}
  {sadd : ByteArray → ByteArray → (ByteArray → Prop) → Prop}
  {eqAgg : TypeId → Array Value → Array Value → (Bool → Prop) → Prop}
  {cut : Nat → Int → Prop}
  {slc : TypeId → Value → Option Value → Option Value → Option Value → (Option Addr → Nat → Nat → Prop) → Prop}
  {sslc : TypeId → ByteArray → Option Value → Option Value → (ByteArray → Prop) → Prop}
  {strAt : ByteArray → Int → (Int → Prop) → Prop}
  {part : TypeId → Array Value → Nat → Value → Prop}
  {app : List TypeId → List Value → AHeap → (Option Addr → Nat → Nat → AHeap → Prop) → Prop}
  {cpy : List TypeId → List Value → AHeap → (Int → AHeap → Prop) → Prop}
  {putAt : AHeap → Nat → Nat → List Value → AHeap}
  {fresh : AHeap → AHeap}
  {lowered : AHeap → AHeap → AHeap}
  {bump : AHeap → Nat → AHeap}
  {wrote : AHeap → AHeap → Bool}
  {addN : Nat → Nat → Nat}
  {lt : Nat → Nat → Prop}
  {ne : Nat → Nat → Prop}
  {fpAll : Bool → Bool → Bool → Nat → Nat → Prop}
  {brk : (Unit → Prop) → Prop}
  {yn : Nat → Nat}
  {rng : FuncId → Nat → SS → (Exit → SS → Prop) → Prop}
  {mget : TypeId → Value → Value → AHeap → Value → Bool → Prop}
  {mput : TypeId → Value → Value → Value → AHeap → AHeap → Prop}
  {mnew : AHeap → AHeap}
  {bytes : TypeId → TypeId → Option Addr → Nat → AHeap → ByteArray → Prop}
  {clr : List TypeId → List Value → AHeap → AHeap → Prop}
  (hA : AOK progU hint prims ⟨call, head, arith, cmp, scmp, bnot, bsame, conv, neg, imax, imin, ofNat, slen, place, inR, nz, geZ, rd, wr, push, next, mkOK, nat, zeros, sadd, eqAgg, cut, slc, sslc, strAt, part, app, cpy, putAt, fresh, lowered, bump, wrote, addN, lt, ne, fpAll, brk, yn, rng, mget, mput, mnew, bytes, clr⟩)
include hA

theorem nput_loop {h0 : AHeap} {fa : Option Addr} {fn fc : Nat} {fs : List Str} (hf : Strs h0 fa fn fc fs) (hfn : (fn : Int) ≤ 1000000) {M : Nat} (hM : h0.next ≤ M) {P : Str → Prop} {al : Option Addr} {nl cl : Nat} {name : Str} {j : Int} {Q : Exit → SS → Prop}
    (h1 : ∀ h', Ext h0 h' → BM h' M (fun s => P s ∨ s ∈ fs) → Q (.exit 2) ⟨[(0, .slice al nl cl), (1, .string name), (10, .map (some M)), (11, .int .i64 j)], 0, [], h'⟩) :
    ∀ k : Int, 0 ≤ k → k ≤ fn → ∀ h, Ext h0 h → BM h M (fun s => P s ∨ s ∈ fs.take k.toNat) → head 26 13 0 ⟨[(0, .slice al nl cl), (1, .string name), (10, .map (some M)), (11, .int .i64 j), (59, .slice fa fn fc), (60, .int .i64 (ofNat fn)), (61, .int .i64 k)], 0, [], h⟩ Q := by
  have hfl := hf.len
  refine countUp (fun k hk0 hkn ih h e hb => ?_)
  refine hA.roundR Try.func26 r26_ok ?_; (try (conv => cbv)); repeat (refine brk_ok hA ?_; (try (conv => cbv)))
  refine br (k < fn) (by rw [e_lss hA, e_ofNat hA]) (fun c1 => ?_) (fun c1 => ?_) <;> (try (conv => cbv)) <;> repeat (refine brk_ok hA ?_; (try (conv => cbv)))
  · obtain ⟨b, o, s, hae, hbn, hs, hrd⟩ := (hf.ext e).at hk0 c1
    refine ⟨b, o, hae, in_ok hA hk0 c1, ?_⟩
    ((try (conv => cbv)); repeat (refine brk_ok hA ?_; (try (conv => cbv))))
    refine ⟨s, rd_ok hA hrd, ?_⟩
    ((try (conv => cbv)); repeat (refine brk_ok hA ?_; (try (conv => cbv))))
    obtain ⟨h', u1, u2, u3, u4, u5⟩ := hb.put s true
    have u1' : mput 70 (.map (some M)) (.string s) (.bool true) h h' := by rw [e_mput hA]; exact u1
    refine ⟨h', u1', ?_⟩
    ((try (conv => cbv)); repeat (refine brk_ok hA ?_; (try (conv => cbv))))
    rw [add64 hA (by omega) (by omega)]
    refine ih c1 h' (u5 h0 e hM) (u2.cong (fun u => ?_))
    have htk : fs.take (k + 1).toNat = fs.take k.toNat ++ [sat' fs k] := by
      rw [toNat_succ hk0, List.take_add_one, getD_some fs k.toNat ByteArray.empty (by omega)]
      rfl
    rw [htk, ← hs, List.mem_append, List.mem_singleton]
    by_cases eu : u = s <;> simp [eu]
  · rw [List.take_of_length_le (by omega)] at hb
    exact h1 h e hb

theorem needs_loop {h0 : AHeap} (hlow0 : h0.low ≤ h0.next) {al : Option Addr} {nl cl : Nat} {l : List Rec} (hl : Recs h0 al nl l) (hnl : (nl : Int) ≤ 40) (hok : okL l) (hp : Prov l) {name : Str} (hi : 0 ≤ idxOf l name) {M : Nat} (hM : h0.next ≤ M) {Q : Exit → SS → Prop}
    (h1 : ∀ h', Ext h0 h' → BM h' M (NS l (idxOf l name) 0) → Q (.exit 0) ⟨[(0, .slice al nl cl), (10, .map (some M))], 0, [], h'⟩) :
    ∀ i : Int, 0 ≤ i → i ≤ nl → ∀ j : Int, j = i - 1 → ∀ h, Ext h0 h → BM h M (NS l (idxOf l name) i) → head 26 9 0 ⟨[(0, .slice al nl cl), (1, .string name), (10, .map (some M)), (11, .int .i64 j)], 0, [], h⟩ Q := by
  have hll := hl.len
  have hi1 : idxOf l name < l.length := by rcases idx_cases l name with ⟨q, _⟩ | ⟨_, q, _⟩ <;> omega
  refine countDown (fun i hi0 ih hin j hj h e hb => ?_)
  refine hA.roundR Try.func26 r26_ok ?_; (try (conv => cbv)); repeat (refine brk_ok hA ?_; (try (conv => cbv)))
  refine br (0 ≤ j) (by rw [e_geq hA]) (fun c1 => ?_) (fun c1 => ?_) <;> (try (conv => cbv)) <;> repeat (refine brk_ok hA ?_; (try (conv => cbv)))
  · obtain ⟨b, o, x, hae, hbn, rel, _, r0, _, r2, _⟩ := hl.at2 e c1 (by omega)
    obtain ⟨ok1, ok2, ok3⟩ := okL_at hok c1 (by omega : j < l.length)
    obtain ⟨xnm, xhow, xfa, xfn, xfc, xarg, xda, xdn, xdc, xdg⟩ := x
    have hnm : xnm = (rat l j).name := rel.name
    have hfr : Strs h0 xfa xfn xfc (rat l j).frm := rel.frm
    have hfl := hfr.len
    simp only [] at r0 r2
    have hdue := ns_due (i0 := idxOf l name) hp c1 (by omega)
    have hij : i = j + 1 := by omega
    rw [← hij, ← hnm] at hdue
    have hnx := ns_next (i0 := idxOf l name) c1 (by omega : j < l.length)
    rw [← hij] at hnx
    have hself : xnm = name ↔ j = idxOf l name := by
      constructor
      · intro q
        have := hp.self j c1 (by omega)
        rw [← hnm, q] at this
        exact this.symm
      · intro q
        rw [hnm, q]
        exact idx_name hi
    have hback : arith .sub .i64 j 1 = j - 1 := sub64 hA (by omega) (by omega)
    refine ⟨b, o, hae, in_ok hA c1 (by omega), ?_⟩
    ((try (conv => cbv)); repeat (refine brk_ok hA ?_; (try (conv => cbv))))
    refine ⟨xnm, rd_fld hA r0, ?_⟩
    ((try (conv => cbv)); repeat (refine brk_ok hA ?_; (try (conv => cbv))))
    have work : Due l noHad (idxOf l name) j → ∀ h', Ext h0 h' → BM h' M (fun s => NS l (idxOf l name) i s ∨ s ∈ (rat l j).frm) → BM h' M (NS l (idxOf l name) (i - 1)) := fun hd h' e' hb' => hb'.cong (fun s => by
      rw [show i - 1 = j by omega, hnx s]
      exact ⟨fun q => q.elim .inl (fun q => .inr ⟨hd, q⟩), fun q => q.elim .inl (fun q => .inr q.2)⟩)
    refine br (xnm ≠ name) (by rw [e_strn hA]) (fun c2 => ?_) (fun c2 => ?_) <;> (try (conv => cbv)) <;> repeat (refine brk_ok hA ?_; (try (conv => cbv)))
    · refine ⟨b, o, hae, in_ok hA c1 (by omega), ?_⟩
      ((try (conv => cbv)); repeat (refine brk_ok hA ?_; (try (conv => cbv))))
      refine ⟨xnm, rd_fld hA r0, ?_⟩
      ((try (conv => cbv)); repeat (refine brk_ok hA ?_; (try (conv => cbv))))
      obtain ⟨bb, r, g1, g2⟩ := bm_get hA hb xnm
      refine ⟨bb, r, g1, ?_⟩
      have bt : bnot true = false := by rw [e_bnot hA]; rfl
      have bf : bnot false = true := by rw [e_bnot hA]; rfl
      cases bb with
      | false =>
        ((try (conv => cbv)); repeat (refine brk_ok hA ?_; (try (conv => cbv))))
        rw [bf]
        ((try (conv => cbv)); repeat (refine brk_ok hA ?_; (try (conv => cbv))))
        rw [hback]
        refine ih (by omega) (by omega) _ (by omega) h e (hb.cong (fun s => ?_))
        rw [show i - 1 = j by omega, hnx s]
        refine ⟨.inl, fun q => q.elim id (fun q => ?_)⟩
        rcases hdue.2 q.1 with w | w
        · exact absurd (hself.2 w) c2
        · have := g2.2 w; cases this
      | true =>
        ((try (conv => cbv)); repeat (refine brk_ok hA ?_; (try (conv => cbv))))
        rw [bt]
        ((try (conv => cbv)); repeat (refine brk_ok hA ?_; (try (conv => cbv))))
        refine ⟨b, o, hae, in_ok hA c1 (by omega), ?_⟩
        ((try (conv => cbv)); repeat (refine brk_ok hA ?_; (try (conv => cbv))))
        refine ⟨xfa, xfn, xfc, rd_fld hA r2, ?_⟩
        ((try (conv => cbv)); repeat (refine brk_ok hA ?_; (try (conv => cbv))))
        have hd : Due l noHad (idxOf l name) j := hdue.1 (.inr (g2.1 rfl))
        refine nput_loop hA hfr (by omega) hM (P := NS l (idxOf l name) i) (fun h' e' hb' => ?_) 0 (by omega) (by omega) h e (hb.cong (fun s => by simp))
        ((try (conv => cbv)); repeat (refine brk_ok hA ?_; (try (conv => cbv))))
        rw [hback]
        exact ih (by omega) (by omega) _ (by omega) h' e' (work hd h' e' hb')
    · refine ⟨b, o, hae, in_ok hA c1 (by omega), ?_⟩
      ((try (conv => cbv)); repeat (refine brk_ok hA ?_; (try (conv => cbv))))
      refine ⟨xfa, xfn, xfc, rd_fld hA r2, ?_⟩
      ((try (conv => cbv)); repeat (refine brk_ok hA ?_; (try (conv => cbv))))
      have hd : Due l noHad (idxOf l name) j := hdue.1 (.inl (hself.1 (Decidable.not_not.1 c2)))
      refine nput_loop hA hfr (by omega) hM (P := NS l (idxOf l name) i) (fun h' e' hb' => ?_) 0 (by omega) (by omega) h e (hb.cong (fun s => by simp))
      ((try (conv => cbv)); repeat (refine brk_ok hA ?_; (try (conv => cbv))))
      rw [hback]
      exact ih (by omega) (by omega) _ (by omega) h' e' (work hd h' e' hb')
  · have : i = 0 := by omega
    subst this
    exact h1 h e hb

theorem needs_okS {h : AHeap} (hlow : h.low ≤ h.next) {al : Option Addr} {nl cl : Nat} {l : List Rec} (hl : Recs h al nl l) (hok : l.length ≤ 40 → okL l) {name : Str} {Q : Value → AHeap → Prop}
    (hQ : ∀ a n c e r h', Ext h h' → SOut h' h.next a n c r → NeedIs l name e r → (n : Int) ≤ 40 → Q (.tuple #[.slice a n c, .int .i64 e]) h') : call 26 [.slice al nl cl, .string name] h Q := by
  have hll := hl.len
  have bt : bnot true = false := by rw [e_bnot hA]; rfl
  have bf : bnot false = true := by rw [e_bnot hA]; rfl
  refine hA.bodyR Try.func26 r26_ok (show prims _ _ _ = none from rfl) hlow ?_; (try (conv => cbv)); repeat (refine brk_ok hA ?_; (try (conv => cbv)))
  refine prods_ok hA hlow hl hok (fun M ps h1 e1 hp ha hM => ⟨_, _, rfl, ?_⟩) (fun e h1 e1 ha => ⟨_, _, rfl, ?_⟩)
  rotate_left
  · ((try (conv => cbv)); repeat (refine brk_ok hA ?_; (try (conv => cbv))))
    have he : e ≠ 0 := fun q => by have := ha.zero.1 q; exact this rfl
    refine br (e ≠ 0) (by rw [e_neq hA]) (fun _ => ?_) (fun q => absurd he q) <;> (try (conv => cbv)) <;> repeat (refine brk_ok hA ?_; (try (conv => cbv)))
    exact hQ _ _ _ _ _ h1 e1 (SOut.nil h1 _) (.inl ⟨ha, rfl⟩) (by omega)
  ((try (conv => cbv)); repeat (refine brk_ok hA ?_; (try (conv => cbv))))
  refine br (False) (by rw [e_neq hA]; rfl) (fun q => q.elim) (fun _ => ?_) <;> (try (conv => cbv)) <;> repeat (refine brk_ok hA ?_; (try (conv => cbv)))
  obtain ⟨pv, hform, h40⟩ := ha.prov
  obtain ⟨ga, gn, gc, gb, g1, g2⟩ := mget_ok hA hp name
  refine ⟨ga, gn, gc, gb, g1, ?_⟩
  rcases g2 with ⟨rfl, g2, _⟩ | ⟨rfl, g2⟩
  rotate_left
  · ((try (conv => cbv)); repeat (refine brk_ok hA ?_; (try (conv => cbv))))
    rw [bf]
    ((try (conv => cbv)); repeat (refine brk_ok hA ?_; (try (conv => cbv))))
    exact hQ _ _ _ _ _ h1 e1 (SOut.nil h1 _) (.inr (.inl ⟨ps, ha, g2, rfl, rfl⟩)) (by omega)
  ((try (conv => cbv)); repeat (refine brk_ok hA ?_; (try (conv => cbv))))
  rw [bt]
  ((try (conv => cbv)); repeat (refine brk_ok hA ?_; (try (conv => cbv))))
  simp only [e_next hA, e_mnew hA]
  obtain ⟨M2, hM2⟩ : ∃ v, v = h1.next := ⟨_, rfl⟩
  have e2 := Ext.pushB h1 (.map [])
  have m2 := MapS.new h1
  have n2 : (h1.pushB (.map [])).next = h1.next + 1 := rfl
  generalize h1.pushB (.map []) = h2 at *
  rw [← hM2] at m2 n2 ⊢
  rw [e_ofNat hA, sub64 hA (by omega) (by omega)]
  obtain ⟨jj, hjj⟩ : ∃ v, v = (nl : Int) - 1 := ⟨_, rfl⟩
  rw [← hjj]
  have e12 := e1.trans e2
  have hen := e1.next
  refine needs_loop hA hlow hl (by omega) (hok h40) pv g2 (M := M2) (by omega) (fun h3 e3 hb3 => ?_) nl (by omega) (by omega) jj hjj h2 e12 ⟨⟨_, m2, fun s => ⟨fun q => ?_, fun _ => .inl rfl⟩⟩, by omega⟩
  · ((try (conv => cbv)); repeat (refine brk_ok hA ?_; (try (conv => cbv))))
    refine chosen_ok hA (e3.lowOK hlow) (hl.ext e3) (by omega) hb3 (fun a n c h4 e4 ho => ⟨_, _, _, rfl, ?_⟩)
    ((try (conv => cbv)); repeat (refine brk_ok hA ?_; (try (conv => cbv))))
    have hi1 : idxOf l name < l.length := by rcases idx_cases l name with ⟨q, _⟩ | ⟨_, q, _⟩ <;> omega
    have hcg := outN_cong (l := l) (p := fun j => NS l (idxOf l name) 0 (rat l j).name) (q := fun j => Due l noHad (idxOf l name) j ∧ j ≠ idxOf l name) l.length (fun j j0 j1 => ns_end pv g2 hi1 j0 j1)
    have hol := outN_len l (fun j => NS l (idxOf l name) 0 (rat l j).name) l.length
    have hon := ho.len
    rw [hcg] at ho
    exact hQ _ _ _ _ _ h4 (e3.trans e4) (ho.lower e3.next) (.inr (.inr ⟨ps, ha, g2, rfl, rfl⟩)) (by omega)
  · obtain ⟨k, k9, k0, k1, _⟩ := q
    omega

theorem needs_ok {h : AHeap} (hlow : h.low ≤ h.next) {al : Option Addr} {nl cl : Nat} {l : List Rec} (hl : Recs h al nl l) (hok : l.length ≤ 40 → okL l) {name : Str} {Q : Value → AHeap → Prop}
    (hQ : ∀ a n c e r h', Ext h h' → Strs h' a n c r → NeedIs l name e r → (n : Int) ≤ 40 → Q (.tuple #[.slice a n c, .int .i64 e]) h') : call 26 [.slice al nl cl, .string name] h Q :=
  needs_okS hA hlow hl hok (fun a n c e r h' x s i b => hQ a n c e r h' x s.strs i b)

end Go.Proofs.Ytopppccddnplkaa
