/-
  Verify, of the program and of the reference.
-/
import Derived.Test.YtopppccddnplkaaOMake
namespace Go.Proofs.Ytopppccddnplkaa
open Go.Sim
open Classical
set_option linter.unusedVariables false
set_option maxRecDepth 100000

/-- The records whose digest is another one. -/
def offP (l : List Rec) (ps : List Bytes) (j : Int) : Prop := (rat l j).dig ≠ dig (bat ps j)
def VerIs (l : List Rec) (e : Int) (r : List Str) : Prop :=
  (AllIs l e none ∧ r = []) ∨ (∃ ps, AllIs l 0 (some ps) ∧ e = 0 ∧ r = outN l (offP l ps) l.length)
theorem VerIs.uniq {l : List Rec} {e e' : Int} {r r' : List Str} (h : VerIs l e r) (h' : VerIs l e' r') : e = e' ∧ r = r' := by
  rcases h with ⟨a, rfl⟩ | ⟨ps, a, rfl, rfl⟩ <;> rcases h' with ⟨a', rfl⟩ | ⟨ps', a', rfl, rfl⟩
  · exact ⟨(a.uniq a').1, rfl⟩
  · cases (a.uniq a').2
  · cases (a.uniq a').2
  · cases (a.uniq a').2
    exact ⟨rfl, rfl⟩

theorem Alls.oks {d : List Rec} {ps : List Bytes} {l : List Rec} {e : Int} {o : Option (List Bytes)} (h : Alls d ps l e o) : okL l → (∀ b ∈ ps, okB b ∧ b.length ≤ 1000) → ∀ qs, o = some qs → ∀ b ∈ qs, okB b ∧ b.length ≤ 1000 := by
  induction h with
  | nil d ps => intro _ hp qs q; cases q; exact hp
  | twice a => intro _ _ qs q; cases q
  | lacks a b => intro _ _ qs q; cases q
  | bad a b c => intro _ _ qs q; cases q
  | big a b c q => intro _ _ qs q; cases q
  | @go d ps r l e o a b c q t ih =>
    intro hl hp qs ho
    refine ih (fun y hy => hl y (List.mem_cons_of_mem _ hy)) (fun x hx => ?_) qs ho
    rw [List.mem_append, List.mem_singleton] at hx
    rcases hx with hx | rfl
    · exact hp x hx
    · refine ⟨made_okB (hl r (List.mem_cons_self ..)).1 (fun y hy => ?_) ?_, q⟩
      · unfold insOf at hy
        rw [List.mem_map] at hy
        obtain ⟨f, _, rfl⟩ := hy
        exact bat_okB (fun z hz => (hp z hz).1) _
      · have := c.2.2.2
        unfold kindP at this
        omega
theorem AllIs.oks {l : List Rec} {e : Int} {ps : List Bytes} (h : AllIs l e (some ps)) (hl : okL l) : ∀ j : Int, okB (bat ps j) ∧ (bat ps j).length ≤ 1000 := by
  intro j
  have hall : ∀ b ∈ ps, okB b ∧ b.length ≤ 1000 := by
    rcases h with ⟨_, _, q⟩ | ⟨_, q⟩
    · cases q
    · exact q.oks hl (fun b hb => by simp at hb) ps rfl
  refine ⟨bat_okB (fun b hb => (hall b hb).1) j, ?_⟩
  unfold bat
  rw [List.getD]
  cases hj : ps[j.toNat]? with
  | none => simp
  | some b => exact (hall b (List.mem_of_getElem? hj)).2

variable {call : FuncId → List Value → AHeap → (Value → AHeap → Prop) → Prop}
  {head : FuncId → Nat → Nat → SS → (Exit → SS → Prop) → Prop}
  {arith : BinOp → IntKind → Int → Int → Int}
  {cmp : BinOp → Int → Int → Bool}
  {scmp : BinOp → ByteArray → ByteArray → Bool}
  {bnot : Bool → Bool}
  {bsame : Bool → Bool → Bool}
  {conv : IntKind → Int → Int}
  {neg : IntKind → Int → Int}
  {imax : Int → Int → Int}
  {imin : Int → Int → Int}
  {ofNat : Nat → Int}
  {slen : ByteArray → Int}
  {place : Nat → Int → Nat → Nat}
  {inR : Int → Nat → Prop}
  {nz : Int → Prop}
  {geZ : Int → Prop}
  {rd : AHeap → Nat → Nat → Nat → List Value → Prop}
  {wr : AHeap → Nat → Nat → List Value → AHeap → Prop}
  {push : AHeap → Nat → List Value → AHeap}
  {next : AHeap → Nat}
  {mkOK : Int → Int → Prop}
  {nat : Int → Nat}
  {zeros : List Value → Int → List Value}
  {sadd : ByteArray → ByteArray → (ByteArray → Prop) → Prop}
  {eqAgg : TypeId → Array Value → Array Value → (Bool → Prop) → Prop}
  {cut : Nat → Int → Prop}
  {slc : TypeId → Value → Option Value → Option Value → Option Value → (Option Addr → Nat → Nat → Prop) → Prop}
  {sslc : TypeId → ByteArray → Option Value → Option Value → (ByteArray → Prop) → Prop}
  {strAt : ByteArray → Int → (Int → Prop) → Prop}
  {part : TypeId → Array Value → Nat → Value → Prop}
  {app : List TypeId → List Value → AHeap → (Option Addr → Nat → Nat → AHeap → Prop) → Prop}
  {cpy : List TypeId → List Value → AHeap → (Int → AHeap → Prop) → Prop}
  {putAt : AHeap → Nat → Nat → List Value → AHeap}
  {fresh : AHeap → AHeap}
  {lowered : AHeap → AHeap → AHeap}
  {bump : AHeap → Nat → AHeap}
  {wrote : AHeap → AHeap → Bool}
  {addN : Nat → Nat → Nat}
  {lt : Nat → Nat → Prop}
  {ne : Nat → Nat → Prop}
  {fpAll : Bool → Bool → Bool → Nat → Nat → Prop}
  {brk : (Unit → Prop) → Prop}
  {yn : Nat → Nat}
  {rng : FuncId → Nat → SS → (Exit → SS → Prop) → Prop}
  {mget : TypeId → Value → Value → AHeap → Value → Bool → Prop}
  {mput : TypeId → Value → Value → Value → AHeap → AHeap → Prop}
  {mnew : AHeap → AHeap}
  {bytes : TypeId → TypeId → Option Addr → Nat → AHeap → ByteArray → Prop}
  {clr : List TypeId → List Value → AHeap → AHeap → Prop}
  (hA : AOK progU hint prims ⟨call, head, arith, cmp, scmp, bnot, bsame, conv, neg, imax, imin, ofNat, slen, place, inR, nz, geZ, rd, wr, push, next, mkOK, nat, zeros, sadd, eqAgg, cut, slc, sslc, strAt, part, app, cpy, putAt, fresh, lowered, bump, wrote, addN, lt, ne, fpAll, brk, yn, rng, mget, mput, mnew, bytes, clr⟩)
include hA

theorem ver_loop {h0 : AHeap} (hlow0 : h0.low ≤ h0.next) {al : Option Addr} {nl cl : Nat} {l : List Rec} (hl : Recs h0 al nl l) (hnl : (nl : Int) ≤ 40) (hp : Prov l) {M lo : Nat} {ps : List Bytes} (hM : PM h0 lo M l ps) (hps : ∀ j : Int, 0 ≤ j → j < l.length → okB (bat ps j) ∧ (bat ps j).length ≤ 1000) {Q : Exit → SS → Prop}
    (h1 : ∀ a n c h' kn K, Ext h0 h' → SOut h' h0.next a n c (outN l (offP l ps) l.length) → Q (.exit 0) ⟨[(6, .slice a n c)], kn, K, h'⟩) :
    ∀ i : Int, 0 ≤ i → i ≤ nl → ∀ h a n c, Ext h0 h → SOut h h0.next a n c (outN l (offP l ps) i.toNat) → head 17 6 0 ⟨[(4, .map (some M)), (6, .slice a n c), (17, .slice al nl cl), (18, .int .i64 (ofNat nl)), (19, .int .i64 i)], 0, [], h⟩ Q := by
  have hll := hl.len
  refine countUp (fun i hi0 hin ih h a n c e ho => ?_)
  have hon := ho.len
  have hol := outN_len l (offP l ps) i.toNat
  refine hA.roundR Try.func17 r17_ok ?_; (try (conv => cbv)); repeat (refine brk_ok hA ?_; (try (conv => cbv)))
  refine br (i < nl) (by rw [e_lss hA, e_ofNat hA]) (fun c1 => ?_) (fun c1 => ?_) <;> (try (conv => cbv)) <;> repeat (refine brk_ok hA ?_; (try (conv => cbv)))
  · obtain ⟨b, o, x, hae, hbn, rel, hrd, _⟩ := (hl.ext e).at hi0 c1
    have hnm := rel.name
    have hdg := rel.dig
    obtain ⟨xnm, xhow, xfa, xfn, xfc, xarg, xda, xdn, xdc, xdg⟩ := x
    simp only [] at hnm hdg
    refine ⟨b, o, hae, in_ok hA hi0 c1, ?_⟩
    ((try (conv => cbv)); repeat (refine brk_ok hA ?_; (try (conv => cbv))))
    refine ⟨xnm, xhow, xfa, xfn, xfc, xarg, xda, xdn, xdc, xdg, rd_ok hA hrd, ?_⟩
    ((try (conv => cbv)); repeat (refine brk_ok hA ?_; (try (conv => cbv))))
    obtain ⟨h9, hh9⟩ : ∃ z, z = bump h 8 := ⟨_, rfl⟩
    have e9 : Ext h h9 := by rw [hh9, e_bump hA]; exact .bump _ _
    rw [← hh9]
    have e09 := e.trans e9
    have fX := ext_fresh hA h9
    obtain ⟨ga, gn, gc, gb, g1, g2⟩ := mget_ok hA ((hM.ext e09).ext fX) xnm
    have hself := hp.self i hi0 (by omega)
    refine ⟨ga, gn, gc, gb, g1, ?_⟩
    rcases g2 with ⟨rfl, g2, g3⟩ | ⟨rfl, g2⟩
    rotate_left
    · rw [hnm] at g2; omega
    rw [hnm, hself] at g3
    obtain ⟨hb1, hb2⟩ := hps i hi0 (by omega)
    have hgl := g3.len
    ((try (conv => cbv)); repeat (refine brk_ok hA ?_; (try (conv => cbv))))
    obtain ⟨hX, hhX⟩ : ∃ v, v = lowered h9 (fresh h9) := ⟨_, rfl⟩
    have eX : Ext h0 hX := by rw [hhX]; exact ext_low hA hlow0 e09 (.refl _)
    have gX : BMem hX lo ga gn gc (bat ps i) := by rw [hhX, e_lowered hA]; exact g3.of_get (Nat.le_refl _) (fun _ _ _ => rfl)
    have oX : SOut hX h0.next a n c (outN l (offP l ps) i.toNat) := by
      have := (ho.ext e9).ext fX
      rw [hhX, e_lowered hA]
      exact ⟨this.apd.of_get (Nat.le_refl _) (fun _ _ _ => rfl), this.frm, this.lt⟩
    rw [← hhX]
    refine dig_ok hA (low_fresh hA hX) (gX.byts.ext (ext_fresh hA hX)) hb1 (by omega) (fun d hd => ⟨_, rfl, ?_⟩)
    ((try (conv => cbv)); repeat (refine brk_ok hA ?_; (try (conv => cbv))))
    obtain ⟨hN, hhN⟩ : ∃ v, v = lowered hX (fresh hX) := ⟨_, rfl⟩
    have eN : Ext h0 hN := by rw [hhN]; exact ext_low hA hlow0 eX (.refl _)
    have oN : SOut hN h0.next a n c (outN l (offP l ps) i.toNat) := by
      have := oX.ext (ext_fresh hA hX)
      rw [hhN, e_lowered hA]
      exact ⟨this.apd.of_get (Nat.le_refl _) (fun _ _ _ => rfl), this.frm, this.lt⟩
    rw [← hhN]
    have ha : arith .add .i64 i 1 = i + 1 := add64 hA (by omega) (by omega)
    refine br (xdg ≠ d) (by rw [e_neq hA]) (fun c2 => ?_) (fun c2 => ?_) <;> (try (conv => cbv)) <;> repeat (refine brk_ok hA ?_; (try (conv => cbv)))
    · rw [e_next hA, e_push hA]
      obtain ⟨a', c', h', q1, q2, q3⟩ := oN.one xnm (by omega) eN rfl
      refine app_ok hA q1 ?_
      ((try (conv => cbv)); repeat (refine brk_ok hA ?_; (try (conv => cbv))))
      rw [ha]
      refine ih c1 h' a' (n + 1) c' q3 ?_
      rw [outN_yes hi0 (show offP l ps i by unfold offP; rw [← hdg, ← hd]; exact c2), ← hnm]
      exact q2
    · rw [ha]
      refine ih c1 hN a n c eN ?_
      rw [outN_no hi0 (show ¬ offP l ps i by unfold offP; rw [← hdg, ← hd]; exact c2)]
      exact oN
  · have : i.toNat = l.length := by omega
    rw [this] at ho
    exact h1 a n c h _ _ e ho

theorem verify_okS {h : AHeap} (hlow : h.low ≤ h.next) {al : Option Addr} {nl cl : Nat} {l : List Rec} (hl : Recs h al nl l) (hok : l.length ≤ 40 → okL l) {Q : Value → AHeap → Prop}
    (hQ : ∀ a n c e r h', Ext h h' → SOut h' h.next a n c r → VerIs l e r → (n : Int) ≤ 40 → Q (.tuple #[.slice a n c, .int .i64 e]) h') : call 17 [.slice al nl cl] h Q := by
  have hll := hl.len
  refine hA.bodyR Try.func17 r17_ok (show prims _ _ _ = none from rfl) hlow ?_; (try (conv => cbv)); repeat (refine brk_ok hA ?_; (try (conv => cbv)))
  refine prods_ok hA hlow hl hok (fun M ps h1 e1 hp ha hM => ⟨_, _, rfl, ?_⟩) (fun e h1 e1 ha => ⟨_, _, rfl, ?_⟩)
  rotate_left
  · ((try (conv => cbv)); repeat (refine brk_ok hA ?_; (try (conv => cbv))))
    have he : e ≠ 0 := fun q => by have := ha.zero.1 q; exact this rfl
    refine br (e ≠ 0) (by rw [e_neq hA]) (fun _ => ?_) (fun q => absurd he q) <;> (try (conv => cbv)) <;> repeat (refine brk_ok hA ?_; (try (conv => cbv)))
    exact hQ _ _ _ _ _ h1 e1 (SOut.nil h1 _) (.inl ⟨ha, rfl⟩) (by omega)
  ((try (conv => cbv)); repeat (refine brk_ok hA ?_; (try (conv => cbv))))
  refine br (False) (by rw [e_neq hA]; rfl) (fun q => q.elim) (fun _ => ?_) <;> (try (conv => cbv)) <;> repeat (refine brk_ok hA ?_; (try (conv => cbv)))
  obtain ⟨pv, hform, h40⟩ := ha.prov
  have hoks := ha.oks (hok h40)
  refine ver_loop hA (e1.lowOK hlow) (hl.ext e1) (by omega) pv hp (fun j _ _ => hoks j) (fun a n c h' kn K e' ho => ?_) 0 (by omega) (by omega) h1 none 0 0 (.refl _) (SOut.nil _ _)
  ((try (conv => cbv)); repeat (refine brk_ok hA ?_; (try (conv => cbv))))
  have hol := outN_len l (offP l ps) l.length
  have hon := ho.len
  exact hQ _ _ _ _ _ h' (e1.trans e') ⟨ho.apd, fun ad had => Nat.le_trans e1.next (ho.frm ad had), ho.lt⟩ (.inr ⟨ps, ha, rfl, rfl⟩) (by omega)

theorem verify_ok {h : AHeap} (hlow : h.low ≤ h.next) {al : Option Addr} {nl cl : Nat} {l : List Rec} (hl : Recs h al nl l) (hok : l.length ≤ 40 → okL l) {Q : Value → AHeap → Prop}
    (hQ : ∀ a n c e r h', Ext h h' → Strs h' a n c r → VerIs l e r → (n : Int) ≤ 40 → Q (.tuple #[.slice a n c, .int .i64 e]) h') : call 17 [.slice al nl cl] h Q :=
  verify_okS hA hlow hl hok (fun a n c e r h' x s v k => hQ a n c e r h' x s.strs v k)

theorem rver_loop {h0 : AHeap} (hlow0 : h0.low ≤ h0.next) {al : Option Addr} {nl cl : Nat} {l : List Rec} (hl : Recs h0 al nl l) (hnl : (nl : Int) ≤ 40) {pa : Option Addr} {pn pc : Nat} {ps : List Bytes} (hP : Lists h0 pa pn ps) (hpn : pn = nl) (hps : ∀ j : Int, okB (bat ps j) ∧ (bat ps j).length ≤ 1000) {Q : Exit → SS → Prop}
    (h1 : ∀ a n c h' kn K, Ext h0 h' → SOut h' h0.next a n c (outN l (offP l ps) l.length) → Q (.exit 0) ⟨[(6, .slice a n c)], kn, K, h'⟩) :
    ∀ i : Int, 0 ≤ i → i ≤ nl → ∀ h a n c, Ext h0 h → SOut h h0.next a n c (outN l (offP l ps) i.toNat) → head 18 6 0 ⟨[(0, .slice al nl cl), (4, .slice pa pn pc), (6, .slice a n c), (7, .int .i64 i)], 0, [], h⟩ Q := by
  have hll := hl.len
  refine countUp (fun i hi0 hin ih h a n c e ho => ?_)
  have hon := ho.len
  have hol := outN_len l (offP l ps) i.toNat
  refine hA.roundR Try.func18 r18_ok ?_; (try (conv => cbv)); repeat (refine brk_ok hA ?_; (try (conv => cbv)))
  refine br (i < nl) (by rw [e_lss hA, e_ofNat hA]) (fun c1 => ?_) (fun c1 => ?_) <;> (try (conv => cbv)) <;> repeat (refine brk_ok hA ?_; (try (conv => cbv)))
  · obtain ⟨h9, hh9⟩ : ∃ z, z = bump h 11 := ⟨_, rfl⟩
    obtain ⟨nh, hnh⟩ : ∃ z, z = next h := ⟨_, rfl⟩
    have e9 : Ext h h9 := by rw [hh9, e_bump hA]; exact .bump _ _
    rw [← hh9, ← hnh]
    have e09 := e.trans e9
    obtain ⟨b, o, ra, rn, rc, hae, hbn, hrd, hby⟩ := (hP.ext e09).at (i := i) hi0 (by omega)
    have hgl := hby.len
    obtain ⟨hb1, hb2⟩ := hps i
    refine ⟨b, o, hae, in_ok hA hi0 (by omega), ?_⟩
    ((try (conv => cbv)); repeat (refine brk_ok hA ?_; (try (conv => cbv))))
    refine ⟨ra, rn, rc, rd_ok hA hrd, ?_⟩
    ((try (conv => cbv)); repeat (refine brk_ok hA ?_; (try (conv => cbv))))
    obtain ⟨b3, o3, y, hae3, hbn3, rel3, _, _, _, _, _, _, r53⟩ := (hl.ext e09).at hi0 c1
    have hdg := rel3.dig
    obtain ⟨ynm, yhow, yfa, yfn, yfc, yarg, yda, ydn, ydc, xdg⟩ := y
    simp only [] at hdg r53
    refine ⟨b3, o3, hae3, in_ok hA hi0 c1, ?_⟩
    ((try (conv => cbv)); repeat (refine brk_ok hA ?_; (try (conv => cbv))))
    refine ⟨xdg, rd_fld hA r53, ?_⟩
    ((try (conv => cbv)); repeat (refine brk_ok hA ?_; (try (conv => cbv))))
    have fX := ext_fresh hA h9
    refine rdig_ok hA (low_fresh hA h9) (hby.ext fX) hb1 (by omega) (fun d hd => ⟨_, rfl, ?_⟩)
    ((try (conv => cbv)); repeat (refine brk_ok hA ?_; (try (conv => cbv))))
    obtain ⟨hX, hhX⟩ : ∃ v, v = lowered h9 (fresh h9) := ⟨_, rfl⟩
    have eX : Ext h0 hX := by rw [hhX]; exact ext_low hA hlow0 e09 (.refl _)
    have oX : SOut hX h0.next a n c (outN l (offP l ps) i.toNat) := by
      have := (ho.ext e9).ext fX
      rw [hhX, e_lowered hA]
      exact ⟨this.apd.of_get (Nat.le_refl _) (fun _ _ _ => rfl), this.frm, this.lt⟩
    rw [← hhX]
    obtain ⟨b2, o2, x, hae2, hbn2, rel, _, r0, _, _, _, _, r5⟩ := (hl.ext eX).at hi0 c1
    have hnm := rel.name
    obtain ⟨xnm, xhow, xfa, xfn, xfc, xarg, xda, xdn, xdc, xd2⟩ := x
    simp only [] at hnm r0 r5
    have ha : arith .add .i64 i 1 = i + 1 := add64 hA (by omega) (by omega)
    have n9 : h9.next = h.next + 11 := by rw [hh9, e_bump hA]; rfl
    have hfp : ∀ z, z = next h → fpAll false (wrote h9 (fresh h9)) false b3 (addN z 11) := by
      intro z hz
      rw [e_fpAll hA, e_wrote hA, e_fresh hA, e_addN hA, hz, e_next hA]
      refine ⟨rfl, ?_, .inr (by omega)⟩
      rw [Bool.eq_false_iff]
      intro q
      have : h9.next + 1 ≤ h9.next := Nat.le_of_ble_eq_true q
      omega
    refine ⟨hfp _ (by first | rfl | exact hnh), ?_⟩
    ((try (conv => cbv)); repeat (refine brk_ok hA ?_; (try (conv => cbv))))
    refine br (d ≠ xdg) (by rw [e_neq hA]) (fun c2 => ?_) (fun c2 => ?_) <;> (try (conv => cbv)) <;> repeat (refine brk_ok hA ?_; (try (conv => cbv)))
    · refine ⟨b2, o2, hae2, in_ok hA hi0 c1, ?_⟩
      ((try (conv => cbv)); repeat (refine brk_ok hA ?_; (try (conv => cbv))))
      refine ⟨xnm, rd_fld hA r0, ?_⟩
      ((try (conv => cbv)); repeat (refine brk_ok hA ?_; (try (conv => cbv))))
      rw [e_next hA, e_push hA]
      obtain ⟨a', c', h', q1, q2, q3⟩ := oX.one xnm (by omega) eX rfl
      refine app_ok hA q1 ?_
      ((try (conv => cbv)); repeat (refine brk_ok hA ?_; (try (conv => cbv))))
      rw [ha]
      refine ih c1 h' a' (n + 1) c' q3 ?_
      rw [outN_yes hi0 (show offP l ps i by unfold offP; rw [← hdg, ← hd]; exact fun q => c2 q.symm), ← hnm]
      exact q2
    · rw [ha]
      refine ih c1 hX a n c eX ?_
      rw [outN_no hi0 (show ¬ offP l ps i by unfold offP; rw [← hdg, ← hd]; exact fun q => q (by omega))]
      exact oX
  · have : i.toNat = l.length := by omega
    rw [this] at ho
    exact h1 a n c h _ _ e ho

theorem rverify_ok {h : AHeap} (hlow : h.low ≤ h.next) {al : Option Addr} {nl cl : Nat} {l : List Rec} (hl : Recs h al nl l) (hcap : nl ≤ capLow cl) (hok : l.length ≤ 40 → okL l) {Q : Value → AHeap → Prop}
    (hQ : ∀ a n c e r h', Ext h h' → Strs h' a n c r → VerIs l e r → (n : Int) ≤ 40 → Q (.tuple #[.slice a n c, .int .i64 e]) h') : call 18 [.slice al nl cl] h Q := by
  have hll := hl.len
  refine hA.bodyR Try.func18 r18_ok (show prims _ _ _ = none from rfl) hlow ?_; (try (conv => cbv)); repeat (refine brk_ok hA ?_; (try (conv => cbv)))
  refine rall_ok hA hlow hl hcap hok (fun a n c ps h1 e1 ho ha => ⟨_, _, _, _, rfl, ?_⟩) (fun e h1 e1 ha => ⟨_, _, _, _, rfl, ?_⟩)
  rotate_left
  · ((try (conv => cbv)); repeat (refine brk_ok hA ?_; (try (conv => cbv))))
    have he : e ≠ 0 := fun q => by have := ha.zero.1 q; exact this rfl
    refine br (e ≠ 0) (by rw [e_neq hA]) (fun _ => ?_) (fun q => absurd he q) <;> (try (conv => cbv)) <;> repeat (refine brk_ok hA ?_; (try (conv => cbv)))
    exact hQ _ _ _ _ _ h1 e1 (Strs.nil h1) (.inl ⟨ha, rfl⟩) (by omega)
  ((try (conv => cbv)); repeat (refine brk_ok hA ?_; (try (conv => cbv))))
  refine br (False) (by rw [e_neq hA]; rfl) (fun q => q.elim) (fun _ => ?_) <;> (try (conv => cbv)) <;> repeat (refine brk_ok hA ?_; (try (conv => cbv)))
  obtain ⟨pv, hform, h40⟩ := ha.prov
  have hpl := ho.len
  have hps := ha.lens
  refine rver_loop hA (e1.lowOK hlow) (hl.ext e1) (by omega) ho.lists (by omega) (ha.oks (hok h40)) (fun a n c h' kn K e' ho' => ?_) 0 (by omega) (by omega) h1 none 0 0 (.refl _) (SOut.nil _ _)
  ((try (conv => cbv)); repeat (refine brk_ok hA ?_; (try (conv => cbv))))
  have hol := outN_len l (offP l ps) l.length
  have hon := ho'.len
  exact hQ _ _ _ _ _ h' (e1.trans e') ho'.strs (.inr ⟨ps, ha, rfl, rfl⟩) (by omega)

end Go.Proofs.Ytopppccddnplkaa
