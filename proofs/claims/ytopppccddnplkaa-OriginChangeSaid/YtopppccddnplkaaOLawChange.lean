/-
  OriginChange: the walk.
-/
import Derived.Test.YtopppccddnplkaaONotedP
import Derived.Test.YtopppccddnplkaaOVerify
import Derived.Test.YtopppccddnplkaaSeatL5
namespace Go.Proofs.Ytopppccddnplkaa
open Go.Sim
open Classical
set_option linter.unusedVariables false
set_option maxRecDepth 100000

variable {call : FuncId → List Value → AHeap → (Value → AHeap → Prop) → Prop}
  {head : FuncId → Nat → Nat → SS → (Exit → SS → Prop) → Prop}
  {arith : BinOp → IntKind → Int → Int → Int}
  {cmp : BinOp → Int → Int → Bool}
  {scmp : BinOp → ByteArray → ByteArray → Bool}
  {bnot : Bool → Bool}
  {bsame : Bool → Bool → Bool}
  {conv : IntKind → Int → Int}
  {neg : IntKind → Int → Int}
  {imax : Int → Int → Int}
  {imin : Int → Int → Int}
  {ofNat : Nat → Int}
  {slen : ByteArray → Int}
  {place : Nat → Int → Nat → Nat}
  {inR : Int → Nat → Prop}
  {nz : Int → Prop}
  {geZ : Int → Prop}
  {rd : AHeap → Nat → Nat → Nat → List Value → Prop}
  {wr : AHeap → Nat → Nat → List Value → AHeap → Prop}
  {push : AHeap → Nat → List Value → AHeap}
  {next : AHeap → Nat}
  {mkOK : Int → Int → Prop}
  {nat : Int → Nat}
  {zeros : List Value → Int → List Value}
  {sadd : ByteArray → ByteArray → (ByteArray → Prop) → Prop}
  {eqAgg : TypeId → Array Value → Array Value → (Bool → Prop) → Prop}
  {cut : Nat → Int → Prop}
  {slc : TypeId → Value → Option Value → Option Value → Option Value → (Option Addr → Nat → Nat → Prop) → Prop}
  {sslc : TypeId → ByteArray → Option Value → Option Value → (ByteArray → Prop) → Prop}
  {strAt : ByteArray → Int → (Int → Prop) → Prop}
  {part : TypeId → Array Value → Nat → Value → Prop}
  {app : List TypeId → List Value → AHeap → (Option Addr → Nat → Nat → AHeap → Prop) → Prop}
  {cpy : List TypeId → List Value → AHeap → (Int → AHeap → Prop) → Prop}
  {putAt : AHeap → Nat → Nat → List Value → AHeap}
  {fresh : AHeap → AHeap}
  {lowered : AHeap → AHeap → AHeap}
  {bump : AHeap → Nat → AHeap}
  {wrote : AHeap → AHeap → Bool}
  {addN : Nat → Nat → Nat}
  {lt : Nat → Nat → Prop}
  {ne : Nat → Nat → Prop}
  {fpAll : Bool → Bool → Bool → Nat → Nat → Prop}
  {brk : (Unit → Prop) → Prop}
  {yn : Nat → Nat}
  {rng : FuncId → Nat → SS → (Exit → SS → Prop) → Prop}
  {mget : TypeId → Value → Value → AHeap → Value → Bool → Prop}
  {mput : TypeId → Value → Value → Value → AHeap → AHeap → Prop}
  {mnew : AHeap → AHeap}
  {bytes : TypeId → TypeId → Option Addr → Nat → AHeap → ByteArray → Prop}
  {clr : List TypeId → List Value → AHeap → AHeap → Prop}
  (hA : AOK progU hint prims ⟨call, head, arith, cmp, scmp, bnot, bsame, conv, neg, imax, imin, ofNat, slen, place, inR, nz, geZ, rd, wr, push, next, mkOK, nat, zeros, sadd, eqAgg, cut, slc, sslc, strAt, part, app, cpy, putAt, fresh, lowered, bump, wrote, addN, lt, ne, fpAll, brk, yn, rng, mget, mput, mnew, bytes, clr⟩)
include hA

theorem change_loop {h0 : AHeap} (hlow0 : h0.low ≤ h0.next) {al : Option Addr} {nl cl : Nat} {l : List Rec} (hl : Recs h0 al nl l) (hnl : (nl : Int) ≤ 40) {ma : Option Addr} {mc : Nat} {m : List Rec} (hm : Recs h0 ma nl m) (hok : okL l) (hokm : okL m) {ps qs : List Bytes} (hall : AllIs l 0 (some ps)) (hallm : AllIs m 0 (some qs)) (hml : m.length = l.length) (hnames : ∀ i : Int, 0 ≤ i → i < l.length → (rat m i).name = (rat l i).name) {at_ : Int} (at0 : 0 ≤ at_) (at1 : at_ < nl) {da : Option Addr} {dn dc : Nat} {data : Bytes} (hda : Byts h0 da dn dc data) (okd : okB data) (hown : bat qs at_ = data)
    (hlaw : ∀ i : Int, 0 ≤ i → i < l.length → ¬ (Due l noHad i at_ ∧ at_ ≠ i) → i ≠ at_ → bat ps i = bat qs i) {Q : Exit → SS → Prop}
    (h1 : ∀ h', Ext h0 h' → Q (.exit 0) ⟨[(7, .bool true)], 0, [], h'⟩) :
    ∀ i : Int, 0 ≤ i → i ≤ nl → ∀ h, Ext h0 h → head 5 9 0 ⟨[(0, .slice al nl cl), (1, .int .i64 at_), (2, .slice da dn dc), (7, .bool true), (8, .slice ma nl mc), (9, .int .i64 i)], 0, [], h⟩ Q := by
  have hll := hl.len
  have hoks := hall.oks hok
  have hokq := hallm.oks hokm
  have bf : bnot false = true := by rw [e_bnot hA]; rfl
  have bt : bnot true = false := by rw [e_bnot hA]; rfl
  refine countUp (fun i hi0 hin ih h e => ?_)
  refine hA.roundR Try.func5 r5_ok ?_; (try (conv => cbv)); repeat (refine brk_ok hA ?_; (try (conv => cbv)))
  refine br (i < nl) (by rw [e_lss hA, e_ofNat hA]) (fun c1 => ?_) (fun c1 => ?_) <;> (try (conv => cbv)) <;> repeat (refine brk_ok hA ?_; (try (conv => cbv)))
  · obtain ⟨b, o, x, hae, hbn, rel, _, r0, _⟩ := (hl.ext e).at hi0 c1
    have hN := rel.name
    obtain ⟨xnm, xhow, xfa, xfn, xfc, xarg, xda, xdn, xdc, xdg⟩ := x
    simp only [] at hN r0
    have w1 := hall.allP.prov.self i hi0 (by omega)
    have w2 := hallm.allP.prov.self i hi0 (by omega)
    rw [hnames i hi0 (by omega), ← hN] at w2
    rw [← hN] at w1
    refine ⟨b, o, hae, in_ok hA hi0 c1, ?_⟩
    ((try (conv => cbv)); repeat (refine brk_ok hA ?_; (try (conv => cbv))))
    refine ⟨xnm, rd_fld hA r0, ?_⟩
    ((try (conv => cbv)); repeat (refine brk_ok hA ?_; (try (conv => cbv))))
    refine make_ok hA (e.lowOK hlow0) (hl.ext e) (fun _ => hok) (fun a1 n1 k1 e1 r1 h2 x2 bm1 mk1 => ⟨_, _, _, _, rfl, ?_⟩)
    ((try (conv => cbv)); repeat (refine brk_ok hA ?_; (try (conv => cbv))))
    have e2 := e.trans x2
    refine ⟨b, o, hae, in_ok hA hi0 c1, ?_⟩
    ((try (conv => cbv)); repeat (refine brk_ok hA ?_; (try (conv => cbv))))
    refine ⟨xnm, rd_fld hA (x2.rd hbn r0), ?_⟩
    ((try (conv => cbv)); repeat (refine brk_ok hA ?_; (try (conv => cbv))))
    refine make_ok hA (e2.lowOK hlow0) (hm.ext e2) (fun _ => hokm) (fun a3 n3 k3 e3 r3 h4 x4 bm3 mk3 => ⟨_, _, _, _, rfl, ?_⟩)
    ((try (conv => cbv)); repeat (refine brk_ok hA ?_; (try (conv => cbv))))
    have e4 := e2.trans x4
    refine ⟨b, o, hae, in_ok hA hi0 c1, ?_⟩
    ((try (conv => cbv)); repeat (refine brk_ok hA ?_; (try (conv => cbv))))
    refine ⟨xnm, rd_fld hA ((x2.trans x4).rd hbn r0), ?_⟩
    ((try (conv => cbv)); repeat (refine brk_ok hA ?_; (try (conv => cbv))))
    refine needs_ok hA (e4.lowOK hlow0) (hl.ext e4) (fun _ => hok) (fun a5 n5 k5 e5 r5 h6 x6 s5 i5 b5 => ⟨_, _, _, _, rfl, ?_⟩)
    ((try (conv => cbv)); repeat (refine brk_ok hA ?_; (try (conv => cbv))))
    have e6 := e4.trans x6
    obtain ⟨rfl, rfl⟩ := make_at hall w1 hi0 mk1
    obtain ⟨rfl, rfl⟩ := make_at hallm w2 hi0 mk3
    obtain ⟨rfl, hr5⟩ := i5.uniq (.inr (.inr ⟨ps, hall, by omega, rfl, rfl⟩))
    rw [w1] at hr5
    have hb1 := hoks i
    have hb3 := hokq i
    refine br (False) (by rw [e_neq hA]; rfl) (fun q => q.elim) (fun _ => ?_) <;> (try (conv => cbv)) <;> repeat (refine brk_ok hA ?_; (try (conv => cbv)))
    refine br (False) (by rw [e_neq hA]; rfl) (fun q => q.elim) (fun _ => ?_) <;> (try (conv => cbv)) <;> repeat (refine brk_ok hA ?_; (try (conv => cbv)))
    refine br (False) (by rw [e_neq hA]; rfl) (fun q => q.elim) (fun _ => ?_) <;> (try (conv => cbv)) <;> repeat (refine brk_ok hA ?_; (try (conv => cbv)))
    refine br (i = at_) (by rw [e_eql hA]) (fun ci => ?_) (fun ci => ?_) <;> (try (conv => cbv)) <;> repeat (refine brk_ok hA ?_; (try (conv => cbv)))
    · obtain ⟨u, hu⟩ : ∃ z, z = str data := ⟨_, rfl⟩
      rw [ci, hown] at bm3
      refine ⟨u, by rw [hu]; exact bytes_is hA (bm3.byts.ext x6), ?_⟩
      ((try (conv => cbv)); repeat (refine brk_ok hA ?_; (try (conv => cbv))))
      refine ⟨u, by rw [hu]; exact bytes_is hA (hda.ext e6), ?_⟩
      ((try (conv => cbv)); repeat (refine brk_ok hA ?_; (try (conv => cbv))))
      refine br (False) (by rw [e_strn hA]; simp) (fun q => q.elim) (fun _ => ?_) <;> (try (conv => cbv)) <;> repeat (refine brk_ok hA ?_; (try (conv => cbv)))
      rw [add64 hA (by omega) (by omega)]
      exact ih c1 h6 e6
    · obtain ⟨b7, o7, x7, hae7, hbn7, rel7, _, r7, _⟩ := (hl.ext e6).at at0 at1
      have hN7 := rel7.name
      obtain ⟨znm, zhow, zfa, zfn, zfc, zarg, zda, zdn, zdc, zdg⟩ := x7
      simp only [] at hN7 r7
      refine ⟨b7, o7, hae7, in_ok hA at0 at1, ?_⟩
      ((try (conv => cbv)); repeat (refine brk_ok hA ?_; (try (conv => cbv))))
      refine ⟨znm, rd_fld hA r7, ?_⟩
      ((try (conv => cbv)); repeat (refine brk_ok hA ?_; (try (conv => cbv))))
      refine has_ok hA (e6.lowOK hlow0) s5 (by omega) (fun bb hbb => ⟨_, rfl, ?_⟩)
      cases bb with
      | true =>
        ((try (conv => cbv)); repeat (refine brk_ok hA ?_; (try (conv => cbv))))
        rw [bt]
        ((try (conv => cbv)); repeat (refine brk_ok hA ?_; (try (conv => cbv))))
        rw [add64 hA (by omega) (by omega)]
        exact ih c1 h6 e6
      | false =>
        have hnot : ¬ (Due l noHad i at_ ∧ at_ ≠ i) := by
          intro q
          have := hbb.2 (by rw [hr5, outN_mem]; exact ⟨at_, at0, by omega, q, hN7.symm⟩)
          cases this
        have heq := hlaw i hi0 (by omega) hnot ci
        rw [heq] at bm1
        generalize bat qs i = bs at *
        ((try (conv => cbv)); repeat (refine brk_ok hA ?_; (try (conv => cbv))))
        rw [bf]
        ((try (conv => cbv)); repeat (refine brk_ok hA ?_; (try (conv => cbv))))
        obtain ⟨u, hu⟩ : ∃ z, z = str bs := ⟨_, rfl⟩
        refine ⟨u, by rw [hu]; exact bytes_is hA ((bm1.byts.ext x4).ext x6), ?_⟩
        ((try (conv => cbv)); repeat (refine brk_ok hA ?_; (try (conv => cbv))))
        refine ⟨u, by rw [hu]; exact bytes_is hA (bm3.byts.ext x6), ?_⟩
        ((try (conv => cbv)); repeat (refine brk_ok hA ?_; (try (conv => cbv))))
        refine br (False) (by rw [e_strn hA]; simp) (fun q => q.elim) (fun _ => ?_) <;> (try (conv => cbv)) <;> repeat (refine brk_ok hA ?_; (try (conv => cbv)))
        rw [add64 hA (by omega) (by omega)]
        exact ih c1 h6 e6
  · exact h1 h e

theorem changeLaw_ok {h : AHeap} (hlow : h.low ≤ h.next) {al : Option Addr} {nl cl : Nat} {l : List Rec} (hl : Recs h al nl l) (hcap : nl ≤ capLow cl) (hnl : (nl : Int) ≤ 9223372036854775807) (hr : ∀ y ∈ l, okR y) {at_ : Int} (h64 : -9223372036854775808 ≤ at_ ∧ at_ < 9223372036854775808) {da : Option Addr} {dn dc : Nat} {data : Bytes} (hda : Byts h da dn dc data) (okd : okB data) {Q : Value → AHeap → Prop}
    (hQ : ∀ h', Ext h h' → Q (.bool true) h') : call 5 [.slice al nl cl, .int .i64 at_, .slice da dn dc] h Q := by
  have hll := hl.len
  have hdl := hda.len
  have bt : bnot true = false := by rw [e_bnot hA]; rfl
  refine hA.bodyR Try.func5 r5_ok (show prims _ _ _ = none from rfl) hlow ?_; (try (conv => cbv)); repeat (refine brk_ok hA ?_; (try (conv => cbv)))
  refine alive_ok hA ⟨_, rfl, ?_⟩
  ((try (conv => cbv)); repeat (refine brk_ok hA ?_; (try (conv => cbv))))
  refine great_ok hA hlow hl hnl (fun g hg => ⟨_, rfl, ?_⟩)
  cases g with
  | true =>
    ((try (conv => cbv)); repeat (refine brk_ok hA ?_; (try (conv => cbv))))
    exact hQ h (.refl h)
  | false =>
  have hsm := hg rfl
  have hok := hsm.ok' hr
  have h50 : nl ≤ 50 := by have := hsm.2; omega
  ((try (conv => cbv)); repeat (refine brk_ok hA ?_; (try (conv => cbv))))
  refine rcheck_ok hA hlow hl hcap (fun _ => hok) (fun e o h1 x1 hall => ⟨_, rfl, ?_⟩)
  ((try (conv => cbv)); repeat (refine brk_ok hA ?_; (try (conv => cbv))))
  refine br (e ≠ 0) (by rw [e_neq hA]) (fun c1 => ?_) (fun c1 => ?_) <;> (try (conv => cbv)) <;> repeat (refine brk_ok hA ?_; (try (conv => cbv)))
  · exact hQ h1 x1
  have he0 : e = 0 := by omega
  subst he0
  obtain ⟨ps, rfl⟩ : ∃ ps, o = some ps := by
    cases o with
    | none => exact absurd rfl (hall.zero.1 rfl)
    | some ps => exact ⟨ps, rfl⟩
  obtain ⟨pv, hform, h40⟩ := hall.prov
  have hP := hall.allP
  refine br (at_ < 0) (by rw [e_lss hA]) (fun c2 => ?_) (fun c2 => ?_) <;> (try (conv => cbv)) <;> repeat (refine brk_ok hA ?_; (try (conv => cbv)))
  · exact hQ h1 x1
  refine br ((nl : Int) ≤ at_) (by rw [e_geq hA, e_ofNat hA]) (fun c3 => ?_) (fun c3 => ?_) <;> (try (conv => cbv)) <;> repeat (refine brk_ok hA ?_; (try (conv => cbv)))
  · exact hQ h1 x1
  refine br (256 < (dn : Int)) (by rw [e_gtr hA, e_ofNat hA]) (fun c4 => ?_) (fun c4 => ?_) <;> (try (conv => cbv)) <;> repeat (refine brk_ok hA ?_; (try (conv => cbv)))
  · exact hQ h1 x1
  have at0 : 0 ≤ at_ := by omega
  have at1 : at_ < nl := by omega
  obtain ⟨b0, o0, x0, hae0, hbn0, rel0, _, t0, tH, _⟩ := (hl.ext x1).at at0 at1
  have hH := rel0.how
  have hN0 := rel0.name
  obtain ⟨ynm, yhow, yfa, yfn, yfc, yarg, yda, ydn, ydc, ydg⟩ := x0
  simp only [] at hH hN0 t0 tH
  refine ⟨b0, o0, hae0, in_ok hA at0 at1, ?_⟩
  ((try (conv => cbv)); repeat (refine brk_ok hA ?_; (try (conv => cbv))))
  refine ⟨yhow, rd_fld hA tH, ?_⟩
  ((try (conv => cbv)); repeat (refine brk_ok hA ?_; (try (conv => cbv))))
  refine br (yhow ≠ 1) (by rw [e_neq hA]) (fun c5 => ?_) (fun c5 => ?_) <;> (try (conv => cbv)) <;> repeat (refine brk_ok hA ?_; (try (conv => cbv)))
  · exact hQ h1 x1
  have c6 : yhow = 1 := by omega
  rw [bt]
  ((try (conv => cbv)); repeat (refine brk_ok hA ?_; (try (conv => cbv))))
  have hszn : ∀ r ∈ l, okB r.data ∧ r.frm.length ≤ 1000 := fun r hm => by have := hok r hm; exact ⟨this.1.1, by omega⟩
  refine twin_ok hA (x1.lowOK hlow) (hl.ext x1) (by omega) (fun r hm => ?_) (fun a2 n2 c2 h2 x2 hn2 hnn => ⟨_, _, _, rfl, ?_⟩)
  · have := hok r hm
    obtain ⟨j, j0, j1, rfl⟩ := rat_of_mem hm
    have := (hform j j0 j1).2.2.2
    unfold kindP at this
    omega
  subst hnn
  obtain ⟨b, rfl, own⟩ := hn2.own (by omega)
  have hb : h1.next ≤ b := by obtain ⟨_, q, _⟩ := own; exact q
  have x12 := x1.trans x2
  ((try (conv => cbv)); repeat (refine brk_ok hA ?_; (try (conv => cbv))))
  rw [e_next hA, e_push hA]
  have e3 : Ext h2 (h2.push 1 []) := .push _ _ _
  have o3 : Own (h2.push 1 []) h2.next 1 [] := Own.push _ _ _
  have n3 : (h2.push 1 []).next = h2.next + 1 := rfl
  generalize h2.push 1 [] = h3 at *
  obtain ⟨b3, hb3⟩ : ∃ v, v = h2.next := ⟨_, rfl⟩
  rw [← hb3] at o3 n3 ⊢
  ((try (conv => cbv)); repeat (refine brk_ok hA ?_; (try (conv => cbv))))
  obtain ⟨b4, c4, h4, q4, q5, q6⟩ := append_row2 T23 o3 (by omega) (hda.ext (x12.trans e3)) (bytes_ok _) (by omega)
  refine app_ok hA q4 ?_
  ((try (conv => cbv)); repeat (refine brk_ok hA ?_; (try (conv => cbv))))
  obtain ⟨e4, f4⟩ := q6 h2 e3 (by omega)
  have m4 := Mem1.own2 q5 f4 (by unfold slack; omega)
  have x24 := x2.trans e4
  obtain ⟨m, hm⟩ : ∃ z, z = l.set at_.toNat { rat l at_ with data := data } := ⟨_, rfl⟩
  have hmlen : m.length = l.length := by rw [hm]; simp
  have hmne : ∀ i : Int, 0 ≤ i → i < l.length → i ≠ at_ → rat m i = rat l i := by
    intro i i0 i1 hne
    unfold rat
    rw [hm, List.getD, List.getElem?_set_ne (by omega)]
    rfl
  have hmat : rat m at_ = { rat l at_ with data := data } := by
    rw [hm]
    unfold rat
    rw [List.getD, List.getElem?_set_self (by omega)]
    rfl
  have hx2n := x2.next
  obtain ⟨h5, w1, w2, w3⟩ := (own.ext e4).put (i := at_.toNat) (k := 4) (vs := [.slice (some ⟨b4, 0, none⟩) dn c4]) (by omega) (by simp) (r' := { rat l at_ with data := data }) (fun x hx => ⟨{ x with da := some ⟨b4, 0, none⟩, dn := dn, dc := c4 }, rfl, by
    have hg : l.getD at_.toNat noRec = rat l at_ := rfl
    rw [hg] at hx
    exact { hx with data := m4.lower (by omega) }⟩)
  rw [← hm] at w3
  have x15 : Ext h1 h5 := w2.ext x24 hb
  have x05 := x1.trans x15
  refine ⟨b, 0, rfl, in_ok hA at0 (by omega), ?_⟩
  ((try (conv => cbv)); repeat (refine brk_ok hA ?_; (try (conv => cbv))))
  refine ⟨h5, wr_fld hA (by rw [Nat.zero_add]; exact w1), ?_⟩
  ((try (conv => cbv)); repeat (refine brk_ok hA ?_; (try (conv => cbv))))
  have hokm : okL m := by
    intro r hmm
    obtain ⟨j, j0, j1, rfl⟩ := rat_of_mem hmm
    by_cases ej : j = at_
    · rw [ej, hmat]
      have hz := hok (rat l at_) (rat_mem at0 (by omega))
      exact ⟨⟨okd, hz.1.2⟩, hz.2⟩
    · rw [hmne j j0 (by omega) ej]
      exact hok _ (rat_mem j0 (by omega))
  have hR5 := (w3.recs hn2.cap).recs
  refine rcheck_ok hA (x05.lowOK hlow) hR5 hn2.cap (fun _ => hokm) (fun e o h6 x6 hall6 => ⟨_, rfl, ?_⟩)
  ((try (conv => cbv)); repeat (refine brk_ok hA ?_; (try (conv => cbv))))
  have x06 := x05.trans x6
  refine br (e ≠ 0) (by rw [e_neq hA]) (fun c7 => ?_) (fun c7 => ?_) <;> (try (conv => cbv)) <;> repeat (refine brk_ok hA ?_; (try (conv => cbv)))
  · exact hQ h6 x06
  have he0 : e = 0 := by omega
  subst he0
  obtain ⟨qs, rfl⟩ : ∃ qs, o = some qs := by
    cases o with
    | none => exact absurd rfl (hall6.zero.1 rfl)
    | some ps => exact ⟨ps, rfl⟩
  have hnames : ∀ i : Int, 0 ≤ i → i < l.length → (rat m i).name = (rat l i).name := by
    intro i i0 i1
    by_cases ei : i = at_
    · rw [ei, hmat]
    · rw [hmne i i0 i1 ei]
  have hown : bat qs at_ = data := by
    rw [hall6.allP.eq at_ at0 (by omega), hmat]
    unfold madeS
    rw [if_pos (by rw [← hH]; exact c6)]
  refine change_loop hA (x06.lowOK hlow) (hl.ext x06) (by omega) (hR5.ext x6) hok hokm hall hall6 hmlen hnames at0 at1 (hda.ext x06) okd hown (fun i i0 i1 hd hne => change_law hall.allP hall6.allP hmlen (n := at_) hmne hnames (i.toNat + 1) i i0 (by omega) i1 hd hne) (fun h7 x7 => ?_) 0 (by omega) (by omega) h6 (.refl _)
  ((try (conv => cbv)); repeat (refine brk_ok hA ?_; (try (conv => cbv))))
  exact hQ h7 (x06.trans x7)

end Go.Proofs.Ytopppccddnplkaa
