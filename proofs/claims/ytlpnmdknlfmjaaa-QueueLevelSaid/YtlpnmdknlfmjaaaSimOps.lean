/-
  EVERY OPERATION BUT CALLS OF GO FUNCTIONS: what the abstract machine does, the model does.
-/
import Derived.Test.YtlpnmdknlfmjaaaSimPure
namespace Go.Sim
set_option linter.unusedSimpArgs false

variable {P : Program} {w : World} {J : Inj} {s : St}

/-! ### Addresses -/

theorem fieldAddrA_sim {t : TypeId} {x cx v : Value} {f : Nat} (h : fieldAddrA P t x f = some v) (hx : VR J x cx) : ∃ c, (Instr.fieldAt t cx f).run P w = .ok c w ∧ VR J v c := by
  unfold fieldAddrA at h
  split at h
  · rename_i fs a hu
    split at h
    · rename_i fd hf
      split at h
      · rename_i n hn
        cases hb : Nat.beq n 0 with
        | true => rw [hb] at h; simp at h
        | false =>
          rw [hb] at h
          simp only [cond_false, Option.some.injEq] at h
          subst h
          obtain ⟨L, hL, rfl⟩ := hx.ptrL
          have hn0 := Nat.ne_of_beq_eq_false hb
          have hf' : fs[f]? = some fd := by simpa using hf
          refine ⟨_, ?_, VR.mkPtr hL fd.offset⟩
          simp [Instr.fieldAt, run_und hu, hf', Instr.sureAddr, fieldPlace, run_sizeT hn, hn0, add_none]
      · cases h
    · cases h
  · cases h

theorem indexAddrA_sim {t : TypeId} {x cx ix ci v : Value} (h : indexAddrA P t x ix = some v) (hx : VR J x cx) (hi : VR J ix ci) : ∃ c, (Instr.indexAt t cx ci).run P w = .ok c w ∧ VR J v c := by
  unfold indexAddrA at h
  split at h
  · rename_i len e a k i hu
    split at h
    · rename_i n hn
      split at h
      · rename_i hlt
        simp only [Option.some.injEq] at h; subst h
        obtain ⟨L, hL, rfl⟩ := hx.ptrL
        obtain rfl := (hi.of_ne (fun a => by simp)).int
        refine ⟨_, ?_, VR.mkPtr hL _⟩
        simp [Instr.indexAt, asIntOf, run_und hu, Instr.sureAddr, hlt.1, hlt.2, run_sizeT hn, add_none]
      · cases h
    · cases h
  · rename_i e a len c k i hu
    split at h
    · rename_i n hn
      split at h
      · rename_i hlt
        simp only [Option.some.injEq] at h; subst h
        obtain ⟨hs, L, c', hL, rfl, _⟩ := (hx.of_ne (fun a => by simp)).sliceL
        obtain rfl := (hi.of_ne (fun a => by simp)).int
        refine ⟨_, ?_, VR.mkPtr (a := a) (L := L) (by simp [Inj.at, hs, hL]) _⟩
        simp [Instr.indexAt, asIntOf, run_und hu, hlt.1, hlt.2, run_sizeT hn, add_none]
      · cases h
    · cases h
  · cases h

theorem bound_sim {v cv : Value} {y y' n : Nat} {code : BoundsCode} (h : bound v y = some n) (hv : VR J v cv) (hy : y ≤ y') : (Instr.sliceBound cv y' code).run P w = .ok n w ∧ n ≤ y := by
  unfold bound at h
  split at h
  · rename_i k i
    split at h
    · rename_i hi
      simp only [Option.some.injEq] at h; subst h
      obtain rfl := (hv.of_ne (fun a => by simp)).int
      refine ⟨?_, by omega⟩
      have h2 : i ≤ (y' : Int) := by omega
      simp [Instr.sliceBound, asIntOf, hi.1, h2]
    · cases h
  · cases h

def OptVR (J : Inj) : Option Value → Option Value → Prop
  | none, none => True
  | some v, some c => VR J v c
  | _, _ => False

theorem bounds_sim {isS : Bool} {len c c' : Nat} {lo hi mx clo chi cmx : Option Value} {m h l : Nat} (hc : c ≤ c')
    (hm : boundMx mx c = some m)
    (hh : boundHi hi mx len m = some h)
    (hl : boundLo lo h = some l)
    (h1 : OptVR J lo clo) (h2 : OptVR J hi chi) (h3 : OptVR J mx cmx) :
    (Instr.sliceBounds isS len c' clo chi cmx).run P w = .ok (l, h, if mx.isSome then m else c') w ∧ (lo = none → l = 0) ∧ l ≤ h ∧ (mx.isSome = true → m ≤ c) := by
  cases mx with
  | none =>
    cases cmx with
    | some _ => exact h3.elim
    | none =>
      simp only [boundMx, Option.some.injEq] at hm; subst hm
      cases hi with
      | none =>
        cases chi with
        | some _ => exact h2.elim
        | none =>
          simp only [boundHi, Option.some.injEq] at hh; subst hh
          cases lo with
          | none =>
            cases clo with
            | some _ => exact h1.elim
            | none => simp only [boundLo, Option.some.injEq] at hl; subst hl; exact ⟨by simp [Instr.sliceBounds], fun _ => rfl, Nat.zero_le _, by simp⟩
          | some v =>
            cases clo with
            | none => exact h1.elim
            | some cv =>
              obtain ⟨e1, e2⟩ := bound_sim (P := P) (w := w) (code := .sliceB) hl h1 (Nat.le_refl _)
              exact ⟨by simp [Instr.sliceBounds, e1], by simp, e2, by simp⟩
      | some hv =>
        cases chi with
        | none => exact h2.elim
        | some chv =>
          have e0 := fun code => bound_sim (P := P) (w := w) (code := code) hh h2 hc
          cases lo with
          | none =>
            cases clo with
            | some _ => exact h1.elim
            | none =>
              simp only [boundLo, Option.some.injEq] at hl; subst hl
              refine ⟨?_, fun _ => rfl, Nat.zero_le _, by simp⟩
              cases isS <;> simp [Instr.sliceBounds, (e0 _).1]
          | some v =>
            cases clo with
            | none => exact h1.elim
            | some cv =>
              obtain ⟨e1, e2⟩ := bound_sim (P := P) (w := w) (code := .sliceB) hl h1 (Nat.le_refl _)
              refine ⟨?_, by simp, e2, by simp⟩
              cases isS <;> simp [Instr.sliceBounds, (e0 _).1, e1]
  | some mv =>
    cases cmx with
    | none => exact h3.elim
    | some cmv =>
      have em := fun code => bound_sim (P := P) (w := w) (code := code) hm h3 hc
      cases hi with
      | none => simp [boundHi] at hh
      | some hv =>
        cases chi with
        | none => exact h2.elim
        | some chv =>
          have e0 := fun code => bound_sim (P := P) (w := w) (code := code) hh h2 (Nat.le_refl _)
          cases lo with
          | none =>
            cases clo with
            | some _ => exact h1.elim
            | none =>
              simp only [boundLo, Option.some.injEq] at hl; subst hl
              refine ⟨?_, fun _ => rfl, Nat.zero_le _, fun _ => (em .index).2⟩
              cases isS <;> simp [Instr.sliceBounds, (em _).1, (e0 _).1]
          | some v =>
            cases clo with
            | none => exact h1.elim
            | some cv =>
              obtain ⟨e1, e2⟩ := bound_sim (P := P) (w := w) (code := .slice3C) hl h1 (Nat.le_refl _)
              refine ⟨?_, by simp, e2, fun _ => (em .index).2⟩
              cases isS <;> simp [Instr.sliceBounds, (em _).1, (e0 _).1, e1]

/-- What 'sliceS' makes of a slice, and the model. -/
theorem sliceS_sim {isS : Bool} {a : Option Addr} {a' : Option Addr} {len c c' size : Nat} {lo hi mx clo chi cmx : Option Value} {v : Value} (h : sliceS a len c size lo hi mx = some v)
    (hv : VG J.g (.slice a len c) (.slice a' len c')) (h1 : OptVR J lo clo) (h2 : OptVR J hi chi) (h3 : OptVR J mx cmx) :
    ∃ l h m, (Instr.sliceBounds isS len c' clo chi cmx).run P w = .ok (l, h, m) w ∧ VG J.g v (.slice (if m = l then a' else a'.map (·.add (l * size))) (h - l) (m - l)) := by
  obtain ⟨_, _, e, hcap⟩ := hv.sliceAny
  simp only [Value.slice.injEq, true_and] at e
  obtain ⟨rfl, rfl⟩ := e
  unfold sliceS at h
  split at h
  · cases h
  · rename_i m hm
    split at h
    · cases h
    · rename_i hh' hh
      split at h
      · cases h
      · rename_i l hl
        obtain ⟨e1, e2, e3, e4⟩ := bounds_sim (P := P) (w := w) (isS := isS) hcap hm hh hl h1 h2 h3
        cases hb : Nat.ble hh' m with
        | false => rw [hb] at h; simp at h
        | true =>
          rw [hb] at h
          simp only [cond_true] at h
          have hhm : hh' ≤ m := Nat.le_of_ble_eq_true hb
          refine ⟨l, hh', if mx.isSome then m else c', e1, ?_⟩
          cases hx : (Nat.blt c slack || mx.isSome) with
          | true =>
            rw [hx] at h
            simp only [cond_true, Option.some.injEq] at h
            subst h
            -- the new capacity is known
            have hmm : (if mx.isSome then m else c') = m := by
              cases mx with
              | some _ => rfl
              | none =>
                simp only [Option.isSome_none, Bool.or_false] at hx
                have hc : c < slack := Nat.le_of_ble_eq_true hx
                simp only [boundMx, Option.some.injEq] at hm
                rw [capLow_lt hc] at hm
                cases a with
                | none => obtain ⟨rfl, rfl, e⟩ := hv.nilSlice; simp at e; simp [e, ← hm]
                | some a =>
                  obtain ⟨_, L, c2, _, e, q⟩ := hv.sliceL
                  simp only [Value.slice.injEq, true_and] at e
                  obtain ⟨_, rfl⟩ := e
                  rcases q with ⟨_, rfl⟩ | ⟨m', rfl, _⟩
                  · simp [hm]
                  · have := someCap_ge L.es m'; omega
            rw [hmm]
            have hmslack : m < slack := by
              have hml : m ≤ capLow c := by
                cases mx with
                | some _ => exact e4 rfl
                | none => simp only [boundMx, Option.some.injEq] at hm; omega
              have := Nat.mod_lt c slack_pos
              unfold capLow at hml
              omega
            cases a with
            | none =>
              obtain ⟨rfl, rfl, e⟩ := hv.nilSlice
              simp only [Value.slice.injEq] at e
              obtain ⟨rfl, _, rfl⟩ := e
              have hm0 : m = 0 := by
                have hml : m ≤ capLow 0 := by
                  cases mx with
                  | some _ => exact e4 rfl
                  | none => simp only [boundMx, Option.some.injEq] at hm; omega
                rw [capLow_lt slack_pos] at hml
                omega
              subst hm0
              have : hh' = 0 := by omega
              subst this
              have : l = 0 := by omega
              subst this
              exact .flat _ rfl
            | some a =>
              obtain ⟨hs, L, c2, hL, e, q⟩ := hv.sliceL
              simp only [Value.slice.injEq, true_and] at e
              obtain ⟨rfl, rfl⟩ := e
              cases hml : Nat.beq m l with
              | true =>
                have := Nat.eq_of_beq_eq_true hml
                simp only [cond_true, this, if_true]
                exact .sliceX a L _ _ hs hL (by omega)
              | false =>
                have := Nat.ne_of_beq_eq_false hml
                simp only [cond_false, this, if_false, Option.map_some, add_none]
                have q := VG.sliceX (g := J.g) (aadd a (l * size)) L (hh' - l) (m - l) (by simpa [aadd] using hs) (by simpa [aadd] using hL) (by omega)
                simpa [aadd, Nat.add_assoc] using q
          | false =>
            rw [hx] at h
            simp only [cond_false] at h
            simp only [Bool.or_eq_false_iff] at hx
            obtain ⟨hx1, hx2⟩ := hx
            have hcs : slack ≤ c := by
              rcases Nat.lt_or_ge c slack with q | q
              · rw [blt_true q] at hx1; cases hx1
              · exact q
            cases mx with
            | some _ => simp at hx2
            | none =>
              simp only [boundMx, Option.some.injEq] at hm
              simp only [Option.isSome_none, Bool.false_eq_true, if_false]
              cases a with
              | none => obtain ⟨rfl, rfl, _⟩ := hv.nilSlice; have := slack_pos; omega
              | some a =>
                obtain ⟨hs, L, c2, hL, e, q⟩ := hv.sliceL
                simp only [Value.slice.injEq, true_and] at e
                obtain ⟨rfl, rfl⟩ := e
                rcases q with ⟨q, _⟩ | ⟨m', rfl, q1, q2, q3⟩
                · omega
                · rw [capLow_some q1] at hm
                  subst hm
                  cases hl0 : Nat.beq l 0 with
                  | true =>
                    rw [hl0] at h
                    simp only [cond_true, Option.some.injEq] at h
                    subst h
                    have := Nat.eq_of_beq_eq_true hl0
                    subst this
                    have e0 : (if c' = 0 then (some ⟨L.b, L.o + a.off, none⟩ : Option Addr) else (some ⟨L.b, L.o + a.off, none⟩ : Option Addr).map (·.add (0 * size))) = some ⟨L.b, L.o + a.off, none⟩ := by
                      split
                      · rfl
                      · simp [Addr.add]
                    rw [e0, Nat.sub_zero, Nat.sub_zero]
                    exact .sliceI a L _ _ _ hs hL q2 q1 q3
                  | false =>
                    rw [hl0] at h
                    simp only [cond_false] at h
                    cases hl2 : (Nat.blt l m' && Nat.beq (someCap L.es m' / slack) (size + 1)) with
                    | false => rw [hl2] at h; simp at h
                    | true =>
                      rw [hl2] at h
                      simp only [cond_true, Option.some.injEq] at h
                      subst h
                      simp only [Bool.and_eq_true] at hl2
                      have g1 : l < m' := Nat.le_of_ble_eq_true hl2.1
                      have g2 := Nat.eq_of_beq_eq_true hl2.2
                      rw [someCap_div q1] at g2
                      have g3 : L.es = size := by omega
                      have hne : ¬ c' = l := by omega
                      simp only [hne, if_false, Option.map_some, add_none]
                      have q := VG.sliceI (g := J.g) (aadd a (l * size)) L (hh' - l) (m' - l) (c' - l) (by simpa [aadd] using hs) (by simpa [aadd] using hL) (by omega) (by omega) (by
                        simp only [aadd]
                        have e9 : l * size + (c' - l) * L.es = c' * L.es := by rw [g3, ← Nat.add_mul]; congr 1; omega
                        omega)
                      rw [g3] at q
                      simpa [aadd, Nat.add_assoc] using q

theorem sliceA_sim {t : TypeId} {x cx v : Value} {lo hi mx clo chi cmx : Option Value} (h : sliceA P t x lo hi mx = some v) (hx : VR J x cx) (h1 : OptVR J lo clo) (h2 : OptVR J hi chi) (h3 : OptVR J mx cmx) :
    ∃ c, (Instr.sliceAt t cx clo chi cmx).run P w = .ok c w ∧ VG J.g v c := by
  unfold sliceA at h
  split at h
  · rename_i str hu
    split at h
    · cases h
    · split at h
      · cases h
      · rename_i hh' hh
        split at h
        · cases h
        · rename_i l hl
          simp only [Option.some.injEq] at h; subst h
          obtain rfl := (hx.of_ne (fun a => by simp)).string
          cases cmx with
          | some _ => exact h3.elim
          | none =>
            obtain ⟨e1, _, _, _⟩ := bounds_sim (P := P) (w := w) (isS := false) (len := str.size) (c := str.size) (m := str.size) (mx := none) (cmx := none) (Nat.le_refl _) rfl hh hl h1 h2 trivial
            exact ⟨_, by simp [Instr.sliceAt, Instr.slice, run_und hu, e1], .flat _ rfl⟩
  · rename_i e a len c hu
    split at h
    · rename_i n hn
      obtain ⟨a', c', rfl, _⟩ := (hx.of_ne (fun a => by simp)).sliceAny
      obtain ⟨l, hh, m, e1, e2⟩ := sliceS_sim (P := P) (w := w) (isS := true) h (hx.of_ne (fun a => by simp)) h1 h2 h3
      exact ⟨_, by simp [Instr.sliceAt, Instr.slice, run_und hu, e1, run_sizeT hn], e2⟩
    · cases h
  · rename_i n e a hu
    split at h
    · rename_i z hsp hz
      obtain ⟨L, hL, rfl⟩ := hx.ptrL
      simp only [Inj.at, hsp] at hL
      cases hns : Nat.blt n slack with
      | false => rw [hns] at h; simp at h
      | true =>
        rw [hns] at h
        simp only [cond_true] at h
        have hv := VG.sliceX (g := J.g) a L n n hsp hL (Nat.le_of_ble_eq_true hns)
        obtain ⟨l, hh, m, e1, e2⟩ := sliceS_sim (P := P) (w := w) (isS := false) h hv h1 h2 h3
        refine ⟨_, ?_, e2⟩
        simp only [Instr.sliceAt, Sem.run_bind, run_und hu, Instr.sureAddr, Sem.run_pure, Result.andThen_ok, e1, run_sizeT hz]
        congr 2
        split <;> rfl
    · cases h
  · cases h

end Go.Sim
