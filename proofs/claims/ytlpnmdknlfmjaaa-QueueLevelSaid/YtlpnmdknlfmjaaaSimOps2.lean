/-
  BUILDING, MAKING, APPENDING, COPYING.
-/
import Derived.Test.YtlpnmdknlfmjaaaSimOps
namespace Go.Sim
set_option linter.unusedSimpArgs false

variable {P : Program} {w : World} {J : Inj} {s : St}

/-! ### Literals -/

theorem fold_put (off : Nat) : ∀ (vs : List Value) (k : Nat) (cells : Array Value), off + k + vs.length ≤ cells.size →
    (vs.zipIdx k).foldl (fun (cs : Array Value) (p : Value × Nat) => cs.setIfInBounds (off + p.2) p.1) cells = rowPut cells (off + k) vs
  | [], k, cells, _ => by
    apply Array.ext'
    simp [rowPut]
  | v :: rest, k, cells, h => by
    simp only [List.length_cons] at h
    simp only [List.zipIdx_cons, List.foldl_cons]
    rw [fold_put off rest (k + 1) _ (by simp; omega)]
    apply Array.ext_getElem?
    intro i
    rw [rowPut_get (by simp; omega), rowPut_get (by simp; omega)]
    simp only [Array.getElem?_setIfInBounds, List.length_cons]
    by_cases h1 : i = off + k
    · subst h1
      rw [if_neg (by omega), if_pos rfl, if_pos (by omega), if_pos ⟨by omega, by omega⟩]
      simp
    · by_cases h2 : off + (k + 1) ≤ i ∧ i < off + (k + 1) + rest.length
      · rw [if_pos h2, if_pos ⟨by omega, by omega⟩]
        obtain ⟨d, hd⟩ : ∃ d, i - (off + k) = d + 1 := ⟨i - (off + k) - 1, by omega⟩
        rw [hd, show i - (off + (k + 1)) = d by omega]
        simp
      · rw [if_neg h2, if_neg (by omega), if_neg (by omega)]

/-- Parts, evaluated here and there. -/
def PartsVR (J : Inj) (l l' : List (Nat × Value)) : Prop := l.length = l'.length ∧ ∀ (i : Nat) (p q : Nat × Value), l[i]? = some p → l'[i]? = some q → p.1 = q.1 ∧ VR J p.2 q.2

theorem putParts_sim {place : Nat → Option (Nat × Nat)} {place' : Nat → Option (Nat × Nat)} (hpl : ∀ i x, place i = some x → place' i = some x) : ∀ (l l' : List (Nat × Value)) (cells : List Value) (ccells : Array Value) (cs : List Value),
    putParts place cells l = some cs → PartsVR J l l' → VGs J.g cells ccells.toList → ∃ cs', Instr.fill place' ccells l' = some cs' ∧ VGs J.g cs cs'.toList
  | [], l', cells, ccells, cs, h, hp, hc => by
    have : l' = [] := by have := hp.1; cases l' <;> simp_all
    subst this
    simp only [putParts, Option.some.injEq] at h
    subst h
    exact ⟨ccells, rfl, hc⟩
  | (i, v) :: l, l', cells, ccells, cs, h, hp, hc => by
    cases l' with
    | nil => have := hp.1; simp at this
    | cons q l' =>
      obtain ⟨i', c⟩ := q
      obtain ⟨e1, e2⟩ := hp.2 0 _ _ rfl rfl
      simp only at e1 e2
      subst e1
      simp only [putParts] at h
      split at h
      · rename_i off size hpi
        cases hb : (Nat.beq v.cells.toList.length size && v.cells.toList.all cellOK) with
        | false => rw [hb] at h; simp at h
        | true =>
          rw [hb] at h
          simp only [cond_true] at h
          simp only [Bool.and_eq_true] at hb
          split at h
          · rename_i cells' hsl
            have hvc := e2.cells hb.2
            have hsz := Nat.eq_of_beq_eq_true hb.1
            obtain ⟨hs1, hs2⟩ := splice_spec hsl
            have hlen : c.cells.size = size := by have := hvc.1; simp at this hsz; omega
            have hroom : off + c.cells.size ≤ ccells.size := by have := hc.1; have := hvc.1; simp at *; omega
            have hnew : VGs J.g cells' (rowPut ccells off c.cells.toList).toList := by
              rw [hs2]
              simp only [rowPut]
              have hl := hvc.1
              rw [hl]
              have := (hc.take off).append (hvc.append (hc.drop (off + c.cells.toList.length)))
              simpa [List.append_assoc] using this
            have hp' : PartsVR J l l' := ⟨by have := hp.1; simpa using this, fun k p q h1 h2 => hp.2 (k + 1) p q (by simpa using h1) (by simpa using h2)⟩
            obtain ⟨cs', f1, f2⟩ := putParts_sim hpl l l' cells' (rowPut ccells off c.cells.toList) cs h hp' hnew
            refine ⟨cs', ?_, f2⟩
            have hfold : c.cells.zipIdx.foldl (fun (cs : Array Value) (p : Value × Nat) => cs.setIfInBounds (off + p.2) p.1) ccells = rowPut ccells off c.cells.toList := by
              have := fold_put off c.cells.toList 0 ccells (by simpa using hroom)
              rw [Nat.add_zero] at this
              rw [← this, ← Array.foldl_toList]
              simp
            simp only [Instr.fill, hpl _ _ hpi]
            rw [if_neg (by simp [hlen]; omega)]
            show Instr.fill place' (c.cells.zipIdx.foldl (fun (cs : Array Value) (p : Value × Nat) => cs.setIfInBounds (off + p.2) p.1) ccells) l' = some cs'
            rw [hfold]
            exact f1
          · cases h
      · cases h

theorem places_some (P : Program) : ∀ (fs : List Field), fs.all (fun f => (P.info? f.type).isSome) = true → ∃ places, fs.mapM (fun f => (P.info? f.type).map fun i => (f.offset, i.size)) = some places ∧ ∀ i x, fieldPlaces P fs i = some x → places[i]? = some x
  | [], _ => ⟨[], rfl, fun i x h => by simp [fieldPlaces] at h⟩
  | f :: fs, h => by
    simp only [List.all_cons, Bool.and_eq_true] at h
    obtain ⟨pl, h1, h2⟩ := places_some P fs h.2
    obtain ⟨i, hi⟩ := Option.isSome_iff_exists.1 h.1
    refine ⟨(f.offset, i.size) :: pl, by simp [List.mapM_cons, hi, h1], fun k x hk => ?_⟩
    cases k with
    | zero => simp [fieldPlaces, sizeT, hi] at hk; simp [hk]
    | succ k => simp only [List.getElem?_cons_succ]; exact h2 k x (by simpa [fieldPlaces] using hk)

theorem buildA_sim {t : TypeId} {parts : List (Nat × Value)} {cparts : Array (Nat × Value)} {v : Value} (h : buildA P t parts = some v) (hp : PartsVR J parts cparts.toList) : ∃ c, (Instr.build t cparts).run P w = .ok c w ∧ VG J.g v c := by
  unfold buildA at h
  split at h
  · rename_i z hz
    obtain ⟨hfl, it, hit, hiz⟩ := zeroT_spec hz
    split at h
    · rename_i fs hu
      cases ha : fs.toList.all (fun f => (P.info? f.type).isSome) with
      | false => rw [ha] at h; simp at h
      | true =>
        rw [ha] at h
        simp only [cond_true] at h
        split at h
        · rename_i cs hcs
          simp only [Option.some.injEq] at h; subst h
          obtain ⟨pl, p1, p2⟩ := places_some P fs.toList ha
          obtain ⟨cs', f1, f2⟩ := putParts_sim (place' := (pl.toArray[·]?)) (fun i x hx => by simpa using p2 i x hx) parts cparts.toList _ _ _ hcs hp (flat_VGs hfl)
          refine ⟨.agg cs', run_build w t cparts cs' (by simp only [Program.built, hit, hu, hiz, p1]; exact f1), ?_⟩
          have := f2.agg
          simpa using this
        · cases h
    · rename_i n e hu
      split at h
      · rename_i k hk
        split at h
        · rename_i cs hcs
          simp only [Option.some.injEq] at h; subst h
          obtain ⟨ie, hie, hik⟩ := sizeT_spec hk
          obtain ⟨cs', f1, f2⟩ := putParts_sim (place' := fun i => some (i * ie.size, ie.size)) (fun i x hx => by rw [hik]; exact hx) parts cparts.toList _ _ _ hcs hp (flat_VGs hfl)
          refine ⟨.agg cs', run_build w t cparts cs' (by simp only [Program.built, hit, hu, hiz, hie]; exact f1), ?_⟩
          have := f2.agg
          simpa using this
        · cases h
      · cases h
    · cases h
  · cases h

theorem copies_length (z : List Value) : ∀ n, (copies z n).length = n * z.length
  | 0 => by simp [copies]
  | n + 1 => by simp [copies, copies_length z n, Nat.add_mul]; omega

theorem copies_get (z : List Value) : ∀ n i, i < n * z.length → (copies z n)[i]? = z[i % z.length]?
  | 0, i, h => by simp at h
  | n + 1, i, h => by
    have hz : 0 < z.length := by
      rcases Nat.eq_zero_or_pos z.length with q | q
      · rw [q] at h; simp at h
      · exact q
    simp only [copies]
    by_cases hi : i < z.length
    · rw [List.getElem?_append_left hi, Nat.mod_eq_of_lt hi]
    · rw [List.getElem?_append_right (by omega), copies_get z n (i - z.length) (by rw [Nat.add_mul] at h; omega)]
      congr 1
      exact (Nat.mod_eq_sub_mod (by omega)).symm

/-- What 'make' and literals fill their cells with. -/
theorem range_map_copies (z : Array Value) (n : Nat) : ((Array.range (n * z.size)).map (fun i => z[i % z.size]!)).toList = copies z.toList n := by
  apply List.ext_getElem?
  intro i
  by_cases h : i < n * z.size
  · have hz : 0 < z.size := by
      rcases Nat.eq_zero_or_pos z.size with q | q
      · rw [q] at h; simp at h
      · exact q
    have hm : i % z.size < z.size := Nat.mod_lt _ hz
    rw [copies_get _ _ _ (by simpa using h)]
    simp [h, hm]
  · have h1 : ((Array.range (n * z.size)).map (fun i => z[i % z.size]!)).toList.length = n * z.size := by simp
    have h2 := copies_length z.toList n
    simp only [Array.length_toList] at h2
    rw [List.getElem?_eq_none (by omega), List.getElem?_eq_none (by omega)]

theorem copies_VGs {g : Nat → Option Loc} {z : List Value} (h : VGs g z z) : ∀ n, VGs g (copies z n) (copies z n)
  | 0 => .nil _
  | n + 1 => h.append (copies_VGs h n)

theorem buildSliceA_sim {mk : Maker} (hM : NewOK J s w mk) {t : TypeId} {len : Nat} {parts : List (Nat × Value)} {cparts : Array (Nat × Value)} {v : Value} {s' : St} (h : buildSliceA P mk t len parts = some (v, s')) (hp : PartsVR J parts cparts.toList) :
    ∃ c w' J', (Instr.buildSlice t len cparts).run P w = .ok c w' ∧ Good J s w J' s' w' ∧ (∀ t L, J.l t = some L → J'.l t = some L) ∧ VG J'.g v c ∧ s'.env = s.env ∧ Adds (NewBy mk) J.g J'.g ∧ Adds (fun _ => False) J.l J'.l := by
  unfold buildSliceA at h
  split at h
  · rename_i e hu
    split at h
    · rename_i n z hn hz
      obtain ⟨hfl, it, hit, hiz⟩ := zeroT_spec hz
      cases hb : (Nat.ble (len * n) 16777216 && Nat.beq z.cells.toList.length n && Nat.ble len 16777216) with
      | false => rw [hb] at h; simp at h
      | true =>
        rw [hb] at h
        simp only [cond_true] at h
        simp only [Bool.and_eq_true] at hb
        have hb1 := Nat.le_of_ble_eq_true hb.1.1
        have hb2 := Nat.eq_of_beq_eq_true hb.1.2
        have hb3 := Nat.le_of_ble_eq_true hb.2
        split at h
        · rename_i cs hcs
          split at h
          · rename_i a s2 hnew
            simp only [Option.some.injEq, Prod.mk.injEq] at h
            obtain ⟨rfl, rfl⟩ := h
            let z0 : Array Value := if len * n = 0 then #[] else z.cells
            have hcells : ((Array.range (len * n)).map (fun i => z0[i % z0.size]!)).toList = copies z.cells.toList len := by
              by_cases h0 : len * n = 0
              · have hl : (copies z.cells.toList len) = [] := by
                  apply List.length_eq_zero_iff.1; rw [copies_length, hb2]; exact h0
                rw [hl, h0]; simp
              · have : z0 = z.cells := by simp [z0, h0]
                rw [this]
                have := range_map_copies z.cells len
                rw [show z.cells.size = n by simpa using hb2] at this ⊢
                exact this
            obtain ⟨cs', f1, f2⟩ := putParts_sim (place' := fun i => some (i * n, n)) (fun i x hx => hx) parts cparts.toList _ ((Array.range (len * n)).map (fun i => z0[i % z0.size]!)) _ hcs hp (by rw [hcells]; exact copies_VGs (flat_VGs hfl) len)
            obtain ⟨J', g1, g2, g3, g4, g6, ga, gb⟩ := hM _ _ _ cs' _ _ e hnew (by have := CR.of_VGs f2; simpa using this)
            obtain ⟨id, g7, g8⟩ := g6 rfl
            simp only [Value.pointer.injEq, Option.some.injEq] at g7
            subst g7
            refine ⟨.slice (some ⟨w.heap.size, 0, none⟩) len len, w.alloc (.cells cs' e), J', ?_, g1, g2, ?_, g4, ga.mono (fun _ q => q.2), gb.mono (fun _ q => by cases q.1)⟩
            · simp only [Instr.buildSlice, Sem.run_bind, run_und hu, Result.andThen_ok, run_sizeT hn]
              rw [Sem.run_ite, if_neg (by omega)]
              by_cases h0 : len * n = 0
              · have hz0 : z0 = #[] := by simp [z0, h0]
                rw [hz0] at f1
                rw [if_pos h0]
                simp only [Sem.run_bind, Sem.run_pure, Result.andThen_ok, f1, newRow, run_newObj]
                rfl
              · have hz0 : z0 = z.cells := by simp [z0, h0]
                rw [hz0] at f1
                rw [if_neg h0]
                simp only [Sem.run_bind, Sem.run_pure, Result.andThen_ok, run_zeroT hz, f1, newRow, run_newObj]
                rfl
            · have hlen : len < slack := by unfold slack; omega
              have q := VG.sliceX (g := J'.g) ⟨id, 0, none⟩ _ len len rfl g8 hlen
              simpa using q
          · cases h
        · cases h
    · cases h
  · cases h

end Go.Sim
