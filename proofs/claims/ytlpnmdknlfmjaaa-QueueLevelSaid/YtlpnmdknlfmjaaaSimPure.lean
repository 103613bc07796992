/-
  OPERATIONS THAT TOUCH NO MEMORY: on related values they yield related values.
-/
import Derived.Test.YtlpnmdknlfmjaaaSimMem
import Derived.Laws.StructEq
import Derived.Laws.Tables
import Derived.ChangeKeysEq
namespace Go.Sim
set_option linter.unusedSimpArgs false

variable {P : Program} {w : World} {g : Nat → Option Loc}

theorem partA_sim {t : TypeId} {cs cs' : Array Value} {off : Nat} {v : Value} (h : partA P t cs off = some v) (hc : VGs g cs.toList cs'.toList) :
    ∃ c, (part t cs' off).run P w = .ok c w ∧ VG g v c := by
  unfold partA at h
  split at h
  · rename_i ha
    split at h
    · rename_i n hn
      split at h
      · rename_i l hl
        simp only [Option.some.injEq] at h
        subst h
        refine ⟨.agg (cs'.extract off (off + n)), by simp [part, run_isAggB ha, run_sizeT hn], ?_⟩
        unfold readN at hl
        simp only [] at hl
        cases hb : Nat.beq ((cs.toList.drop off).take n).length n with
        | false => rw [hb] at hl; simp at hl
        | true =>
          rw [hb] at hl
          simp only [cond_true, Option.some.injEq] at hl
          subst hl
          have := ((hc.drop off).take n).agg
          have e : cs'.extract off (off + n) = ((cs'.toList.drop off).take n).toArray := by
            apply Array.ext'
            simp [Array.toList_extract, List.extract]
          rw [e]
          exact this
      · cases h
    · cases h
  · rename_i ha
    have hlt : off < cs'.toList.length := by rw [← hc.1]; exact (List.getElem?_eq_some_iff.1 h).1
    have hx : cs'[off]? = some (cs'.toList[off]) := by simp at hlt ⊢
    refine ⟨cs'.toList[off], by simp [part, run_isAggB ha, hx], hc.2 off v _ h (by simp at hlt ⊢)⟩
  · cases h

theorem fieldA_sim {J : Inj} {t : TypeId} {x cx v : Value} {f : Nat} (h : fieldA P t x f = some v) (hx : VR J x cx) : ∃ c, (Instr.field t cx f).run P w = .ok c w ∧ VG J.g v c := by
  unfold fieldA at h
  split at h
  · rename_i fs cs hu
    split at h
    · rename_i fd hf
      obtain ⟨y, rfl, hy⟩ := (hx.of_ne (fun a => by simp)).aggL
      obtain ⟨c, h1, h2⟩ := partA_sim (w := w) h hy
      have hf' : fs[f]? = some fd := by simpa using hf
      exact ⟨c, by simp [Instr.field, run_und hu, hf', asAgg, h1], h2⟩
    · cases h
  · cases h

theorem indexA_sim {J : Inj} {t : TypeId} {x cx ix ci v : Value} (h : indexA P t x ix = some v) (hx : VR J x cx) (hi : VR J ix ci) : ∃ c, (Instr.index t cx ci).run P w = .ok c w ∧ VG J.g v c := by
  unfold indexA at h
  split at h
  · rename_i len e cs k i hu
    split at h
    · rename_i n hn
      split at h
      · rename_i hlt
        obtain ⟨y, rfl, hy⟩ := (hx.of_ne (fun a => by simp)).aggL
        obtain rfl := (hi.of_ne (fun a => by simp)).int
        obtain ⟨c, h1, h2⟩ := partA_sim (w := w) h hy
        exact ⟨c, by simp [Instr.index, asIntOf, run_und hu, hlt.1, hlt.2, run_sizeT hn, h1], h2⟩
      · cases h
    · cases h
  · rename_i s k i hu
    split at h
    · rename_i hlt
      split at h
      · rename_i b hb
        simp only [Option.some.injEq] at h
        subst h
        obtain rfl := (hx.of_ne (fun a => by simp)).string
        obtain rfl := (hi.of_ne (fun a => by simp)).int
        exact ⟨_, by simp [Instr.index, asIntOf, run_und hu, hlt, hb], .flat _ rfl⟩
      · cases h
    · cases h
  · cases h

theorem lenA_sim {J : Inj} {t ty : TypeId} {x cx v : Value} (h : lenA P t x = some v) (hx : VR J x cx) : (Builtin.len_ #[t] ty #[cx]).run P w = .ok v w ∧ flat1 v = true := by
  unfold lenA at h
  split at h
  · rename_i hu
    simp only [Option.some.injEq] at h; subst h
    obtain rfl := (hx.of_ne (fun a => by simp)).string
    exact ⟨by simp [Builtin.len_, run_und hu, goInt], rfl⟩
  · rename_i hu
    simp only [Option.some.injEq] at h; subst h
    exact ⟨by simp [Builtin.len_, run_und hu, goInt], rfl⟩
  · rename_i e a n c hu
    simp only [Option.some.injEq] at h; subst h
    obtain ⟨a', c', rfl, _⟩ := (hx.of_ne (fun a => by simp)).sliceAny
    exact ⟨by simp [Builtin.len_, run_und hu, goInt], rfl⟩
  · rename_i e x hu
    split at h
    · rename_i n e' hu'
      simp only [Option.some.injEq] at h; subst h
      exact ⟨by simp [Builtin.len_, run_und hu, run_und hu', goInt], rfl⟩
    · cases h
  · cases h

theorem unA_sim {J : Inj} {op : UnOp} {x cx v : Value} (h : unA op x = some v) (hx : VR J x cx) : (Op.unary op cx).run P w = .ok v w ∧ flat1 v = true := by
  unfold unA at h
  split at h
  · simp only [Option.some.injEq] at h; subst h
    obtain rfl := (hx.of_ne (fun a => by simp)).int
    exact ⟨by simp [Op.unary, Op.intArith], rfl⟩
  · simp only [Option.some.injEq] at h; subst h
    obtain rfl := (hx.of_ne (fun a => by simp)).int
    exact ⟨by simp [Op.unary, Op.intBits], rfl⟩
  · simp only [Option.some.injEq] at h; subst h
    obtain rfl := (hx.of_ne (fun a => by simp)).bool
    exact ⟨by simp [Op.unary], rfl⟩
  · cases h

theorem convA_sim {J : Inj} {src dst : TypeId} {x cx v : Value} (h : convA P src dst x = some v) (hx : VR J x cx) : (convert src dst cx).run P w = .ok v w ∧ flat1 v = true := by
  unfold convA at h
  split at h
  · rename_i d k k' n h1 h2
    simp only [Option.some.injEq] at h; subst h
    obtain rfl := (hx.of_ne (fun a => by simp)).int
    exact ⟨by simp [convert, run_und h1, run_und h2, Conv.intToInt], rfl⟩
  · rename_i d s h1 h2
    simp only [Option.some.injEq] at h; subst h
    obtain rfl := (hx.of_ne (fun a => by simp)).string
    exact ⟨by simp [convert, run_und h1, run_und h2], rfl⟩
  · cases h

theorem max2A_sim {x y v : Value} (h : max2A x y = some v) : (Builtin.max2 x y).run P w = .ok v w ∧ flat1 v = true := by
  unfold max2A at h
  split at h
  · simp only [Option.some.injEq] at h; subst h; exact ⟨by simp [Builtin.max2], rfl⟩
  · cases h
theorem min2A_sim {x y v : Value} (h : min2A x y = some v) : (Builtin.min2 x y).run P w = .ok v w ∧ flat1 v = true := by
  unfold min2A at h
  split at h
  · simp only [Option.some.injEq] at h; subst h; exact ⟨by simp [Builtin.min2], rfl⟩
  · cases h

theorem max2A_flat {x y v : Value} (h : max2A x y = some v) : (∃ k n, x = .int k n) ∧ (∃ k n, y = .int k n) ∧ ∃ k n, v = .int k n := by
  unfold max2A at h; split at h
  · simp only [Option.some.injEq] at h; subst h; exact ⟨⟨_, _, rfl⟩, ⟨_, _, rfl⟩, ⟨_, _, rfl⟩⟩
  · cases h
theorem min2A_flat {x y v : Value} (h : min2A x y = some v) : (∃ k n, x = .int k n) ∧ (∃ k n, y = .int k n) ∧ ∃ k n, v = .int k n := by
  unfold min2A at h; split at h
  · simp only [Option.some.injEq] at h; subst h; exact ⟨⟨_, _, rfl⟩, ⟨_, _, rfl⟩, ⟨_, _, rfl⟩⟩
  · cases h

theorem foldA_sim {f : Value → Value → Option Value} {F : Value → Value → Sem Value} (hf : ∀ x y v, f x y = some v → (F x y).run P w = .ok v w) (hi : ∀ x y v, f x y = some v → (∃ k n, x = .int k n) ∧ (∃ k n, y = .int k n) ∧ ∃ k n, v = .int k n) {J : Inj} :
    ∀ (r cr : List Value) (x cx v : Value), foldA f x r = some v → VR J x cx → (r.length = cr.length ∧ ∀ (i : Nat) (a b : Value), r[i]? = some a → cr[i]? = some b → VR J a b) → ∃ c, (cr.foldlM F cx).run P w = .ok c w ∧ VR J v c
  | [], cr, x, cx, v, h, hx, hr => by
    simp only [foldA, Option.some.injEq] at h; subst h
    have : cr = [] := by have := hr.1; cases cr <;> simp_all
    subst this
    exact ⟨cx, by simp, hx⟩
  | y :: r, cr, x, cx, v, h, hx, hr => by
    cases cr with
    | nil => have := hr.1; simp at this
    | cons cy cr =>
      simp only [foldA] at h
      split at h
      · rename_i z hz
        obtain ⟨⟨k1, n1, rfl⟩, ⟨k2, n2, rfl⟩, ⟨k3, n3, rfl⟩⟩ := hi _ _ _ hz
        obtain rfl := (hx.of_ne (fun a => by simp)).int
        obtain rfl := ((hr.2 0 _ _ rfl rfl).of_ne (fun a => by simp)).int
        obtain ⟨c, h1, h2⟩ := foldA_sim hf hi r cr (.int k3 n3) (.int k3 n3) v h (.glob _ _ (.flat _ rfl)) ⟨by have := hr.1; simpa using this, fun i a b ha hb => hr.2 (i + 1) a b (by simpa using ha) (by simpa using hb)⟩
        exact ⟨c, by simp [List.foldlM_cons, hf _ _ _ hz, h1], h2⟩
      · cases h

/-! ### Comparing -/

theorem eqA_sim : ∀ (d : Nat) (t : TypeId) (x y cx cy : Value) (b : Bool) (d' : Nat), eqA P d t x y = some b → VG g x cx → VG g y cy → d ≤ d' → (Op.equalIn d' t cx cy).run P w = .ok b w := by
  intro d
  induction d with
  | zero => intro t x y cx cy b d' h; simp [eqA] at h
  | succ d ih =>
    intro t x y cx cy b d' h hx hy hd
    obtain ⟨d', rfl⟩ : ∃ k, d' = k + 1 := ⟨d' - 1, by omega⟩
    have hd' : d ≤ d' := by omega
    unfold eqA at h
    split at h
    · rename_i a b hu
      simp only [Option.some.injEq] at h; subst h
      obtain rfl := hx.bool; obtain rfl := hy.bool
      simp [Op.equalIn, run_und hu]
    · rename_i k0 k a k' b hu
      split at h
      · rename_i hk
        simp only [Option.some.injEq] at h; subst h
        obtain rfl := hx.int; obtain rfl := hy.int
        simp [Op.equalIn, run_und hu, hk]
      · cases h
    · rename_i a b hu
      simp only [Option.some.injEq] at h; subst h
      obtain rfl := hx.string; obtain rfl := hy.string
      simp [Op.equalIn, run_und hu]
    · rename_i fs xs ys hu
      cases hst : P.stoodInHeld t with
      | true => rw [hst] at h; simp at h
      | false =>
        rw [hst] at h
        simp only [cond_false] at h
        obtain ⟨xs', rfl, hxs⟩ := hx.aggL
        obtain ⟨ys', rfl, hys⟩ := hy.aggL
        have hfo : P.fieldsOf t = fs := by simp [Program.fieldsOf, hu]
        rw [run_equalIn_struct w d' t xs' ys' (by rw [hfo]; exact hu) hst, hfo]
        generalize fs.toList = l at h
        clear hu hfo
        induction l generalizing b with
        | nil => simp only [List.foldr_nil, Option.some.injEq] at h; subst h; simp [Op.eqFields]
        | cons f l ihl =>
          simp only [List.foldr_cons] at h
          split at h
          · cases h
          · rename_i hname
            split at h
            · rename_i u v hu1 hv1
              obtain ⟨cu, p1, p2⟩ := partA_sim (w := w) hu1 hxs
              obtain ⟨cv, q1, q2⟩ := partA_sim (w := w) hv1 hys
              split at h
              · rename_i he
                have e1 := ih f.type u v cu cv true d' he p2 q2 hd'
                simp only [Op.eqFields, ne_eq, hname, not_false_eq_true, if_true, Sem.run_bind, p1, q1, e1, Result.andThen_ok]
                simpa using ihl b h
              · rename_i he
                have e1 := ih f.type u v cu cv false d' he p2 q2 hd'
                simp only [Option.some.injEq] at h; subst h
                simp [Op.eqFields, hname, p1, q1, e1]
              · cases h
            · cases h
    · rename_i len e xs ys hu
      split at h
      · rename_i n hn
        obtain ⟨xs', rfl, hxs⟩ := hx.aggL
        obtain ⟨ys', rfl, hys⟩ := hy.aggL
        obtain ⟨i, hi, hin⟩ := sizeT_spec hn
        have hcell : P.cellsOf e = n := by simp [Program.cellsOf, hi, hin]
        rw [run_equalIn_array w d' xs' ys' hu hi, hcell]
        generalize List.range len = l at h
        clear hu
        induction l generalizing b with
        | nil => simp only [List.foldr_nil, Option.some.injEq] at h; subst h; simp [Op.eqItems]
        | cons j l ihl =>
          simp only [List.foldr_cons] at h
          split at h
          · rename_i u v hu1 hv1
            obtain ⟨cu, p1, p2⟩ := partA_sim (w := w) hu1 hxs
            obtain ⟨cv, q1, q2⟩ := partA_sim (w := w) hv1 hys
            split at h
            · rename_i he
              have e1 := ih e u v cu cv true d' he p2 q2 hd'
              simp only [Op.eqItems, Sem.run_bind, p1, q1, e1, Result.andThen_ok]
              simpa using ihl b h
            · rename_i he
              have e1 := ih e u v cu cv false d' he p2 q2 hd'
              simp only [Option.some.injEq] at h; subst h
              simp [Op.eqItems, p1, q1, e1]
            · cases h
          · cases h
      · cases h
    · rename_i e n c bb n' c' hu
      simp only [Option.some.injEq] at h; subst h
      obtain ⟨rfl, rfl, rfl⟩ := hx.nilSlice
      cases bb with
      | none => obtain ⟨rfl, rfl, rfl⟩ := hy.nilSlice; simp [Op.equalIn, run_und hu]
      | some a => obtain ⟨_, L, c2, _, rfl, _⟩ := hy.sliceL; simp [Op.equalIn, run_und hu]
    · rename_i e a n c n' c' hu
      simp only [Option.some.injEq] at h; subst h
      obtain ⟨_, L, c2, _, rfl, _⟩ := hx.sliceL
      obtain ⟨rfl, rfl, rfl⟩ := hy.nilSlice
      simp [Op.equalIn, run_und hu]
    · rename_i e bb hu
      simp only [Option.some.injEq] at h; subst h
      obtain rfl := hx.nilPtr
      cases bb with
      | none => obtain rfl := hy.nilPtr; simp [Op.equalIn, run_und hu]
      | some a => obtain ⟨_, L, _, rfl⟩ := hy.ptrL; simp [Op.equalIn, run_und hu]
    · rename_i e a hu
      simp only [Option.some.injEq] at h; subst h
      obtain ⟨_, L, _, rfl⟩ := hx.ptrL
      obtain rfl := hy.nilPtr
      simp [Op.equalIn, run_und hu]
    · rename_i k e bb hu
      simp only [Option.some.injEq] at h; subst h
      obtain rfl := hx.nilMap
      cases bb with
      | none => obtain rfl := hy.nilMap; simp [Op.equalIn, run_und hu]
      | some a => cases hy with | flat _ h => simp [flat1] at h
    · rename_i k e a hu
      cases hx with | flat _ h => simp [flat1] at h
    · rename_i hu
      simp only [Option.some.injEq] at h; subst h
      obtain rfl := hx.nilFunc; obtain rfl := hy.nilFunc
      simp [Op.equalIn, run_und hu]
    · rename_i hu
      simp only [Option.some.injEq] at h; subst h
      obtain rfl := hx.nilFunc
      obtain ⟨x', y', rfl, _, _⟩ := hy.funcL
      simp [Op.equalIn, run_und hu]
    · rename_i hu
      simp only [Option.some.injEq] at h; subst h
      obtain rfl := hy.nilFunc
      obtain ⟨x', y', rfl, _, _⟩ := hx.funcL
      simp [Op.equalIn, run_und hu]
    · cases h

theorem eqA_shape {d : Nat} {t : TypeId} {x y : Value} {b : Bool} (h : eqA P d t x y = some b) : ¬ (x = .nilIface) := by
  intro e; subst e
  cases d with
  | zero => simp [eqA] at h
  | succ d => unfold eqA at h; split at h <;> simp_all

theorem intOp_sim {op : BinOp} {k : IntKind} {a b : Int} {v : Value} {t : TypeId} {X Y : Operand} (h : intOp op k a b = some v) :
    (do eqGuard op t X Y (.int k a) (.int k b); binOp op t (.int k a) (.int k b)).run P w = .ok v w ∧ flat1 v = true := by
  unfold intOp at h
  split at h
  all_goals first
    | (cases h; done)
    | (simp only [Option.some.injEq] at h; subst h; exact ⟨by simp [eqGuard, binOp, Op.intArith, Op.intDiv, Op.intBits, Op.intCmp], rfl⟩)
    | (split at h
       · cases h
       · rename_i hb; simp only [Option.some.injEq] at h; subst h; exact ⟨by simp [eqGuard, binOp, Op.intDiv, hb], rfl⟩)

theorem strOp_sim {op : BinOp} {a b : ByteArray} {v : Value} {t : TypeId} {X Y : Operand} (h : strOp op a b = some v) :
    (do eqGuard op t X Y (.string a) (.string b); binOp op t (.string a) (.string b)).run P w = .ok v w ∧ flat1 v = true := by
  unfold strOp at h
  split at h
  all_goals first
    | (cases h; done)
    | (simp only [Option.some.injEq] at h; subst h; exact ⟨by simp [eqGuard, binOp, Op.stringOp], rfl⟩)
    | (cases hb : Nat.ble (a.size + b.size) 1073741824 with
       | false => rw [hb] at h; simp at h
       | true =>
         rw [hb] at h
         simp only [cond_true, Option.some.injEq] at h
         subst h
         have := Nat.le_of_ble_eq_true hb
         refine ⟨?_, rfl⟩
         have e : ¬ (((a.size + b.size : Nat) : Int) > IntKind.i64.max) := by
           have : IntKind.i64.max = 9223372036854775807 := by decide
           rw [this]; omega
         simp only [eqGuard, binOp, Op.stringOp, e]
         simp)

theorem eqGuard_fine {op : BinOp} {t : TypeId} {X Y : Operand} {cx cy : Value} (hg : P.eqGuardType P.depth t = false) (hn : cx ≠ .nilIface) : (eqGuard op t X Y cx cy).run P w = .ok () w := by
  by_cases ho : op = .eql ∨ op = .neq
  · rcases ho with rfl | rfl
    · cases cx with
      | nilIface => exact absurd rfl hn
      | agg x => cases cy <;> simp [eqGuard, hg]
      | _ => simp [eqGuard]
    · cases cx with
      | nilIface => exact absurd rfl hn
      | agg x => cases cy <;> simp [eqGuard, hg]
      | _ => simp [eqGuard]
  · cases op <;> first | (exfalso; simp at ho; done) | simp [eqGuard]

theorem shiftOp_sim {op : BinOp} {k k' : IntKind} {a b : Int} {v : Value} {t : TypeId} {X Y : Operand} (ho : op = .shl ∨ op = .shr) (h : shiftOp op k a b = some v) :
    (do eqGuard op t X Y (.int k a) (.int k' b); binOp op t (.int k a) (.int k' b)).run P w = .ok v w ∧ flat1 v = true := by
  unfold shiftOp at h
  split at h
  · cases h
  · rename_i hb
    rcases ho with rfl | rfl
    · simp only [Option.some.injEq] at h; subst h; exact ⟨by simp [eqGuard, binOp, Op.shift, hb], rfl⟩
    · simp only [Option.some.injEq] at h; subst h; exact ⟨by simp [eqGuard, binOp, Op.shift, hb], rfl⟩

theorem eqShape_sim {J : Inj} {x y cx cy : Value} (h : eqShape x y = true) (hx : VR J x cx) (hy : VR J y cy) : eqShape cx cy = true := by
  unfold eqShape at h
  split at h
  · obtain ⟨_, rfl, _⟩ := (hx.of_ne (fun a => by simp)).aggL
    obtain ⟨_, rfl, _⟩ := (hy.of_ne (fun a => by simp)).aggL
    rfl
  · obtain ⟨_, _, rfl, _⟩ := (hx.of_ne (fun a => by simp)).sliceAny
    obtain ⟨_, _, rfl, _⟩ := (hy.of_ne (fun a => by simp)).sliceAny
    rfl
  · rename_i a b
    cases a with
    | none =>
      obtain rfl := (hx.of_ne (fun a => by simp)).nilPtr
      cases b with
      | none => obtain rfl := (hy.of_ne (fun a => by simp)).nilPtr; rfl
      | some b => obtain ⟨_, _, rfl⟩ := hy.ptrL; rfl
    | some a =>
      obtain ⟨_, _, rfl⟩ := hx.ptrL
      cases b with
      | none => obtain rfl := (hy.of_ne (fun a => by simp)).nilPtr; rfl
      | some b => obtain ⟨_, _, rfl⟩ := hy.ptrL; rfl
  · rename_i a b
    have h1 := hx.of_ne (fun a => by simp)
    have h2 := hy.of_ne (fun a => by simp)
    cases h1 with | flat _ _ => cases h2 with | flat _ _ => rfl
  · obtain rfl := (hx.of_ne (fun a => by simp)).nilFunc
    obtain rfl := (hy.of_ne (fun a => by simp)).nilFunc
    rfl
  · obtain rfl := (hx.of_ne (fun a => by simp)).nilFunc
    obtain ⟨_, _, rfl, _, _⟩ := (hy.of_ne (fun a => by simp)).funcL
    rfl
  · obtain ⟨_, _, rfl, _, _⟩ := (hx.of_ne (fun a => by simp)).funcL
    obtain rfl := (hy.of_ne (fun a => by simp)).nilFunc
    rfl
  · cases h

theorem eqShape_bin {t : TypeId} {cx cy : Value} (h : eqShape cx cy = true) : cx ≠ .nilIface ∧ binOp .eql t cx cy = (do pure (.bool (← Op.equal t cx cy))) ∧ binOp .neq t cx cy = (do pure (.bool (!(← Op.equal t cx cy)))) := by
  unfold eqShape at h
  split at h
  all_goals first | (cases h; done) | exact ⟨by simp, rfl, rfl⟩

theorem eqA_ptr1 {d : Nat} {t : TypeId} {a : Addr} {b : Bool} (h : eqA P (d + 1) t (.pointer (some a)) (.pointer none) = some b) : b = false ∧ ∃ e, P.underlying t = some (.pointer e) := by
  unfold eqA at h
  split at h <;> first | (simp_all; done) | grind
theorem eqA_ptr2 {d : Nat} {t : TypeId} {a : Addr} {b : Bool} (h : eqA P (d + 1) t (.pointer none) (.pointer (some a)) = some b) : b = false ∧ ∃ e, P.underlying t = some (.pointer e) := by
  unfold eqA at h
  split at h <;> first | (simp_all; done) | grind
theorem eqA_ptr3 {d : Nat} {t : TypeId} {a a' : Addr} {b : Bool} (h : eqA P (d + 1) t (.pointer (some a)) (.pointer (some a')) = some b) : False := by
  unfold eqA at h
  split at h <;> first | (simp_all; done) | grind

theorem equal_sim {J : Inj} {t : TypeId} {x y cx cy : Value} {b : Bool} (hs : eqShape x y = true) (he : eqA P 30 t x y = some b) (hx : VR J x cx) (hy : VR J y cy) : (Op.equal t cx cy).run P w = .ok b w := by
  show (Op.equalIn (9999 + 1) t cx cy).run P w = .ok b w
  have h30 : 30 ≤ 9999 + 1 := by omega
  generalize 9999 = dd at h30
  by_cases hpx : ∃ a, x = .pointer (some a)
  · obtain ⟨a, rfl⟩ := hpx
    obtain ⟨L, _, rfl⟩ := hx.ptrL
    unfold eqShape at hs
    split at hs <;> first | (cases hs; done) | skip
    all_goals first | (rename_i q; cases q; done) | skip
    rename_i a' b' ha
    cases ha
    cases b' with
    | some b' => exact (eqA_ptr3 (d := 29) he).elim
    | none =>
      obtain rfl := (hy.of_ne (fun a => by simp)).nilPtr
      obtain ⟨rfl, e, hu⟩ := eqA_ptr1 (d := 29) he
      simp [Op.equalIn, run_und hu]
  · have gx := hx.of_ne (fun a e => hpx ⟨a, e⟩)
    by_cases hpy : ∃ a, y = .pointer (some a)
    · obtain ⟨a, rfl⟩ := hpy
      obtain ⟨L, _, rfl⟩ := hy.ptrL
      unfold eqShape at hs
      split at hs <;> first | (cases hs; done) | skip
      all_goals first | (rename_i q; cases q; done) | skip
      rename_i a' b' ha
      cases ha
      cases a' with
      | some a' => exact absurd ⟨_, rfl⟩ hpx
      | none =>
        obtain rfl := gx.nilPtr
        obtain ⟨rfl, e, hu⟩ := eqA_ptr2 (d := 29) he
        simp [Op.equalIn, run_und hu]
    · exact eqA_sim 30 t x y cx cy b (dd + 1) he gx (hy.of_ne (fun a e => hpy ⟨a, e⟩)) h30

theorem binFall_sim {J : Inj} {op : BinOp} {t : TypeId} {x y cx cy v : Value} {X Y : Operand} (h : binFall P op t x y = some v) (hx : VR J x cx) (hy : VR J y cy) :
    (do eqGuard op t X Y cx cy; binOp op t cx cy).run P w = .ok v w ∧ flat1 v = true := by
  unfold binFall at h
  cases hc : (eqShape x y && !(P.eqGuardType P.depth t)) with
  | false => rw [hc] at h; simp at h
  | true =>
    rw [hc] at h
    simp only [cond_true] at h
    simp only [Bool.and_eq_true, Bool.not_eq_true'] at hc
    obtain ⟨hs, hg⟩ := hc
    obtain ⟨h1, h2, h3⟩ := eqShape_bin (t := t) (eqShape_sim hs hx hy)
    split at h
    · split at h
      · rename_i b he
        simp only [Option.some.injEq] at h; subst h
        exact ⟨by rw [Sem.run_bind, eqGuard_fine hg h1, Result.andThen_ok, h2]; simp [equal_sim hs he hx hy], rfl⟩
      · cases h
    · split at h
      · rename_i b he
        simp only [Option.some.injEq] at h; subst h
        exact ⟨by rw [Sem.run_bind, eqGuard_fine hg h1, Result.andThen_ok, h3]; simp [equal_sim hs he hx hy], rfl⟩
      · cases h
    · cases h

theorem binA_sim {J : Inj} {op : BinOp} {t : TypeId} {x y cx cy v : Value} {X Y : Operand} (h : binA P op t x y = some v) (hx : VR J x cx) (hy : VR J y cy) :
    (do eqGuard op t X Y cx cy; binOp op t cx cy).run P w = .ok v w ∧ flat1 v = true := by
  unfold binA at h
  split at h
  · rename_i k a k' b
    obtain rfl := (hx.of_ne (fun a => by simp)).int
    obtain rfl := (hy.of_ne (fun a => by simp)).int
    split at h
    · exact shiftOp_sim (.inl rfl) h
    · exact shiftOp_sim (.inr rfl) h
    · split at h
      · rename_i hk; subst hk; exact intOp_sim h
      · cases h
  · obtain rfl := (hx.of_ne (fun a => by simp)).string
    obtain rfl := (hy.of_ne (fun a => by simp)).string
    exact strOp_sim h
  · rename_i a b
    obtain rfl := (hx.of_ne (fun a => by simp)).bool
    obtain rfl := (hy.of_ne (fun a => by simp)).bool
    split at h
    · rename_i hu
      simp only [Option.some.injEq] at h; subst h
      have he : (Op.equal t (.bool a) (.bool b)).run P w = .ok (a == b) w := run_equalIn_bool w 9999 t a b hu
      have e1 : eqGuard .eql t X Y (.bool a) (.bool b) = pure () := rfl
      have e2 : binOp .eql t (.bool a) (.bool b) = (do pure (.bool (← Op.equal t (.bool a) (.bool b)))) := rfl
      exact ⟨by rw [e1, e2]; simp [he], rfl⟩
    · rename_i hu
      simp only [Option.some.injEq] at h; subst h
      have he : (Op.equal t (.bool a) (.bool b)).run P w = .ok (a == b) w := run_equalIn_bool w 9999 t a b hu
      have e1 : eqGuard .neq t X Y (.bool a) (.bool b) = pure () := rfl
      have e2 : binOp .neq t (.bool a) (.bool b) = (do pure (.bool (!(← Op.equal t (.bool a) (.bool b))))) := rfl
      exact ⟨by rw [e1, e2]; simp [he], rfl⟩
    · cases h
  · exact binFall_sim h hx hy

end Go.Sim
