/-
  RUNS: what the abstract machine computes, every run of the model computes.
-/
import Derived.Test.YtlpnmdknlfmjaaaSimDraw5
import Derived.Laws.Sem
namespace Go.Sim
set_option linter.unusedSimpArgs false

variable {P : Program} {w : World} {J : Inj} {s : St}

theorem Post.trans {J1 : Inj} {s1 s2 : St} {w1 w2 : World} {a a1 a2 : Act} (hG : Good J s w J1 s1 w1) (hs : a1.tmps.size = a.tmps.size) (hd : a1.defers = a.defers) (hA : Adds (s.h.next ≤ ·) J.g J1.g) (h : Post J1 s1 w1 a1 s2 a2 w2) : Post J s w a s2 a2 w2 := by
  obtain ⟨J2, q1, q2, q3, q4, q5⟩ := h
  exact ⟨J2, hG.trans q1, q2, by rw [q3, hs], by rw [q4, hd], hA.trans (q5.mono (fun k hk => Nat.le_trans hG.next hk))⟩

/-! ### The head of a loop -/

theorem restrict_get {env : Tri Value} : ∀ (l : List Tmp) (acc : Tri Value) (t : Tmp) (v : Value), (restrict env l acc).get t = some v → acc.get t = some v ∨ (t ∈ l ∧ env.get t = some v)
  | [], acc, t, v, h => .inl h
  | u :: l, acc, t, v, h => by
    simp only [restrict] at h
    split at h
    · rename_i x hx
      rcases restrict_get l _ t v h with h1 | ⟨h1, h2⟩
      · rw [Tri.get_set] at h1
        by_cases e : u = t
        · subst e; rw [if_pos rfl] at h1; obtain rfl := Option.some.inj h1; exact .inr ⟨by simp, hx⟩
        · rw [if_neg e] at h1; exact .inl h1
      · exact .inr ⟨by simp [h1], h2⟩
    · rcases restrict_get l _ t v h with h1 | ⟨h1, h2⟩
      · exact .inl h1
      · exact .inr ⟨by simp [h1], h2⟩

theorem norm_sim {H : Hint} {f : FuncId} {c : Code} {kn : Nat} {s1 : St} {a : Act} (h : norm H f c kn s = some s1) (hR : HR J s w) (hE : ER J s a) : ∃ J1, Good J s w J1 s1 w ∧ ER J1 s1 a ∧ J1.g = J.g := by
  unfold norm at h
  split at h
  · simp only [Option.some.injEq] at h; subst h; exact ⟨J, .refl hR, hE, rfl⟩
  · rename_i l _
    simp only [] at h
    rw [Bool.cond_eq_ite] at h
    split at h
    · rename_i hb
      simp only [Option.some.injEq] at h
      subst h
      simp only [Bool.and_eq_true, List.all_eq_true] at hb
      have hk := Nat.le_of_ble_eq_true hb.1
      let J1 : Inj := ⟨J.g, fun t => if t < kn then J.l t else none⟩
      have hl : ∀ t L, J1.l t = some L → t < kn ∧ J.l t = some L := by
        intro t L ht
        simp only [J1] at ht
        by_cases e : t < kn
        · rw [if_pos e] at ht; exact ⟨e, ht⟩
        · rw [if_neg e] at ht; cases ht
      refine ⟨J1, ?_, ?_, rfl⟩
      · exact { hr := { gdom := hR.gdom, gblk := hR.gblk, gcon := hR.gcon, ginj := hR.ginj, ldom := fun t L h => (hl t L h).1, lcon := fun t L h => hR.lcon t L (hl t L h).2, linj := fun t t' L L' h h' => hR.linj t t' L L' (hl t L h).2 (hl t' L' h').2, sep := fun id t L L' h h' => hR.sep id t L L' h (hl t L' h').2 }
                mono := fun _ _ h => h, next := Nat.le_refl _, low := Nat.le_refl _, size := Nat.le_refl _, os := rfl, tape := rfl, output := rfl
                fresh := fun id L h1 h2 => absurd h1 (by rw [h2]; simp)
                lfresh := fun t L h1 => .inr ⟨t, L, (hl t L h1).2, rfl⟩
                frame := fun _ _ _ _ => rfl }
      · intro t v hv
        have hv' : (restrict s.env l .leaf).get t = some v := hv
        rcases restrict_get l .leaf t v hv' with h1 | ⟨h1, h2⟩
        · simp [Tri.get] at h1
        · obtain ⟨e1, e2⟩ := hE t v h2
          refine ⟨e1, ?_⟩
          have hloc := hb.2 t h1
          rw [hv'] at hloc
          simp only [] at hloc
          generalize a.tmps.getD t undef = cv at e2 ⊢
          cases e2 with
          | glob _ _ h => exact .glob _ _ h
          | loc ad x L hs h =>
            refine .loc ad x L hs ?_
            simp only [locBelow, hs, Option.isNone_some, Bool.false_or] at hloc
            show (if ad.block < kn then J.l ad.block else none) = some L
            have hlt : ad.block < kn := Nat.le_of_ble_eq_true hloc
            rw [if_pos hlt]; exact h
    · cases h

/-! ### Results -/

theorem resA_sim {a : Act} (hR : HR J s w) (hE : ER J s a) (g : ResultVar → Sem Value) (hg1 : ∀ t, g (.tmp t) = pure (a.tmps.getD t undef)) (hg2 : ∀ x t, g (.cell x t) = (do loadVar t (← asAddr (a.tmps.getD x undef)))) :
    ∀ (rs : List ResultVar) (l : List Value), resA P s rs = some l → l.all noLoc = true → ∃ cs, (rs.mapM g).run P w = .ok cs w ∧ VGs J.g l cs
  | [], l, h, _ => by
    simp only [resA, Option.some.injEq] at h; subst h
    exact ⟨[], by simp, .nil _⟩
  | .tmp t :: rs, l, h, hn => by
    simp only [resA] at h
    split at h
    · rename_i v hv
      split at h
      · rename_i l' hl
        simp only [Option.some.injEq] at h; subst h
        simp only [List.all_cons, Bool.and_eq_true] at hn
        obtain ⟨cs, h1, h2⟩ := resA_sim hR hE g hg1 hg2 rs l' hl hn.2
        refine ⟨a.tmps.getD t undef :: cs, ?_, .cons ((hE t v hv).2.of_noLoc hn.1) h2⟩
        rw [List.mapM_cons, hg1]
        simp only [Sem.run_bind, Sem.run_pure, Result.andThen_ok, h1]
      · cases h
    · cases h
  | .cell x t :: rs, l, h, hn => by
    simp only [resA] at h
    split at h
    · rename_i ad hv
      split at h
      · rename_i v hld
        split at h
        · rename_i l' hl
          simp only [Option.some.injEq] at h; subst h
          simp only [List.all_cons, Bool.and_eq_true] at hn
          obtain ⟨cs, h1, h2⟩ := resA_sim hR hE g hg1 hg2 rs l' hl hn.2
          obtain ⟨L, hL, hc⟩ := (hE x _ hv).2.ptrL
          obtain ⟨c, h3, h4⟩ := loadA_sim hR hL hld
          refine ⟨c :: cs, ?_, .cons h4 h2⟩
          rw [List.mapM_cons, hg2, hc]
          simp only [Sem.run_bind, Sem.run_pure, Result.andThen_ok, h1, asAddr, h3]
        · cases h
      · cases h
    · cases h

theorem results_sim {fn : Func} {a : Act} {l : List Value} (hR : HR J s w) (hE : ER J s a) (h : resA P s fn.results.toList = some l) (hn : l.all noLoc = true) : ∃ c, (results fn a.tmps).run P w = .ok c w ∧ VG J.g (resultA l) c := by
  let g : ResultVar → Sem Value := fun r => match r with | .tmp t => pure (a.tmps.getD t undef) | .cell x t => do loadVar t (← asAddr (a.tmps.getD x undef))
  have hres : results fn a.tmps = (do let vs ← fn.results.mapM g; pure (if h : vs.size = 1 then vs[0] else .tuple vs)) := rfl
  obtain ⟨cs, h1, h2⟩ := resA_sim (P := P) hR hE g (fun t => rfl) (fun x t => rfl) fn.results.toList l h hn
  rw [hres, Array.mapM_eq_mapM_toList]
  simp only [Sem.run_bind, Sem.run_pure, Result.andThen_ok]
  rw [map_eq_pure_bind]
  simp only [Sem.run_bind, Sem.run_pure, Result.andThen_ok, h1]
  refine ⟨_, rfl, ?_⟩
  by_cases e : cs.length = 1
  · rw [dif_pos (by simpa using e)]
    obtain ⟨c, rfl⟩ := List.length_eq_one_iff.1 e
    obtain ⟨v, rfl⟩ := List.length_eq_one_iff.1 (h2.1.trans e)
    exact h2.2 0 v c rfl rfl
  · rw [dif_neg (by simpa using e)]
    have : resultA l = .tuple l.toArray := by
      unfold resultA
      split
      · exact absurd h2.1.symm (by simpa using e)
      · rfl
    rw [this]
    exact h2.tuple

/-! ### Runs -/

def RunOK (P : Program) (run : FuncId → Nat → Code → St → Option (Exit × St)) : Prop := ∀ f nt c s x s', run f nt c s = some (x, s') → ∀ J w a, HR J s w → ER J s a → nt ≤ a.tmps.size → c.wp P (fun e a' w' => e = x ∧ Post J s w a s' a' w') a w
def LoopOK (P : Program) (loop : FuncId → Nat → Code → Nat → St → Option (Exit × St)) : Prop := ∀ f nt c kn s x s', loop f nt c kn s = some (x, s') → ∃ n, ∀ J w a, HR J s w → ER J s a → nt ≤ a.tmps.size → ∀ Q : Exit → Act → World → Prop, (∀ a' w', Post J s w a s' a' w' → Q x a' w') → Code.rounds P c Q n a w

theorem then_other {next : Act → World → Prop} {Q : Exit → Act → World → Prop} {x : Exit} {a : Act} {w : World} (h : x ≠ .normal) (hq : Q x a w) : Exit.then next Q x a w := by
  cases x <;> first | exact absurd rfl h | exact hq

theorem runS_ok {H : Hint} {r : Rec} (hm : P.follows .mixedOrders = true) (h1 : RunOK P r.run) (h2 : LoopOK P r.loop) (h3 : CallOK P r.call) (h4 : CallKeep r.call) : RunOK P (runS P H r) := by
  intro f nt c s x s' h J w a hR hE hn
  have hself : Post J s w a s a w := ⟨J, .refl hR, hE, rfl, rfl, .refl _ _⟩
  unfold runS at h
  split at h
  · simp only [Option.some.injEq, Prod.mk.injEq] at h; obtain ⟨rfl, rfl⟩ := h
    exact wp_skip ⟨rfl, hself⟩
  · simp only [Option.some.injEq, Prod.mk.injEq] at h; obtain ⟨rfl, rfl⟩ := h
    exact wp_ret ⟨rfl, hself⟩
  · simp only [Option.some.injEq, Prod.mk.injEq] at h; obtain ⟨rfl, rfl⟩ := h
    exact wp_exit ⟨rfl, hself⟩
  · rename_i ca cb
    split at h
    · rename_i s1 ha
      refine wp_seq (wp_mono (h1 f nt ca s _ s1 ha J w a hR hE hn) ?_)
      rintro e a1 w1 ⟨rfl, J1, q1, q2, q3, q4, q5⟩
      show cb.wp P _ a1 w1
      refine wp_mono (h1 f nt cb s1 x s' h J1 w1 a1 q1.hr q2 (by rw [q3]; exact hn)) ?_
      rintro e a2 w2 ⟨rfl, hp⟩
      exact ⟨rfl, Post.trans q1 q3 q4 q5 hp⟩
    · rename_i hx
      refine wp_seq (wp_mono (h1 f nt ca s x s' h J w a hR hE hn) ?_)
      rintro e a1 w1 ⟨rfl, hp⟩
      exact then_other (fun e => by subst e; exact hx s' h) ⟨rfl, hp⟩
  · rename_i y ca cb
    split at h
    · rename_i t ht
      have := ((hE.eval ht).of_ne (fun a => by simp)).bool
      refine wp_cond this ?_
      have := h1 f nt _ s x s' h J w a hR hE hn
      cases t <;> exact this
    · cases h
  · rename_i id cb
    split at h
    · rename_i id' s1 hb
      refine wp_block (wp_mono (h1 f nt cb s _ s1 hb J w a hR hE hn) ?_)
      rintro e a1 w1 ⟨rfl, hp⟩
      cases hid : Nat.beq id' id with
      | true =>
        rw [hid] at h
        simp only [cond_true, Option.some.injEq, Prod.mk.injEq] at h; obtain ⟨rfl, rfl⟩ := h
        simp only [Exit.inBlock, if_pos (Nat.eq_of_beq_eq_true hid)]
        exact ⟨trivial, hp⟩
      | false =>
        rw [hid] at h
        simp only [cond_false, Option.some.injEq, Prod.mk.injEq] at h; obtain ⟨rfl, rfl⟩ := h
        simp only [Exit.inBlock, if_neg (Nat.ne_of_beq_eq_false hid)]
        exact ⟨trivial, hp⟩
    · rename_i hx
      refine wp_block (wp_mono (h1 f nt cb s x s' h J w a hR hE hn) ?_)
      rintro e a1 w1 ⟨rfl, hp⟩
      cases e with
      | exit id' => exact absurd h (hx id' s')
      | _ => exact ⟨rfl, hp⟩
  · rename_i cb
    obtain ⟨n, hl⟩ := h2 f nt cb s.kn s x s' h
    exact wp_loop_rounds n (hl J w a hR hE hn _ (fun a' w' hp => ⟨rfl, hp⟩))
  · rename_i id ops draw
    split at h
    · rename_i s1 hs1
      simp only [Option.some.injEq, Prod.mk.injEq] at h; obtain ⟨rfl, rfl⟩ := h
      cases draw with
      | true => exact drawA_goes hm h3 h4 hs1 hR hE hn
      | false => exact region_goes h3 hs1 hR hE hn
    · cases h
  · cases h

theorem loopS_ok {H : Hint} {r : Rec} (h1 : RunOK P r.run) (h2 : LoopOK P r.loop) : LoopOK P (loopS H r) := by
  intro f nt c kn s x s' h
  unfold loopS at h
  split at h
  · cases h
  · rename_i s1 hs1
    split at h
    · rename_i s2 hb
      obtain ⟨n, hl⟩ := h2 f nt c kn s2 x s' h
      refine ⟨n + 1, fun J w a hR hE hn Q hQ => ?_⟩
      obtain ⟨J1, g1, g2, g3⟩ := norm_sim hs1 hR hE
      refine wp_mono (h1 f nt c s1 _ s2 hb J1 w a g1.hr g2 hn) ?_
      rintro e a1 w1 ⟨rfl, J2, q1, q2, q3, q4, q5⟩
      show Code.rounds P c Q n a1 w1
      refine hl J2 w1 a1 q1.hr q2 (by rw [q3]; exact hn) Q (fun a' w' hp => hQ a' w' ?_)
      exact Post.trans g1 rfl rfl (by rw [g3]; exact .refl _ _) (Post.trans q1 q3 q4 q5 hp)
    · rename_i hx
      refine ⟨1, fun J w a hR hE hn Q hQ => ?_⟩
      obtain ⟨J1, g1, g2, g3⟩ := norm_sim hs1 hR hE
      refine wp_mono (h1 f nt c s1 x s' h J1 w a g1.hr g2 hn) ?_
      rintro e a1 w1 ⟨rfl, hp⟩
      exact then_other (fun e => by subst e; exact hx s' h) (hQ a1 w1 (Post.trans g1 rfl rfl (by rw [g3]; exact .refl _ _) hp))

theorem argsEnv_get : ∀ (l : List Value) (i : Nat) (acc : Tri Value) (t : Nat), (argsEnv l i acc).get t = if i ≤ t ∧ t < i + l.length then l[t - i]? else acc.get t
  | [], i, acc, t => by simp [argsEnv]; intro h1 h2; omega
  | v :: l, i, acc, t => by
    simp only [argsEnv]
    rw [argsEnv_get l (i + 1) _ t, Tri.get_set]
    rcases Nat.lt_trichotomy t i with h | h | h
    · rw [if_neg (by omega), if_neg (by omega), if_neg (by omega)]
    · subst h; rw [if_neg (by omega), if_pos rfl, if_pos (by simp)]; simp
    · by_cases h2 : t < i + 1 + l.length
      · rw [if_pos (by omega), if_pos (by simp; omega)]
        rw [show t - i = (t - (i + 1)) + 1 by omega]
        simp
      · rw [if_neg (by omega), if_neg (by omega), if_neg (by simp; omega)]

theorem Good.bare {G : Nat → Option Loc} {J' : Inj} {s' : St} {w' : World} (h : Good ⟨G, fun _ => none⟩ s w J' s' w') : Good ⟨G, fun _ => none⟩ (St0 s.h) w ⟨J'.g, fun _ => none⟩ (St0 s'.h) w' :=
  { hr := h.hr.bare, mono := h.mono, next := h.next, low := h.low, size := h.size, os := h.os, tape := h.tape, output := h.output, fresh := h.fresh, lfresh := (fun t L h => by cases h), frame := h.frame }

theorem callFunc_enter {g : FuncId} {fn : Func} {args : Array Value} (hf : P.funcs[g]? = some fn) (hb : fn.body.isSome = true) (hname : (fn.name == "runtime.NumGoroutine") = false) : (callFunc g args).run P w = .ok (.enter g args) w := by
  unfold callFunc
  have hb' : fn.body ≠ none := by cases h : fn.body <;> simp_all
  have hname' : fn.name ≠ "runtime.NumGoroutine" := by simpa using hname
  simp [hf, hname', hb']

theorem callS_ok {F : Prims} {r : Rec} (hF : CallOK P F) (hname : ∀ (g : FuncId) (fn : Func), P.funcs[g]? = some fn → (fn.name == "runtime.NumGoroutine") = false) (h1 : RunOK P r.run) : CallOK P (callS P F r) := by
  intro g args h v h' hc G w cargs hR hA
  unfold callS at hc
  split at hc
  · rename_i x hx
    simp only [Option.some.injEq] at hc; subst hc
    exact hF g args h v h' hx G w cargs hR hA
  · split at hc
    · rename_i fn hfn
      split at hc
      · rename_i c hb
        left
        refine ⟨callFunc_enter hfn (by rw [hb]; rfl) (hname g fn hfn), calls_of_wp hfn hb ?_⟩
        have hR' : HR ⟨G, fun _ => none⟩ { env := argsEnv args 0 .leaf, kn := 0, K := .leaf, h := h } w := hR.env _
        have hE' : ER ⟨G, fun _ => none⟩ { env := argsEnv args 0 .leaf, kn := 0, K := .leaf, h := h } { tmps := cargs.toArray ++ Array.replicate (fn.ntmps - cargs.toArray.size) undef, defers := [] } := by
          intro t u hu
          simp only [argsEnv_get, Nat.zero_le, true_and, Nat.zero_add, Nat.sub_zero] at hu
          by_cases ht : t < args.length
          · rw [if_pos ht] at hu
            have ht' : t < cargs.length := by rw [← hA.1]; exact ht
            refine ⟨by simp; omega, ?_⟩
            have : (cargs.toArray ++ Array.replicate (fn.ntmps - cargs.toArray.size) undef).getD t undef = cargs[t] := by
              simp [Array.getD, ht', Array.getElem_append, show t < cargs.length + (fn.ntmps - cargs.length) by omega]
            rw [this]
            exact .glob _ _ (hA.2 t u _ hu (by simp [ht']))
          · rw [if_neg ht] at hu; simp [Tri.get] at hu
        have key : ∀ x s', r.run g fn.ntmps c { env := argsEnv args 0 .leaf, kn := 0, K := .leaf, h := h } = some (x, s') → endA P fn s' = some (v, h') → (x = .normal ∨ x = .ret) →
            c.wp P (bodyPost P fn (fun e w' => ∃ c, e = .returned c ∧ ∃ G', VG G' v c ∧ Good ⟨G, fun _ => none⟩ (St0 h) w ⟨G', fun _ => none⟩ (St0 h') w' ∧ Adds (h.next ≤ ·) G G')) { tmps := cargs.toArray ++ Array.replicate (fn.ntmps - cargs.toArray.size) undef, defers := [] } w := by
          intro x s' hrun hend hx
          refine wp_mono (h1 g fn.ntmps c _ x s' hrun _ w _ hR' hE' (by simp; omega)) ?_
          rintro e a' w' ⟨rfl, J', q1, q2, q3, q4, q5⟩
          unfold endA at hend
          split at hend
          · rename_i l hl
            cases hn : l.all noLoc with
            | false => rw [hn] at hend; simp at hend
            | true =>
              rw [hn] at hend
              simp only [cond_true, Option.some.injEq, Prod.mk.injEq] at hend
              obtain ⟨rfl, rfl⟩ := hend
              obtain ⟨cv, r1, r2⟩ := results_sim q1.hr q2 hl hn
              have hpost : a'.defers = [] ∧ ∃ v, (results fn a'.tmps).run P w' = .ok v w' ∧ (∃ c, Ending.returned v = .returned c ∧ ∃ G', VG G' (resultA l) c ∧ Good ⟨G, fun _ => none⟩ (St0 h) w ⟨G', fun _ => none⟩ (St0 s'.h) w' ∧ Adds (h.next ≤ ·) G G') :=
                ⟨q4, cv, r1, cv, rfl, J'.g, r2, q1.bare, q5⟩
              rcases hx with rfl | rfl <;> exact hpost
          · cases hend
        split at hc
        · rename_i s' hrun; exact key _ s' hrun hc (.inl rfl)
        · rename_i s' hrun; exact key _ s' hrun hc (.inr rfl)
        · cases hc
      · cases hc
    · cases hc

/-- What the abstract machine computes, the model computes. -/
theorem execA_ok {H : Hint} {F : Prims} (hm : P.follows .mixedOrders = true) (hF : CallOK P F) (hFk : CallKeep F) (hname : ∀ (g : FuncId) (fn : Func), P.funcs[g]? = some fn → (fn.name == "runtime.NumGoroutine") = false) :
    ∀ n, RunOK P (execA P H F n).run ∧ LoopOK P (execA P H F n).loop ∧ CallOK P (execA P H F n).call
  | 0 => ⟨fun f nt c s x s' h => (by cases h), fun f nt c kn s x s' h => (by cases h), fun g args h v h' hc => (by cases hc)⟩
  | n + 1 => by
    obtain ⟨h1, h2, h3⟩ := execA_ok hm hF hFk hname n
    exact ⟨runS_ok hm h1 h2 h3 (execA_keep hFk n).2.2, loopS_ok h1 h2, callS_ok hF hname h1⟩

theorem noPrims_ok : CallOK P noPrims := fun g args h v h' hc => (by cases hc)
theorem noPrims_keep : CallKeep noPrims := fun g args h v h' hc => (by cases hc)

end Go.Sim
