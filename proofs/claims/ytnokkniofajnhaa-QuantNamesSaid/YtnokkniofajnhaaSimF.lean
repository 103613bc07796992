import Derived.Test.YtnokkniofajnhaaSimE
set_option linter.unusedSimpArgs false
set_option linter.unusedVariables false
namespace Go.Sim
open Go.RowKit
def withRead (f : FuncId → List Value → AHeap → Option Value) (F : Prims) : Prims:=fun g args h =>
 match f g args h with
 | some v => some (v,h)
 | none => F g args h
def Blur (v0 v : Value) : Prop:=(v = v0 ∧ plainT v = true) ∨ ∃ x y,v0 = .tuple x ∧ v = .tuple y ∧ x.toList.length = y.toList.length ∧ ∀ (i : Nat) (u w : Value),x.toList[i]? = some u → y.toList[i]? = some w → (w = u ∧ plain1 u = true) ∨ w = .chan none
theorem VG.blur {G G' : Nat → Option Loc} {v0 v c : Value} (h : VG G' v0 c) (hb : Blur v0 v) : VG G v c:=by
 rcases hb with ⟨rfl,h2⟩ | ⟨x,y,rfl,rfl,hl,hp⟩
 ·rw [h.plainT_eq h2]
  exact .of_plainT h2
 ·cases h with
  | flat _ h => simp [flat1] at h
  | tuple _ x' hx h1 =>
   refine .tuple _ _ (hl.symm.trans hx) (fun i w c hw hc => ?_)
   obtain ⟨u,hu⟩ : ∃ u,x.toList[i]? = some u:=by
    have:=(List.getElem?_eq_some_iff.1 hw).1
    exact ⟨_,List.getElem?_eq_getElem (by omega)⟩
   rcases hp i u w hu hw with ⟨rfl,h3⟩ | rfl
   ·rw [(h1 i _ c hu hc).plain1_eq h3]
    exact .of_plain1 h3
   ·exact .junk c
def AHeap.anew (h : AHeap) : AHeap:={ h with low:=h.next }
theorem withRead_ok {P : Program} {H : Hint} {F0 F : Prims} {f : FuncId → List Value → AHeap → Option Value} (hm : P.follows .mixedOrders = true) (hF0 : CallOK P F0) (hF0k : CallKeep F0) (hname : ∀ (g : FuncId) (fn : Func), P.funcs[g]? = some fn → (fn.name == "runtime.NumGoroutine") = false)
  (hf : ∀ (g : FuncId) (args : List Value) (h : AHeap) (v : Value),f g args h = some v → ∃ v0 h',Blur v0 v ∧ Ret P H F0 g args h.anew v0 h' ∧ h.next ≤ h'.low) (hF : CallOK P F) : CallOK P (withRead f F):=by
 intro g args h v h' hc hg G w cargs hR hA
 unfold withRead at hc
 split at hc
 ·rename_i u hu
  simp only [Option.some.injEq,Prod.mk.injEq] at hc
  obtain ⟨rfl,rfl⟩:=hc
  obtain ⟨v0,h3,h2,hr,hl⟩:=hf g args h u hu
  have hR0 : HR ⟨G,fun _ => none⟩ (St0 h.anew) w:=
   { gdom:=hR.gdom,gblk:=hR.gblk,gcon:=hR.gcon,ginj:=hR.ginj,ldom:=hR.ldom,lcon:=hR.lcon,linj:=hR.linj,sep:=hR.sep }
  have hd:=hr.ok hm hF0 hF0k hname hg hR0 hA
  refine hd.mono (fun c w' ⟨G',hv,hG,_⟩ => ?_)
  have bel : Below w.heap.size w w':=⟨hG.os,hG.tape,hG.output,hG.size,fun k hk => hG.frame k hk (fun id L h0 _ => Nat.lt_of_lt_of_le (hR.gdom id L h0) hl) (fun t L h => by cases h)⟩
  exact ⟨G,hv.blur h2,.grown hR bel,.refl _ _⟩
 ·exact hF g args h v h' hc hg G w cargs hR hA
theorem withRead_keep {f : FuncId → List Value → AHeap → Option Value} {F : Prims} (hF : CallKeep F) : CallKeep (withRead f F):=by
 intro g args h v h' hc
 unfold withRead at hc
 split at hc
 ·simp only [Option.some.injEq,Prod.mk.injEq] at hc
  obtain ⟨_,rfl⟩:=hc
  exact .refl _ _
 ·exact hF g args h v h' hc
end Go.Sim
