import Derived.Test.YtcdoknkgbnaefaaSymD
import Derived.Test.YtcdoknkgbnaefaaFracA
import Derived.KernelRfl
set_option linter.unusedSimpArgs false
set_option linter.unusedVariables false
namespace Go.Proofs.Ytcdoknkgbnaefaa
open Go.Sim
set_option linter.unusedVariables false
set_option maxRecDepth 100000
theorem wf64_of {n : Int} (h : (Lit.int .i64 n).wf = true) : i64 n:=by
 unfold i64
 simp [Lit.wf,IntKind.min,IntKind.max,IntKind.signed,IntKind.bits] at h;omega
theorem cellsI : Try.prog.cellsOf 2 = 1:=by kernel_rfl
theorem cellsF : Try.prog.cellsOf 51 = 2:=by kernel_rfl
theorem len2 {l : List Value} (h : l.length = 2) : ∃ a b,l = [a,b]:=by
 match l,h with
 | [a,b],_ => exact ⟨a,b,rfl⟩
theorem frac_dec {w : World} {base d : Nat} {l : List Value} (h : TS Try.prog w base d 51 l) : ∃ x y,l = [.int .i64 x,.int .i64 y] ∧ i64 x ∧ i64 y:=by
 cases d with
 | zero => exact h.elim
 | succ d =>
  obtain ⟨h1,h2⟩:=ts_struct Try.underlying51 h
  rw [cellsF] at h1
  obtain ⟨a,b,rfl⟩:=len2 h1
  simp only [List.forall_mem_cons,List.not_mem_nil,false_imp_iff,implies_true,and_true,cellsI,List.drop,List.take] at h2
  obtain ⟨g0,g1⟩:=h2
  cases d with
  | zero => exact g0.elim
  | succ d =>
   obtain ⟨x,e1,w1⟩:=ts_int Try.underlying2 g0
   obtain ⟨y,e2,w2⟩:=ts_int Try.underlying2 g1
   simp only [List.cons.injEq,and_true] at e1 e2
   subst e1 e2
   exact ⟨x,y,rfl,wf64_of w1,wf64_of w2⟩
theorem frac_in {w : World} {h : AHeap} (hn : h.next = w.heap.size) (hm : ∀ b,b < w.heap.size → h.m.get b = absB w b) {H : Type} {enc : TypeId × Value → H} {base fuel b0 : Nat} {held : Bool} {r : Reach} {v : Value} {x : DataW H × List MemPlace}
  (hval : Value.okWide Try.prog w r b0 51 v) (hf : DataW.trod enc Try.prog w base (fun _ => true) held fuel 51 v.cells.toList = some x) :
  ∃ n d,v = .agg #[.int .i64 n,.int .i64 d] ∧ repC w v = true ∧ i64 n ∧ i64 d:=by
 obtain ⟨cs,rfl,hsz,hrow⟩ : ∃ cs,v = .agg cs ∧ cs.size = Try.prog.cellsOf 51 ∧ Row.okWide Try.prog w r b0 51 cs:=by
  unfold Value.okWide at hval;rw [Try.underlying51] at hval;exact hval
 have hts : TS Try.prog w base fuel 51 cs.toList:=ts_of_trod (fun _ => rfl) _ _ _ _ hf
 obtain ⟨n,d,e,w1,w2⟩:=frac_dec hts
 obtain rfl : cs = #[.int .i64 n,.int .i64 d]:=by cases cs;simp_all
 exact ⟨n,d,rfl,rfl,w1,w2⟩
end Go.Proofs.Ytcdoknkgbnaefaa
