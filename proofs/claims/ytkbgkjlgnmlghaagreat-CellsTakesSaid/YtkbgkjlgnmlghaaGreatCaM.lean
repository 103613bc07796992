import Derived.Test.YtkbgkjlgnmlghaaGreatSymD
import Derived.Test.YtkbgkjlgnmlghaaGreatFracA
import Derived.KernelRfl
import Derived.Test.YtkbgkjlgnmlghaaGreatCaA
import Derived.Test.YtkbgkjlgnmlghaaGreatCaH
import Derived.Test.YtkbgkjlgnmlghaaGreatCaE
set_option linter.unusedSimpArgs false
set_option linter.unusedVariables false
namespace Go.Proofs.YtkbgkjlgnmlghaaGreat
open Go.Sim
set_option linter.unusedVariables false
set_option maxRecDepth 100000
theorem wf64_of {n : Int} (h : (Lit.int .i64 n).wf = true) : i64 n:=by
 unfold i64
 simp [Lit.wf,IntKind.min,IntKind.max,IntKind.signed,IntKind.bits] at h;omega
theorem cellsI : Tryz.prog.cellsOf 2 = 1:=by kernel_rfl
theorem cellsF : Tryz.prog.cellsOf 45 = 2:=by kernel_rfl
theorem len2 {l : List Value} (h : l.length = 2) : ∃ a b,l = [a,b]:=by
 match l,h with
 | [a,b],_ => exact ⟨a,b,rfl⟩
theorem len4 {l : List Value} (h : l.length = 4) : ∃ a b c d,l = [a,b,c,d]:=by
 match l,h with
 | [a,b,c,d],_ => exact ⟨a,b,c,d,rfl⟩
theorem frac_dec {w : World} {base d : Nat} {l : List Value} (h : TS Tryz.prog w base d 45 l) : ∃ x y,l = [.int .i64 x,.int .i64 y] ∧ i64 x ∧ i64 y:=by
 cases d with
 | zero => exact h.elim
 | succ d =>
  obtain ⟨h1,h2⟩:=ts_struct Tryz.underlying45 h
  rw [cellsF] at h1
  obtain ⟨a,b,rfl⟩:=len2 h1
  simp only [List.forall_mem_cons,List.not_mem_nil,false_imp_iff,implies_true,and_true,cellsI,List.drop,List.take] at h2
  obtain ⟨g0,g1⟩:=h2
  cases d with
  | zero => exact g0.elim
  | succ d =>
   obtain ⟨x,e1,w1⟩:=ts_int Tryz.underlying2 g0
   obtain ⟨y,e2,w2⟩:=ts_int Tryz.underlying2 g1
   simp only [List.cons.injEq,and_true] at e1 e2
   subst e1 e2
   exact ⟨x,y,rfl,wf64_of w1,wf64_of w2⟩
end Go.Proofs.YtkbgkjlgnmlghaaGreat
namespace Go.Proofs.YtkbgkjlgnmlghaaGreat
open Go.Sim
set_option linter.unusedVariables false
set_option maxRecDepth 100000
theorem cellsS : Tryz.prog.cellsOf 47 = 4:=by kernel_rfl
theorem spot_dec {w : World} {base d : Nat} {l : List Value} (h : TS Tryz.prog w base d 47 l) : ∃ k : Sk,l.map (absV w) = k.cells ∧ k.i64:=by
 cases d with
 | zero => exact h.elim
 | succ d =>
  obtain ⟨h1,h2⟩:=ts_struct Tryz.underlying47 h
  rw [cellsS] at h1
  obtain ⟨a,b,c,e,rfl⟩:=len4 h1
  simp only [List.forall_mem_cons,List.not_mem_nil,false_imp_iff,implies_true,and_true,cellsF,List.drop,List.take] at h2
  obtain ⟨g0,g1⟩:=h2
  obtain ⟨x,y,e1,w1,w2⟩:=frac_dec g0
  obtain ⟨z,u,e2,w3,w4⟩:=frac_dec g1
  simp only [List.cons.injEq,and_true] at e1 e2
  obtain ⟨rfl,rfl⟩:=e1
  obtain ⟨rfl,rfl⟩:=e2
  exact ⟨⟨x,y,z,u⟩,rfl,w1,w2,w3,w4⟩
theorem spots_in {w : World} {h : AHeap} (hn : h.next = w.heap.size) (hm : ∀ b,b < w.heap.size → h.m.get b = absB w b) {H : Type} {enc : TypeId × Value → H} {base fuel b0 : Nat} {held : Bool} {r : Reach} {v : Value} {x : DataW H × List MemPlace}
  (hval : Value.okWide Tryz.prog w r b0 23 v) (hf : DataW.trod enc Tryz.prog w base (fun _ => true) held fuel 23 v.cells.toList = some x) :
  ∃ a n c l,v = .slice a n c ∧ repC w v = true ∧ n ≤ c ∧ c ≤ maxLen ∧ Sps h a n l ∧ allS l:=by
 obtain ⟨a,n,c,d,rfl,hr,hrep,rfl,hts⟩:=value_slice Tryz.underlying23 hval hf
 obtain ⟨xs,k1,k2,k3,k4,k5⟩:=slice_in hn hm Tryz.underlying23 hts hrep Sk.cells cellsS (by omega) (fun _ => rfl) Sk.i64 (fun l hl => spot_dec hl)
 refine ⟨a,n,c,xs,rfl,hr,k2,k3,⟨k4,fun _ => rfl,by omega⟩,fun i i0 i1 => ?_⟩
 refine k5 _ ?_
 unfold gt
 rw [List.getD_eq_getElem?_getD,List.getElem?_eq_getElem (by omega)]
 exact List.getElem_mem ..
end Go.Proofs.YtkbgkjlgnmlghaaGreat
namespace Go.Proofs.YtkbgkjlgnmlghaaGreat
open Go.Sim
set_option linter.unusedVariables false
set_option maxRecDepth 100000
theorem pk_some {h : AHeap} {a : Option Addr} {n : Nat} {l : List Pk} (p : Rows Pk.cells 4 h a n l) (hn : 0 < n) : ∃ b o,a = some ⟨b,o,none⟩:=by
 obtain ⟨b,o,e,_,_⟩:=p.at (i:=0) (by omega) (by omega)
 exact ⟨b,o,e⟩
variable {F : Prims} {call head arith cmp scmp bnot bsame conv neg imax imin ofNat slen place inR nz geZ rd wr push next mkOK nat zeros sadd eqAgg cut slc sslc strAt part app cpy putAt fresh lowered bump wrote addN lt ne fpAll fpApp brk yn rng mget mput mnew bytes clr : _} (hA : AP F ⟨call,head,arith,cmp,scmp,bnot,bsame,conv,neg,imax,imin,ofNat,slen,place,inR,nz,geZ,rd,wr,push,next,mkOK,nat,zeros,sadd,eqAgg,cut,slc,sslc,strAt,part,app,cpy,putAt,fresh,lowered,bump,wrote,addN,lt,ne,fpAll,fpApp,brk,yn,rng,mget,mput,mnew,bytes,clr⟩)
include hA
theorem great_ok {h : AHeap} (hlow : h.low ≤ h.next) {a a' : Option Addr} {N M c c' : Nat} {Q : Value → AHeap → Prop}
  (hQ : ∀ r : Bool,(r = false → N ≤ 40 ∧ M ≤ 80) → Q (.bool r) h) : call 5 [.slice a N c,.slice a' M c'] h Q:=by
 refine hA.bodyR Tryz.func5 r5_ok (hA.alike _ _ _ rfl) hlow (zc ?_)
 refine br ((16 : Int) < N) (by rw [e_gtr hA,e_ofNat hA]) (fun c1 => ?_) (fun c1 => ?_) <;> refine zc ?_
 ·refine br ((N : Int) ≤ 32) (by rw [e_leq hA,e_ofNat hA]) (fun c2 => ?_) (fun c2 => ?_) <;> refine zc ?_
  ·exact hQ true (fun q => by cases q)
  refine br ((40 : Int) < N) (by rw [e_gtr hA,e_ofNat hA]) (fun c3 => ?_) (fun c3 => ?_) <;> refine zc ?_
  ·exact hQ true (fun q => by cases q)
  rw [e_gtr hA,e_ofNat hA]
  exact hQ _ (fun q => by have:=of_decide_eq_false q;omega)
 ·refine br ((40 : Int) < N) (by rw [e_gtr hA,e_ofNat hA]) (fun c3 => ?_) (fun c3 => ?_) <;> refine zc ?_
  ·exact hQ true (fun q => by cases q)
  rw [e_gtr hA,e_ofNat hA]
  exact hQ _ (fun q => by have:=of_decide_eq_false q;omega)
end Go.Proofs.YtkbgkjlgnmlghaaGreat
