import Derived.Test.YtkbgkjlgnmlghaaSeatA
import Derived.Test.YtkbgkjlgnmlghaaSeatB
import Derived.Test.YtkbgkjlgnmlghaaSeatC
import Derived.Test.YtkbgkjlgnmlghaaSeatD
import Derived.Test.YtkbgkjlgnmlghaaSeatE
import Derived.Test.YtkbgkjlgnmlghaaSeatF
import Derived.Test.YtkbgkjlgnmlghaaSeatG
import Derived.Test.YtkbgkjlgnmlghaaSeatH
import Derived.Test.YtkbgkjlgnmlghaaSeatI
import Derived.KernelRfl
import Derived.Test.YtkbgkjlgnmlghaaCxA
import Derived.Test.YtkbgkjlgnmlghaaSymGrid
import Derived.Test.YtkbgkjlgnmlghaaSymD
import Derived.Test.YtkbgkjlgnmlghaaFracA
import Derived.Test.YtkbgkjlgnmlghaaCaA
set_option linter.unusedSimpArgs false
set_option linter.unusedVariables false
namespace Go.Proofs.Ytkbgkjlgnmlghaa
open Go.Sim
set_option linter.unusedVariables false
set_option maxRecDepth 100000
theorem guardC : Try.prog.eqGuardType Try.prog.depth 46 = false:=by kernel_rfl
theorem eqC (a b c a' b' c' : Int) : ∃ r,eqA Try.prog 30 46 (.agg #[.int .i64 a,.int .i64 b,.int .i64 c]) (.agg #[.int .i64 a',.int .i64 b',.int .i64 c']) = some r ∧ (r = true ↔ a = a' ∧ b = b' ∧ c = c'):=by
 have h3 : Try.prog.underlying 2 = some (.int .i64):=by kernel_rfl
 have hst : Try.prog.stoodInHeld 46 = false:=by kernel_rfl
 have i3 : isAggB Try.prog 2 = some false:=by kernel_rfl
 have e3 : ∀ (n : Nat) (x y : Int),eqA Try.prog (n + 1) 2 (.int .i64 x) (.int .i64 y) = some (x == y):=by
  intro n x y
  unfold eqA
  rw [h3]
  simp
 have key : eqA Try.prog (28 + 1 + 1) 46 (.agg #[.int .i64 a,.int .i64 b,.int .i64 c]) (.agg #[.int .i64 a',.int .i64 b',.int .i64 c']) = some ((a == a') && ((b == b') && (c == c'))):=by
  unfold eqA
  rw [Try.underlying46]
  have e3' : ∀ (x y : Int),eqA Try.prog 29 2 (.int .i64 x) (.int .i64 y) = some (x == y):=e3 28
  simp only [hst,cond_false,List.foldr,partA,i3,List.getElem?_cons_zero,List.getElem?_cons_succ,e3',String.reduceEq,if_false]
  cases a == a' <;> cases b == b' <;> cases c == c' <;> rfl
 refine ⟨_,key,?_⟩
 simp only [Bool.and_eq_true,beq_iff_eq]
theorem TC : SliceT Try.prog 27 46 3:=⟨by kernel_rfl,by kernel_rfl,⟨24,by kernel_rfl,by omega⟩,⟨.agg #[.int .i64 0,.int .i64 0,.int .i64 0],by kernel_rfl,rfl⟩⟩
end Go.Proofs.Ytkbgkjlgnmlghaa
namespace Go.Proofs.Ytkbgkjlgnmlghaa
open Go.Sim
set_option linter.unusedVariables false
set_option maxRecDepth 100000
structure Ck where
 a : Int
 b : Int
 d : Int
instance : Inhabited Ck:=⟨⟨0,0,0⟩⟩
def Ck.cells (k : Ck) : List Value:=[.int .i64 k.a,.int .i64 k.b,.int .i64 k.d]
def Ck.ok (k : Ck) : Prop:=okC k.a k.b k.d
abbrev Cs (h : AHeap) (a : Option Addr) (n : Nat) (l : List Ck) : Prop:=Rows Ck.cells 3 h a n l
theorem ck_len (k : Ck) : k.cells.length = 3:=rfl
theorem ck_ok (k : Ck) : k.cells.all cellOK = true:=rfl
theorem cs_at {h : AHeap} {a : Option Addr} {n : Nat} {l : List Ck} (p : Cs h a n l) {i : Int} (h0 : 0 ≤ i) (hi : i < n) :
  ∃ b o x y z,a = some ⟨b,o,none⟩ ∧ b < h.next ∧ gt l i = ⟨x,y,z⟩ ∧ h.readG ⟨b,o + i.toNat * 3,none⟩ 3 = some [.int .i64 x,.int .i64 y,.int .i64 z]:=by
 obtain ⟨b,o,h1,h2,h3⟩:=p.at h0 hi
 exact ⟨b,o,(gt l i).a,(gt l i).b,(gt l i).d,h1,h2,rfl,h3 0 3 (by omega) (by omega)⟩
variable {F : Prims} {call head arith cmp scmp bnot bsame conv neg imax imin ofNat slen place inR nz geZ rd wr push next mkOK nat zeros sadd eqAgg cut slc sslc strAt part app cpy putAt fresh lowered bump wrote addN lt ne fpAll brk yn rng mget mput mnew bytes clr : _} (hA : AP F ⟨call,head,arith,cmp,scmp,bnot,bsame,conv,neg,imax,imin,ofNat,slen,place,inR,nz,geZ,rd,wr,push,next,mkOK,nat,zeros,sadd,eqAgg,cut,slc,sslc,strAt,part,app,cpy,putAt,fresh,lowered,bump,wrote,addN,lt,ne,fpAll,brk,yn,rng,mget,mput,mnew,bytes,clr⟩)
include hA
theorem rcgcd_loop {h0 : AHeap} {Q : Exit → SS → Prop} : ∀ (m : Nat) (a b : Int) (h : AHeap),b.natAbs ≤ m → i63 a → i63 b → 0 ≤ a → 0 ≤ b → Ext h0 h →
  (∀ a' : Int,i63 a' → (a'.natAbs : Int) = Int.gcd a b → 0 ≤ a' → ∀ e kn K h',Ext h0 h' → Q (.exit 0) ⟨(0,.int .i64 a') :: e,kn,K,h'⟩) → head 47 2 0 ⟨[(0,.int .i64 a),(1,.int .i64 b)],0,[],h⟩ Q:=by
 intro m
 induction m with
 | zero =>
  intro a b h hm ha hb a0 b0 he hQ
  have hb0 : b = 0:=by omega
  refine hA.roundR Try.func47 r47_ok (zc ?_)
  refine br (b ≠ 0) (by rw [e_neq hA]) (fun c => absurd hb0 c) (fun c => ?_) <;> refine zc ?_
  exact hQ a ha (by rw [hb0];simp) a0 _ _ _ h he
 | succ m ih =>
  intro a b h hm ha hb a0 b0 he hQ
  refine hA.roundR Try.func47 r47_ok (zc ?_)
  refine br (b ≠ 0) (by rw [e_neq hA]) (fun c => ?_) (fun c => ?_) <;> refine zc ?_
  ·obtain ⟨h9,hh9⟩ : ∃ z,z = bump h 6:=⟨_,rfl⟩
   have e9 : Ext h h9:=by rw [hh9,e_bump hA];exact .bump _ _
   rw [← hh9]
   refine ⟨nz_ok hA c,?_⟩
   refine zc ?_
   rw [rem_tmod hA]
   have l1 : (a.tmod b).natAbs < b.natAbs:=by rw [Int.natAbs_tmod];exact Nat.mod_lt _ (by omega)
   unfold i63 at hb
   refine ih b (a.tmod b) h9 (by omega) hb (by unfold i63;omega) b0 (Int.tmod_nonneg _ a0) (he.trans e9) (fun a' h1 h2 => hQ a' h1 ?_)
   rw [h2,gcd_tmod]
  ·have hb0 : b = 0:=by omega
   exact hQ a ha (by rw [hb0];simp) a0 _ _ _ h he
theorem rcgcd_ok {h : AHeap} (hlow : h.low ≤ h.next) {a b : Int} (ha : i63 a) (hb : i63 b) {Q : Value → AHeap → Prop} (hQ : ∀ g : Int,g = Int.gcd a b → ∀ h',Ext h h' → Q (.int .i64 g) h') : call 47 [.int .i64 a,.int .i64 b] h Q:=by
 refine hA.bodyR Try.func47 r47_ok (hA.alike _ _ _ rfl) hlow (zc ?_)
 rw [imax_abs hA ha,imax_abs hA hb]
 have ha' : i63 (a.natAbs : Int):=by unfold i63 at *;omega
 have hb' : i63 (b.natAbs : Int):=by unfold i63 at *;omega
 have e : Int.gcd (a.natAbs : Int) (b.natAbs : Int) = Int.gcd a b:=by unfold Int.gcd;rw [Int.natAbs_natCast,Int.natAbs_natCast]
 have a0 : (0 : Int) ≤ (a.natAbs : Int):=by omega
 have b0 : (0 : Int) ≤ (b.natAbs : Int):=by omega
 rw [← e] at hQ
 generalize (a.natAbs : Int) = x at *
 generalize (b.natAbs : Int) = y at *
 refine rcgcd_loop hA y.natAbs x y h (Nat.le_refl _) ha' hb' a0 b0 (.refl h) (fun a' h1 h2 h3 e kn K h' he => ?_)
 refine zc ?_
 exact hQ _ (by omega) h' he
theorem rccheck_ok {h : AHeap} (hlow : h.low ≤ h.next) {a b d : Int} {Q : Value → AHeap → Prop}
  (hQ : ∀ (e : Int) h',(e = 0 ∧ okC a b d) ∨ (e = 8 ∧ ¬ okC a b d) → Ext h h' → Q (.int .i64 e) h') : call 20 [.agg #[.int .i64 a,.int .i64 b,.int .i64 d]] h Q:=by
 have bad : ¬ (1 ≤ d ∧ d ≤ 1000000000 ∧ -1000000000 ≤ a ∧ a ≤ 1000000000 ∧ -1000000000 ≤ b ∧ b ≤ 1000000000 ∧ Int.gcd (Int.gcd a b) d = 1) → ¬ okC a b d:=fun w q => w ((okC_iff a b d).1 q)
 obtain ⟨h9,hh9⟩ : ∃ z,z = bump h 39:=⟨_,rfl⟩
 have e9 : Ext h h9:=by rw [hh9];exact ext_bump hA _ _
 have l9:=e9.lowOK hlow
 refine hA.bodyR Try.func20 r20_ok (hA.alike _ _ _ rfl) hlow (zc ?_)
 rw [← hh9]
 refine br (d < 1) (by rw [e_lss hA]) (fun c1 => ?_) (fun c1 => ?_) <;> refine zc ?_
 ·exact hQ _ _ (.inr ⟨rfl,bad (by omega)⟩) e9
 refine br (1000000000 < d) (by rw [e_gtr hA]) (fun c2 => ?_) (fun c2 => ?_) <;> refine zc ?_
 ·exact hQ _ _ (.inr ⟨rfl,bad (by omega)⟩) e9
 refine br (a < -1000000000) (by rw [e_lss hA]) (fun c3 => ?_) (fun c3 => ?_) <;> refine zc ?_
 ·exact hQ _ _ (.inr ⟨rfl,bad (by omega)⟩) e9
 refine br (1000000000 < a) (by rw [e_gtr hA]) (fun c4 => ?_) (fun c4 => ?_) <;> refine zc ?_
 ·exact hQ _ _ (.inr ⟨rfl,bad (by omega)⟩) e9
 refine br (b < -1000000000) (by rw [e_lss hA]) (fun c5 => ?_) (fun c5 => ?_) <;> refine zc ?_
 ·exact hQ _ _ (.inr ⟨rfl,bad (by omega)⟩) e9
 refine br (1000000000 < b) (by rw [e_gtr hA]) (fun c6 => ?_) (fun c6 => ?_) <;> refine zc ?_
 ·exact hQ _ _ (.inr ⟨rfl,bad (by omega)⟩) e9
 refine rcgcd_ok hA (low_fresh hA h9) (by unfold i63;omega) (by unfold i63;omega) (fun g hg hz ez => ⟨_,rfl,?_⟩)
 obtain ⟨hX,hhX⟩ : ∃ z,z = lowered h9 hz:=⟨_,rfl⟩
 have eX : Ext h hX:=by rw [hhX];exact ext_low hA hlow e9 ez
 have lX:=eX.lowOK hlow
 refine zc ?_
 rw [← hhX]
 have g1:=gcd_i63 (a:=a) (b:=b) (by unfold i63;omega) (by unfold i63;omega)
 rw [← hg] at g1
 refine rcgcd_ok hA (low_fresh hA hX) g1 (by unfold i63;omega) (fun g' hg' hz' ez' => ⟨_,rfl,?_⟩)
 obtain ⟨hY,hhY⟩ : ∃ z,z = lowered hX hz':=⟨_,rfl⟩
 have eY : Ext h hY:=by rw [hhY];exact ext_low hA hlow eX ez'
 refine zc ?_
 rw [← hhY]
 rw [hg] at hg'
 refine br (g' ≠ 1) (by rw [e_neq hA]) (fun c5 => ?_) (fun c5 => ?_) <;> refine zc ?_
 ·exact hQ _ _ (.inr ⟨rfl,bad (by omega)⟩) eY
 ·exact hQ _ _ (.inl ⟨rfl,(okC_iff a b d).2 (by omega)⟩) eY
end Go.Proofs.Ytkbgkjlgnmlghaa
namespace Go.Proofs.Ytkbgkjlgnmlghaa
open Go.Sim
set_option linter.unusedVariables false
set_option maxRecDepth 100000
theorem wf64_of {n : Int} (h : (Lit.int .i64 n).wf = true) : i64 n:=by
 unfold i64
 simp [Lit.wf,IntKind.min,IntKind.max,IntKind.signed,IntKind.bits] at h;omega
theorem cellsI : Try.prog.cellsOf 2 = 1:=by kernel_rfl
theorem cellsF : Try.prog.cellsOf 23 = 2:=by kernel_rfl
theorem len2 {l : List Value} (h : l.length = 2) : ∃ a b,l = [a,b]:=by
 match l,h with
 | [a,b],_ => exact ⟨a,b,rfl⟩
theorem len4 {l : List Value} (h : l.length = 4) : ∃ a b c d,l = [a,b,c,d]:=by
 match l,h with
 | [a,b,c,d],_ => exact ⟨a,b,c,d,rfl⟩
theorem frac_dec {w : World} {base d : Nat} {l : List Value} (h : TS Try.prog w base d 23 l) : ∃ x y,l = [.int .i64 x,.int .i64 y] ∧ i64 x ∧ i64 y:=by
 cases d with
 | zero => exact h.elim
 | succ d =>
  obtain ⟨h1,h2⟩:=ts_struct Try.underlying23 h
  rw [cellsF] at h1
  obtain ⟨a,b,rfl⟩:=len2 h1
  simp only [List.forall_mem_cons,List.not_mem_nil,false_imp_iff,implies_true,and_true,cellsI,List.drop,List.take] at h2
  obtain ⟨g0,g1⟩:=h2
  cases d with
  | zero => exact g0.elim
  | succ d =>
   obtain ⟨x,e1,w1⟩:=ts_int Try.underlying2 g0
   obtain ⟨y,e2,w2⟩:=ts_int Try.underlying2 g1
   simp only [List.cons.injEq,and_true] at e1 e2
   subst e1 e2
   exact ⟨x,y,rfl,wf64_of w1,wf64_of w2⟩
end Go.Proofs.Ytkbgkjlgnmlghaa
namespace Go.Proofs.Ytkbgkjlgnmlghaa
open Go.Sim
set_option linter.unusedVariables false
set_option maxRecDepth 100000
theorem cellsS : Try.prog.cellsOf 25 = 4:=by kernel_rfl
theorem spot_dec {w : World} {base d : Nat} {l : List Value} (h : TS Try.prog w base d 25 l) : ∃ k : Sk,l.map (absV w) = k.cells ∧ k.i64:=by
 cases d with
 | zero => exact h.elim
 | succ d =>
  obtain ⟨h1,h2⟩:=ts_struct Try.underlying25 h
  rw [cellsS] at h1
  obtain ⟨a,b,c,e,rfl⟩:=len4 h1
  simp only [List.forall_mem_cons,List.not_mem_nil,false_imp_iff,implies_true,and_true,cellsF,List.drop,List.take] at h2
  obtain ⟨g0,g1⟩:=h2
  obtain ⟨x,y,e1,w1,w2⟩:=frac_dec g0
  obtain ⟨z,u,e2,w3,w4⟩:=frac_dec g1
  simp only [List.cons.injEq,and_true] at e1 e2
  obtain ⟨rfl,rfl⟩:=e1
  obtain ⟨rfl,rfl⟩:=e2
  exact ⟨⟨x,y,z,u⟩,rfl,w1,w2,w3,w4⟩
theorem spots_in {w : World} {h : AHeap} (hn : h.next = w.heap.size) (hm : ∀ b,b < w.heap.size → h.m.get b = absB w b) {H : Type} {enc : TypeId × Value → H} {base fuel b0 : Nat} {held : Bool} {r : Reach} {v : Value} {x : DataW H × List MemPlace}
  (hval : Value.okWide Try.prog w r b0 26 v) (hf : DataW.trod enc Try.prog w base (fun _ => true) held fuel 26 v.cells.toList = some x) :
  ∃ a n c l,v = .slice a n c ∧ repC w v = true ∧ n ≤ c ∧ c ≤ maxLen ∧ Sps h a n l ∧ allS l:=by
 obtain ⟨a,n,c,d,rfl,hr,hrep,rfl,hts⟩:=value_slice Try.underlying26 hval hf
 obtain ⟨xs,k1,k2,k3,k4,k5⟩:=slice_in hn hm Try.underlying26 hts hrep Sk.cells cellsS (by omega) (fun _ => rfl) Sk.i64 (fun l hl => spot_dec hl)
 refine ⟨a,n,c,xs,rfl,hr,k2,k3,⟨k4,fun _ => rfl,by omega⟩,fun i i0 i1 => ?_⟩
 refine k5 _ ?_
 unfold gt
 rw [List.getD_eq_getElem?_getD,List.getElem?_eq_getElem (by omega)]
 exact List.getElem_mem ..
end Go.Proofs.Ytkbgkjlgnmlghaa
namespace Go.Proofs.Ytkbgkjlgnmlghaa
open Go.Sim
set_option linter.unusedVariables false
set_option maxRecDepth 100000
theorem len3 {α : Type} {l : List α} (h : l.length = 3) : ∃ a b c,l = [a,b,c]:=by
 match l,h with
 | [a,b,c],_ => exact ⟨a,b,c,rfl⟩
theorem cellsC : Try.prog.cellsOf 46 = 3:=by kernel_rfl
def Ck.i64 (k : Ck) : Prop:=Go.Proofs.Ytkbgkjlgnmlghaa.i64 k.a ∧ Go.Proofs.Ytkbgkjlgnmlghaa.i64 k.b ∧ Go.Proofs.Ytkbgkjlgnmlghaa.i64 k.d
theorem cx_dec' {w : World} {base d : Nat} {l : List Value} (h : TS Try.prog w base d 46 l) : ∃ x y z,l = [.int .i64 x,.int .i64 y,.int .i64 z] ∧ Go.Proofs.Ytkbgkjlgnmlghaa.i64 x ∧ Go.Proofs.Ytkbgkjlgnmlghaa.i64 y ∧ Go.Proofs.Ytkbgkjlgnmlghaa.i64 z:=by
 cases d with
 | zero => exact h.elim
 | succ d =>
  obtain ⟨h1,h2⟩:=ts_struct Try.underlying46 h
  rw [cellsC] at h1
  obtain ⟨a,b,c,rfl⟩:=len3 h1
  simp only [List.forall_mem_cons,List.not_mem_nil,false_imp_iff,implies_true,and_true,cellsI,List.drop,List.take] at h2
  obtain ⟨g0,g1,g2⟩:=h2
  cases d with
  | zero => exact g0.elim
  | succ d =>
   obtain ⟨x,e1,w1⟩:=ts_int Try.underlying2 g0
   obtain ⟨y,e2,w2⟩:=ts_int Try.underlying2 g1
   obtain ⟨z,e3,w3⟩:=ts_int Try.underlying2 g2
   simp only [List.cons.injEq,and_true] at e1 e2 e3
   subst e1 e2 e3
   exact ⟨x,y,z,rfl,wf64_of w1,wf64_of w2,wf64_of w3⟩
theorem cx_dec {w : World} {base d : Nat} {l : List Value} (h : TS Try.prog w base d 46 l) : ∃ k : Ck,l.map (absV w) = k.cells ∧ k.i64:=by
 obtain ⟨x,y,z,rfl,w⟩:=cx_dec' h
 exact ⟨⟨x,y,z⟩,rfl,w⟩
theorem cx_in {w : World} {h : AHeap} (hn : h.next = w.heap.size) (hm : ∀ b,b < w.heap.size → h.m.get b = absB w b) {H : Type} {enc : TypeId × Value → H} {base fuel b0 : Nat} {held : Bool} {r : Reach} {v : Value} {x : DataW H × List MemPlace}
  (hval : Value.okWide Try.prog w r b0 46 v) (hf : DataW.trod enc Try.prog w base (fun _ => true) held fuel 46 v.cells.toList = some x) :
  ∃ a b d,v = .agg #[.int .i64 a,.int .i64 b,.int .i64 d] ∧ repC w v = true ∧ i64 a ∧ i64 b ∧ i64 d:=by
 obtain ⟨cs,rfl,hsz,hrow⟩ : ∃ cs,v = .agg cs ∧ cs.size = Try.prog.cellsOf 46 ∧ Row.okWide Try.prog w r b0 46 cs:=by
  unfold Value.okWide at hval;rw [Try.underlying46] at hval;exact hval
 have hts : TS Try.prog w base fuel 46 cs.toList:=ts_of_trod (fun _ => rfl) _ _ _ _ hf
 obtain ⟨a,b,d,e,w1,w2,w3⟩:=cx_dec' hts
 obtain rfl : cs = #[.int .i64 a,.int .i64 b,.int .i64 d]:=by cases cs;simp_all
 exact ⟨a,b,d,rfl,rfl,w1,w2,w3⟩
theorem cxs_in {w : World} {h : AHeap} (hn : h.next = w.heap.size) (hm : ∀ b,b < w.heap.size → h.m.get b = absB w b) {H : Type} {enc : TypeId × Value → H} {base fuel b0 : Nat} {held : Bool} {r : Reach} {v : Value} {x : DataW H × List MemPlace}
  (hval : Value.okWide Try.prog w r b0 27 v) (hf : DataW.trod enc Try.prog w base (fun _ => true) held fuel 27 v.cells.toList = some x) :
  ∃ a n c l,v = .slice a n c ∧ repC w v = true ∧ n ≤ c ∧ c ≤ maxLen ∧ Cs h a n l ∧ ∀ k,k ∈ l → k.i64:=by
 obtain ⟨a,n,c,d,rfl,hr,hrep,rfl,hts⟩:=value_slice Try.underlying27 hval hf
 obtain ⟨xs,k1,k2,k3,k4,k5⟩:=slice_in hn hm Try.underlying27 hts hrep Ck.cells cellsC (by omega) (fun _ => rfl) Ck.i64 (fun l hl => cx_dec hl)
 exact ⟨a,n,c,xs,rfl,hr,k2,k3,⟨k4,fun _ => rfl,by omega⟩,k5⟩
end Go.Proofs.Ytkbgkjlgnmlghaa
