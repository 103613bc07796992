import Derived.Test.YtogliemiljhliaaRdX
import Derived.Test.YtogliemiljhliaaRdF
set_option linter.unusedSimpArgs false
set_option linter.unusedVariables false
namespace Go.Proofs.Ytogliemiljhliaa
open Go.Sim
set_option linter.unusedVariables false
set_option maxRecDepth 100000
theorem wid_few {l : List Int} (ln : Line l) : wid l < 50:=by
 have h5:=ln.n5
 have h : (clsL l).length ≤ (upN 32).length:=by unfold clsL;exact List.length_filter_le _ _
 have : (upN 32).length = 32:=by decide
 unfold wid
 omega
def ifOk {α : Type} (e : Int) (L : List α) : List α:=if e = 0 then L else []
theorem GrR.nil {α : Type} [Inhabited α] {enc : α → List Value} {es : Nat} (h : AHeap) (he : ∀ x,(enc x).length = es) (hp : 0 < es) : GrR enc es h none 0 [] []:=⟨Rows.nil h hd_len (by omega),rfl,fun y y0 y1 => by omega⟩
theorem basTo_row (S : St) (n : Nat) : ∀ c,∀ r,r ∈ basTo S n c → r.length = n
 | 0,r,h => by cases h
 | c + 1,r,h => by
  unfold basTo at h
  split at h
  ·exact basTo_row S n c r h
  ·rcases List.mem_append.1 h with q | q
   ·exact basTo_row S n c r q
   ·simp only [List.mem_singleton] at q;rw [q];exact bvec_len _ _ _
theorem few_if {α : Type} {e : Int} {L : List (List α)} {k : Nat} (hk : e = 0 → ∀ r,r ∈ L → r.length ≤ 100000) (hl : (ifOk e L).length = k) : ∀ y : Int,0 ≤ y → y < k → (gt (ifOk e L) y).length ≤ 100000:=fun y y0 y1 => by
 have m:=gt_mem (ifOk e L) (i:=y) y0 (by omega)
 unfold ifOk at m ⊢
 split at m
 ·rename_i e0
  rw [if_pos e0]
  exact hk e0 _ m
 ·cases m
variable {F : Prims} {call head arith cmp scmp bnot bsame conv neg imax imin ofNat slen place inR nz geZ rd wr push next mkOK nat zeros sadd eqAgg cut slc sslc strAt part app cpy putAt fresh lowered bump wrote addN lt ne fpAll fpApp brk yn rng mget mput mnew bytes clr : _} (hA : AP F ⟨call,head,arith,cmp,scmp,bnot,bsame,conv,neg,imax,imin,ofNat,slen,place,inR,nz,geZ,rd,wr,push,next,mkOK,nat,zeros,sadd,eqAgg,cut,slc,sslc,strAt,part,app,cpy,putAt,fresh,lowered,bump,wrote,addN,lt,ne,fpAll,fpApp,brk,yn,rng,mget,mput,mnew,bytes,clr⟩)
include hA
theorem gcls_ok {h : AHeap} (hlow : h.low ≤ h.next) {a : Option Addr} {N c : Nat} {l : List Int} (hl : Is h a N l) {Q : Value → AHeap → Prop}
  (hQ : ∀ e h' ao k co,CheckL l e → Is h' ao k (ifOk e (clsL l)) → k ≤ 100 → Ext h h' → Q (.tuple #[.slice ao k co,.int .i64 e]) h') : call 10 [.slice a N c] h Q:=by
 have lN:=hl.len
 refine hA.bodyR Try.func10 r10_ok (hA.alike _ _ _ rfl) hlow (zc ?_)
 refine chk_ok hA hlow hl (fun e h1 k1 x1 => ⟨_,rfl,?_⟩)
 refine zc ?_
 refine br (e ≠ 0) (by rw [e_neq hA]) (fun c1 => ?_) (fun c1 => ?_) <;> refine zc ?_
 ·exact hQ e h1 none 0 0 k1 (by unfold ifOk;rw [if_neg c1];exact Rows.nil _ iC_len (by omega)) (by omega) x1
 have e0 : e = 0:=Decidable.of_not_not c1
 have ln:=k1.zero e0
 refine cls_ok hA (x1.lowOK hlow) (hl.ext x1) ln (fun h2 cb C co1 rc c1 c10 hb x2 => ⟨_,_,_,rfl,?_⟩)
 refine zc ?_
 exact hQ 0 h2 _ _ _ (e0 ▸ k1) rc (by omega) (x1.trans x2)
theorem grow_ok {h : AHeap} (hlow : h.low ≤ h.next) {a : Option Addr} {N c : Nat} {l : List Int} (hl : Is h a N l) {Q : Value → AHeap → Prop}
  (hQ : ∀ e h' ao k co hs,CheckL l e → GrR iC 1 h' ao k hs (ifOk e (rowsL l)) → k ≤ 100 → Ext h h' → Q (.tuple #[.slice ao k co,.int .i64 e]) h') : call 12 [.slice a N c] h Q:=by
 have lN:=hl.len
 refine hA.bodyR Try.func12 r12_ok (hA.alike _ _ _ rfl) hlow (zc ?_)
 refine chk_ok hA hlow hl (fun e h1 k1 x1 => ⟨_,rfl,?_⟩)
 refine zc ?_
 refine br (e ≠ 0) (by rw [e_neq hA]) (fun c1 => ?_) (fun c1 => ?_) <;> refine zc ?_
 ·exact hQ e h1 none 0 0 [] k1 (by unfold ifOk;rw [if_neg c1];exact GrR.nil _ iC_len (by omega)) (by omega) x1
 have e0 : e = 0:=Decidable.of_not_not c1
 have ln:=k1.zero e0
 refine rows_ok hA (x1.lowOK hlow) (hl.ext x1) ln (fun h2 ao k co hs g2 hk k10 x2 => ⟨_,_,_,rfl,?_⟩)
 refine zc ?_
 exact hQ 0 h2 _ _ _ _ (e0 ▸ k1) g2 (by omega) (x1.trans x2)
theorem gbas_ok {h : AHeap} (hlow : h.low ≤ h.next) {a : Option Addr} {N c : Nat} {l : List Int} (hl : Is h a N l) {Q : Value → AHeap → Prop}
  (hQ : ∀ e h' ao k co hs,CheckL l e → GrR fC 2 h' ao k hs (ifOk e (basL l)) → k ≤ 100 → Ext h h' → Q (.tuple #[.slice ao k co,.int .i64 e]) h') : call 14 [.slice a N c] h Q:=by
 have lN:=hl.len
 refine hA.bodyR Try.func14 r14_ok (hA.alike _ _ _ rfl) hlow (zc ?_)
 refine chk_ok hA hlow hl (fun e h1 k1 x1 => ⟨_,rfl,?_⟩)
 refine zc ?_
 refine br (e ≠ 0) (by rw [e_neq hA]) (fun c1 => ?_) (fun c1 => ?_) <;> refine zc ?_
 ·exact hQ e h1 none 0 0 [] k1 (by unfold ifOk;rw [if_neg c1];exact GrR.nil _ fC_len (by omega)) (by omega) x1
 have e0 : e = 0:=Decidable.of_not_not c1
 have ln:=k1.zero e0
 refine basis_ok hA (x1.lowOK hlow) (hl.ext x1) ln (line_okay (zrow_len _) ln (zrow_small _)) (wid_few ln) (fun h2 ao k co hs g2 hk x2 => ⟨_,_,_,rfl,?_⟩)
 refine zc ?_
 exact hQ 0 h2 _ _ _ _ (e0 ▸ k1) g2 (by have:=basTo_len (SE l (zrow (pairsL l.length).length)) (wid l) (wid l);have:=wid_few ln;have e9 : (basL l).length = (basTo (SE l (zrow (pairsL l.length).length)) (wid l) (wid l)).length:=rfl;omega) (x1.trans x2)
end Go.Proofs.Ytogliemiljhliaa
