import Derived.Test.YtogliemiljhliaaRdX
import Derived.Test.YtogliemiljhliaaRdH
set_option linter.unusedSimpArgs false
set_option linter.unusedVariables false
namespace Go.Proofs.Ytogliemiljhliaa
open Go.Sim
set_option linter.unusedVariables false
set_option maxRecDepth 100000
theorem wid_few {l : List Int} (ln : Line l) : wid l < 50:=by
 have h5:=ln.n5
 have h : (clsL l).length ≤ (upN 32).length:=by unfold clsL;exact List.length_filter_le _ _
 have : (upN 32).length = 32:=by decide
 unfold wid
 omega
def ifOk {α : Type} (e : Int) (L : List α) : List α:=if e = 0 then L else []
theorem GrR.nil {α : Type} [Inhabited α] {enc : α → List Value} {es : Nat} (h : AHeap) (he : ∀ x,(enc x).length = es) (hp : 0 < es) : GrR enc es h none 0 [] []:=⟨Rows.nil h hd_len (by omega),rfl,fun y y0 y1 => by omega⟩
variable {F : Prims} {call head arith cmp scmp bnot bsame conv neg imax imin ofNat slen place inR nz geZ rd wr push next mkOK nat zeros sadd eqAgg cut slc sslc strAt part app cpy putAt fresh lowered bump wrote addN lt ne fpAll fpApp brk yn rng mget mput mnew bytes clr : _} (hA : AP F ⟨call,head,arith,cmp,scmp,bnot,bsame,conv,neg,imax,imin,ofNat,slen,place,inR,nz,geZ,rd,wr,push,next,mkOK,nat,zeros,sadd,eqAgg,cut,slc,sslc,strAt,part,app,cpy,putAt,fresh,lowered,bump,wrote,addN,lt,ne,fpAll,fpApp,brk,yn,rng,mget,mput,mnew,bytes,clr⟩)
include hA
theorem gcls_ok {h : AHeap} (hlow : h.low ≤ h.next) {a : Option Addr} {N c : Nat} {l : List Int} (hl : Is h a N l) {Q : Value → AHeap → Prop}
  (hQ : ∀ e h' ao k co,CheckL l e → Is h' ao k (ifOk e (clsL l)) → k ≤ 100 → Ext h h' → Q (.tuple #[.slice ao k co,.int .i64 e]) h') : call 10 [.slice a N c] h Q:=by
 have lN:=hl.len
 refine hA.bodyR Try.func10 r10_ok (hA.alike _ _ _ rfl) hlow (zc ?_)
 refine chk_ok hA hlow hl (fun e h1 k1 x1 => ⟨_,rfl,?_⟩)
 refine zc ?_
 refine br (e ≠ 0) (by rw [e_neq hA]) (fun c1 => ?_) (fun c1 => ?_) <;> refine zc ?_
 ·exact hQ e h1 none 0 0 k1 (by unfold ifOk;rw [if_neg c1];exact Rows.nil _ iC_len (by omega)) (by omega) x1
 have e0 : e = 0:=Decidable.of_not_not c1
 have ln:=k1.zero e0
 refine cls_ok hA (x1.lowOK hlow) (hl.ext x1) ln (fun h2 cb C co1 rc c1 c10 hb x2 => ⟨_,_,_,rfl,?_⟩)
 refine zc ?_
 exact hQ 0 h2 _ _ _ (e0 ▸ k1) rc (by omega) (x1.trans x2)
theorem grcls_ok {h : AHeap} (hlow : h.low ≤ h.next) {a : Option Addr} {N c : Nat} {l : List Int} (hl : Is h a N l) {Q : Value → AHeap → Prop}
  (hQ : ∀ e h' ao k co,CheckL l e → Is h' ao k (ifOk e (clsL l)) → k ≤ 100 → Ext h h' → Q (.tuple #[.slice ao k co,.int .i64 e]) h') : call 11 [.slice a N c] h Q:=by
 have lN:=hl.len
 refine hA.bodyR Try.func11 r11_ok (hA.alike _ _ _ rfl) hlow (zc ?_)
 refine rchk_ok hA hlow hl (fun e h1 k1 x1 => ⟨_,rfl,?_⟩)
 refine zc ?_
 refine br (e ≠ 0) (by rw [e_neq hA]) (fun c1 => ?_) (fun c1 => ?_) <;> refine zc ?_
 ·refine rchk_ok hA (x1.lowOK hlow) (hl.ext x1) (fun e' h2 k2 x2 => ⟨_,rfl,?_⟩)
  obtain rfl:=k1.uniq k2
  refine zc ?_
  exact hQ e h2 none 0 0 k1 (by unfold ifOk;rw [if_neg c1];exact Rows.nil _ iC_len (by omega)) (by omega) (x1.trans x2)
 have e0 : e = 0:=Decidable.of_not_not c1
 have ln:=k1.zero e0
 refine rcls_ok hA (x1.lowOK hlow) (hl.ext x1) ln (fun h2 ao k co rc k100 x2 => ⟨_,_,_,rfl,?_⟩)
 refine zc ?_
 exact hQ 0 h2 _ _ _ (e0 ▸ k1) rc (by omega) (x1.trans x2)
theorem grow_ok {h : AHeap} (hlow : h.low ≤ h.next) {a : Option Addr} {N c : Nat} {l : List Int} (hl : Is h a N l) {Q : Value → AHeap → Prop}
  (hQ : ∀ e h' ao k co hs,CheckL l e → GrR iC 1 h' ao k hs (ifOk e (rowsL l)) → k ≤ 100 → Ext h h' → Q (.tuple #[.slice ao k co,.int .i64 e]) h') : call 12 [.slice a N c] h Q:=by
 have lN:=hl.len
 refine hA.bodyR Try.func12 r12_ok (hA.alike _ _ _ rfl) hlow (zc ?_)
 refine chk_ok hA hlow hl (fun e h1 k1 x1 => ⟨_,rfl,?_⟩)
 refine zc ?_
 refine br (e ≠ 0) (by rw [e_neq hA]) (fun c1 => ?_) (fun c1 => ?_) <;> refine zc ?_
 ·exact hQ e h1 none 0 0 [] k1 (by unfold ifOk;rw [if_neg c1];exact GrR.nil _ iC_len (by omega)) (by omega) x1
 have e0 : e = 0:=Decidable.of_not_not c1
 have ln:=k1.zero e0
 refine rows_ok hA (x1.lowOK hlow) (hl.ext x1) ln (fun h2 ao k co hs g2 hk k10 x2 => ⟨_,_,_,rfl,?_⟩)
 refine zc ?_
 exact hQ 0 h2 _ _ _ _ (e0 ▸ k1) g2 (by omega) (x1.trans x2)
theorem grrow_ok {h : AHeap} (hlow : h.low ≤ h.next) {a : Option Addr} {N c : Nat} {l : List Int} (hl : Is h a N l) {Q : Value → AHeap → Prop}
  (hQ : ∀ e h' ao k co hs,CheckL l e → GrR iC 1 h' ao k hs (ifOk e (rowsL l)) → k ≤ 100 → Ext h h' → Q (.tuple #[.slice ao k co,.int .i64 e]) h') : call 13 [.slice a N c] h Q:=by
 have lN:=hl.len
 refine hA.bodyR Try.func13 r13_ok (hA.alike _ _ _ rfl) hlow (zc ?_)
 refine rchk_ok hA hlow hl (fun e h1 k1 x1 => ⟨_,rfl,?_⟩)
 refine zc ?_
 refine br (e ≠ 0) (by rw [e_neq hA]) (fun c1 => ?_) (fun c1 => ?_) <;> refine zc ?_
 ·refine rchk_ok hA (x1.lowOK hlow) (hl.ext x1) (fun e' h2 k2 x2 => ⟨_,rfl,?_⟩)
  obtain rfl:=k1.uniq k2
  refine zc ?_
  exact hQ e h2 none 0 0 [] k1 (by unfold ifOk;rw [if_neg c1];exact GrR.nil _ iC_len (by omega)) (by omega) (x1.trans x2)
 have e0 : e = 0:=Decidable.of_not_not c1
 have ln:=k1.zero e0
 refine rrows_ok hA (x1.lowOK hlow) (hl.ext x1) ln (fun h2 ao k co hs g2 hk k10 x2 => ⟨_,_,_,rfl,?_⟩)
 refine zc ?_
 exact hQ 0 h2 _ _ _ _ (e0 ▸ k1) g2 (by omega) (x1.trans x2)
theorem gbas_ok {h : AHeap} (hlow : h.low ≤ h.next) {a : Option Addr} {N c : Nat} {l : List Int} (hl : Is h a N l) {Q : Value → AHeap → Prop}
  (hQ : ∀ e h' ao k co hs,CheckL l e → GrR fC 2 h' ao k hs (ifOk e (basL l)) → k ≤ 100 → Ext h h' → Q (.tuple #[.slice ao k co,.int .i64 e]) h') : call 14 [.slice a N c] h Q:=by
 have lN:=hl.len
 refine hA.bodyR Try.func14 r14_ok (hA.alike _ _ _ rfl) hlow (zc ?_)
 refine chk_ok hA hlow hl (fun e h1 k1 x1 => ⟨_,rfl,?_⟩)
 refine zc ?_
 refine br (e ≠ 0) (by rw [e_neq hA]) (fun c1 => ?_) (fun c1 => ?_) <;> refine zc ?_
 ·exact hQ e h1 none 0 0 [] k1 (by unfold ifOk;rw [if_neg c1];exact GrR.nil _ fC_len (by omega)) (by omega) x1
 have e0 : e = 0:=Decidable.of_not_not c1
 have ln:=k1.zero e0
 refine basis_ok hA (x1.lowOK hlow) (hl.ext x1) ln (line_okay (zrow_len _) ln (zrow_small _)) (wid_few ln) (fun h2 ao k co hs g2 hk x2 => ⟨_,_,_,rfl,?_⟩)
 refine zc ?_
 exact hQ 0 h2 _ _ _ _ (e0 ▸ k1) g2 (by have:=basTo_len (SE l (zrow (pairsL l.length).length)) (wid l) (wid l);have:=wid_few ln;have e9 : (basL l).length = (basTo (SE l (zrow (pairsL l.length).length)) (wid l) (wid l)).length:=rfl;omega) (x1.trans x2)
theorem grbas_ok {h : AHeap} (hlow : h.low ≤ h.next) {a : Option Addr} {N c : Nat} {l : List Int} (hl : Is h a N l) {Q : Value → AHeap → Prop}
  (hQ : ∀ e h' ao k co hs,CheckL l e → GrR fC 2 h' ao k hs (ifOk e (basL l)) → k ≤ 100 → Ext h h' → Q (.tuple #[.slice ao k co,.int .i64 e]) h') : call 15 [.slice a N c] h Q:=by
 have lN:=hl.len
 refine hA.bodyR Try.func15 r15_ok (hA.alike _ _ _ rfl) hlow (zc ?_)
 refine rchk_ok hA hlow hl (fun e h1 k1 x1 => ⟨_,rfl,?_⟩)
 refine zc ?_
 refine br (e ≠ 0) (by rw [e_neq hA]) (fun c1 => ?_) (fun c1 => ?_) <;> refine zc ?_
 ·refine rchk_ok hA (x1.lowOK hlow) (hl.ext x1) (fun e' h2 k2 x2 => ⟨_,rfl,?_⟩)
  obtain rfl:=k1.uniq k2
  refine zc ?_
  exact hQ e h2 none 0 0 [] k1 (by unfold ifOk;rw [if_neg c1];exact GrR.nil _ fC_len (by omega)) (by omega) (x1.trans x2)
 have e0 : e = 0:=Decidable.of_not_not c1
 have ln:=k1.zero e0
 refine rbasis_ok hA (x1.lowOK hlow) (hl.ext x1) ln (wid_few ln) (fun h2 ao k co hs g2 hk x2 => ⟨_,_,_,rfl,?_⟩)
 refine zc ?_
 exact hQ 0 h2 _ _ _ _ (e0 ▸ k1) g2 (by have:=basTo_len (SE l (zrow (pairsL l.length).length)) (wid l) (wid l);have:=wid_few ln;have e9 : (basL l).length = (basTo (SE l (zrow (pairsL l.length).length)) (wid l) (wid l)).length:=rfl;omega) (x1.trans x2)
theorem gred_ok {h : AHeap} (hlow : h.low ≤ h.next) {a : Option Addr} {N c : Nat} {l : List Int} (hl : Is h a N l) {Q : Value → AHeap → Prop}
  (hQ : ∀ e h' r,CheckL l e → (r = if e = 0 then decide (((basL l).length : Int) = 2) else false) → Ext h h' → Q (.tuple #[.bool r,.int .i64 e]) h') : call 16 [.slice a N c] h Q:=by
 have lN:=hl.len
 refine hA.bodyR Try.func16 r16_ok (hA.alike _ _ _ rfl) hlow (zc ?_)
 refine chk_ok hA hlow hl (fun e h1 k1 x1 => ⟨_,rfl,?_⟩)
 refine zc ?_
 refine br (e ≠ 0) (by rw [e_neq hA]) (fun c1 => ?_) (fun c1 => ?_) <;> refine zc ?_
 ·exact hQ e h1 false k1 (by rw [if_neg c1]) x1
 have e0 : e = 0:=Decidable.of_not_not c1
 have ln:=k1.zero e0
 refine basis_ok hA (x1.lowOK hlow) (hl.ext x1) ln (line_okay (zrow_len _) ln (zrow_small _)) (wid_few ln) (fun h2 ao k co hs g2 hk x2 => ⟨_,_,_,rfl,?_⟩)
 refine zc ?_
 refine hQ 0 h2 _ (e0 ▸ k1) ?_ (x1.trans x2)
 rw [if_pos rfl,e_eql hA,e_ofNat hA,hk]
theorem grred_ok {h : AHeap} (hlow : h.low ≤ h.next) {a : Option Addr} {N c : Nat} {l : List Int} (hl : Is h a N l) {Q : Value → AHeap → Prop}
  (hQ : ∀ e h' r,CheckL l e → (r = if e = 0 then decide (((basL l).length : Int) = 2) else false) → Ext h h' → Q (.tuple #[.bool r,.int .i64 e]) h') : call 17 [.slice a N c] h Q:=by
 have lN:=hl.len
 refine hA.bodyR Try.func17 r17_ok (hA.alike _ _ _ rfl) hlow (zc ?_)
 refine rchk_ok hA hlow hl (fun e h1 k1 x1 => ⟨_,rfl,?_⟩)
 refine zc ?_
 refine br (e ≠ 0) (by rw [e_neq hA]) (fun c1 => ?_) (fun c1 => ?_) <;> refine zc ?_
 ·refine rchk_ok hA (x1.lowOK hlow) (hl.ext x1) (fun e' h2 k2 x2 => ⟨_,rfl,?_⟩)
  obtain rfl:=k1.uniq k2
  refine zc ?_
  exact hQ e h2 false k1 (by rw [if_neg c1]) (x1.trans x2)
 have e0 : e = 0:=Decidable.of_not_not c1
 have ln:=k1.zero e0
 refine rbasis_ok hA (x1.lowOK hlow) (hl.ext x1) ln (wid_few ln) (fun h2 ao k co hs g2 hk x2 => ⟨_,_,_,rfl,?_⟩)
 refine zc ?_
 refine hQ 0 h2 _ (e0 ▸ k1) ?_ (x1.trans x2)
 rw [if_pos rfl,e_eql hA,e_ofNat hA,hk]
end Go.Proofs.Ytogliemiljhliaa
namespace Go.Proofs.Ytogliemiljhliaa
open Go.Sim
set_option linter.unusedVariables false
set_option maxRecDepth 100000
theorem basTo_row (S : St) (n : Nat) : ∀ c,∀ r,r ∈ basTo S n c → r.length = n
 | 0,r,h => by cases h
 | c + 1,r,h => by
  unfold basTo at h
  split at h
  ·exact basTo_row S n c r h
  ·rcases List.mem_append.1 h with q | q
   ·exact basTo_row S n c r q
   ·simp only [List.mem_singleton] at q;rw [q];exact bvec_len _ _ _
theorem few_if {α : Type} {e : Int} {L : List (List α)} {k : Nat} (hk : e = 0 → ∀ r,r ∈ L → r.length ≤ 100000) (hl : (ifOk e L).length = k) : ∀ y : Int,0 ≤ y → y < k → (gt (ifOk e L) y).length ≤ 100000:=fun y y0 y1 => by
 have m:=gt_mem (ifOk e L) (i:=y) y0 (by omega)
 unfold ifOk at m ⊢
 split at m
 ·rename_i e0
  rw [if_pos e0]
  exact hk e0 _ m
 ·cases m
variable {F : Prims} {call head arith cmp scmp bnot bsame conv neg imax imin ofNat slen place inR nz geZ rd wr push next mkOK nat zeros sadd eqAgg cut slc sslc strAt part app cpy putAt fresh lowered bump wrote addN lt ne fpAll fpApp brk yn rng mget mput mnew bytes clr : _} (hA : AP F ⟨call,head,arith,cmp,scmp,bnot,bsame,conv,neg,imax,imin,ofNat,slen,place,inR,nz,geZ,rd,wr,push,next,mkOK,nat,zeros,sadd,eqAgg,cut,slc,sslc,strAt,part,app,cpy,putAt,fresh,lowered,bump,wrote,addN,lt,ne,fpAll,fpApp,brk,yn,rng,mget,mput,mnew,bytes,clr⟩)
include hA
theorem llines_ok {h : AHeap} (hlow : h.low ≤ h.next) {a : Option Addr} {N c : Nat} {l : List Int} (hl : Is h a N l) {Q : Value → AHeap → Prop}
  (hQ : ∀ h',Ext h h' → Q (.bool true) h') : call 3 [.slice a N c] h Q:=by
 have lN:=hl.len
 refine hA.bodyR Try.func3 r3_ok (hA.alike _ _ _ rfl) hlow (zc ?_)
 refine br (40 < (N : Int)) (by rw [e_gtr hA,e_ofNat hA]) (fun _ => ?_) (fun _ => ?_) <;> refine zc ?_
 ·exact hQ h (.refl h)
 refine gcls_ok hA hlow hl (fun e h1 a1 k1 co1 q1 r1 b1 x1 => ⟨_,_,_,_,rfl,?_⟩)
 refine zc ?_
 refine grcls_ok hA (x1.lowOK hlow) (hl.ext x1) (fun e' h2 a2 k2 co2 q2 r2 b2 x2 => ⟨_,_,_,_,rfl,?_⟩)
 obtain rfl:=q1.uniq q2
 have y2:=x1.trans x2
 refine zc ?_
 refine grow_ok hA (y2.lowOK hlow) (hl.ext y2) (fun e' h3 a3 k3 co3 hs3 q3 r3 b3 x3 => ⟨_,_,_,_,rfl,?_⟩)
 obtain rfl:=q1.uniq q3
 have y3:=y2.trans x3
 refine zc ?_
 refine grrow_ok hA (y3.lowOK hlow) (hl.ext y3) (fun e' h4 a4 k4 co4 hs4 q4 r4 b4 x4 => ⟨_,_,_,_,rfl,?_⟩)
 obtain rfl:=q1.uniq q4
 have y4:=y3.trans x4
 refine zc ?_
 refine gbas_ok hA (y4.lowOK hlow) (hl.ext y4) (fun e' h5 a5 k5 co5 hs5 q5 r5 b5 x5 => ⟨_,_,_,_,rfl,?_⟩)
 obtain rfl:=q1.uniq q5
 have y5:=y4.trans x5
 refine zc ?_
 refine grbas_ok hA (y5.lowOK hlow) (hl.ext y5) (fun e' h6 a6 k6 co6 hs6 q6 r6 b6 x6 => ⟨_,_,_,_,rfl,?_⟩)
 obtain rfl:=q1.uniq q6
 have y6:=y5.trans x6
 refine zc ?_
 refine gred_ok hA (y6.lowOK hlow) (hl.ext y6) (fun e' h7 v7 q7 r7 x7 => ⟨_,_,rfl,?_⟩)
 obtain rfl:=q1.uniq q7
 have y7:=y6.trans x7
 refine zc ?_
 refine grred_ok hA (y7.lowOK hlow) (hl.ext y7) (fun e' h8 v8 q8 r8 x8 => ⟨_,_,rfl,?_⟩)
 obtain rfl:=q1.uniq q8
 have y8:=y7.trans x8
 obtain rfl : v7 = v8:=r7.trans r8.symm
 refine zc ?_
 refine chk_ok hA (y8.lowOK hlow) (hl.ext y8) (fun e' h9 q9 x9 => ⟨_,rfl,?_⟩)
 obtain rfl:=q1.uniq q9
 have y9:=y8.trans x9
 refine zc ?_
 refine rchk_ok hA (y9.lowOK hlow) (hl.ext y9) (fun e' h10 q10 x10 => ⟨_,rfl,?_⟩)
 obtain rfl:=q1.uniq q10
 have y10:=y9.trans x10
 have z1 : Ext h1 h10:=x2.trans (x3.trans (x4.trans (x5.trans (x6.trans (x7.trans (x8.trans (x9.trans x10)))))))
 have z2 : Ext h2 h10:=x3.trans (x4.trans (x5.trans (x6.trans (x7.trans (x8.trans (x9.trans x10))))))
 have z3 : Ext h3 h10:=x4.trans (x5.trans (x6.trans (x7.trans (x8.trans (x9.trans x10)))))
 have z4 : Ext h4 h10:=x5.trans (x6.trans (x7.trans (x8.trans (x9.trans x10))))
 have z5 : Ext h5 h10:=x6.trans (x7.trans (x8.trans (x9.trans x10)))
 have z6 : Ext h6 h10:=x7.trans (x8.trans (x9.trans x10))
 refine zc ?_
 refine br (e = e) (by rw [e_eql hA]) (fun _ => ?_) (fun q => absurd rfl q) <;> refine zc ?_
 refine zc ?_
 obtain rfl : k1 = k2:=by rw [← r1.len,← r2.len]
 refine ints_ok hA (y10.lowOK hlow) (r1.ext z1) (r2.ext z2) (by omega) (fun g1 u1 => ⟨_,rfl,?_⟩)
 have t1:=y10.trans u1
 have lines : e = 0 → Line l:=fun e0 => q1.zero e0
 refine zc ?_
 refine br (e = e) (by rw [e_eql hA]) (fun _ => ?_) (fun q => absurd rfl q) <;> refine zc ?_
 refine zc ?_
 obtain rfl : k3 = k4:=by rw [← r3.len,← r4.len]
 refine lists_ok hA (t1.lowOK hlow) (r3.ext (z3.trans u1)) (r4.ext (z4.trans u1)) (by omega) (few_if (fun e0 r hr => by
  have ln:=lines e0
  have:=wid_few ln
  unfold rowsL at hr
  obtain ⟨p,_,rfl⟩:=List.mem_map.1 hr
  rw [rowF_len];omega) r3.len) (fun g2 u2 => ⟨_,rfl,?_⟩)
 have t2:=t1.trans u2
 refine zc ?_
 refine br (e = e) (by rw [e_eql hA]) (fun _ => ?_) (fun q => absurd rfl q) <;> refine zc ?_
 refine zc ?_
 obtain rfl : k5 = k6:=by rw [← r5.len,← r6.len]
 refine alls_ok hA (t2.lowOK hlow) (r5.ext ((z5.trans u1).trans u2)) (r6.ext ((z6.trans u1).trans u2)) (by omega) (few_if (fun e0 r hr => by
  have ln:=lines e0
  have:=wid_few ln
  have:=basTo_row _ _ _ r hr
  omega) r5.len) (fun g3 u3 => ⟨_,rfl,?_⟩)
 have t3:=t2.trans u3
 refine zc ?_
 refine br (e = e) (by rw [e_eql hA]) (fun _ => ?_) (fun q => absurd rfl q) <;> refine zc ?_
 refine zc ?_
 refine br True (by rw [e_bsame hA];cases v7 <;> rfl) (fun _ => ?_) (fun q => absurd trivial q) <;> refine zc ?_
 refine zc ?_
 rw [show cmp .eql e e = true by rw [e_eql hA];simp]
 exact hQ g3 t3
end Go.Proofs.Ytogliemiljhliaa
