import Derived.Test.YtogliemiljhliaaRdV
import Derived.Test.YtogliemiljhliaaFracPrims
import Derived.Test.YtogliemiljhliaaRdF
set_option linter.unusedSimpArgs false
set_option linter.unusedVariables false
namespace Go.Proofs.Ytogliemiljhliaa
open Go.Sim
set_option linter.unusedVariables false
set_option maxRecDepth 100000
variable {F : Prims} {call head arith cmp scmp bnot bsame conv neg imax imin ofNat slen place inR nz geZ rd wr push next mkOK nat zeros sadd eqAgg cut slc sslc strAt part app cpy putAt fresh lowered bump wrote addN lt ne fpAll fpApp brk yn rng mget mput mnew bytes clr : _} (hA : AP F ⟨call,head,arith,cmp,scmp,bnot,bsame,conv,neg,imax,imin,ofNat,slen,place,inR,nz,geZ,rd,wr,push,next,mkOK,nat,zeros,sadd,eqAgg,cut,slc,sslc,strAt,part,app,cpy,putAt,fresh,lowered,bump,wrote,addN,lt,ne,fpAll,fpApp,brk,yn,rng,mget,mput,mnew,bytes,clr⟩)
include hA
theorem ints_loop {h : AHeap} (hlow : h.low ≤ h.next) {a b : Option Addr} {n ca cb : Nat} {l : List Int} (ha : Is h a n l) (hb : Is h b n l) (n100 : n ≤ 100000) {Q : Exit → SS → Prop} (hQ : ∀ h' kn T,Ext h h' → Q (.exit 0) ⟨[],kn,T,h'⟩) :
  ∀ (d i : Nat) (I : Int) (h1 : AHeap),n - i = d → i ≤ n → I = i → Ext h h1 → head 20 4 0 ⟨[(0,.slice a n ca),(1,.slice b n cb),(5,.int .i64 I)],0,[],h1⟩ Q:=by
 intro d
 induction d with
 | zero =>
  intro i I h1 hd hi eI e
  refine hA.roundR Try.func20 r20_ok (zc ?_)
  refine br (I < (n : Int)) (by rw [e_lss hA,e_ofNat hA]) (fun q => by omega) (fun _ => ?_) <;> refine zc ?_
  exact hQ h1 _ _ e
 | succ d ih =>
 intro i I h1 hd hi eI e
 have x9 : Ext h1 (bump h1 9):=ext_bump hA _ _
 obtain ⟨ab,ao,x,e1,_,hx,r1⟩:=is_at (ha.ext (e.trans x9)) (i:=I) (by omega) (by omega)
 obtain ⟨bb,bo,y,e2,_,hy,r2⟩:=is_at (hb.ext (e.trans x9)) (i:=I) (by omega) (by omega)
 subst e1 e2
 obtain rfl : x = y:=by rw [← hx,← hy]
 have r1:=rd_ok hA r1
 have r2:=rd_ok hA r2
 refine hA.roundR Try.func20 r20_ok (zc ?_)
 refine br (I < (n : Int)) (by rw [e_lss hA,e_ofNat hA]) (fun _ => ?_) (fun q => by omega) <;> refine zc ?_
 refine zq ?_
 refine br (x ≠ x) (by rw [e_neq hA]) (fun q => absurd rfl q) (fun _ => ?_) <;> refine zc ?_
 refine zq ?_
 rw [add64 hA (by omega) (by omega)]
 exact ih (i + 1) (I + 1) _ (by omega) (by omega) (by omega) (e.trans x9)
theorem ints_ok {h : AHeap} (hlow : h.low ≤ h.next) {a b : Option Addr} {n ca cb : Nat} {l : List Int} (ha : Is h a n l) (hb : Is h b n l) (n100 : n ≤ 100000) {Q : Value → AHeap → Prop} (hQ : ∀ h',Ext h h' → Q (.bool true) h') : call 20 [.slice a n ca,.slice b n cb] h Q:=by
 refine hA.bodyR Try.func20 r20_ok (hA.alike _ _ _ rfl) hlow (zc ?_)
 refine br ((n : Int) ≠ n) (by rw [e_neq hA,e_ofNat hA]) (fun q => absurd rfl q) (fun _ => ?_) <;> refine zc ?_
 refine ints_loop hA hlow ha hb n100 (fun h' kn T e => ?_) n 0 0 h (by omega) (by omega) rfl (.refl h)
 refine zc ?_
 exact hQ h' e
theorem fracs_loop {h : AHeap} (hlow : h.low ≤ h.next) {a b : Option Addr} {n ca cb : Nat} {l : List Fc} (ha : Rows fC 2 h a n l) (hb : Rows fC 2 h b n l) (n100 : n ≤ 100000) {Q : Exit → SS → Prop} (hQ : ∀ h' kn T,Ext h h' → Q (.exit 0) ⟨[],kn,T,h'⟩) :
  ∀ (d i : Nat) (I : Int) (h1 : AHeap),n - i = d → i ≤ n → I = i → Ext h h1 → head 28 4 0 ⟨[(0,.slice a n ca),(1,.slice b n cb),(5,.int .i64 I)],0,[],h1⟩ Q:=by
 intro d
 induction d with
 | zero =>
  intro i I h1 hd hi eI e
  refine hA.roundR Try.func28 r28_ok (zc ?_)
  refine br (I < (n : Int)) (by rw [e_lss hA,e_ofNat hA]) (fun q => by omega) (fun _ => ?_) <;> refine zc ?_
  exact hQ h1 _ _ e
 | succ d ih =>
 intro i I h1 hd hi eI e
 have x9 : Ext h1 (bump h1 9):=ext_bump hA _ _
 obtain ⟨ab,ao,e1,_,r1⟩:=(ha.ext (e.trans x9)).at (i:=I) (by omega) (by omega)
 obtain ⟨bb,bo,e2,_,r2⟩:=(hb.ext (e.trans x9)).at (i:=I) (by omega) (by omega)
 subst e1 e2
 obtain ⟨xn,xd,hx⟩ : ∃ x y,gt l I = ⟨x,y⟩:=⟨_,_,rfl⟩
 have r1:=r1 0 2 (by omega) (by omega)
 have r2:=r2 0 2 (by omega) (by omega)
 rw [hx] at r1 r2
 have r1 : rd (bump h1 9) ab (place ao I 2) 2 [.int .i64 xn,.int .i64 xd]:=rd_ok hA r1
 have r2 : rd (bump h1 9) bb (place bo I 2) 2 [.int .i64 xn,.int .i64 xd]:=rd_ok hA r2
 refine hA.roundR Try.func28 r28_ok (zc ?_)
 refine br (I < (n : Int)) (by rw [e_lss hA,e_ofNat hA]) (fun _ => ?_) (fun q => by omega) <;> refine zc ?_
 refine zq ?_
 obtain ⟨r,hr1,hr2⟩:=eqF xn xd xn xd
 obtain rfl : r = true:=hr2.2 ⟨rfl,rfl⟩
 rw [e_eqAgg hA]
 refine ⟨guardF,true,hr1,?_⟩
 refine zc ?_
 refine br False (by rw [e_bnot hA];rfl) (fun q => q.elim) (fun _ => ?_) <;> refine zc ?_
 rw [add64 hA (by omega) (by omega)]
 exact ih (i + 1) (I + 1) _ (by omega) (by omega) (by omega) (e.trans x9)
theorem fracs_ok {h : AHeap} (hlow : h.low ≤ h.next) {a b : Option Addr} {n ca cb : Nat} {l : List Fc} (ha : Rows fC 2 h a n l) (hb : Rows fC 2 h b n l) (n100 : n ≤ 100000) {Q : Value → AHeap → Prop} (hQ : ∀ h',Ext h h' → Q (.bool true) h') : call 28 [.slice a n ca,.slice b n cb] h Q:=by
 refine hA.bodyR Try.func28 r28_ok (hA.alike _ _ _ rfl) hlow (zc ?_)
 refine br ((n : Int) ≠ n) (by rw [e_neq hA,e_ofNat hA]) (fun q => absurd rfl q) (fun _ => ?_) <;> refine zc ?_
 refine fracs_loop hA hlow ha hb n100 (fun h' kn T e => ?_) n 0 0 h (by omega) (by omega) rfl (.refl h)
 refine zc ?_
 exact hQ h' e
end Go.Proofs.Ytogliemiljhliaa
namespace Go.Proofs.Ytogliemiljhliaa
open Go.Sim
set_option linter.unusedVariables false
set_option maxRecDepth 100000
theorem wid_few {l : List Int} (ln : Line l) : wid l < 50:=by
 have h5:=ln.n5
 have h : (clsL l).length ≤ (upN 32).length:=by unfold clsL;exact List.length_filter_le _ _
 have : (upN 32).length = 32:=by decide
 unfold wid
 omega
def ifOk {α : Type} (e : Int) (L : List α) : List α:=if e = 0 then L else []
theorem GrR.nil {α : Type} [Inhabited α] {enc : α → List Value} {es : Nat} (h : AHeap) (he : ∀ x,(enc x).length = es) (hp : 0 < es) : GrR enc es h none 0 [] []:=⟨Rows.nil h hd_len (by omega),rfl,fun y y0 y1 => by omega⟩
variable {F : Prims} {call head arith cmp scmp bnot bsame conv neg imax imin ofNat slen place inR nz geZ rd wr push next mkOK nat zeros sadd eqAgg cut slc sslc strAt part app cpy putAt fresh lowered bump wrote addN lt ne fpAll fpApp brk yn rng mget mput mnew bytes clr : _} (hA : AP F ⟨call,head,arith,cmp,scmp,bnot,bsame,conv,neg,imax,imin,ofNat,slen,place,inR,nz,geZ,rd,wr,push,next,mkOK,nat,zeros,sadd,eqAgg,cut,slc,sslc,strAt,part,app,cpy,putAt,fresh,lowered,bump,wrote,addN,lt,ne,fpAll,fpApp,brk,yn,rng,mget,mput,mnew,bytes,clr⟩)
include hA
theorem gcls_ok {h : AHeap} (hlow : h.low ≤ h.next) {a : Option Addr} {N c : Nat} {l : List Int} (hl : Is h a N l) {Q : Value → AHeap → Prop}
  (hQ : ∀ e h' ao k co,CheckL l e → Is h' ao k (ifOk e (clsL l)) → k ≤ 100 → Ext h h' → Q (.tuple #[.slice ao k co,.int .i64 e]) h') : call 10 [.slice a N c] h Q:=by
 have lN:=hl.len
 refine hA.bodyR Try.func10 r10_ok (hA.alike _ _ _ rfl) hlow (zc ?_)
 refine chk_ok hA hlow hl (fun e h1 k1 x1 => ⟨_,rfl,?_⟩)
 refine zc ?_
 refine br (e ≠ 0) (by rw [e_neq hA]) (fun c1 => ?_) (fun c1 => ?_) <;> refine zc ?_
 ·exact hQ e h1 none 0 0 k1 (by unfold ifOk;rw [if_neg c1];exact Rows.nil _ iC_len (by omega)) (by omega) x1
 have e0 : e = 0:=Decidable.of_not_not c1
 have ln:=k1.zero e0
 refine cls_ok hA (x1.lowOK hlow) (hl.ext x1) ln (fun h2 cb C co1 rc c1 c10 hb x2 => ⟨_,_,_,rfl,?_⟩)
 refine zc ?_
 exact hQ 0 h2 _ _ _ (e0 ▸ k1) rc (by omega) (x1.trans x2)
theorem grow_ok {h : AHeap} (hlow : h.low ≤ h.next) {a : Option Addr} {N c : Nat} {l : List Int} (hl : Is h a N l) {Q : Value → AHeap → Prop}
  (hQ : ∀ e h' ao k co hs,CheckL l e → GrR iC 1 h' ao k hs (ifOk e (rowsL l)) → k ≤ 100 → Ext h h' → Q (.tuple #[.slice ao k co,.int .i64 e]) h') : call 12 [.slice a N c] h Q:=by
 have lN:=hl.len
 refine hA.bodyR Try.func12 r12_ok (hA.alike _ _ _ rfl) hlow (zc ?_)
 refine chk_ok hA hlow hl (fun e h1 k1 x1 => ⟨_,rfl,?_⟩)
 refine zc ?_
 refine br (e ≠ 0) (by rw [e_neq hA]) (fun c1 => ?_) (fun c1 => ?_) <;> refine zc ?_
 ·exact hQ e h1 none 0 0 [] k1 (by unfold ifOk;rw [if_neg c1];exact GrR.nil _ iC_len (by omega)) (by omega) x1
 have e0 : e = 0:=Decidable.of_not_not c1
 have ln:=k1.zero e0
 refine rows_ok hA (x1.lowOK hlow) (hl.ext x1) ln (fun h2 ao k co hs g2 hk k10 x2 => ⟨_,_,_,rfl,?_⟩)
 refine zc ?_
 exact hQ 0 h2 _ _ _ _ (e0 ▸ k1) g2 (by omega) (x1.trans x2)
theorem gbas_ok {h : AHeap} (hlow : h.low ≤ h.next) {a : Option Addr} {N c : Nat} {l : List Int} (hl : Is h a N l) {Q : Value → AHeap → Prop}
  (hQ : ∀ e h' ao k co hs,CheckL l e → GrR fC 2 h' ao k hs (ifOk e (basL l)) → k ≤ 100 → Ext h h' → Q (.tuple #[.slice ao k co,.int .i64 e]) h') : call 14 [.slice a N c] h Q:=by
 have lN:=hl.len
 refine hA.bodyR Try.func14 r14_ok (hA.alike _ _ _ rfl) hlow (zc ?_)
 refine chk_ok hA hlow hl (fun e h1 k1 x1 => ⟨_,rfl,?_⟩)
 refine zc ?_
 refine br (e ≠ 0) (by rw [e_neq hA]) (fun c1 => ?_) (fun c1 => ?_) <;> refine zc ?_
 ·exact hQ e h1 none 0 0 [] k1 (by unfold ifOk;rw [if_neg c1];exact GrR.nil _ fC_len (by omega)) (by omega) x1
 have e0 : e = 0:=Decidable.of_not_not c1
 have ln:=k1.zero e0
 refine basis_ok hA (x1.lowOK hlow) (hl.ext x1) ln (line_okay (zrow_len _) ln (zrow_small _)) (wid_few ln) (fun h2 ao k co hs g2 hk x2 => ⟨_,_,_,rfl,?_⟩)
 refine zc ?_
 exact hQ 0 h2 _ _ _ _ (e0 ▸ k1) g2 (by have:=basTo_len (SE l (zrow (pairsL l.length).length)) (wid l) (wid l);have:=wid_few ln;have e9 : (basL l).length = (basTo (SE l (zrow (pairsL l.length).length)) (wid l) (wid l)).length:=rfl;omega) (x1.trans x2)
theorem gred_ok {h : AHeap} (hlow : h.low ≤ h.next) {a : Option Addr} {N c : Nat} {l : List Int} (hl : Is h a N l) {Q : Value → AHeap → Prop}
  (hQ : ∀ e h' r,CheckL l e → (r = if e = 0 then decide (((basL l).length : Int) = 2) else false) → Ext h h' → Q (.tuple #[.bool r,.int .i64 e]) h') : call 16 [.slice a N c] h Q:=by
 have lN:=hl.len
 refine hA.bodyR Try.func16 r16_ok (hA.alike _ _ _ rfl) hlow (zc ?_)
 refine chk_ok hA hlow hl (fun e h1 k1 x1 => ⟨_,rfl,?_⟩)
 refine zc ?_
 refine br (e ≠ 0) (by rw [e_neq hA]) (fun c1 => ?_) (fun c1 => ?_) <;> refine zc ?_
 ·exact hQ e h1 false k1 (by rw [if_neg c1]) x1
 have e0 : e = 0:=Decidable.of_not_not c1
 have ln:=k1.zero e0
 refine basis_ok hA (x1.lowOK hlow) (hl.ext x1) ln (line_okay (zrow_len _) ln (zrow_small _)) (wid_few ln) (fun h2 ao k co hs g2 hk x2 => ⟨_,_,_,rfl,?_⟩)
 refine zc ?_
 refine hQ 0 h2 _ (e0 ▸ k1) ?_ (x1.trans x2)
 rw [if_pos rfl,e_eql hA,e_ofNat hA,hk]
end Go.Proofs.Ytogliemiljhliaa
