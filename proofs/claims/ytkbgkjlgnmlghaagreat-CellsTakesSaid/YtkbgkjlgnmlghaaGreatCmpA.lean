import Derived.Test.YtkbgkjlgnmlghaaGreatFracX
import Derived.Test.YtkbgkjlgnmlghaaGreatSymBits
set_option linter.unusedSimpArgs false
set_option linter.unusedVariables false
namespace Go.Proofs.YtkbgkjlgnmlghaaGreat
open Go.Sim
set_option linter.unusedVariables false
theorem ext_bumpPut (h : AHeap) (n : Nat) {b : Nat} (hb : h.next ≤ b) (es : Nat) (cs : List Value) : Ext h ((h.bump n).putAt b es cs):=
 ⟨by simp [AHeap.bump,AHeap.putAt],fun l => by simp only [AHeap.bump,AHeap.putAt];omega,by simp only [AHeap.bump,AHeap.putAt];exact Nat.min_le_left _ _,fun i hi => by
  simp only [AHeap.bump,AHeap.putAt];rw [Tri.get_set_ne _ _ (by omega)]⟩
theorem all_flat {α : Type} {enc : α → List Value} (hok : ∀ x,(enc x).all cellOK = true) (l : List α) : (l.flatMap enc).all cellOK = true:=by
 rw [List.all_flatMap]
 simp only [hok,List.all_eq_true,implies_true]
variable {F : Prims} {call head arith cmp scmp bnot bsame conv neg imax imin ofNat slen place inR nz geZ rd wr push next mkOK nat zeros sadd eqAgg cut slc sslc strAt part app cpy putAt fresh lowered bump wrote addN lt ne fpAll fpApp brk yn rng mget mput mnew bytes clr : _} (hA : AP F ⟨call,head,arith,cmp,scmp,bnot,bsame,conv,neg,imax,imin,ofNat,slen,place,inR,nz,geZ,rd,wr,push,next,mkOK,nat,zeros,sadd,eqAgg,cut,slc,sslc,strAt,part,app,cpy,putAt,fresh,lowered,bump,wrote,addN,lt,ne,fpAll,fpApp,brk,yn,rng,mget,mput,mnew,bytes,clr⟩)
include hA
theorem app_ok {ts : List TypeId} {l : List Value} {h : AHeap} {C : Option Addr → Nat → Nat → AHeap → Prop} {a : Option Addr} {n c : Nat} {h' : AHeap} (h1 : appendH Tryz.prog h ts l = some (.slice a n c,h')) (h2 : C a n c h') : app ts l h C:=by
 rw [e_app hA];exact ⟨a,n,c,h',h1,h2⟩
theorem appR_ok {t e es : Nat} (hT : SliceT Tryz.prog t e es) {α : Type} {enc : α → List Value} (he : ∀ x,(enc x).length = es) (hp0 : 0 < es) (hok : ∀ x,(enc x).all cellOK = true) {h : AHeap} {a : Option Addr} {n c : Nat} {l : List α} {v : α} (hp : Apd h es a n c (l.flatMap enc)) (hn : n ≤ 100000) {C : Option Addr → Nat → Nat → AHeap → Prop}
  (hC : ∀ a' c' h',Apd h' es a' (n + 1) c' ((l ++ [v]).flatMap enc) → (∀ h0,Ext h0 h → From h0.next a → Ext h0 h' ∧ From h0.next a') → C a' (n + 1) c' h') :
  app [t,t] [.slice a n c,.slice (some ⟨next h,0,none⟩) 1 1] (push h es (enc v)) C:=by
 rw [e_app hA,e_push hA,e_next hA]
 have hs : Cells (h.push es (enc v)) (some ⟨h.next,0,none⟩) 1 es (enc v):=⟨rfl,by simp [AHeap.push],by rw [(Own.push h es _).readG (by rw [he];omega),List.drop_zero,List.take_of_length_le (by rw [he];omega)]⟩
 have hall : (l.flatMap enc).all cellOK = true:=by
  rw [List.all_flatMap]
  simp only [hok,List.all_eq_true,implies_true]
 obtain ⟨a',c',h',h1,h2,h3⟩:=append_ok hT hT.und (c2:=1) (hp.ext (.push h es (enc v))) hs hall (hok v) (by omega) (by omega)
 refine ⟨a',n + 1,c',h',h1,hC a' c' h' (by simpa using h2) (fun h0 e0 f0 => h3 h0 (e0.trans (.push _ _ _)) f0)⟩
theorem appD_ok {t e es : Nat} (hT : SliceT Tryz.prog t e es) {α : Type} {enc : α → List Value} (he : ∀ x,(enc x).length = es) (hp0 : 0 < es) (hok : ∀ x,(enc x).all cellOK = true) {h0 h h9 : AHeap} (hlow : h0.low ≤ h0.next) (e0 : Ext h0 h) {N k : Nat} (hk : k < N) (hh9 : h9 = bump h N)
  {a : Option Addr} {n c : Nat} {l : List α} {v : α} (hp : Apd h es a n c (l.flatMap enc)) (hf : From h0.next a) (hn : n ≤ 100000) {C : Option Addr → Nat → Nat → AHeap → Prop}
  (hC : ∀ a' c' h',Apd (lowered (putAt h9 (addN (next h) k) es (enc v)) h') es a' (n + 1) c' ((l ++ [v]).flatMap enc) → From h0.next a' → Ext h0 (lowered (putAt h9 (addN (next h) k) es (enc v)) h') → C a' (n + 1) c' h') :
  app [t,t] [.slice a n c,.slice (some ⟨addN (next h) k,0,none⟩) 1 1] (fresh (putAt h9 (addN (next h) k) es (enc v))) C:=by
 rw [e_bump hA] at hh9
 subst hh9
 rw [e_addN hA,e_next hA,e_putAt hA] at hC ⊢
 rw [e_fresh hA]
 have x1 : Ext h ((h.bump N).putAt (h.next + k) es (enc v)):=ext_bumpPut h N (by omega) es _
 have o1:=Own.putAt (h.bump N) (h.next + k) es (enc v)
 have n1 : ((h.bump N).putAt (h.next + k) es (enc v)).next = h.next + N:=rfl
 generalize (h.bump N).putAt (h.next + k) es (enc v) = X at *
 have xf:=x1.trans (Ext.freshed X)
 have o2 : Own X.freshed (h.next + k) es (enc v):=o1.ext (Ext.freshed X) (by omega)
 have hs : Cells X.freshed (some ⟨h.next + k,0,none⟩) 1 es (enc v):=⟨rfl,by show h.next + k < X.next;omega,by rw [o2.readG (by rw [he];omega),List.drop_zero,List.take_of_length_le (by rw [he];omega)]⟩
 obtain ⟨a',c',h',h1,h2,h3⟩:=append_ok hT hT.und (c2:=1) (hp.ext xf) hs (all_flat hok l) (hok v) (by omega) (by omega)
 obtain ⟨w1,w2⟩:=h3 h0 (e0.trans xf) hf
 rw [e_app hA]
 refine ⟨a',n + 1,c',h',h1,hC a' c' h' ?_ w2 ?_⟩
 ·rw [e_lowered hA]
  refine Apd.of_get (h:=h') (by simpa using h2) (Nat.le_refl _) (fun ad had hb => rfl)
 ·rw [e_lowered hA]
  exact Ext.lower' w1 (e0.trans x1) hlow
end Go.Proofs.YtkbgkjlgnmlghaaGreat
namespace Go.Proofs.YtkbgkjlgnmlghaaGreat
open Go.Sim
set_option linter.unusedVariables false
set_option maxRecDepth 100000
def cmpI (a b : Int) : Int:=if a < b then -1 else if b < a then 1 else 0
def orI (a b : Int) : Int:=if a ≠ 0 then a else b
variable {F : Prims} {call head arith cmp scmp bnot bsame conv neg imax imin ofNat slen place inR nz geZ rd wr push next mkOK nat zeros sadd eqAgg cut slc sslc strAt part app cpy putAt fresh lowered bump wrote addN lt ne fpAll fpApp brk yn rng mget mput mnew bytes clr : _} (hA : AP F ⟨call,head,arith,cmp,scmp,bnot,bsame,conv,neg,imax,imin,ofNat,slen,place,inR,nz,geZ,rd,wr,push,next,mkOK,nat,zeros,sadd,eqAgg,cut,slc,sslc,strAt,part,app,cpy,putAt,fresh,lowered,bump,wrote,addN,lt,ne,fpAll,fpApp,brk,yn,rng,mget,mput,mnew,bytes,clr⟩)
include hA
theorem isNaN_ok {h : AHeap} (hlow : h.low ≤ h.next) {x : Int} {Q : Value → AHeap → Prop} (hQ : Q (.bool false) h) : call 54 [.int .i64 x] h Q:=by
 refine hA.bodyR Tryz.func54 r54_ok (hA.alike _ _ _ rfl) hlow (zc ?_)
 rw [e_neq hA,show decide (x ≠ x) = false by simp]
 exact hQ
theorem compare_int_ok {h : AHeap} (hlow : h.low ≤ h.next) {a b : Int} {Q : Value → AHeap → Prop} (hQ : ∀ c,c = cmpI a b → Q (.int .i64 c) h) : call 35 [.int .i64 a,.int .i64 b] h Q:=by
 refine hA.bodyR Tryz.func35 r35_ok (hA.alike _ _ _ rfl) hlow (zc ?_)
 refine isNaN_ok hA hlow ⟨_,rfl,?_⟩
 refine zc ?_
 refine isNaN_ok hA hlow ⟨_,rfl,?_⟩
 refine zc ?_
 refine br (a < b) (by rw [e_lss hA]) (fun c => ?_) (fun c => ?_) <;> refine zc ?_
 ·exact hQ _ (by unfold cmpI;rw [if_pos c])
 refine br (b < a) (by rw [e_gtr hA]) (fun c1 => ?_) (fun c1 => ?_) <;> refine zc ?_
 ·exact hQ _ (by unfold cmpI;rw [if_neg c,if_pos c1])
 ·exact hQ _ (by unfold cmpI;rw [if_neg c,if_neg c1])
theorem or2_ok {h : AHeap} (hlow : h.low ≤ h.next) {b c : Nat} {x y : Int} (hr : h.readG ⟨b,0,none⟩ 1 = some [.int .i64 x]) (hr2 : h.readG ⟨b,0 + 1,none⟩ 1 = some [.int .i64 y]) {Q : Value → AHeap → Prop} (hQ : ∀ r,r = orI x y → Q (.int .i64 r) h) : call 34 [.slice (some ⟨b,0,none⟩) 2 c] h Q:=by
 have q1 : rd h b (place 0 0 1) 1 [.int .i64 x]:=by rw [e_rd hA,e_place hA];exact hr
 have q2 : rd h b (place 0 1 1) 1 [.int .i64 y]:=by rw [e_rd hA,e_place hA];exact hr2
 refine hA.bodyR Tryz.func34 r34_ok (hA.alike _ _ _ rfl) hlow (zc ?_)
 rw [show ofNat 2 = 2 from e_ofNat hA 2]
 refine hA.roundR Tryz.func34 r34_ok (zc ?_)
 refine br True (by rw [e_lss hA];rfl) (fun _ => ?_) (fun q => absurd trivial q) <;> refine zc ?_
 refine zq ?_
 refine br (x ≠ 0) (by rw [e_neq hA]) (fun c => ?_) (fun c => ?_) <;> refine zc ?_
 ·exact hQ _ (by unfold orI;rw [if_pos c])
 rw [show arith .add .i64 0 1 = 1 by rw [add64 hA (by omega) (by omega)];rfl]
 refine hA.roundR Tryz.func34 r34_ok (zc ?_)
 refine br True (by rw [e_lss hA];rfl) (fun _ => ?_) (fun q => absurd trivial q) <;> refine zc ?_
 refine zq ?_
 refine br (y ≠ 0) (by rw [e_neq hA]) (fun c1 => ?_) (fun c1 => ?_) <;> refine zc ?_
 ·exact hQ _ (by unfold orI;rw [if_neg c])
 rw [show arith .add .i64 1 1 = 2 by rw [add64 hA (by omega) (by omega)];rfl]
 refine hA.roundR Tryz.func34 r34_ok (zc ?_)
 refine br False (by rw [e_lss hA];rfl) (fun q => q.elim) (fun _ => ?_) <;> refine zc ?_
 exact hQ _ (by unfold orI;rw [if_neg c];omega)
end Go.Proofs.YtkbgkjlgnmlghaaGreat
