import Derived.Test.YtkbgkjlgnmlghaaSortH
import Derived.Test.YtkbgkjlgnmlghaaSymBits
set_option linter.unusedSimpArgs false
set_option linter.unusedVariables false
namespace Go.Proofs.Ytkbgkjlgnmlghaa
open Go.Sim
set_option linter.unusedVariables false
theorem ext_bumpPut (h : AHeap) (n : Nat) {b : Nat} (hb : h.next ≤ b) (es : Nat) (cs : List Value) : Ext h ((h.bump n).putAt b es cs):=
 ⟨by simp [AHeap.bump,AHeap.putAt],fun l => by simp only [AHeap.bump,AHeap.putAt];omega,by simp only [AHeap.bump,AHeap.putAt];exact Nat.min_le_left _ _,fun i hi => by
  simp only [AHeap.bump,AHeap.putAt];rw [Tri.get_set_ne _ _ (by omega)]⟩
theorem all_flat {α : Type} {enc : α → List Value} (hok : ∀ x,(enc x).all cellOK = true) (l : List α) : (l.flatMap enc).all cellOK = true:=by
 rw [List.all_flatMap]
 simp only [hok,List.all_eq_true,implies_true]
variable {F : Prims} {call head arith cmp scmp bnot bsame conv neg imax imin ofNat slen place inR nz geZ rd wr push next mkOK nat zeros sadd eqAgg cut slc sslc strAt part app cpy putAt fresh lowered bump wrote addN lt ne fpAll brk yn rng mget mput mnew bytes clr : _} (hA : AP F ⟨call,head,arith,cmp,scmp,bnot,bsame,conv,neg,imax,imin,ofNat,slen,place,inR,nz,geZ,rd,wr,push,next,mkOK,nat,zeros,sadd,eqAgg,cut,slc,sslc,strAt,part,app,cpy,putAt,fresh,lowered,bump,wrote,addN,lt,ne,fpAll,brk,yn,rng,mget,mput,mnew,bytes,clr⟩)
include hA
theorem appD_ok {t e es : Nat} (hT : SliceT Try.prog t e es) {α : Type} {enc : α → List Value} (he : ∀ x,(enc x).length = es) (hp0 : 0 < es) (hok : ∀ x,(enc x).all cellOK = true) {h0 h h9 : AHeap} (hlow : h0.low ≤ h0.next) (e0 : Ext h0 h) {N k : Nat} (hk : k < N) (hh9 : h9 = bump h N)
  {a : Option Addr} {n c : Nat} {l : List α} {v : α} (hp : Apd h es a n c (l.flatMap enc)) (hf : From h0.next a) (hn : n ≤ 100000) {C : Option Addr → Nat → Nat → AHeap → Prop}
  (hC : ∀ a' c' h',Apd (lowered (putAt h9 (addN (next h) k) es (enc v)) h') es a' (n + 1) c' ((l ++ [v]).flatMap enc) → From h0.next a' → Ext h0 (lowered (putAt h9 (addN (next h) k) es (enc v)) h') → C a' (n + 1) c' h') :
  app [t,t] [.slice a n c,.slice (some ⟨addN (next h) k,0,none⟩) 1 1] (fresh (putAt h9 (addN (next h) k) es (enc v))) C:=by
 rw [e_bump hA] at hh9
 subst hh9
 rw [e_addN hA,e_next hA,e_putAt hA] at hC ⊢
 rw [e_fresh hA]
 have x1 : Ext h ((h.bump N).putAt (h.next + k) es (enc v)):=ext_bumpPut h N (by omega) es _
 have o1:=Own.putAt (h.bump N) (h.next + k) es (enc v)
 have n1 : ((h.bump N).putAt (h.next + k) es (enc v)).next = h.next + N:=rfl
 generalize (h.bump N).putAt (h.next + k) es (enc v) = X at *
 have xf:=x1.trans (Ext.freshed X)
 have o2 : Own X.freshed (h.next + k) es (enc v):=o1.ext (Ext.freshed X) (by omega)
 have hs : Cells X.freshed (some ⟨h.next + k,0,none⟩) 1 es (enc v):=⟨rfl,by show h.next + k < X.next;omega,by rw [o2.readG (by rw [he];omega),List.drop_zero,List.take_of_length_le (by rw [he];omega)]⟩
 obtain ⟨a',c',h',h1,h2,h3⟩:=append_ok hT hT.und (c2:=1) (hp.ext xf) hs (all_flat hok l) (hok v) (by omega) (by omega)
 obtain ⟨w1,w2⟩:=h3 h0 (e0.trans xf) hf
 rw [e_app hA]
 refine ⟨a',n + 1,c',h',h1,hC a' c' h' ?_ w2 ?_⟩
 ·rw [e_lowered hA]
  refine Apd.of_get (h:=h') (by simpa using h2) (Nat.le_refl _) (fun ad had hb => rfl)
 ·rw [e_lowered hA]
  exact Ext.lower' w1 (e0.trans x1) hlow
end Go.Proofs.Ytkbgkjlgnmlghaa
namespace Go.Proofs.Ytkbgkjlgnmlghaa
open Go.Sim
set_option linter.unusedVariables false
set_option maxRecDepth 100000
def cmpI (a b : Int) : Int:=if a < b then -1 else if b < a then 1 else 0
def orI (a b : Int) : Int:=if a ≠ 0 then a else b
variable {F : Prims} {call head arith cmp scmp bnot bsame conv neg imax imin ofNat slen place inR nz geZ rd wr push next mkOK nat zeros sadd eqAgg cut slc sslc strAt part app cpy putAt fresh lowered bump wrote addN lt ne fpAll brk yn rng mget mput mnew bytes clr : _} (hA : AP F ⟨call,head,arith,cmp,scmp,bnot,bsame,conv,neg,imax,imin,ofNat,slen,place,inR,nz,geZ,rd,wr,push,next,mkOK,nat,zeros,sadd,eqAgg,cut,slc,sslc,strAt,part,app,cpy,putAt,fresh,lowered,bump,wrote,addN,lt,ne,fpAll,brk,yn,rng,mget,mput,mnew,bytes,clr⟩)
include hA
theorem isNaN_ok {h : AHeap} (hlow : h.low ≤ h.next) {x : Int} {Q : Value → AHeap → Prop} (hQ : Q (.bool false) h) : call 60 [.int .i64 x] h Q:=by
 refine hA.bodyR Try.func60 r60_ok (hA.alike _ _ _ rfl) hlow (zc ?_)
 rw [e_neq hA,show decide (x ≠ x) = false by simp]
 exact hQ
theorem compare_int_ok {h : AHeap} (hlow : h.low ≤ h.next) {a b : Int} {Q : Value → AHeap → Prop} (hQ : ∀ c,c = cmpI a b → Q (.int .i64 c) h) : call 38 [.int .i64 a,.int .i64 b] h Q:=by
 refine hA.bodyR Try.func38 r38_ok (hA.alike _ _ _ rfl) hlow (zc ?_)
 refine isNaN_ok hA hlow ⟨_,rfl,?_⟩
 refine zc ?_
 refine isNaN_ok hA hlow ⟨_,rfl,?_⟩
 refine zc ?_
 refine br (a < b) (by rw [e_lss hA]) (fun c => ?_) (fun c => ?_) <;> refine zc ?_
 ·exact hQ _ (by unfold cmpI;rw [if_pos c])
 refine br (b < a) (by rw [e_gtr hA]) (fun c1 => ?_) (fun c1 => ?_) <;> refine zc ?_
 ·exact hQ _ (by unfold cmpI;rw [if_neg c,if_pos c1])
 ·exact hQ _ (by unfold cmpI;rw [if_neg c,if_neg c1])
theorem or2_ok {h : AHeap} (hlow : h.low ≤ h.next) {b c : Nat} {x y : Int} (hr : h.readG ⟨b,0,none⟩ 1 = some [.int .i64 x]) (hr2 : h.readG ⟨b,0 + 1,none⟩ 1 = some [.int .i64 y]) {Q : Value → AHeap → Prop} (hQ : ∀ r,r = orI x y → Q (.int .i64 r) h) : call 37 [.slice (some ⟨b,0,none⟩) 2 c] h Q:=by
 have q1 : rd h b (place 0 0 1) 1 [.int .i64 x]:=by rw [e_rd hA,e_place hA];exact hr
 have q2 : rd h b (place 0 1 1) 1 [.int .i64 y]:=by rw [e_rd hA,e_place hA];exact hr2
 refine hA.bodyR Try.func37 r37_ok (hA.alike _ _ _ rfl) hlow (zc ?_)
 rw [show ofNat 2 = 2 from e_ofNat hA 2]
 refine hA.roundR Try.func37 r37_ok (zc ?_)
 refine br True (by rw [e_lss hA];rfl) (fun _ => ?_) (fun q => absurd trivial q) <;> refine zc ?_
 refine zq ?_
 refine br (x ≠ 0) (by rw [e_neq hA]) (fun c => ?_) (fun c => ?_) <;> refine zc ?_
 ·exact hQ _ (by unfold orI;rw [if_pos c])
 rw [show arith .add .i64 0 1 = 1 by rw [add64 hA (by omega) (by omega)];rfl]
 refine hA.roundR Try.func37 r37_ok (zc ?_)
 refine br True (by rw [e_lss hA];rfl) (fun _ => ?_) (fun q => absurd trivial q) <;> refine zc ?_
 refine zq ?_
 refine br (y ≠ 0) (by rw [e_neq hA]) (fun c1 => ?_) (fun c1 => ?_) <;> refine zc ?_
 ·exact hQ _ (by unfold orI;rw [if_neg c])
 rw [show arith .add .i64 1 1 = 2 by rw [add64 hA (by omega) (by omega)];rfl]
 refine hA.roundR Try.func37 r37_ok (zc ?_)
 refine br False (by rw [e_lss hA];rfl) (fun q => q.elim) (fun _ => ?_) <;> refine zc ?_
 exact hQ _ (by unfold orI;rw [if_neg c];omega)
end Go.Proofs.Ytkbgkjlgnmlghaa
namespace Go.Proofs.Ytkbgkjlgnmlghaa
open Go.Sim
set_option linter.unusedVariables false
set_option maxRecDepth 100000
def hdr (es n b : Nat) : Value:=.slice (some ⟨b,0,none⟩) n (someCap es n)
def hdrs {α : Type} (es : Nat) (bs : List Nat) (g : List (List α)) : List Value:=List.zipWith (fun b r => hdr es r.length b) bs g
theorem hdrs_len {α : Type} {es : Nat} {bs : List Nat} {g : List (List α)} (h : bs.length = g.length) : (hdrs es bs g).length = g.length:=by
 unfold hdrs;rw [List.length_zipWith,h];exact Nat.min_self _
theorem hdrs_at {α : Type} {es : Nat} {bs : List Nat} {g : List (List α)} (h : bs.length = g.length) {y : Int} (y0 : 0 ≤ y) (y1 : y < g.length) : (hdrs es bs g)[y.toNat]? = some (hdr es (gt g y).length (bs.getD y.toNat 0)):=by
 unfold hdrs gt
 rw [List.getElem?_zipWith,List.getElem?_eq_getElem (by omega),List.getElem?_eq_getElem (by omega),List.getD_eq_getElem?_getD,List.getD_eq_getElem?_getD,List.getElem?_eq_getElem (by omega),List.getElem?_eq_getElem (by omega)]
 rfl
structure Grid2 {α : Type} (enc : α → List Value) (es : Nat) (h0 h : AHeap) (oa : Nat) (bs : List Nat) (g : List (List α)) : Prop where
 ext : Ext h0 h
 own : Own h oa 1 (hdrs es bs g)
 len : bs.length = g.length
 row : ∀ y : Int,0 ≤ y → y < g.length → Own h (bs.getD y.toNat 0) es ((gt g y).flatMap enc)
 old : h0.next ≤ oa
 oldr : ∀ b,b ∈ bs → h0.next ≤ b
 lt : oa < h.next
 ltr : ∀ b,b ∈ bs → b < h.next
 out : oa ∉ bs
 dis : bs.Nodup
 each : ∀ x,(enc x).length = es
section
variable {α : Type} {enc : α → List Value} {es : Nat} {h0 h : AHeap} {oa : Nat} {bs : List Nat} {g : List (List α)}
theorem bs_mem {bs : List Nat} {i : Nat} (h : i < bs.length) : bs.getD i 0 ∈ bs:=by
 rw [List.getD_eq_getElem?_getD,List.getElem?_eq_getElem h];exact List.getElem_mem h
theorem Grid2.more {h' : AHeap} (t : Grid2 enc es h0 h oa bs g) (e : Ext h h') : Grid2 enc es h0 h' oa bs g:=
 ⟨t.ext.trans e,t.own.ext e t.lt,t.len,fun y y0 y1 => (t.row y y0 y1).ext e (t.ltr _ (bs_mem (by have:=t.len;omega))),t.old,t.oldr,Nat.lt_of_lt_of_le t.lt e.next,fun b hb => Nat.lt_of_lt_of_le (t.ltr b hb) e.next,t.out,t.dis,t.each⟩
theorem Grid2.head (t : Grid2 enc es h0 h oa bs g) {y : Int} (y0 : 0 ≤ y) (y1 : y < g.length) : h.readG ⟨oa,0 + y.toNat * 1,none⟩ 1 = some [hdr es (gt g y).length (bs.getD y.toNat 0)]:=by
 have e:=hdrs_at (es:=es) t.len y0 y1
 have l:=hdrs_len (es:=es) t.len
 rw [Nat.zero_add,Nat.mul_one,t.own.readG (o:=y.toNat) (n:=1) (by omega)]
 rw [List.drop_eq_getElem_cons (by omega)]
 simp only [List.take_succ_cons,List.take_zero]
 rw [List.getElem?_eq_getElem (by omega)] at e
 rw [Option.some.inj e]
theorem Grid2.el [Inhabited α] (hp : 0 < es) (t : Grid2 enc es h0 h oa bs g) {y x : Int} (y0 : 0 ≤ y) (y1 : y < g.length) (x0 : 0 ≤ x) (x1 : x < (gt g y).length) : h.readG ⟨bs.getD y.toNat 0,0 + x.toNat * es,none⟩ es = some (enc (gt (gt g y) x)):=by
 have r:=Own.rows (t.row y y0 y1) t.each hp (t.ltr _ (bs_mem (by have:=t.len;omega)))
 obtain ⟨b,o,e,_,w⟩:=r.at x0 x1
 cases e
 have:=w 0 es (by omega) hp
 rw [Nat.add_zero] at this
 rw [this,List.drop_zero,List.take_of_length_le (by rw [t.each];omega)]
theorem nodup_getD {bs : List Nat} (h : bs.Nodup) {i j : Nat} (hi : i < bs.length) (hj : j < bs.length) (e : bs.getD i 0 = bs.getD j 0) : i = j:=by
 rw [List.getD_eq_getElem?_getD,List.getD_eq_getElem?_getD,List.getElem?_eq_getElem hi,List.getElem?_eq_getElem hj] at e
 exact (List.getElem_inj h).1 (by simpa using e)
theorem Grid2.set [Inhabited α] (t : Grid2 enc es h0 h oa bs g) {y x : Int} (y0 : 0 ≤ y) (y1 : y < g.length) (x0 : 0 ≤ x) (x1 : x < (gt g y).length) (v : α) :
  ∃ h',h.write (bs.getD y.toNat 0) (0 + x.toNat * es) (enc v) = some h' ∧ Grid2 enc es h0 h' oa bs (g.set y.toNat ((gt g y).set x.toNat v)) ∧ Wrote h h' (bs.getD y.toNat 0):=by
 have hb : bs.getD y.toNat 0 ∈ bs:=bs_mem (by have:=t.len;omega)
 obtain ⟨h',w1,w2,w3⟩:=Own.setRow (t.row y y0 y1) t.each (i:=x.toNat) (by omega) v
 refine ⟨h',by rw [Nat.zero_add];exact w1,⟨w3.ext t.ext (t.oldr _ hb),?_,by rw [List.length_set];exact t.len,fun y' y0' y1' => ?_,t.old,t.oldr,by rw [w3.next];exact t.lt,fun b q => by rw [w3.next];exact t.ltr b q,t.out,t.dis,t.each⟩,w3⟩
 ·have e : hdrs es bs (g.set y.toNat ((gt g y).set x.toNat v)) = hdrs es bs g:=by
   unfold hdrs
   apply List.ext_getElem?
   intro i
   rw [List.getElem?_zipWith,List.getElem?_zipWith,List.getElem?_set]
   by_cases c : y.toNat = i
   ·subst c
    have : y.toNat < g.length:=by omega
    rw [if_pos rfl,if_pos this,List.getElem?_eq_getElem this]
    cases bs[y.toNat]? with
    | none => rfl
    | some b =>
     simp only [List.length_set]
     unfold gt
     rw [List.getD_eq_getElem?_getD,List.getElem?_eq_getElem this]
     rfl
   ·rw [if_neg c]
  rw [e]
  exact t.own.of_get (w3.get _ (fun q => t.out (by rw [q];exact hb)))
 ·rw [List.length_set] at y1'
  rw [gt_set g y0 y0' y1]
  split
  ·rename_i e;subst e;exact w2
  ·rename_i ne
   refine (t.row y' y0' y1').of_get (w3.get _ (fun q => ne ?_))
   have:=nodup_getD t.dis (by have:=t.len;omega) (by have:=t.len;omega) q
   omega
end
variable {F : Prims} {call head arith cmp scmp bnot bsame conv neg imax imin ofNat slen place inR nz geZ rd wr push next mkOK nat zeros sadd eqAgg cut slc sslc strAt part app cpy putAt fresh lowered bump wrote addN lt ne fpAll brk yn rng mget mput mnew bytes clr : _} (hA : AP F ⟨call,head,arith,cmp,scmp,bnot,bsame,conv,neg,imax,imin,ofNat,slen,place,inR,nz,geZ,rd,wr,push,next,mkOK,nat,zeros,sadd,eqAgg,cut,slc,sslc,strAt,part,app,cpy,putAt,fresh,lowered,bump,wrote,addN,lt,ne,fpAll,brk,yn,rng,mget,mput,mnew,bytes,clr⟩)
include hA
theorem appK_ok {t e es : Nat} (hT : SliceT Try.prog t e es) {α : Type} {enc : α → List Value} (he : ∀ x,(enc x).length = es) (hp0 : 0 < es) (hok : ∀ x,(enc x).all cellOK = true) {h : AHeap} {a : Option Addr} {n c : Nat} {l : List α} {v : α} (hp : Apd h es a n c (l.flatMap enc)) (hn : n ≤ 100000) {C : Option Addr → Nat → Nat → AHeap → Prop}
  (hC : ∀ b' h',Apd h' es (some ⟨b',0,none⟩) (n + 1) (someCap es (n + 1)) ((l ++ [v]).flatMap enc) → (∀ h0,Ext h0 h → From h0.next a → Ext h0 h') → h.next < h'.next → h.next < b' → (∀ i,i < h.next → (∀ ad,a = some ad → ad.block ≠ i) → h'.m.get i = h.m.get i) → C (some ⟨b',0,none⟩) (n + 1) (someCap es (n + 1)) h') :
  app [t,t] [.slice a n c,.slice (some ⟨next h,0,none⟩) 1 1] (push h es (enc v)) C:=by
 rw [e_app hA,e_push hA,e_next hA]
 have hs : Cells (h.push es (enc v)) (some ⟨h.next,0,none⟩) 1 es (enc v):=⟨rfl,by simp [AHeap.push],by rw [(Own.push h es _).readG (by rw [he];omega),List.drop_zero,List.take_of_length_le (by rw [he];omega)]⟩
 obtain ⟨a',c',h',h1,h2,h3,h4,h5,h6⟩:=append_keep hT hT.und (c2:=1) (hp.ext (.push h es (enc v))) hs (all_flat hok l) (hok v) (by omega) (by omega)
 rcases h2 with ⟨_,w,_⟩ | ⟨b',rfl,rfl,w1,w2,w3⟩
 ·omega
 have nx : (h.push es (enc v)).next = h.next + 1:=rfl
 refine ⟨_,n + 1,_,h',h1,hC b' h' (.inr ⟨b',rfl,rfl,w1,by rw [flatE_len he];simp only [List.length_append,List.length_cons,List.length_nil];have:=hp.cells.length;rw [flatE_len he] at this;rw [Nat.eq_of_mul_eq_mul_right hp0 this],?_⟩) (fun h0 e0 f0 => (h3 h0 (e0.trans (.push _ _ _)) f0).1) (by omega) (by have:=h5 _ rfl;simp only at this;omega) (fun i hi ha => ?_)⟩
 ·simpa using w3
 ·rw [h6 i (by omega) ha]
  exact (Ext.push h es (enc v)).get i hi
end Go.Proofs.Ytkbgkjlgnmlghaa
