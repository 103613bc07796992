import Derived.Test.YtmkiclinllifiaaCyX
set_option linter.unusedSimpArgs false
set_option linter.unusedVariables false
namespace Go.Proofs.Ytmkiclinllifiaa
open Go.Sim
set_option linter.unusedVariables false
set_option maxRecDepth 100000
inductive AnsG {β : Type} (l : List Vk) (f : List F2 → Int → β) (z : β) : β → Int → Prop
 | bad {e : Int} (h0 : e ≠ 0) (h : CkR l e) : AnsG l f z z e
 | ok {t : List F2} {pk : Int} (h : CkR l 0) (hp : Parts (basP l) (stS l) (fun _ => false) [] 0 t pk) : AnsG l f z (f t pk) 0
theorem AnsG.uniq {β : Type} {l : List Vk} {f : List F2 → Int → β} {z x y : β} {e e' : Int} (h : AnsG l f z x e) (k : AnsG l f z y e') : x = y ∧ e = e':=by
 cases h with
 | bad h0 h => cases k with
  | bad _ k => exact ⟨rfl,h.uniq k⟩
  | ok k _ => exact absurd (h.uniq k) h0
 | ok h hp => cases k with
  | bad h0 k => exact absurd (k.uniq h) h0
  | ok k kp =>
   obtain ⟨rfl,rfl⟩:=hp.uniq kp
   exact ⟨rfl,rfl⟩
inductive WayO (l : List Vk) (x y : Int) : List Int → Int → Prop
 | bad {e : Int} (h0 : e ≠ 0) (h : CkR l e) : WayO l x y [] e
 | arg (h : CkR l 0) (h1 : ¬ (stS l x ∧ stS l y)) : WayO l x y [] 2
 | no {t : List F2} {pk : Int} (h : CkR l 0) (h1 : stS l x) (h2 : stS l y) (hp : Parts (basP l) (stS l) (fun _ => false) [] 0 t pk) (hw : pathR (trT t) x y = none) : WayO l x y [] 6
 | ok {t : List F2} {pk : Int} {p : List Int} (h : CkR l 0) (h1 : stS l x) (h2 : stS l y) (hp : Parts (basP l) (stS l) (fun _ => false) [] 0 t pk) (hw : pathR (trT t) x y = some p) : WayO l x y p 0
theorem WayO.uniq {l : List Vk} {x y : Int} {p q : List Int} {e e' : Int} (h : WayO l x y p e) (k : WayO l x y q e') : p = q ∧ e = e':=by
 cases h with
 | bad h0 h => cases k with
  | bad _ k => exact ⟨rfl,h.uniq k⟩
  | arg k _ => exact absurd (h.uniq k) h0
  | no k => exact absurd (h.uniq k) h0
  | ok k => exact absurd (h.uniq k) h0
 | arg h h1 => cases k with
  | bad h0 k => exact absurd (k.uniq h) h0
  | arg _ _ => exact ⟨rfl,rfl⟩
  | no _ k1 k2 => exact absurd ⟨k1,k2⟩ h1
  | ok _ k1 k2 => exact absurd ⟨k1,k2⟩ h1
 | no h h1 h2 hp hw => cases k with
  | bad h0 k => exact absurd (k.uniq h) h0
  | arg _ k1 => exact absurd ⟨h1,h2⟩ k1
  | no _ _ _ _ _ => exact ⟨rfl,rfl⟩
  | ok _ _ _ kp kw =>
   obtain ⟨rfl,rfl⟩:=hp.uniq kp
   rw [hw] at kw;cases kw
 | ok h h1 h2 hp hw => cases k with
  | bad h0 k => exact absurd (k.uniq h) h0
  | arg _ k1 => exact absurd ⟨h1,h2⟩ k1
  | no _ _ _ kp kw =>
   obtain ⟨rfl,rfl⟩:=hp.uniq kp
   rw [hw] at kw;cases kw
  | ok _ _ _ kp kw =>
   obtain ⟨rfl,rfl⟩:=hp.uniq kp
   rw [hw] at kw
   exact ⟨Option.some.inj kw,rfl⟩
abbrev TreeO (l : List Vk) : List F2 × Int → Int → Prop:=AnsG l (fun t pk => (t,pk)) ([],0)
abbrev ChdO (l : List Vk) : List F2 → Int → Prop:=AnsG l (fun t _ => chds t (basP l)) []
abbrev BasO (l : List Vk) : List (List Int) → Int → Prop:=AnsG l (fun t _ => (chds t (basP l)).map (circF t)) []
theorem grr_nil (h : AHeap) : GrR iC 1 h none 0 [] []:=⟨Rows.nil h hd_len (by omega),rfl,fun y y0 y1 => by omega⟩
theorem circ_len {l : List Vk} {t : List F2} {pk : Int} (h : CkR l 0) (hp : Parts (basP l) (stS l) (fun _ => false) [] 0 t pk) (ht : t.length ≤ 8) : ∀ r ∈ (chds t (basP l)).map (circF t),r.length ≤ 1000:=by
 intro r hr
 obtain ⟨p,hp',rfl⟩:=List.mem_map.1 hr
 unfold circF
 obtain ⟨k1,k2,k3⟩:=h.ok0
 obtain ⟨⟨w,hw⟩,_⟩:=chds_ok (okV.st k2) (okV.lt k2) (basP_is k2) hp p hp'
 have wl:=path_len (parts_grows hp) hw
 have htl : (trT t).length = t.length:=by unfold trT;simp
 simp only [hw,Option.getD_some,List.length_cons,List.length_dropLast]
 omega
variable {F : Prims} {call head arith cmp scmp bnot bsame conv neg imax imin ofNat slen place inR nz geZ rd wr push next mkOK nat zeros sadd eqAgg cut slc sslc strAt part app cpy putAt fresh lowered bump wrote addN lt ne fpAll fpApp brk yn rng mget mput mnew bytes clr mrng ment : _} (hA : AP F ⟨call,head,arith,cmp,scmp,bnot,bsame,conv,neg,imax,imin,ofNat,slen,place,inR,nz,geZ,rd,wr,push,next,mkOK,nat,zeros,sadd,eqAgg,cut,slc,sslc,strAt,part,app,cpy,putAt,fresh,lowered,bump,wrote,addN,lt,ne,fpAll,fpApp,brk,yn,rng,mget,mput,mnew,bytes,clr,mrng,ment⟩)
include hA
theorem tree_a (hW : LW F) {h : AHeap} (hlow : h.low ≤ h.next) {a : Option Addr} {n c : Nat} {l : List Vk} (hl : Vs h a n l) (hn : n ≤ 1000) {Q : Value → AHeap → Prop}
  (hQ : ∀ t pk e h' a' k c',TreeO l (t,pk) e → Rows F2.cells 2 h' a' k t → k ≤ 1000 → Ext h h' → Q (.tuple #[.slice a' k c',.int .i64 pk,.int .i64 e]) h') : call 10 [.slice a n c] h Q:=
 tree_ok hA hW hlow hl hn (fun e h' e0 ke x => hQ [] 0 e h' none 0 0 (.bad e0 ke) (Rows.nil h' f2_len (by omega)) (by omega) x) (fun t pk h' a' k c' ke q r s f x => hQ t pk 0 h' a' k c' (.ok ke q) r (by have:=r.len;omega) x)
theorem tree_b {h : AHeap} (hlow : h.low ≤ h.next) {a : Option Addr} {n c : Nat} {l : List Vk} (hl : Vs h a n l) (hn : n ≤ 1000) {Q : Value → AHeap → Prop}
  (hQ : ∀ t pk e h' a' k c',TreeO l (t,pk) e → Rows F2.cells 2 h' a' k t → Ext h h' → Q (.tuple #[.slice a' k c',.int .i64 pk,.int .i64 e]) h') : call 11 [.slice a n c] h Q:=
 rtree_ok hA hlow hl hn (fun e h' e0 ke x => hQ [] 0 e h' none 0 0 (.bad e0 ke) (Rows.nil h' f2_len (by omega)) x) (fun t pk h' a' k c' ke q r f x => hQ t pk 0 h' a' k c' (.ok ke q) r x)
theorem chds_a (hW : LW F) {h : AHeap} (hlow : h.low ≤ h.next) {a : Option Addr} {n c : Nat} {l : List Vk} (hl : Vs h a n l) (hn : n ≤ 1000) {Q : Value → AHeap → Prop}
  (hQ : ∀ C e h' a' k c',ChdO l C e → Rows F2.cells 2 h' a' k C → k ≤ 1000 → Ext h h' → Q (.tuple #[.slice a' k c',.int .i64 e]) h') : call 12 [.slice a n c] h Q:=
 Chords_ok hA hW hlow hl hn (fun e h' e0 ke x => hQ [] e h' none 0 0 (.bad e0 ke) (Rows.nil h' f2_len (by omega)) (by omega) x) (fun t pk h' a' k c' ke q r f x => hQ _ 0 h' a' k c' (.ok ke q) r (by
  have h5:=r.len
  have h6:=List.length_filter_le (fun p => decide (p ∉ t)) (basP l)
  have:=basP_len l
  unfold chds at h5
  omega) x)
theorem chds_b {h : AHeap} (hlow : h.low ≤ h.next) {a : Option Addr} {n c : Nat} {l : List Vk} (hl : Vs h a n l) (hn : n ≤ 1000) {Q : Value → AHeap → Prop}
  (hQ : ∀ C e h' a' k c',ChdO l C e → Rows F2.cells 2 h' a' k C → Ext h h' → Q (.tuple #[.slice a' k c',.int .i64 e]) h') : call 13 [.slice a n c] h Q:=
 rChords_ok hA hlow hl hn (fun e h' e0 ke x => hQ [] e h' none 0 0 (.bad e0 ke) (Rows.nil h' f2_len (by omega)) x) (fun t pk h' a' k c' ke q r f x => hQ _ 0 h' a' k c' (.ok ke q) r x)
theorem bas_a (hW : LW F) {h : AHeap} (hlow : h.low ≤ h.next) {a : Option Addr} {n c : Nat} {l : List Vk} (hl : Vs h a n l) (hn : n ≤ 1000) {Q : Value → AHeap → Prop}
  (hQ : ∀ g e h' a' k c' hs,BasO l g e → GrR iC 1 h' a' k hs g → k ≤ 1000 → (∀ r ∈ g,r.length ≤ 1000) → Ext h h' → Q (.tuple #[.slice a' k c',.int .i64 e]) h') : call 14 [.slice a n c] h Q:=
 Basis_ok hA hW hlow hl hn (fun e h' e0 ke x => hQ [] e h' none 0 0 [] (.bad e0 ke) (grr_nil h') (by omega) (fun r hr => by cases hr) x) (fun t pk h' a' k c' hs' ke q s r f x => hQ _ 0 h' a' k c' hs' (.ok ke q) r (by
  have h5:=r.len
  have h6:=List.length_filter_le (fun p => decide (p ∉ t)) (basP l)
  have:=basP_len l
  rw [List.length_map] at h5
  unfold chds at h5
  omega) (circ_len ke q s) x)
theorem bas_b {h : AHeap} (hlow : h.low ≤ h.next) {a : Option Addr} {n c : Nat} {l : List Vk} (hl : Vs h a n l) (hn : n ≤ 1000) {Q : Value → AHeap → Prop}
  (hQ : ∀ g e h' a' k c' hs,BasO l g e → GrR iC 1 h' a' k hs g → Ext h h' → Q (.tuple #[.slice a' k c',.int .i64 e]) h') : call 15 [.slice a n c] h Q:=
 rBasis_ok hA hlow hl hn (fun e h' e0 ke x => hQ [] e h' none 0 0 [] (.bad e0 ke) (grr_nil h') x) (fun t pk h' a' k c' hs' ke q r f x => hQ _ 0 h' a' k c' hs' (.ok ke q) r x)
theorem way_a (hW : LW F) {h : AHeap} (hlow : h.low ≤ h.next) {a : Option Addr} {n c : Nat} {l : List Vk} (hl : Vs h a n l) (hn : n ≤ 1000) {x y : Int} {Q : Value → AHeap → Prop}
  (hQ : ∀ p e h' a' k c',WayO l x y p e → Rows iC 1 h' a' k p → k ≤ 1000 → Ext h h' → Q (.tuple #[.slice a' k c',.int .i64 e]) h') : call 16 [.slice a n c,.int .i64 x,.int .i64 y] h Q:=
 Way_ok hA hW hlow hl hn (fun e h' e0 ke x' => hQ [] e h' none 0 0 (.bad e0 ke) (Rows.nil h' iC_len (by omega)) (by omega) x') (fun h' ke hn' x' => hQ [] 2 h' none 0 0 (.arg ke hn') (Rows.nil h' iC_len (by omega)) (by omega) x')
  (fun t pk h' ke s1 s2 q hp x' => hQ [] 6 h' none 0 0 (.no ke s1 s2 q hp) (Rows.nil h' iC_len (by omega)) (by omega) x') (fun t pk h' a' c' p ke s1 s2 q ht hp r f x' => hQ p 0 h' a' p.length c' (.ok ke s1 s2 q hp) r (by
   have wl:=path_len (parts_grows q) hp
   have htl : (trT t).length = t.length:=by unfold trT;simp
   omega) x')
theorem way_b {h : AHeap} (hlow : h.low ≤ h.next) {a : Option Addr} {n c : Nat} {l : List Vk} (hl : Vs h a n l) (hn : n ≤ 1000) {x y : Int} {Q : Value → AHeap → Prop}
  (hQ : ∀ p e h' a' k c',WayO l x y p e → Rows iC 1 h' a' k p → Ext h h' → Q (.tuple #[.slice a' k c',.int .i64 e]) h') : call 17 [.slice a n c,.int .i64 x,.int .i64 y] h Q:=
 rWay_ok hA hlow hl hn (fun e h' e0 ke x' => hQ [] e h' none 0 0 (.bad e0 ke) (Rows.nil h' iC_len (by omega)) x') (fun h' ke hn' x' => hQ [] 2 h' none 0 0 (.arg ke hn') (Rows.nil h' iC_len (by omega)) x')
  (fun t pk h' ke s1 s2 q hp x' => hQ [] 6 h' none 0 0 (.no ke s1 s2 q hp) (Rows.nil h' iC_len (by omega)) x') (fun t pk h' a' c' p ke s1 s2 q hp r f x' => hQ p 0 h' a' p.length c' (.ok ke s1 s2 q hp) r x')
theorem trees_ok (hW : LW F) {h : AHeap} (hlow : h.low ≤ h.next) {a : Option Addr} {n c : Nat} {l : List Vk} (hl : Vs h a n l) {x y : Int} {Q : Value → AHeap → Prop} (hQ : ∀ h',Ext h h' → Q (.bool true) h') :
  call 3 [.slice a n c,.int .i64 x,.int .i64 y] h Q:=by
 refine hA.bodyR Try.func3 r3_ok (hA.alike _ _ _ rfl) hlow (zc ?_)
 refine br (100 < n) (by rw [e_gtr hA,e_ofNat hA];simp;omega) (fun c1 => ?_) (fun c1 => ?_) <;> refine zc ?_
 ·exact hQ h (.refl h)
 have hn1 : n ≤ 1000:=by omega
 refine tree_a hA hW hlow hl hn1 (fun t pk e h1 a1 k1 c1' o1 r1 s1 x1 => ?_)
 refine ⟨_,_,_,_,_,rfl,?_⟩
 refine zc ?_
 refine tree_b hA (x1.lowOK hlow) (hl.ext x1) hn1 (fun t' pk' e' h2 a2 k2 c2' o2 r2 x2' => ?_)
 obtain ⟨h12,rfl⟩:=o1.uniq o2
 cases h12
 refine ⟨_,_,_,_,_,rfl,?_⟩
 refine zc ?_
 have x2:=x1.trans x2'
 refine chds_a hA hW (x2.lowOK hlow) (hl.ext x2) hn1 (fun C f h3 a3 k3 c3' o3 r3 s3 x3' => ?_)
 refine ⟨_,_,_,_,rfl,?_⟩
 refine zc ?_
 have x3:=x2.trans x3'
 refine chds_b hA (x3.lowOK hlow) (hl.ext x3) hn1 (fun C' f' h4 a4 k4 c4' o4 r4 x4' => ?_)
 obtain ⟨rfl,rfl⟩:=o3.uniq o4
 refine ⟨_,_,_,_,rfl,?_⟩
 refine zc ?_
 have x4:=x3.trans x4'
 refine bas_a hA hW (x4.lowOK hlow) (hl.ext x4) hn1 (fun g d h5 a5 k5 c5' hs5 o5 r5 s5 l5 x5' => ?_)
 refine ⟨_,_,_,_,rfl,?_⟩
 refine zc ?_
 have x5:=x4.trans x5'
 refine bas_b hA (x5.lowOK hlow) (hl.ext x5) hn1 (fun g' d' h6 a6 k6 c6' hs6 o6 r6 x6' => ?_)
 obtain ⟨rfl,rfl⟩:=o5.uniq o6
 refine ⟨_,_,_,_,rfl,?_⟩
 refine zc ?_
 have x6:=x5.trans x6'
 refine way_a hA hW (x6.lowOK hlow) (hl.ext x6) hn1 (fun p w h7 a7 k7 c7' o7 r7 s7 x7' => ?_)
 refine ⟨_,_,_,_,rfl,?_⟩
 refine zc ?_
 have x7:=x6.trans x7'
 refine way_b hA (x7.lowOK hlow) (hl.ext x7) hn1 (fun p' w' h8 a8 k8 c8' o8 r8 x8' => ?_)
 obtain ⟨rfl,rfl⟩:=o7.uniq o8
 refine ⟨_,_,_,_,rfl,?_⟩
 refine zc ?_
 have x8:=x7.trans x8'
 have y1:=(((((x2'.trans x3').trans x4').trans x5').trans x6').trans x7').trans x8'
 have y2:=((((x3'.trans x4').trans x5').trans x6').trans x7').trans x8'
 have y3:=(((x4'.trans x5').trans x6').trans x7').trans x8'
 have y4:=((x5'.trans x6').trans x7').trans x8'
 have y5:=(x6'.trans x7').trans x8'
 have y6:=x7'.trans x8'
 refine spairs_ok hA (x8.lowOK hlow) (r1.ext y1) (r2.ext y2) (by omega) (fun h9 x9 => ?_)
 refine ⟨true,rfl,?_⟩
 refine zc ?_
 refine br (pk = pk) (by rw [e_eql hA]) (fun _ => ?_) (fun q => absurd rfl q) <;> refine zc ?_
 refine br (e = e) (by rw [e_eql hA]) (fun _ => ?_) (fun q => absurd rfl q) <;> refine zc ?_
 have z9:=x8.trans x9
 refine spairs_ok hA (z9.lowOK hlow) (r3.ext (y3.trans x9)) (r4.ext (y4.trans x9)) (by omega) (fun h10 x10 => ?_)
 refine ⟨true,rfl,?_⟩
 refine zc ?_
 refine br (f = f) (by rw [e_eql hA]) (fun _ => ?_) (fun q => absurd rfl q) <;> refine zc ?_
 have z10:=z9.trans x10
 refine slists_ok hA (z10.lowOK hlow) (r5.ext ((y5.trans x9).trans x10)) (r6.ext ((y6.trans x9).trans x10)) (by omega) l5 (fun h11 x11 => ?_)
 refine ⟨true,rfl,?_⟩
 refine zc ?_
 refine br (d = d) (by rw [e_eql hA]) (fun _ => ?_) (fun q => absurd rfl q) <;> refine zc ?_
 have z11:=z10.trans x11
 refine sints_ok hA (z11.lowOK hlow) (r7.ext (((x8'.trans x9).trans x10).trans x11)) (r8.ext ((x9.trans x10).trans x11)) (by omega) (fun h12 x12 => ?_)
 refine ⟨true,rfl,?_⟩
 refine zc ?_
 rw [e_eql hA]
 rw [show decide (w = w) = true by simp]
 exact hQ h12 (z11.trans x12)
end Go.Proofs.Ytmkiclinllifiaa
