import Derived.Test.YtkbgkjlgnmlghaaCaM
import Derived.Test.YtkbgkjlgnmlghaaCaL
import Derived.Test.YtkbgkjlgnmlghaaCaF
set_option linter.unusedSimpArgs false
set_option linter.unusedVariables false
namespace Go.Proofs.Ytkbgkjlgnmlghaa
open Go.Sim
set_option linter.unusedVariables false
set_option maxRecDepth 100000
theorem pk_none (h : AHeap) : Rows Pk.cells 4 h none 0 []:=⟨by simp [Cells],fun _ => rfl,by omega⟩
def GridV (h0 h : AHeap) (a : Option Addr) (k : Nat) (g : Gd) : Prop:=
 (a = none ∧ k = 0 ∧ g = []) ∨ (∃ oa bs,a = some ⟨oa,0,none⟩ ∧ 2 ≤ k ∧ k ≤ 8 ∧ SqG k g ∧ Grid2 Ck.cells 3 h0 h oa bs g)
theorem GridV.more {h0 h h' : AHeap} {a : Option Addr} {k : Nat} {g : Gd} (t : GridV h0 h a k g) (e : Ext h h') : GridV h0 h' a k g:=by
 rcases t with q | ⟨oa,bs,q1,q2,q3,q4,q5⟩
 ·exact .inl q
 ·exact .inr ⟨oa,bs,q1,q2,q3,q4,q5.more e⟩
theorem GridIs.n {n : Int} {l : List Sk} {v : List Ck} {g : Gd} (h : GridIs n l v g 0) : 2 ≤ n ∧ n ≤ 8:=by
 rcases h with ⟨a,b,c⟩ | ⟨a,b,c,d⟩ | ⟨a,b,b',c,d⟩ | ⟨a,b,b',c⟩
 ·exact absurd rfl b
 all_goals exact a.zero.1
variable {F : Prims} {call head arith cmp scmp bnot bsame conv neg imax imin ofNat slen place inR nz geZ rd wr push next mkOK nat zeros sadd eqAgg cut slc sslc strAt part app cpy putAt fresh lowered bump wrote addN lt ne fpAll brk yn rng mget mput mnew bytes clr : _} (hA : AP F ⟨call,head,arith,cmp,scmp,bnot,bsame,conv,neg,imax,imin,ofNat,slen,place,inR,nz,geZ,rd,wr,push,next,mkOK,nat,zeros,sadd,eqAgg,cut,slc,sslc,strAt,part,app,cpy,putAt,fresh,lowered,bump,wrote,addN,lt,ne,fpAll,brk,yn,rng,mget,mput,mnew,bytes,clr⟩)
include hA
theorem kparts_is {h : AHeap} (hlow : h.low ≤ h.next) {n un ud vn vd : Int} (iu : i64 un ∧ i64 ud) (iv : i64 vn ∧ i64 vd) {Q : Value → AHeap → Prop}
  (hQ : ∀ a c N L e h',CheckS n [⟨un,ud,vn,vd⟩] e → Ext h h' → Rows Pk.cells 4 h' a N L → N ≤ 100000 → (e = 0 → L = partsR n ⟨un,ud,vn,vd⟩ n) → (e ≠ 0 → L = []) → Q (.tuple #[.slice a N c,.int .i64 e]) h') :
  call 10 [.int .i64 n,.agg #[.int .i64 un,.int .i64 ud,.int .i64 vn,.int .i64 vd]] h Q:=by
 refine parts_ok hA hlow iu iv (fun e h' k c x => hQ none 0 0 [] e h' k x (pk_none _) (by omega) (fun q => absurd q c) (fun _ => rfl)) (fun b c N L h' k D hp hs => ?_)
 obtain ⟨⟨n2,n8⟩,_,hz⟩:=k.zero
 obtain ⟨cu,cv⟩:=hz 0 (by omega) (by simp)
 have cu : Coord n un ud:=⟨cu,n2,n8⟩
 have cv : Coord n vn vd:=⟨cv,n2,n8⟩
 obtain rfl : L = partsR n ⟨un,ud,vn,vd⟩ n:=sorted_parts (s:=⟨un,ud,vn,vd⟩) cu cv D.len hp hs
 have rows : Rows Pk.cells 4 h' (some ⟨b,0,none⟩) N (partsR n ⟨un,ud,vn,vd⟩ n):=by
  have:=Own.rows D.own pk_len (by omega) D.lt
  rwa [D.len] at this
 exact hQ _ _ _ _ _ _ k D.ext rows D.few (fun _ => rfl) (fun q => absurd rfl q)
theorem rparts_is {h : AHeap} (hlow : h.low ≤ h.next) {n un ud vn vd : Int} (iu : i64 un ∧ i64 ud) (iv : i64 vn ∧ i64 vd) {Q : Value → AHeap → Prop}
  (hQ : ∀ a c N L e h',CheckS n [⟨un,ud,vn,vd⟩] e → Ext h h' → Rows Pk.cells 4 h' a N L → (e = 0 → L = partsR n ⟨un,ud,vn,vd⟩ n) → (e ≠ 0 → L = []) → Q (.tuple #[.slice a N c,.int .i64 e]) h') :
  call 11 [.int .i64 n,.agg #[.int .i64 un,.int .i64 ud,.int .i64 vn,.int .i64 vd]] h Q:=
 rParts_ok hA hlow iu iv (fun e h' k c x => hQ none 0 0 [] e h' k x (pk_none _) (fun q => absurd q c) (fun _ => rfl)) (fun a c N h' k R x => hQ _ _ _ _ _ _ k x R (fun _ => rfl) (fun q => absurd rfl q))
theorem kgrid_is {h : AHeap} (hlow : h.low ≤ h.next) {n : Int} {a a' : Option Addr} {N M c c' : Nat} {l : List Sk} {v : List Ck} (hl : Sps h a N l) (hi : allS l) (hv : Cs h a' M v) (hM : M ≤ 100000) (hN : N ≤ 100000) {Q : Value → AHeap → Prop}
  (hQ : ∀ b k cap g e h',GridIs n l v g e → GridV h h' b k g → Ext h h' → Q (.tuple #[.slice b k cap,.int .i64 e]) h') :
  call 12 [.int .i64 n,.slice a N c,.slice a' M c'] h Q:=
 kgrid_ok hA hlow hl hi hv hM hN (fun e h' k _ x => hQ none 0 0 [] e h' k (.inl ⟨rfl,rfl,rfl⟩) x) (fun oa bs g h' k sq t => hQ _ _ _ g 0 h' k (.inr ⟨oa,bs,rfl,by have:=k.n;omega,by have:=k.n;omega,sq,t⟩) t.ext)
theorem rgrid_is {h : AHeap} (hlow : h.low ≤ h.next) {n : Int} {a a' : Option Addr} {N M c c' : Nat} {l : List Sk} {v : List Ck} (hl : Sps h a N l) (hi : allS l) (hv : Cs h a' M v) (hM : M ≤ 100000) (hN : N ≤ 100000) {Q : Value → AHeap → Prop}
  (hQ : ∀ b k cap g e h',GridIs n l v g e → GridV h h' b k g → Ext h h' → Q (.tuple #[.slice b k cap,.int .i64 e]) h') :
  call 13 [.int .i64 n,.slice a N c,.slice a' M c'] h Q:=
 rgrid_ok hA hlow hl hi hv hM hN (fun e h' k _ x => hQ none 0 0 [] e h' k (.inl ⟨rfl,rfl,rfl⟩) x) (fun oa cap bs g h' k sq t => hQ _ _ _ g 0 h' k (.inr ⟨oa,bs,rfl,by have:=k.n;omega,by have:=k.n;omega,sq,t⟩) t.ext)
theorem sgridv_ok {h w w' : AHeap} (hlow : h.low ≤ h.next) {a a' : Option Addr} {k k' c c' : Nat} {g : Gd} (t : GridV w h a k g) (t' : GridV w' h a' k' g) {Q : Value → AHeap → Prop}
  (hQ : ∀ h',Ext h h' → Q (.bool true) h') : call 17 [.slice a k c,.slice a' k' c'] h Q:=by
 rcases t with ⟨rfl,rfl,rfl⟩ | ⟨oa,bs,rfl,k2,k8,sq,t⟩ <;> rcases t' with ⟨rfl,rfl,e⟩ | ⟨oa',bs',rfl,j2,j8,sq',t'⟩
 ·exact snil_ok hA hlow hQ
 ·have:=sq'.len;simp at this;omega
 ·subst e;have:=sq.len;simp at this;omega
 ·obtain rfl : k = k':=by have:=sq.len;have:=sq'.len;omega
  exact sgrid_ok hA hlow sq k8 t t' hQ
theorem lgrids_ok {h : AHeap} (hlow : h.low ≤ h.next) {n un ud vn vd : Int} (iu : i64 un ∧ i64 ud) (iv : i64 vn ∧ i64 vd) {a a' : Option Addr} {N M c c' : Nat} {l : List Sk} {v : List Ck} (hl : Sps h a N l) (hi : allS l) (hv : Cs h a' M v) {Q : Value → AHeap → Prop}
  (hQ : ∀ h',Ext h h' → Q (.bool true) h') : call 3 [.int .i64 n,.agg #[.int .i64 un,.int .i64 ud,.int .i64 vn,.int .i64 vd],.slice a N c,.slice a' M c'] h Q:=by
 refine hA.bodyR Try.func3 r3_ok (hA.alike _ _ _ rfl) hlow (zc ?_)
 refine great_ok hA hlow (fun r hr => ⟨_,rfl,?_⟩)
 cases r with
 | true =>
  refine zc ?_
  exact hQ h (.refl h)
 | false =>
 obtain ⟨hN,hM⟩:=hr rfl
 refine zc ?_
 refine kparts_is hA hlow iu iv (fun p1 pc1 pn1 L1 e1 h1 k1 x1 r1 few1 z1 y1 => ⟨_,_,_,_,rfl,?_⟩)
 refine zc ?_
 refine rparts_is hA (x1.lowOK hlow) iu iv (fun p2 pc2 pn2 L2 e2 h2 k2 x2 r2 z2 y2 => ⟨_,_,_,_,rfl,?_⟩)
 refine zc ?_
 obtain rfl : e1 = e2:=k1.uniq k2
 obtain rfl : L1 = L2:=by
  by_cases z : e1 = 0
  ·rw [z1 z,z2 z]
  ·rw [y1 z,y2 z]
 obtain rfl : pn1 = pn2:=by have:=r1.len;have:=r2.len;omega
 have w2:=x1.trans x2
 refine kgrid_is hA (w2.lowOK hlow) (hl.ext w2) hi (hv.ext w2) (by omega) (by omega) (fun b3 m3 c3 g3 e3 h3 k3 t3 x3 => ⟨_,_,_,_,rfl,?_⟩)
 refine zc ?_
 have w3:=w2.trans x3
 refine rgrid_is hA (w3.lowOK hlow) (hl.ext w3) hi (hv.ext w3) (by omega) (by omega) (fun b4 m4 c4 g4 e4 h4 k4 t4 x4 => ⟨_,_,_,_,rfl,?_⟩)
 refine zc ?_
 have w4:=w3.trans x4
 obtain ⟨rfl,rfl⟩:=k3.uniq k4
 refine kcheck_ok hA (w4.lowOK hlow) (hl.ext w4) hi (fun e5 h5 k5 x5 => ⟨_,rfl,?_⟩)
 refine zc ?_
 have w5:=w4.trans x5
 refine rkcheck_ok hA (w5.lowOK hlow) (hl.ext w5) hi (fun e6 h6 k6 x6 => ⟨_,rfl,?_⟩)
 refine zc ?_
 have w6:=w5.trans x6
 obtain rfl : e5 = e6:=k5.uniq k6
 refine br True (by rw [e_eql hA];simp) (fun _ => ?_) (fun q => absurd trivial q) <;> refine zc ?_
 refine sparts_ok hA (w6.lowOK hlow) (r1.ext (((x2.trans x3).trans (x4.trans x5)).trans x6)) (r2.ext ((x3.trans (x4.trans x5)).trans x6)) few1 (fun h7 x7 => ⟨_,rfl,?_⟩)
 refine zc ?_
 have w7:=w6.trans x7
 refine br True (by rw [e_eql hA];simp) (fun _ => ?_) (fun q => absurd trivial q) <;> refine zc ?_
 refine sgridv_ok hA (w7.lowOK hlow) (t3.more ((x4.trans x5).trans (x6.trans x7))) (t4.more (x5.trans (x6.trans x7))) (fun h8 x8 => ⟨_,rfl,?_⟩)
 refine zc ?_
 rw [show cmp .eql e3 e3 = true by rw [e_eql hA];simp]
 exact hQ h8 (w7.trans x8)
end Go.Proofs.Ytkbgkjlgnmlghaa
