import Derived.Test.YtkbgkjlgnmlghaaGreatCxA
import Derived.Test.YtkbgkjlgnmlghaaGreatCxT
import Derived.Test.YtkbgkjlgnmlghaaGreatCmpA
set_option linter.unusedSimpArgs false
set_option linter.unusedVariables false
namespace Go.Proofs.YtkbgkjlgnmlghaaGreat
open Go.Sim
set_option linter.unusedVariables false
set_option maxRecDepth 100000
structure Ck where
 a : Int
 b : Int
 d : Int
instance : Inhabited Ck:=⟨⟨0,0,0⟩⟩
def Ck.cells (k : Ck) : List Value:=[.int .i64 k.a,.int .i64 k.b,.int .i64 k.d]
def Ck.ok (k : Ck) : Prop:=okC k.a k.b k.d
abbrev Cs (h : AHeap) (a : Option Addr) (n : Nat) (l : List Ck) : Prop:=Rows Ck.cells 3 h a n l
theorem ck_len (k : Ck) : k.cells.length = 3:=rfl
theorem ck_ok (k : Ck) : k.cells.all cellOK = true:=rfl
theorem cs_at {h : AHeap} {a : Option Addr} {n : Nat} {l : List Ck} (p : Cs h a n l) {i : Int} (h0 : 0 ≤ i) (hi : i < n) :
  ∃ b o x y z,a = some ⟨b,o,none⟩ ∧ b < h.next ∧ gt l i = ⟨x,y,z⟩ ∧ h.readG ⟨b,o + i.toNat * 3,none⟩ 3 = some [.int .i64 x,.int .i64 y,.int .i64 z]:=by
 obtain ⟨b,o,h1,h2,h3⟩:=p.at h0 hi
 exact ⟨b,o,(gt l i).a,(gt l i).b,(gt l i).d,h1,h2,rfl,h3 0 3 (by omega) (by omega)⟩
theorem cs_some {h : AHeap} {a : Option Addr} {n : Nat} {l : List Ck} (p : Cs h a n l) (hn : 0 < n) : ∃ b o,a = some ⟨b,o,none⟩:=by
 obtain ⟨b,o,h1,_⟩:=p.at (i:=0) (by omega) (by omega)
 exact ⟨b,o,h1⟩
theorem gt_ext {α : Type} [Inhabited α] {l l' : List α} (h : l.length = l'.length) (k : ∀ j : Int,0 ≤ j → j < l.length → gt l j = gt l' j) : l = l':=by
 apply List.ext_getElem h
 intro i h1 h2
 have:=k i (by omega) (by omega)
 unfold gt at this
 simpa [h1,h2] using this
variable {F : Prims} {call head arith cmp scmp bnot bsame conv neg imax imin ofNat slen place inR nz geZ rd wr push next mkOK nat zeros sadd eqAgg cut slc sslc strAt part app cpy putAt fresh lowered bump wrote addN lt ne fpAll fpApp brk yn rng mget mput mnew bytes clr : _} (hA : AP F ⟨call,head,arith,cmp,scmp,bnot,bsame,conv,neg,imax,imin,ofNat,slen,place,inR,nz,geZ,rd,wr,push,next,mkOK,nat,zeros,sadd,eqAgg,cut,slc,sslc,strAt,part,app,cpy,putAt,fresh,lowered,bump,wrote,addN,lt,ne,fpAll,fpApp,brk,yn,rng,mget,mput,mnew,bytes,clr⟩)
include hA
theorem rcgcd_loop {h0 : AHeap} {Q : Exit → SS → Prop} : ∀ (m : Nat) (a b : Int) (h : AHeap),b.natAbs ≤ m → i63 a → i63 b → 0 ≤ a → 0 ≤ b → Ext h0 h →
  (∀ a' : Int,i63 a' → (a'.natAbs : Int) = Int.gcd a b → 0 ≤ a' → ∀ e kn K h',Ext h0 h' → Q (.exit 0) ⟨(0,.int .i64 a') :: e,kn,K,h'⟩) → head 69 2 0 ⟨[(0,.int .i64 a),(1,.int .i64 b)],0,[],h⟩ Q:=by
 intro m
 induction m with
 | zero =>
  intro a b h hm ha hb a0 b0 he hQ
  have hb0 : b = 0:=by omega
  refine hA.roundR Tryz.func69 r69_ok (zc ?_)
  refine br (b ≠ 0) (by rw [e_neq hA]) (fun c => absurd hb0 c) (fun c => ?_) <;> refine zc ?_
  exact hQ a ha (by rw [hb0];simp) a0 _ _ _ h he
 | succ m ih =>
  intro a b h hm ha hb a0 b0 he hQ
  refine hA.roundR Tryz.func69 r69_ok (zc ?_)
  refine br (b ≠ 0) (by rw [e_neq hA]) (fun c => ?_) (fun c => ?_) <;> refine zc ?_
  ·obtain ⟨h9,hh9⟩ : ∃ z,z = bump h 6:=⟨_,rfl⟩
   have e9 : Ext h h9:=by rw [hh9,e_bump hA];exact .bump _ _
   rw [← hh9]
   refine ⟨nz_ok hA c,?_⟩
   refine zc ?_
   rw [rem_tmod hA]
   have l1 : (a.tmod b).natAbs < b.natAbs:=by rw [Int.natAbs_tmod];exact Nat.mod_lt _ (by omega)
   unfold i63 at hb
   refine ih b (a.tmod b) h9 (by omega) hb (by unfold i63;omega) b0 (Int.tmod_nonneg _ a0) (he.trans e9) (fun a' h1 h2 => hQ a' h1 ?_)
   rw [h2,gcd_tmod]
  ·have hb0 : b = 0:=by omega
   exact hQ a ha (by rw [hb0];simp) a0 _ _ _ h he
theorem rcgcd_ok {h : AHeap} (hlow : h.low ≤ h.next) {a b : Int} (ha : i63 a) (hb : i63 b) {Q : Value → AHeap → Prop} (hQ : ∀ g : Int,g = Int.gcd a b → ∀ h',Ext h h' → Q (.int .i64 g) h') : call 69 [.int .i64 a,.int .i64 b] h Q:=by
 refine hA.bodyR Tryz.func69 r69_ok (hA.alike _ _ _ rfl) hlow (zc ?_)
 rw [imax_abs hA ha,imax_abs hA hb]
 have ha' : i63 (a.natAbs : Int):=by unfold i63 at *;omega
 have hb' : i63 (b.natAbs : Int):=by unfold i63 at *;omega
 have e : Int.gcd (a.natAbs : Int) (b.natAbs : Int) = Int.gcd a b:=by unfold Int.gcd;rw [Int.natAbs_natCast,Int.natAbs_natCast]
 have a0 : (0 : Int) ≤ (a.natAbs : Int):=by omega
 have b0 : (0 : Int) ≤ (b.natAbs : Int):=by omega
 rw [← e] at hQ
 generalize (a.natAbs : Int) = x at *
 generalize (b.natAbs : Int) = y at *
 refine rcgcd_loop hA y.natAbs x y h (Nat.le_refl _) ha' hb' a0 b0 (.refl h) (fun a' h1 h2 h3 e kn K h' he => ?_)
 refine zc ?_
 exact hQ _ (by omega) h' he
theorem rccheck_ok {h : AHeap} (hlow : h.low ≤ h.next) {a b d : Int} {Q : Value → AHeap → Prop}
  (hQ : ∀ (e : Int) h',(e = 0 ∧ okC a b d) ∨ (e = 8 ∧ ¬ okC a b d) → Ext h h' → Q (.int .i64 e) h') : call 42 [.agg #[.int .i64 a,.int .i64 b,.int .i64 d]] h Q:=by
 have bad : ¬ (1 ≤ d ∧ d ≤ 1000000000 ∧ -1000000000 ≤ a ∧ a ≤ 1000000000 ∧ -1000000000 ≤ b ∧ b ≤ 1000000000 ∧ Int.gcd (Int.gcd a b) d = 1) → ¬ okC a b d:=fun w q => w ((okC_iff a b d).1 q)
 obtain ⟨h9,hh9⟩ : ∃ z,z = bump h 39:=⟨_,rfl⟩
 have e9 : Ext h h9:=by rw [hh9];exact ext_bump hA _ _
 have l9:=e9.lowOK hlow
 refine hA.bodyR Tryz.func42 r42_ok (hA.alike _ _ _ rfl) hlow (zc ?_)
 rw [← hh9]
 refine br (d < 1) (by rw [e_lss hA]) (fun c1 => ?_) (fun c1 => ?_) <;> refine zc ?_
 ·exact hQ _ _ (.inr ⟨rfl,bad (by omega)⟩) e9
 refine br (1000000000 < d) (by rw [e_gtr hA]) (fun c2 => ?_) (fun c2 => ?_) <;> refine zc ?_
 ·exact hQ _ _ (.inr ⟨rfl,bad (by omega)⟩) e9
 refine br (a < -1000000000) (by rw [e_lss hA]) (fun c3 => ?_) (fun c3 => ?_) <;> refine zc ?_
 ·exact hQ _ _ (.inr ⟨rfl,bad (by omega)⟩) e9
 refine br (1000000000 < a) (by rw [e_gtr hA]) (fun c4 => ?_) (fun c4 => ?_) <;> refine zc ?_
 ·exact hQ _ _ (.inr ⟨rfl,bad (by omega)⟩) e9
 refine br (b < -1000000000) (by rw [e_lss hA]) (fun c5 => ?_) (fun c5 => ?_) <;> refine zc ?_
 ·exact hQ _ _ (.inr ⟨rfl,bad (by omega)⟩) e9
 refine br (1000000000 < b) (by rw [e_gtr hA]) (fun c6 => ?_) (fun c6 => ?_) <;> refine zc ?_
 ·exact hQ _ _ (.inr ⟨rfl,bad (by omega)⟩) e9
 refine rcgcd_ok hA (low_fresh hA h9) (by unfold i63;omega) (by unfold i63;omega) (fun g hg hz ez => ⟨_,rfl,?_⟩)
 obtain ⟨hX,hhX⟩ : ∃ z,z = lowered h9 hz:=⟨_,rfl⟩
 have eX : Ext h hX:=by rw [hhX];exact ext_low hA hlow e9 ez
 have lX:=eX.lowOK hlow
 refine zc ?_
 rw [← hhX]
 have g1:=gcd_i63 (a:=a) (b:=b) (by unfold i63;omega) (by unfold i63;omega)
 rw [← hg] at g1
 refine rcgcd_ok hA (low_fresh hA hX) g1 (by unfold i63;omega) (fun g' hg' hz' ez' => ⟨_,rfl,?_⟩)
 obtain ⟨hY,hhY⟩ : ∃ z,z = lowered hX hz':=⟨_,rfl⟩
 have eY : Ext h hY:=by rw [hhY];exact ext_low hA hlow eX ez'
 refine zc ?_
 rw [← hhY]
 rw [hg] at hg'
 refine br (g' ≠ 1) (by rw [e_neq hA]) (fun c5 => ?_) (fun c5 => ?_) <;> refine zc ?_
 ·exact hQ _ _ (.inr ⟨rfl,bad (by omega)⟩) eY
 ·exact hQ _ _ (.inl ⟨rfl,(okC_iff a b d).2 (by omega)⟩) eY
theorem rcboth_ok {h : AHeap} (hlow : h.low ≤ h.next) {a b d a' b' d' : Int} {Q : Value → AHeap → Prop}
  (hQ : ∀ (e : Int) h',(e = 0 ∧ okC a b d ∧ okC a' b' d') ∨ (e = 8 ∧ ¬ (okC a b d ∧ okC a' b' d')) → Ext h h' → Q (.int .i64 e) h') : call 43 [.agg #[.int .i64 a,.int .i64 b,.int .i64 d],.agg #[.int .i64 a',.int .i64 b',.int .i64 d']] h Q:=by
 refine hA.bodyR Tryz.func43 r43_ok (hA.alike _ _ _ rfl) hlow (zc ?_)
 refine rccheck_ok hA hlow (fun e h1 k1 x1 => ⟨_,rfl,?_⟩)
 refine zc ?_
 refine br (e ≠ 0) (by rw [e_neq hA]) (fun c => ?_) (fun c => ?_) <;> refine zc ?_
 ·refine hQ _ _ (.inr ⟨rfl,fun w => ?_⟩) x1
  rcases k1 with ⟨q,_⟩ | ⟨_,q⟩
  ·exact c q
  ·exact q w.1
 have q1 : okC a b d:=by
  rcases k1 with ⟨_,q⟩ | ⟨q,_⟩
  ·exact q
  ·omega
 refine rccheck_ok hA (x1.lowOK hlow) (fun e h2 k2 x2 => ⟨_,rfl,?_⟩)
 refine zc ?_
 refine br (e ≠ 0) (by rw [e_neq hA]) (fun c => ?_) (fun c => ?_) <;> refine zc ?_
 ·refine hQ _ _ (.inr ⟨rfl,fun w => ?_⟩) (x1.trans x2)
  rcases k2 with ⟨q,_⟩ | ⟨_,q⟩
  ·exact c q
  ·exact q w.2
 refine hQ _ _ (.inl ⟨rfl,q1,?_⟩) (x1.trans x2)
 rcases k2 with ⟨_,q⟩ | ⟨q,_⟩
 ·exact q
 ·omega
theorem made_ok {h : AHeap} (hlow : h.low ≤ h.next) {n m d : Int} (hn : wideC n) (hm : wideC m) (hd : wideC d) (d0 : d ≠ 0) {z : Cq} (h1 : (n : Rat) = z.re * d) (h2 : (m : Rat) = z.im * d) {Q : Value → AHeap → Prop}
  (hQ : ∀ (r s t e : Int) h',outC z r s t e → Ext h h' → Q (.tuple #[.agg #[.int .i64 r,.int .i64 s,.int .i64 t],.int .i64 e]) h') : call 44 [.int .i64 n,.int .i64 m,.int .i64 d] h Q:=by
 unfold wideC at hn hm hd
 refine hA.bodyR Tryz.func44 r44_ok (hA.alike _ _ _ rfl) hlow (zc ?_)
 refine br (d = 0) (by rw [e_eql hA]) (fun q => absurd q d0) (fun _ => ?_) <;> refine zc ?_
 refine rcgcd_ok hA hlow (by unfold i63;omega) (by unfold i63;omega) (fun g0 hg0 k1 x1 => ⟨_,rfl,?_⟩)
 refine zc ?_
 have i0 : i63 g0:=by rw [hg0];exact gcd_i63 (by unfold i63;omega) (by unfold i63;omega)
 refine rcgcd_ok hA (x1.lowOK hlow) i0 (by unfold i63;omega) (fun g hg k2 x2 => ⟨_,rfl,?_⟩)
 have y2:=x1.trans x2
 have i1 : i63 g:=by rw [hg];exact gcd_i63 i0 (by unfold i63;omega)
 have g0' : 0 ≤ g:=by omega
 rw [hg0] at hg
 unfold i63 at i1
 obtain ⟨s,hs⟩ : ∃ s,s = if d < 0 then -g else g:=⟨_,rfl⟩
 have R:=red_ok d0 hg hs h1 h2
 obtain ⟨R0,R1,Rn,Rm,Rd,Rp,Rg,Rre,Rim⟩:=R
 have q1 : arith .quo .i64 n s = n.tdiv s:=quoT hA (by omega) (by omega)
 have q2 : arith .quo .i64 m s = m.tdiv s:=quoT hA (by omega) (by omega)
 have q3 : arith .quo .i64 d s = d.tdiv s:=quoT hA (by omega) (by omega)
 refine zc ?_
 generalize n.tdiv s = r at *
 generalize m.tdiv s = t at *
 generalize d.tdiv s = u at *
 have yes : (-1000000000 ≤ r ∧ r ≤ 1000000000) → (-1000000000 ≤ t ∧ t ≤ 1000000000) → (-1000000000 ≤ u ∧ u ≤ 1000000000) → isC r t u z:=fun a b c => ⟨Rp,c.2,a.1,a.2,b.1,b.2,Rg,Rre,Rim⟩
 have no : ¬ (isC r t u z) → ∀ a b c,¬ isC a b c z:=fun w a b c k => by
  have c1:=cross (a:=r) (a':=a) Rre k.re
  have c2:=cross (a:=t) (a':=b) Rim k.im
  have p:=Nat.dvd_antisymm (den_dvd c1 c2 Rg) (den_dvd c1.symm c2.symm k.g)
  have hd : u = c:=by have:=k.d1;omega
  subst hd
  have e1 : r = a:=Int.eq_of_mul_eq_mul_right (by omega) c1
  have e2 : t = b:=Int.eq_of_mul_eq_mul_right (by omega) c2
  rw [e1,e2] at w
  exact w k
 have l2:=y2.lowOK hlow
 refine br (d < 0) (by rw [e_lss hA]) (fun c => ?_) (fun c => ?_) <;> refine zc ?_
 ·have e : neg .i64 g = s:=by rw [hs,if_pos c,e_neg hA,wrap64 (by omega) (by omega)];omega
  rw [e]
  obtain ⟨h9,hh9⟩ : ∃ z,z = bump k2 12:=⟨_,rfl⟩
  have e9 : Ext k2 h9:=by rw [hh9];exact ext_bump hA _ _
  have l9:=e9.lowOK l2
  have y9:=y2.trans e9
  rw [← hh9]
  (refine zq ?_;repeat ((first | rw [q1] | rw [q2] | rw [q3]);refine zq ?_))
  refine rccheck_ok hA l9 (fun e3 h3 k3 x3 => ⟨_,rfl,?_⟩)
  refine zc ?_
  refine br (e3 ≠ 0) (by rw [e_neq hA]) (fun c3 => ?_) (fun c3 => ?_) <;> refine zc ?_
  ·refine hQ _ _ _ _ _ (.inr ⟨no (fun w => ?_),rfl,rfl,rfl,rfl⟩) (y9.trans x3)
   rcases k3 with ⟨q,_⟩ | ⟨_,q⟩
   ·exact c3 q
   ·exact q ⟨_,w⟩
  have ok : okC r t u:=by
   rcases k3 with ⟨_,q⟩ | ⟨q,_⟩
   ·exact q
   ·omega
  obtain ⟨z',hz'⟩:=ok
  exact hQ _ _ _ _ _ (.inl ⟨yes ⟨hz'.a1,hz'.a2⟩ ⟨hz'.b1,hz'.b2⟩ ⟨by have:=hz'.d1;omega,hz'.d2⟩,rfl⟩) (y9.trans x3)
 ·have e : g = s:=by rw [hs,if_neg c]
  rw [e]
  obtain ⟨h9,hh9⟩ : ∃ z,z = bump k2 12:=⟨_,rfl⟩
  have e9 : Ext k2 h9:=by rw [hh9];exact ext_bump hA _ _
  have l9:=e9.lowOK l2
  have y9:=y2.trans e9
  rw [← hh9]
  (refine zq ?_;repeat ((first | rw [q1] | rw [q2] | rw [q3]);refine zq ?_))
  refine rccheck_ok hA l9 (fun e3 h3 k3 x3 => ⟨_,rfl,?_⟩)
  refine zc ?_
  refine br (e3 ≠ 0) (by rw [e_neq hA]) (fun c3 => ?_) (fun c3 => ?_) <;> refine zc ?_
  ·refine hQ _ _ _ _ _ (.inr ⟨no (fun w => ?_),rfl,rfl,rfl,rfl⟩) (y9.trans x3)
   rcases k3 with ⟨q,_⟩ | ⟨_,q⟩
   ·exact c3 q
   ·exact q ⟨_,w⟩
  have ok : okC r t u:=by
   rcases k3 with ⟨_,q⟩ | ⟨q,_⟩
   ·exact q
   ·omega
  obtain ⟨z',hz'⟩:=ok
  exact hQ _ _ _ _ _ (.inl ⟨yes ⟨hz'.a1,hz'.a2⟩ ⟨hz'.b1,hz'.b2⟩ ⟨by have:=hz'.d1;omega,hz'.d2⟩,rfl⟩) (y9.trans x3)
theorem rcadd_ok {h : AHeap} (hlow : h.low ≤ h.next) {a b d a' b' d' : Int} {Q : Value → AHeap → Prop}
  (hQ : ∀ (r s t e : Int) h',OpC Cq.add a b d a' b' d' r s t e → Ext h h' → Q (.tuple #[.agg #[.int .i64 r,.int .i64 s,.int .i64 t],.int .i64 e]) h') : call 27 [.agg #[.int .i64 a,.int .i64 b,.int .i64 d],.agg #[.int .i64 a',.int .i64 b',.int .i64 d']] h Q:=by
 refine hA.bodyR Tryz.func27 r27_ok (hA.alike _ _ _ rfl) hlow (zc ?_)
 refine rcboth_ok hA hlow (fun e h1 k1 x1 => ⟨_,rfl,?_⟩)
 refine zc ?_
 refine br (e ≠ 0) (by rw [e_neq hA]) (fun c => ?_) (fun c => ?_) <;> refine zc ?_
 ·rcases k1 with ⟨q,_⟩ | ⟨q,w⟩
  ·exact absurd q c
  ·exact hQ _ _ _ _ _ (.inl ⟨w,rfl,rfl,rfl,rfl⟩) x1
 obtain ⟨⟨z,hz⟩,⟨w,hw⟩⟩ : okC a b d ∧ okC a' b' d':=by
  rcases k1 with ⟨_,q⟩ | ⟨q,_⟩
  ·exact q
  ·omega
 have p1:=prod18 hz.a1 hz.a2 (y:=d') (by have:=hw.d1;omega) hw.d2
 have p2:=prod18 hw.a1 hw.a2 (y:=d) (by have:=hz.d1;omega) hz.d2
 have p3:=prod18 hz.b1 hz.b2 (y:=d') (by have:=hw.d1;omega) hw.d2
 have p4:=prod18 hw.b1 hw.b2 (y:=d) (by have:=hz.d1;omega) hz.d2
 have p5:=prod18 (x:=d) (y:=d') (by have:=hz.d1;omega) hz.d2 (by have:=hw.d1;omega) hw.d2
 have dd : d * d' ≠ 0:=Int.mul_ne_zero (by have:=hz.d1;omega) (by have:=hw.d1;omega)
 have m1 : arith .mul .i64 a d' = a * d':=mul64 hA (by omega) (by omega)
 have m2 : arith .mul .i64 a' d = a' * d:=mul64 hA (by omega) (by omega)
 have m3 : arith .mul .i64 b d' = b * d':=mul64 hA (by omega) (by omega)
 have m4 : arith .mul .i64 b' d = b' * d:=mul64 hA (by omega) (by omega)
 have m5 : arith .mul .i64 d d' = d * d':=mul64 hA (by omega) (by omega)
 have s1 : arith .add .i64 (a * d') (a' * d) = a * d' + a' * d:=add64 hA (by omega) (by omega)
 have s2 : arith .add .i64 (b * d') (b' * d) = b * d' + b' * d:=add64 hA (by omega) (by omega)
 rw [m1,m2,m3,m4,m5,s1,s2]
 refine made_ok hA (x1.lowOK hlow) (z:=z.add w) (by unfold wideC;omega) (by unfold wideC;omega) (by unfold wideC;omega) dd ?_ ?_ (fun r s t e h2 k2 x2 => ⟨_,_,_,_,rfl,?_⟩)
 ·show _ = (z.re + w.re) * _
  rw [Rat.intCast_add,Rat.intCast_mul,Rat.intCast_mul,Rat.intCast_mul,hz.re,hw.re];grind
 ·show _ = (z.im + w.im) * _
  rw [Rat.intCast_add,Rat.intCast_mul,Rat.intCast_mul,Rat.intCast_mul,hz.im,hw.im];grind
 refine zc ?_
 exact hQ _ _ _ _ _ (.inr ⟨z,w,hz,hw,k2⟩) (x1.trans x2)
theorem rcmul_ok {h : AHeap} (hlow : h.low ≤ h.next) {a b d a' b' d' : Int} {Q : Value → AHeap → Prop}
  (hQ : ∀ (r s t e : Int) h',OpC Cq.mul a b d a' b' d' r s t e → Ext h h' → Q (.tuple #[.agg #[.int .i64 r,.int .i64 s,.int .i64 t],.int .i64 e]) h') : call 26 [.agg #[.int .i64 a,.int .i64 b,.int .i64 d],.agg #[.int .i64 a',.int .i64 b',.int .i64 d']] h Q:=by
 refine hA.bodyR Tryz.func26 r26_ok (hA.alike _ _ _ rfl) hlow (zc ?_)
 refine rcboth_ok hA hlow (fun e h1 k1 x1 => ⟨_,rfl,?_⟩)
 refine zc ?_
 refine br (e ≠ 0) (by rw [e_neq hA]) (fun c => ?_) (fun c => ?_) <;> refine zc ?_
 ·rcases k1 with ⟨q,_⟩ | ⟨q,w⟩
  ·exact absurd q c
  ·exact hQ _ _ _ _ _ (.inl ⟨w,rfl,rfl,rfl,rfl⟩) x1
 obtain ⟨⟨z,hz⟩,⟨w,hw⟩⟩ : okC a b d ∧ okC a' b' d':=by
  rcases k1 with ⟨_,q⟩ | ⟨q,_⟩
  ·exact q
  ·omega
 have p1:=prod18 hz.a1 hz.a2 hw.a1 hw.a2
 have p2:=prod18 hz.b1 hz.b2 hw.b1 hw.b2
 have p3:=prod18 hz.a1 hz.a2 hw.b1 hw.b2
 have p4:=prod18 hz.b1 hz.b2 hw.a1 hw.a2
 have p5:=prod18 (x:=d) (y:=d') (by have:=hz.d1;omega) hz.d2 (by have:=hw.d1;omega) hw.d2
 have dd : d * d' ≠ 0:=Int.mul_ne_zero (by have:=hz.d1;omega) (by have:=hw.d1;omega)
 have m1 : arith .mul .i64 a a' = a * a':=mul64 hA (by omega) (by omega)
 have m2 : arith .mul .i64 b b' = b * b':=mul64 hA (by omega) (by omega)
 have m3 : arith .mul .i64 a b' = a * b':=mul64 hA (by omega) (by omega)
 have m4 : arith .mul .i64 b a' = b * a':=mul64 hA (by omega) (by omega)
 have m5 : arith .mul .i64 d d' = d * d':=mul64 hA (by omega) (by omega)
 have s1 : arith .sub .i64 (a * a') (b * b') = a * a' - b * b':=sub64 hA (by omega) (by omega)
 have s2 : arith .add .i64 (a * b') (b * a') = a * b' + b * a':=add64 hA (by omega) (by omega)
 rw [m1,m2,m3,m4,m5,s1,s2]
 refine made_ok hA (x1.lowOK hlow) (z:=z.mul w) (by unfold wideC;omega) (by unfold wideC;omega) (by unfold wideC;omega) dd ?_ ?_ (fun r s t e h2 k2 x2 => ⟨_,_,_,_,rfl,?_⟩)
 ·show _ = (z.re * w.re - z.im * w.im) * _
  rw [Rat.intCast_sub,Rat.intCast_mul,Rat.intCast_mul,Rat.intCast_mul,hz.re,hw.re,hz.im,hw.im];grind
 ·show _ = (z.re * w.im + z.im * w.re) * _
  rw [Rat.intCast_add,Rat.intCast_mul,Rat.intCast_mul,Rat.intCast_mul,hz.im,hw.im,hz.re,hw.re];grind
 refine zc ?_
 exact hQ _ _ _ _ _ (.inr ⟨z,w,hz,hw,k2⟩) (x1.trans x2)
theorem rcconj_ok {h : AHeap} (hlow : h.low ≤ h.next) {a b d : Int} {Q : Value → AHeap → Prop}
  (hQ : ∀ (r s t e : Int) h',ConjC a b d r s t e → Ext h h' → Q (.tuple #[.agg #[.int .i64 r,.int .i64 s,.int .i64 t],.int .i64 e]) h') : call 25 [.agg #[.int .i64 a,.int .i64 b,.int .i64 d]] h Q:=by
 refine hA.bodyR Tryz.func25 r25_ok (hA.alike _ _ _ rfl) hlow (zc ?_)
 refine rccheck_ok hA hlow (fun e h1 k1 x1 => ⟨_,rfl,?_⟩)
 refine zc ?_
 refine br (e ≠ 0) (by rw [e_neq hA]) (fun c => ?_) (fun c => ?_) <;> refine zc ?_
 ·rcases k1 with ⟨q,_⟩ | ⟨q,w⟩
  ·exact absurd q c
  ·exact hQ _ _ _ _ _ (.inl ⟨w,rfl,rfl,rfl,rfl⟩) x1
 have hz : okC a b d:=by
  rcases k1 with ⟨_,q⟩ | ⟨q,_⟩
  ·exact q
  ·omega
 obtain ⟨z,hz'⟩:=id hz
 have e1 : neg .i64 b = -b:=by rw [e_neg hA,wrap64 (by have:=hz'.b2;omega) (by have:=hz'.b1;omega)];omega
 rw [e1]
 exact hQ _ _ _ _ _ (.inr ⟨hz,rfl,rfl,rfl,rfl⟩) x1
theorem csame_loop {h0 : AHeap} (hlow : h0.low ≤ h0.next) {a a' : Option Addr} {n c c' : Nat} {l l' : List Ck} (hl : Cs h0 a n l) (hl' : Cs h0 a' n l') (hn : n ≤ 100000) {Q : Exit → SS → Prop}
  (hbad : ∀ h',l ≠ l' → Ext h0 h' → ∀ e kn K,Q .ret ⟨(4,.bool false) :: e,kn,K,h'⟩) (hok : ∀ h' kn,l = l' → Ext h0 h' → Q (.exit 0) ⟨[],kn,[],h'⟩) :
  ∀ (m : Nat) (i : Int) (h : AHeap),(n - i).toNat ≤ m → 0 ≤ i → i ≤ n → (∀ j : Int,0 ≤ j → j < i → gt l j = gt l' j) → Ext h0 h →
   head 12 4 0 ⟨[(0,.slice a n c),(1,.slice a' n c'),(5,.int .i64 i)],0,[],h⟩ Q:=by
 have hlen:=hl.len
 have hlen':=hl'.len
 intro m
 induction m with
 | zero =>
  intro i h hm i0 i1 hall he
  refine hA.roundR Tryz.func12 r12_ok (zc ?_)
  refine br (i < n) (by rw [e_lss hA,e_ofNat hA]) (fun c1 => by omega) (fun c1 => ?_) <;> refine zc ?_
  exact hok h _ (gt_ext (by omega) (fun j j0 j1 => hall j j0 (by omega))) he
 | succ m ih =>
 intro i h hm i0 i1 hall he
 by_cases ci : i < n
 rotate_left
 ·refine hA.roundR Tryz.func12 r12_ok (zc ?_)
  refine br (i < n) (by rw [e_lss hA,e_ofNat hA]) (fun c1 => absurd c1 ci) (fun c1 => ?_) <;> refine zc ?_
  exact hok h _ (gt_ext (by omega) (fun j j0 j1 => hall j j0 (by omega))) he
 obtain ⟨b,o,rfl⟩:=cs_some hl (by omega)
 obtain ⟨b',o',rfl⟩:=cs_some hl' (by omega)
 obtain ⟨h9,hh9⟩ : ∃ z,z = bump h 9:=⟨_,rfl⟩
 have e9 : Ext h0 h9:=by rw [hh9];exact he.trans (ext_bump hA _ _)
 obtain ⟨_,_,a1,a2,a3,ea,_,hg,r1⟩:=cs_at (hl.ext e9) (i:=i) i0 ci
 cases ea
 obtain ⟨_,_,p1,p2,p3,eb,_,hp,q1⟩:=cs_at (hl'.ext e9) (i:=i) i0 ci
 cases eb
 have r2:=rd_ok hA r1
 have q2:=rd_ok hA q1
 obtain ⟨r,hr1,hr2⟩:=eqC a1 a2 a3 p1 p2 p3
 refine hA.roundR Tryz.func12 r12_ok (zc ?_)
 refine br (i < n) (by rw [e_lss hA,e_ofNat hA]) (fun c1 => ?_) (fun c1 => absurd ci c1) <;> refine zc ?_
 rw [← hh9]
 refine zq ?_
 rw [e_eqAgg hA]
 refine ⟨guardC,r,hr1,?_⟩
 have same : gt l i = gt l' i ↔ r = true:=by
  rw [hg,hp,hr2]
  constructor
  ·intro q;cases q;exact ⟨rfl,rfl,rfl⟩
  ·rintro ⟨rfl,rfl,rfl⟩;rfl
 cases r with
 | true =>
  refine zc ?_
  rw [show bnot true = false by rw [e_bnot hA];rfl]
  refine zc ?_
  rw [add64 hA (by omega) (by omega)]
  refine ih (i + 1) h9 (by omega) (by omega) (by omega) (fun j j0 j1 => ?_) e9
  by_cases z : j = i
  ·subst z;exact same.2 rfl
  ·exact hall j j0 (by omega)
 | false =>
  refine zc ?_
  rw [show bnot false = true by rw [e_bnot hA];rfl]
  refine zc ?_
  exact hbad h9 (fun q => by have:=same.1 (by rw [q]);cases this) e9 _ _ _
theorem csame_ok {h : AHeap} (hlow : h.low ≤ h.next) {a a' : Option Addr} {n n' c c' : Nat} {l l' : List Ck} (hl : Cs h a n l) (hl' : Cs h a' n' l') (hn : n ≤ 100000) {Q : Value → AHeap → Prop}
  (hQ : ∀ (r : Bool) h',(r = true ↔ l = l') → Ext h h' → Q (.bool r) h') : call 12 [.slice a n c,.slice a' n' c'] h Q:=by
 have hlen:=hl.len
 have hlen':=hl'.len
 refine hA.bodyR Tryz.func12 r12_ok (hA.alike _ _ _ rfl) hlow (zc ?_)
 refine br ((n : Int) ≠ n') (by rw [e_neq hA,e_ofNat hA,e_ofNat hA]) (fun c1 => ?_) (fun c1 => ?_) <;> refine zc ?_
 ·exact hQ false h ⟨(fun q => by cases q),fun q => by rw [q] at hlen;omega⟩ (.refl h)
 obtain rfl : n = n':=by omega
 refine csame_loop hA hlow hl hl' hn (fun h' hg x' e kn K => ?_) (fun h' kn hg x' => ?_) n 0 h (by omega) (by omega) (by omega) (fun j j0 j1 => by omega) (.refl h)
 ·refine zc ?_
  exact hQ false h' ⟨(fun q => by cases q),fun q => absurd q hg⟩ x'
 ·refine zc ?_
  exact hQ true h' ⟨fun _ => hg,fun _ => rfl⟩ x'
end Go.Proofs.YtkbgkjlgnmlghaaGreat
