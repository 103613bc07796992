import Derived.Test.YtmkiclinllifiaaFracA
import Derived.KernelRfl
import Derived.Test.YtmkiclinllifiaaSeatA
import Derived.Test.YtmkiclinllifiaaSeatB
import Derived.Test.YtmkiclinllifiaaSeatC
import Derived.Test.YtmkiclinllifiaaSeatD
import Derived.Test.YtmkiclinllifiaaSeatE
import Derived.Test.YtmkiclinllifiaaSeatF
import Derived.Test.YtmkiclinllifiaaSeatG
import Derived.Test.YtmkiclinllifiaaSymApp2
import Derived.Test.YtmkiclinllifiaaQuSo
import Derived.Test.YtmkiclinllifiaaMapI
import Derived.Test.YtmkiclinllifiaaSymD
set_option linter.unusedSimpArgs false
set_option linter.unusedVariables false
namespace Go.Proofs.Ytmkiclinllifiaa
open Go.Sim
set_option linter.unusedVariables false
set_option maxRecDepth 100000
theorem gcd_tmod (a b : Int) : Int.gcd b (a.tmod b) = Int.gcd a b:=by
 unfold Int.gcd
 rw [Int.natAbs_tmod,Nat.gcd_comm,← Nat.gcd_rec,Nat.gcd_comm]
def i63 (n : Int) : Prop:=-9223372036854775807 ≤ n ∧ n ≤ 9223372036854775807
theorem gcd_i63 {a b : Int} (ha : i63 a) (hb : i63 b) : i63 (Int.gcd a b):=by
 unfold i63 at *
 by_cases h : a = 0
 ·rw [h,Int.gcd_zero_left];omega
 ·have:=Nat.gcd_le_left b.natAbs (m:=a.natAbs) (by omega)
  have e : Int.gcd a b = Nat.gcd a.natAbs b.natAbs:=rfl
  omega
variable {F : Prims} {call head arith cmp scmp bnot bsame conv neg imax imin ofNat slen place inR nz geZ rd wr push next mkOK nat zeros sadd eqAgg cut slc sslc strAt part app cpy putAt fresh lowered bump wrote addN lt ne fpAll fpApp brk yn rng mget mput mnew bytes clr mrng ment : _} (hA : AP F ⟨call,head,arith,cmp,scmp,bnot,bsame,conv,neg,imax,imin,ofNat,slen,place,inR,nz,geZ,rd,wr,push,next,mkOK,nat,zeros,sadd,eqAgg,cut,slc,sslc,strAt,part,app,cpy,putAt,fresh,lowered,bump,wrote,addN,lt,ne,fpAll,fpApp,brk,yn,rng,mget,mput,mnew,bytes,clr,mrng,ment⟩)
include hA
theorem imax_abs {a : Int} (h : i63 a) : imax a (neg .i64 a) = a.natAbs:=by
 unfold i63 at h
 rw [e_imax hA,e_neg hA,wrap64 (by omega) (by omega)]
 split <;> omega
theorem rem_tmod {a b : Int} : arith .rem .i64 a b = a.tmod b:=e_rem hA _ _ _
theorem cgcd_loop {h0 : AHeap} {Q : Exit → SS → Prop} : ∀ (m : Nat) (a b : Int) (h : AHeap),b.natAbs ≤ m → i63 a → i63 b → Ext h0 h →
  (∀ a' : Int,i63 a' → (a'.natAbs : Int) = Int.gcd a b → ∀ e kn K h',Ext h0 h' → Q (.exit 0) ⟨(0,.int .i64 a') :: e,kn,K,h'⟩) → head 70 1 0 ⟨[(0,.int .i64 a),(1,.int .i64 b)],0,[],h⟩ Q:=by
 intro m
 induction m with
 | zero =>
  intro a b h hm ha hb he hQ
  have hb0 : b = 0:=by omega
  refine hA.roundR Try.func70 r70_ok (zc ?_)
  refine br (b ≠ 0) (by rw [e_neq hA]) (fun c => absurd hb0 c) (fun c => ?_) <;> refine zc ?_
  exact hQ a ha (by rw [hb0];simp) _ _ _ h he
 | succ m ih =>
  intro a b h hm ha hb he hQ
  refine hA.roundR Try.func70 r70_ok (zc ?_)
  refine br (b ≠ 0) (by rw [e_neq hA]) (fun c => ?_) (fun c => ?_) <;> refine zc ?_
  ·obtain ⟨h9,hh9⟩ : ∃ z,z = bump h 6:=⟨_,rfl⟩
   have e9 : Ext h h9:=by rw [hh9,e_bump hA];exact .bump _ _
   rw [← hh9]
   refine ⟨nz_ok hA c,?_⟩
   refine zc ?_
   rw [rem_tmod hA]
   have l1 : (a.tmod b).natAbs < b.natAbs:=by rw [Int.natAbs_tmod];exact Nat.mod_lt _ (by omega)
   unfold i63 at hb
   refine ih b (a.tmod b) h9 (by omega) hb (by unfold i63;omega) (he.trans e9) (fun a' h1 h2 => hQ a' h1 ?_)
   rw [h2,gcd_tmod]
  ·have hb0 : b = 0:=by omega
   exact hQ a ha (by rw [hb0];simp) _ _ _ h he
theorem cgcd_ok {h : AHeap} (hlow : h.low ≤ h.next) {a b : Int} (ha : i63 a) (hb : i63 b) {Q : Value → AHeap → Prop} (hQ : ∀ g : Int,g = Int.gcd a b → ∀ h',Ext h h' → Q (.int .i64 g) h') : call 70 [.int .i64 a,.int .i64 b] h Q:=by
 refine hA.bodyR Try.func70 r70_ok (hA.alike _ _ _ rfl) hlow (zc ?_)
 refine cgcd_loop hA b.natAbs a b h (Nat.le_refl _) ha hb (.refl h) (fun a' h1 h2 e kn K h' he => ?_)
 refine zc ?_
 rw [imax_abs hA h1]
 exact hQ _ h2 h' he
theorem cfits_ok {h : AHeap} (hlow : h.low ≤ h.next) {x : Int} {Q : Value → AHeap → Prop} (hQ : ∀ r : Bool,(r = true ↔ -1000000000 ≤ x ∧ x ≤ 1000000000) → Q (.bool r) h) : call 76 [.int .i64 x] h Q:=by
 refine hA.bodyR Try.func76 r76_ok (hA.alike _ _ _ rfl) hlow (zc ?_)
 refine br (-1000000000 ≤ x) (by rw [e_geq hA]) (fun c => ?_) (fun c => ?_) <;> refine zc ?_
 ·rw [e_leq hA]
  exact hQ _ (by simp;omega)
 ·exact hQ _ (by simp;omega)
theorem ccheck_ok {h : AHeap} (hlow : h.low ≤ h.next) {a b d : Int} {Q : Value → AHeap → Prop}
  (hQ : ∀ (e : Int) h',(e = 0 ∧ okC a b d) ∨ (e = 8 ∧ ¬ okC a b d) → Ext h h' → Q (.int .i64 e) h') : call 62 [.agg #[.int .i64 a,.int .i64 b,.int .i64 d]] h Q:=by
 have bad : ¬ (1 ≤ d ∧ d ≤ 1000000000 ∧ -1000000000 ≤ a ∧ a ≤ 1000000000 ∧ -1000000000 ≤ b ∧ b ≤ 1000000000 ∧ Int.gcd (Int.gcd a b) d = 1) → ¬ okC a b d:=fun w q => w ((okC_iff a b d).1 q)
 obtain ⟨h9,hh9⟩ : ∃ z,z = bump h 31:=⟨_,rfl⟩
 have e9 : Ext h h9:=by rw [hh9];exact ext_bump hA _ _
 have l9:=e9.lowOK hlow
 refine hA.bodyR Try.func62 r62_ok (hA.alike _ _ _ rfl) hlow (zc ?_)
 rw [← hh9]
 refine br (d < 1) (by rw [e_lss hA]) (fun c1 => ?_) (fun c1 => ?_) <;> refine zc ?_
 ·exact hQ _ _ (.inr ⟨rfl,bad (by omega)⟩) e9
 refine br (1000000000 < d) (by rw [e_gtr hA]) (fun c2 => ?_) (fun c2 => ?_) <;> refine zc ?_
 ·exact hQ _ _ (.inr ⟨rfl,bad (by omega)⟩) e9
 refine cfits_ok hA (low_fresh hA h9) (fun r hr => ⟨_,rfl,?_⟩)
 refine zc ?_
 rw [low_same hA l9]
 refine br (r = false) (by rw [e_bnot hA];cases r <;> rfl) (fun c3 => ?_) (fun c3 => ?_) <;> refine zc ?_
 ·refine hQ _ _ (.inr ⟨rfl,bad (fun w => ?_)⟩) e9
  rw [c3] at hr;have:=hr.2 ⟨w.2.2.1,w.2.2.2.1⟩;cases this
 have r3:=hr.1 (by cases r with | true => rfl | false => exact absurd rfl c3)
 refine cfits_ok hA (low_fresh hA h9) (fun r hr => ⟨_,rfl,?_⟩)
 refine zc ?_
 rw [low_same hA l9]
 refine br (r = false) (by rw [e_bnot hA];cases r <;> rfl) (fun c3 => ?_) (fun c3 => ?_) <;> refine zc ?_
 ·refine hQ _ _ (.inr ⟨rfl,bad (fun w => ?_)⟩) e9
  rw [c3] at hr;have:=hr.2 ⟨w.2.2.2.2.1,w.2.2.2.2.2.1⟩;cases this
 have r4:=hr.1 (by cases r with | true => rfl | false => exact absurd rfl c3)
 refine cgcd_ok hA (low_fresh hA h9) (by unfold i63;omega) (by unfold i63;omega) (fun g hg hz ez => ⟨_,rfl,?_⟩)
 obtain ⟨hX,hhX⟩ : ∃ z,z = lowered h9 hz:=⟨_,rfl⟩
 have eX : Ext h hX:=by rw [hhX];exact ext_low hA hlow e9 ez
 have lX:=eX.lowOK hlow
 refine zc ?_
 rw [← hhX]
 have g1:=gcd_i63 (a:=a) (b:=b) (by unfold i63;omega) (by unfold i63;omega)
 rw [← hg] at g1
 refine cgcd_ok hA (low_fresh hA hX) g1 (by unfold i63;omega) (fun g' hg' hz' ez' => ⟨_,rfl,?_⟩)
 obtain ⟨hY,hhY⟩ : ∃ z,z = lowered hX hz':=⟨_,rfl⟩
 have eY : Ext h hY:=by rw [hhY];exact ext_low hA hlow eX ez'
 refine zc ?_
 rw [← hhY]
 rw [hg] at hg'
 refine br (g' ≠ 1) (by rw [e_neq hA]) (fun c5 => ?_) (fun c5 => ?_) <;> refine zc ?_
 ·exact hQ _ _ (.inr ⟨rfl,bad (by omega)⟩) eY
 ·exact hQ _ _ (.inl ⟨rfl,(okC_iff a b d).2 (by omega)⟩) eY
end Go.Proofs.Ytmkiclinllifiaa
namespace Go.Proofs.Ytmkiclinllifiaa
open Go.Sim
set_option linter.unusedVariables false
set_option maxRecDepth 100000
structure Ck where
 a : Int
 b : Int
 d : Int
instance : Inhabited Ck:=⟨⟨0,0,0⟩⟩
def Ck.cells (k : Ck) : List Value:=[.int .i64 k.a,.int .i64 k.b,.int .i64 k.d]
def Ck.ok (k : Ck) : Prop:=okC k.a k.b k.d
variable {F : Prims} {call head arith cmp scmp bnot bsame conv neg imax imin ofNat slen place inR nz geZ rd wr push next mkOK nat zeros sadd eqAgg cut slc sslc strAt part app cpy putAt fresh lowered bump wrote addN lt ne fpAll fpApp brk yn rng mget mput mnew bytes clr mrng ment : _} (hA : AP F ⟨call,head,arith,cmp,scmp,bnot,bsame,conv,neg,imax,imin,ofNat,slen,place,inR,nz,geZ,rd,wr,push,next,mkOK,nat,zeros,sadd,eqAgg,cut,slc,sslc,strAt,part,app,cpy,putAt,fresh,lowered,bump,wrote,addN,lt,ne,fpAll,fpApp,brk,yn,rng,mget,mput,mnew,bytes,clr,mrng,ment⟩)
include hA
theorem rcgcd_loop {h0 : AHeap} {Q : Exit → SS → Prop} : ∀ (m : Nat) (a b : Int) (h : AHeap),b.natAbs ≤ m → i63 a → i63 b → 0 ≤ a → 0 ≤ b → Ext h0 h →
  (∀ a' : Int,i63 a' → (a'.natAbs : Int) = Int.gcd a b → 0 ≤ a' → ∀ e kn K h',Ext h0 h' → Q (.exit 0) ⟨(0,.int .i64 a') :: e,kn,K,h'⟩) → head 60 2 0 ⟨[(0,.int .i64 a),(1,.int .i64 b)],0,[],h⟩ Q:=by
 intro m
 induction m with
 | zero =>
  intro a b h hm ha hb a0 b0 he hQ
  have hb0 : b = 0:=by omega
  refine hA.roundR Try.func60 r60_ok (zc ?_)
  refine br (b ≠ 0) (by rw [e_neq hA]) (fun c => absurd hb0 c) (fun c => ?_) <;> refine zc ?_
  exact hQ a ha (by rw [hb0];simp) a0 _ _ _ h he
 | succ m ih =>
  intro a b h hm ha hb a0 b0 he hQ
  refine hA.roundR Try.func60 r60_ok (zc ?_)
  refine br (b ≠ 0) (by rw [e_neq hA]) (fun c => ?_) (fun c => ?_) <;> refine zc ?_
  ·obtain ⟨h9,hh9⟩ : ∃ z,z = bump h 6:=⟨_,rfl⟩
   have e9 : Ext h h9:=by rw [hh9,e_bump hA];exact .bump _ _
   rw [← hh9]
   refine ⟨nz_ok hA c,?_⟩
   refine zc ?_
   rw [rem_tmod hA]
   have l1 : (a.tmod b).natAbs < b.natAbs:=by rw [Int.natAbs_tmod];exact Nat.mod_lt _ (by omega)
   unfold i63 at hb
   refine ih b (a.tmod b) h9 (by omega) hb (by unfold i63;omega) b0 (Int.tmod_nonneg _ a0) (he.trans e9) (fun a' h1 h2 => hQ a' h1 ?_)
   rw [h2,gcd_tmod]
  ·have hb0 : b = 0:=by omega
   exact hQ a ha (by rw [hb0];simp) a0 _ _ _ h he
theorem rcgcd_ok {h : AHeap} (hlow : h.low ≤ h.next) {a b : Int} (ha : i63 a) (hb : i63 b) {Q : Value → AHeap → Prop} (hQ : ∀ g : Int,g = Int.gcd a b → ∀ h',Ext h h' → Q (.int .i64 g) h') : call 60 [.int .i64 a,.int .i64 b] h Q:=by
 refine hA.bodyR Try.func60 r60_ok (hA.alike _ _ _ rfl) hlow (zc ?_)
 rw [imax_abs hA ha,imax_abs hA hb]
 have ha' : i63 (a.natAbs : Int):=by unfold i63 at *;omega
 have hb' : i63 (b.natAbs : Int):=by unfold i63 at *;omega
 have e : Int.gcd (a.natAbs : Int) (b.natAbs : Int) = Int.gcd a b:=by unfold Int.gcd;rw [Int.natAbs_natCast,Int.natAbs_natCast]
 have a0 : (0 : Int) ≤ (a.natAbs : Int):=by omega
 have b0 : (0 : Int) ≤ (b.natAbs : Int):=by omega
 rw [← e] at hQ
 generalize (a.natAbs : Int) = x at *
 generalize (b.natAbs : Int) = y at *
 refine rcgcd_loop hA y.natAbs x y h (Nat.le_refl _) ha' hb' a0 b0 (.refl h) (fun a' h1 h2 h3 e kn K h' he => ?_)
 refine zc ?_
 exact hQ _ (by omega) h' he
theorem rccheck_ok {h : AHeap} (hlow : h.low ≤ h.next) {a b d : Int} {Q : Value → AHeap → Prop}
  (hQ : ∀ (e : Int) h',(e = 0 ∧ okC a b d) ∨ (e = 8 ∧ ¬ okC a b d) → Ext h h' → Q (.int .i64 e) h') : call 33 [.agg #[.int .i64 a,.int .i64 b,.int .i64 d]] h Q:=by
 have bad : ¬ (1 ≤ d ∧ d ≤ 1000000000 ∧ -1000000000 ≤ a ∧ a ≤ 1000000000 ∧ -1000000000 ≤ b ∧ b ≤ 1000000000 ∧ Int.gcd (Int.gcd a b) d = 1) → ¬ okC a b d:=fun w q => w ((okC_iff a b d).1 q)
 obtain ⟨h9,hh9⟩ : ∃ z,z = bump h 39:=⟨_,rfl⟩
 have e9 : Ext h h9:=by rw [hh9];exact ext_bump hA _ _
 have l9:=e9.lowOK hlow
 refine hA.bodyR Try.func33 r33_ok (hA.alike _ _ _ rfl) hlow (zc ?_)
 rw [← hh9]
 refine br (d < 1) (by rw [e_lss hA]) (fun c1 => ?_) (fun c1 => ?_) <;> refine zc ?_
 ·exact hQ _ _ (.inr ⟨rfl,bad (by omega)⟩) e9
 refine br (1000000000 < d) (by rw [e_gtr hA]) (fun c2 => ?_) (fun c2 => ?_) <;> refine zc ?_
 ·exact hQ _ _ (.inr ⟨rfl,bad (by omega)⟩) e9
 refine br (a < -1000000000) (by rw [e_lss hA]) (fun c3 => ?_) (fun c3 => ?_) <;> refine zc ?_
 ·exact hQ _ _ (.inr ⟨rfl,bad (by omega)⟩) e9
 refine br (1000000000 < a) (by rw [e_gtr hA]) (fun c4 => ?_) (fun c4 => ?_) <;> refine zc ?_
 ·exact hQ _ _ (.inr ⟨rfl,bad (by omega)⟩) e9
 refine br (b < -1000000000) (by rw [e_lss hA]) (fun c5 => ?_) (fun c5 => ?_) <;> refine zc ?_
 ·exact hQ _ _ (.inr ⟨rfl,bad (by omega)⟩) e9
 refine br (1000000000 < b) (by rw [e_gtr hA]) (fun c6 => ?_) (fun c6 => ?_) <;> refine zc ?_
 ·exact hQ _ _ (.inr ⟨rfl,bad (by omega)⟩) e9
 refine rcgcd_ok hA (low_fresh hA h9) (by unfold i63;omega) (by unfold i63;omega) (fun g hg hz ez => ⟨_,rfl,?_⟩)
 obtain ⟨hX,hhX⟩ : ∃ z,z = lowered h9 hz:=⟨_,rfl⟩
 have eX : Ext h hX:=by rw [hhX];exact ext_low hA hlow e9 ez
 have lX:=eX.lowOK hlow
 refine zc ?_
 rw [← hhX]
 have g1:=gcd_i63 (a:=a) (b:=b) (by unfold i63;omega) (by unfold i63;omega)
 rw [← hg] at g1
 refine rcgcd_ok hA (low_fresh hA hX) g1 (by unfold i63;omega) (fun g' hg' hz' ez' => ⟨_,rfl,?_⟩)
 obtain ⟨hY,hhY⟩ : ∃ z,z = lowered hX hz':=⟨_,rfl⟩
 have eY : Ext h hY:=by rw [hhY];exact ext_low hA hlow eX ez'
 refine zc ?_
 rw [← hhY]
 rw [hg] at hg'
 refine br (g' ≠ 1) (by rw [e_neq hA]) (fun c5 => ?_) (fun c5 => ?_) <;> refine zc ?_
 ·exact hQ _ _ (.inr ⟨rfl,bad (by omega)⟩) eY
 ·exact hQ _ _ (.inl ⟨rfl,(okC_iff a b d).2 (by omega)⟩) eY
end Go.Proofs.Ytmkiclinllifiaa
namespace Go.Proofs.Ytmkiclinllifiaa
open Go.Sim
set_option linter.unusedVariables false
set_option maxRecDepth 100000
structure Vk where
 i : Int
 j : Int
 re : Int
 im : Int
 den : Int
 n : Int
instance : Inhabited Vk:=⟨⟨0,0,0,0,0,0⟩⟩
def Vk.cells (v : Vk) : List Value:=[.int .i64 v.i,.int .i64 v.j,.int .i64 v.re,.int .i64 v.im,.int .i64 v.den,.int .i64 v.n]
abbrev Vs (h : AHeap) (a : Option Addr) (n : Nat) (l : List Vk) : Prop:=Rows Vk.cells 6 h a n l
theorem vs_at {h : AHeap} {a : Option Addr} {n : Nat} {l : List Vk} (p : Vs h a n l) {i : Int} (h0 : 0 ≤ i) (hi : i < n) :
  ∃ b o x y z u d w,a = some ⟨b,o,none⟩ ∧ b < h.next ∧ gt l i = ⟨x,y,z,u,d,w⟩ ∧ h.readG ⟨b,o + i.toNat * 6,none⟩ 6 = some [.int .i64 x,.int .i64 y,.int .i64 z,.int .i64 u,.int .i64 d,.int .i64 w] ∧
   ∀ f m,f + m ≤ 6 → 0 < m → h.readG ⟨b,o + i.toNat * 6 + f,none⟩ m = some (((gt l i).cells.drop f).take m):=by
 obtain ⟨b,o,e,h1,h2⟩:=p.at h0 (by have:=p.len;omega)
 obtain ⟨x,y,z,u,d,w,hx⟩ : ∃ x y z u d w,gt l i = ⟨x,y,z,u,d,w⟩:=⟨_,_,_,_,_,_,rfl⟩
 refine ⟨b,o,x,y,z,u,d,w,e,h1,hx,?_,h2⟩
 have:=h2 0 6 (by omega) (by omega)
 rw [hx] at this
 exact this
def Vk.pr (v : Vk) : F2:=⟨v.i,v.j⟩
def stOK (l : List Vk) : Prop:=∀ i : Int,0 ≤ i → i < l.length → okP (gt l i).i (gt l i).j
theorem okP_of {n d : Int} (h1 : 0 ≤ n) (h2 : n < 8) (h3 : 0 ≤ d) (h4 : d < 8) : okP n d:=⟨_,h1,h2,h3,h4,rfl⟩
theorem TP2 : SliceT Try.prog 23 54 2:=⟨by kernel_rfl,by kernel_rfl,⟨16,by kernel_rfl,by omega⟩,⟨.agg #[.int .i64 0,.int .i64 0],by kernel_rfl,rfl⟩⟩
theorem ext_cut {h : AHeap} {b : Nat} (hb : b < h.next) : Ext { next:=b + 1,low:=h.low,m:=h.m } h:=
 ⟨by show b + 1 ≤ h.next;omega,fun q => by have q' : h.low ≤ b + 1:=q;omega,Nat.min_le_left _ _,fun _ _ => rfl⟩
def cutH (h : AHeap) (k : Nat) : AHeap:={ next:=k,low:=min h.low k,m:=h.m }
theorem cut_low (h : AHeap) (k : Nat) : (cutH h k).low ≤ (cutH h k).next:=Nat.min_le_right _ _
theorem cut_ext {h : AHeap} {k : Nat} (hk : k ≤ h.next) (hl : h.low ≤ h.next) : Ext (cutH h k) h:=
 ⟨hk,fun _ => hl,by show Nat.min (min h.low k) k ≤ h.low;exact Nat.le_trans (Nat.min_le_left _ _) (Nat.min_le_left _ _),fun _ _ => rfl⟩
theorem cut_thru {h h2 h' : AHeap} {k : Nat} (e : Ext h h2) (h1 : h.next ≤ k) (x : Ext (cutH h2 k) h') : Ext h h':=by
 have x1 : k ≤ h'.next:=x.next
 have x2 : h'.low ≤ h'.next:=x.low (cut_low _ _)
 have x3 : min (min h2.low k) k ≤ h'.low:=x.lowG
 have e3 : min h.low h.next ≤ h2.low:=e.lowG
 refine ⟨by omega,fun _ => x2,?_,fun b hb => ?_⟩
 ·show min h.low h.next ≤ h'.low
  omega
 ·rw [x.get b (by show b < k;omega)]
  exact e.get b hb
theorem f2_ok' (x : F2) : x.cells.all cellOK = true:=rfl
variable {F : Prims} {call head arith cmp scmp bnot bsame conv neg imax imin ofNat slen place inR nz geZ rd wr push next mkOK nat zeros sadd eqAgg cut slc sslc strAt part app cpy putAt fresh lowered bump wrote addN lt ne fpAll fpApp brk yn rng mget mput mnew bytes clr mrng ment : _} (hA : AP F ⟨call,head,arith,cmp,scmp,bnot,bsame,conv,neg,imax,imin,ofNat,slen,place,inR,nz,geZ,rd,wr,push,next,mkOK,nat,zeros,sadd,eqAgg,cut,slc,sslc,strAt,part,app,cpy,putAt,fresh,lowered,bump,wrote,addN,lt,ne,fpAll,fpApp,brk,yn,rng,mget,mput,mnew,bytes,clr,mrng,ment⟩)
include hA
theorem sort_nil {h : AHeap} (hlow : h.low ≤ h.next) {Q : Value → AHeap → Prop} (hQ : ∀ h',Ext h h' → Q (.tuple #[]) h') : call 77 [.slice none 0 0,.func (.func 78) #[] #[]] h Q:=by
 refine hA.bodyR Try.func77 r77_ok (hA.alike _ _ _ rfl) hlow (zc ?_)
 rw [e_ofNat hA,convU hA (by omega) (by omega)]
 refine len_ok hA hlow (by unfold u64;omega) (fun k hk => ⟨_,rfl,?_⟩)
 refine zc ?_
 refine hA.bodyR Try.func82 r82_ok (hA.alike _ _ _ rfl) hlow (zc ?_)
 refine hA.roundR Try.func82 r82_ok (zc ?_)
 refine br True (by rw [e_leq hA];rw [e_sub hA];rfl) (fun _ => ?_) (fun q => absurd trivial q) <;> refine zc ?_
 refine zc ?_
 refine hA.bodyR Try.func85 r85_ok (hA.alike _ _ _ rfl) hlow (zc ?_)
 rw [show arith .add .i64 0 1 = 1 from add64 hA (by omega) (by omega)]
 refine hA.roundR Try.func85 r85_ok (zc ?_)
 refine br False (by rw [e_lss hA];rfl) (fun q => q.elim) (fun _ => ?_) <;> refine zc ?_
 refine zc ?_
 exact hQ h (.refl h)
theorem bl_loop {h0 : AHeap} (hlow : h0.low ≤ h0.next) {a : Option Addr} {n c : Nat} {N : Int} (hN : N = n) {l : List Vk} (hl : Vs h0 a n l) (hn : n ≤ 1000) {b : Nat} (hb0 : h0.next ≤ b) {Q : Exit → SS → Prop}
  (hQ : ∀ h' a' c',Own h' b 1 [.slice a' n c'] → Apd h' 2 a' n c' ((l.map Vk.pr).flatMap F2.cells) → From (b + 1) a' → Ext h0 h' → b < h'.next → Q (.exit 0) ⟨[(3,.pointer (some ⟨b,0,none⟩))],0,[],h'⟩) :
  ∀ (m : Nat) (i : Int) (k : Nat) (h : AHeap) (a' : Option Addr) (c' : Nat),(n - i).toNat ≤ m → 0 ≤ i → i ≤ n → (k : Int) = i → Own h b 1 [.slice a' k c'] → Apd h 2 a' k c' (((l.map Vk.pr).take i.toNat).flatMap F2.cells) → From (b + 1) a' → Ext h0 h → b < h.next →
   head 65 3 0 ⟨[(3,.pointer (some ⟨b,0,none⟩)),(6,.slice a n c),(7,.int .i64 N),(8,.int .i64 i)],0,[],h⟩ Q:=by
 have hlen:=hl.len
 intro m
 induction m with
 | zero =>
  intro i k h a' c' hm i0 i1 hk ho hp hf he hb
  obtain rfl : k = n:=by omega
  refine hA.roundR Try.func65 r65_ok (zc ?_)
  refine br (i < N) (by rw [e_lss hA]) (fun c1 => by omega) (fun c1 => ?_) <;> refine zc ?_
  rw [List.take_of_length_le (by rw [List.length_map];omega)] at hp
  exact hQ h a' c' ho hp hf he hb
 | succ m ih =>
 intro i k h a' c' hm i0 i1 hk ho hp hf he hb
 by_cases ci : i < n
 rotate_left
 ·obtain rfl : k = n:=by omega
  refine hA.roundR Try.func65 r65_ok (zc ?_)
  refine br (i < N) (by rw [e_lss hA]) (fun c1 => by omega) (fun c1 => ?_) <;> refine zc ?_
  rw [List.take_of_length_le (by rw [List.length_map];omega)] at hp
  exact hQ h a' c' ho hp hf he hb
 obtain ⟨bb,o,x,y,z,u,d,w,rfl,hbb,hg,r1,_⟩:=vs_at (hl.ext he) (i:=i) i0 ci
 have q1:=rd_ok hA r1
 have q2 : rd h b 0 1 [.slice a' k c']:=rd_at hA (ho.readG (o:=0) (n:=1) (by simp))
 have e2 : arith .add .i64 i 1 = i + 1:=add64 hA (by omega) (by omega)
 refine hA.roundR Try.func65 r65_ok (zc ?_)
 refine br (i < N) (by rw [e_lss hA]) (fun c1 => ?_) (fun c1 => by omega) <;> refine zc ?_
 refine zq ?_
 refine ⟨_,_,_,_,_,_,q1,?_⟩
 refine zq ?_
 obtain ⟨hB,hhB⟩ : ∃ z : AHeap,z = { next:=b + 1,low:=h.low,m:=h.m }:=⟨_,rfl⟩
 have xB : Ext hB h:=by rw [hhB];exact ext_cut hb
 have nB : hB.next = b + 1:=by rw [hhB]
 refine appR_ok hA TP2 f2_len (by omega) f2_ok' (v:=⟨x,y⟩) hp (by omega) (fun a2 c2 h2 hp2 hx => ?_)
 obtain ⟨x2,_⟩:=hx h0 he (fun ad had => by have:=hf ad had;omega)
 obtain ⟨xB2,hf2⟩:=hx hB xB (by rw [nB];exact hf)
 rw [nB] at hf2
 have o2 : Own h2 b 1 [.slice a' k c']:=by unfold Own at ho ⊢;rw [xB2.get b (by omega)];rw [hhB];exact ho
 have hb2 : b < h2.next:=by have:=xB2.next;omega
 refine zc ?_
 obtain ⟨h3,w3,o3,k3⟩:=o2.write (o:=0) (vs:=[.slice a2 (k + 1) c2]) (by simp)
 refine ⟨h3,wr_at hA w3,?_⟩
 refine zc ?_
 rw [e2]
 have n3:=k3.next
 refine ih (i + 1) (k + 1) h3 a2 c2 (by omega) (by omega) (by omega) (by omega) o3 ?_ hf2 (k3.ext x2 hb0) (by omega)
 rw [gt_take (l.map Vk.pr) i0 (by rw [List.length_map];omega),gt_map Vk.pr l i0 (by omega),hg]
 exact hp2.of_get (by omega) (fun ad had hlt => k3.get _ (by have:=hf2 ad had;omega))
theorem baselines_ok {h : AHeap} (hlow : h.low ≤ h.next) {a : Option Addr} {n c : Nat} {l : List Vk} (hl : Vs h a n l) (hs : stOK l) (hn : n ≤ 1000) {Q : Value → AHeap → Prop}
  (hQ : ∀ h' b a' c' P,Own h' b 1 [.slice a' n c'] → Rows F2.cells 2 h' a' n P → PermOn 0 n (l.map Vk.pr) P → SortedOn leF P 0 n → h.next ≤ b → b < h'.next → From h.next a' → (∀ ad,a' = some ad → ad.block ≠ b) → Ext h h' → Q (.func (.func 81) #[] #[.pointer (some ⟨b,0,none⟩)]) h') :
  call 65 [.slice a n c] h Q:=by
 have hlen:=hl.len
 refine hA.bodyR Try.func65 r65_ok (hA.alike _ _ _ rfl) hlow (zc ?_)
 simp only [e_next hA,e_push hA,e_ofNat hA]
 have x1:=Ext.push h 1 [.slice none 0 0]
 have o1:=Own.push h 1 [.slice none 0 0]
 have n1 : (h.push 1 [.slice none 0 0]).next = h.next + 1:=rfl
 generalize h.push 1 [.slice none 0 0] = h1 at *
 refine bl_loop hA hlow rfl hl hn (b:=h.next) (Nat.le_refl _) (fun h2 a' c' o2 p2 f2 e2 b2 => ?_) n 0 0 h1 none 0 (by omega) (by omega) (by omega) rfl o1 (by simp;exact Apd.nil _ _) (From.none _) x1 (by omega)
 have q2 : rd h2 h.next 0 1 [.slice a' n c']:=rd_at hA (o2.readG (o:=0) (n:=1) (by simp))
 refine zq ?_
 have fin : ∀ h' P,Ext (cutH h2 (h.next + 1)) h' → Rows F2.cells 2 h' a' n P → PermOn 0 n (l.map Vk.pr) P → SortedOn leF P 0 n → Q (.func (.func 81) #[] #[.pointer (some ⟨h.next,0,none⟩)]) h':=fun h' P x hr hp hso => by
  have nx : h.next + 1 ≤ h'.next:=x.next
  refine hQ h' h.next a' c' P ?_ hr hp hso (Nat.le_refl _) (by omega) (fun ad had => by have:=f2 ad had;omega) (fun ad had => by have:=f2 ad had;omega) (cut_thru e2 (by omega) x)
  unfold Own at o2 ⊢
  rw [x.get h.next (by show h.next < h.next + 1;omega)]
  exact o2
 rcases p2 with ⟨rfl,rfl,rfl,p4⟩ | ⟨bb,rfl,rfl,p5,p6,p7⟩
 ·refine sort_nil hA (cut_ext b2 (e2.lowOK hlow) |>.lowOK (cut_low _ _)) (fun h' x => ?_)
  refine zc ?_
  have hl0 : l = []:=List.length_eq_zero_iff.1 hlen
  subst hl0
  exact fin h' [] ((cut_ext b2 (e2.lowOK hlow)).trans x) (Rows.nil h' f2_len (by omega)) (.refl _ _ _) (fun i j h1 h2 h3 => by omega)
 ·have hbb : h.next + 1 ≤ bb:=f2 _ rfl
  have xc:=cut_ext (k:=h.next + 1) (h:=h2) b2 (e2.lowOK hlow)
  have hd : Dat (cutH h2 (h.next + 1)) h2 bb n (l.map Vk.pr):=⟨xc,p7,hbb,p5,by rw [List.length_map];exact hlen,fun i i0 i1 => by rw [gt_map Vk.pr l i0 (by omega)];exact hs i i0 (by omega),by omega⟩
  refine sortfunc_ok hA (cut_low _ _) hd (fun h' P hd' hp hso => ?_)
  refine zc ?_
  exact fin h' P hd'.ext (by have:=Own.rows hd'.own f2_len (by omega) hd'.lt;rw [hd'.len] at this;exact this) hp hso
end Go.Proofs.Ytmkiclinllifiaa
namespace Go.Proofs.Ytmkiclinllifiaa
open Go.Sim
set_option linter.unusedVariables false
set_option maxRecDepth 100000
theorem cellsI : Try.prog.cellsOf 3 = 1:=by kernel_rfl
theorem cellsL : Try.prog.cellsOf 2 = 1:=by kernel_rfl
theorem cellsC : Try.prog.cellsOf 60 = 3:=by kernel_rfl
theorem cellsV : Try.prog.cellsOf 66 = 6:=by kernel_rfl
theorem len3 {l : List Value} (h : l.length = 3) : ∃ a b c,l = [a,b,c]:=by
 match l,h with
 | [a,b,c],_ => exact ⟨a,b,c,rfl⟩
theorem len6 {l : List Value} (h : l.length = 6) : ∃ a b c d e f,l = [a,b,c,d,e,f]:=by
 match l,h with
 | [a,b,c,d,e,f],_ => exact ⟨a,b,c,d,e,f,rfl⟩
theorem int_dec {w : World} {base d : Nat} {l : List Value} (h : TS Try.prog w base d 3 l) : ∃ x,l = [.int .i64 x]:=by
 cases d with
 | zero => exact h.elim
 | succ d =>
  obtain ⟨x,e1,w1⟩:=ts_int Try.underlying3 h
  exact ⟨x,e1⟩
theorem cx_dec {w : World} {base d : Nat} {l : List Value} (h : TS Try.prog w base d 60 l) : ∃ x y z,l = [.int .i64 x,.int .i64 y,.int .i64 z]:=by
 cases d with
 | zero => exact h.elim
 | succ d =>
  obtain ⟨h1,h2⟩:=ts_struct Try.underlying60 h
  rw [cellsC] at h1
  obtain ⟨a,b,c,rfl⟩:=len3 h1
  simp only [List.forall_mem_cons,List.not_mem_nil,false_imp_iff,implies_true,and_true,cellsL,List.drop,List.take] at h2
  obtain ⟨g0,g1,g2⟩:=h2
  cases d with
  | zero => exact g0.elim
  | succ d =>
   obtain ⟨x,e1,w1⟩:=ts_int Try.underlying2 g0
   obtain ⟨y,e2,w2⟩:=ts_int Try.underlying2 g1
   obtain ⟨z,e3,w3⟩:=ts_int Try.underlying2 g2
   simp only [List.cons.injEq,and_true] at e1 e2 e3
   subst e1 e2 e3
   exact ⟨x,y,z,rfl⟩
theorem vis_dec {w : World} {base d : Nat} {l : List Value} (h : TS Try.prog w base d 66 l) : ∃ k : Vk,l.map (absV w) = k.cells ∧ True:=by
 cases d with
 | zero => exact h.elim
 | succ d =>
  obtain ⟨h1,h2⟩:=ts_struct Try.underlying66 h
  rw [cellsV] at h1
  obtain ⟨a,b,c,e,f,g,rfl⟩:=len6 h1
  simp only [List.forall_mem_cons,List.not_mem_nil,false_imp_iff,implies_true,and_true,cellsC,cellsI,List.drop,List.take] at h2
  obtain ⟨g0,g1,g2,g3⟩:=h2
  obtain ⟨x,e1⟩:=int_dec g0
  obtain ⟨y,e2⟩:=int_dec g1
  obtain ⟨z,u,v,e3⟩:=cx_dec g2
  obtain ⟨t,e4⟩:=int_dec g3
  simp only [List.cons.injEq,and_true] at e1 e2 e3 e4
  obtain rfl:=e1
  obtain rfl:=e2
  obtain ⟨rfl,rfl,rfl⟩:=e3
  obtain rfl:=e4
  exact ⟨⟨x,y,z,u,v,t⟩,rfl,trivial⟩
theorem vis_in {w : World} {h : AHeap} (hn : h.next = w.heap.size) (hm : ∀ b,b < w.heap.size → h.m.get b = absB w b) {H : Type} {enc : TypeId × Value → H} {base fuel b0 : Nat} {held : Bool} {r : Reach} {v : Value} {x : DataW H × List MemPlace}
  (hval : Value.okWide Try.prog w r b0 22 v) (hf : DataW.trod enc Try.prog w base (fun _ => true) held fuel 22 v.cells.toList = some x) :
  ∃ a n c l,v = .slice a n c ∧ repC w v = true ∧ n ≤ c ∧ c ≤ maxLen ∧ Vs h a n l:=by
 obtain ⟨a,n,c,d,rfl,hr,hrep,rfl,hts⟩:=value_slice Try.underlying22 hval hf
 obtain ⟨xs,k1,k2,k3,k4,k5⟩:=slice_in hn hm Try.underlying22 hts hrep Vk.cells cellsV (by omega) (fun _ => rfl) (fun _ => True) (fun l hl => vis_dec hl)
 exact ⟨a,n,c,xs,rfl,hr,k2,k3,⟨k4,fun _ => rfl,by omega⟩⟩
end Go.Proofs.Ytmkiclinllifiaa
