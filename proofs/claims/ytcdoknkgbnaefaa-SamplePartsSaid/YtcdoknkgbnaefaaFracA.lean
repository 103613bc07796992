import Derived.Test.YtcdoknkgbnaefaaSymBits
import Derived.Test.YtcdoknkgbnaefaaFracM
import Derived.KernelRfl
set_option linter.unusedSimpArgs false
set_option linter.unusedVariables false
namespace Go.Proofs.Ytcdoknkgbnaefaa
open Go.Sim
set_option linter.unusedVariables false
set_option maxRecDepth 100000
def i64 (n : Int) : Prop:=-9223372036854775808 ≤ n ∧ n < 9223372036854775808
def u64 (n : Int) : Prop:=0 ≤ n ∧ n < 18446744073709551616
theorem gcd_rem {a b : Int} (hb : 0 ≤ b) (ha : 0 ≤ a) : Int.gcd b (a % b) = Int.gcd a b:=by
 have m0 : 0 ≤ a % b:=by
  by_cases h : b = 0
  ·rw [h,Int.emod_zero];exact ha
  ·exact Int.emod_nonneg _ h
 rw [gcd_nat hb m0,gcd_nat ha hb]
 have e : (a % b).toNat = a.toNat % b.toNat:=by
  have : ((a.toNat % b.toNat : Nat) : Int) = a % b:=by
   rw [Int.natCast_emod,Int.toNat_of_nonneg ha,Int.toNat_of_nonneg hb]
  omega
 rw [e,Nat.gcd_comm,← Nat.gcd_rec,Nat.gcd_comm]
variable {F : Prims} {call head arith cmp scmp bnot bsame conv neg imax imin ofNat slen place inR nz geZ rd wr push next mkOK nat zeros sadd eqAgg cut slc sslc strAt part app cpy putAt fresh lowered bump wrote addN lt ne fpAll fpApp brk yn rng mget mput mnew bytes clr : _} (hA : AP F ⟨call,head,arith,cmp,scmp,bnot,bsame,conv,neg,imax,imin,ofNat,slen,place,inR,nz,geZ,rd,wr,push,next,mkOK,nat,zeros,sadd,eqAgg,cut,slc,sslc,strAt,part,app,cpy,putAt,fresh,lowered,bump,wrote,addN,lt,ne,fpAll,fpApp,brk,yn,rng,mget,mput,mnew,bytes,clr⟩)
include hA
theorem size_ok {h : AHeap} (hlow : h.low ≤ h.next) {n : Int} (hn : i64 n) {Q : Value → AHeap → Prop} (hQ : ∀ s : Int,s = n.natAbs → Q (.int .u64 s) h) : call 51 [.int .i64 n] h Q:=by
 obtain ⟨h0,h1⟩:=hn
 refine hA.bodyR Try.func51 r51_ok (hA.alike _ _ _ rfl) hlow (zc ?_)
 refine br (n < 0) (by rw [e_lss hA]) (fun c => ?_) (fun c => ?_) <;> refine zc ?_
 ·exact hQ _ (by rw [e_neg hA,e_conv hA,wrapUm,wrapUm];omega)
 ·exact hQ _ (by rw [e_conv hA,wrapUm];omega)
theorem gcd_loop {h0 : AHeap} {Q : Exit → SS → Prop} : ∀ (m : Nat) (a b : Int) (h : AHeap),b.toNat ≤ m → u64 a → u64 b → Ext h0 h →
  (∀ g : Int,g = Int.gcd a b → ∀ e kn K h',Ext h0 h' → Q (.exit 0) ⟨(0,.int .u64 g) :: e,kn,K,h'⟩) → head 50 1 0 ⟨[(0,.int .u64 a),(1,.int .u64 b)],0,[],h⟩ Q:=by
 intro m
 induction m with
 | zero =>
  intro a b h hm ha hb he hQ
  have hb0 : b = 0:=by unfold u64 at hb;omega
  refine hA.roundR Try.func50 r50_ok (zc ?_)
  refine br (b ≠ 0) (by rw [e_neq hA]) (fun c => absurd hb0 c) (fun c => ?_) <;> refine zc ?_
  exact hQ a (by rw [hb0];unfold Int.gcd;unfold u64 at ha;simp;omega) _ _ _ h he
 | succ m ih =>
  intro a b h hm ha hb he hQ
  refine hA.roundR Try.func50 r50_ok (zc ?_)
  refine br (b ≠ 0) (by rw [e_neq hA]) (fun c => ?_) (fun c => ?_) <;> refine zc ?_
  ·obtain ⟨h9,hh9⟩ : ∃ z,z = bump h 6:=⟨_,rfl⟩
   have e9 : Ext h h9:=by rw [hh9,e_bump hA];exact .bump _ _
   rw [← hh9]
   refine ⟨nz_ok hA c,?_⟩
   refine zc ?_
   have h1 : arith .rem .u64 a b = a % b:=remU hA ha.1
   have hb1 : 0 < b:=by have:=hb.1;omega
   have h2 : 0 ≤ a % b:=Int.emod_nonneg _ c
   have h3 : a % b < b:=Int.emod_lt_of_pos _ hb1
   rw [h1]
   refine ih b (a % b) h9 (by omega) hb ⟨h2,by have:=hb.2;omega⟩ (he.trans e9) (fun g hg => hQ g ?_)
   rw [hg,gcd_rem hb.1 ha.1]
  ·have hb0 : b = 0:=by omega
   exact hQ a (by rw [hb0];unfold Int.gcd;unfold u64 at ha;simp;omega) _ _ _ h he
theorem gcd_ok {h : AHeap} (hlow : h.low ≤ h.next) {a b : Int} (ha : u64 a) (hb : u64 b) {Q : Value → AHeap → Prop} (hQ : ∀ g : Int,g = Int.gcd a b → ∀ h',Ext h h' → Q (.int .u64 g) h') : call 50 [.int .u64 a,.int .u64 b] h Q:=by
 refine hA.bodyR Try.func50 r50_ok (hA.alike _ _ _ rfl) hlow (zc ?_)
 refine gcd_loop hA b.toNat a b h (Nat.le_refl _) ha hb (.refl h) (fun g hg e kn K h' he => ?_)
 refine zc ?_
 exact hQ g hg h' he
theorem rgcd_loop {h0 : AHeap} {Q : Exit → SS → Prop} : ∀ (m : Nat) (a b : Int) (h : AHeap),b.toNat ≤ m → u64 a → u64 b → Ext h0 h →
  (∀ g : Int,g = Int.gcd a b → ∀ e kn K h',Ext h0 h' → Q (.exit 0) ⟨(0,.int .u64 g) :: e,kn,K,h'⟩) → head 45 1 0 ⟨[(0,.int .u64 a),(1,.int .u64 b)],0,[],h⟩ Q:=by
 intro m
 induction m with
 | zero =>
  intro a b h hm ha hb he hQ
  have hb0 : b = 0:=by unfold u64 at hb;omega
  refine hA.roundR Try.func45 r45_ok (zc ?_)
  refine br (b ≠ 0) (by rw [e_neq hA]) (fun c => absurd hb0 c) (fun c => ?_) <;> refine zc ?_
  exact hQ a (by rw [hb0];unfold Int.gcd;unfold u64 at ha;simp;omega) _ _ _ h he
 | succ m ih =>
  intro a b h hm ha hb he hQ
  refine hA.roundR Try.func45 r45_ok (zc ?_)
  refine br (b ≠ 0) (by rw [e_neq hA]) (fun c => ?_) (fun c => ?_) <;> refine zc ?_
  ·obtain ⟨h9,hh9⟩ : ∃ z,z = bump h 6:=⟨_,rfl⟩
   have e9 : Ext h h9:=by rw [hh9,e_bump hA];exact .bump _ _
   rw [← hh9]
   refine ⟨nz_ok hA c,?_⟩
   refine zc ?_
   have h1 : arith .rem .u64 a b = a % b:=remU hA ha.1
   have hb1 : 0 < b:=by have:=hb.1;omega
   have h2 : 0 ≤ a % b:=Int.emod_nonneg _ c
   have h3 : a % b < b:=Int.emod_lt_of_pos _ hb1
   rw [h1]
   refine ih b (a % b) h9 (by omega) hb ⟨h2,by have:=hb.2;omega⟩ (he.trans e9) (fun g hg => hQ g ?_)
   rw [hg,gcd_rem hb.1 ha.1]
  ·have hb0 : b = 0:=by omega
   exact hQ a (by rw [hb0];unfold Int.gcd;unfold u64 at ha;simp;omega) _ _ _ h he
theorem rgcd_ok {h : AHeap} (hlow : h.low ≤ h.next) {a b : Int} (ha : u64 a) (hb : u64 b) {Q : Value → AHeap → Prop} (hQ : ∀ g : Int,g = Int.gcd a b → ∀ h',Ext h h' → Q (.int .u64 g) h') : call 45 [.int .u64 a,.int .u64 b] h Q:=by
 refine hA.bodyR Try.func45 r45_ok (hA.alike _ _ _ rfl) hlow (zc ?_)
 refine rgcd_loop hA b.toNat a b h (Nat.le_refl _) ha hb (.refl h) (fun g hg e kn K h' he => ?_)
 refine zc ?_
 exact hQ g hg h' he
theorem build_ok {h : AHeap} (hlow : h.low ≤ h.next) {q : Rat} {mi : Bool} {N D : Int} (hN : u64 N) (hD : u64 D) (h1 : q.num = if mi = true then -N else N) (h2 : (q.den : Int) = D) {Q : Value → AHeap → Prop}
  (hQ : ∀ n d e,outF q n d e → Q (.tuple #[.agg #[.int .i64 n,.int .i64 d],.int .i64 e]) h) : call 54 [.bool mi,.int .u64 N,.int .u64 D] h Q:=by
 obtain ⟨n0,n1⟩:=hN
 obtain ⟨d0,d1⟩:=hD
 have hf : fits q ↔ N ≤ 1000000000000000000 ∧ D ≤ 1000000000000000000:=by
  unfold fits
  rw [h1,h2]
  split <;> omega
 refine hA.bodyR Try.func54 r54_ok (hA.alike _ _ _ rfl) hlow (zc ?_)
 refine br (1000000000000000000 < N) (by rw [e_gtr hA]) (fun c => ?_) (fun c => ?_) <;> refine zc ?_
 ·exact hQ _ _ _ (.inr ⟨fun w => by have:=hf.1 w;omega,rfl,rfl,rfl⟩)
 refine br (1000000000000000000 < D) (by rw [e_gtr hA]) (fun c2 => ?_) (fun c2 => ?_) <;> refine zc ?_
 ·exact hQ _ _ _ (.inr ⟨fun w => by have:=hf.1 w;omega,rfl,rfl,rfl⟩)
 have e1 : conv .i64 N = N:=conv64 hA (by omega) (by omega)
 have e2 : conv .i64 D = D:=conv64 hA (by omega) (by omega)
 have e3 : neg .i64 N = -N:=by rw [e_neg hA,wrap64 (by omega) (by omega)];omega
 have hfit:=hf.2 ⟨by omega,by omega⟩
 rw [e1,e2]
 cases mi with
 | true =>
  refine zc ?_
  rw [e3]
  exact hQ _ _ _ (.inl ⟨hfit,by rw [h1,if_pos rfl],by rw [h2],rfl⟩)
 | false =>
  refine zc ?_
  exact hQ _ _ _ (.inl ⟨hfit,by rw [h1];simp,by rw [h2],rfl⟩)
theorem check_ok {h : AHeap} (hlow : h.low ≤ h.next) {n d : Int} (hn : i64 n) (hd : i64 d) {Q : Value → AHeap → Prop}
  (hQ : ∀ (e : Int) h',(e = 0 ∧ okF n d) ∨ (e = 8 ∧ ¬ okF n d) → Ext h h' → Q (.int .i64 e) h') : call 40 [.agg #[.int .i64 n,.int .i64 d]] h Q:=by
 have bad : ¬ (1 ≤ d ∧ d ≤ 1000000000000000000 ∧ -1000000000000000000 ≤ n ∧ n ≤ 1000000000000000000 ∧ Int.gcd n d = 1) → ¬ okF n d:=fun w q => w ((okF_iff n d).1 q)
 refine hA.bodyR Try.func40 r40_ok (hA.alike _ _ _ rfl) hlow (zc ?_)
 refine br (d < 1) (by rw [e_lss hA]) (fun c1 => ?_) (fun c1 => ?_) <;> refine zc ?_
 ·exact hQ _ _ (.inr ⟨rfl,bad (by omega)⟩) (.refl h)
 refine br (1000000000000000000 < d) (by rw [e_gtr hA]) (fun c2 => ?_) (fun c2 => ?_) <;> refine zc ?_
 ·exact hQ _ _ (.inr ⟨rfl,bad (by omega)⟩) (.refl h)
 refine br (n < -1000000000000000000) (by rw [e_lss hA]) (fun c3 => ?_) (fun c3 => ?_) <;> refine zc ?_
 ·exact hQ _ _ (.inr ⟨rfl,bad (by omega)⟩) (.refl h)
 refine br (1000000000000000000 < n) (by rw [e_gtr hA]) (fun c4 => ?_) (fun c4 => ?_) <;> refine zc ?_
 ·exact hQ _ _ (.inr ⟨rfl,bad (by omega)⟩) (.refl h)
 obtain ⟨h9,hh9⟩ : ∃ z,z = bump h 8:=⟨_,rfl⟩
 have e9 : Ext h h9:=by rw [hh9];exact ext_bump hA _ _
 have l9:=e9.lowOK hlow
 rw [← hh9]
 refine zc ?_
 refine size_ok hA (low_fresh hA h9) hn (fun s hs => ⟨_,rfl,?_⟩)
 refine zc ?_
 rw [low_same hA l9]
 refine size_ok hA (low_fresh hA h9) hd (fun t ht => ⟨_,rfl,?_⟩)
 refine zc ?_
 rw [low_same hA l9]
 refine gcd_ok hA (low_fresh hA h9) (by unfold u64;omega) (by unfold u64;omega) (fun g hg hz ez => ⟨_,rfl,?_⟩)
 refine zc ?_
 obtain ⟨hX,hhX⟩ : ∃ z,z = lowered h9 hz:=⟨_,rfl⟩
 have eX : Ext h hX:=by rw [hhX];exact ext_low hA hlow e9 ez
 rw [← hhX]
 have hgg : g = Int.gcd n d:=by
  rw [hg,hs,ht]
  rfl
 refine br (g ≠ 1) (by rw [e_neq hA]) (fun c5 => ?_) (fun c5 => ?_) <;> refine zc ?_
 ·exact hQ _ _ (.inr ⟨rfl,bad (by omega)⟩) eX
 ·exact hQ _ _ (.inl ⟨rfl,(okF_iff n d).2 (by omega)⟩) eX
theorem make_ok {h : AHeap} (hlow : h.low ≤ h.next) {n d : Int} (hn : i64 n) (hd : i64 d) {Q : Value → AHeap → Prop}
  (hQ : ∀ n' d' e,(d = 0 ∧ n' = 0 ∧ d' = 0 ∧ e = 18) ∨ (d ≠ 0 ∧ outF ((n : Rat) / (d : Rat)) n' d' e) → ∀ h',Ext h h' → Q (.tuple #[.agg #[.int .i64 n',.int .i64 d'],.int .i64 e]) h') : call 42 [.int .i64 n,.int .i64 d] h Q:=by
 refine hA.bodyR Try.func42 r42_ok (hA.alike _ _ _ rfl) hlow (zc ?_)
 refine br (d = 0) (by rw [e_eql hA]) (fun c1 => ?_) (fun c1 => ?_) <;> refine zc ?_
 ·exact hQ _ _ _ (.inl ⟨c1,rfl,rfl,rfl⟩) h (.refl h)
 refine size_ok hA hlow hn (fun s hs => ⟨_,rfl,?_⟩)
 refine zc ?_
 refine size_ok hA hlow hd (fun t ht => ⟨_,rfl,?_⟩)
 refine zc ?_
 unfold i64 at hn hd
 refine gcd_ok hA hlow (by unfold u64;omega) (by unfold u64;omega) (fun g hg h2 x2 => ⟨_,rfl,?_⟩)
 refine zc ?_
 obtain ⟨mi,hmi⟩ : ∃ z,z = bnot (bsame (cmp .lss n 0) (cmp .lss d 0)):=⟨_,rfl⟩
 have hs2:=signs_ok hA n d
 rw [← hmi] at hs2 ⊢
 obtain ⟨h9,hh9⟩ : ∃ z,z = bump h2 16:=⟨_,rfl⟩
 have e9 : Ext h h9:=by rw [hh9];exact x2.trans (ext_bump hA _ _)
 rw [← hh9]
 have hgg : g = Int.gcd n d:=by rw [hg,hs,ht];rfl
 obtain ⟨k1,k2,k3,k4⟩:=make_prog c1 hgg hs2
 rw [← hs] at k1
 rw [← ht] at k2 k4
 refine ⟨nz_ok hA (by omega),?_⟩
 refine zc ?_
 refine ⟨nz_ok hA (by omega),?_⟩
 refine zc ?_
 rw [quoU hA (by omega) (by omega) k3,quoU hA (by omega) (by omega) k3]
 have b1 : s / g ≤ s:=Int.ediv_le_self g (by omega)
 have b2 : t / g ≤ t:=Int.ediv_le_self g (by omega)
 have b3 : 0 ≤ s / g:=Int.ediv_nonneg (by omega) (by omega)
 have b4 : 0 ≤ t / g:=Int.ediv_nonneg (by omega) (by omega)
 generalize s / g = sg at *
 generalize t / g = tg at *
 refine zc ?_
 refine build_ok hA (low_fresh hA h9) (by unfold u64;omega) (by unfold u64;omega) k1 k2 (fun n' d' e ho => ⟨_,_,_,rfl,?_⟩)
 refine zc ?_
 exact hQ n' d' e (.inr ⟨c1,ho⟩) _ (ext_low hA hlow e9 (.refl _))
end Go.Proofs.Ytcdoknkgbnaefaa
namespace Go.Proofs.Ytcdoknkgbnaefaa
open Go.Sim
set_option linter.unusedVariables false
set_option maxRecDepth 100000
def tabOK (s : ByteArray) : Bool:=Nat.beq s.size 256 && (List.range 256).all fun i => Nat.blt i (2 ^ (s[i]!).toNat) && Nat.ble (2 ^ (s[i]!).toNat) (2 * Nat.max i 1) && Nat.ble (s[i]!).toNat 8
theorem tab_at {s : ByteArray} (ht : tabOK s = true) {i : Int} (h0 : 0 ≤ i) (h1 : i < 256) : ∃ n : Nat,sat s i = n ∧ i < 2 ^ n ∧ (2 : Int) ^ n ≤ 2 * max i 1 ∧ n ≤ 8 ∧ i.toNat < s.size:=by
 unfold tabOK at ht
 rw [Bool.and_eq_true,List.all_eq_true] at ht
 obtain ⟨t1,t2⟩:=ht
 have hs : s.size = 256:=Nat.eq_of_beq_eq_true t1
 have t3:=t2 i.toNat (List.mem_range.2 (by omega))
 simp only [Bool.and_eq_true] at t3
 obtain ⟨⟨t4,t5⟩,t6⟩:=t3
 have t4' : i.toNat < 2 ^ (s[i.toNat]!).toNat:=Nat.le_of_ble_eq_true t4
 have t5' : 2 ^ (s[i.toNat]!).toNat ≤ 2 * Nat.max i.toNat 1:=Nat.le_of_ble_eq_true t5
 have t6' : (s[i.toNat]!).toNat ≤ 8:=Nat.le_of_ble_eq_true t6
 refine ⟨(s[i.toNat]!).toNat,?_,?_,?_,t6',by omega⟩
 ·unfold sat
  have hi : i.toNat < s.size:=by omega
  simp [hi]
 ·have : ((2 ^ (s[i.toNat]!).toNat : Nat) : Int) = 2 ^ (s[i.toNat]!).toNat:=by push_cast;rfl
  omega
 ·have e : ((2 ^ (s[i.toNat]!).toNat : Nat) : Int) = 2 ^ (s[i.toNat]!).toNat:=by push_cast;rfl
  have : Nat.max i.toNat 1 = max i.toNat 1:=rfl
  rw [← e]
  omega
def isLen (x n : Int) : Prop:=0 ≤ n ∧ x < 2 ^ n.toNat ∧ (2 : Int) ^ n.toNat ≤ 2 * max x 1
variable {F : Prims} {call head arith cmp scmp bnot bsame conv neg imax imin ofNat slen place inR nz geZ rd wr push next mkOK nat zeros sadd eqAgg cut slc sslc strAt part app cpy putAt fresh lowered bump wrote addN lt ne fpAll fpApp brk yn rng mget mput mnew bytes clr : _} (hA : AP F ⟨call,head,arith,cmp,scmp,bnot,bsame,conv,neg,imax,imin,ofNat,slen,place,inR,nz,geZ,rd,wr,push,next,mkOK,nat,zeros,sadd,eqAgg,cut,slc,sslc,strAt,part,app,cpy,putAt,fresh,lowered,bump,wrote,addN,lt,ne,fpAll,fpApp,brk,yn,rng,mget,mput,mnew,bytes,clr⟩)
include hA
theorem mul64_ok {h : AHeap} (hlow : h.low ≤ h.next) {x y : Int} (hx : u64 x) (hy : u64 y) {Q : Value → AHeap → Prop}
  (hQ : ∀ hi lo : Int,hi = x * y / 18446744073709551616 → lo = x * y % 18446744073709551616 → Q (.tuple #[.int .u64 hi,.int .u64 lo]) h) : call 82 [.int .u64 x,.int .u64 y] h Q:=by
 obtain ⟨x0,x1⟩:=hx
 obtain ⟨y0,y1⟩:=hy
 obtain ⟨k1,k2,k3,k4,k5,k6⟩:=mul128 x0 x1 y0 y1 rfl rfl rfl rfl rfl rfl
 refine hA.bodyR Try.func82 r82_ok (hA.alike _ _ _ rfl) hlow (zc ?_)
 refine ⟨geZ_ok hA (by omega),?_⟩
 refine zc ?_
 refine ⟨geZ_ok hA (by omega),?_⟩
 refine zc ?_
 refine ⟨geZ_ok hA (by omega),?_⟩
 refine zc ?_
 refine ⟨geZ_ok hA (by omega),?_⟩
 refine zc ?_
 refine ⟨geZ_ok hA (by omega),?_⟩
 refine zc ?_
 refine hQ _ _ ?_ (mulUm hA x y)
 rw [mask32 hA x0 x1,mask32 hA y0 y1,shr32 hA x0,shr32 hA y0]
 rw [mulU hA k1.1 (by omega),mulU hA k2.1 (by omega),mulU hA k3.1 (by omega),mulU hA k4.1 (by omega)]
 rw [shr32 hA k1.1]
 rw [addU hA (a:=x / 4294967296 * (y % 4294967296)) (by omega) (by omega)]
 rw [mask32 hA (by omega) (by omega)]
 rw [addU hA (b:=x % 4294967296 * (y / 4294967296)) (by omega) (by omega)]
 rw [shr32 hA (by omega),shr32 hA (by omega)]
 rw [addU hA (a:=x / 4294967296 * (y / 4294967296)) (by omega) (by omega)]
 rw [addU hA (by omega) (by omega)]
 exact k6
end Go.Proofs.Ytcdoknkgbnaefaa
namespace Go.Proofs.Ytcdoknkgbnaefaa
open Go.Sim
set_option linter.unusedVariables false
set_option maxRecDepth 100000
def sgn (x : Int) : Int:=if 0 < x then 1 else if x = 0 then 0 else -1
theorem sgn_range (x : Int) : -1 ≤ sgn x ∧ sgn x ≤ 1:=by unfold sgn;split <;> (try split) <;> omega
theorem sgn_neg (x : Int) : sgn (-x) = -sgn x:=by
 unfold sgn
 rcases Int.lt_trichotomy x 0 with c | c | c
 ·rw [if_pos (by omega),if_neg (by omega),if_neg (by omega)];omega
 ·subst c;rfl
 ·rw [if_neg (by omega),if_neg (by omega),if_pos (by omega)]
theorem isF.i64n {n d : Int} {q : Rat} (h : isF n d q) : i64 n:=by
 obtain ⟨rfl,_,h1,h2,_⟩:=h;unfold i64;omega
theorem isF.i64d {n d : Int} {q : Rat} (h : isF n d q) : i64 d:=by
 have:=h.den
 obtain ⟨_,rfl,_,_,h3⟩:=h;unfold i64;omega
theorem cmpF_sgn {p q : Rat} : cmpF p q = sgn (p.num * q.den - q.num * p.den):=by
 refine (cmpF_of (c:=sgn (p.num * q.den - q.num * p.den)) ?_).symm
 unfold sgn
 split
 ·rw [if_neg (by omega),if_neg (by omega)]
 ·split
  ·rw [if_neg (by omega),if_pos (by omega)]
  ·rw [if_pos (by omega)]
variable {F : Prims} {call head arith cmp scmp bnot bsame conv neg imax imin ofNat slen place inR nz geZ rd wr push next mkOK nat zeros sadd eqAgg cut slc sslc strAt part app cpy putAt fresh lowered bump wrote addN lt ne fpAll fpApp brk yn rng mget mput mnew bytes clr : _} (hA : AP F ⟨call,head,arith,cmp,scmp,bnot,bsame,conv,neg,imax,imin,ofNat,slen,place,inR,nz,geZ,rd,wr,push,next,mkOK,nat,zeros,sadd,eqAgg,cut,slc,sslc,strAt,part,app,cpy,putAt,fresh,lowered,bump,wrote,addN,lt,ne,fpAll,fpApp,brk,yn,rng,mget,mput,mnew,bytes,clr⟩)
include hA
theorem wider_ok {h : AHeap} (hlow : h.low ≤ h.next) {ah al bh bl : Int} (h2 : u64 al) (h4 : u64 bl) {Q : Value → AHeap → Prop}
  (hQ : ∀ c : Int,c = sgn (ah * 18446744073709551616 + al - (bh * 18446744073709551616 + bl)) → Q (.int .i64 c) h) : call 83 [.int .u64 ah,.int .u64 al,.int .u64 bh,.int .u64 bl] h Q:=by
 obtain ⟨a0,a1⟩:=h2
 obtain ⟨b0,b1⟩:=h4
 refine hA.bodyR Try.func83 r83_ok (hA.alike _ _ _ rfl) hlow (zc ?_)
 refine br (bh < ah) (by rw [e_gtr hA]) (fun c1 => ?_) (fun c1 => ?_) <;> refine zc ?_
 ·exact hQ _ (by unfold sgn;rw [if_pos (by omega)])
 refine br (ah = bh) (by rw [e_eql hA]) (fun c2 => ?_) (fun c2 => ?_) <;> refine zc ?_
 ·refine br (bl < al) (by rw [e_gtr hA]) (fun c3 => ?_) (fun c3 => ?_) <;> refine zc ?_
  ·exact hQ _ (by unfold sgn;rw [if_pos (by omega)])
  refine br (ah = bh) (by rw [e_eql hA]) (fun _ => ?_) (fun q => absurd c2 q) <;> refine zc ?_
  refine br (al = bl) (by rw [e_eql hA]) (fun c4 => ?_) (fun c4 => ?_) <;> refine zc ?_
  ·exact hQ _ (by unfold sgn;rw [if_neg (by omega),if_pos (by omega)])
  ·exact hQ _ (by unfold sgn;rw [if_neg (by omega),if_neg (by omega)])
 ·refine br (ah = bh) (by rw [e_eql hA]) (fun q => absurd q c2) (fun _ => ?_) <;> refine zc ?_
  exact hQ _ (by unfold sgn;rw [if_neg (by omega),if_neg (by omega)])
theorem compare_ok {h : AHeap} (hlow : h.low ≤ h.next) {a b c d : Int} (ha : u64 a) (hb : u64 b) (hc : u64 c) (hd : u64 d) {Q : Value → AHeap → Prop}
  (hQ : ∀ r : Int,r = sgn (a * b - c * d) → Q (.int .i64 r) h) : call 72 [.int .u64 a,.int .u64 b,.int .u64 c,.int .u64 d] h Q:=by
 refine hA.bodyR Try.func72 r72_ok (hA.alike _ _ _ rfl) hlow (zc ?_)
 refine mul64_ok hA hlow ha hb (fun h1 l1 e1 f1 => ⟨_,_,rfl,?_⟩)
 refine zc ?_
 refine mul64_ok hA hlow hc hd (fun h2 l2 e2 f2 => ⟨_,_,rfl,?_⟩)
 refine zc ?_
 refine wider_ok hA hlow (by unfold u64;omega) (by unfold u64;omega) (fun r hr => ⟨_,rfl,?_⟩)
 refine zc ?_
 refine hQ r ?_
 rw [hr]
 congr 1
 omega
theorem order_ok {h : AHeap} (hlow : h.low ≤ h.next) {n d m e : Int} {p q : Rat} (hp : isF n d p) (hq : isF m e q) {Q : Value → AHeap → Prop}
  (hQ : ∀ (c : Int) h',c = cmpF p q → Ext h h' → Q (.int .i64 c) h') : call 56 [.agg #[.int .i64 n,.int .i64 d],.agg #[.int .i64 m,.int .i64 e]] h Q:=by
 have pd:=hp.den
 have qd:=hq.den
 have in64:=hp.i64n
 have id64:=hp.i64d
 have im64:=hq.i64n
 have ie64:=hq.i64d
 have key : cmpF p q = sgn (n * e - m * d):=by
  rw [cmpF_sgn,hp.1,hp.2.1,hq.1,hq.2.1]
 have m1 : 0 ≤ (n.natAbs : Int) * e:=Int.mul_nonneg (by omega) (by omega)
 have m2 : 0 ≤ (m.natAbs : Int) * d:=Int.mul_nonneg (by omega) (by omega)
 have big : ∀ (s : Int) (k : Int),k ≠ 0 → 1 ≤ s → 1 ≤ (k.natAbs : Int) * s:=fun s k hk hs => by
  have:=Int.mul_pos (a:=(k.natAbs : Int)) (b:=s) (by omega) (by omega)
  omega
 have sn : n * e = if n < 0 then -((n.natAbs : Int) * e) else (n.natAbs : Int) * e:=by
  split
  ·rw [show (n.natAbs : Int) = -n by omega,Int.neg_mul];omega
  ·rw [show (n.natAbs : Int) = n by omega]
 have sm : m * d = if m < 0 then -((m.natAbs : Int) * d) else (m.natAbs : Int) * d:=by
  split
  ·rw [show (m.natAbs : Int) = -m by omega,Int.neg_mul];omega
  ·rw [show (m.natAbs : Int) = m by omega]
 refine hA.bodyR Try.func56 r56_ok (hA.alike _ _ _ rfl) hlow (zc ?_)
 refine br (n < 0) (by rw [e_lss hA]) (fun c1 => ?_) (fun c1 => ?_) <;> refine zc ?_
 ·refine br (0 ≤ m) (by rw [e_geq hA]) (fun c2 => ?_) (fun c2 => ?_) <;> refine zc ?_
  ·refine hQ _ _ ?_ (.refl h)
   have:=big e n (by omega) qd
   rw [if_pos c1] at sn
   rw [if_neg (by omega)] at sm
   rw [key]
   unfold sgn
   rw [if_neg (by omega),if_neg (by omega)]
  refine br (0 ≤ n) (by rw [e_geq hA]) (fun q => absurd q (by omega)) (fun _ => ?_) <;> refine zc ?_
  obtain ⟨h9,hh9⟩ : ∃ z,z = bump h 14:=⟨_,rfl⟩
  have e9 : Ext h h9:=by rw [hh9];exact ext_bump hA _ _
  have l9:=e9.lowOK hlow
  rw [← hh9]
  refine zc ?_
  refine size_ok hA (low_fresh hA h9) in64 (fun s1 hs1 => ⟨_,rfl,?_⟩)
  refine zc ?_
  rw [low_same hA l9]
  refine size_ok hA (low_fresh hA h9) ie64 (fun s2 hs2 => ⟨_,rfl,?_⟩)
  refine zc ?_
  rw [low_same hA l9]
  refine size_ok hA (low_fresh hA h9) im64 (fun s3 hs3 => ⟨_,rfl,?_⟩)
  refine zc ?_
  rw [low_same hA l9]
  refine size_ok hA (low_fresh hA h9) id64 (fun s4 hs4 => ⟨_,rfl,?_⟩)
  refine zc ?_
  rw [low_same hA l9]
  have z1 : u64 s1:=by unfold u64;unfold i64 at in64;omega
  have z2 : u64 s2:=by unfold u64;unfold i64 at ie64;omega
  have z3 : u64 s3:=by unfold u64;unfold i64 at im64;omega
  have z4 : u64 s4:=by unfold u64;unfold i64 at id64;omega
  refine compare_ok hA (low_fresh hA h9) z1 z2 z3 z4 (fun r hr => ⟨_,rfl,?_⟩)
  rw [hs1,hs3,show s2 = e by omega,show s4 = d by omega] at hr
  refine zc ?_
  rw [low_same hA l9]
  refine br (n < 0) (by rw [e_lss hA]) (fun _ => ?_) (fun q => absurd c1 q) <;> refine zc ?_
  refine hQ _ _ ?_ e9
  rw [if_pos c1] at sn
  rw [if_pos (by omega)] at sm
  have hr2:=sgn_range ((n.natAbs : Int) * e - (m.natAbs : Int) * d)
  have hr3:=sgn_neg ((n.natAbs : Int) * e - (m.natAbs : Int) * d)
  rw [key,sn,sm,e_neg hA,hr,wrap64 (by omega) (by omega)]
  rw [show -((n.natAbs : Int) * e) - -((m.natAbs : Int) * d) = -((n.natAbs : Int) * e - (m.natAbs : Int) * d) by omega,hr3]
  omega
 ·refine br (0 ≤ n) (by rw [e_geq hA]) (fun _ => ?_) (fun q => absurd q (by omega)) <;> refine zc ?_
  refine br (m < 0) (by rw [e_lss hA]) (fun c2 => ?_) (fun c2 => ?_) <;> refine zc ?_
  ·refine hQ _ _ ?_ (.refl h)
   have:=big d m (by omega) pd
   rw [if_neg c1] at sn
   rw [if_pos c2] at sm
   rw [key]
   unfold sgn
   rw [if_pos (by omega)]
  obtain ⟨h9,hh9⟩ : ∃ z,z = bump h 14:=⟨_,rfl⟩
  have e9 : Ext h h9:=by rw [hh9];exact ext_bump hA _ _
  have l9:=e9.lowOK hlow
  rw [← hh9]
  refine zc ?_
  refine size_ok hA (low_fresh hA h9) in64 (fun s1 hs1 => ⟨_,rfl,?_⟩)
  refine zc ?_
  rw [low_same hA l9]
  refine size_ok hA (low_fresh hA h9) ie64 (fun s2 hs2 => ⟨_,rfl,?_⟩)
  refine zc ?_
  rw [low_same hA l9]
  refine size_ok hA (low_fresh hA h9) im64 (fun s3 hs3 => ⟨_,rfl,?_⟩)
  refine zc ?_
  rw [low_same hA l9]
  refine size_ok hA (low_fresh hA h9) id64 (fun s4 hs4 => ⟨_,rfl,?_⟩)
  refine zc ?_
  rw [low_same hA l9]
  have z1 : u64 s1:=by unfold u64;unfold i64 at in64;omega
  have z2 : u64 s2:=by unfold u64;unfold i64 at ie64;omega
  have z3 : u64 s3:=by unfold u64;unfold i64 at im64;omega
  have z4 : u64 s4:=by unfold u64;unfold i64 at id64;omega
  refine compare_ok hA (low_fresh hA h9) z1 z2 z3 z4 (fun r hr => ⟨_,rfl,?_⟩)
  rw [hs1,hs3,show s2 = e by omega,show s4 = d by omega] at hr
  refine zc ?_
  rw [low_same hA l9]
  refine br (n < 0) (by rw [e_lss hA]) (fun q => absurd q c1) (fun _ => ?_) <;> refine zc ?_
  refine hQ _ _ ?_ e9
  rw [if_neg c1] at sn
  rw [if_neg c2] at sm
  rw [key,sn,sm,hr]
theorem both_ok {h : AHeap} (hlow : h.low ≤ h.next) {n d m e : Int} (hn : i64 n) (hd : i64 d) (hm : i64 m) (he : i64 e) {Q : Value → AHeap → Prop}
  (hQ : ∀ (r : Int) h',(r = 0 ∧ okF n d ∧ okF m e) ∨ (r = 8 ∧ ¬ (okF n d ∧ okF m e)) → Ext h h' → Q (.int .i64 r) h') : call 55 [.agg #[.int .i64 n,.int .i64 d],.agg #[.int .i64 m,.int .i64 e]] h Q:=by
 refine hA.bodyR Try.func55 r55_ok (hA.alike _ _ _ rfl) hlow (zc ?_)
 refine check_ok hA hlow hn hd (fun r1 h1 k1 x1 => ⟨_,rfl,?_⟩)
 refine zc ?_
 refine br (r1 ≠ 0) (by rw [e_neq hA]) (fun c1 => ?_) (fun c1 => ?_) <;> refine zc ?_
 ·rcases k1 with ⟨q,_⟩ | ⟨rfl,q⟩
  ·exact absurd q c1
  ·exact hQ _ _ (.inr ⟨rfl,fun w => q w.1⟩) x1
 refine check_ok hA (x1.lowOK hlow) hm he (fun r2 h2 k2 x2 => ⟨_,rfl,?_⟩)
 refine zc ?_
 rcases k1 with ⟨_,q1⟩ | ⟨q,_⟩
 ·rcases k2 with ⟨rfl,q2⟩ | ⟨rfl,q2⟩
  ·exact hQ _ _ (.inl ⟨rfl,q1,q2⟩) (x1.trans x2)
  ·exact hQ _ _ (.inr ⟨rfl,fun w => q2 w.2⟩) (x1.trans x2)
 ·omega
def CmpIs (n d m e c r : Int) : Prop:=(¬ (okF n d ∧ okF m e) ∧ c = 0 ∧ r = 8) ∨ ∃ p q,isF n d p ∧ isF m e q ∧ c = cmpF p q ∧ r = 0
theorem cmp_ok {h : AHeap} (hlow : h.low ≤ h.next) {n d m e : Int} (hn : i64 n) (hd : i64 d) (hm : i64 m) (he : i64 e) {Q : Value → AHeap → Prop}
  (hQ : ∀ (c r : Int) h',CmpIs n d m e c r → Ext h h' → Q (.tuple #[.int .i64 c,.int .i64 r]) h') : call 43 [.agg #[.int .i64 n,.int .i64 d],.agg #[.int .i64 m,.int .i64 e]] h Q:=by
 refine hA.bodyR Try.func43 r43_ok (hA.alike _ _ _ rfl) hlow (zc ?_)
 refine both_ok hA hlow hn hd hm he (fun r1 h1 k1 x1 => ⟨_,rfl,?_⟩)
 refine zc ?_
 refine br (r1 ≠ 0) (by rw [e_neq hA]) (fun c1 => ?_) (fun c1 => ?_) <;> refine zc ?_
 ·rcases k1 with ⟨q,_⟩ | ⟨rfl,q⟩
  ·exact absurd q c1
  ·exact hQ _ _ _ (.inl ⟨q,rfl,rfl⟩) x1
 rcases k1 with ⟨_,⟨p,hp⟩,q,hq⟩ | ⟨q,_⟩
 ·refine order_ok hA (x1.lowOK hlow) hp hq (fun c h2 hc x2 => ⟨_,rfl,?_⟩)
  refine zc ?_
  exact hQ _ _ _ (.inr ⟨p,q,hp,hq,hc,rfl⟩) (x1.trans x2)
 ·omega
end Go.Proofs.Ytcdoknkgbnaefaa
namespace Go.Proofs.Ytcdoknkgbnaefaa
open Go.Sim
set_option linter.unusedVariables false
set_option maxRecDepth 100000
theorem div_u64 {a b : Int} (ha : u64 a) (hb : 0 < b) : u64 (a / b):=by
 obtain ⟨h0,h1⟩:=ha
 have h2 : a / b ≤ a:=Int.ediv_le_self b h0
 exact ⟨Int.ediv_nonneg h0 (by omega),by omega⟩
variable {F : Prims} {call head arith cmp scmp bnot bsame conv neg imax imin ofNat slen place inR nz geZ rd wr push next mkOK nat zeros sadd eqAgg cut slc sslc strAt part app cpy putAt fresh lowered bump wrote addN lt ne fpAll fpApp brk yn rng mget mput mnew bytes clr : _} (hA : AP F ⟨call,head,arith,cmp,scmp,bnot,bsame,conv,neg,imax,imin,ofNat,slen,place,inR,nz,geZ,rd,wr,push,next,mkOK,nat,zeros,sadd,eqAgg,cut,slc,sslc,strAt,part,app,cpy,putAt,fresh,lowered,bump,wrote,addN,lt,ne,fpAll,fpApp,brk,yn,rng,mget,mput,mnew,bytes,clr⟩)
include hA
end Go.Proofs.Ytcdoknkgbnaefaa
namespace Go.Proofs.Ytcdoknkgbnaefaa
open Go.Sim
set_option linter.unusedVariables false
set_option maxRecDepth 100000
theorem isLen_of {x w K c : Int} {t k : Nat} (hx : 0 ≤ x) (hw : w = x / K) (hK : K = 2 ^ k) (hz : k = 0 ∨ 1 ≤ w) (q1 : w < 2 ^ t) (q2 : (2 : Int) ^ t ≤ 2 * max w 1) (hc : c = t) : isLen x (k + c):=by
 have e : ((k : Int) + c).toNat = k + t:=by omega
 have hp : (0 : Int) < 2 ^ t:=Int.pow_pos (by omega)
 have hkp : (0 : Int) < K:=by rw [hK];exact Int.pow_pos (by omega)
 refine ⟨by omega,?_,?_⟩ <;> rw [e,Int.pow_add,← hK]
 ·have h1 : w + 1 ≤ 2 ^ t:=by omega
  have h2:=Int.mul_le_mul_of_nonneg_left h1 (Int.le_of_lt hkp)
  have h3:=Int.lt_mul_ediv_self_add (x:=x) hkp
  rw [← hw] at h3
  have h4 : K * (w + 1) = K * w + K:=by grind
  omega
 ·rcases hz with rfl | hz
  ·have : K = 1:=by rw [hK];rfl
   subst this
   rw [Int.ediv_one] at hw
   rw [Int.one_mul,← hw];exact q2
  ·have h1 : (2 : Int) ^ t ≤ 2 * w:=by omega
   have h2:=Int.mul_le_mul_of_nonneg_left h1 (Int.le_of_lt hkp)
   have h3:=Int.mul_ediv_self_le (x:=x) (k:=K) (by omega)
   rw [← hw] at h3
   have h4 : K * (2 * w) = 2 * (K * w):=by grind
   omega
variable {F : Prims} {call head arith cmp scmp bnot bsame conv neg imax imin ofNat slen place inR nz geZ rd wr push next mkOK nat zeros sadd eqAgg cut slc sslc strAt part app cpy putAt fresh lowered bump wrote addN lt ne fpAll fpApp brk yn rng mget mput mnew bytes clr : _} (hA : AP F ⟨call,head,arith,cmp,scmp,bnot,bsame,conv,neg,imax,imin,ofNat,slen,place,inR,nz,geZ,rd,wr,push,next,mkOK,nat,zeros,sadd,eqAgg,cut,slc,sslc,strAt,part,app,cpy,putAt,fresh,lowered,bump,wrote,addN,lt,ne,fpAll,fpApp,brk,yn,rng,mget,mput,mnew,bytes,clr⟩)
include hA
theorem strAt_tab {s : ByteArray} (ht : tabOK s = true) {w : Int} (h0 : 0 ≤ w) (h1 : w < 256) {C : Int → Prop} (hC : ∀ (t : Nat) (c : Int),c = t → w < 2 ^ t → (2 : Int) ^ t ≤ 2 * max w 1 → t ≤ 8 → C c) : strAt s w C:=by
 obtain ⟨t,q1,q2,q3,q4,q5⟩:=tab_at ht h0 h1
 exact strAt_ok hA h0 (by omega) (fun c hc _ _ => hC t c (by rw [hc,q1]) q2 q3 q4)
theorem len64_ok {h : AHeap} (hlow : h.low ≤ h.next) {x : Int} (hx : u64 x) {Q : Value → AHeap → Prop} (hQ : ∀ n : Int,isLen x n → Q (.int .i64 n) h) : call 71 [.int .u64 x] h Q:=by
 obtain ⟨x0,x1⟩:=hx
 refine hA.bodyR Try.func71 r71_ok (hA.alike _ _ _ rfl) hlow (zc ?_)
 refine br (4294967296 ≤ x) (by rw [e_geq hA]) (fun c32 => ?_) (fun c32 => ?_) <;> refine zc ?_
 ·refine ⟨geZ_ok hA (by omega),?_⟩
  refine zc ?_
  have hs32 : arith .shr .u64 x 32 = x / 4294967296:=shrU hA (by omega) 32 (by omega) (by rfl)
  rw [hs32]
  obtain ⟨z,hz⟩ : ∃ q,q = x / 4294967296:=⟨_,rfl⟩
  rw [← hz]
  refine zc ?_
  refine br (65536 ≤ z) (by rw [e_geq hA]) (fun c16 => ?_) (fun c16 => ?_) <;> refine zc ?_
  ·refine ⟨geZ_ok hA (by omega),?_⟩
   refine zc ?_
   have hs16 : arith .shr .u64 z 16 = z / 65536:=shrU hA (by omega) 16 (by omega) (by rfl)
   rw [hs16]
   obtain ⟨y,hy⟩ : ∃ q,q = z / 65536:=⟨_,rfl⟩
   rw [← hy]
   have en16 : arith .add .i64 32 16 = 48:=add64 hA (by omega) (by omega)
   refine zc ?_
   rw [en16]
   refine zc ?_
   refine br (256 ≤ y) (by rw [e_geq hA]) (fun c8 => ?_) (fun c8 => ?_) <;> refine zc ?_
   ·refine ⟨geZ_ok hA (by omega),?_⟩
    refine zc ?_
    have hs8 : arith .shr .u64 y 8 = y / 256:=shrU hA (by omega) 8 (by omega) (by rfl)
    rw [hs8]
    obtain ⟨w0,hw0⟩ : ∃ q,q = y / 256:=⟨_,rfl⟩
    rw [← hw0]
    have en8 : arith .add .i64 48 8 = 56:=add64 hA (by omega) (by omega)
    refine zc ?_
    rw [en8]
    refine zc ?_
    obtain ⟨w,hw⟩ : ∃ q,q = w0:=⟨_,rfl⟩
    rw [← hw]
    refine zc ?_
    have hw0 : 0 ≤ w:=by omega
    have hw1 : w < 256:=by omega
    rw [conv8 hA hw0 hw1]
    refine strAt_tab hA (by kernel_rfl) hw0 hw1 (fun t c ht q1 q2 q3 => ?_)
    refine zc ?_
    have ec : conv .i64 c = c:=conv64 hA (by omega) (by omega)
    have ea : arith .add .i64 56 c = 56 + c:=add64 hA (by omega) (by omega)
    rw [ec,ea]
    refine hQ _ (isLen_of (k:=56) (K:=72057594037927936) (t:=t) x0 (w:=w) (by omega) (by rfl) (by omega) q1 q2 ht)
   ·obtain ⟨w0,hw0⟩ : ∃ q,q = y:=⟨_,rfl⟩
    rw [← hw0]
    refine zc ?_
    obtain ⟨w,hw⟩ : ∃ q,q = w0:=⟨_,rfl⟩
    rw [← hw]
    refine zc ?_
    have hw0 : 0 ≤ w:=by omega
    have hw1 : w < 256:=by omega
    rw [conv8 hA hw0 hw1]
    refine strAt_tab hA (by kernel_rfl) hw0 hw1 (fun t c ht q1 q2 q3 => ?_)
    refine zc ?_
    have ec : conv .i64 c = c:=conv64 hA (by omega) (by omega)
    have ea : arith .add .i64 48 c = 48 + c:=add64 hA (by omega) (by omega)
    rw [ec,ea]
    refine hQ _ (isLen_of (k:=48) (K:=281474976710656) (t:=t) x0 (w:=w) (by omega) (by rfl) (by omega) q1 q2 ht)
  ·obtain ⟨y,hy⟩ : ∃ q,q = z:=⟨_,rfl⟩
   rw [← hy]
   refine zc ?_
   refine br (256 ≤ y) (by rw [e_geq hA]) (fun c8 => ?_) (fun c8 => ?_) <;> refine zc ?_
   ·refine ⟨geZ_ok hA (by omega),?_⟩
    refine zc ?_
    have hs8 : arith .shr .u64 y 8 = y / 256:=shrU hA (by omega) 8 (by omega) (by rfl)
    rw [hs8]
    obtain ⟨w0,hw0⟩ : ∃ q,q = y / 256:=⟨_,rfl⟩
    rw [← hw0]
    have en8 : arith .add .i64 32 8 = 40:=add64 hA (by omega) (by omega)
    refine zc ?_
    rw [en8]
    refine zc ?_
    obtain ⟨w,hw⟩ : ∃ q,q = w0:=⟨_,rfl⟩
    rw [← hw]
    refine zc ?_
    have hw0 : 0 ≤ w:=by omega
    have hw1 : w < 256:=by omega
    rw [conv8 hA hw0 hw1]
    refine strAt_tab hA (by kernel_rfl) hw0 hw1 (fun t c ht q1 q2 q3 => ?_)
    refine zc ?_
    have ec : conv .i64 c = c:=conv64 hA (by omega) (by omega)
    have ea : arith .add .i64 40 c = 40 + c:=add64 hA (by omega) (by omega)
    rw [ec,ea]
    refine hQ _ (isLen_of (k:=40) (K:=1099511627776) (t:=t) x0 (w:=w) (by omega) (by rfl) (by omega) q1 q2 ht)
   ·obtain ⟨w0,hw0⟩ : ∃ q,q = y:=⟨_,rfl⟩
    rw [← hw0]
    refine zc ?_
    obtain ⟨w,hw⟩ : ∃ q,q = w0:=⟨_,rfl⟩
    rw [← hw]
    refine zc ?_
    have hw0 : 0 ≤ w:=by omega
    have hw1 : w < 256:=by omega
    rw [conv8 hA hw0 hw1]
    refine strAt_tab hA (by kernel_rfl) hw0 hw1 (fun t c ht q1 q2 q3 => ?_)
    refine zc ?_
    have ec : conv .i64 c = c:=conv64 hA (by omega) (by omega)
    have ea : arith .add .i64 32 c = 32 + c:=add64 hA (by omega) (by omega)
    rw [ec,ea]
    refine hQ _ (isLen_of (k:=32) (K:=4294967296) (t:=t) x0 (w:=w) (by omega) (by rfl) (by omega) q1 q2 ht)
 ·obtain ⟨z,hz⟩ : ∃ q,q = x:=⟨_,rfl⟩
  rw [← hz]
  refine zc ?_
  refine br (65536 ≤ z) (by rw [e_geq hA]) (fun c16 => ?_) (fun c16 => ?_) <;> refine zc ?_
  ·refine ⟨geZ_ok hA (by omega),?_⟩
   refine zc ?_
   have hs16 : arith .shr .u64 z 16 = z / 65536:=shrU hA (by omega) 16 (by omega) (by rfl)
   rw [hs16]
   obtain ⟨y,hy⟩ : ∃ q,q = z / 65536:=⟨_,rfl⟩
   rw [← hy]
   have en16 : arith .add .i64 0 16 = 16:=add64 hA (by omega) (by omega)
   refine zc ?_
   rw [en16]
   refine zc ?_
   refine br (256 ≤ y) (by rw [e_geq hA]) (fun c8 => ?_) (fun c8 => ?_) <;> refine zc ?_
   ·refine ⟨geZ_ok hA (by omega),?_⟩
    refine zc ?_
    have hs8 : arith .shr .u64 y 8 = y / 256:=shrU hA (by omega) 8 (by omega) (by rfl)
    rw [hs8]
    obtain ⟨w0,hw0⟩ : ∃ q,q = y / 256:=⟨_,rfl⟩
    rw [← hw0]
    have en8 : arith .add .i64 16 8 = 24:=add64 hA (by omega) (by omega)
    refine zc ?_
    rw [en8]
    refine zc ?_
    obtain ⟨w,hw⟩ : ∃ q,q = w0:=⟨_,rfl⟩
    rw [← hw]
    refine zc ?_
    have hw0 : 0 ≤ w:=by omega
    have hw1 : w < 256:=by omega
    rw [conv8 hA hw0 hw1]
    refine strAt_tab hA (by kernel_rfl) hw0 hw1 (fun t c ht q1 q2 q3 => ?_)
    refine zc ?_
    have ec : conv .i64 c = c:=conv64 hA (by omega) (by omega)
    have ea : arith .add .i64 24 c = 24 + c:=add64 hA (by omega) (by omega)
    rw [ec,ea]
    refine hQ _ (isLen_of (k:=24) (K:=16777216) (t:=t) x0 (w:=w) (by omega) (by rfl) (by omega) q1 q2 ht)
   ·obtain ⟨w0,hw0⟩ : ∃ q,q = y:=⟨_,rfl⟩
    rw [← hw0]
    refine zc ?_
    obtain ⟨w,hw⟩ : ∃ q,q = w0:=⟨_,rfl⟩
    rw [← hw]
    refine zc ?_
    have hw0 : 0 ≤ w:=by omega
    have hw1 : w < 256:=by omega
    rw [conv8 hA hw0 hw1]
    refine strAt_tab hA (by kernel_rfl) hw0 hw1 (fun t c ht q1 q2 q3 => ?_)
    refine zc ?_
    have ec : conv .i64 c = c:=conv64 hA (by omega) (by omega)
    have ea : arith .add .i64 16 c = 16 + c:=add64 hA (by omega) (by omega)
    rw [ec,ea]
    refine hQ _ (isLen_of (k:=16) (K:=65536) (t:=t) x0 (w:=w) (by omega) (by rfl) (by omega) q1 q2 ht)
  ·obtain ⟨y,hy⟩ : ∃ q,q = z:=⟨_,rfl⟩
   rw [← hy]
   refine zc ?_
   refine br (256 ≤ y) (by rw [e_geq hA]) (fun c8 => ?_) (fun c8 => ?_) <;> refine zc ?_
   ·refine ⟨geZ_ok hA (by omega),?_⟩
    refine zc ?_
    have hs8 : arith .shr .u64 y 8 = y / 256:=shrU hA (by omega) 8 (by omega) (by rfl)
    rw [hs8]
    obtain ⟨w0,hw0⟩ : ∃ q,q = y / 256:=⟨_,rfl⟩
    rw [← hw0]
    have en8 : arith .add .i64 0 8 = 8:=add64 hA (by omega) (by omega)
    refine zc ?_
    rw [en8]
    refine zc ?_
    obtain ⟨w,hw⟩ : ∃ q,q = w0:=⟨_,rfl⟩
    rw [← hw]
    refine zc ?_
    have hw0 : 0 ≤ w:=by omega
    have hw1 : w < 256:=by omega
    rw [conv8 hA hw0 hw1]
    refine strAt_tab hA (by kernel_rfl) hw0 hw1 (fun t c ht q1 q2 q3 => ?_)
    refine zc ?_
    have ec : conv .i64 c = c:=conv64 hA (by omega) (by omega)
    have ea : arith .add .i64 8 c = 8 + c:=add64 hA (by omega) (by omega)
    rw [ec,ea]
    refine hQ _ (isLen_of (k:=8) (K:=256) (t:=t) x0 (w:=w) (by omega) (by rfl) (by omega) q1 q2 ht)
   ·obtain ⟨w0,hw0⟩ : ∃ q,q = y:=⟨_,rfl⟩
    rw [← hw0]
    refine zc ?_
    obtain ⟨w,hw⟩ : ∃ q,q = w0:=⟨_,rfl⟩
    rw [← hw]
    refine zc ?_
    have hw0 : 0 ≤ w:=by omega
    have hw1 : w < 256:=by omega
    rw [conv8 hA hw0 hw1]
    refine strAt_tab hA (by kernel_rfl) hw0 hw1 (fun t c ht q1 q2 q3 => ?_)
    refine zc ?_
    have ec : conv .i64 c = c:=conv64 hA (by omega) (by omega)
    have ea : arith .add .i64 0 c = 0 + c:=add64 hA (by omega) (by omega)
    rw [ec,ea]
    refine hQ _ (isLen_of (k:=0) (K:=1) (t:=t) x0 (w:=w) (by omega) (by rfl) (by omega) q1 q2 ht)
end Go.Proofs.Ytcdoknkgbnaefaa
