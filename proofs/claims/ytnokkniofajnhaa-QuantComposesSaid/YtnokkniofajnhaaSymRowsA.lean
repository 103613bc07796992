import Derived.Test.YtnokkniofajnhaaSymFacts
import Derived.Test.YtnokkniofajnhaaFracM
import Derived.Test.YtnokkniofajnhaaSymC
set_option linter.unusedSimpArgs false
set_option linter.unusedVariables false
namespace Go.Proofs.Ytnokkniofajnhaa
open Go.Sim
theorem wrapU {x : Int} (h1 : 0 ≤ x) (h2 : x < 18446744073709551616) : IntKind.wrap .u64 x = x:=by
 unfold IntKind.wrap
 simp [IntKind.bits,IntKind.signed,IntKind.min,IntKind.max]
 omega
theorem wrapUm (x : Int) : IntKind.wrap .u64 x = x % 18446744073709551616:=by
 unfold IntKind.wrap
 simp [IntKind.bits,IntKind.signed,IntKind.min,IntKind.max]
 try omega
theorem ofInt64 {a : Int} (h0 : 0 ≤ a) (h1 : a < 18446744073709551616) : (BitVec.ofInt 64 a).toNat = a.toNat:=by
 rw [BitVec.toNat_ofInt]
 congr 1
 omega
theorem and64 {a b : Int} (h0 : 0 ≤ a) (h1 : a < 18446744073709551616) (g0 : 0 ≤ b) (g1 : b < 18446744073709551616) : (BitVec.ofInt 64 a &&& BitVec.ofInt 64 b).toNat = a.toNat &&& b.toNat:=by
 rw [BitVec.toNat_and,ofInt64 h0 h1,ofInt64 g0 g1]
theorem or64 {a b : Int} (h0 : 0 ≤ a) (h1 : a < 18446744073709551616) (g0 : 0 ≤ b) (g1 : b < 18446744073709551616) : (BitVec.ofInt 64 a ||| BitVec.ofInt 64 b).toNat = a.toNat ||| b.toNat:=by
 rw [BitVec.toNat_or,ofInt64 h0 h1,ofInt64 g0 g1]
theorem _root_.Go.Sim.Ext.lower' {h h1 h2 : AHeap} (e : Ext h h2) (e1 : Ext h h1) (hl : h.low ≤ h.next) : Ext h (h2.lowered h1.low):=by
 have a:=e.lowG
 have b:=e1.lowG
 have c:=e.low hl
 refine ⟨e.next,fun _ => ?_,?_,e.get⟩
 ·show Nat.min h1.low h2.low ≤ h2.next
  have : Nat.min h1.low h2.low ≤ h2.low:=Nat.min_le_right _ _
  omega
 ·show Nat.min h.low h.next ≤ Nat.min h1.low h2.low
  exact Nat.le_min.2 ⟨b,a⟩
variable {F : Prims} {call head arith cmp scmp bnot bsame conv neg imax imin ofNat slen place inR nz geZ rd wr push next mkOK nat zeros sadd eqAgg cut slc sslc strAt part app cpy putAt fresh lowered bump wrote addN lt ne fpAll fpApp brk yn rng mget mput mnew bytes clr : _} (hA : AP F ⟨call,head,arith,cmp,scmp,bnot,bsame,conv,neg,imax,imin,ofNat,slen,place,inR,nz,geZ,rd,wr,push,next,mkOK,nat,zeros,sadd,eqAgg,cut,slc,sslc,strAt,part,app,cpy,putAt,fresh,lowered,bump,wrote,addN,lt,ne,fpAll,fpApp,brk,yn,rng,mget,mput,mnew,bytes,clr⟩)
include hA
theorem ext_fresh (X : AHeap) : Ext X (fresh X):=by rw [e_fresh hA];exact .freshed _
theorem low_fresh (X : AHeap) : (fresh X).low ≤ (fresh X).next:=by rw [e_fresh hA];exact freshed_low _
theorem ext_low {h X h' : AHeap} (hl : h.low ≤ h.next) (y : Ext h X) (z : Ext (fresh X) h') : Ext h (lowered X h'):=by
 rw [e_lowered hA]
 exact Ext.lower' ((y.trans (ext_fresh hA X)).trans z) y hl
theorem low_same {X : AHeap} (hl : X.low ≤ X.next) : lowered X (fresh X) = X:=by rw [e_lowered hA,e_fresh hA];exact lowered_freshed hl
theorem signs_ok (a b : Int) : bnot (bsame (cmp .lss a 0) (cmp .lss b 0)) = true ↔ ¬ (a < 0 ↔ b < 0):=by
 rw [e_bnot hA,e_bsame hA,e_lss hA,e_lss hA]
 by_cases h1 : a < 0 <;> by_cases h2 : b < 0 <;> simp [h1,h2]
theorem ext_bump (h : AHeap) (n : Nat) : Ext h (bump h n):=by rw [e_bump hA];exact .bump _ _
theorem e_and (k : IntKind) (a b : Int) : arith .and k a b = k.wrap (BitVec.ofInt k.bits a &&& BitVec.ofInt k.bits b).toNat:=by have:=hA.eq;injections;subst_vars;rfl
theorem e_or (k : IntKind) (a b : Int) : arith .or k a b = k.wrap (BitVec.ofInt k.bits a ||| BitVec.ofInt k.bits b).toNat:=by have:=hA.eq;injections;subst_vars;rfl
theorem e_xor (k : IntKind) (a b : Int) : arith .xor k a b = k.wrap (BitVec.ofInt k.bits a ^^^ BitVec.ofInt k.bits b).toNat:=by have:=hA.eq;injections;subst_vars;rfl
theorem e_shl (k : IntKind) (a b : Int) : arith .shl k a b = k.wrap (a * 2 ^ (min b.toNat k.bits)):=by have:=hA.eq;injections;subst_vars;rfl
theorem e_shr (k : IntKind) (a b : Int) : arith .shr k a b = a.fdiv (2 ^ (min b.toNat k.bits)):=by have:=hA.eq;injections;subst_vars;rfl
theorem addU {a b : Int} (h1 : 0 ≤ a + b) (h2 : a + b < 18446744073709551616) : arith .add .u64 a b = a + b:=by rw [e_add hA,wrapU h1 h2]
theorem subU {a b : Int} (h1 : 0 ≤ a - b) (h2 : a - b < 18446744073709551616) : arith .sub .u64 a b = a - b:=by rw [e_sub hA,wrapU h1 h2]
theorem mulU {a b : Int} (h1 : 0 ≤ a * b) (h2 : a * b < 18446744073709551616) : arith .mul .u64 a b = a * b:=by rw [e_mul hA,wrapU h1 h2]
theorem mulUm (a b : Int) : arith .mul .u64 a b = a * b % 18446744073709551616:=by rw [e_mul hA,wrapUm]
theorem addUm (a b : Int) : arith .add .u64 a b = (a + b) % 18446744073709551616:=by rw [e_add hA,wrapUm]
theorem subUm (a b : Int) : arith .sub .u64 a b = (a - b) % 18446744073709551616:=by rw [e_sub hA,wrapUm]
theorem quoU {a b : Int} (h0 : 0 ≤ a) (h1 : a < 18446744073709551616) (hb : 0 < b) : arith .quo .u64 a b = a / b:=by
 have h2 : 0 ≤ a / b:=Int.ediv_nonneg h0 (by omega)
 have h3 : a / b ≤ a:=Int.ediv_le_self _ h0
 rw [e_quo hA,Int.tdiv_eq_ediv_of_nonneg h0,wrapU (by omega) (by omega)]
theorem remU {a b : Int} (h0 : 0 ≤ a) : arith .rem .u64 a b = a % b:=by
 rw [e_rem hA,Int.tmod_eq_emod_of_nonneg h0]
theorem convU {a : Int} (h0 : 0 ≤ a) (h1 : a < 18446744073709551616) : conv .u64 a = a:=by rw [e_conv hA,wrapU h0 h1]
theorem maskU {a : Int} (h0 : 0 ≤ a) (h1 : a < 18446744073709551616) (k : Nat) {m : Int} (hk : k ≤ 63) (hm : m = 2 ^ k - 1) : arith .and .u64 a m = a % 2 ^ k:=by
 have hp0 : (0 : Int) < 2 ^ k:=Int.pow_pos (by omega)
 have hp : (1 : Int) ≤ 2 ^ k:=by omega
 have hp2 : (2 : Int) ^ k ≤ 2 ^ 63:=by
  have:=Nat.pow_le_pow_right (n:=2) (by omega) hk
  exact_mod_cast this
 have h63 : (2 : Int) ^ 63 = 9223372036854775808:=by rfl
 rw [e_and hA]
 show IntKind.wrap .u64 _ = _
 have e : m.toNat = 2 ^ k - 1:=by
  have : ((2 ^ k : Nat) : Int) = 2 ^ k:=by push_cast;rfl
  omega
 rw [show IntKind.bits .u64 = 64 from rfl,and64 h0 h1 (by omega) (by omega),e,Nat.and_two_pow_sub_one_eq_mod]
 have e2 : ((a.toNat % 2 ^ k : Nat) : Int) = a % 2 ^ k:=by
  push_cast
  rw [Int.toNat_of_nonneg h0]
 have h3 : 0 ≤ a % 2 ^ k:=Int.emod_nonneg _ (by omega)
 have h4 : a % 2 ^ k < 2 ^ k:=Int.emod_lt_of_pos _ (by omega)
 rw [e2,wrapU h3 (by omega)]
theorem shrU {a : Int} (h0 : 0 ≤ a) (k : Nat) (hk : k ≤ 64) {b : Int} (hb : b = k) : arith .shr .u64 a b = a / 2 ^ k:=by
 rw [e_shr hA,show IntKind.bits .u64 = 64 from rfl,hb,Int.toNat_natCast,Nat.min_eq_left hk,Int.fdiv_eq_ediv_of_nonneg _ (Int.le_of_lt (Int.pow_pos (by omega)))]
theorem shlU (a : Int) (k : Nat) (hk : k ≤ 64) {b : Int} (hb : b = k) : arith .shl .u64 a b = a * 2 ^ k % 18446744073709551616:=by
 rw [e_shl hA,show IntKind.bits .u64 = 64 from rfl,hb,Int.toNat_natCast,Nat.min_eq_left hk,wrapUm]
theorem orU {a b : Int} (k : Nat) (ha : 0 ≤ a) (hb0 : 0 ≤ b) (hb1 : b < 2 ^ k) (h : a * 2 ^ k + b < 18446744073709551616) : arith .or .u64 (a * 2 ^ k) b = a * 2 ^ k + b:=by
 have hp : (0 : Int) < 2 ^ k:=Int.pow_pos (by omega)
 have hm : 0 ≤ a * 2 ^ k:=Int.mul_nonneg ha (by omega)
 rw [e_or hA,show IntKind.bits .u64 = 64 from rfl,or64 hm (by omega) hb0 (by omega)]
 have e1 : (a * 2 ^ k).toNat = 2 ^ k * a.toNat:=by
  have : ((2 ^ k * a.toNat : Nat) : Int) = a * 2 ^ k:=by
   push_cast
   rw [Int.toNat_of_nonneg ha,Int.mul_comm]
  omega
 have hk : ((2 ^ k : Nat) : Int) = 2 ^ k:=by push_cast;rfl
 have e2 : 2 ^ k * a.toNat + b.toNat = 2 ^ k * a.toNat ||| b.toNat:=Nat.two_pow_add_eq_or_of_lt (by omega) _
 rw [e1,← e2]
 have e3 : ((2 ^ k * a.toNat + b.toNat : Nat) : Int) = a * 2 ^ k + b:=by
  push_cast
  rw [Int.toNat_of_nonneg ha,Int.toNat_of_nonneg hb0,Int.mul_comm]
 rw [e3,wrapU (by omega) (by omega)]
theorem geZ_ok {b : Int} (h : 0 ≤ b) : geZ b:=by
 have e : geZ b = (0 ≤ b):=by have:=hA.eq;injections;subst_vars;rfl
 rw [e];exact h
theorem mask32 {a : Int} (h0 : 0 ≤ a) (h1 : a < 18446744073709551616) : arith .and .u64 a 4294967295 = a % 4294967296:=maskU hA h0 h1 32 (by omega) (by decide)
theorem shr32 {a : Int} (h0 : 0 ≤ a) : arith .shr .u64 a 32 = a / 4294967296:=shrU hA h0 32 (by omega) (by rfl)
end Go.Proofs.Ytnokkniofajnhaa
namespace Go.Proofs.Ytnokkniofajnhaa
open Go.Sim
def gt {α : Type} [Inhabited α] (l : List α) (i : Int) : α:=l.getD i.toNat default
structure Rows {α : Type} (enc : α → List Value) (es : Nat) (h : AHeap) (a : Option Addr) (n : Nat) (l : List α) : Prop where
 cells : Cells h a n es (l.flatMap enc)
 each : ∀ x,(enc x).length = es
 pos : 0 < es
theorem flatE_len {α : Type} {enc : α → List Value} {es : Nat} (he : ∀ x,(enc x).length = es) (l : List α) : (l.flatMap enc).length = l.length * es:=by
 induction l with
 | nil => simp
 | cons c l ih => rw [List.flatMap_cons,List.length_append,he,ih,List.length_cons,Nat.add_mul];omega
theorem flatE_drop {α : Type} [Inhabited α] {enc : α → List Value} {es : Nat} (he : ∀ x,(enc x).length = es) (l : List α) (i : Nat) (hi : i < l.length) (k m : Nat) (hk : k + m ≤ es) : ((l.flatMap enc).drop (i * es + k)).take m = ((enc (l.getD i default)).drop k).take m:=by
 induction l generalizing i with
 | nil => simp at hi
 | cons c l ih =>
  cases i with
  | zero =>
   rw [List.flatMap_cons,Nat.zero_mul,Nat.zero_add,List.drop_append_of_le_length (by rw [he];omega),List.take_append_of_le_length (by rw [List.length_drop,he];omega)]
   rfl
  | succ i =>
   have e : ((c :: l).flatMap enc).drop ((i + 1) * es + k) = (l.flatMap enc).drop (i * es + k):=by
    rw [List.flatMap_cons,show (i + 1) * es + k = (enc c).length + (i * es + k) by rw [he,Nat.add_mul];omega,List.drop_append,List.drop_eq_nil_of_le (by omega),Nat.add_sub_cancel_left,List.nil_append]
   rw [e]
   exact ih i (by simpa using hi)
theorem Rows.ext {α : Type} {enc : α → List Value} {es : Nat} {h h' : AHeap} {a : Option Addr} {n : Nat} {l : List α} (p : Rows enc es h a n l) (e : Ext h h') : Rows enc es h' a n l:=⟨p.cells.ext e,p.each,p.pos⟩
theorem Rows.len {α : Type} {enc : α → List Value} {es : Nat} {h : AHeap} {a : Option Addr} {n : Nat} {l : List α} (p : Rows enc es h a n l) : l.length = n:=by
 have h1:=p.cells.length
 rw [flatE_len p.each] at h1
 exact Nat.eq_of_mul_eq_mul_right p.pos h1
theorem Rows.at {α : Type} [Inhabited α] {enc : α → List Value} {es : Nat} {h : AHeap} {a : Option Addr} {n : Nat} {l : List α} (p : Rows enc es h a n l) {i : Int} (h0 : 0 ≤ i) (hi : i < n) :
  ∃ b o,a = some ⟨b,o,none⟩ ∧ b < h.next ∧ ∀ k m,k + m ≤ es → 0 < m → h.readG ⟨b,o + i.toNat * es + k,none⟩ m = some (((enc (gt l i)).drop k).take m):=by
 have hl:=p.len
 have hm : ∀ k m,k + m ≤ es → i.toNat * es + k + m ≤ n * es:=fun k m hk => by
  have : (i.toNat + 1) * es ≤ n * es:=Nat.mul_le_mul_right _ (by omega)
  rw [Nat.add_mul] at this
  omega
 obtain ⟨b,o,h1,h2,_⟩:=p.cells.at (i:=i.toNat * es + 0) (m:=es) (hm 0 es (by omega)) p.pos
 refine ⟨b,o,h1,h2,fun k m hk hp => ?_⟩
 obtain ⟨b',o',h1',_,h3'⟩:=p.cells.at (i:=i.toNat * es + k) (m:=m) (hm k m hk) hp
 rw [h1] at h1'
 cases h1'
 rw [Nat.add_assoc,h3',flatE_drop p.each l i.toNat (by omega) k m hk]
 rfl
theorem Own.rows {α : Type} {enc : α → List Value} {es : Nat} {h : AHeap} {b : Nat} {l : List α} (c : Own h b es (l.flatMap enc)) (he : ∀ x,(enc x).length = es) (hp : 0 < es) (hb : b < h.next) : Rows enc es h (some ⟨b,0,none⟩) l.length l:=by
 refine ⟨⟨rfl,hb,?_⟩,he,hp⟩
 have:=c.readG (o:=0) (n:=l.length * es) (by rw [flatE_len he];omega)
 rw [this,List.drop_zero,List.take_of_length_le (by rw [flatE_len he];omega)]
theorem Rows.nil {α : Type} {enc : α → List Value} {es : Nat} (h : AHeap) (he : ∀ x,(enc x).length = es) (hp : 0 < es) : Rows enc es h none 0 []:=⟨⟨rfl,rfl⟩,he,hp⟩
theorem Own.setRow {α : Type} [Inhabited α] {enc : α → List Value} {es : Nat} {h : AHeap} {b : Nat} {l : List α} (c : Own h b es (l.flatMap enc)) (he : ∀ x,(enc x).length = es) {i : Nat} (hi : i < l.length) (x : α) : ∃ h',h.write b (i * es) (enc x) = some h' ∧ Own h' b es ((l.set i x).flatMap enc) ∧ Wrote h h' b:=by
 have hle : (i + 1) * es ≤ l.length * es:=Nat.mul_le_mul_right _ (by omega)
 rw [Nat.add_mul] at hle
 obtain ⟨h',w1,w2,w3⟩:=c.write (o:=i * es) (vs:=enc x) (by rw [flatE_len he,he];omega)
 refine ⟨h',w1,?_,w3⟩
 have e : ∀ (l : List α) (i : Nat),i < l.length → (l.flatMap enc).take (i * es) ++ (enc x ++ (l.flatMap enc).drop (i * es + (enc x).length)) = (l.set i x).flatMap enc:=by
  intro l
  induction l with
  | nil => intro i hi;simp at hi
  | cons c l ih =>
   intro i hi
   cases i with
   | zero =>
    rw [List.set_cons_zero,List.flatMap_cons,List.flatMap_cons,Nat.zero_mul,Nat.zero_add,List.take_zero,List.nil_append,he,← he c,List.drop_left]
   | succ i =>
    rw [List.set_cons_succ,List.flatMap_cons,List.flatMap_cons,show (i + 1) * es = (enc c).length + i * es by rw [he,Nat.add_mul];omega,List.take_length_add_append,Nat.add_assoc,List.drop_length_add_append,List.append_assoc]
    rw [ih i (by simpa using hi)]
 rw [← e l i hi]
 exact w2
end Go.Proofs.Ytnokkniofajnhaa
namespace Go.Proofs.Ytnokkniofajnhaa
open Go.Sim
theorem ext_bumpPut (h : AHeap) (n : Nat) {b : Nat} (hb : h.next ≤ b) (es : Nat) (cs : List Value) : Ext h ((h.bump n).putAt b es cs):=
 ⟨by simp [AHeap.bump,AHeap.putAt],fun l => by simp only [AHeap.bump,AHeap.putAt];omega,by simp only [AHeap.bump,AHeap.putAt];exact Nat.min_le_left _ _,fun i hi => by
  simp only [AHeap.bump,AHeap.putAt];rw [Tri.get_set_ne _ _ (by omega)]⟩
theorem all_flat {α : Type} {enc : α → List Value} (hok : ∀ x,(enc x).all cellOK = true) (l : List α) : (l.flatMap enc).all cellOK = true:=by
 rw [List.all_flatMap]
 simp only [hok,List.all_eq_true,implies_true]
variable {F : Prims} {call head arith cmp scmp bnot bsame conv neg imax imin ofNat slen place inR nz geZ rd wr push next mkOK nat zeros sadd eqAgg cut slc sslc strAt part app cpy putAt fresh lowered bump wrote addN lt ne fpAll fpApp brk yn rng mget mput mnew bytes clr : _} (hA : AP F ⟨call,head,arith,cmp,scmp,bnot,bsame,conv,neg,imax,imin,ofNat,slen,place,inR,nz,geZ,rd,wr,push,next,mkOK,nat,zeros,sadd,eqAgg,cut,slc,sslc,strAt,part,app,cpy,putAt,fresh,lowered,bump,wrote,addN,lt,ne,fpAll,fpApp,brk,yn,rng,mget,mput,mnew,bytes,clr⟩)
include hA
theorem app_ok {ts : List TypeId} {l : List Value} {h : AHeap} {C : Option Addr → Nat → Nat → AHeap → Prop} {a : Option Addr} {n c : Nat} {h' : AHeap} (h1 : appendH Try.prog h ts l = some (.slice a n c,h')) (h2 : C a n c h') : app ts l h C:=by
 rw [e_app hA];exact ⟨a,n,c,h',h1,h2⟩
theorem appR_ok {t e es : Nat} (hT : SliceT Try.prog t e es) {α : Type} {enc : α → List Value} (he : ∀ x,(enc x).length = es) (hp0 : 0 < es) (hok : ∀ x,(enc x).all cellOK = true) {h : AHeap} {a : Option Addr} {n c : Nat} {l : List α} {v : α} (hp : Apd h es a n c (l.flatMap enc)) (hn : n ≤ 100000) {C : Option Addr → Nat → Nat → AHeap → Prop}
  (hC : ∀ a' c' h',Apd h' es a' (n + 1) c' ((l ++ [v]).flatMap enc) → (∀ h0,Ext h0 h → From h0.next a → Ext h0 h' ∧ From h0.next a') → C a' (n + 1) c' h') :
  app [t,t] [.slice a n c,.slice (some ⟨next h,0,none⟩) 1 1] (push h es (enc v)) C:=by
 rw [e_app hA,e_push hA,e_next hA]
 have hs : Cells (h.push es (enc v)) (some ⟨h.next,0,none⟩) 1 es (enc v):=⟨rfl,by simp [AHeap.push],by rw [(Own.push h es _).readG (by rw [he];omega),List.drop_zero,List.take_of_length_le (by rw [he];omega)]⟩
 have hall : (l.flatMap enc).all cellOK = true:=by
  rw [List.all_flatMap]
  simp only [hok,List.all_eq_true,implies_true]
 obtain ⟨a',c',h',h1,h2,h3⟩:=append_ok hT hT.und (c2:=1) (hp.ext (.push h es (enc v))) hs hall (hok v) (by omega) (by omega)
 refine ⟨a',n + 1,c',h',h1,hC a' c' h' (by simpa using h2) (fun h0 e0 f0 => h3 h0 (e0.trans (.push _ _ _)) f0)⟩
theorem appD_ok {t e es : Nat} (hT : SliceT Try.prog t e es) {α : Type} {enc : α → List Value} (he : ∀ x,(enc x).length = es) (hp0 : 0 < es) (hok : ∀ x,(enc x).all cellOK = true) {h0 h h9 : AHeap} (hlow : h0.low ≤ h0.next) (e0 : Ext h0 h) {N k : Nat} (hk : k < N) (hh9 : h9 = bump h N)
  {a : Option Addr} {n c : Nat} {l : List α} {v : α} (hp : Apd h es a n c (l.flatMap enc)) (hf : From h0.next a) (hn : n ≤ 100000) {C : Option Addr → Nat → Nat → AHeap → Prop}
  (hC : ∀ a' c' h',Apd (lowered (putAt h9 (addN (next h) k) es (enc v)) h') es a' (n + 1) c' ((l ++ [v]).flatMap enc) → From h0.next a' → Ext h0 (lowered (putAt h9 (addN (next h) k) es (enc v)) h') → C a' (n + 1) c' h') :
  app [t,t] [.slice a n c,.slice (some ⟨addN (next h) k,0,none⟩) 1 1] (fresh (putAt h9 (addN (next h) k) es (enc v))) C:=by
 rw [e_bump hA] at hh9
 subst hh9
 rw [e_addN hA,e_next hA,e_putAt hA] at hC ⊢
 rw [e_fresh hA]
 have x1 : Ext h ((h.bump N).putAt (h.next + k) es (enc v)):=ext_bumpPut h N (by omega) es _
 have o1:=Own.putAt (h.bump N) (h.next + k) es (enc v)
 have n1 : ((h.bump N).putAt (h.next + k) es (enc v)).next = h.next + N:=rfl
 generalize (h.bump N).putAt (h.next + k) es (enc v) = X at *
 have xf:=x1.trans (Ext.freshed X)
 have o2 : Own X.freshed (h.next + k) es (enc v):=o1.ext (Ext.freshed X) (by omega)
 have hs : Cells X.freshed (some ⟨h.next + k,0,none⟩) 1 es (enc v):=⟨rfl,by show h.next + k < X.next;omega,by rw [o2.readG (by rw [he];omega),List.drop_zero,List.take_of_length_le (by rw [he];omega)]⟩
 obtain ⟨a',c',h',h1,h2,h3⟩:=append_ok hT hT.und (c2:=1) (hp.ext xf) hs (all_flat hok l) (hok v) (by omega) (by omega)
 obtain ⟨w1,w2⟩:=h3 h0 (e0.trans xf) hf
 rw [e_app hA]
 refine ⟨a',n + 1,c',h',h1,hC a' c' h' ?_ w2 ?_⟩
 ·rw [e_lowered hA]
  refine Apd.of_get (h:=h') (by simpa using h2) (Nat.le_refl _) (fun ad had hb => rfl)
 ·rw [e_lowered hA]
  exact Ext.lower' w1 (e0.trans x1) hlow
