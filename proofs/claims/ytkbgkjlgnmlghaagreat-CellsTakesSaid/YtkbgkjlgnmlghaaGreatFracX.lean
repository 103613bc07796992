import Derived.Test.YtkbgkjlgnmlghaaGreatSymC
import Derived.Test.YtkbgkjlgnmlghaaGreatFracR
import Derived.Test.YtkbgkjlgnmlghaaGreatFracA
set_option linter.unusedSimpArgs false
set_option linter.unusedVariables false
namespace Go.Proofs.YtkbgkjlgnmlghaaGreat
open Go.Sim
set_option linter.unusedVariables false
def gt {α : Type} [Inhabited α] (l : List α) (i : Int) : α:=l.getD i.toNat default
structure Rows {α : Type} (enc : α → List Value) (es : Nat) (h : AHeap) (a : Option Addr) (n : Nat) (l : List α) : Prop where
 cells : Cells h a n es (l.flatMap enc)
 each : ∀ x,(enc x).length = es
 pos : 0 < es
theorem flatE_len {α : Type} {enc : α → List Value} {es : Nat} (he : ∀ x,(enc x).length = es) (l : List α) : (l.flatMap enc).length = l.length * es:=by
 induction l with
 | nil => simp
 | cons c l ih => rw [List.flatMap_cons,List.length_append,he,ih,List.length_cons,Nat.add_mul];omega
theorem flatE_drop {α : Type} [Inhabited α] {enc : α → List Value} {es : Nat} (he : ∀ x,(enc x).length = es) (l : List α) (i : Nat) (hi : i < l.length) (k m : Nat) (hk : k + m ≤ es) : ((l.flatMap enc).drop (i * es + k)).take m = ((enc (l.getD i default)).drop k).take m:=by
 induction l generalizing i with
 | nil => simp at hi
 | cons c l ih =>
  cases i with
  | zero =>
   rw [List.flatMap_cons,Nat.zero_mul,Nat.zero_add,List.drop_append_of_le_length (by rw [he];omega),List.take_append_of_le_length (by rw [List.length_drop,he];omega)]
   rfl
  | succ i =>
   have e : ((c :: l).flatMap enc).drop ((i + 1) * es + k) = (l.flatMap enc).drop (i * es + k):=by
    rw [List.flatMap_cons,show (i + 1) * es + k = (enc c).length + (i * es + k) by rw [he,Nat.add_mul];omega,List.drop_append,List.drop_eq_nil_of_le (by omega),Nat.add_sub_cancel_left,List.nil_append]
   rw [e]
   exact ih i (by simpa using hi)
theorem Rows.ext {α : Type} {enc : α → List Value} {es : Nat} {h h' : AHeap} {a : Option Addr} {n : Nat} {l : List α} (p : Rows enc es h a n l) (e : Ext h h') : Rows enc es h' a n l:=⟨p.cells.ext e,p.each,p.pos⟩
theorem Rows.len {α : Type} {enc : α → List Value} {es : Nat} {h : AHeap} {a : Option Addr} {n : Nat} {l : List α} (p : Rows enc es h a n l) : l.length = n:=by
 have h1:=p.cells.length
 rw [flatE_len p.each] at h1
 exact Nat.eq_of_mul_eq_mul_right p.pos h1
theorem Rows.at {α : Type} [Inhabited α] {enc : α → List Value} {es : Nat} {h : AHeap} {a : Option Addr} {n : Nat} {l : List α} (p : Rows enc es h a n l) {i : Int} (h0 : 0 ≤ i) (hi : i < n) :
  ∃ b o,a = some ⟨b,o,none⟩ ∧ b < h.next ∧ ∀ k m,k + m ≤ es → 0 < m → h.readG ⟨b,o + i.toNat * es + k,none⟩ m = some (((enc (gt l i)).drop k).take m):=by
 have hl:=p.len
 have hm : ∀ k m,k + m ≤ es → i.toNat * es + k + m ≤ n * es:=fun k m hk => by
  have : (i.toNat + 1) * es ≤ n * es:=Nat.mul_le_mul_right _ (by omega)
  rw [Nat.add_mul] at this
  omega
 obtain ⟨b,o,h1,h2,_⟩:=p.cells.at (i:=i.toNat * es + 0) (m:=es) (hm 0 es (by omega)) p.pos
 refine ⟨b,o,h1,h2,fun k m hk hp => ?_⟩
 obtain ⟨b',o',h1',_,h3'⟩:=p.cells.at (i:=i.toNat * es + k) (m:=m) (hm k m hk) hp
 rw [h1] at h1'
 cases h1'
 rw [Nat.add_assoc,h3',flatE_drop p.each l i.toNat (by omega) k m hk]
 rfl
theorem Own.rows {α : Type} {enc : α → List Value} {es : Nat} {h : AHeap} {b : Nat} {l : List α} (c : Own h b es (l.flatMap enc)) (he : ∀ x,(enc x).length = es) (hp : 0 < es) (hb : b < h.next) : Rows enc es h (some ⟨b,0,none⟩) l.length l:=by
 refine ⟨⟨rfl,hb,?_⟩,he,hp⟩
 have:=c.readG (o:=0) (n:=l.length * es) (by rw [flatE_len he];omega)
 rw [this,List.drop_zero,List.take_of_length_le (by rw [flatE_len he];omega)]
theorem Own.setRow {α : Type} [Inhabited α] {enc : α → List Value} {es : Nat} {h : AHeap} {b : Nat} {l : List α} (c : Own h b es (l.flatMap enc)) (he : ∀ x,(enc x).length = es) {i : Nat} (hi : i < l.length) (x : α) : ∃ h',h.write b (i * es) (enc x) = some h' ∧ Own h' b es ((l.set i x).flatMap enc) ∧ Wrote h h' b:=by
 have hle : (i + 1) * es ≤ l.length * es:=Nat.mul_le_mul_right _ (by omega)
 rw [Nat.add_mul] at hle
 obtain ⟨h',w1,w2,w3⟩:=c.write (o:=i * es) (vs:=enc x) (by rw [flatE_len he,he];omega)
 refine ⟨h',w1,?_,w3⟩
 have e : ∀ (l : List α) (i : Nat),i < l.length → (l.flatMap enc).take (i * es) ++ (enc x ++ (l.flatMap enc).drop (i * es + (enc x).length)) = (l.set i x).flatMap enc:=by
  intro l
  induction l with
  | nil => intro i hi;simp at hi
  | cons c l ih =>
   intro i hi
   cases i with
   | zero =>
    rw [List.set_cons_zero,List.flatMap_cons,List.flatMap_cons,Nat.zero_mul,Nat.zero_add,List.take_zero,List.nil_append,he,← he c,List.drop_left]
   | succ i =>
    rw [List.set_cons_succ,List.flatMap_cons,List.flatMap_cons,show (i + 1) * es = (enc c).length + i * es by rw [he,Nat.add_mul];omega,List.take_length_add_append,Nat.add_assoc,List.drop_length_add_append,List.append_assoc]
    rw [ih i (by simpa using hi)]
 rw [← e l i hi]
 exact w2
end Go.Proofs.YtkbgkjlgnmlghaaGreat
namespace Go.Proofs.YtkbgkjlgnmlghaaGreat
open Go.Sim
set_option linter.unusedVariables false
set_option maxRecDepth 100000
def rq (n d : Int) : Rat:=(n : Rat) / (d : Rat)
theorem okF.is {n d : Int} (h : okF n d) : isF n d (rq n d):=by
 obtain ⟨q,hq⟩:=h
 have:=hq.val
 unfold rq
 rw [← this]
 exact hq
theorem isF.rq {n d : Int} {q : Rat} (h : isF n d q) : rq n d = q:=h.val.symm
theorem isF.ok {n d : Int} {q : Rat} (h : isF n d q) : okF n d:=⟨q,h⟩
theorem isF_int {n : Int} (h0 : -1000000000000000000 ≤ n) (h1 : n ≤ 1000000000000000000) : isF n 1 (n : Rat):=⟨(Rat.num_intCast n).symm,by rw [Rat.den_intCast];rfl,by rw [Rat.num_intCast];exact h0,by rw [Rat.num_intCast];exact h1,by rw [Rat.den_intCast];decide⟩
theorem cmpIs_of {n d m e c r : Int} {p q : Rat} (hp : isF n d p) (hq : isF m e q) (k : CmpIs n d m e c r) : c = cmpF p q ∧ r = 0:=by
 rcases k with ⟨w,_⟩ | ⟨p',q',hp',hq',k1,k2⟩
 ·exact absurd ⟨⟨p,hp⟩,⟨q,hq⟩⟩ w
 ·obtain rfl:=hp.uniq hp'
  obtain rfl:=hq.uniq hq'
  exact ⟨k1,k2⟩
theorem opIs_of {f : Rat → Rat → Rat} {n d m e a b r : Int} {p q : Rat} (hp : isF n d p) (hq : isF m e q) (hf : fits (f p q)) (k : OpIs f n d m e a b r) : isF a b (f p q) ∧ r = 0:=by
 rcases k with ⟨w,_⟩ | ⟨p',q',hp',hq',k⟩
 ·exact absurd ⟨⟨p,hp⟩,⟨q,hq⟩⟩ w
 ·obtain rfl:=hp.uniq hp'
  obtain rfl:=hq.uniq hq'
  rcases k with ⟨_,rfl,rfl,rfl⟩ | ⟨w,_⟩
  ·exact ⟨⟨rfl,rfl,hf⟩,rfl⟩
  ·exact absurd hf w
theorem lt_int {n d m : Int} {q : Rat} (h : isF n d q) : q < (m : Rat) ↔ n < m * d:=by
 rw [Rat.lt_iff,← h.1,← h.2.1,Rat.num_intCast,Rat.den_intCast]
 show n * 1 < m * d ↔ _
 rw [Int.mul_one]
variable {F : Prims} {call head arith cmp scmp bnot bsame conv neg imax imin ofNat slen place inR nz geZ rd wr push next mkOK nat zeros sadd eqAgg cut slc sslc strAt part app cpy putAt fresh lowered bump wrote addN lt ne fpAll fpApp brk yn rng mget mput mnew bytes clr : _} (hA : AP F ⟨call,head,arith,cmp,scmp,bnot,bsame,conv,neg,imax,imin,ofNat,slen,place,inR,nz,geZ,rd,wr,push,next,mkOK,nat,zeros,sadd,eqAgg,cut,slc,sslc,strAt,part,app,cpy,putAt,fresh,lowered,bump,wrote,addN,lt,ne,fpAll,fpApp,brk,yn,rng,mget,mput,mnew,bytes,clr⟩)
include hA
theorem of_ok' {h : AHeap} (hlow : h.low ≤ h.next) {n : Int} {Q : Value → AHeap → Prop} (hQ : Q (.agg #[.int .i64 n,.int .i64 1]) h) : call 59 [.int .i64 n] h Q:=by
 refine hA.bodyR Tryz.func59 r59_ok (hA.alike _ _ _ rfl) hlow (zc ?_)
 exact hQ
theorem floor0_ok {h : AHeap} (hlow : h.low ≤ h.next) {n d : Int} (hn : i64 n) (n0 : -9223372036854775808 < n) (hd : 0 < d) {Q : Value → AHeap → Prop} (hQ : Q (.int .i64 (n / d)) h) : call 73 [.int .i64 n,.int .i64 d] h Q:=by
 unfold i64 at hn
 have t0:=Int.natAbs_tdiv_le_natAbs n d
 refine hA.bodyR Tryz.func73 r73_ok (hA.alike _ _ _ rfl) hlow (zc ?_)
 have e1 : arith .quo .i64 n d = n.tdiv d:=by rw [e_quo hA,wrap64 (by omega) (by omega)]
 have e2 : arith .rem .i64 n d = n.tmod d:=e_rem hA _ _ _
 have key:=Int.mul_tdiv_add_tmod n d
 have lt1 : -d < n.tmod d:=Int.lt_tmod_of_pos n hd
 have lt2 : n.tmod d < d:=Int.tmod_lt_of_pos n hd
 generalize n.tdiv d = t at *
 generalize n.tmod d = s at *
 have ed:=Int.mul_ediv_add_emod n d
 have m0:=Int.emod_nonneg n (show d ≠ 0 by omega)
 have m1:=Int.emod_lt_of_pos n hd
 (refine zq ?_;repeat ((first | rw [e1] | rw [e2]);refine zq ?_))
 refine br (s < 0) (by rw [e_lss hA]) (fun c => ?_) (fun c => ?_) <;> refine zc ?_
 ·have e3 : t - 1 = n / d:=by
   have w : s + d + d * (t - 1) = n:=by rw [Int.mul_sub,Int.mul_one];omega
   exact ((Int.ediv_emod_unique hd).2 ⟨w,by omega,by omega⟩).1.symm
  have t1 : -9223372036854775808 ≤ t - 1:=by omega
  rw [sub64 hA (by omega) (by omega),e3]
  exact hQ
 ·have e3 : t = n / d:=((Int.ediv_emod_unique (r:=s) hd).2 ⟨by omega,by omega,by omega⟩).1.symm
  rw [e3]
  exact hQ
theorem floor_ok {h : AHeap} (hlow : h.low ≤ h.next) {n d : Int} {q : Rat} (hq : isF n d q) {Q : Value → AHeap → Prop} (hQ : ∀ h',Ext h h' → Q (.tuple #[.int .i64 (n / d),.int .i64 0]) h') : call 48 [.agg #[.int .i64 n,.int .i64 d]] h Q:=by
 have d1:=hq.den
 have n1:=hq.2.2.1
 rw [← hq.1] at n1
 refine hA.bodyR Tryz.func48 r48_ok (hA.alike _ _ _ rfl) hlow (zc ?_)
 refine check_ok hA hlow hq.i64n hq.i64d (fun e h1 k1 x1 => ⟨_,rfl,?_⟩)
 obtain rfl : e = 0:=by
  rcases k1 with ⟨q,_⟩ | ⟨_,w⟩
  ·exact q
  ·exact absurd hq.ok w
 refine zc ?_
 refine br False (by rw [e_neq hA];rfl) (fun q => q.elim) (fun _ => ?_) <;> refine zc ?_
 refine floor0_ok hA (x1.lowOK hlow) hq.i64n (by omega) (by omega) ⟨_,rfl,?_⟩
 refine zc ?_
 exact hQ _ x1
end Go.Proofs.YtkbgkjlgnmlghaaGreat
