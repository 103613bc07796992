import Derived.Test.YtkbgkjlgnmlghaaGreatCmpA
import Derived.Test.YtkbgkjlgnmlghaaGreatSortH
import Derived.Test.YtkbgkjlgnmlghaaGreatSymFacts
import Derived.Test.YtkbgkjlgnmlghaaGreatCaF
import Derived.Test.YtkbgkjlgnmlghaaGreatCxR
set_option linter.unusedSimpArgs false
set_option linter.unusedVariables false
namespace Go.Proofs.YtkbgkjlgnmlghaaGreat
open Go.Sim
set_option linter.unusedVariables false
set_option maxRecDepth 100000
variable {F : Prims} {call head arith cmp scmp bnot bsame conv neg imax imin ofNat slen place inR nz geZ rd wr push next mkOK nat zeros sadd eqAgg cut slc sslc strAt part app cpy putAt fresh lowered bump wrote addN lt ne fpAll fpApp brk yn rng mget mput mnew bytes clr : _} (hA : AP F ⟨call,head,arith,cmp,scmp,bnot,bsame,conv,neg,imax,imin,ofNat,slen,place,inR,nz,geZ,rd,wr,push,next,mkOK,nat,zeros,sadd,eqAgg,cut,slc,sslc,strAt,part,app,cpy,putAt,fresh,lowered,bump,wrote,addN,lt,ne,fpAll,fpApp,brk,yn,rng,mget,mput,mnew,bytes,clr⟩)
include hA
theorem appK_ok {t e es : Nat} (hT : SliceT Tryz.prog t e es) {α : Type} {enc : α → List Value} (he : ∀ x,(enc x).length = es) (hp0 : 0 < es) (hok : ∀ x,(enc x).all cellOK = true) {h : AHeap} {a : Option Addr} {n c : Nat} {l : List α} {v : α} (hp : Apd h es a n c (l.flatMap enc)) (hn : n ≤ 100000) {C : Option Addr → Nat → Nat → AHeap → Prop}
  (hC : ∀ b' h',Apd h' es (some ⟨b',0,none⟩) (n + 1) (someCap es (n + 1)) ((l ++ [v]).flatMap enc) → (∀ h0,Ext h0 h → From h0.next a → Ext h0 h') → h.next < h'.next → h.next < b' → (∀ i,i < h.next → (∀ ad,a = some ad → ad.block ≠ i) → h'.m.get i = h.m.get i) → C (some ⟨b',0,none⟩) (n + 1) (someCap es (n + 1)) h') :
  app [t,t] [.slice a n c,.slice (some ⟨next h,0,none⟩) 1 1] (push h es (enc v)) C:=by
 rw [e_app hA,e_push hA,e_next hA]
 have hs : Cells (h.push es (enc v)) (some ⟨h.next,0,none⟩) 1 es (enc v):=⟨rfl,by simp [AHeap.push],by rw [(Own.push h es _).readG (by rw [he];omega),List.drop_zero,List.take_of_length_le (by rw [he];omega)]⟩
 obtain ⟨a',c',h',h1,h2,h3,h4,h5,h6⟩:=append_keep hT hT.und (c2:=1) (hp.ext (.push h es (enc v))) hs (all_flat hok l) (hok v) (by omega) (by omega)
 rcases h2 with ⟨_,w,_⟩ | ⟨b',rfl,rfl,w1,w2,w3⟩
 ·omega
 have nx : (h.push es (enc v)).next = h.next + 1:=rfl
 refine ⟨_,n + 1,_,h',h1,hC b' h' (.inr ⟨b',rfl,rfl,w1,by rw [flatE_len he];simp only [List.length_append,List.length_cons,List.length_nil];have:=hp.cells.length;rw [flatE_len he] at this;rw [Nat.eq_of_mul_eq_mul_right hp0 this],?_⟩) (fun h0 e0 f0 => (h3 h0 (e0.trans (.push _ _ _)) f0).1) (by omega) (by have:=h5 _ rfl;simp only at this;omega) (fun i hi ha => ?_)⟩
 ·simpa using w3
 ·rw [h6 i (by omega) ha]
  exact (Ext.push h es (enc v)).get i hi
end Go.Proofs.YtkbgkjlgnmlghaaGreat
namespace Go.Proofs.YtkbgkjlgnmlghaaGreat
open Go.Sim
variable {F : Prims} {call head arith cmp scmp bnot bsame conv neg imax imin ofNat slen place inR nz geZ rd wr push next mkOK nat zeros sadd eqAgg cut slc sslc strAt part app cpy putAt fresh lowered bump wrote addN lt ne fpAll fpApp brk yn rng mget mput mnew bytes clr : _} (hA : AP F ⟨call,head,arith,cmp,scmp,bnot,bsame,conv,neg,imax,imin,ofNat,slen,place,inR,nz,geZ,rd,wr,push,next,mkOK,nat,zeros,sadd,eqAgg,cut,slc,sslc,strAt,part,app,cpy,putAt,fresh,lowered,bump,wrote,addN,lt,ne,fpAll,fpApp,brk,yn,rng,mget,mput,mnew,bytes,clr⟩)
include hA
theorem fp_old {h h' : AHeap} {b lim : Nat} (hw : wrote h h' = false) (hb : b < lim) : fpAll false (wrote h h') false b lim:=by
 rw [e_fpAll hA]
 exact ⟨rfl,hw,.inr hb⟩
end Go.Proofs.YtkbgkjlgnmlghaaGreat
namespace Go.Proofs.YtkbgkjlgnmlghaaGreat
open Go.Sim
set_option linter.unusedVariables false
set_option maxRecDepth 100000
noncomputable def Ck.val (k : Ck) : Cq:=⟨(k.a : Rat) / (k.d : Rat),(k.b : Rat) / (k.d : Rat)⟩
theorem isC.val {k : Ck} {z : Cq} (h : isC k.a k.b k.d z) : k.val = z:=by
 have hd : (k.d : Rat) ≠ 0:=ratne (by have:=h.d1;omega)
 refine Cq.ext (cancelQ hd ?_) (cancelQ hd ?_)
 ·show (k.a : Rat) / (k.d : Rat) * (k.d : Rat) = _
  rw [← h.re,Rat.div_def,Rat.mul_assoc,Rat.inv_mul_cancel _ hd,Rat.mul_one]
 ·show (k.b : Rat) / (k.d : Rat) * (k.d : Rat) = _
  rw [← h.im,Rat.div_def,Rat.mul_assoc,Rat.inv_mul_cancel _ hd,Rat.mul_one]
theorem Ck.ok.is {k : Ck} (h : k.ok) : isC k.a k.b k.d k.val:=by
 obtain ⟨z,hz⟩:=h
 rw [hz.val]
 exact hz
open Classical in
noncomputable def mkCk (z : Cq) : Option Ck:=if h : ∃ k : Ck,isC k.a k.b k.d z then some h.choose else none
theorem mkCk_some {z : Cq} {k : Ck} : mkCk z = some k ↔ isC k.a k.b k.d z:=by
 unfold mkCk
 split
 ·rename_i h
  have c:=h.choose_spec
  constructor
  ·intro e;cases e;exact c
  ·intro hk
   obtain ⟨a,b,d⟩:=c.trip hk
   congr 1
   generalize h.choose = j at *
   cases j;cases k
   simp only at a b d
   rw [a,b,d]
 ·rename_i h
  constructor
  ·intro e;cases e
  ·intro hk;exact absurd ⟨k,hk⟩ h
theorem mkCk_none {z : Cq} : mkCk z = none ↔ ∀ a b d,¬ isC a b d z:=by
 constructor
 ·intro e a b d h
  have:=mkCk_some (k:=⟨a,b,d⟩).2 h
  rw [e] at this;cases this
 ·intro h
  cases e : mkCk z with
  | none => rfl
  | some k => exact absurd (mkCk_some.1 e) (h _ _ _)
def OutK (o : Option Ck) (r s t e : Int) : Prop:=(∃ k,o = some k ∧ r = k.a ∧ s = k.b ∧ t = k.d ∧ e = 0) ∨ (o = none ∧ r = 0 ∧ s = 0 ∧ t = 0 ∧ e = 16)
theorem outK_of {z : Cq} {r s t e : Int} (h : outC z r s t e) : OutK (mkCk z) r s t e:=by
 rcases h with ⟨h,rfl⟩ | ⟨h,h1,h2,h3,h4⟩
 ·exact .inl ⟨⟨r,s,t⟩,mkCk_some.2 h,rfl,rfl,rfl,rfl⟩
 ·exact .inr ⟨mkCk_none.2 h,h1,h2,h3,h4⟩
noncomputable def plusF (s : Ck) (w : Rat) (v : Ck) : Option Ck:=(mkCk ((Cq.real w).mul v.val)).bind fun p => mkCk (s.val.add p.val)
theorem plusF_ok {s : Ck} {w : Rat} {v k : Ck} (h : plusF s w v = some k) : k.ok ∧ k.val = s.val.add ((Cq.real w).mul v.val):=by
 unfold plusF at h
 cases e : mkCk ((Cq.real w).mul v.val) with
 | none => rw [e] at h;cases h
 | some p =>
  rw [e] at h
  have h1:=mkCk_some.1 e
  have h2:=mkCk_some.1 (show mkCk (s.val.add p.val) = some k from h)
  exact ⟨⟨_,h2⟩,by rw [h2.val,h1.val]⟩
def zeroK : Ck:=⟨0,0,1⟩
theorem zeroK_ok : zeroK.ok:=(okC_iff _ _ _).2 ⟨by decide,by decide,by decide,by decide,by decide,by decide,by decide⟩
abbrev Gd:=List (List Ck)
structure SqG (n : Nat) (g : Gd) : Prop where
 len : g.length = n
 row : ∀ y : Int,0 ≤ y → y < n → (gt g y).length = n
 ok : ∀ y x : Int,0 ≤ y → y < n → 0 ≤ x → x < n → (gt (gt g y) x).ok
noncomputable def gridStep (g : Gd) (c : Pk × Ck) : Option Gd:=(plusF (gt (gt g c.1.y) c.1.x) c.1.w c.2).map fun k => g.set c.1.y.toNat ((gt g c.1.y).set c.1.x.toNat k)
noncomputable def run (cs : List (Pk × Ck)) (g : Gd) : Option Gd:=cs.foldlM gridStep g
def ValidL (v : List Ck) : Prop:=∀ i : Int,0 ≤ i → i < v.length → (gt v i).ok
end Go.Proofs.YtkbgkjlgnmlghaaGreat
