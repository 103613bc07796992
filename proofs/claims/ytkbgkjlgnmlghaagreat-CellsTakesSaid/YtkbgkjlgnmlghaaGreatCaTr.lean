import Derived.Test.YtkbgkjlgnmlghaaGreatCaW
import Derived.Test.YtkbgkjlgnmlghaaGreatCaX
set_option linter.unusedSimpArgs false
set_option linter.unusedVariables false
namespace Go.Proofs.YtkbgkjlgnmlghaaGreat
open Go.Sim
set_option linter.unusedVariables false
set_option maxRecDepth 100000
noncomputable def plusV (s : Ck) (z : Cq) : Option Ck:=(mkCk z).bind fun p => mkCk (s.val.add p.val)
theorem plusV_ok {s k : Ck} {z : Cq} (h : plusV s z = some k) : k.ok ∧ k.val = s.val.add z:=by
 unfold plusV at h
 cases e : mkCk z with
 | none => rw [e] at h;cases h
 | some p =>
  rw [e] at h
  have h1:=mkCk_some.1 e
  have h2:=mkCk_some.1 (show mkCk (s.val.add p.val) = some k from h)
  exact ⟨⟨_,h2⟩,by rw [h2.val,h1.val]⟩
noncomputable def term (p : Ck × Ck) : Cq:=p.1.val.mul p.2.val.conj
noncomputable def dotS (L : List (Ck × Ck)) (s : Ck) : Option Ck:=L.foldlM (fun s p => plusV s (term p)) s
theorem dotS_append (a b : List (Ck × Ck)) (s : Ck) : dotS (a ++ b) s = (dotS a s).bind (dotS b):=by unfold dotS;rw [List.foldlM_append];rfl
theorem dotS_one (p : Ck × Ck) (s : Ck) : dotS [p] s = plusV s (term p):=by unfold dotS;rw [List.foldlM_cons];cases plusV s (term p) <;> rfl
theorem zip_take {v w : List Ck} {i : Int} (i0 : 0 ≤ i) (i1 : i < v.length) (i2 : i < w.length) : (v.zip w).take (i + 1).toNat = (v.zip w).take i.toNat ++ [(gt v i,gt w i)]:=by
 have e : (i + 1).toNat = i.toNat + 1:=by omega
 rw [e,List.take_add_one,List.getElem?_eq_getElem (by rw [List.length_zip];omega),List.getElem_zip]
 unfold gt
 rw [List.getD_eq_getElem?_getD,List.getD_eq_getElem?_getD,List.getElem?_eq_getElem (by omega),List.getElem?_eq_getElem (by omega)]
 rfl
theorem isC_conj {a b d : Int} {z : Cq} (h : isC a b d z) : isC a (-b) d z.conj:=by
 refine ⟨h.d1,h.d2,h.a1,h.a2,by have:=h.b2;omega,by have:=h.b1;omega,?_,h.re,?_⟩
 ·have : Int.gcd a (-b) = Int.gcd a b:=Int.gcd_neg
  rw [this];exact h.g
 ·show ((-b : Int) : Rat) = -z.im * (d : Rat)
  rw [Rat.intCast_neg,h.im];grind
variable {F : Prims} {call head arith cmp scmp bnot bsame conv neg imax imin ofNat slen place inR nz geZ rd wr push next mkOK nat zeros sadd eqAgg cut slc sslc strAt part app cpy putAt fresh lowered bump wrote addN lt ne fpAll fpApp brk yn rng mget mput mnew bytes clr : _} (hA : AP F ⟨call,head,arith,cmp,scmp,bnot,bsame,conv,neg,imax,imin,ofNat,slen,place,inR,nz,geZ,rd,wr,push,next,mkOK,nat,zeros,sadd,eqAgg,cut,slc,sslc,strAt,part,app,cpy,putAt,fresh,lowered,bump,wrote,addN,lt,ne,fpAll,fpApp,brk,yn,rng,mget,mput,mnew,bytes,clr⟩)
include hA
theorem kaddC_ok {h : AHeap} (hlow : h.low ≤ h.next) {s : Ck} (hs : s.ok) {a b d a' b' d' : Int} {z w : Cq} (hz : isC a b d z) (hw : isC a' b' d' w) {Q : Value → AHeap → Prop}
  (hQ : ∀ r t u e h',OutK (plusV s (z.mul w)) r t u e → Ext h h' → Q (.tuple #[.agg #[.int .i64 r,.int .i64 t,.int .i64 u],.int .i64 e]) h') :
  call 16 [.agg #[.int .i64 s.a,.int .i64 s.b,.int .i64 s.d],.agg #[.int .i64 a,.int .i64 b,.int .i64 d],.agg #[.int .i64 a',.int .i64 b',.int .i64 d']] h Q:=by
 refine hA.bodyR Tryz.func16 r16_ok (hA.alike _ _ _ rfl) hlow (zc ?_)
 refine cmul_ok hA hlow (fun r t u e h1 k1 x1 => ⟨_,_,_,_,rfl,?_⟩)
 have k1:=outK_of (k1.is hz hw)
 refine zc ?_
 refine br (e ≠ 0) (by rw [e_neq hA]) (fun c => ?_) (fun c => ?_) <;> refine zc ?_
 ·rcases k1 with ⟨_,_,_,_,_,q⟩ | ⟨q,_,_,_,q2⟩
  ·exact absurd q c
  ·rw [q2]
   exact hQ _ _ _ _ h1 (.inr ⟨by unfold plusV;rw [q];rfl,rfl,rfl,rfl,rfl⟩) x1
 rcases k1 with ⟨p,q,rfl,rfl,rfl,_⟩ | ⟨_,_,_,_,q⟩
 rotate_left
 ·omega
 have pk:=mkCk_some.1 q
 refine cadd_ok hA (x1.lowOK hlow) (fun r t u e h2 k2 x2 => ⟨_,_,_,_,rfl,?_⟩)
 have k2:=outK_of (k2.is hs.is pk)
 refine zc ?_
 refine hQ r t u e h2 ?_ (x1.trans x2)
 unfold plusV
 rw [q]
 show OutK (mkCk (s.val.add p.val)) r t u e
 rw [pk.val]
 exact k2
set_option maxHeartbeats 1000000 in
theorem dot_loop {h0 : AHeap} (hlow : h0.low ≤ h0.next) {va wa : Option Addr} {N vc wc : Nat} {v w : List Ck} (hv : Cs h0 va N v) (hw : Cs h0 wa N w) (okv : ValidL v) (okw : ValidL w) (hN : N ≤ 64) {NN : Int} (hNN : NN = N) {Q : Exit → SS → Prop}
  (hbad : ∀ h' e K,dotS (v.zip w) zeroK = none → Ext h0 h' → Q .ret ⟨(5,.int .i64 16) :: (65,.int .i64 16) :: (64,.agg #[.int .i64 0,.int .i64 0,.int .i64 0]) :: (4,.pointer (some ⟨0,0,some 0⟩)) :: e,4,(0,[.int .i64 0,.int .i64 0,.int .i64 0]) :: K,h'⟩)
  (hok : ∀ h' s,dotS (v.zip w) zeroK = some s → s.ok → Ext h0 h' → Q (.exit 0) ⟨[(4,.pointer (some ⟨0,0,some 0⟩)),(6,.pointer (some ⟨1,0,some 0⟩))],2,[(0,[.int .i64 0,.int .i64 0,.int .i64 0]),(1,[.int .i64 s.a,.int .i64 s.b,.int .i64 s.d])],h'⟩) :
  ∀ (m : Nat) (i : Int) (h : AHeap) (s : Ck),(N - i).toNat ≤ m → 0 ≤ i → i ≤ N → dotS ((v.zip w).take i.toNat) zeroK = some s → s.ok → Ext h0 h →
   head 8 9 2 ⟨[(1,.slice wa N wc),(4,.pointer (some ⟨0,0,some 0⟩)),(6,.pointer (some ⟨1,0,some 0⟩)),(36,.slice va N vc),(37,.int .i64 NN),(38,.int .i64 i)],2,[(0,[.int .i64 0,.int .i64 0,.int .i64 0]),(1,[.int .i64 s.a,.int .i64 s.b,.int .i64 s.d])],h⟩ Q:=by
 have lv:=hv.len
 have lw:=hw.len
 intro m
 induction m with
 | zero =>
  intro i h s hm i0 i1 hr hs' he
  refine hA.roundR Tryz.func8 r8_ok (zc ?_)
  refine br (i < NN) (by rw [e_lss hA]) (fun q => by omega) (fun _ => ?_) <;> refine zc ?_
  rw [List.take_of_length_le (by rw [List.length_zip];omega)] at hr
  exact hok h s hr hs' he
 | succ m ih =>
 intro i h s hm i0 i1 hr hs' he
 by_cases ci : i < N
 rotate_left
 ·refine hA.roundR Tryz.func8 r8_ok (zc ?_)
  refine br (i < NN) (by rw [e_lss hA]) (fun q => by omega) (fun _ => ?_) <;> refine zc ?_
  rw [List.take_of_length_le (by rw [List.length_zip];omega)] at hr
  exact hok h s hr hs' he
 obtain ⟨bv,ov,v1,v2,v3,ea,lv',hgv,rv1⟩:=cs_at (hv.ext he) (i:=i) i0 ci
 cases ea
 have rv1:=rd_ok hA rv1
 obtain ⟨bw,ow,w1,w2,w3,eb,lw',hgw,rw1⟩:=cs_at (hw.ext he) (i:=i) i0 ci
 cases eb
 have rw1:=rd_ok hA rw1
 have kv0:=(okv i i0 (by omega)).is
 have kw0:=(okw i i0 (by omega)).is
 have kv : isC v1 v2 v3 (gt v i).val:=by rw [hgv] at kv0 ⊢;exact kv0
 have kw : isC w1 w2 w3 (gt w i).val:=by rw [hgw] at kw0 ⊢;exact kw0
 refine hA.roundR Tryz.func8 r8_ok (zc ?_)
 refine br (i < NN) (by rw [e_lss hA]) (fun _ => ?_) (fun q => by omega) <;> refine zc ?_
 refine zq ?_
 refine cconj_ok hA (he.lowOK hlow) (fun r t u e h1 k1 x1 => ⟨_,_,_,_,rfl,?_⟩)
 have y1:=he.trans x1
 have kk : isC r t u (gt w i).val.conj ∧ e = 0:=by
  rcases k1 with ⟨q,_⟩ | ⟨_,rfl,rfl,rfl,rfl⟩
  ·exact absurd ⟨_,kw⟩ q
  ·exact ⟨isC_conj kw,rfl⟩
 obtain ⟨kc,rfl⟩:=kk
 refine zc ?_
 refine br False (by rw [e_neq hA];rfl) (fun q => q.elim) (fun _ => ?_) <;> refine zc ?_
 refine kaddC_ok hA (y1.lowOK hlow) hs' kv kc (fun r' t' u' e h2 k2 x2 => ⟨_,_,_,_,rfl,?_⟩)
 have y2:=y1.trans x2
 refine zc ?_
 have tk:=zip_take (v:=v) (w:=w) i0 (by omega) (by omega)
 have stepE : dotS [(gt v i,gt w i)] s = plusV s ((gt v i).val.mul (gt w i).val.conj):=dotS_one _ _
 have eqk : ∃ rest,v.zip w = (v.zip w).take i.toNat ++ (gt v i,gt w i) :: rest:=⟨(v.zip w).drop (i + 1).toNat,by
  rw [List.append_cons,← tk,List.take_append_drop]⟩
 rcases k2 with ⟨q,hq,rfl,rfl,rfl,rfl⟩ | ⟨hq,rfl,rfl,rfl,rfl⟩
 rotate_left
 ·refine br True (by rw [e_neq hA];rfl) (fun _ => ?_) (fun q => absurd trivial q) <;> refine zc ?_
  refine hbad h2 _ _ ?_ y2
  obtain ⟨rest,hrest⟩:=eqk
  rw [hrest,List.append_cons,dotS_append,dotS_append,hr]
  show ((dotS [_] s).bind _) = none
  rw [stepE,hq]
  rfl
 refine br False (by rw [e_neq hA];rfl) (fun q => q.elim) (fun _ => ?_) <;> refine zc ?_
 rw [add64 hA (by omega) (by omega)]
 refine ih (i + 1) h2 q (by omega) (by omega) (by omega) ?_ (plusV_ok hq).1 y2
 rw [tk,dotS_append,hr]
 show dotS [_] s = _
 rw [stepE,hq]
end Go.Proofs.YtkbgkjlgnmlghaaGreat
namespace Go.Proofs.YtkbgkjlgnmlghaaGreat
open Go.Sim
set_option linter.unusedVariables false
set_option maxRecDepth 100000
theorem flat_get {n : Nat} : ∀ (g : Gd) (y x : Nat),(∀ r,r ∈ g → r.length = n) → y < g.length → x < n → g.flatten.getD (y * n + x) default = (g.getD y default).getD x default
 | [],y,x,_,h,_ => by simp at h
 | r :: g,0,x,hr,_,hx => by
  have:=hr r (by simp)
  simp only [List.flatten_cons,Nat.zero_mul,Nat.zero_add,List.getD_cons_zero]
  rw [List.getD_eq_getElem?_getD,List.getElem?_append_left (by omega),← List.getD_eq_getElem?_getD]
 | r :: g,y + 1,x,hr,hy,hx => by
  have:=hr r (by simp)
  simp only [List.length_cons] at hy
  have ih:=flat_get g y x (fun q hq => hr q (by simp [hq])) (by omega) hx
  simp only [List.flatten_cons,List.getD_cons_succ]
  rw [List.getD_eq_getElem?_getD,Nat.add_mul,List.getElem?_append_right (by omega),← ih,List.getD_eq_getElem?_getD]
  congr 2
  omega
theorem flat_len {n : Nat} : ∀ (g : Gd),(∀ r,r ∈ g → r.length = n) → g.flatten.length = g.length * n
 | [],_ => by simp
 | r :: g,hr => by
  rw [List.flatten_cons,List.length_append,flat_len g (fun q hq => hr q (by simp [hq])),hr r (by simp),List.length_cons,Nat.add_mul];omega
theorem SqG.rows {n : Nat} {g : Gd} (h : SqG n g) : ∀ r,r ∈ g → r.length = n:=by
 intro r hr
 obtain ⟨i,hi,rfl⟩:=List.getElem_of_mem hr
 have:=h.row i (by omega) (by have:=h.len;omega)
 unfold gt at this
 rw [List.getD_eq_getElem?_getD,Int.toNat_natCast,List.getElem?_eq_getElem hi] at this
 exact this
theorem SqG.flen {n : Nat} {g : Gd} (h : SqG n g) : g.flatten.length = n * n:=by rw [flat_len g h.rows,h.len]
end Go.Proofs.YtkbgkjlgnmlghaaGreat
