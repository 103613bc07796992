import Derived.Test.YtmkiclinllifiaaCyL
import Derived.Test.YtmkiclinllifiaaCyU
set_option linter.unusedSimpArgs false
set_option linter.unusedVariables false
namespace Go.Proofs.Ytmkiclinllifiaa
open Go.Sim
set_option linter.unusedVariables false
set_option maxRecDepth 100000
def FindQ (T : List (Int × Int)) (x y but : Int) (h : AHeap) (Q : Value → AHeap → Prop) : Prop:=
 (findS T x y but = none → ∀ h',Ext h h' → Q (.slice none 0 0) h') ∧ ∀ r,findS T x y but = some r → ∀ h' a' c',r.length ≤ capLow c' → Rows iC 1 h' a' r.length r → From h.next a' → Ext h h' → Q (.slice a' r.length c') h'
theorem findS_len {T : List (Int × Int)} (hg : grows T = true) {x y but : Int} {r : List Int} (h : findS T x y but = some r) : 1 ≤ r.length ∧ r.length ≤ T.length + 1:=by
 unfold findS at h
 cases c : pathR T x y with
 | none => rw [c] at h;cases h
 | some p =>
  rw [c] at h
  simp only at h
  by_cases c2 : p.tail.head? = some but
  ·rw [if_pos c2] at h;cases h
  ·rw [if_neg c2] at h
   obtain rfl:=Option.some.inj h
   obtain ⟨⟨q,e⟩,_⟩:=path_ends hg c
   exact ⟨by rw [e];simp,path_len hg c⟩
theorem append_full3 {P : Program} {t t2 e es : Nat} (hT : SliceT P t e es) (ht2 : P.underlying t2 = some (.slice e)) {h : AHeap} {b n n2 c2 : Nat} {a2 : Option Addr} {cells news : List Value} (ho : Own h b es cells) (hb : b < h.next) (hl : cells.length = n * es) (hn : n ≤ 1000) (hs : Cells h a2 n2 es news) (hok : cells.all cellOK = true) (hok2 : news.all cellOK = true) (h0 : 0 < n2) (hbig : n2 ≤ 1000000) :
  appendH P h [t,t2] [.slice (some ⟨b,0,none⟩) n n,.slice a2 n2 c2] = some (.slice (some ⟨h.next,0,none⟩) (n + n2) (someCap es (n + n2)),h.push es (cells ++ news)):=by
 obtain ⟨by_,hby,hby2⟩:=hT.bytes
 obtain ⟨z,hz,hz2⟩:=hT.zero
 have hnl:=hs.length
 have hnews : newsA P h e es false (.slice a2 n2 c2) = some (n2,news):=by
  unfold newsA
  simp only [cond_false]
  cases a2 with
  | none => obtain ⟨rfl,rfl⟩:=hs;simp
  | some ad =>
   obtain ⟨h1,h2,h3⟩:=hs
   simp only [h3]
 have hcl : capLow n = n:=Nat.mod_eq_of_lt (by unfold slack;omega)
 unfold appendH
 simp only [hT.und,hT.size,hby,ht2,hz,isIntDesc,hnews]
 rw [hcl,ble_false (by omega)]
 simp only [cond_false]
 rw [ble_true (show n + n2 ≤ 1073741824 by omega),ble_true hby2,hok2,hz2,hnl]
 simp only [Bool.and_self,Nat.beq_refl,cond_true]
 have hr : h.readG ⟨b,0,none⟩ (n * es) = some cells:=by rw [ho.readG (by omega)];simp [← hl]
 simp only [hr]
 rw [blt_true (show n < slack by unfold slack;omega),hok]
 simp only [cond_true]
variable {F : Prims} {call head arith cmp scmp bnot bsame conv neg imax imin ofNat slen place inR nz geZ rd wr push next mkOK nat zeros sadd eqAgg cut slc sslc strAt part app cpy putAt fresh lowered bump wrote addN lt ne fpAll fpApp brk yn rng mget mput mnew bytes clr mrng ment : _} (hA : AP F ⟨call,head,arith,cmp,scmp,bnot,bsame,conv,neg,imax,imin,ofNat,slen,place,inR,nz,geZ,rd,wr,push,next,mkOK,nat,zeros,sadd,eqAgg,cut,slc,sslc,strAt,part,app,cpy,putAt,fresh,lowered,bump,wrote,addN,lt,ne,fpAll,fpApp,brk,yn,rng,mget,mput,mnew,bytes,clr,mrng,ment⟩)
include hA
theorem fd_loop {h0 : AHeap} (hlow : h0.low ≤ h0.next) {a : Option Addr} {n c : Nat} {t : List F2} (hl : Rows F2.cells 2 h0 a n t) (hn : n ≤ 8) (hok : ∀ p ∈ t,okP p.n p.d) (hg : grows (trT t) = true) {x y but : Int} (hxy : x ≠ y)
  (IH : ∀ v h1 Q,Adj (trT t) x v → v ≠ but → Ext h0 h1 → FindQ (trT t) v y x h1 Q → call 45 [.slice a n c,.int .i64 v,.int .i64 y,.int .i64 x] h1 Q) {Q : Exit → SS → Prop}
  (hno : findS (trT t) x y but = none → ∀ h',Ext h0 h' → ∀ e kn K,Q (.exit 0) ⟨e,kn,K,h'⟩)
  (hyes : ∀ r,findS (trT t) x y but = some r → ∀ h' a' c' rn,rn = r.length → rn ≤ capLow c' → Rows iC 1 h' a' rn r → From h0.next a' → Ext h0 h' → ∀ e kn K,Q .ret ⟨(8,.slice a' rn c') :: e,kn,K,h'⟩) :
  ∀ (m : Nat) (i : Int) (h : AHeap),(n - i).toNat ≤ m → 0 ≤ i → i ≤ n → (∀ v,Adj (trT (t.take i.toNat)) x v → v ≠ but → findS (trT t) v y x = none) → Ext h0 h →
   head 45 4 0 ⟨[(0,.slice a n c),(1,.int .i64 x),(2,.int .i64 y),(3,.int .i64 but),(9,.int .i64 i)],0,[],h⟩ Q:=by
 have hlen:=hl.len
 intro m
 induction m with
 | zero =>
  intro i h hm i0 i1 hv he
  refine hA.roundR Try.func45 r45_ok (zc ?_)
  refine br (i < n) (by rw [e_lss hA,e_ofNat hA]) (fun c1 => by omega) (fun c1 => ?_) <;> refine zc ?_
  rw [List.take_of_length_le (by omega)] at hv
  exact hno (find_none hg hxy hv) h he _ _ _
 | succ m ih =>
 intro i h hm i0 i1 hv he
 by_cases ci : i < n
 rotate_left
 ·refine hA.roundR Try.func45 r45_ok (zc ?_)
  refine br (i < n) (by rw [e_lss hA,e_ofNat hA]) (fun c1 => absurd c1 ci) (fun c1 => ?_) <;> refine zc ?_
  rw [List.take_of_length_le (by omega)] at hv
  exact hno (find_none hg hxy hv) h he _ _ _
 have e2 : arith .add .i64 i 1 = i + 1:=add64 hA (by omega) (by omega)
 obtain ⟨b,o,u,w,rfl,_,hgt,_,f0,f1⟩:=fr_at (hl.ext he) (i:=i) i0 ci
 have p1 : rd h b (addN (place o i 2) 0) 1 [.int .i64 u]:=rd_fld hA f0
 have p2 : rd h b (addN (place o i 2) 1) 1 [.int .i64 w]:=rd_fld hA f1
 have hmem : (⟨u,w⟩ : F2) ∈ t:=by rw [← hgt];exact gt_mem t i0 (by omega)
 obtain ⟨u0,u1,w0,w1,_⟩:=(hok _ hmem).is
 simp only at u0 u1 w0 w1
 have auw : Adj (trT t) u w:=.inl (trT_mem.2 hmem)
 have huw : u ≠ w:=adj_ne hg auw
 have htk:=gt_take t i0 (by omega)
 rw [hgt] at htk
 have nxt : (∀ v,(u = x ∧ v = w) ∨ (w = x ∧ v = u) → v ≠ but → findS (trT t) v y x = none) → ∀ v,Adj (trT (t.take (i + 1).toNat)) x v → v ≠ but → findS (trT t) v y x = none:=fun hn v ha hb => by
  have old : ∀ q : F2,q ∈ t.take (i + 1).toNat → q ∈ t.take i.toNat ∨ q = ⟨u,w⟩:=fun q hq => by
   rw [htk] at hq
   exact (List.mem_append.1 hq).imp id List.mem_singleton.1
  rcases ha with ha | ha
  ·rcases old _ (trT_mem.1 ha) with z | z
   ·exact hv v (.inl (trT_mem.2 z)) hb
   ·have z1 : x = u:=congrArg F2.n z
    have z2 : v = w:=congrArg F2.d z
    exact hn v (.inl ⟨z1.symm,z2⟩) hb
  ·rcases old _ (trT_mem.1 ha) with z | z
   ·exact hv v (.inr (trT_mem.2 z)) hb
   ·have z1 : v = u:=congrArg F2.n z
    have z2 : x = w:=congrArg F2.d z
    exact hn v (.inr ⟨z2.symm,z1⟩) hb
 refine hA.roundR Try.func45 r45_ok (zc ?_)
 refine br (i < n) (by rw [e_lss hA,e_ofNat hA]) (fun c1 => ?_) (fun c1 => absurd ci c1) <;> refine zc ?_
 refine zq ?_
 refine br (u = x) (by rw [e_eql hA]) (fun c2 => ?_) (fun c2 => ?_) <;> refine zc ?_
 ·refine zq ?_
  refine br (w = x) (by rw [e_eql hA]) (fun c3 => absurd (c2.trans c3.symm) huw) (fun c3 => ?_) <;> refine zc ?_
  obtain ⟨nx,hnx⟩ : ∃ z,z = w:=⟨_,rfl⟩
  have nn : 0 ≤ nx:=by omega
  have an : Adj (trT t) x nx:=by rw [hnx,← c2];exact auw
  have nxt' : (nx ≠ but → findS (trT t) nx y x = none) → ∀ v,Adj (trT (t.take (i + 1).toNat)) x v → v ≠ but → findS (trT t) v y x = none:=fun hf => nxt (fun v hv' hb => by
   rcases hv' with ⟨_,z⟩ | ⟨z,_⟩
   ·rw [z,← hnx];exact hf (by rw [hnx,← z];exact hb)
   ·exact absurd z c3)
  rw [← hnx]
  refine br (nx < 0) (by rw [e_lss hA]) (fun c4 => by omega) (fun c4 => ?_) <;> refine zc ?_
  refine br (nx = but) (by rw [e_eql hA]) (fun c5 => ?_) (fun c5 => ?_) <;> refine zc ?_
  ·rw [e2]
   exact ih (i + 1) h (by omega) (by omega) (by omega) (nxt' (fun q => absurd c5 q)) he
  refine IH nx h _ an c5 he ⟨fun hf h' x' => ?_,fun r hf h' a' c' _ hr hfr x' => ?_⟩
  ·refine ⟨_,_,_,rfl,?_⟩
   refine zc ?_
   refine br ((0 : Int) < 0) (by rw [e_gtr hA,e_ofNat hA];rfl) (fun c6 => by omega) (fun c6 => ?_) <;> refine zc ?_
   rw [e2]
   exact ih (i + 1) h' (by omega) (by omega) (by omega) (nxt' (fun _ => hf)) (he.trans x')
  ·refine ⟨_,_,_,rfl,?_⟩
   obtain ⟨rn,hrn⟩ : ∃ z,z = r.length:=⟨_,rfl⟩
   have hrl:=findS_len hg hf
   rw [← hrn] at hr hrl ⊢
   refine zc ?_
   refine br (0 < rn) (by rw [e_gtr hA,e_ofNat hA];simp) (fun c6 => ?_) (fun c6 => by omega) <;> refine zc ?_
   simp only [e_next hA,e_push hA]
   have ex:=Ext.push h' 1 [.int .i64 x]
   have ox:=Own.push h' 1 [.int .i64 x]
   have nxx : (h'.push 1 [.int .i64 x]).next = h'.next + 1:=rfl
   generalize h'.push 1 [.int .i64 x] = hY at *
   obtain ⟨bx,hbx⟩ : ∃ z,z = h'.next:=⟨_,rfl⟩
   rw [← hbx] at ox ⊢
   have hfs:=find_step hg an c5 hf
   have htl : (trT t).length = t.length:=by unfold trT;simp
   have a9:=append_full3 (P:=Try.prog) (t2:=38) TI1 TI1.und (n:=1) ox (by omega) (by rfl) (by omega) (hr.ext ex).cells (c2:=c') (by rfl) (by exact all_flat iC_ok _) (by omega) (by omega)
   refine app_ok hA a9 ?_
   obtain ⟨c9,hc9⟩ : ∃ z,z = someCap 1 (1 + rn):=⟨_,rfl⟩
   rw [← hc9]
   have hcirc : [Value.int .i64 x] ++ r.flatMap iC = (x :: r).flatMap iC:=rfl
   rw [hcirc]
   obtain ⟨cn,hcn⟩ : ∃ q,q = 1 + rn:=⟨_,rfl⟩
   have lc : cn = (x :: r).length:=by rw [List.length_cons];omega
   rw [← hcn]
   have eg:=Ext.push hY 1 ((x :: r).flatMap iC)
   have og:=Own.push hY 1 ((x :: r).flatMap iC)
   have ng : (hY.push 1 ((x :: r).flatMap iC)).next = hY.next + 1:=rfl
   generalize hY.push 1 ((x :: r).flatMap iC) = hZ at *
   obtain ⟨bg,hbg⟩ : ∃ z,z = hY.next:=⟨_,rfl⟩
   rw [← hbg] at og ⊢
   have og2 : Rows iC 1 hZ (some ⟨bg,0,none⟩) cn (x :: r):=by rw [lc];exact Own.rows og iC_len (by omega) (by omega)
   have hxx:=he.trans x'
   exact hyes (x :: r) hfs hZ (some ⟨bg,0,none⟩) c9 cn lc (by rw [hc9,capLow_some (by unfold slack;omega)];omega) og2 (fun ad had => by cases had;have:=hxx.next;show h0.next ≤ bg;omega) (hxx.trans (ex.trans eg)) _ _ _
 ·refine zq ?_
  refine br (w = x) (by rw [e_eql hA]) (fun c3 => ?_) (fun c3 => ?_) <;> refine zc ?_
  rotate_left
  ·refine br ((-1 : Int) < 0) (by rw [e_lss hA]) (fun c4 => ?_) (fun c4 => by omega) <;> refine zc ?_
   rw [e2]
   exact ih (i + 1) h (by omega) (by omega) (by omega) (nxt (fun v hv' _ => by
    rcases hv' with ⟨z,_⟩ | ⟨z,_⟩
    ·exact absurd z c2
    ·exact absurd z c3)) he
  refine zq ?_
  obtain ⟨nx,hnx⟩ : ∃ z,z = u:=⟨_,rfl⟩
  have nn : 0 ≤ nx:=by omega
  have an : Adj (trT t) x nx:=by rw [hnx,← c3];exact auw.symm
  have nxt' : (nx ≠ but → findS (trT t) nx y x = none) → ∀ v,Adj (trT (t.take (i + 1).toNat)) x v → v ≠ but → findS (trT t) v y x = none:=fun hf => nxt (fun v hv' hb => by
   rcases hv' with ⟨z,_⟩ | ⟨_,z⟩
   ·exact absurd z c2
   ·rw [z,← hnx];exact hf (by rw [hnx,← z];exact hb))
  rw [← hnx]
  refine br (nx < 0) (by rw [e_lss hA]) (fun c4 => by omega) (fun c4 => ?_) <;> refine zc ?_
  refine br (nx = but) (by rw [e_eql hA]) (fun c5 => ?_) (fun c5 => ?_) <;> refine zc ?_
  ·rw [e2]
   exact ih (i + 1) h (by omega) (by omega) (by omega) (nxt' (fun q => absurd c5 q)) he
  refine IH nx h _ an c5 he ⟨fun hf h' x' => ?_,fun r hf h' a' c' _ hr hfr x' => ?_⟩
  ·refine ⟨_,_,_,rfl,?_⟩
   refine zc ?_
   refine br ((0 : Int) < 0) (by rw [e_gtr hA,e_ofNat hA];rfl) (fun c6 => by omega) (fun c6 => ?_) <;> refine zc ?_
   rw [e2]
   exact ih (i + 1) h' (by omega) (by omega) (by omega) (nxt' (fun _ => hf)) (he.trans x')
  ·refine ⟨_,_,_,rfl,?_⟩
   obtain ⟨rn,hrn⟩ : ∃ z,z = r.length:=⟨_,rfl⟩
   have hrl:=findS_len hg hf
   rw [← hrn] at hr hrl ⊢
   refine zc ?_
   refine br (0 < rn) (by rw [e_gtr hA,e_ofNat hA];simp) (fun c6 => ?_) (fun c6 => by omega) <;> refine zc ?_
   simp only [e_next hA,e_push hA]
   have ex:=Ext.push h' 1 [.int .i64 x]
   have ox:=Own.push h' 1 [.int .i64 x]
   have nxx : (h'.push 1 [.int .i64 x]).next = h'.next + 1:=rfl
   generalize h'.push 1 [.int .i64 x] = hY at *
   obtain ⟨bx,hbx⟩ : ∃ z,z = h'.next:=⟨_,rfl⟩
   rw [← hbx] at ox ⊢
   have hfs:=find_step hg an c5 hf
   have htl : (trT t).length = t.length:=by unfold trT;simp
   have a9:=append_full3 (P:=Try.prog) (t2:=38) TI1 TI1.und (n:=1) ox (by omega) (by rfl) (by omega) (hr.ext ex).cells (c2:=c') (by rfl) (by exact all_flat iC_ok _) (by omega) (by omega)
   refine app_ok hA a9 ?_
   obtain ⟨c9,hc9⟩ : ∃ z,z = someCap 1 (1 + rn):=⟨_,rfl⟩
   rw [← hc9]
   have hcirc : [Value.int .i64 x] ++ r.flatMap iC = (x :: r).flatMap iC:=rfl
   rw [hcirc]
   obtain ⟨cn,hcn⟩ : ∃ q,q = 1 + rn:=⟨_,rfl⟩
   have lc : cn = (x :: r).length:=by rw [List.length_cons];omega
   rw [← hcn]
   have eg:=Ext.push hY 1 ((x :: r).flatMap iC)
   have og:=Own.push hY 1 ((x :: r).flatMap iC)
   have ng : (hY.push 1 ((x :: r).flatMap iC)).next = hY.next + 1:=rfl
   generalize hY.push 1 ((x :: r).flatMap iC) = hZ at *
   obtain ⟨bg,hbg⟩ : ∃ z,z = hY.next:=⟨_,rfl⟩
   rw [← hbg] at og ⊢
   have og2 : Rows iC 1 hZ (some ⟨bg,0,none⟩) cn (x :: r):=by rw [lc];exact Own.rows og iC_len (by omega) (by omega)
   have hxx:=he.trans x'
   exact hyes (x :: r) hfs hZ (some ⟨bg,0,none⟩) c9 cn lc (by rw [hc9,capLow_some (by unfold slack;omega)];omega) og2 (fun ad had => by cases had;have:=hxx.next;show h0.next ≤ bg;omega) (hxx.trans (ex.trans eg)) _ _ _
theorem find_ok {a : Option Addr} {n c : Nat} {t : List F2} (hn : n ≤ 8) (hok : ∀ p ∈ t,okP p.n p.d) (hg : grows (trT t) = true) : ∀ (m : Nat) (x y but : Int) (h : AHeap),cntD (trT t) x but ≤ m → 0 ≤ x → x < 8 → h.low ≤ h.next → Rows F2.cells 2 h a n t → ∀ Q,FindQ (trT t) x y but h Q →
  call 45 [.slice a n c,.int .i64 x,.int .i64 y,.int .i64 but] h Q:=by
 intro m
 induction m with
 | zero =>
  intro x y but h hm x0 x8 hlow hl Q hQ
  have:=cntD_pos (T:=trT t) (but:=but) x0 x8
  omega
 | succ m ih =>
  intro x y but h hm x0 x8 hlow hl Q hQ
  refine hA.bodyR Try.func45 r45_ok (hA.alike _ _ _ rfl) hlow (zc ?_)
  refine br (x = y) (by rw [e_eql hA]) (fun c1 => ?_) (fun c1 => ?_) <;> refine zc ?_
  ·simp only [e_next hA,e_push hA]
   have og:=Own.push h 1 (([x] : List Int).flatMap iC)
   have:=Own.rows og iC_len (by omega) (by show h.next < h.next + 1;omega)
   refine hQ.2 [x] (by rw [← c1];exact findS_self _ _ _) _ _ _ (show 1 ≤ capLow 1 by decide) this (fun ad had => by cases had;exact Nat.le_refl _) (Ext.push _ _ _)
  ·refine fd_loop hA hlow hl hn hok hg c1 (fun v h1 Q' ha hb x1 hq => ?_) (fun hf h' x' e kn K => ?_) (fun r hf h' a' c' rn hrn hcap hr hfr x' e kn K => ?_) n 0 h (by omega) (by omega) (by omega) (fun v ha => by rcases ha with q | q <;> cases q) (.refl h)
   ·have hlt:=cntD_lt hg x0 x8 ha hb
    have hv : 0 ≤ v ∧ v < 8:=by
     rcases ha with q | q
     ·obtain ⟨_,_,z1,z2,_⟩:=(hok _ (trT_mem.1 q)).is;exact ⟨z1,z2⟩
     ·obtain ⟨z1,z2,_⟩:=(hok _ (trT_mem.1 q)).is;exact ⟨z1,z2⟩
    exact ih v y x h1 (by omega) hv.1 hv.2 (x1.lowOK hlow) (hl.ext x1) Q' hq
   ·refine zc ?_
    exact hQ.1 hf h' x'
   ·refine zc ?_
    subst hrn
    exact hQ.2 r hf h' a' c' hcap hr hfr x'
end Go.Proofs.Ytmkiclinllifiaa
