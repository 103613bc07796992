import Derived.Test.YtcdoknkgbnaefaaThP
import Derived.Test.YtcdoknkgbnaefaaTake
import Derived.Test.YtcdoknkgbnaefaaSymRows
import Derived.Test.YtcdoknkgbnaefaaFracR
import Derived.Test.YtcdoknkgbnaefaaFracA
set_option linter.unusedSimpArgs false
set_option linter.unusedVariables false
namespace Go.Proofs.Ytcdoknkgbnaefaa
open Go.Sim
set_option linter.unusedVariables false
set_option maxRecDepth 100000
theorem takeV_eq {t x : Int} (t1 : 1 ≤ t) : takeV t x = if x ≤ -t then -3 else if x < 0 then -1 else if x < t then 1 else 3:=by
 unfold takeV big
 split <;> split <;> (repeat' split) <;> omega
theorem levE_zero0 {l : List Int} (h : levE l = 0) : l.length ≤ 256 ∧ l.all lev = true:=by
 unfold levE at h
 split at h
 ·omega
 split at h
 ·rename_i h1 h2;exact ⟨by omega,h2⟩
 ·omega
theorem gt_at' (l : List Int) (i : Int) : gt l i = at' l i:=rfl
def okPart (a b : Int) (p : Rat) : Prop:=isF a b p ∧ 0 ≤ a ∧ a ≤ b
def ThrIs (l : List Int) (a b t e : Int) : Prop:=
 (levE l ≠ 0 ∧ t = 0 ∧ e = levE l) ∨ (levE l = 0 ∧ (¬ ∃ p,okPart a b p) ∧ t = 0 ∧ e = 8) ∨ (levE l = 0 ∧ ∃ p,okPart a b p ∧ ThrOk l p t e)
theorem okPart.le {a b : Int} {p : Rat} (h : okPart a b p) : 0 ≤ p ∧ p ≤ 1:=by
 obtain ⟨⟨h1,h2,_⟩,h3,h4⟩:=h
 constructor
 ·rw [← Rat.num_nonneg];omega
 ·rw [Rat.le_iff];simp only [Rat.num_ofNat,Rat.den_ofNat];omega
theorem cmp_part {k n : Int} (n0 : 0 < n) {p : Rat} : 0 ≤ cmpF ((k : Rat) / (n : Rat)) p ↔ (n : Rat) * p ≤ (k : Rat):=by
 have hn : (0 : Rat) < (n : Rat):=by exact_mod_cast n0
 have e : 0 ≤ cmpF ((k : Rat) / (n : Rat)) p ↔ ¬ ((k : Rat) / (n : Rat) < p):=by rw [← cmpF_lt];omega
 rw [e,Rat.not_lt]
 constructor
 ·intro h
  have:=Rat.mul_le_mul_of_nonneg_left h (Rat.le_of_lt hn)
  rwa [Rat.mul_comm (n : Rat) ((k : Rat) / n),Rat.div_mul_cancel (by intro q;rw [q] at hn;exact absurd hn (by decide))] at this
 ·intro h
  refine Rat.le_of_mul_le_mul_left (c:=(n : Rat)) ?_ hn
  rw [Rat.mul_comm (n : Rat) ((k : Rat) / n),Rat.div_mul_cancel (by intro q;rw [q] at hn;exact absurd hn (by decide))]
  exact h
theorem part_fits {k n : Int} (k0 : 0 ≤ k) (k1 : k ≤ 300) (n0 : 0 < n) (n1 : n ≤ 300) : fits ((k : Rat) / (n : Rat)):=by
 have a : bnd (k : Rat) 300 1:=⟨by rw [Rat.num_intCast];omega,by rw [Rat.den_intCast];omega⟩
 have b : bnd (n : Rat) 300 1:=⟨by rw [Rat.num_intCast];omega,by rw [Rat.den_intCast];omega⟩
 exact (a.div b (by omega)).fits (by omega) (by omega)
theorem outF_part {k n : Int} (k0 : 0 ≤ k) (k1 : k ≤ 300) (n0 : 0 < n) (n1 : n ≤ 300) {a b e : Int} (h : (n = 0 ∧ a = 0 ∧ b = 0 ∧ e = 18) ∨ (n ≠ 0 ∧ outF ((k : Rat) / (n : Rat)) a b e)) : isF a b ((k : Rat) / (n : Rat)) ∧ e = 0:=by
 rcases h with ⟨q,_⟩ | ⟨_,h⟩
 ·omega
 ·rcases h with ⟨w,q1,q2,q3⟩ | ⟨w,_⟩
  ·exact ⟨⟨q1,q2,w⟩,q3⟩
  ·exact absurd (part_fits k0 k1 n0 n1) w
theorem isF.i64 {a b : Int} {p : Rat} (h : isF a b p) : i64 a ∧ i64 b:=by
 obtain ⟨h1,h2,h3,h4,h5⟩:=h
 unfold Go.Proofs.Ytcdoknkgbnaefaa.i64
 omega
variable {F : Prims} {call head arith cmp scmp bnot bsame conv neg imax imin ofNat slen place inR nz geZ rd wr push next mkOK nat zeros sadd eqAgg cut slc sslc strAt part app cpy putAt fresh lowered bump wrote addN lt ne fpAll fpApp brk yn rng mget mput mnew bytes clr : _} (hA : AP F ⟨call,head,arith,cmp,scmp,bnot,bsame,conv,neg,imax,imin,ofNat,slen,place,inR,nz,geZ,rd,wr,push,next,mkOK,nat,zeros,sadd,eqAgg,cut,slc,sslc,strAt,part,app,cpy,putAt,fresh,lowered,bump,wrote,addN,lt,ne,fpAll,fpApp,brk,yn,rng,mget,mput,mnew,bytes,clr⟩)
include hA
theorem rtake_loop {h : AHeap} (hlow : h.low ≤ h.next) {a : Option Addr} {n c : Nat} (hn : n ≤ 300) {l : List Int} (hs : Ints h .i64 a n l) {t : Int} (t1 : 1 ≤ t) (t2 : t ≤ 1000000) {Q : Exit → SS → Prop}
  (h0 : ∀ h' a' c',Ext h h' → Apd h' 1 a' n c' ((l.map (takeV t)).map (.int .i64)) → Q (.exit 0) ⟨[(6,.slice a' n c')],0,[],h'⟩) :
  ∀ (i : Int),0 ≤ i → i ≤ n → ∀ (h' : AHeap) (a' : Option Addr) (m' c' : Nat),Ext h h' → From h.next a' → (m' : Int) = i → Apd h' 1 a' m' c' (((l.map (takeV t)).take i.toNat).map (.int .i64)) → head 26 7 0 ⟨[(0,.slice a n c),(1,.int .i64 t),(6,.slice a' m' c'),(7,.int .i64 i)],0,[],h'⟩ Q:=by
 have hl:=hs.len
 refine countUp (fun i hi0 hin ih h' a' m' c' he hf hm hp => ?_)
 refine hA.roundR Try.func26 r26_ok (zc ?_)
 refine br (i < n) (by rw [e_lss hA,e_ofNat hA]) (fun ci => ?_) (fun ci => ?_) <;> refine zc ?_
 rotate_left
 ·have e : m' = n:=by omega
  subst e
  rw [List.take_of_length_le (by simp [hl];omega)] at hp
  exact h0 h' a' c' he hp
 obtain ⟨b1,o1,x,rfl,hb1,hx,hr⟩:=(hs.ext he).atI hi0 ci
 have hv:=at'_map (takeV t) l hi0 (by omega)
 have ht:=take_succ' (l.map (takeV t)) hi0 (by simp [hl];omega)
 rw [hv,← hx,takeV_eq t1] at ht
 have hng : neg .i64 t = -t:=by rw [e_neg hA,wrap64 (by omega) (by omega)];omega
 have rr:=rd_ok hA hr
 refine zq ?_
 rw [hng]
 have go : ∀ v : Int,(List.take (i + 1).toNat (l.map (takeV t)) = List.take i.toNat (l.map (takeV t)) ++ [v]) → ∀ h2 a2 c2,Apd h2 1 a2 (m' + 1) c2 ((List.take i.toNat (l.map (takeV t)) ++ [v]).map (.int .i64)) → (∀ h0,Ext h0 h' → From h0.next a' → Ext h0 h2 ∧ From h0.next a2) → head 26 7 0 ⟨[(0,.slice (some ⟨b1,o1,none⟩) n c),(1,.int .i64 t),(6,.slice a2 (m' + 1) c2),(7,.int .i64 (i + 1))],0,[],h2⟩ Q:=fun v hv h2 a2 c2 hp2 hE => by
  obtain ⟨he2,hf2⟩:=hE h he hf
  exact ih ci h2 a2 (m' + 1) c2 he2 hf2 (by omega) (by rw [hv];exact hp2)
 refine br (x ≤ -t) (by rw [e_leq hA]) (fun c1 => ?_) (fun c1 => ?_) <;> refine zc ?_
 ·rw [if_pos c1] at ht
  refine app1_ok hA hp (by omega) (fun a2 c2' h2 hp2 hE => ?_)
  have fin:=go _ ht h2 a2 c2' hp2 hE
  generalize m' + 1 = mm at *
  refine zc ?_
  rw [add64 hA (by omega) (by omega)]
  exact fin
 rw [if_neg c1] at ht
 refine zq ?_
 refine br (x < 0) (e_lss hA _ _) (fun c2 => ?_) (fun c2 => ?_) <;> refine zc ?_
 ·rw [if_pos c2] at ht
  refine app1_ok hA hp (by omega) (fun a2 c2' h2 hp2 hE => ?_)
  have fin:=go _ ht h2 a2 c2' hp2 hE
  generalize m' + 1 = mm at *
  refine zc ?_
  rw [add64 hA (by omega) (by omega)]
  exact fin
 rw [if_neg c2] at ht
 refine zq ?_
 refine br (x < t) (e_lss hA _ _) (fun c3 => ?_) (fun c3 => ?_) <;> refine zc ?_
 ·rw [if_pos c3] at ht
  refine app1_ok hA hp (by omega) (fun a2 c2' h2 hp2 hE => ?_)
  have fin:=go _ ht h2 a2 c2' hp2 hE
  generalize m' + 1 = mm at *
  refine zc ?_
  rw [add64 hA (by omega) (by omega)]
  exact fin
 rw [if_neg c3] at ht
 refine app1_ok hA hp (by omega) (fun a2 c2' h2 hp2 hE => ?_)
 have fin:=go _ ht h2 a2 c2' hp2 hE
 generalize m' + 1 = mm at *
 refine zc ?_
 rw [add64 hA (by omega) (by omega)]
 exact fin
theorem rtake_ok {h : AHeap} (hlow : h.low ≤ h.next) {a : Option Addr} {n c : Nat} (hn : n ≤ 300) {l : List Int} (hs : Ints h .i64 a n l) (t : Int) {Q : Value → AHeap → Prop}
  (hQ : ∀ e a' n' c' h',e = takeE l t → Ext h h' → Ints h' .i64 a' n' (if e = 0 then l.map (takeV t) else []) → Q (.tuple #[.slice a' n' c',.int .i64 e]) h') : call 26 [.slice a n c,.int .i64 t] h Q:=by
 have hl:=hs.len
 refine hA.bodyR Try.func26 r26_ok (hA.alike _ _ _ rfl) hlow (zc ?_)
 refine levels_ok hA hlow (by omega) hs (fun e he => ⟨_,rfl,?_⟩)
 refine zc ?_
 refine br (e ≠ 0) (e_neq hA _ _) (fun c1 => ?_) (fun c1 => ?_) <;> refine zc ?_
 ·refine levels_ok hA hlow (by omega) hs (fun e2 he2 => ⟨_,rfl,?_⟩)
  refine zc ?_
  obtain rfl : e2 = e:=by rw [he,he2]
  exact hQ e2 _ _ _ _ (by unfold takeE;rw [← he,if_neg c1]) (.refl _) (by rw [if_neg c1];exact .nil _ _)
 have hz : levE l = 0:=by omega
 have bad : (t < 1 ∨ 1000000 < t) → Q (.tuple #[.slice none 0 0,.int .i64 2]) h:=fun hb => hQ 2 _ _ _ _ (by unfold takeE;rw [if_pos hz,if_pos hb]) (.refl _) (by rw [if_neg (by omega)];exact .nil _ _)
 refine br (t < 1) (e_lss hA _ _) (fun c2 => ?_) (fun c2 => ?_) <;> refine zc ?_
 ·exact bad (.inl c2)
 refine br (1000000 < t) (e_gtr hA _ _) (fun c3 => ?_) (fun c3 => ?_) <;> refine zc ?_
 ·exact bad (.inr c3)
 refine rtake_loop hA hlow hn hs (by omega) (by omega) (fun h' a' c' he2 hp => ?_) 0 (by omega) (by omega) h none 0 0 (.refl _) (.none _) rfl (.nil _ _)
 refine zc ?_
 exact hQ 0 a' n c' h' (by unfold takeE;rw [if_pos hz,if_neg (by omega)]) he2 (by rw [if_pos rfl];exact ⟨hp.cells⟩)
theorem rsize_ok {h : AHeap} (hlow : h.low ≤ h.next) {x : Int} (x0 : -1000000 ≤ x) (x1 : x ≤ 1000000) {Q : Value → AHeap → Prop} (hQ : Q (.int .i64 (sz x)) h) : call 44 [.int .i64 x] h Q:=by
 refine hA.bodyR Try.func44 r44_ok (hA.alike _ _ _ rfl) hlow (zc ?_)
 refine br (x < 0) (e_lss hA _ _) (fun c1 => ?_) (fun c1 => ?_) <;> refine zc ?_
 ·rw [show neg .i64 x = -x by rw [e_neg hA,wrap64 (by omega) (by omega)];omega]
  unfold sz at hQ;rw [if_pos c1] at hQ;exact hQ
 ·unfold sz at hQ;rw [if_neg c1] at hQ;exact hQ
omit hA in
theorem lev_of {l : List Int} (hlev : l.all lev = true) {x : Int} (hx : x ∈ l) : -1000000 ≤ x ∧ x ≤ 1000000:=by
 have:=List.all_eq_true.1 hlev _ hx
 unfold lev at this
 simpa using this
theorem sbelow_loop {h : AHeap} (hlow : h.low ≤ h.next) {a : Option Addr} {n c : Nat} (hn : n ≤ 300) {l : List Int} (hs : Ints h .i64 a n l) (hlev : l.all lev = true) {t : Int} {Q : Exit → SS → Prop}
  (h0 : ∀ e kn K,Q (.exit 0) ⟨(5,.int .i64 (bel l t)) :: e,kn,K,h⟩) :
  ∀ (i : Int),0 ≤ i → i ≤ n → ∀ k : Int,k = bel (l.take i.toNat) t → head 48 3 0 ⟨[(0,.slice a n c),(1,.int .i64 t),(5,.int .i64 k),(6,.int .i64 i)],0,[],h⟩ Q:=by
 have hl:=hs.len
 refine countUp (fun i hi0 hin ih k hk => ?_)
 refine hA.roundR Try.func48 r48_ok (zc ?_)
 refine br (i < n) (by rw [e_lss hA,e_ofNat hA]) (fun ci => ?_) (fun ci => ?_) <;> refine zc ?_
 rotate_left
 ·rw [List.take_of_length_le (by omega)] at hk
  have:=h0 [] 0 []
  rw [← hk] at this
  exact this
 obtain ⟨b1,o1,x,rfl,hb1,hx,hr⟩:=hs.atI hi0 ci
 have hm:=at'_mem l hi0 (by omega)
 rw [← hx] at hm
 obtain ⟨x0,x1⟩:=lev_of hlev hm
 have ht:=take_succ' l hi0 (by omega)
 rw [← hx] at ht
 have kb : bel (l.take i.toNat) t ≤ (l.take i.toNat).length:=List.countP_le_length
 rw [List.length_take] at kb
 have hb : bel (l.take (i + 1).toNat) t = bel (l.take i.toNat) t + if sz x < t then 1 else 0:=by
  rw [ht];unfold bel;rw [List.countP_append,List.countP_singleton];simp only [decide_eq_true_eq]
 have rr:=rd_ok hA hr
 refine zq ?_
 refine rsize_ok hA hlow x0 x1 ⟨_,rfl,?_⟩
 obtain ⟨s,hs'⟩ : ∃ z,z = sz x:=⟨_,rfl⟩
 rw [← hs'] at hb ⊢
 refine zc ?_
 refine br (s < t) (e_lss hA _ _) (fun c1 => ?_) (fun c1 => ?_) <;> refine zc ?_
 ·rw [add64 hA (by omega) (by omega),add64 hA (by omega) (by omega)]
  exact ih ci (k + 1) (by rw [hb,if_pos c1];omega)
 ·rw [add64 hA (by omega) (by omega)]
  exact ih ci k (by rw [hb,if_neg c1];omega)
theorem sbelow_ok {h : AHeap} (hlow : h.low ≤ h.next) {a : Option Addr} {n c : Nat} (hn : n ≤ 300) {l : List Int} (hs : Ints h .i64 a n l) (hlev : l.all lev = true) {t : Int} {Q : Value → AHeap → Prop}
  (hQ : Q (.int .i64 (bel l t)) h) : call 48 [.slice a n c,.int .i64 t] h Q:=by
 refine hA.bodyR Try.func48 r48_ok (hA.alike _ _ _ rfl) hlow (zc ?_)
 obtain ⟨k,hk⟩ : ∃ z : Int,z = bel l t:=⟨_,rfl⟩
 rw [← hk] at hQ
 refine sbelow_loop hA hlow hn hs hlev (t:=t) (fun e kn K => ?_) 0 (by omega) (by omega) 0 (by simp [bel])
 rw [← hk]
 refine zc ?_
 exact hQ
theorem enough_ok {h : AHeap} (hlow : h.low ≤ h.next) {a : Option Addr} {n c : Nat} (hn : n ≤ 300) {l : List Int} (hs : Ints h .i64 a n l) (hlev : l.all lev = true) {u v : Int} {p : Rat} (hp : isF u v p) {t : Int} {Q : Value → AHeap → Prop}
  (hQ : ∀ (r : Bool) h',(r = true ↔ en l p t) → Ext h h' → Q (.bool r) h') : call 32 [.slice a n c,.agg #[.int .i64 u,.int .i64 v],.int .i64 t] h Q:=by
 have hl:=hs.len
 refine hA.bodyR Try.func32 r32_ok (hA.alike _ _ _ rfl) hlow (zc ?_)
 refine br ((n : Int) = 0) (by rw [e_eql hA,e_ofNat hA]) (fun q => ?_) (fun q => ?_) <;> refine zc ?_
 ·refine hQ true h ⟨fun _ => ?_,fun _ => rfl⟩ (.refl h)
  obtain rfl : l = []:=List.length_eq_zero_iff.1 (by omega)
  unfold en bel
  simp
 have hb : bel l t ≤ l.length:=List.countP_le_length
 refine sbelow_ok hA hlow hn hs hlev ⟨_,rfl,?_⟩
 obtain ⟨k,hk⟩ : ∃ z : Int,z = bel l t:=⟨_,rfl⟩
 rw [← hk]
 refine zc ?_
 rw [e_ofNat hA]
 refine rmake_ok hA hlow (by unfold i64;omega) (by unfold i64;omega) (fun a' b' e k1 h1 x1 => ⟨_,_,_,rfl,?_⟩)
 obtain ⟨kf,rfl⟩:=outF_part (by omega) (by omega) (by omega) (by omega) k1
 refine zc ?_
 refine rcmp_ok hA (x1.lowOK hlow) kf.i64.1 kf.i64.2 hp.i64.1 hp.i64.2 (fun c' r h2 k2 x2 => ⟨_,_,rfl,?_⟩)
 obtain rfl : c' = cmpF ((k : Rat) / ((n : Int) : Rat)) p:=by
  rcases k2 with ⟨w,_⟩ | ⟨p1,q1,w1,w2,w3,_⟩
  ·exact absurd ⟨⟨_,kf⟩,⟨_,hp⟩⟩ w
  ·rw [w3,w1.uniq kf,w2.uniq hp]
 have key:=cmp_part (k:=k) (n:=(n : Int)) (by omega) (p:=p)
 generalize cmpF ((k : Rat) / ((n : Int) : Rat)) p = z at *
 refine zc ?_
 refine hQ _ h2 ?_ (x1.trans x2)
 rw [e_geq hA,decide_eq_true_eq,key]
 unfold en
 rw [hl,hk]
end Go.Proofs.Ytcdoknkgbnaefaa
