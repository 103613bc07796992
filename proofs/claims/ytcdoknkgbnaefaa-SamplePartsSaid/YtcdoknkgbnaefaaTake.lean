import Derived.Test.YtcdoknkgbnaefaaRSign
set_option linter.unusedSimpArgs false
set_option linter.unusedVariables false
namespace Go.Proofs.Ytcdoknkgbnaefaa
open Go.Sim
set_option linter.unusedVariables false
set_option maxRecDepth 100000
def lev (x : Int) : Bool:=decide (-1000000 ≤ x ∧ x ≤ 1000000)
def levE (l : List Int) : Int:=if 256 < (l.length : Int) then 4 else if l.all lev then 0 else 8
def big (t x : Int) : Int:=if t ≤ (if -x > x then -x else x) then 3 else 1
def takeV (t x : Int) : Int:=if x < 0 then -(big t x) else big t x
def takeE (l : List Int) (t : Int) : Int:=if levE l = 0 then (if t < 1 ∨ 1000000 < t then 2 else 0) else levE l
theorem big_vals (t x : Int) : big t x = 1 ∨ big t x = 3:=by
 unfold big
 generalize (if -x > x then -x else x) = y
 by_cases h : t ≤ y
 ·exact .inr (if_pos h)
 ·exact .inl (if_neg h)
theorem all_take {f : Int → Bool} {l : List Int} {i : Int} (h : ∀ j : Int,0 ≤ j → j < i → f (at' l j) = true) (hi : (l.length : Int) ≤ i) : l.all f = true:=by
 rw [List.all_eq_true]
 intro x hx
 obtain ⟨j,hj,rfl⟩:=List.getElem_of_mem hx
 have:=h j (by omega) (by omega)
 unfold at' at this
 simpa [hj] using this
theorem not_all {f : Int → Bool} {l : List Int} {i : Int} (h0 : 0 ≤ i) (h1 : i < l.length) (h : f (at' l i) = false) : l.all f = false:=by
 cases hh : l.all f with
 | false => rfl
 | true =>
  have:=List.all_eq_true.1 hh _ (at'_mem l h0 h1)
  rw [h] at this;cases this
theorem getD_set {l : List Int} {i : Nat} {x : Int} (h : i < l.length) : (l.set i x).getD i 0 = x:=by
 rw [List.getD_eq_getElem?_getD,List.getElem?_set_self h];rfl
variable {F : Prims} {call head arith cmp scmp bnot bsame conv neg imax imin ofNat slen place inR nz geZ rd wr push next mkOK nat zeros sadd eqAgg cut slc sslc strAt part app cpy putAt fresh lowered bump wrote addN lt ne fpAll fpApp brk yn rng mget mput mnew bytes clr : _} (hA : AP F ⟨call,head,arith,cmp,scmp,bnot,bsame,conv,neg,imax,imin,ofNat,slen,place,inR,nz,geZ,rd,wr,push,next,mkOK,nat,zeros,sadd,eqAgg,cut,slc,sslc,strAt,part,app,cpy,putAt,fresh,lowered,bump,wrote,addN,lt,ne,fpAll,fpApp,brk,yn,rng,mget,mput,mnew,bytes,clr⟩)
include hA
theorem measured_loop {h : AHeap} {a : Option Addr} {n c : Nat} (hn : n ≤ 1000000) {l : List Int} (hs : Ints h .i64 a n l) {Q : Exit → SS → Prop}
  (h0 : l.all lev = true → Q (.exit 0) ⟨[],0,[],h⟩) (h1 : l.all lev = false → ∀ e,Q .ret ⟨(2,.int .i64 8) :: e,0,[],h⟩) :
  ∀ (i : Int),0 ≤ i → i ≤ n → (∀ j : Int,0 ≤ j → j < i → lev (at' l j) = true) → head 39 4 0 ⟨[(8,.slice a n c),(9,.int .i64 (ofNat n)),(10,.int .i64 i)],0,[],h⟩ Q:=by
 have hl:=hs.len
 refine countUp (fun i hi0 hin ih hj => ?_)
 refine hA.roundR Try.func39 r39_ok (zc ?_)
 refine br (i < n) (by rw [e_lss hA,e_ofNat hA]) (fun c1 => ?_) (fun c1 => ?_) <;> refine zc ?_
 ·obtain ⟨b,o,x,rfl,hb,hx,hr⟩:=hs.atI hi0 c1
  have bad : ¬ (-1000000 ≤ x ∧ x ≤ 1000000) → l.all lev = false:=fun hb => not_all hi0 (by omega) (by rw [← hx];unfold lev;simp only [hb,decide_false])
  refine ⟨b,o,rfl,in_ok hA hi0 c1,?_⟩
  refine zc ?_
  refine ⟨x,rd_ok hA hr,?_⟩
  refine zc ?_
  refine br (x < -1000000) (e_lss hA _ _) (fun c2 => ?_) (fun c2 => ?_) <;> refine zc ?_
  ·exact h1 (bad (by omega)) _
  refine br (1000000 < x) (e_gtr hA _ _) (fun c3 => ?_) (fun c3 => ?_) <;> refine zc ?_
  ·exact h1 (bad (by omega)) _
  rw [add64 hA (by omega) (by omega)]
  refine ih c1 (fun j hj0 hj1 => ?_)
  by_cases e : j = i
  ·rw [e,← hx];unfold lev;simp only [decide_eq_true_eq];omega
  ·exact hj j hj0 (by omega)
 ·exact h0 (all_take hj (by omega))
theorem measured_ok {h : AHeap} (hlow : h.low ≤ h.next) {a : Option Addr} {n c : Nat} (hn : n ≤ 1000000) {l : List Int} (hs : Ints h .i64 a n l) {Q : Value → AHeap → Prop} (hQ : ∀ r,r = levE l → Q (.int .i64 r) h) : call 39 [.slice a n c] h Q:=by
 have hl:=hs.len
 refine hA.bodyR Try.func39 r39_ok (hA.alike _ _ _ rfl) hlow (zc ?_)
 refine br (256 < (n : Int)) (by rw [e_gtr hA,e_ofNat hA]) (fun c1 => ?_) (fun c1 => ?_) <;> refine zc ?_
 ·exact hQ 4 (by unfold levE;rw [if_pos (by omega)])
 refine measured_loop hA hn hs (fun hall => ?_) (fun hall e => ?_) 0 (by omega) (by omega) (fun j a b => by omega)
 ·refine zc ?_
  exact hQ 0 (by unfold levE;rw [if_neg (by omega),hall];rfl)
 ·refine zc ?_
  exact hQ 8 (by unfold levE;rw [if_neg (by omega),hall];rfl)
theorem levels_loop {h : AHeap} {a : Option Addr} {n c : Nat} (hn : n ≤ 1000000) {l : List Int} (hs : Ints h .i64 a n l) {Q : Exit → SS → Prop}
  (h0 : l.all lev = true → Q (.exit 0) ⟨[],0,[],h⟩) (h1 : l.all lev = false → ∀ e,Q .ret ⟨(2,.int .i64 8) :: e,0,[],h⟩) :
  ∀ (i : Int),0 ≤ i → i ≤ n → (∀ j : Int,0 ≤ j → j < i → lev (at' l j) = true) → head 30 4 0 ⟨[(0,.slice a n c),(3,.int .i64 i)],0,[],h⟩ Q:=by
 have hl:=hs.len
 refine countUp (fun i hi0 hin ih hj => ?_)
 refine hA.roundR Try.func30 r30_ok (zc ?_)
 refine br (i < n) (by rw [e_lss hA,e_ofNat hA]) (fun c1 => ?_) (fun c1 => ?_) <;> refine zc ?_
 ·obtain ⟨b,o,x,rfl,hb,hx,hr⟩:=hs.atI hi0 c1
  have bad : ¬ (-1000000 ≤ x ∧ x ≤ 1000000) → l.all lev = false:=fun hb => not_all hi0 (by omega) (by rw [← hx];unfold lev;simp only [hb,decide_false])
  refine ⟨b,o,rfl,in_ok hA hi0 c1,?_⟩
  refine zc ?_
  refine ⟨x,rd_ok hA hr,?_⟩
  refine zc ?_
  refine br (x < -1000000) (e_lss hA _ _) (fun c2 => ?_) (fun c2 => ?_) <;> refine zc ?_
  ·exact h1 (bad (by omega)) _
  refine ⟨b,o,rfl,in_ok hA hi0 c1,?_⟩
  refine zc ?_
  refine ⟨x,rd_ok hA hr,?_⟩
  refine zc ?_
  refine br (1000000 < x) (e_gtr hA _ _) (fun c3 => ?_) (fun c3 => ?_) <;> refine zc ?_
  ·exact h1 (bad (by omega)) _
  rw [add64 hA (by omega) (by omega)]
  refine ih c1 (fun j hj0 hj1 => ?_)
  by_cases e : j = i
  ·rw [e,← hx];unfold lev;simp only [decide_eq_true_eq];omega
  ·exact hj j hj0 (by omega)
 ·exact h0 (all_take hj (by omega))
theorem levels_ok {h : AHeap} (hlow : h.low ≤ h.next) {a : Option Addr} {n c : Nat} (hn : n ≤ 1000000) {l : List Int} (hs : Ints h .i64 a n l) {Q : Value → AHeap → Prop} (hQ : ∀ r,r = levE l → Q (.int .i64 r) h) : call 30 [.slice a n c] h Q:=by
 have hl:=hs.len
 refine hA.bodyR Try.func30 r30_ok (hA.alike _ _ _ rfl) hlow (zc ?_)
 refine br (256 < (n : Int)) (by rw [e_gtr hA,e_ofNat hA]) (fun c1 => ?_) (fun c1 => ?_) <;> refine zc ?_
 ·exact hQ 4 (by unfold levE;rw [if_pos (by omega)])
 refine levels_loop hA hn hs (fun hall => ?_) (fun hall e => ?_) 0 (by omega) (by omega) (fun j a b => by omega)
 ·refine zc ?_
  exact hQ 0 (by unfold levE;rw [if_neg (by omega),hall];rfl)
 ·refine zc ?_
  exact hQ 8 (by unfold levE;rw [if_neg (by omega),hall];rfl)
theorem take_loop {h : AHeap} (hlow : h.low ≤ h.next) {a : Option Addr} {n c m : Nat} (hm : m = n) (hn : n ≤ 1000000) {l : List Int} (hs : Ints h .i64 a n l) (hlev : l.all lev = true) {t : Int} {b : Nat} (hb : h.next ≤ b) {Q : Exit → SS → Prop}
  (h0 : ∀ h',Ext h h' → b < h'.next → Own h' b 1 ((l.map (takeV t)).map (.int .i64)) → Q (.exit 0) ⟨[(7,.slice (some ⟨b,0,none⟩) m m)],0,[],h'⟩) :
  ∀ (i : Int),0 ≤ i → i ≤ n → ∀ h',Ext h h' → b < h'.next → Own h' b 1 ((fillTo (l.map (takeV t)) n i).map (.int .i64)) → head 25 8 0 ⟨[(1,.int .i64 t),(7,.slice (some ⟨b,0,none⟩) m m),(24,.slice a n c),(25,.int .i64 (ofNat n)),(26,.int .i64 i)],0,[],h'⟩ Q:=by
 have hl:=hs.len
 have hg : (l.map (takeV t)).length = n:=by simp [hl]
 refine countUp (fun i hi0 hin ih h' he hbn ho => ?_)
 refine hA.roundR Try.func25 r25_ok (zc ?_)
 refine br (i < n) (by rw [e_lss hA,e_ofNat hA]) (fun c1 => ?_) (fun c1 => ?_) <;> refine zc ?_
 ·obtain ⟨b1,o1,x,rfl,hb1,hx,hr⟩:=(hs.ext he).atI hi0 c1
  have hlx:=List.all_eq_true.1 hlev _ (at'_mem l hi0 (by omega))
  rw [← hx] at hlx
  unfold lev at hlx
  simp only [decide_eq_true_eq] at hlx
  have hv:=at'_map (takeV t) l hi0 (by omega)
  have hset:=fill_set hg hi0 c1
  have hfl:=fill_len hg i (by omega)
  obtain ⟨h2,w2,o2,wr2⟩:=ho.setInt (i:=i.toNat) (by omega) 1
  have hmx : imax x (neg .i64 x) = (if -x > x then -x else x):=by rw [e_imax hA,e_neg hA,wrap64 (by omega) (by omega),Int.zero_sub]
  refine ⟨b1,o1,rfl,in_ok hA hi0 c1,?_⟩
  refine zc ?_
  refine ⟨x,rd_ok hA hr,?_⟩
  refine zc ?_
  refine ⟨b,0,rfl,in_ok hA hi0 (by omega),?_⟩
  refine zc ?_
  refine ⟨h2,wr_ok hA (by rw [Nat.zero_add,Nat.mul_one];exact w2),?_⟩
  refine zc ?_
  refine br (t ≤ (if -x > x then -x else x)) (by rw [e_geq hA,hmx]) (fun c2 => ?_) (fun c2 => ?_) <;> refine zc ?_
  ·refine ⟨b,0,rfl,in_ok hA hi0 (by omega),?_⟩
   refine zc ?_
   obtain ⟨h3,w3,o3,wr3⟩:=o2.setInt (i:=i.toNat) (by rw [List.length_set];omega) 3
   rw [List.set_set] at o3
   refine ⟨h3,wr_ok hA (by rw [Nat.zero_add,Nat.mul_one];exact w3),?_⟩
   refine zc ?_
   obtain ⟨B,hB3⟩ : ∃ x : Int,x = 3:=⟨_,rfl⟩
   have hBv : B = big t x:=by unfold big;rw [if_pos c2];exact hB3
   have oB:=o3
   rw [← hB3] at oB
   have eB:=wr3.ext (wr2.ext he hb) hb
   have hbB : b < h3.next:=by rw [wr3.next,wr2.next];exact hbn
   have hrB:=oB.getInt (i:=i.toNat) (by rw [List.length_set];omega)
   rw [getD_set (by omega)] at hrB
   obtain ⟨hB,hhB⟩ : ∃ x,x = h3:=⟨_,rfl⟩
   rw [← hhB] at oB eB hbB hrB ⊢
   refine br (x < 0) (e_lss hA _ _) (fun c3 => ?_) (fun c3 => ?_) <;> refine zc ?_
   ·refine ⟨b,0,rfl,in_ok hA hi0 (by omega),?_⟩
    refine zc ?_
    refine ⟨B,rd_ok hA (by rw [Nat.zero_add,Nat.mul_one];exact hrB),?_⟩
    refine zc ?_
    refine ⟨b,0,rfl,in_ok hA hi0 (by omega),?_⟩
    refine zc ?_
    obtain ⟨h4,w4,o4,wr4⟩:=oB.setInt (i:=i.toNat) (by rw [List.length_set];omega) (-B)
    rw [List.set_set] at o4
    have hng : neg .i64 B = -B:=by rw [e_neg hA,wrap64 (by omega) (by omega)];omega
    rw [hng]
    refine ⟨h4,wr_ok hA (by rw [Nat.zero_add,Nat.mul_one];exact w4),?_⟩
    refine zc ?_
    rw [add64 hA (by omega) (by omega)]
    refine ih c1 h4 (wr4.ext eB hb) (by rw [wr4.next];exact hbB) ?_
    rw [← hset,hv,← hx];unfold takeV;rw [if_pos c3,← hBv];exact o4
   ·rw [add64 hA (by omega) (by omega)]
    refine ih c1 hB eB hbB ?_
    rw [← hset,hv,← hx];unfold takeV;rw [if_neg c3,← hBv];exact oB
  ·obtain ⟨B,hB3⟩ : ∃ x : Int,x = 1:=⟨_,rfl⟩
   have hBv : B = big t x:=by unfold big;rw [if_neg c2];exact hB3
   have oB:=o2
   rw [← hB3] at oB
   have eB:=wr2.ext he hb
   have hbB : b < h2.next:=by rw [wr2.next];exact hbn
   have hrB:=oB.getInt (i:=i.toNat) (by rw [List.length_set];omega)
   rw [getD_set (by omega)] at hrB
   obtain ⟨hB,hhB⟩ : ∃ x,x = h2:=⟨_,rfl⟩
   rw [← hhB] at oB eB hbB hrB ⊢
   refine br (x < 0) (e_lss hA _ _) (fun c3 => ?_) (fun c3 => ?_) <;> refine zc ?_
   ·refine ⟨b,0,rfl,in_ok hA hi0 (by omega),?_⟩
    refine zc ?_
    refine ⟨B,rd_ok hA (by rw [Nat.zero_add,Nat.mul_one];exact hrB),?_⟩
    refine zc ?_
    refine ⟨b,0,rfl,in_ok hA hi0 (by omega),?_⟩
    refine zc ?_
    obtain ⟨h4,w4,o4,wr4⟩:=oB.setInt (i:=i.toNat) (by rw [List.length_set];omega) (-B)
    rw [List.set_set] at o4
    have hng : neg .i64 B = -B:=by rw [e_neg hA,wrap64 (by omega) (by omega)];omega
    rw [hng]
    refine ⟨h4,wr_ok hA (by rw [Nat.zero_add,Nat.mul_one];exact w4),?_⟩
    refine zc ?_
    rw [add64 hA (by omega) (by omega)]
    refine ih c1 h4 (wr4.ext eB hb) (by rw [wr4.next];exact hbB) ?_
    rw [← hset,hv,← hx];unfold takeV;rw [if_pos c3,← hBv];exact o4
   ·rw [add64 hA (by omega) (by omega)]
    refine ih c1 hB eB hbB ?_
    rw [← hset,hv,← hx];unfold takeV;rw [if_neg c3,← hBv];exact oB
 ·rw [fill_end hg (by omega)] at ho
  exact h0 h' he hbn ho
theorem take_ok {h : AHeap} (hlow : h.low ≤ h.next) {a : Option Addr} {n c : Nat} (hn : n ≤ 1000000) {l : List Int} (hs : Ints h .i64 a n l) (t : Int) {Q : Value → AHeap → Prop}
  (hQ : ∀ e a' n' c' h',e = takeE l t → Ext h h' → Ints h' .i64 a' n' (if e = 0 then l.map (takeV t) else []) → Q (.tuple #[.slice a' n' c',.int .i64 e]) h') : call 25 [.slice a n c,.int .i64 t] h Q:=by
 have hl:=hs.len
 refine hA.bodyR Try.func25 r25_ok (hA.alike _ _ _ rfl) hlow (zc ?_)
 refine measured_ok hA hlow hn hs (fun e he => ⟨_,rfl,?_⟩)
 refine zc ?_
 refine br (e ≠ 0) (e_neq hA _ _) (fun c1 => ?_) (fun c1 => ?_) <;> refine zc ?_
 ·exact hQ e _ _ _ _ (by unfold takeE;rw [← he,if_neg c1]) (.refl _) (by rw [if_neg c1];exact .nil _ _)
 have hz : levE l = 0:=by omega
 have hlev : l.all lev = true:=by
  unfold levE at hz
  split at hz
  ·omega
  split at hz
  ·assumption
  ·omega
 have bad : (t < 1 ∨ 1000000 < t) → Q (.tuple #[.slice none 0 0,.int .i64 2]) h:=fun hb => hQ 2 _ _ _ _ (by unfold takeE;rw [if_pos hz,if_pos hb]) (.refl _) (by rw [if_neg (by omega)];exact .nil _ _)
 refine br (t < 1) (e_lss hA _ _) (fun c2 => ?_) (fun c2 => ?_) <;> refine zc ?_
 ·exact bad (.inl c2)
 refine br (1000000 < t) (e_gtr hA _ _) (fun c3 => ?_) (fun c3 => ?_) <;> refine zc ?_
 ·exact bad (.inr c3)
 refine ⟨mk_ok hA (by rw [e_ofNat hA];omega) (by omega) (by rw [e_ofNat hA];omega),?_⟩
 refine zc ?_
 have hz0 : zeros [.int .i64 0] (ofNat n) = (fillTo (l.map (takeV t)) n 0).map (.int .i64):=by rw [e_zeros hA,copies_ints,e_ofNat hA,fill_zero];simp
 have ho:=Own.push h 1 ((fillTo (l.map (takeV t)) n 0).map (.int .i64))
 rw [hz0,e_push hA,e_next hA]
 refine take_loop hA hlow (by rw [e_nat hA,e_ofNat hA];simp) hn hs hlev (Nat.le_refl _) (fun h' he2 hb2 ho2 => ?_) 0 (by omega) (by omega) _ (.push _ _ _) (by simp [AHeap.push]) ho
 refine zc ?_
 exact hQ 0 (some ⟨h.next,0,none⟩) (nat (ofNat n)) (nat (ofNat n)) h' (by unfold takeE;rw [if_pos hz,if_neg (by omega)]) he2 (by rw [if_pos rfl];exact ho2.ints hb2 (by rw [e_nat hA,e_ofNat hA];simp [hl]))
end Go.Proofs.Ytcdoknkgbnaefaa
