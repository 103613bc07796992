import Derived.Test.YtcdoknkgbnaefaaBitsSign
set_option linter.unusedSimpArgs false
set_option linter.unusedVariables false
namespace Go.Proofs.Ytcdoknkgbnaefaa
open Go.Sim
set_option linter.unusedVariables false
set_option maxRecDepth 100000
def counts (l : List Int) : List Int:=[cntF 0 l,cntF 1 l,cntF 2 l,cntF 3 l,cntF 4 l]
theorem cntF_append (d : Int) (t : List Int) (x : Int) : cntF d (t ++ [x]) = cntF d t + if digitF x = d then 1 else 0:=by
 unfold cntF;rw [List.countP_append]
 by_cases e : digitF x = d <;> simp [e]
theorem cntF_bound (d : Int) (l : List Int) : 0 ≤ cntF d l ∧ cntF d l ≤ l.length:=by
 unfold cntF
 have:=List.countP_le_length (p:=fun x => decide (digitF x = d)) (l:=l)
 omega
theorem counts_at (t : List Int) {d : Int} (h0 : 0 ≤ d) (h1 : d ≤ 4) : (counts t).getD d.toNat 0 = cntF d t:=by
 have : d = 0 ∨ d = 1 ∨ d = 2 ∨ d = 3 ∨ d = 4:=by omega
 rcases this with rfl | rfl | rfl | rfl | rfl <;> rfl
theorem counts_step (t : List Int) (x : Int) (hx : 0 ≤ digitF x) : (counts t).set (digitF x).toNat (cntF (digitF x) t + 1) = counts (t ++ [x]):=by
 have h4:=(digitF_le x).2
 unfold counts
 simp only [cntF_append]
 have : digitF x = 0 ∨ digitF x = 1 ∨ digitF x = 2 ∨ digitF x = 3 ∨ digitF x = 4:=by omega
 rcases this with e | e | e | e | e <;> rw [e] <;> simp
variable {F : Prims} {call head arith cmp scmp bnot bsame conv neg imax imin ofNat slen place inR nz geZ rd wr push next mkOK nat zeros sadd eqAgg cut slc sslc strAt part app cpy putAt fresh lowered bump wrote addN lt ne fpAll fpApp brk yn rng mget mput mnew bytes clr : _} (hA : AP F ⟨call,head,arith,cmp,scmp,bnot,bsame,conv,neg,imax,imin,ofNat,slen,place,inR,nz,geZ,rd,wr,push,next,mkOK,nat,zeros,sadd,eqAgg,cut,slc,sslc,strAt,part,app,cpy,putAt,fresh,lowered,bump,wrote,addN,lt,ne,fpAll,fpApp,brk,yn,rng,mget,mput,mnew,bytes,clr⟩)
include hA
theorem app1_ok {h : AHeap} {a : Option Addr} {n c : Nat} {l : List Int} {v : Int} (hp : Apd h 1 a n c (l.map (.int .i64))) (hn : n ≤ 10000) {C : Option Addr → Nat → Nat → AHeap → Prop}
  (hC : ∀ a' c' h',Apd h' 1 a' (n + 1) c' ((l ++ [v]).map (.int .i64)) → (∀ h0,Ext h0 h → From h0.next a → Ext h0 h' ∧ From h0.next a') → C a' (n + 1) c' h') :
  app [22,22] [.slice a n c,.slice (some ⟨next h,0,none⟩) 1 1] (push h 1 [.int .i64 v]) C:=by
 rw [e_app hA,e_push hA,e_next hA]
 have hs : Cells (h.push 1 [.int .i64 v]) (some ⟨h.next,0,none⟩) 1 1 [.int .i64 v]:=⟨rfl,by simp [AHeap.push],by rw [(Own.push h 1 _).readG (by simp)];rfl⟩
 obtain ⟨a',c',h',h1,h2,h3⟩:=append_ok T22 T22.und (c2:=1) (hp.ext (.push h 1 [.int .i64 v])) hs (ints_ok _ _) rfl (by omega) (by omega)
 refine ⟨a',n + 1,c',h',h1,hC a' c' h' (by simpa using h2) (fun h0 e0 f0 => h3 h0 (e0.trans (.push _ _ _)) f0)⟩
theorem rsign_loop {h : AHeap} (hlow : h.low ≤ h.next) {a : Option Addr} {n c : Nat} (hn : n ≤ 300) {l : List Int} (hs : Ints h .i64 a n l) {Q : Exit → SS → Prop}
  (h0 : ∀ h' a' c',Ext h h' → Apd h' 1 a' n c' ((l.map sgnI).map (.int .i64)) → Q (.exit 0) ⟨[(4,.slice a' n c')],0,[],h'⟩) :
  ∀ (i : Int),0 ≤ i → i ≤ n → ∀ (h' : AHeap) (a' : Option Addr) (m' c' : Nat),Ext h h' → From h.next a' → (m' : Int) = i → Apd h' 1 a' m' c' (((l.map sgnI).take i.toNat).map (.int .i64)) → head 22 5 0 ⟨[(0,.slice a n c),(4,.slice a' m' c'),(5,.int .i64 i)],0,[],h'⟩ Q:=by
 have hl:=hs.len
 refine countUp (fun i hi0 hin ih h' a' m' c' he hf hm hp => ?_)
 refine hA.roundR Try.func22 r22_ok (zc ?_)
 refine br (i < n) (by rw [e_lss hA,e_ofNat hA]) (fun c => ?_) (fun c => ?_) <;> refine zc ?_
 ·obtain ⟨b1,o1,x,rfl,hb1,hx,hr⟩:=(hs.ext he).atI hi0 c
  have hv:=at'_map sgnI l hi0 (by omega)
  have ht:=take_succ' (l.map sgnI) hi0 (by simp [hl];omega)
  refine ⟨b1,o1,rfl,in_ok hA hi0 c,?_⟩
  refine zc ?_
  refine ⟨_,rd_ok hA hr,?_⟩
  refine zc ?_
  refine br (x < 0) (e_lss hA _ _) (fun c2 => ?_) (fun c2 => ?_) <;> refine zc ?_
  ·refine app1_ok hA hp (by omega) (fun a2 c2' h2 hp2 hE => ?_)
   refine zc ?_
   rw [add64 hA (by omega) (by omega)]
   obtain ⟨he2,hf2⟩:=hE h he hf
   refine ih c h2 a2 (m' + 1) c2' he2 hf2 (by omega) ?_
   rw [ht,hv,← hx];unfold sgnI;rw [if_pos c2];exact hp2
  refine ⟨b1,o1,rfl,in_ok hA hi0 c,?_⟩
  refine zc ?_
  refine ⟨_,rd_ok hA hr,?_⟩
  refine zc ?_
  refine br (0 < x) (e_gtr hA _ _) (fun c3 => ?_) (fun c3 => ?_) <;> refine zc ?_
  ·refine app1_ok hA hp (by omega) (fun a2 c2' h2 hp2 hE => ?_)
   refine zc ?_
   rw [add64 hA (by omega) (by omega)]
   obtain ⟨he2,hf2⟩:=hE h he hf
   refine ih c h2 a2 (m' + 1) c2' he2 hf2 (by omega) ?_
   rw [ht,hv,← hx];unfold sgnI;rw [if_neg c2,if_pos c3];exact hp2
  ·refine app1_ok hA hp (by omega) (fun a2 c2' h2 hp2 hE => ?_)
   refine zc ?_
   rw [add64 hA (by omega) (by omega)]
   obtain ⟨he2,hf2⟩:=hE h he hf
   refine ih c h2 a2 (m' + 1) c2' he2 hf2 (by omega) ?_
   rw [ht,hv,← hx];unfold sgnI;rw [if_neg c2,if_neg c3];exact hp2
 ·have e : m' = n:=by omega
  subst e
  rw [List.take_of_length_le (by simp [hl];omega)] at hp
  exact h0 h' a' c' he hp
theorem rsign_ok {h : AHeap} (hlow : h.low ≤ h.next) {a : Option Addr} {n c : Nat} (hn : n ≤ 300) {l : List Int} (hs : Ints h .i64 a n l) {Q : Value → AHeap → Prop}
  (hQ : ∀ e a' n' c' h',e = checkF l → Ext h h' → Ints h' .i64 a' n' (if e = 0 then l.map sgnI else []) → Q (.tuple #[.slice a' n' c',.int .i64 e]) h') : call 22 [.slice a n c] h Q:=by
 have hl:=hs.len
 refine hA.bodyR Try.func22 r22_ok (hA.alike _ _ _ rfl) hlow (zc ?_)
 refine srcheck_ok hA hlow (by omega) hs (fun e he => ⟨_,rfl,?_⟩)
 refine zc ?_
 refine br (e ≠ 0) (e_neq hA _ _) (fun c => ?_) (fun c => ?_) <;> refine zc ?_
 ·refine srcheck_ok hA hlow (by omega) hs (fun e2 he2 => ⟨_,rfl,?_⟩)
  refine zc ?_
  have e3 : e2 = e:=by rw [he,he2]
  rw [e3]
  exact hQ e _ _ _ _ he (.refl _) (by rw [if_neg c];exact .nil _ _)
 ·have c : e = 0:=Classical.not_not.1 c
  refine rsign_loop hA hlow hn hs (fun h' a' c' he2 hp => ?_) 0 (by omega) (by omega) h none 0 0 (.refl _) (.none _) rfl (.nil _ _)
  refine zc ?_
  have:=hQ e a' n c' h' he he2 (by rw [if_pos c];exact ⟨hp.cells⟩)
  rw [c] at this
  exact this
theorem counts_loop {h : AHeap} (hlow : h.low ≤ h.next) {a : Option Addr} {n c : Nat} (hn : n ≤ 1000000) {l : List Int} (hs : Ints h .i64 a n l) (hg : l.all good = true) {b : Nat} (hb : h.next ≤ b) {K : List (Nat × List Value)} {Q : Exit → SS → Prop}
  (h0 : ∀ h',Ext h h' → b < h'.next → Own h' b 5 ((counts l).map (.int .i64)) → Q (.exit 0) ⟨[(2,.pointer (some ⟨0,0,some 0⟩)),(5,.pointer (some ⟨b,0,none⟩))],1,K,h'⟩) :
  ∀ (i : Int),0 ≤ i → i ≤ n → ∀ h',Ext h h' → b < h'.next → Own h' b 5 ((counts (l.take i.toNat)).map (.int .i64)) → head 19 6 1 ⟨[(2,.pointer (some ⟨0,0,some 0⟩)),(5,.pointer (some ⟨b,0,none⟩)),(14,.slice a n c),(15,.int .i64 (ofNat n)),(16,.int .i64 i)],1,K,h'⟩ Q:=by
 have hl:=hs.len
 refine countUp (fun i hi0 hin ih h' he hbn ho => ?_)
 refine hA.roundR Try.func19 r19_ok (zc ?_)
 refine br (i < n) (by rw [e_lss hA,e_ofNat hA]) (fun c => ?_) (fun c => ?_) <;> refine zc ?_
 ·obtain ⟨b1,o1,x,rfl,hb1,hx,hr⟩:=(hs.ext he).atI hi0 c
  have ht:=take_succ' l hi0 (by omega)
  have hgx : 0 ≤ digitF x:=by
   have:=List.all_eq_true.1 hg (at' l i) (at'_mem l hi0 (by omega))
   rw [← hx] at this;simpa [good] using this
  have h4:=(digitF_le x).2
  have hcb:=cntF_bound (digitF x) (l.take i.toNat)
  rw [List.length_take] at hcb
  refine ⟨b1,o1,rfl,in_ok hA hi0 c,?_⟩
  refine zc ?_
  refine ⟨_,rd_ok hA hr,?_⟩
  refine zc ?_
  refine digit_ok hA _ (he.lowOK hlow) (fun r hd => ⟨_,rfl,?_⟩)
  have hrd:=ho.getInt (i:=r.toNat) (by simp [counts];omega)
  rw [hd,counts_at _ hgx h4] at hrd
  obtain ⟨h2,hw,ho2,hwr⟩:=ho.setInt (i:=(digitF x).toNat) (by simp [counts];omega) (cntF (digitF x) (l.take i.toNat) + 1)
  rw [counts_step _ _ hgx,hx,← ht] at ho2
  refine zc ?_
  refine ⟨in_ok hA (by omega) (by omega),?_⟩
  refine zc ?_
  refine ⟨cntF r (l.take i.toNat),rd_ok hA (by rw [Nat.zero_add,Nat.mul_one,hd];exact hrd),?_⟩
  generalize hcn : cntF r (l.take i.toNat) = cn
  refine zc ?_
  refine ⟨in_ok hA (by omega) (by omega),?_⟩
  refine zc ?_
  refine ⟨h2,wr_ok hA ?_,?_⟩
  ·rw [Nat.zero_add,Nat.mul_one,hd]
   rw [hd] at hcn
   rw [hcn] at hw hcb
   rw [add64 hA (by omega) (by omega)];exact hw
  refine zc ?_
  rw [add64 hA (by omega) (by omega)]
  exact ih c h2 (hwr.ext he hb) (by rw [hwr.next];exact hbn) ho2
 ·rw [List.take_of_length_le (by omega)] at ho
  exact h0 h' he hbn ho
theorem counts_ok {h : AHeap} (hlow : h.low ≤ h.next) {a : Option Addr} {n c : Nat} (hn : n ≤ 1000000) {l : List Int} (hs : Ints h .i64 a n l) {Q : Value → AHeap → Prop}
  (hQ : ∀ e c0 c1 c2 c3 c4 h',e = checkF l → Ext h h' → [c0,c1,c2,c3,c4] = (if e = 0 then counts l else [0,0,0,0,0]) → Q (.tuple #[.agg #[.int .i64 c0,.int .i64 c1,.int .i64 c2,.int .i64 c3,.int .i64 c4],.int .i64 e]) h') : call 19 [.slice a n c] h Q:=by
 have hl:=hs.len
 refine hA.bodyR Try.func19 r19_ok (hA.alike _ _ _ rfl) hlow (zc ?_)
 refine scheck_ok hA hlow hn hs (fun e he => ⟨_,rfl,?_⟩)
 refine zc ?_
 refine br (e ≠ 0) (e_neq hA _ _) (fun c => ?_) (fun c => ?_) <;> refine zc ?_
 ·exact hQ e _ _ _ _ _ _ he (.refl _) (by rw [if_neg c])
 ·have c : e = 0:=Classical.not_not.1 c
  have hg : l.all good = true:=by
   rw [he] at c;unfold checkF at c
   split at c
   ·omega
   ·split at c
    ·assumption
    ·omega
  have ho:=Own.push h 5 ((counts []).map (.int .i64))
  rw [e_push hA,e_next hA]
  refine counts_loop hA hlow hn hs hg (Nat.le_refl _) (fun h' he2 hb2 ho2 => ?_) 0 (by omega) (by omega) _ (.push _ _ _) (by simp [AHeap.push]) (by exact ho)
  refine zc ?_
  have hr:=ho2.readG (o:=0) (n:=5) (by simp [counts])
  refine ⟨_,_,_,_,_,rd_at hA (by rw [hr];rfl),?_⟩
  generalize h0 : cntF 0 l = c0
  generalize h1 : cntF 1 l = c1
  generalize h2 : cntF 2 l = c2
  generalize h3 : cntF 3 l = c3
  generalize h4 : cntF 4 l = c4
  refine zc ?_
  have:=hQ e c0 c1 c2 c3 c4 h' he he2 (by rw [if_pos c,← h0,← h1,← h2,← h3,← h4];rfl)
  rw [c] at this
  exact this
end Go.Proofs.Ytcdoknkgbnaefaa
