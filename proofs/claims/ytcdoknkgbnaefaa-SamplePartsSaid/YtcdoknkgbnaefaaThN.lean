import Derived.Test.YtcdoknkgbnaefaaThS
set_option linter.unusedSimpArgs false
set_option linter.unusedVariables false
namespace Go.Proofs.Ytcdoknkgbnaefaa
open Go.Sim
set_option linter.unusedVariables false
set_option maxRecDepth 100000
theorem takeV_good0 (t x : Int) : good (takeV t x) = true:=by
 unfold takeV
 rcases big_vals t x with h | h <;> rw [h] <;> split <;> rfl
theorem check_takes0 (t : Int) {l : List Int} (h : l.length ≤ 256) : checkF (l.map (takeV t)) = 0:=by
 unfold checkF
 rw [if_neg (by simp;omega),if_pos]
 rw [List.all_map,List.all_eq_true]
 exact fun x _ => takeV_good0 t x
theorem digit_take (t x : Int) : digitF (takeV t x) ≠ 0 ∧ ((digitF (takeV t x) = 2 ∨ digitF (takeV t x) = 3) ↔ sz x < t) := by
  unfold takeV big sz
  by_cases a : x < 0
  · rw [if_pos a, if_pos a]
    rw [if_pos (show -x > x by omega)]
    by_cases b : t ≤ -x
    · rw [if_pos b]; exact ⟨by decide, by have : ¬ (-x < t) := by omega
                                          simp [this, digitF]⟩
    · rw [if_neg b]; exact ⟨by decide, by have : -x < t := by omega
                                          simp [this, digitF]⟩
  · rw [if_neg a, if_neg a]
    have e : (if -x > x then -x else x) = x := by split <;> omega
    rw [e]
    by_cases b : t ≤ x
    · rw [if_pos b]; exact ⟨by decide, by have : ¬ (x < t) := by omega
                                          simp [this, digitF]⟩
    · rw [if_neg b]; exact ⟨by decide, by have : x < t := by omega
                                          simp [this, digitF]⟩
theorem cnt_take0 (t : Int) (l : List Int) : cntF 0 (l.map (takeV t)) = 0:=by
 unfold cntF
 rw [List.countP_map]
 have : l.countP ((fun x => decide (digitF x = 0)) ∘ takeV t) = 0:=by
  rw [List.countP_eq_zero]
  intro x _
  simpa using (digit_take t x).1
 rw [this];rfl
theorem cnt_take23N (t : Int) (l : List Int) : (l.map (takeV t)).countP (fun x => decide (digitF x = 2)) + (l.map (takeV t)).countP (fun x => decide (digitF x = 3)) = bel l t:=by
 unfold bel
 induction l with
 | nil => rfl
 | cons x l ih =>
  rw [List.map_cons,List.countP_cons,List.countP_cons,List.countP_cons]
  have h:=(digit_take t x).2
  simp only [decide_eq_true_eq]
  by_cases c : sz x < t
  ·rw [if_pos c]
   rcases h.2 c with e | e
   ·rw [if_pos e,if_neg (show ¬ digitF (takeV t x) = 3 by omega)];omega
   ·rw [if_pos e,if_neg (show ¬ digitF (takeV t x) = 2 by omega)];omega
  ·rw [if_neg c,if_neg (fun e => c (h.1 (.inl e))),if_neg (fun e => c (h.1 (.inr e)))]
   omega
theorem cnt_take23 (t : Int) (l : List Int) : cntF 2 (l.map (takeV t)) + cntF 3 (l.map (takeV t)) = bel l t:=by
 have:=cnt_take23N t l
 unfold cntF
 omega
variable {F : Prims} {call head arith cmp scmp bnot bsame conv neg imax imin ofNat slen place inR nz geZ rd wr push next mkOK nat zeros sadd eqAgg cut slc sslc strAt part app cpy putAt fresh lowered bump wrote addN lt ne fpAll fpApp brk yn rng mget mput mnew bytes clr : _} (hA : AP F ⟨call,head,arith,cmp,scmp,bnot,bsame,conv,neg,imax,imin,ofNat,slen,place,inR,nz,geZ,rd,wr,push,next,mkOK,nat,zeros,sadd,eqAgg,cut,slc,sslc,strAt,part,app,cpy,putAt,fresh,lowered,bump,wrote,addN,lt,ne,fpAll,fpApp,brk,yn,rng,mget,mput,mnew,bytes,clr⟩)
include hA
theorem lenough_ok {h : AHeap} (hlow : h.low ≤ h.next) {a : Option Addr} {n c : Nat} (hn : n ≤ 300) {l : List Int} (hs : Ints h .i64 a n l) (hz : levE l = 0) {u v : Int} {p : Rat} (hp : isF u v p) {t : Int} (t1 : 1 ≤ t) (t2 : t ≤ 1000000) {Q : Value → AHeap → Prop}
  (hQ : ∀ (r : Bool) h',(r = true ↔ en l p t) → Ext h h' → Q (.bool r) h') : call 33 [.slice a n c,.agg #[.int .i64 u,.int .i64 v],.int .i64 t] h Q:=by
 have hl:=hs.len
 obtain ⟨l256,hlev⟩:=levE_zero0 hz
 have e0 : takeE l t = 0:=by unfold takeE;rw [if_pos hz,if_neg (by omega)]
 refine hA.bodyR Try.func33 r33_ok (hA.alike _ _ _ rfl) hlow (zc ?_)
 refine take_ok hA hlow (by omega) hs t (fun e a1 n1 c1 h1 k1 x1 r1 => ⟨_,_,_,_,rfl,?_⟩)
 obtain rfl : e = 0:=by rw [k1,e0]
 rw [if_pos rfl] at r1
 have l1:=r1.len
 rw [List.length_map,hl] at l1
 subst l1
 refine zc ?_
 refine counts_ok hA (x1.lowOK hlow) (by omega) r1 (fun e c0 d1 d2 d3 d4 h2 k2 x2 kc => ⟨_,_,_,_,_,_,rfl,?_⟩)
 obtain rfl : e = 0:=by rw [k2,check_takes0 t l256]
 rw [if_pos rfl] at kc
 unfold counts at kc
 simp only [List.cons.injEq,and_true] at kc
 obtain ⟨z0,_,z2,z3,_⟩:=kc
 rw [cnt_take0] at z0
 have zz:=cnt_take23 t l
 rw [← z2,← z3] at zz
 have y2:=x1.trans x2
 have lowY:=y2.lowOK hlow
 obtain ⟨b,hb⟩ : ∃ z,z = h2.next:=⟨_,rfl⟩
 have ho:=Own.push h2 5 [Value.int .i64 0,.int .i64 0,.int .i64 0,.int .i64 0,.int .i64 0]
 have xp : Ext h2 (h2.push 5 [Value.int .i64 0,.int .i64 0,.int .i64 0,.int .i64 0,.int .i64 0]):=.push _ _ _
 have ltb : h2.next < (h2.push 5 [Value.int .i64 0,.int .i64 0,.int .i64 0,.int .i64 0,.int .i64 0]).next:=by simp [AHeap.push]
 refine zc ?_
 rw [e_push hA,e_next hA]
 generalize h2.push 5 [Value.int .i64 0,.int .i64 0,.int .i64 0,.int .i64 0,.int .i64 0] = h3 at *
 rw [← hb] at ho ltb ⊢
 obtain ⟨h4,w1,w2,w3⟩:=ho.write (o:=0) (vs:=[.int .i64 c0,.int .i64 d1,.int .i64 d2,.int .i64 d3,.int .i64 d4]) (by simp)
 have x4 : Ext h2 h4:=w3.ext xp (by omega)
 have lt4 : b < h4.next:=by rw [w3.next];exact ltb
 have ww : wr h3 b 0 [.int .i64 c0,.int .i64 d1,.int .i64 d2,.int .i64 d3,.int .i64 d4] h4:=wr_at hA w1
 have y4:=y2.trans x4
 refine zq ?_
 refine br False (by rw [e_neq hA];rfl) (fun q => q.elim) (fun _ => ?_) <;> refine zc ?_
 refine br False (by rw [e_neq hA];rfl) (fun q => q.elim) (fun _ => ?_) <;> refine zc ?_
 refine br ((n : Int) ≠ n) (by rw [e_neq hA,e_ofNat hA]) (fun q => absurd rfl q) (fun _ => ?_) <;> refine zc ?_
 refine br ((n : Int) = 0) (by rw [e_eql hA,e_ofNat hA]) (fun q => ?_) (fun q => ?_) <;> refine zc ?_
 ·obtain rfl : l = []:=List.length_eq_zero_iff.1 (by omega)
  refine br True (by rw [e_eql hA];rfl) (fun _ => ?_) (fun q => absurd trivial q) <;> refine zc ?_
  refine br True (by rw [e_eql hA];rfl) (fun _ => ?_) (fun q => absurd trivial q) <;> refine zc ?_
  refine br True (by rw [e_eql hA,e_ofNat hA,q];rfl) (fun _ => ?_) (fun q => absurd trivial q) <;> refine zc ?_
  rw [show cmp .eql (ofNat n) 0 = true by rw [e_eql hA,e_ofNat hA,q];rfl]
  exact hQ true h4 ⟨fun _ => by unfold en bel;simp,fun _ => rfl⟩ y4
 have r0 : rd h4 b (place 0 0 1) 1 [.int .i64 c0]:=rd_ok hA (by rw [w2.readG (by simp)];rfl)
 have r2 : rd h4 b (place 0 2 1) 1 [.int .i64 d2]:=rd_ok hA (by rw [w2.readG (by simp)];rfl)
 have r3 : rd h4 b (place 0 3 1) 1 [.int .i64 d3]:=rd_ok hA (by rw [w2.readG (by simp)];rfl)
 refine zq ?_
 have hb : bel l t ≤ l.length:=List.countP_le_length
 obtain ⟨k,hk⟩ : ∃ z : Int,z = d2 + d3:=⟨_,rfl⟩
 have kb : k = bel l t:=by rw [hk,zz]
 rw [e_ofNat hA,show arith .add .i64 d2 d3 = k by rw [hk];exact add64 hA (by omega) (by omega)]
 have lowZ:=x4.lowOK lowY
 refine rmake_ok hA lowZ (by unfold i64;omega) (by unfold i64;omega) (fun a' b' e k1 h5 x5 => ⟨_,_,_,rfl,?_⟩)
 obtain ⟨kf,rfl⟩:=outF_part (by omega) (by omega) (by omega) (by omega) k1
 refine zc ?_
 refine rcmp_ok hA (x5.lowOK lowZ) kf.i64.1 kf.i64.2 hp.i64.1 hp.i64.2 (fun c' r h6 k2 x6 => ⟨_,_,rfl,?_⟩)
 obtain rfl : c' = cmpF ((k : Rat) / ((n : Int) : Rat)) p:=by
  rcases k2 with ⟨w,_⟩ | ⟨p1,q1,w1,w2,w3,_⟩
  ·exact absurd ⟨⟨_,kf⟩,⟨_,hp⟩⟩ w
  ·rw [w3,w1.uniq kf,w2.uniq hp]
 have key:=cmp_part (k:=k) (n:=(n : Int)) (by omega) (p:=p)
 generalize cmpF ((k : Rat) / ((n : Int) : Rat)) p = z at *
 have w6:=w2.ext (x5.trans x6) lt4
 have r6 : rd h6 b (place 0 0 1) 1 [.int .i64 c0]:=rd_ok hA (by rw [w6.readG (by simp)];rfl)
 refine zq ?_
 rw [z0]
 refine br True (by rw [e_eql hA];rfl) (fun _ => ?_) (fun q => absurd trivial q) <;> refine zc ?_
 refine hQ _ h6 ?_ ((y4.trans x5).trans x6)
 rw [e_geq hA,decide_eq_true_eq,key]
 unfold en
 rw [hl,kb]
theorem lparts_ok (hF : ∀ h,F 29 [] h = some (.bool true,h)) {h : AHeap} (hlow : h.low ≤ h.next) {a : Option Addr} {n c : Nat} {l : List Int} (hs : Ints h .i64 a n l) {u v : Int} (iu : i64 u) (iv : i64 v) {Q : Value → AHeap → Prop}
  (hQ : ∀ h',Ext h h' → Q (.bool true) h') : call 6 [.slice a n c,.agg #[.int .i64 u,.int .i64 v]] h Q:=by
 refine hA.bodyR Try.func6 r6_ok (hA.alike _ _ _ rfl) hlow (zc ?_)
 refine hA.prim (hF h) ⟨_,rfl,?_⟩
 refine zc ?_
 refine long_ok hA hlow (fun r hr => ⟨_,rfl,?_⟩)
 refine zc ?_
 refine br (300 < (n : Int)) hr (fun c1 => ?_) (fun c1 => ?_) <;> refine zc ?_
 ·exact hQ h (.refl h)
 have hn : n ≤ 300:=by omega
 refine levels_ok hA hlow (by omega) hs (fun e he => ⟨_,rfl,?_⟩)
 refine zc ?_
 refine br (e ≠ 0) (e_neq hA _ _) (fun c1 => ?_) (fun c1 => ?_) <;> refine zc ?_
 ·exact hQ h (.refl h)
 have hz : levE l = 0:=by omega
 refine rcheck_ok hA hlow iu iv (fun e h1 k1 x1 => ⟨_,rfl,?_⟩)
 refine zc ?_
 refine br (e ≠ 0) (e_neq hA _ _) (fun c1 => ?_) (fun c1 => ?_) <;> refine zc ?_
 ·exact hQ h1 x1
 refine br (u < 0) (e_lss hA _ _) (fun c2 => ?_) (fun c2 => ?_) <;> refine zc ?_
 ·exact hQ h1 x1
 refine br (v < u) (e_gtr hA _ _) (fun c3 => ?_) (fun c3 => ?_) <;> refine zc ?_
 ·exact hQ h1 x1
 obtain ⟨p,hp⟩ : ∃ p,okPart u v p:=by
  rcases k1 with ⟨_,⟨p,w⟩⟩ | ⟨w,_⟩
  ·exact ⟨p,w,by omega,by omega⟩
  ·omega
 rw [show bnot true = false by rw [e_bnot hA];rfl]
 refine zc ?_
 refine thr_ok hA (x1.lowOK hlow) hn (hs.ext x1) iu iv (fun T e h2 k2 x2 => ⟨_,_,rfl,?_⟩)
 have y2:=x1.trans x2
 have k2 : ThrOk l p T e:=by
  rcases k2 with ⟨w,_⟩ | ⟨_,w,_⟩ | ⟨_,p',q,w⟩
  ·exact absurd hz w
  ·exact absurd ⟨p,hp⟩ w
  ·obtain rfl:=q.1.uniq hp.1
   exact w
 obtain ⟨l256,hlev⟩:=levE_zero0 hz
 refine zc ?_
 rcases k2 with ⟨T2,lt,rfl⟩ | ⟨no,rfl,rfl⟩
 rotate_left
 ·refine br True (by rw [e_neq hA];rfl) (fun _ => ?_) (fun q => absurd trivial q) <;> refine zc ?_
  refine br True (by rw [e_eql hA];rfl) (fun _ => ?_) (fun q => absurd trivial q) <;> refine zc ?_
  refine enough_ok hA (y2.lowOK hlow) hn (hs.ext y2) hlev hp.1 (fun r h3 k3 x3 => ⟨_,rfl,?_⟩)
  obtain rfl : r = false:=by
   cases r with
   | false => rfl
   | true => exact absurd (k3.1 rfl) (no 1000000 (by omega) (by omega))
  refine zc ?_
  rw [show bnot false = true by rw [e_bnot hA];rfl]
  exact hQ h3 (y2.trans x3)
 have T1:=lt.one
 refine br False (by rw [e_neq hA];rfl) (fun q => q.elim) (fun _ => ?_) <;> refine zc ?_
 refine br (T < 1) (by rw [e_lss hA]) (fun q => by omega) (fun _ => ?_) <;> refine zc ?_
 refine br (1000000 < T) (by rw [e_gtr hA]) (fun q => by omega) (fun _ => ?_) <;> refine zc ?_
 refine lenough_ok hA (y2.lowOK hlow) hn (hs.ext y2) hz hp.1 T1 T2 (fun r h3 k3 x3 => ⟨_,rfl,?_⟩)
 have y3:=y2.trans x3
 obtain rfl : r = true:=k3.2 lt.ok
 refine zc ?_
 rw [show bnot true = false by rw [e_bnot hA];rfl]
 refine zc ?_
 refine br (T = 1) (by rw [e_eql hA]) (fun q => ?_) (fun q => ?_) <;> refine zc ?_
 ·exact hQ h3 y3
 rw [sub64 hA (by omega) (by omega)]
 refine lenough_ok hA (y3.lowOK hlow) hn (hs.ext y3) hz hp.1 (t:=T - 1) (by omega) (by omega) (fun r h4 k4 x4 => ⟨_,rfl,?_⟩)
 obtain rfl : r = false:=by
  cases r with
  | false => rfl
  | true => exact absurd (k4.1 rfl) (lt.min (T - 1) (by omega) (by omega))
 refine zc ?_
 rw [show bnot false = true by rw [e_bnot hA];rfl]
 exact hQ h4 (y3.trans x4)
end Go.Proofs.Ytcdoknkgbnaefaa
