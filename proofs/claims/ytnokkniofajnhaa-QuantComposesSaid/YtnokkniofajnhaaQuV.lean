import Derived.Test.YtnokkniofajnhaaQuK
import Derived.Test.YtnokkniofajnhaaQuP
import Derived.Test.YtnokkniofajnhaaSymRowsA
import Derived.Test.YtnokkniofajnhaaSortP
set_option linter.unusedSimpArgs false
set_option linter.unusedVariables false
namespace Go.Proofs.Ytnokkniofajnhaa
open Go.Sim
set_option maxRecDepth 100000
def Kr.rev (k : Kr) : Kr:=⟨k.yn,k.yd,k.xn,k.xd⟩
def turnR (l : List Kr) : List Kr:=l.map Kr.rev
theorem kr_len (k : Kr) : k.cells.length = 4:=rfl
theorem kr_ok (k : Kr) : k.cells.all cellOK = true:=rfl
theorem turnR_len (l : List Kr) : (turnR l).length = l.length:=by unfold turnR;simp
theorem toK_turn (l : List Kr) : toK (turnR l) = turnK (toK l):=by unfold toK turnR turnK;rw [List.map_map,List.map_map];rfl
theorem allI64.turn {l : List Kr} (h : allI64 l) : allI64 (turnR l):=by
 intro i h0 h1
 rw [turnR_len] at h1
 unfold turnR
 rw [gt_map Kr.rev l h0 h1]
 obtain ⟨a,b,c,d⟩:=h i h0 h1
 exact ⟨c,d,a,b⟩
theorem GoodL.turn {l : List Kr} (g : GoodL l) : GoodL (turnR l):=by
 refine ⟨by rw [turnR_len];exact g.two,by rw [turnR_len];exact g.most,fun i i0 i1 => ?_,fun i i0 i1 => ?_⟩ <;> rw [turnR_len] at i1
 ·unfold turnR
  rw [gt_map Kr.rev l i0 i1]
  exact ⟨(g.small i i0 i1).2,(g.small i i0 i1).1⟩
 ·rw [toK_turn]
  have:=g.corr.turn.incr i i0 (by rw [turn_len,toK_len];exact i1)
  exact this
variable {F : Prims} {call head arith cmp scmp bnot bsame conv neg imax imin ofNat slen place inR nz geZ rd wr push next mkOK nat zeros sadd eqAgg cut slc sslc strAt part app cpy putAt fresh lowered bump wrote addN lt ne fpAll fpApp brk yn rng mget mput mnew bytes clr : _} (hA : AP F ⟨call,head,arith,cmp,scmp,bnot,bsame,conv,neg,imax,imin,ofNat,slen,place,inR,nz,geZ,rd,wr,push,next,mkOK,nat,zeros,sadd,eqAgg,cut,slc,sslc,strAt,part,app,cpy,putAt,fresh,lowered,bump,wrote,addN,lt,ne,fpAll,fpApp,brk,yn,rng,mget,mput,mnew,bytes,clr⟩)
include hA
theorem long_ok {h : AHeap} (hlow : h.low ≤ h.next) {a : Option Addr} {n c : Nat} {Q : Value → AHeap → Prop} (hQ : ∀ r : Bool,(r = true ↔ 60 < n) → Q (.bool r) h) : call 9 [.slice a n c] h Q:=by
 refine hA.bodyR Try.func9 r9_ok (hA.alike _ _ _ rfl) hlow (zc ?_)
 refine hQ _ ?_
 rw [e_gtr hA,e_ofNat hA,decide_eq_true_iff]
 omega
theorem same_loop {h0 : AHeap} (hlow : h0.low ≤ h0.next) {a a' : Option Addr} {n c c' : Nat} {l l' : List Kr} (hl : Ks h0 a n l) (hi : allI64 l) (hl' : Ks h0 a' n l') (hi' : allI64 l') (hn : n ≤ 100000) {Q : Exit → SS → Prop}
  (hbad : ∀ h',l ≠ l' → Ext h0 h' → ∀ e kn K,Q .ret ⟨(4,.bool false) :: e,kn,K,h'⟩) (hok : ∀ h' kn,l = l' → Ext h0 h' → Q (.exit 0) ⟨[],kn,[],h'⟩) :
  ∀ (m : Nat) (i : Int) (h : AHeap),(n - i).toNat ≤ m → 0 ≤ i → i ≤ n → (∀ j : Int,0 ≤ j → j < i → gt l j = gt l' j) → Ext h0 h →
   head 16 4 0 ⟨[(0,.slice a n c),(1,.slice a' n c'),(5,.int .i64 i)],0,[],h⟩ Q:=by
 have hlen:=hl.len
 have hlen':=hl'.len
 intro m
 induction m with
 | zero =>
  intro i h hm i0 i1 hall he
  refine hA.roundR Try.func16 r16_ok (zc ?_)
  refine br (i < n) (by rw [e_lss hA,e_ofNat hA]) (fun c1 => by omega) (fun c1 => ?_) <;> refine zc ?_
  exact hok h _ (gt_ext (by omega) (fun j j0 j1 => hall j j0 (by omega))) he
 | succ m ih =>
 intro i h hm i0 i1 hall he
 by_cases ci : i < n
 rotate_left
 ·refine hA.roundR Try.func16 r16_ok (zc ?_)
  refine br (i < n) (by rw [e_lss hA,e_ofNat hA]) (fun c1 => absurd c1 ci) (fun c1 => ?_) <;> refine zc ?_
  exact hok h _ (gt_ext (by omega) (fun j j0 j1 => hall j j0 (by omega))) he
 obtain ⟨b,o,rfl⟩:=ks_some hl (by omega)
 obtain ⟨b',o',rfl⟩:=ks_some hl' (by omega)
 obtain ⟨h9,hh9⟩ : ∃ z,z = bump h 9:=⟨_,rfl⟩
 have e9 : Ext h0 h9:=by rw [hh9];exact he.trans (ext_bump hA _ _)
 obtain ⟨_,a1,a2,a3,a4,hg,_,_,_,_,r1,_,_⟩:=ks_in (hl.ext e9) hi (i:=i) i0 ci
 obtain ⟨_,p1,p2,p3,p4,hp,_,_,_,_,q1,_,_⟩:=ks_in (hl'.ext e9) hi' (i:=i) i0 ci
 have r2:=rd_ok hA r1
 have q2:=rd_ok hA q1
 obtain ⟨r,hr1,hr2⟩:=eqK a1 a2 a3 a4 p1 p2 p3 p4
 refine hA.roundR Try.func16 r16_ok (zc ?_)
 refine br (i < n) (by rw [e_lss hA,e_ofNat hA]) (fun c1 => ?_) (fun c1 => absurd ci c1) <;> refine zc ?_
 rw [← hh9]
 refine zq ?_
 rw [e_eqAgg hA]
 refine ⟨guardK,r,hr1,?_⟩
 have same : gt l i = gt l' i ↔ r = true:=by
  rw [hg,hp,hr2]
  constructor
  ·intro q;cases q;exact ⟨⟨rfl,rfl⟩,rfl,rfl⟩
  ·rintro ⟨⟨rfl,rfl⟩,rfl,rfl⟩;rfl
 cases r with
 | true =>
  refine zc ?_
  rw [show bnot true = false by rw [e_bnot hA];rfl]
  refine zc ?_
  rw [add64 hA (by omega) (by omega)]
  refine ih (i + 1) h9 (by omega) (by omega) (by omega) (fun j j0 j1 => ?_) e9
  by_cases z : j = i
  ·subst z;exact same.2 rfl
  ·exact hall j j0 (by omega)
 | false =>
  refine zc ?_
  rw [show bnot false = true by rw [e_bnot hA];rfl]
  refine zc ?_
  exact hbad h9 (fun q => by have:=same.1 (by rw [q]);cases this) e9 _ _ _
theorem same_ok {h : AHeap} (hlow : h.low ≤ h.next) {a a' : Option Addr} {n n' c c' : Nat} {l l' : List Kr} (hl : Ks h a n l) (hi : allI64 l) (hl' : Ks h a' n' l') (hi' : allI64 l') (hn : n ≤ 100000) {Q : Value → AHeap → Prop}
  (hQ : ∀ (r : Bool) h',(r = true ↔ l = l') → Ext h h' → Q (.bool r) h') : call 16 [.slice a n c,.slice a' n' c'] h Q:=by
 have hlen:=hl.len
 have hlen':=hl'.len
 refine hA.bodyR Try.func16 r16_ok (hA.alike _ _ _ rfl) hlow (zc ?_)
 refine br ((n : Int) ≠ n') (by rw [e_neq hA,e_ofNat hA,e_ofNat hA]) (fun c1 => ?_) (fun c1 => ?_) <;> refine zc ?_
 ·exact hQ false h ⟨(fun q => by cases q),fun q => by rw [q] at hlen;omega⟩ (.refl h)
 obtain rfl : n = n':=by omega
 refine same_loop hA hlow hl hi hl' hi' hn (fun h' hg x' e kn K => ?_) (fun h' kn hg x' => ?_) n 0 h (by omega) (by omega) (by omega) (fun j j0 j1 => by omega) (.refl h)
 ·refine zc ?_
  exact hQ false h' ⟨(fun q => by cases q),fun q => absurd q hg⟩ x'
 ·refine zc ?_
  exact hQ true h' ⟨fun _ => hg,fun _ => rfl⟩ x'
omit hA in
theorem copies_kr (n : Nat) : copies [.int .i64 0,.int .i64 0,.int .i64 0,.int .i64 0] n = (List.replicate n (default : Kr)).flatMap Kr.cells:=by
 induction n with
 | zero => rfl
 | succ n ih => rw [List.replicate_succ,List.flatMap_cons,← ih];rfl
theorem inv_loop {h0 : AHeap} (hlow : h0.low ≤ h0.next) {a : Option Addr} {n c rb : Nat} {l : List Kr} (hl : Ks h0 a n l) (hi : allI64 l) (hn : n ≤ 100000) (hrb : h0.next ≤ rb) {Q : Exit → SS → Prop}
  (hQ : ∀ h' kn,Own h' rb 4 ((turnR l).flatMap Kr.cells) → rb < h'.next → Ext h0 h' → Q (.exit 0) ⟨[(3,.slice (some ⟨rb,0,none⟩) n n)],kn,[],h'⟩) :
  ∀ (m : Nat) (i : Int) (h : AHeap) (r : List Kr),(n - i).toNat ≤ m → 0 ≤ i → i ≤ n → r.length = n → (∀ j : Int,0 ≤ j → j < i → gt r j = (gt l j).rev) → Own h rb 4 (r.flatMap Kr.cells) → rb < h.next → Ext h0 h →
   head 37 3 0 ⟨[(3,.slice (some ⟨rb,0,none⟩) n n),(9,.slice a n c),(10,.int .i64 (ofNat n)),(11,.int .i64 i)],0,[],h⟩ Q:=by
 have hlen:=hl.len
 have done : ∀ (i : Int) (h : AHeap) (r : List Kr),¬ i < n → r.length = n → (∀ j : Int,0 ≤ j → j < i → gt r j = (gt l j).rev) → Own h rb 4 (r.flatMap Kr.cells) → Own h rb 4 ((turnR l).flatMap Kr.cells):=by
  intro i h r hc hr hall ho
  have : turnR l = r:=gt_ext (by rw [turnR_len];omega) (fun j j0 j1 => by
   rw [turnR_len] at j1
   rw [hall j j0 (by omega)]
   exact gt_map Kr.rev l j0 j1)
  rw [this];exact ho
 intro m
 induction m with
 | zero =>
  intro i h r hm i0 i1 hr hall ho hb he
  refine hA.roundR Try.func37 r37_ok (zc ?_)
  refine br (i < n) (by rw [e_lss hA,e_ofNat hA]) (fun c1 => by omega) (fun c1 => ?_) <;> refine zc ?_
  exact hQ h _ (done i h r c1 hr hall ho) hb he
 | succ m ih =>
 intro i h r hm i0 i1 hr hall ho hb he
 by_cases ci : i < n
 rotate_left
 ·refine hA.roundR Try.func37 r37_ok (zc ?_)
  refine br (i < n) (by rw [e_lss hA,e_ofNat hA]) (fun c1 => absurd c1 ci) (fun c1 => ?_) <;> refine zc ?_
  exact hQ h _ (done i h r c1 hr hall ho) hb he
 obtain ⟨b,o,rfl⟩:=ks_some hl (by omega)
 obtain ⟨_,a1,a2,a3,a4,hg,_,_,_,_,r1,_,_⟩:=ks_in (hl.ext he) hi (i:=i) i0 ci
 have r2:=rd_ok hA r1
 obtain ⟨h',p1,p2,p3⟩:=Own.setRow ho kr_len (i:=i.toNat) (by omega) ⟨a3,a4,a1,a2⟩
 have p4 : wr h rb (place 0 i 4) [.int .i64 a3,.int .i64 a4,.int .i64 a1,.int .i64 a2] h':=by
  rw [e_wr hA,e_place hA,Nat.zero_add]
  exact p1
 refine hA.roundR Try.func37 r37_ok (zc ?_)
 refine br (i < n) (by rw [e_lss hA,e_ofNat hA]) (fun c1 => ?_) (fun c1 => absurd ci c1) <;> refine zc ?_
 refine zq ?_
 rw [add64 hA (by omega) (by omega)]
 refine ih (i + 1) h' _ (by omega) (by omega) (by omega) (by rw [List.length_set];exact hr) (fun j j0 j1 => ?_) p2 (by rw [p3.next];exact hb) (p3.ext he hrb)
 rw [gt_set r i0 j0 (by omega)]
 split
 ·rename_i e;rw [e,hg];rfl
 ·exact hall j j0 (by omega)
theorem inv_ok {h : AHeap} (hlow : h.low ≤ h.next) {a : Option Addr} {n c : Nat} {l : List Kr} (hl : Ks h a n l) (hi : allI64 l) (hn : n ≤ 100000) {Q : Value → AHeap → Prop}
  (hQ : ∀ b' h',Own h' b' 4 ((turnR l).flatMap Kr.cells) → h.next ≤ b' → b' < h'.next → Ext h h' → Q (.slice (some ⟨b',0,none⟩) n n) h') : call 37 [.slice a n c] h Q:=by
 have hlen:=hl.len
 refine hA.bodyR Try.func37 r37_ok (hA.alike _ _ _ rfl) hlow (zc ?_)
 have en : ofNat n = (n : Int):=e_ofNat hA n
 rw [en]
 refine ⟨mk_ok hA (by omega) (by omega) (by omega),?_⟩
 refine zc ?_
 have e2 : nat (Int.ofNat n) = n:=by rw [e_nat hA];rfl
 have e3 : zeros [Value.int .i64 0,Value.int .i64 0,Value.int .i64 0,Value.int .i64 0] (Int.ofNat n) = (List.replicate n (default : Kr)).flatMap Kr.cells:=by rw [e_zeros hA];exact copies_kr n
 rw [e2,e3,e_next hA,e_push hA]
 have e1 : Ext h (h.push 4 ((List.replicate n (default : Kr)).flatMap Kr.cells)):=.push _ _ _
 have o1:=Own.push h 4 ((List.replicate n (default : Kr)).flatMap Kr.cells)
 have n1 : (h.push 4 ((List.replicate n (default : Kr)).flatMap Kr.cells)).next = h.next + 1:=rfl
 generalize h.push 4 ((List.replicate n (default : Kr)).flatMap Kr.cells) = h1 at *
 obtain ⟨rb,hrb⟩ : ∃ z,z = h.next:=⟨_,rfl⟩
 rw [← hrb] at o1 ⊢
 refine inv_loop hA hlow hl hi hn (rb:=rb) (by omega) (fun h' kn ho hb x' => ?_) n 0 h1 _ (by omega) (by omega) (by omega) (by simp) (fun j j0 j1 => by omega) o1 (by omega) e1
 refine zc ?_
 exact hQ rb h' ho (by omega) hb x'
theorem turned_loop {h0 : AHeap} (hlow : h0.low ≤ h0.next) {a : Option Addr} {n c : Nat} {l : List Kr} (hl : Ks h0 a n l) (hi : allI64 l) (hn : n ≤ 10000) {Q : Exit → SS → Prop}
  (hQ : ∀ h' a' c' kn,Apd h' 4 a' n c' ((turnR l).flatMap Kr.cells) → From h0.next a' → Ext h0 h' → Q (.exit 0) ⟨[(3,.slice a' n c')],kn,[],h'⟩) :
  ∀ (m : Nat) (i : Int) (k : Nat) (h : AHeap) (a' : Option Addr) (c' : Nat),(n - i).toNat ≤ m → 0 ≤ i → i ≤ n → (k : Int) = i → Apd h 4 a' k c' (((turnR l).take i.toNat).flatMap Kr.cells) → From h0.next a' → Ext h0 h →
   head 38 3 0 ⟨[(0,.slice a n c),(3,.slice a' k c'),(4,.int .i64 i)],0,[],h⟩ Q:=by
 have hlen:=hl.len
 have done : ∀ (i : Int) (k : Nat) (h : AHeap) (a' : Option Addr) (c' : Nat),¬ i < n → i ≤ n → (k : Int) = i → Apd h 4 a' k c' (((turnR l).take i.toNat).flatMap Kr.cells) → k = n ∧ Apd h 4 a' n c' ((turnR l).flatMap Kr.cells):=by
  intro i k h a' c' hc hi hk ho
  obtain rfl : k = n:=by omega
  rw [List.take_of_length_le (by rw [turnR_len];omega)] at ho
  exact ⟨rfl,ho⟩
 intro m
 induction m with
 | zero =>
  intro i k h a' c' hm i0 i1 hk ho hf he
  obtain ⟨rfl,ho'⟩:=done i k h a' c' (by omega) i1 hk ho
  refine hA.roundR Try.func38 r38_ok (zc ?_)
  refine br (i < k) (by rw [e_lss hA,e_ofNat hA]) (fun c1 => by omega) (fun c1 => ?_) <;> refine zc ?_
  exact hQ h a' c' _ ho' hf he
 | succ m ih =>
 intro i k h a' c' hm i0 i1 hk ho hf he
 by_cases ci : i < n
 rotate_left
 ·obtain ⟨rfl,ho'⟩:=done i k h a' c' (by omega) i1 hk ho
  refine hA.roundR Try.func38 r38_ok (zc ?_)
  refine br (i < k) (by rw [e_lss hA,e_ofNat hA]) (fun c1 => by omega) (fun c1 => ?_) <;> refine zc ?_
  exact hQ h a' c' _ ho' hf he
 obtain ⟨b,o,rfl⟩:=ks_some hl (by omega)
 obtain ⟨h9,hh9⟩ : ∃ z,z = bump h 15:=⟨_,rfl⟩
 have x9 : Ext h h9:=by rw [hh9];exact ext_bump hA _ _
 have e9:=he.trans x9
 obtain ⟨_,a1,a2,a3,a4,hg,_,_,_,_,_,r1,r2⟩:=ks_in (hl.ext e9) hi (i:=i) i0 ci
 have q1:=rd_fld hA r1
 have q2:=rd_fld hA r2
 refine hA.roundR Try.func38 r38_ok (zc ?_)
 refine br (i < n) (by rw [e_lss hA,e_ofNat hA]) (fun c1 => ?_) (fun c1 => absurd ci c1) <;> refine zc ?_
 rw [← hh9]
 refine zq ?_
 refine appD_ok hA T22 kr_len (by omega) kr_ok hlow he (by omega) hh9 (v:=⟨a3,a4,a1,a2⟩) ho hf (by omega) (fun a2' c2' h2' hp2 hf2 x2 => ?_)
 refine zc ?_
 rw [add64 hA (by omega) (by omega)]
 refine ih (i + 1) (k + 1) _ a2' c2' (by omega) (by omega) (by omega) (by omega) ?_ hf2 x2
 rw [gt_take (turnR l) i0 (by rw [turnR_len];omega),show gt (turnR l) i = ⟨a3,a4,a1,a2⟩ by unfold turnR;rw [gt_map Kr.rev l i0 (by omega),hg];rfl]
 exact hp2
theorem turned_ok {h : AHeap} (hlow : h.low ≤ h.next) {a : Option Addr} {n c : Nat} {l : List Kr} (hl : Ks h a n l) (hi : allI64 l) (hn : n ≤ 10000) {Q : Value → AHeap → Prop}
  (hQ : ∀ a' c' h',Ks h' a' n (turnR l) → Ext h h' → Q (.slice a' n c') h') : call 38 [.slice a n c] h Q:=by
 refine hA.bodyR Try.func38 r38_ok (hA.alike _ _ _ rfl) hlow (zc ?_)
 refine turned_loop hA hlow hl hi hn (fun h' a' c' kn hp hf x' => ?_) n 0 0 h none 0 (by omega) (by omega) (by omega) rfl (by simpa using Apd.nil h 4) (.none _) (.refl h)
 refine zc ?_
 exact hQ a' c' h' ⟨hp.cells,kr_len,by omega⟩ x'
end Go.Proofs.Ytnokkniofajnhaa
namespace Go.Proofs.Ytnokkniofajnhaa
open Go.Sim
set_option maxRecDepth 100000
def ValIs (l : List Kr) (xn xd u v e : Int) : Prop:=
 (¬ GoodL l ∧ CheckIs l e ∧ u = 0 ∧ v = 0) ∨ (GoodL l ∧ ¬ okF xn xd ∧ u = 0 ∧ v = 0 ∧ e = 8) ∨ (GoodL l ∧ okF xn xd ∧ ¬ smallF 10000 xn xd ∧ u = 0 ∧ v = 0 ∧ e = 16) ∨
 (GoodL l ∧ smallF 10000 xn xd ∧ ¬ (kx (toK l) 0 ≤ rq xn xd ∧ rq xn xd ≤ kx (toK l) (l.length - 1)) ∧ u = 0 ∧ v = 0 ∧ e = 6) ∨
 (GoodL l ∧ smallF 10000 xn xd ∧ (kx (toK l) 0 ≤ rq xn xd ∧ rq xn xd ≤ kx (toK l) (l.length - 1)) ∧ ∃ q,isF u v q ∧ ValQ (toK l) (rq xn xd) q ∧ e = 0)
theorem ValIs.uniq {l : List Kr} {xn xd u v e u' v' e' : Int} (h : ValIs l xn xd u v e) (k : ValIs l xn xd u' v' e') : u = u' ∧ v = v' ∧ e = e':=by
 rcases h with ⟨a,a1,rfl,rfl⟩ | ⟨a,a1,rfl,rfl,rfl⟩ | ⟨a,a1,a2,rfl,rfl,rfl⟩ | ⟨a,a1,a2,rfl,rfl,rfl⟩ | ⟨a,a1,a2,q,a3,a4,rfl⟩ <;> rcases k with ⟨b,b1,rfl,rfl⟩ | ⟨b,b1,rfl,rfl,rfl⟩ | ⟨b,b1,b2,rfl,rfl,rfl⟩ | ⟨b,b1,b2,rfl,rfl,rfl⟩ | ⟨b,b1,b2,q',b3,b4,rfl⟩ <;>
  first | exact ⟨rfl,rfl,rfl⟩ | exact absurd a b | exact absurd b a | exact ⟨rfl,rfl,a1.uniq b1⟩ | exact absurd a1 b1 | exact absurd b1 a1 | exact absurd a1.1 b1 | exact absurd b1.1 a1 | exact absurd a1 b2 | exact absurd b1 a2 | exact absurd a2 b2 | exact absurd b2 a2 | skip
 obtain rfl:=a4.uniq a.corr b4
 exact ⟨a3.1.trans b3.1.symm,a3.2.1.trans b3.2.1.symm,rfl⟩
theorem CheckIs.good {l : List Kr} {e : Int} (h : CheckIs l e) : e = 0 ↔ GoodL l:=by
 rcases h with ⟨a,rfl⟩ | ⟨a,b,rfl⟩ | ⟨a,rfl⟩
 ·exact ⟨fun q => by omega,fun g => by have:=g.most;omega⟩
 ·exact ⟨fun q => by omega,fun g => absurd g b⟩
 ·exact ⟨fun _ => a,fun _ => rfl⟩
variable {F : Prims} {call head arith cmp scmp bnot bsame conv neg imax imin ofNat slen place inR nz geZ rd wr push next mkOK nat zeros sadd eqAgg cut slc sslc strAt part app cpy putAt fresh lowered bump wrote addN lt ne fpAll fpApp brk yn rng mget mput mnew bytes clr : _} (hA : AP F ⟨call,head,arith,cmp,scmp,bnot,bsame,conv,neg,imax,imin,ofNat,slen,place,inR,nz,geZ,rd,wr,push,next,mkOK,nat,zeros,sadd,eqAgg,cut,slc,sslc,strAt,part,app,cpy,putAt,fresh,lowered,bump,wrote,addN,lt,ne,fpAll,fpApp,brk,yn,rng,mget,mput,mnew,bytes,clr⟩)
include hA
theorem value_ok {h : AHeap} (hlow : h.low ≤ h.next) {a : Option Addr} {n c : Nat} {l : List Kr} (hl : Ks h a n l) (hi : allI64 l) {xn xd : Int} (hn : i64 xn) (hd : i64 xd) {Q : Value → AHeap → Prop}
  (hQ : ∀ u v e h',ValIs l xn xd u v e → Ext h h' → Q (.tuple #[.agg #[.int .i64 u,.int .i64 v],.int .i64 e]) h') : call 10 [.slice a n c,.agg #[.int .i64 xn,.int .i64 xd]] h Q:=by
 have hlen:=hl.len
 refine hA.bodyR Try.func10 r10_ok (hA.alike _ _ _ rfl) hlow (zc ?_)
 refine qcheck_ok hA hlow hl hi (fun e1 h1 k1 x1 => ⟨_,rfl,?_⟩)
 have l1:=x1.lowOK hlow
 refine zc ?_
 refine br (e1 ≠ 0) (by rw [e_neq hA]) (fun c1 => ?_) (fun c1 => ?_) <;> refine zc ?_
 ·exact hQ _ _ _ _ (.inl ⟨fun g => c1 (k1.good.2 g),k1,rfl,rfl⟩) x1
 have g : GoodL l:=k1.good.1 (by omega)
 refine check_ok hA l1 hn hd (fun e2 h2 k2 x2 => ⟨_,rfl,?_⟩)
 have y2:=x1.trans x2
 have l2:=y2.lowOK hlow
 refine zc ?_
 refine br (e2 ≠ 0) (by rw [e_neq hA]) (fun c2 => ?_) (fun c2 => ?_) <;> refine zc ?_
 ·exact hQ _ _ _ _ (.inr (.inl ⟨g,by rcases k2 with ⟨q,_⟩ | ⟨_,q⟩;exact absurd q c2;exact q,rfl,rfl,rfl⟩)) y2
 have hok : okF xn xd:=by rcases k2 with ⟨_,q⟩ | ⟨q,_⟩;exact q;omega
 refine small_ok' hA l2 hn hd (by omega) (fun b3 h3 k3 x3 => ⟨_,rfl,?_⟩)
 have y3:=y2.trans x3
 have l3:=y3.lowOK hlow
 refine zc ?_
 refine br (b3 = false) (by rw [e_bnot hA];cases b3 <;> rfl) (fun c3 => ?_) (fun c3 => ?_) <;> refine zc ?_
 ·exact hQ _ _ _ _ (.inr (.inr (.inl ⟨g,hok,(fun w => by have:=k3.2 w;rw [c3] at this;cases this),rfl,rfl,rfl⟩))) y3
 have hs : smallF 10000 xn xd:=k3.1 (by cases b3 with | true => rfl | false => exact absurd rfl c3)
 have g1:=g.two
 have g2:=g.most
 obtain ⟨b,o,rfl⟩:=ks_some hl (by omega)
 obtain ⟨h9,hh9⟩ : ∃ z,z = bump h3 19:=⟨_,rfl⟩
 have e9 : Ext h h9:=by rw [hh9];exact y3.trans (ext_bump hA _ _)
 have l9:=e9.lowOK hlow
 rw [← hh9]
 obtain ⟨_,a1,a2,a3,a4,hg1,_,_,_,_,_,r1,_⟩:=ks_in (hl.ext e9) hi (i:=0) (by omega) (by omega)
 have q1:=rd_fld hA r1
 obtain ⟨i1,_⟩:=g.is (i:=0) (by omega) (by omega)
 rw [hg1] at i1
 replace i1 : isF a1 a2 _:=i1
 have out : ¬ (kx (toK l) 0 ≤ rq xn xd ∧ rq xn xd ≤ kx (toK l) (l.length - 1)) → ∀ h',Ext h h' → Q (.tuple #[.agg #[.int .i64 0,.int .i64 0],.int .i64 6]) h':=fun w h' x => hQ _ _ _ _ (.inr (.inr (.inr (.inl ⟨g,hs,w,rfl,rfl,rfl⟩)))) x
 refine zq ?_
 refine qorder_ok hA (low_fresh hA h9) hok.is i1 (fun r h10 hr x10 => ⟨_,rfl,?_⟩)
 refine zc ?_
 obtain ⟨h11,hh11⟩ : ∃ z,z = lowered h9 h10:=⟨_,rfl⟩
 have e11 : Ext h h11:=by rw [hh11];exact ext_low hA hlow e9 x10
 have l11:=e11.lowOK hlow
 rw [← hh11]
 obtain ⟨nn,hnn⟩ : ∃ z : Int,z = n - 1:=⟨_,rfl⟩
 have en : arith .sub .i64 (ofNat n) 1 = nn:=by rw [e_ofNat hA,hnn];exact sub64 hA (by omega) (by omega)
 obtain ⟨_,b1,b2,b3',b4,hg2,_,_,_,_,_,r2,_⟩:=ks_in (hl.ext e11) hi (i:=nn) (by omega) (by omega)
 have q2:=rd_fld hA r2
 obtain ⟨i2,_⟩:=g.is (i:=nn) (by omega) (by omega)
 rw [hg2] at i2
 replace i2 : isF b1 b2 _:=i2
 rw [hlen,← hnn] at out
 refine br (r < 0) (by rw [e_lss hA]) (fun c4 => ?_) (fun c4 => ?_) <;> refine zc ?_
 ·rw [hr] at c4
  have lt:=cmpF_lt.1 c4
  refine zq ?_
  exact out (fun w => by have:=w.1;grind) _ e11
 rw [hr] at c4
 have le1 : kx (toK l) 0 ≤ rq xn xd:=Rat.not_lt.1 (fun w => c4 (cmpF_lt.2 w))
 rw [en]
 refine zq ?_
 refine qorder_ok hA (low_fresh hA h11) hok.is i2 (fun s h12 hsv x12 => ⟨_,rfl,?_⟩)
 refine zc ?_
 obtain ⟨h13,hh13⟩ : ∃ z,z = lowered h11 h12:=⟨_,rfl⟩
 have e13 : Ext h h13:=by rw [hh13];exact ext_low hA hlow e11 x12
 have l13:=e13.lowOK hlow
 rw [← hh13]
 refine br (0 < s) (by rw [e_gtr hA]) (fun c5 => ?_) (fun c5 => ?_) <;> refine zc ?_
 ·rw [hsv] at c5
  have lt:=cmpF_gt.1 c5
  exact out (fun w => by have:=w.2;grind) _ e13
 rw [hsv] at c5
 have le2 : rq xn xd ≤ kx (toK l) nn:=Rat.not_lt.1 (fun w => c5 (cmpF_gt.2 w))
 refine corrected_ok hA l13 (hl.ext e13) hi g hok.is hs.bnd le1 (by rw [← hnn];exact le2) (fun u v q h14 hu hv _ x14 => ⟨_,_,_,rfl,?_⟩)
 refine zc ?_
 exact hQ u v 0 _ (.inr (.inr (.inr (.inr ⟨g,hs,⟨le1,by rw [hlen,← hnn];exact le2⟩,q,hu,hv,rfl⟩)))) (e13.trans x14)
theorem rvalue_ok {h : AHeap} (hlow : h.low ≤ h.next) {a : Option Addr} {n c : Nat} {l : List Kr} (hl : Ks h a n l) (hi : allI64 l) {xn xd : Int} (hn : i64 xn) (hd : i64 xd) {Q : Value → AHeap → Prop}
  (hQ : ∀ u v e h',ValIs l xn xd u v e → Ext h h' → Q (.tuple #[.agg #[.int .i64 u,.int .i64 v],.int .i64 e]) h') : call 11 [.slice a n c,.agg #[.int .i64 xn,.int .i64 xd]] h Q:=by
 have hlen:=hl.len
 refine hA.bodyR Try.func11 r11_ok (hA.alike _ _ _ rfl) hlow (zc ?_)
 refine rqcheck_ok hA hlow hl hi (fun e1 h1 k1 x1 => ⟨_,rfl,?_⟩)
 have l1:=x1.lowOK hlow
 refine zc ?_
 refine br (e1 ≠ 0) (by rw [e_neq hA]) (fun c1 => ?_) (fun c1 => ?_) <;> refine zc ?_
 ·refine rqcheck_ok hA l1 (hl.ext x1) hi (fun e1' h1' k1' x1' => ⟨_,rfl,?_⟩)
  refine zc ?_
  exact hQ _ _ _ _ (.inl ⟨fun g => c1 (k1.good.2 g),k1',rfl,rfl⟩) (x1.trans x1')
 have g : GoodL l:=k1.good.1 (by omega)
 refine rcheck_ok hA l1 hn hd (fun e2 h2 k2 x2 => ⟨_,rfl,?_⟩)
 have y2:=x1.trans x2
 have l2:=y2.lowOK hlow
 refine zc ?_
 refine br (e2 ≠ 0) (by rw [e_neq hA]) (fun c2 => ?_) (fun c2 => ?_) <;> refine zc ?_
 ·exact hQ _ _ _ _ (.inr (.inl ⟨g,by rcases k2 with ⟨q,_⟩ | ⟨_,q⟩;exact absurd q c2;exact q,rfl,rfl,rfl⟩)) y2
 have hok : okF xn xd:=by rcases k2 with ⟨_,q⟩ | ⟨q,_⟩;exact q;omega
 refine fits_ok hA l2 hn hd (by omega) (fun b3 h3 k3 x3 => ⟨_,rfl,?_⟩)
 have y3:=y2.trans x3
 have l3:=y3.lowOK hlow
 refine zc ?_
 refine br (b3 = false) (by rw [e_bnot hA];cases b3 <;> rfl) (fun c3 => ?_) (fun c3 => ?_) <;> refine zc ?_
 ·exact hQ _ _ _ _ (.inr (.inr (.inl ⟨g,hok,(fun w => by have:=k3.2 w;rw [c3] at this;cases this),rfl,rfl,rfl⟩))) y3
 have hs : smallF 10000 xn xd:=k3.1 (by cases b3 with | true => rfl | false => exact absurd rfl c3)
 have g1:=g.two
 have g2:=g.most
 obtain ⟨b,o,rfl⟩:=ks_some hl (by omega)
 obtain ⟨h9,hh9⟩ : ∃ z,z = bump h3 17:=⟨_,rfl⟩
 have e9 : Ext h h9:=by rw [hh9];exact y3.trans (ext_bump hA _ _)
 have l9:=e9.lowOK hlow
 rw [← hh9]
 obtain ⟨_,a1,a2,a3,a4,hg1,_,_,_,_,_,r1,_⟩:=ks_in (hl.ext e9) hi (i:=0) (by omega) (by omega)
 have q1:=rd_fld hA r1
 obtain ⟨i1,_⟩:=g.is (i:=0) (by omega) (by omega)
 rw [hg1] at i1
 replace i1 : isF a1 a2 _:=i1
 have out : ¬ (kx (toK l) 0 ≤ rq xn xd ∧ rq xn xd ≤ kx (toK l) (l.length - 1)) → ∀ h',Ext h h' → Q (.tuple #[.agg #[.int .i64 0,.int .i64 0],.int .i64 6]) h':=fun w h' x => hQ _ _ _ _ (.inr (.inr (.inr (.inl ⟨g,hs,w,rfl,rfl,rfl⟩)))) x
 refine zq ?_
 refine qless_ok hA (low_fresh hA h9) hok.is i1 (fun r h10 hr x10 => ⟨_,rfl,?_⟩)
 refine zc ?_
 obtain ⟨h11,hh11⟩ : ∃ z,z = lowered h9 h10:=⟨_,rfl⟩
 have e11 : Ext h h11:=by rw [hh11];exact ext_low hA hlow e9 x10
 have l11:=e11.lowOK hlow
 rw [← hh11]
 obtain ⟨nn,hnn⟩ : ∃ z : Int,z = n - 1:=⟨_,rfl⟩
 have en : arith .sub .i64 (ofNat n) 1 = nn:=by rw [e_ofNat hA,hnn];exact sub64 hA (by omega) (by omega)
 obtain ⟨_,b1,b2,b3',b4,hg2,_,_,_,_,_,r2,_⟩:=ks_in (hl.ext e11) hi (i:=nn) (by omega) (by omega)
 have q2:=rd_fld hA r2
 obtain ⟨i2,_⟩:=g.is (i:=nn) (by omega) (by omega)
 rw [hg2] at i2
 replace i2 : isF b1 b2 _:=i2
 rw [hlen,← hnn] at out
 cases r with
 | true =>
  have lt:=hr.1 rfl
  refine zq ?_
  exact out (fun w => by have:=w.1;grind) _ e11
 | false =>
 have le1 : kx (toK l) 0 ≤ rq xn xd:=Rat.not_lt.1 (fun w => by have:=hr.2 w;cases this)
 refine zc ?_
 rw [en]
 refine zq ?_
 refine qless_ok hA (low_fresh hA h11) i2 hok.is (fun s h12 hsv x12 => ⟨_,rfl,?_⟩)
 refine zc ?_
 obtain ⟨h13,hh13⟩ : ∃ z,z = lowered h11 h12:=⟨_,rfl⟩
 have e13 : Ext h h13:=by rw [hh13];exact ext_low hA hlow e11 x12
 have l13:=e13.lowOK hlow
 rw [← hh13]
 cases s with
 | true =>
  have lt:=hsv.1 rfl
  refine zc ?_
  exact out (fun w => by have:=w.2;grind) _ e13
 | false =>
 have le2 : rq xn xd ≤ kx (toK l) nn:=Rat.not_lt.1 (fun w => by have:=hsv.2 w;cases this)
 refine zc ?_
 refine at_ok hA l13 (hl.ext e13) hi g hok.is hs.bnd le1 (by rw [← hnn];exact le2) (fun u v q h14 hu hv x14 => ⟨_,_,rfl,?_⟩)
 refine zc ?_
 exact hQ u v 0 _ (.inr (.inr (.inr (.inr ⟨g,hs,⟨le1,by rw [hlen,← hnn];exact le2⟩,q,hu,hv,rfl⟩)))) (e13.trans x14)
