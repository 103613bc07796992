import Derived.Test.YtcdoknkgbnaefaaSymFacts
set_option linter.unusedSimpArgs false
set_option linter.unusedVariables false
namespace Go.Proofs.Ytcdoknkgbnaefaa
open Go.Sim
set_option linter.unusedVariables false
set_option maxRecDepth 100000
def digitF (x : Int) : Int:=if x = 0 then 0 else if x = -3 then 1 else if x = -1 then 2 else if x = 1 then 3 else if x = 3 then 4 else -1
def good (x : Int) : Bool:=decide (0 ≤ digitF x)
def checkF (l : List Int) : Int:=if 256 < (l.length : Int) then 4 else if l.all good then 0 else 8
def cntF (d : Int) (l : List Int) : Int:=(l.countP (fun x => decide (digitF x = d)) : Nat)
theorem digitF_le (x : Int) : -1 ≤ digitF x ∧ digitF x ≤ 4:=by unfold digitF;constructor <;> (repeat' split) <;> omega
variable {F : Prims} {call head arith cmp scmp bnot bsame conv neg imax imin ofNat slen place inR nz geZ rd wr push next mkOK nat zeros sadd eqAgg cut slc sslc strAt part app cpy putAt fresh lowered bump wrote addN lt ne fpAll fpApp brk yn rng mget mput mnew bytes clr : _} (hA : AP F ⟨call,head,arith,cmp,scmp,bnot,bsame,conv,neg,imax,imin,ofNat,slen,place,inR,nz,geZ,rd,wr,push,next,mkOK,nat,zeros,sadd,eqAgg,cut,slc,sslc,strAt,part,app,cpy,putAt,fresh,lowered,bump,wrote,addN,lt,ne,fpAll,fpApp,brk,yn,rng,mget,mput,mnew,bytes,clr⟩)
include hA
theorem digit_ok (x : Int) {h : AHeap} (hlow : h.low ≤ h.next) {Q : Value → AHeap → Prop} (hQ : ∀ r,r = digitF x → Q (.int .i64 r) h) : call 36 [.int .i64 x] h Q:=by
 have hQ:=hQ _ rfl
 refine hA.bodyR Try.func36 r36_ok (hA.alike _ _ _ rfl) hlow (zc ?_)
 unfold digitF at hQ
 refine br (x = 0) (e_eql hA _ _) (fun c => ?_) (fun c => ?_) <;> refine zc ?_
 ·rw [if_pos c] at hQ;exact hQ
 rw [if_neg c] at hQ
 refine br (x = -3) (e_eql hA _ _) (fun c => ?_) (fun c => ?_) <;> refine zc ?_
 ·rw [if_pos c] at hQ;exact hQ
 rw [if_neg c] at hQ
 refine br (x = -1) (e_eql hA _ _) (fun c => ?_) (fun c => ?_) <;> refine zc ?_
 ·rw [if_pos c] at hQ;exact hQ
 rw [if_neg c] at hQ
 refine br (x = 1) (e_eql hA _ _) (fun c => ?_) (fun c => ?_) <;> refine zc ?_
 ·rw [if_pos c] at hQ;exact hQ
 rw [if_neg c] at hQ
 refine br (x = 3) (e_eql hA _ _) (fun c => ?_) (fun c => ?_) <;> refine zc ?_
 ·rw [if_pos c] at hQ;exact hQ
 rw [if_neg c] at hQ
 exact hQ
theorem rdigit_ok (x : Int) {h : AHeap} (hlow : h.low ≤ h.next) {Q : Value → AHeap → Prop} (hQ : ∀ r,r = digitF x → Q (.int .i64 r) h) : call 37 [.int .i64 x] h Q:=by
 have hQ:=hQ _ rfl
 refine hA.bodyR Try.func37 r37_ok (hA.alike _ _ _ rfl) hlow (zc ?_)
 unfold digitF at hQ
 refine br (x = 0) (e_eql hA _ _) (fun c => ?_) (fun c => ?_) <;> refine zc ?_
 ·rw [if_pos c] at hQ;exact hQ
 rw [if_neg c] at hQ
 refine br (x = -3) (e_eql hA _ _) (fun c => ?_) (fun c => ?_) <;> refine zc ?_
 ·rw [if_pos c] at hQ;exact hQ
 rw [if_neg c] at hQ
 refine br (x = -1) (e_eql hA _ _) (fun c => ?_) (fun c => ?_) <;> refine zc ?_
 ·rw [if_pos c] at hQ;exact hQ
 rw [if_neg c] at hQ
 refine br (x = 1) (e_eql hA _ _) (fun c => ?_) (fun c => ?_) <;> refine zc ?_
 ·rw [if_pos c] at hQ;exact hQ
 rw [if_neg c] at hQ
 refine br (x = 3) (e_eql hA _ _) (fun c => ?_) (fun c => ?_) <;> refine zc ?_
 ·rw [if_pos c] at hQ;exact hQ
 rw [if_neg c] at hQ
 exact hQ
theorem check_loop {h : AHeap} (hlow : h.low ≤ h.next) {a : Option Addr} {n c : Nat} (hn : n ≤ 1000000) {l : List Int} (hs : Ints h .i64 a n l) {Q : Exit → SS → Prop}
  (h0 : l.all good = true → Q (.exit 0) ⟨[],0,[],h⟩) (h1 : ∀ e,l.all good = false → Q .ret ⟨(2,.int .i64 8) :: e,0,[],h⟩) :
  ∀ (i : Int),0 ≤ i → i ≤ n → (l.take i.toNat).all good = true → head 23 4 0 ⟨[(8,.slice a n c),(9,.int .i64 (ofNat n)),(10,.int .i64 i)],0,[],h⟩ Q:=by
 have hl:=hs.len
 refine countUp (fun i hi0 hin ih hj => ?_)
 refine hA.roundR Try.func23 r23_ok (zc ?_)
 refine br (i < n) (by rw [e_lss hA,e_ofNat hA]) (fun c => ?_) (fun c => ?_) <;> refine zc ?_
 ·obtain ⟨b,o,x,rfl,hb,hx,hr⟩:=hs.atI hi0 c
  have ht:=take_succ' l hi0 (by omega)
  refine ⟨b,o,rfl,in_ok hA hi0 c,?_⟩
  refine zc ?_
  refine ⟨_,rd_ok hA hr,?_⟩
  refine zc ?_
  refine digit_ok hA _ hlow (fun r hd => ?_)
  refine ⟨_,rfl,?_⟩
  refine zc ?_
  refine br (r < 0) (e_lss hA _ _) (fun c2 => ?_) (fun c2 => ?_) <;> refine zc ?_
  ·refine zc ?_
   refine h1 _ ?_
   rw [List.all_eq_false]
   refine ⟨at' l i,?_,?_⟩
   ·exact at'_mem l hi0 (by omega)
   ·rw [← hx];unfold good;rw [← hd];simp;omega
  ·refine zc ?_
   rw [add64 hA (by omega) (by omega)]
   refine ih c ?_
   rw [ht,List.all_append,hj,← hx]
   simp [good,← hd];omega
 ·refine zc ?_
  refine h0 ?_
  rw [List.take_of_length_le (by omega)] at hj
  exact hj
theorem scheck_ok {h : AHeap} (hlow : h.low ≤ h.next) {a : Option Addr} {n c : Nat} (hn : n ≤ 1000000) {l : List Int} (hs : Ints h .i64 a n l) {Q : Value → AHeap → Prop} (hQ : ∀ r,r = checkF l → Q (.int .i64 r) h) : call 23 [.slice a n c] h Q:=by
 have hl:=hs.len
 have hQ:=hQ _ rfl
 unfold checkF at hQ
 refine hA.bodyR Try.func23 r23_ok (hA.alike _ _ _ rfl) hlow (zc ?_)
 refine br (256 < (n : Int)) (by rw [e_gtr hA,e_ofNat hA]) (fun c => ?_) (fun c => ?_) <;> refine zc ?_
 ·rw [if_pos (by omega)] at hQ;exact hQ
 rw [if_neg (by omega)] at hQ
 refine check_loop hA hlow hn hs (fun e => ?_) (fun e e2 => ?_) 0 (by omega) (by omega) (by simp)
 ·refine zc ?_
  rw [if_pos e] at hQ;exact hQ
 ·refine zc ?_
  rw [if_neg (by simp [e2])] at hQ;exact hQ
theorem rcheck_loop {h : AHeap} (hlow : h.low ≤ h.next) {a : Option Addr} {n c : Nat} (hn : n ≤ 1000000) {l : List Int} (hs : Ints h .i64 a n l) {Q : Exit → SS → Prop}
  (h0 : l.all good = true → Q (.exit 0) ⟨[],0,[],h⟩) (h1 : ∀ e,l.all good = false → Q .ret ⟨(2,.int .i64 8) :: e,0,[],h⟩) :
  ∀ (i : Int),0 ≤ i → i ≤ n → (l.take i.toNat).all good = true → head 24 4 0 ⟨[(0,.slice a n c),(3,.int .i64 i)],0,[],h⟩ Q:=by
 have hl:=hs.len
 refine countUp (fun i hi0 hin ih hj => ?_)
 refine hA.roundR Try.func24 r24_ok (zc ?_)
 refine br (i < n) (by rw [e_lss hA,e_ofNat hA]) (fun c => ?_) (fun c => ?_) <;> refine zc ?_
 ·obtain ⟨b,o,x,rfl,hb,hx,hr⟩:=hs.atI hi0 c
  have ht:=take_succ' l hi0 (by omega)
  refine ⟨b,o,rfl,in_ok hA hi0 c,?_⟩
  refine zc ?_
  refine ⟨_,rd_ok hA hr,?_⟩
  refine zc ?_
  refine rdigit_ok hA _ hlow (fun r hd => ?_)
  refine ⟨_,rfl,?_⟩
  refine zc ?_
  refine br (r < 0) (e_lss hA _ _) (fun c2 => ?_) (fun c2 => ?_) <;> refine zc ?_
  ·refine zc ?_
   refine h1 _ ?_
   rw [List.all_eq_false]
   refine ⟨at' l i,?_,?_⟩
   ·exact at'_mem l hi0 (by omega)
   ·rw [← hx];unfold good;rw [← hd];simp;omega
  ·refine zc ?_
   rw [add64 hA (by omega) (by omega)]
   refine ih c ?_
   rw [ht,List.all_append,hj,← hx]
   simp [good,← hd];omega
 ·refine zc ?_
  refine h0 ?_
  rw [List.take_of_length_le (by omega)] at hj
  exact hj
theorem srcheck_ok {h : AHeap} (hlow : h.low ≤ h.next) {a : Option Addr} {n c : Nat} (hn : n ≤ 1000000) {l : List Int} (hs : Ints h .i64 a n l) {Q : Value → AHeap → Prop} (hQ : ∀ r,r = checkF l → Q (.int .i64 r) h) : call 24 [.slice a n c] h Q:=by
 have hl:=hs.len
 have hQ:=hQ _ rfl
 unfold checkF at hQ
 refine hA.bodyR Try.func24 r24_ok (hA.alike _ _ _ rfl) hlow (zc ?_)
 refine br (256 < (n : Int)) (by rw [e_gtr hA,e_ofNat hA]) (fun c => ?_) (fun c => ?_) <;> refine zc ?_
 ·rw [if_pos (by omega)] at hQ;exact hQ
 rw [if_neg (by omega)] at hQ
 refine rcheck_loop hA hlow hn hs (fun e => ?_) (fun e e2 => ?_) 0 (by omega) (by omega) (by simp)
 ·refine zc ?_
  rw [if_pos e] at hQ;exact hQ
 ·refine zc ?_
  rw [if_neg (by simp [e2])] at hQ;exact hQ
end Go.Proofs.Ytcdoknkgbnaefaa
