import Derived.Test.YtkbgkjlgnmlghaaCaC
set_option linter.unusedSimpArgs false
set_option linter.unusedVariables false
namespace Go.Proofs.Ytkbgkjlgnmlghaa
open Go.Sim
set_option linter.unusedVariables false
set_option maxRecDepth 100000
def wR (n m k c : Int) : Rat:=if c = m / k then rq (k - m % k) k else if c = (m / k + 1) % n then rq (m % k) k else 0
def partR (n : Int) (s : Sk) (x y : Int) : List Pk:=if 0 < wR n s.un s.ud x * wR n s.vn s.vd y then [mkP x y (wR n s.un s.ud x * wR n s.vn s.vd y)] else []
def upTo (n : Int) : List Int:=(List.range n.toNat).map Int.ofNat
theorem upTo_succ {n : Int} (h : 0 ≤ n) : upTo (n + 1) = upTo n ++ [n]:=by
 unfold upTo
 rw [show (n + 1).toNat = n.toNat + 1 by omega,List.range_succ,List.map_append]
 simp only [List.map_cons,List.map_nil]
 rw [show Int.ofNat n.toNat = n from Int.toNat_of_nonneg h]
def rowR (n : Int) (s : Sk) (y m : Int) : List Pk:=(upTo m).flatMap fun x => partR n s x y
def partsR (n : Int) (s : Sk) (m : Int) : List Pk:=(upTo m).flatMap fun y => rowR n s y n
variable {F : Prims} {call head arith cmp scmp bnot bsame conv neg imax imin ofNat slen place inR nz geZ rd wr push next mkOK nat zeros sadd eqAgg cut slc sslc strAt part app cpy putAt fresh lowered bump wrote addN lt ne fpAll brk yn rng mget mput mnew bytes clr : _} (hA : AP F ⟨call,head,arith,cmp,scmp,bnot,bsame,conv,neg,imax,imin,ofNat,slen,place,inR,nz,geZ,rd,wr,push,next,mkOK,nat,zeros,sadd,eqAgg,cut,slc,sslc,strAt,part,app,cpy,putAt,fresh,lowered,bump,wrote,addN,lt,ne,fpAll,brk,yn,rng,mget,mput,mnew,bytes,clr⟩)
include hA
end Go.Proofs.Ytkbgkjlgnmlghaa
namespace Go.Proofs.Ytkbgkjlgnmlghaa
open Go.Sim
set_option linter.unusedVariables false
set_option maxRecDepth 100000
theorem eq_of_sorted {α : Type} {lt : α → α → Prop} (asym : ∀ a b,lt a b → ¬ lt b a) : ∀ (L M : List α),L.Pairwise lt → M.Pairwise lt → (∀ x,x ∈ L ↔ x ∈ M) → L = M
 | [],[],_,_,_ => rfl
 | [],b :: M,_,_,h => by have:=(h b).2 (by simp);simp at this
 | a :: L,[],_,_,h => by have:=(h a).1 (by simp);simp at this
 | a :: L,b :: M,hL,hM,h => by
  obtain ⟨l1,l2⟩:=List.pairwise_cons.1 hL
  obtain ⟨m1,m2⟩:=List.pairwise_cons.1 hM
  have e : a = b:=by
   rcases List.mem_cons.1 ((h a).1 (by simp)) with q | q
   ·exact q
   ·rcases List.mem_cons.1 ((h b).2 (by simp)) with r | r
    ·exact r.symm
    ·exact absurd (l1 b r) (asym _ _ (m1 a q))
  subst e
  rw [eq_of_sorted asym L M l2 m2 (fun x => ⟨fun q => ?_,fun q => ?_⟩)]
  ·rcases List.mem_cons.1 ((h x).1 (List.mem_cons_of_mem _ q)) with r | r
   ·have:=l1 x q;rw [r] at this;exact absurd this (asym _ _ this)
   ·exact r
  ·rcases List.mem_cons.1 ((h x).2 (List.mem_cons_of_mem _ q)) with r | r
   ·have:=m1 x q;rw [r] at this;exact absurd this (asym _ _ this)
   ·exact r
def ltP (a b : Pk) : Prop:=a.y < b.y ∨ (a.y = b.y ∧ a.x < b.x)
theorem ltP_asym (a b : Pk) (h : ltP a b) : ¬ ltP b a:=by unfold ltP at *;omega
theorem mem_upTo {n x : Int} : x ∈ upTo n ↔ 0 ≤ x ∧ x < n:=by
 unfold upTo
 rw [List.mem_map]
 constructor
 ·rintro ⟨a,ha,rfl⟩
  have:=List.mem_range.1 ha
  have e : Int.ofNat a = (a : Int):=rfl
  omega
 ·rintro ⟨h0,h1⟩
  exact ⟨x.toNat,List.mem_range.2 (by omega),Int.toNat_of_nonneg h0⟩
theorem upTo_lt (n : Int) : (upTo n).Pairwise (· < ·):=by
 unfold upTo
 rw [List.pairwise_map]
 refine (List.pairwise_lt_range (n:=n.toNat)).imp (fun {a b} h => ?_)
 exact Int.ofNat_lt.2 h
theorem mem_partR {n : Int} {s : Sk} {x y : Int} {e : Pk} : e ∈ partR n s x y ↔ 0 < wR n s.un s.ud x * wR n s.vn s.vd y ∧ e = mkP x y (wR n s.un s.ud x * wR n s.vn s.vd y):=by
 unfold partR
 split
 ·rename_i h;simp [h]
 ·rename_i h;simp [h]
theorem mem_partsR {n : Int} {s : Sk} {e : Pk} : e ∈ partsR n s n ↔ ∃ x y,(0 ≤ x ∧ x < n) ∧ (0 ≤ y ∧ y < n) ∧ 0 < wR n s.un s.ud x * wR n s.vn s.vd y ∧ e = mkP x y (wR n s.un s.ud x * wR n s.vn s.vd y):=by
 unfold partsR rowR
 simp only [List.mem_flatMap,mem_upTo,mem_partR]
 constructor
 ·rintro ⟨y,hy,x,hx,h⟩;exact ⟨x,y,hx,hy,h⟩
 ·rintro ⟨x,y,hx,hy,h⟩;exact ⟨y,hy,x,hx,h⟩
theorem partsR_sorted (n : Int) (s : Sk) : (partsR n s n).Pairwise ltP:=by
 unfold partsR
 refine List.pairwise_flatMap.2 ⟨fun y _ => ?_,(upTo_lt n).imp (fun {y y'} hy a ha b hb => ?_)⟩
 ·unfold rowR
  refine List.pairwise_flatMap.2 ⟨fun x _ => ?_,(upTo_lt n).imp (fun {x x'} hx a ha b hb => ?_)⟩
  ·unfold partR
   split <;> simp
  ·obtain ⟨_,rfl⟩:=mem_partR.1 ha
   obtain ⟨_,rfl⟩:=mem_partR.1 hb
   exact .inr ⟨rfl,hx⟩
 ·unfold rowR at ha hb
  simp only [List.mem_flatMap,mem_partR] at ha hb
  obtain ⟨x,_,_,rfl⟩:=ha
  obtain ⟨x',_,_,rfl⟩:=hb
  exact .inl hy
theorem wQ_pos {n m k : Int} (h : Coord n m k) {i : Int} : 0 ≤ wQ m k i:=by
 have rm:=h.rem;have k1:=h.k1
 unfold wQ
 split
 ·exact Rat.le_of_lt (rq_pos (by omega) (by omega))
 ·by_cases z : m % k = 0
  ·unfold rq;rw [z,Rat.div_def];simp
  ·exact Rat.le_of_lt (rq_pos (by omega) (by omega))
theorem wR_at {n m k : Int} (h : Coord n m k) {i : Int} (hi : i = 0 ∨ i = 1) : 0 ≤ (m / k + i) % n ∧ (m / k + i) % n < n ∧ wR n m k ((m / k + i) % n) = wQ m k i:=by
 have X:=h.x;have n0:=h.n0
 refine ⟨Int.emod_nonneg _ (by omega),Int.emod_lt_of_pos _ (by omega),?_⟩
 unfold wR wQ
 rcases hi with rfl | rfl
 ·rw [Int.add_zero,Int.emod_eq_of_lt X.1 X.2,if_pos rfl,if_pos rfl]
 ·rw [if_neg,if_pos rfl,if_neg (by omega)]
  by_cases c : m / k + 1 < n
  ·rw [Int.emod_eq_of_lt (by omega) c];omega
  ·rw [show m / k + 1 = n by omega,Int.emod_self];omega
theorem wR_some {n m k : Int} (h : Coord n m k) {x : Int} (w : wR n m k x ≠ 0) : ∃ i,(i = 0 ∨ i = 1) ∧ x = (m / k + i) % n:=by
 have X:=h.x;have n0:=h.n0
 unfold wR at w
 split at w
 ·rename_i e;exact ⟨0,.inl rfl,by rw [Int.add_zero,Int.emod_eq_of_lt X.1 X.2];exact e⟩
 ·split at w
  ·rename_i e;exact ⟨1,.inr rfl,e⟩
  ·exact absurd rfl w
theorem mem_cand {n : Int} {s : Sk} {i j : Int} {e : Pk} : e ∈ cand n s i j ↔ wQ s.un s.ud i * wQ s.vn s.vd j ≠ 0 ∧ e = mkP ((s.un / s.ud + i) % n) ((s.vn / s.vd + j) % n) (wQ s.un s.ud i * wQ s.vn s.vd j):=by
 unfold cand
 split
 ·rename_i h;simp [h]
 ·rename_i h;simp [h]
theorem mem_cands {n : Int} {s : Sk} {e : Pk} : e ∈ cands n s ↔ ∃ i j,(i = 0 ∨ i = 1) ∧ (j = 0 ∨ j = 1) ∧ wQ s.un s.ud i * wQ s.vn s.vd j ≠ 0 ∧ e = mkP ((s.un / s.ud + i) % n) ((s.vn / s.vd + j) % n) (wQ s.un s.ud i * wQ s.vn s.vd j):=by
 unfold cands
 simp only [List.mem_append,mem_cand]
 constructor
 ·rintro (((h | h) | h) | h)
  ·exact ⟨0,0,.inl rfl,.inl rfl,h⟩
  ·exact ⟨1,0,.inr rfl,.inl rfl,h⟩
  ·exact ⟨0,1,.inl rfl,.inr rfl,h⟩
  ·exact ⟨1,1,.inr rfl,.inr rfl,h⟩
 ·rintro ⟨i,j,rfl | rfl,rfl | rfl,h⟩
  ·exact .inl (.inl (.inl h))
  ·exact .inl (.inr h)
  ·exact .inl (.inl (.inr h))
  ·exact .inr h
theorem same_mem {n : Int} {s : Sk} (cu : Coord n s.un s.ud) (cv : Coord n s.vn s.vd) (e : Pk) : e ∈ cands n s ↔ e ∈ partsR n s n:=by
 rw [mem_cands,mem_partsR]
 constructor
 ·rintro ⟨i,j,hi,hj,w,rfl⟩
  obtain ⟨x0,x1,xw⟩:=wR_at cu hi
  obtain ⟨y0,y1,yw⟩:=wR_at cv hj
  refine ⟨_,_,⟨x0,x1⟩,⟨y0,y1⟩,?_,?_⟩
  ·rw [xw,yw]
   have:=Rat.mul_nonneg (wQ_pos cu (i:=i)) (wQ_pos cv (i:=j))
   grind
  ·rw [xw,yw]
 ·rintro ⟨x,y,⟨x0,x1⟩,⟨y0,y1⟩,w,rfl⟩
  obtain ⟨i,hi,rfl⟩:=wR_some cu (x:=x) (fun z => by rw [z] at w;simp at w)
  obtain ⟨j,hj,rfl⟩:=wR_some cv (x:=y) (fun z => by rw [z] at w;simp at w)
  have xw:=(wR_at cu hi).2.2
  have yw:=(wR_at cv hj).2.2
  rw [xw,yw] at w ⊢
  exact ⟨i,j,hi,hj,by grind,rfl⟩
theorem cands_apart {n : Int} {s : Sk} (cu : Coord n s.un s.ud) (cv : Coord n s.vn s.vd) : (cands n s).Pairwise (fun a b => ¬ (a.x = b.x ∧ a.y = b.y)):=by
 have two : ∀ {m k : Int},Coord n m k → (m / k + 0) % n ≠ (m / k + 1) % n:=fun {m k} h => by
  have X:=h.x;have n0:=h.n0
  rw [Int.add_zero,Int.emod_eq_of_lt X.1 X.2]
  by_cases c : m / k + 1 < n
  ·rw [Int.emod_eq_of_lt (by omega) c];omega
  ·rw [show m / k + 1 = n by omega,Int.emod_self];omega
 have tu:=two cu
 have tv:=two cv
 have one : ∀ i j,(cand n s i j).Pairwise (fun a b => ¬ (a.x = b.x ∧ a.y = b.y)):=fun i j => by unfold cand;split <;> simp
 have cross : ∀ i j i' j',(i = 0 ∧ i' = 1 ∨ i = 1 ∧ i' = 0 ∨ j = 0 ∧ j' = 1) → ∀ a ∈ cand n s i j,∀ b ∈ cand n s i' j',¬ (a.x = b.x ∧ a.y = b.y):=by
  intro i j i' j' h a ha b hb
  obtain ⟨_,rfl⟩:=mem_cand.1 ha
  obtain ⟨_,rfl⟩:=mem_cand.1 hb
  rintro ⟨q1,q2⟩
  have q1 : (s.un / s.ud + i) % n = (s.un / s.ud + i') % n:=q1
  have q2 : (s.vn / s.vd + j) % n = (s.vn / s.vd + j') % n:=q2
  rcases h with ⟨rfl,rfl⟩ | ⟨rfl,rfl⟩ | ⟨rfl,rfl⟩
  ·exact tu q1
  ·exact tu q1.symm
  ·exact tv q2
 unfold cands
 refine List.pairwise_append.2 ⟨List.pairwise_append.2 ⟨List.pairwise_append.2 ⟨one 0 0,one 1 0,cross 0 0 1 0 (by omega)⟩,one 0 1,fun a ha b hb => ?_⟩,one 1 1,fun a ha b hb => ?_⟩
 ·rcases List.mem_append.1 ha with q | q
  ·exact cross 0 0 0 1 (by omega) a q b hb
  ·exact cross 1 0 0 1 (by omega) a q b hb
 ·rcases List.mem_append.1 ha with q | q
  ·rcases List.mem_append.1 q with q | q
   ·exact cross 0 0 1 1 (by omega) a q b hb
   ·exact cross 1 0 1 1 (by omega) a q b hb
  ·exact cross 0 1 1 1 (by omega) a q b hb
theorem sorted_parts {n : Int} {s : Sk} (cu : Coord n s.un s.ud) (cv : Coord n s.vn s.vd) {N : Nat} {L : List Pk} (hN : L.length = N) (hp : PermOn 0 N (cands n s) L) (hs : SortedOn leP L 0 N) : L = partsR n s n:=by
 have perm : (cands n s).Perm L:=by
  rw [List.perm_iff_count]
  intro a
  exact (hp.cnt (fun y => y == a)).symm
 have ap:=(perm.pairwise_iff (fun {x y} h q => h ⟨q.1.symm,q.2.symm⟩)).1 (cands_apart cu cv)
 refine eq_of_sorted ltP_asym L _ ?_ (partsR_sorted n s) (fun x => ?_)
 ·rw [List.pairwise_iff_getElem] at ap ⊢
  intro i j hi hj hij
  have a:=ap i j hi hj hij
  have b:=hs i j (by omega) (by omega) (by omega)
  unfold gt at b
  simp only [Int.toNat_natCast] at b
  rw [List.getD_eq_getElem?_getD,List.getD_eq_getElem?_getD,List.getElem?_eq_getElem hi,List.getElem?_eq_getElem hj] at b
  simp only [Option.getD_some] at b
  unfold leP at b
  unfold ltP
  omega
 ·rw [← perm.mem_iff]
  exact same_mem cu cv x
end Go.Proofs.Ytkbgkjlgnmlghaa
namespace Go.Proofs.Ytkbgkjlgnmlghaa
open Go.Sim
set_option linter.unusedVariables false
set_option maxRecDepth 100000
def Pk.w (e : Pk) : Rat:=rq e.n e.d
def sumQ (f : Pk → Rat) : List Pk → Rat
 | [] => 0
 | e :: l => f e + sumQ f l
theorem sumQ_append (f : Pk → Rat) (l m : List Pk) : sumQ f (l ++ m) = sumQ f l + sumQ f m:=by
 induction l with
 | nil => show sumQ f m = 0 + sumQ f m;grind
 | cons e l ih => simp only [List.cons_append,sumQ,ih];grind
theorem sumQ_perm (f : Pk → Rat) {l m : List Pk} (h : l.Perm m) : sumQ f l = sumQ f m:=by
 induction h with
 | nil => rfl
 | cons e _ ih => simp only [sumQ,ih]
 | swap a b l => simp only [sumQ];grind
 | trans _ _ h1 h2 => rw [h1,h2]
theorem parts_perm {n : Int} {s : Sk} (cu : Coord n s.un s.ud) (cv : Coord n s.vn s.vd) : (cands n s).Perm (partsR n s n):=by
 rw [List.perm_iff_count]
 intro a
 have nd1 : (cands n s).Nodup:=(cands_apart cu cv).imp (fun {a b} h e => h ⟨by rw [e],by rw [e]⟩)
 have nd2 : (partsR n s n).Nodup:=(partsR_sorted n s).imp (fun {a b} h e => by unfold ltP at h;rw [e] at h;omega)
 rw [List.Nodup.count nd1,List.Nodup.count nd2]
 simp only [same_mem cu cv]
theorem Coord.wf {n m k : Int} (h : Coord n m k) {i : Int} (hi : i = 0 ∨ i = 1) : ∃ a b,isF a b (wQ m k i) ∧ 0 ≤ a ∧ a ≤ 6 ∧ b ≤ 6:=by
 have rm:=h.rem;have k6:=h.c.2.2.1;have k1:=h.k1
 unfold wQ
 rcases hi with rfl | rfl
 ·rw [if_pos rfl];exact ⟨_,_,h.f0,by omega,by omega,k6⟩
 ·rw [if_neg (by omega)];exact ⟨_,_,h.f1,by omega,by omega,k6⟩
theorem Coord.wb {n m k : Int} (h : Coord n m k) {i : Int} (hi : i = 0 ∨ i = 1) : bnd (wQ m k i) 6 6:=by
 obtain ⟨a,b,f,h1,h2,h3⟩:=h.wf hi
 exact ⟨by have:=f.1;omega,by have:=f.2.1;omega⟩
structure PartF (n : Int) (e : Pk) : Prop where
 f : isF e.n e.d e.w
 n1 : 0 < e.n
 n2 : e.n ≤ 36
 d2 : e.d ≤ 36
 x0 : 0 ≤ e.x
 x1 : e.x < n
 y0 : 0 ≤ e.y
 y1 : e.y < n
theorem mkP_w {x y : Int} {w : Rat} (hf : fits w) : (mkP x y w).w = w:=by
 have : isF (mkP x y w).n (mkP x y w).d w:=⟨rfl,rfl,hf⟩
 exact this.rq
theorem partF {n : Int} {s : Sk} (cu : Coord n s.un s.ud) (cv : Coord n s.vn s.vd) {e : Pk} (he : e ∈ partsR n s n) : PartF n e:=by
 obtain ⟨i,j,hi,hj,w,rfl⟩:=mem_cands.1 ((same_mem cu cv e).2 he)
 have b:=(cu.wb hi).mul (cv.wb hj)
 have hf:=b.fits (by omega) (by omega)
 have n0:=cu.n0
 have p:=Rat.mul_nonneg (wQ_pos cu (i:=i)) (wQ_pos cv (i:=j))
 have pos : 0 < (wQ s.un s.ud i * wQ s.vn s.vd j).num:=(num_pos _).2 (by grind)
 have b1:=b.1
 have b2:=b.2
 refine ⟨?_,pos,?_,?_,Int.emod_nonneg _ (by omega),Int.emod_lt_of_pos _ (by omega),Int.emod_nonneg _ (by omega),Int.emod_lt_of_pos _ (by omega)⟩
 ·rw [mkP_w hf];exact ⟨rfl,rfl,hf⟩
 ·show (wQ s.un s.ud i * wQ s.vn s.vd j).num ≤ 36
  omega
 ·show (((wQ s.un s.ud i * wQ s.vn s.vd j).den : Nat) : Int) ≤ 36
  omega
def adj (n m k c : Int) : Int:=if c = 0 ∧ (n - 1) * k < m then n else c
theorem adj_at {n m k : Int} (h : Coord n m k) {i : Int} (hi : i = 0 ∨ i = 1) (w : wQ m k i ≠ 0) : adj n m k ((m / k + i) % n) = m / k + i:=by
 have X:=h.x;have n0:=h.n0;have k1:=h.k1;have rm:=h.rem
 have key:=Int.mul_ediv_add_emod m k
 unfold adj
 rcases hi with rfl | rfl
 ·rw [Int.add_zero,Int.emod_eq_of_lt X.1 X.2,if_neg]
  rintro ⟨z,q⟩
  rw [z,Int.mul_zero] at key
  have : 1 * k ≤ (n - 1) * k:=Int.mul_le_mul_of_nonneg_right (by omega) (by omega)
  omega
 ·have r0 : m % k ≠ 0:=fun z => w (by unfold wQ rq;rw [if_neg (by omega),z,Rat.div_def];simp)
  by_cases c : m / k + 1 < n
  ·rw [Int.emod_eq_of_lt (by omega) c,if_neg (by omega)]
  ·have e : m / k + 1 = n:=by omega
   rw [e,Int.emod_self,if_pos]
   refine ⟨rfl,?_⟩
   have : m / k = n - 1:=by omega
   rw [this,Int.mul_comm] at key
   omega
theorem sum_cand {n : Int} {s : Sk} (cu : Coord n s.un s.ud) (cv : Coord n s.vn s.vd) {i j : Int} (hi : i = 0 ∨ i = 1) (hj : j = 0 ∨ j = 1) :
  sumQ Pk.w (cand n s i j) = wQ s.un s.ud i * wQ s.vn s.vd j ∧ sumQ (fun e => e.w * (adj n s.un s.ud e.x : Int)) (cand n s i j) = wQ s.un s.ud i * wQ s.vn s.vd j * ((s.un / s.ud + i : Int) : Rat) ∧
   sumQ (fun e => e.w * (adj n s.vn s.vd e.y : Int)) (cand n s i j) = wQ s.un s.ud i * wQ s.vn s.vd j * ((s.vn / s.vd + j : Int) : Rat):=by
 have hf:=((cu.wb hi).mul (cv.wb hj)).fits (by omega) (by omega)
 unfold cand
 split
 ·rename_i z
  rw [z]
  simp [sumQ]
 ·rename_i z
  have z1 : wQ s.un s.ud i ≠ 0:=fun q => z (by rw [q];grind)
  have z2 : wQ s.vn s.vd j ≠ 0:=fun q => z (by rw [q];grind)
  have a1:=adj_at cu hi z1
  have a2:=adj_at cv hj z2
  simp only [sumQ]
  rw [mkP_w hf]
  refine ⟨by grind,?_,?_⟩
  ·show _ * ((adj n s.un s.ud ((s.un / s.ud + i) % n) : Int) : Rat) + 0 = _
   rw [a1];grind
  ·show _ * ((adj n s.vn s.vd ((s.vn / s.vd + j) % n) : Int) : Rat) + 0 = _
   rw [a2];grind
theorem wQ_sum {n m k : Int} (h : Coord n m k) : wQ m k 0 + wQ m k 1 = 1 ∧ ((m / k : Int) : Rat) + wQ m k 1 = rq m k:=by
 have up:=h.up;have lo:=h.low
 have e1 : ((1 : Int) : Rat) = 1:=rfl
 unfold wQ
 rw [if_pos rfl,if_neg (by omega)]
 grind
theorem sums {n : Int} {s : Sk} (cu : Coord n s.un s.ud) (cv : Coord n s.vn s.vd) :
  sumQ Pk.w (partsR n s n) = 1 ∧ sumQ (fun e => e.w * (adj n s.un s.ud e.x : Int)) (partsR n s n) = rq s.un s.ud ∧ sumQ (fun e => e.w * (adj n s.vn s.vd e.y : Int)) (partsR n s n) = rq s.vn s.vd:=by
 have p:=parts_perm cu cv
 rw [← sumQ_perm _ p,← sumQ_perm _ p,← sumQ_perm _ p]
 unfold cands
 simp only [sumQ_append]
 obtain ⟨a1,a2,a3⟩:=sum_cand cu cv (i:=0) (j:=0) (.inl rfl) (.inl rfl)
 obtain ⟨b1,b2,b3⟩:=sum_cand cu cv (i:=1) (j:=0) (.inr rfl) (.inl rfl)
 obtain ⟨c1,c2,c3⟩:=sum_cand cu cv (i:=0) (j:=1) (.inl rfl) (.inr rfl)
 obtain ⟨d1,d2,d3⟩:=sum_cand cu cv (i:=1) (j:=1) (.inr rfl) (.inr rfl)
 rw [a1,a2,a3,b1,b2,b3,c1,c2,c3,d1,d2,d3]
 obtain ⟨u1,u2⟩:=wQ_sum cu
 obtain ⟨v1,v2⟩:=wQ_sum cv
 have e0 : ∀ z : Int,((z + 0 : Int) : Rat) = (z : Rat):=fun z => by rw [Int.add_zero]
 have e1 : ∀ z : Int,((z + 1 : Int) : Rat) = (z : Rat) + 1:=fun z => by rw [Rat.intCast_add];rfl
 rw [e0,e1,e0,e1]
 generalize wQ s.un s.ud 0 = p0 at *
 generalize wQ s.un s.ud 1 = p1 at *
 generalize wQ s.vn s.vd 0 = q0 at *
 generalize wQ s.vn s.vd 1 = q1 at *
 generalize ((s.un / s.ud : Int) : Rat) = x at *
 generalize ((s.vn / s.vd : Int) : Rat) = y at *
 refine ⟨?_,?_,?_⟩
 ·have : (p0 + p1) * (q0 + q1) = 1:=by rw [u1,v1];grind
  grind
 ·rw [← u2]
  have : p0 = 1 - p1:=by grind
  have : q0 = 1 - q1:=by grind
  subst p0 q0
  grind
 ·rw [← v2]
  have : p0 = 1 - p1:=by grind
  have : q0 = 1 - q1:=by grind
  subst p0 q0
  grind
theorem parts_few {n : Int} {s : Sk} (cu : Coord n s.un s.ud) (cv : Coord n s.vn s.vd) : 1 ≤ (partsR n s n).length ∧ (partsR n s n).length ≤ 4 ∧ (s.ud = 1 → s.vd = 1 → (partsR n s n).length = 1):=by
 have p:=(parts_perm cu cv).length_eq
 rw [← p]
 have c00:=cand_len n s 0 0
 have c10:=cand_len n s 1 0
 have c01:=cand_len n s 0 1
 have c11:=cand_len n s 1 1
 have ne:=List.length_pos_iff.2 (cands_ne (n:=n) (un:=s.un) (ud:=s.ud) (vn:=s.vn) (vd:=s.vd) cu cv)
 have len : (cands n s).length = (cand n s 0 0).length + (cand n s 1 0).length + (cand n s 0 1).length + (cand n s 1 1).length:=by unfold cands;simp only [List.length_append]
 have ne : 0 < (cands n s).length:=ne
 refine ⟨by omega,by omega,fun h1 h2 => ?_⟩
 have z : ∀ m : Int,wQ m 1 1 = 0:=fun m => by unfold wQ rq;rw [if_neg (by omega),Int.emod_one,Rat.div_def];simp
 have e10 : cand n s 1 0 = []:=by unfold cand;rw [h1,z,if_pos (by grind)]
 have e01 : cand n s 0 1 = []:=by unfold cand;rw [h2,z,if_pos (by grind)]
 have e11 : cand n s 1 1 = []:=by unfold cand;rw [h2,z,if_pos (by grind)]
 rw [e10,e01,e11] at len
 simp only [List.length_nil] at len
 omega
end Go.Proofs.Ytkbgkjlgnmlghaa
