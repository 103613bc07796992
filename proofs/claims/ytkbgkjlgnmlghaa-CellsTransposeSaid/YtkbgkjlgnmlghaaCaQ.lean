import Derived.Test.YtkbgkjlgnmlghaaCaJ
import Derived.Test.YtkbgkjlgnmlghaaCaF
import Derived.Test.YtkbgkjlgnmlghaaCaK
set_option linter.unusedSimpArgs false
set_option linter.unusedVariables false
namespace Go.Proofs.Ytkbgkjlgnmlghaa
open Go.Sim
set_option linter.unusedVariables false
set_option maxRecDepth 100000
theorem pk_some {h : AHeap} {a : Option Addr} {n : Nat} {l : List Pk} (p : Rows Pk.cells 4 h a n l) (hn : 0 < n) : ∃ b o,a = some ⟨b,o,none⟩:=by
 obtain ⟨b,o,e,_,_⟩:=p.at (i:=0) (by omega) (by omega)
 exact ⟨b,o,e⟩
variable {F : Prims} {call head arith cmp scmp bnot bsame conv neg imax imin ofNat slen place inR nz geZ rd wr push next mkOK nat zeros sadd eqAgg cut slc sslc strAt part app cpy putAt fresh lowered bump wrote addN lt ne fpAll brk yn rng mget mput mnew bytes clr : _} (hA : AP F ⟨call,head,arith,cmp,scmp,bnot,bsame,conv,neg,imax,imin,ofNat,slen,place,inR,nz,geZ,rd,wr,push,next,mkOK,nat,zeros,sadd,eqAgg,cut,slc,sslc,strAt,part,app,cpy,putAt,fresh,lowered,bump,wrote,addN,lt,ne,fpAll,brk,yn,rng,mget,mput,mnew,bytes,clr⟩)
include hA
theorem great_ok {h : AHeap} (hlow : h.low ≤ h.next) {a a' : Option Addr} {N M c c' : Nat} {Q : Value → AHeap → Prop}
  (hQ : ∀ r : Bool,(r = false → N ≤ 40 ∧ M ≤ 80) → Q (.bool r) h) : call 9 [.slice a N c,.slice a' M c'] h Q:=by
 refine hA.bodyR Try.func9 r9_ok (hA.alike _ _ _ rfl) hlow (zc ?_)
 refine br ((16 : Int) < N) (by rw [e_gtr hA,e_ofNat hA]) (fun c1 => ?_) (fun c1 => ?_) <;> refine zc ?_
 ·refine br ((N : Int) ≤ 32) (by rw [e_leq hA,e_ofNat hA]) (fun c2 => ?_) (fun c2 => ?_) <;> refine zc ?_
  ·exact hQ true (fun q => by cases q)
  refine br ((40 : Int) < N) (by rw [e_gtr hA,e_ofNat hA]) (fun c3 => ?_) (fun c3 => ?_) <;> refine zc ?_
  ·exact hQ true (fun q => by cases q)
  rw [e_gtr hA,e_ofNat hA]
  exact hQ _ (fun q => by have:=of_decide_eq_false q;omega)
 ·refine br ((40 : Int) < N) (by rw [e_gtr hA,e_ofNat hA]) (fun c3 => ?_) (fun c3 => ?_) <;> refine zc ?_
  ·exact hQ true (fun q => by cases q)
  rw [e_gtr hA,e_ofNat hA]
  exact hQ _ (fun q => by have:=of_decide_eq_false q;omega)
end Go.Proofs.Ytkbgkjlgnmlghaa
namespace Go.Proofs.Ytkbgkjlgnmlghaa
open Go.Sim
set_option linter.unusedVariables false
set_option maxRecDepth 100000
theorem pk_none (h : AHeap) : Rows Pk.cells 4 h none 0 []:=⟨by simp [Cells],fun _ => rfl,by omega⟩
def GridV (h0 h : AHeap) (a : Option Addr) (k : Nat) (g : Gd) : Prop:=
 (a = none ∧ k = 0 ∧ g = []) ∨ (∃ oa bs,a = some ⟨oa,0,none⟩ ∧ 2 ≤ k ∧ k ≤ 8 ∧ SqG k g ∧ Grid2 Ck.cells 3 h0 h oa bs g)
theorem GridV.more {h0 h h' : AHeap} {a : Option Addr} {k : Nat} {g : Gd} (t : GridV h0 h a k g) (e : Ext h h') : GridV h0 h' a k g:=by
 rcases t with q | ⟨oa,bs,q1,q2,q3,q4,q5⟩
 ·exact .inl q
 ·exact .inr ⟨oa,bs,q1,q2,q3,q4,q5.more e⟩
theorem GridIs.n {n : Int} {l : List Sk} {v : List Ck} {g : Gd} (h : GridIs n l v g 0) : 2 ≤ n ∧ n ≤ 8:=by
 rcases h with ⟨a,b,c⟩ | ⟨a,b,c,d⟩ | ⟨a,b,b',c,d⟩ | ⟨a,b,b',c⟩
 ·exact absurd rfl b
 all_goals exact a.zero.1
variable {F : Prims} {call head arith cmp scmp bnot bsame conv neg imax imin ofNat slen place inR nz geZ rd wr push next mkOK nat zeros sadd eqAgg cut slc sslc strAt part app cpy putAt fresh lowered bump wrote addN lt ne fpAll brk yn rng mget mput mnew bytes clr : _} (hA : AP F ⟨call,head,arith,cmp,scmp,bnot,bsame,conv,neg,imax,imin,ofNat,slen,place,inR,nz,geZ,rd,wr,push,next,mkOK,nat,zeros,sadd,eqAgg,cut,slc,sslc,strAt,part,app,cpy,putAt,fresh,lowered,bump,wrote,addN,lt,ne,fpAll,brk,yn,rng,mget,mput,mnew,bytes,clr⟩)
include hA
theorem kparts_is {h : AHeap} (hlow : h.low ≤ h.next) {n un ud vn vd : Int} (iu : i64 un ∧ i64 ud) (iv : i64 vn ∧ i64 vd) {Q : Value → AHeap → Prop}
  (hQ : ∀ a c N L e h',CheckS n [⟨un,ud,vn,vd⟩] e → Ext h h' → Rows Pk.cells 4 h' a N L → N ≤ 100000 → (e = 0 → L = partsR n ⟨un,ud,vn,vd⟩ n) → (e ≠ 0 → L = []) → Q (.tuple #[.slice a N c,.int .i64 e]) h') :
  call 10 [.int .i64 n,.agg #[.int .i64 un,.int .i64 ud,.int .i64 vn,.int .i64 vd]] h Q:=by
 refine parts_ok hA hlow iu iv (fun e h' k c x => hQ none 0 0 [] e h' k x (pk_none _) (by omega) (fun q => absurd q c) (fun _ => rfl)) (fun b c N L h' k D hp hs => ?_)
 obtain ⟨⟨n2,n8⟩,_,hz⟩:=k.zero
 obtain ⟨cu,cv⟩:=hz 0 (by omega) (by simp)
 have cu : Coord n un ud:=⟨cu,n2,n8⟩
 have cv : Coord n vn vd:=⟨cv,n2,n8⟩
 obtain rfl : L = partsR n ⟨un,ud,vn,vd⟩ n:=sorted_parts (s:=⟨un,ud,vn,vd⟩) cu cv D.len hp hs
 have rows : Rows Pk.cells 4 h' (some ⟨b,0,none⟩) N (partsR n ⟨un,ud,vn,vd⟩ n):=by
  have:=Own.rows D.own pk_len (by omega) D.lt
  rwa [D.len] at this
 exact hQ _ _ _ _ _ _ k D.ext rows D.few (fun _ => rfl) (fun q => absurd rfl q)
end Go.Proofs.Ytkbgkjlgnmlghaa
namespace Go.Proofs.Ytkbgkjlgnmlghaa
open Go.Sim
set_option linter.unusedVariables false
set_option maxRecDepth 100000
def places (n : Int) (l : List Sk) (i : Int) : List (Pk × Int):=(upTo i).flatMap fun j => (partsR n (gt l j) n).map fun e => (e,j)
theorem contrib_places (n : Int) (l : List Sk) (v : List Ck) (i : Int) : contrib n l v i = (places n l i).map fun p => (p.1,gt v p.2):=by
 unfold contrib places
 rw [List.map_flatMap]
 congr 1
 funext j
 rw [List.map_map]
 rfl
noncomputable def cv (g : Gd) (y x : Int) : Cq:=(gt (gt g y) x).val
theorem step_cv {n : Nat} {g g' : Gd} {c : Pk × Ck} (h : SqG n g) (hx : 0 ≤ c.1.x ∧ c.1.x < n) (hy : 0 ≤ c.1.y ∧ c.1.y < n) (e : gridStep g c = some g') {y x : Int} (y0 : 0 ≤ y) (y1 : y < n) (x0 : 0 ≤ x) (x1 : x < n) :
  cv g' y x = if y = c.1.y ∧ x = c.1.x then (cv g y x).add ((Cq.real c.1.w).mul c.2.val) else cv g y x:=by
 unfold gridStep at e
 rw [Option.map_eq_some_iff] at e
 obtain ⟨k,hk,rfl⟩:=e
 have ky:=h.len
 unfold cv
 rw [gt_set g hy.1 y0 (by omega)]
 by_cases e1 : y = c.1.y
 ·rw [if_pos e1,gt_set _ hx.1 x0 (by rw [h.row _ hy.1 hy.2];exact hx.2)]
  by_cases e2 : x = c.1.x
  ·rw [if_pos e2,if_pos ⟨e1,e2⟩,(plusF_ok hk).2,e1,e2]
  ·rw [if_neg e2,if_neg (fun q => e2 q.2),e1]
 ·rw [if_neg e1,if_neg (fun q => e1 q.1)]
def Lin (n : Nat) (c : Cq) (g1 g2 g3 : Gd) : Prop:=∀ y x : Int,0 ≤ y → y < n → 0 ≤ x → x < n → cv g3 y x = (cv g1 y x).add (c.mul (cv g2 y x))
theorem lin_run {n : Nat} {c : Cq} {v1 v2 v3 : List Ck} {N : Nat} (hv : ∀ j : Int,0 ≤ j → j < N → (gt v3 j).val = (gt v1 j).val.add (c.mul (gt v2 j).val)) : ∀ (B : List (Pk × Int)),(∀ p,p ∈ B → (0 ≤ p.1.x ∧ p.1.x < n) ∧ (0 ≤ p.1.y ∧ p.1.y < n) ∧ 0 ≤ p.2 ∧ p.2 < N) →
  ∀ g1 g2 g3 g1' g2' g3' : Gd,SqG n g1 → SqG n g2 → SqG n g3 → Lin n c g1 g2 g3 → run (B.map fun p => (p.1,gt v1 p.2)) g1 = some g1' → run (B.map fun p => (p.1,gt v2 p.2)) g2 = some g2' → run (B.map fun p => (p.1,gt v3 p.2)) g3 = some g3' → Lin n c g1' g2' g3'
 | [],_,g1,g2,g3,_,_,_,_,_,_,h,r1,r2,r3 => by
  cases r1;cases r2;cases r3;exact h
 | p :: B,hB,g1,g2,g3,g1',g2',g3',s1,s2,s3,h,r1,r2,r3 => by
  have cons : ∀ (q : Pk × Ck) (l : List (Pk × Ck)) (g : Gd),run (q :: l) g = (gridStep g q).bind (run l):=fun q l g => by
   have:=run_append [q] l g
   rw [run_one] at this
   exact this
  rw [List.map_cons,cons] at r1 r2 r3
  obtain ⟨k1,a1,b1⟩:=Option.bind_eq_some_iff.1 r1
  obtain ⟨k2,a2,b2⟩:=Option.bind_eq_some_iff.1 r2
  obtain ⟨k3,a3,b3⟩:=Option.bind_eq_some_iff.1 r3
  obtain ⟨px,py,pj0,pj1⟩:=hB p (by simp)
  refine lin_run hv B (fun q hq => hB q (List.mem_cons_of_mem _ hq)) k1 k2 k3 g1' g2' g3' (s1.step px py a1) (s2.step px py a2) (s3.step px py a3) (fun y x y0 y1 x0 x1 => ?_) b1 b2 b3
  have hh:=h y x y0 y1 x0 x1
  rw [step_cv s1 px py a1 y0 y1 x0 x1,step_cv s2 px py a2 y0 y1 x0 x1,step_cv s3 px py a3 y0 y1 x0 x1]
  split
  ·rw [hh,hv p.2 pj0 pj1]
   refine Cq.ext ?_ ?_
   ·simp only [Cq.add,Cq.mul,Cq.real];grind
   ·simp only [Cq.add,Cq.mul,Cq.real];grind
  ·exact hh
theorem zeroK_val : zeroK.val = Cq.zero:=by
 refine Cq.ext ?_ ?_ <;> simp [Ck.val,zeroK,Cq.zero,Rat.div_def]
theorem lin_zero (n : Nat) (c : Cq) : Lin n c (zeroG n) (zeroG n) (zeroG n):=fun y x y0 y1 x0 x1 => by
 have : cv (zeroG n) y x = Cq.zero:=by
  unfold cv zeroG
  rw [gt_replicate n _ y0 y1,gt_replicate n _ x0 x1]
  exact zeroK_val
 rw [this]
 refine Cq.ext ?_ ?_
 ·simp only [Cq.add,Cq.mul,Cq.zero];grind
 ·simp only [Cq.add,Cq.mul,Cq.zero];grind
end Go.Proofs.Ytkbgkjlgnmlghaa
