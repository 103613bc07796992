import Derived.Test.YtkbgkjlgnmlghaaCaJ
import Derived.Test.YtkbgkjlgnmlghaaSymJoin
set_option linter.unusedSimpArgs false
set_option linter.unusedVariables false
namespace Go.Proofs.Ytkbgkjlgnmlghaa
open Go.Sim
set_option linter.unusedVariables false
set_option maxRecDepth 100000
variable {F : Prims} {call head arith cmp scmp bnot bsame conv neg imax imin ofNat slen place inR nz geZ rd wr push next mkOK nat zeros sadd eqAgg cut slc sslc strAt part app cpy putAt fresh lowered bump wrote addN lt ne fpAll brk yn rng mget mput mnew bytes clr : _} (hA : AP F ⟨call,head,arith,cmp,scmp,bnot,bsame,conv,neg,imax,imin,ofNat,slen,place,inR,nz,geZ,rd,wr,push,next,mkOK,nat,zeros,sadd,eqAgg,cut,slc,sslc,strAt,part,app,cpy,putAt,fresh,lowered,bump,wrote,addN,lt,ne,fpAll,brk,yn,rng,mget,mput,mnew,bytes,clr⟩)
include hA
theorem rvalid_loop {h0 : AHeap} (hlow : h0.low ≤ h0.next) {a : Option Addr} {N c : Nat} {l : List Ck} (hl : Cs h0 a N l) (hN : N ≤ 100000) {Q : Exit → SS → Prop}
  (hbad : ∀ h' e kn K,¬ ValidL l → Ext h0 h' → Q .ret ⟨(2,.bool false) :: e,kn,K,h'⟩) (hok : ∀ h' kn e K,ValidL l → Ext h0 h' → Q (.exit 0) ⟨e,kn,K,h'⟩) :
  ∀ (m : Nat) (i : Int) (h : AHeap),(N - i).toNat ≤ m → 0 ≤ i → i ≤ N → (∀ j : Int,0 ≤ j → j < i → (gt l j).ok) → Ext h0 h →
   head 43 2 0 ⟨[(0,.slice a N c),(3,.int .i64 i)],0,[],h⟩ Q:=by
 have hlen:=hl.len
 intro m
 induction m with
 | zero =>
  intro i h hm i0 i1 hall he
  refine hA.roundR Try.func43 r43_ok (zc ?_)
  refine br (i < N) (by rw [e_lss hA,e_ofNat hA]) (fun c1 => by omega) (fun c1 => ?_) <;> refine zc ?_
  exact hok h _ _ _ (fun j j0 j1 => hall j j0 (by omega)) he
 | succ m ih =>
 intro i h hm i0 i1 hall he
 by_cases ci : i < N
 rotate_left
 ·refine hA.roundR Try.func43 r43_ok (zc ?_)
  refine br (i < N) (by rw [e_lss hA,e_ofNat hA]) (fun c1 => absurd c1 ci) (fun c1 => ?_) <;> refine zc ?_
  exact hok h _ _ _ (fun j j0 j1 => hall j j0 (by omega)) he
 obtain ⟨b,o,x,y,z,ea,_,hg,r1⟩:=cs_at (hl.ext he) (i:=i) i0 ci
 cases ea
 have q1:=rd_ok hA r1
 refine hA.roundR Try.func43 r43_ok (zc ?_)
 refine br (i < N) (by rw [e_lss hA,e_ofNat hA]) (fun c1 => ?_) (fun c1 => absurd ci c1) <;> refine zc ?_
 refine zq ?_
 refine rccheck_ok hA (he.lowOK hlow) (fun e h1 k1 x1 => ⟨_,rfl,?_⟩)
 have y1:=he.trans x1
 refine zc ?_
 refine br (e ≠ 0) (by rw [e_neq hA]) (fun c3 => ?_) (fun c3 => ?_) <;> refine zc ?_
 ·refine hbad h1 _ _ _ (fun w => ?_) y1
  have:=w i i0 (by omega)
  rw [hg] at this
  rcases k1 with ⟨q,_⟩ | ⟨_,q⟩
  ·exact c3 q
  ·exact q this
 have ok1 : okC x y z:=by
  rcases k1 with ⟨_,q⟩ | ⟨q,_⟩
  ·exact q
  ·omega
 rw [add64 hA (by omega) (by omega)]
 refine ih (i + 1) h1 (by omega) (by omega) (by omega) (fun j j0 j1 => ?_) y1
 by_cases z : j = i
 ·subst z;rw [hg];exact ok1
 ·exact hall j j0 (by omega)
theorem rvalid_ok {h : AHeap} (hlow : h.low ≤ h.next) {a : Option Addr} {N c : Nat} {l : List Ck} (hl : Cs h a N l) (hN : N ≤ 100000) {Q : Value → AHeap → Prop}
  (hQ : ∀ r h',(r = true ↔ ValidL l) → Ext h h' → Q (.bool r) h') : call 43 [.slice a N c] h Q:=by
 refine hA.bodyR Try.func43 r43_ok (hA.alike _ _ _ rfl) hlow (zc ?_)
 refine rvalid_loop hA hlow hl hN (fun h' e kn K hg x' => ?_) (fun h' kn e K hg x' => ?_) N 0 h (by omega) (by omega) (by omega) (fun j j0 j1 => by omega) (.refl h)
 ·refine zc ?_
  exact hQ false h' ⟨(fun q => by cases q),fun q => absurd q hg⟩ x'
 ·refine zc ?_
  exact hQ true h' ⟨fun _ => hg,fun _ => rfl⟩ x'
end Go.Proofs.Ytkbgkjlgnmlghaa
namespace Go.Proofs.Ytkbgkjlgnmlghaa
open Go.Sim
set_option linter.unusedVariables false
set_option maxRecDepth 100000
theorem pk_some {h : AHeap} {a : Option Addr} {n : Nat} {l : List Pk} (p : Rows Pk.cells 4 h a n l) (hn : 0 < n) : ∃ b o,a = some ⟨b,o,none⟩:=by
 obtain ⟨b,o,e,_,_⟩:=p.at (i:=0) (by omega) (by omega)
 exact ⟨b,o,e⟩
variable {F : Prims} {call head arith cmp scmp bnot bsame conv neg imax imin ofNat slen place inR nz geZ rd wr push next mkOK nat zeros sadd eqAgg cut slc sslc strAt part app cpy putAt fresh lowered bump wrote addN lt ne fpAll brk yn rng mget mput mnew bytes clr : _} (hA : AP F ⟨call,head,arith,cmp,scmp,bnot,bsame,conv,neg,imax,imin,ofNat,slen,place,inR,nz,geZ,rd,wr,push,next,mkOK,nat,zeros,sadd,eqAgg,cut,slc,sslc,strAt,part,app,cpy,putAt,fresh,lowered,bump,wrote,addN,lt,ne,fpAll,brk,yn,rng,mget,mput,mnew,bytes,clr⟩)
include hA
theorem great_ok {h : AHeap} (hlow : h.low ≤ h.next) {a a' : Option Addr} {N M c c' : Nat} {Q : Value → AHeap → Prop}
  (hQ : ∀ r : Bool,(r = false → N ≤ 40 ∧ M ≤ 80) → Q (.bool r) h) : call 9 [.slice a N c,.slice a' M c'] h Q:=by
 refine hA.bodyR Try.func9 r9_ok (hA.alike _ _ _ rfl) hlow (zc ?_)
 refine br ((16 : Int) < N) (by rw [e_gtr hA,e_ofNat hA]) (fun c1 => ?_) (fun c1 => ?_) <;> refine zc ?_
 ·refine br ((N : Int) ≤ 32) (by rw [e_leq hA,e_ofNat hA]) (fun c2 => ?_) (fun c2 => ?_) <;> refine zc ?_
  ·exact hQ true (fun q => by cases q)
  refine br ((40 : Int) < N) (by rw [e_gtr hA,e_ofNat hA]) (fun c3 => ?_) (fun c3 => ?_) <;> refine zc ?_
  ·exact hQ true (fun q => by cases q)
  rw [e_gtr hA,e_ofNat hA]
  exact hQ _ (fun q => by have:=of_decide_eq_false q;omega)
 ·refine br ((40 : Int) < N) (by rw [e_gtr hA,e_ofNat hA]) (fun c3 => ?_) (fun c3 => ?_) <;> refine zc ?_
  ·exact hQ true (fun q => by cases q)
  rw [e_gtr hA,e_ofNat hA]
  exact hQ _ (fun q => by have:=of_decide_eq_false q;omega)
end Go.Proofs.Ytkbgkjlgnmlghaa
namespace Go.Proofs.Ytkbgkjlgnmlghaa
open Go.Sim
set_option linter.unusedVariables false
set_option maxRecDepth 100000
theorem pk_none (h : AHeap) : Rows Pk.cells 4 h none 0 []:=⟨by simp [Cells],fun _ => rfl,by omega⟩
def GridV (h0 h : AHeap) (a : Option Addr) (k : Nat) (g : Gd) : Prop:=
 (a = none ∧ k = 0 ∧ g = []) ∨ (∃ oa bs,a = some ⟨oa,0,none⟩ ∧ 2 ≤ k ∧ k ≤ 8 ∧ SqG k g ∧ Grid2 Ck.cells 3 h0 h oa bs g)
theorem GridV.more {h0 h h' : AHeap} {a : Option Addr} {k : Nat} {g : Gd} (t : GridV h0 h a k g) (e : Ext h h') : GridV h0 h' a k g:=by
 rcases t with q | ⟨oa,bs,q1,q2,q3,q4,q5⟩
 ·exact .inl q
 ·exact .inr ⟨oa,bs,q1,q2,q3,q4,q5.more e⟩
theorem GridIs.n {n : Int} {l : List Sk} {v : List Ck} {g : Gd} (h : GridIs n l v g 0) : 2 ≤ n ∧ n ≤ 8:=by
 rcases h with ⟨a,b,c⟩ | ⟨a,b,c,d⟩ | ⟨a,b,b',c,d⟩ | ⟨a,b,b',c⟩
 ·exact absurd rfl b
 all_goals exact a.zero.1
variable {F : Prims} {call head arith cmp scmp bnot bsame conv neg imax imin ofNat slen place inR nz geZ rd wr push next mkOK nat zeros sadd eqAgg cut slc sslc strAt part app cpy putAt fresh lowered bump wrote addN lt ne fpAll brk yn rng mget mput mnew bytes clr : _} (hA : AP F ⟨call,head,arith,cmp,scmp,bnot,bsame,conv,neg,imax,imin,ofNat,slen,place,inR,nz,geZ,rd,wr,push,next,mkOK,nat,zeros,sadd,eqAgg,cut,slc,sslc,strAt,part,app,cpy,putAt,fresh,lowered,bump,wrote,addN,lt,ne,fpAll,brk,yn,rng,mget,mput,mnew,bytes,clr⟩)
include hA
theorem kparts_is {h : AHeap} (hlow : h.low ≤ h.next) {n un ud vn vd : Int} (iu : i64 un ∧ i64 ud) (iv : i64 vn ∧ i64 vd) {Q : Value → AHeap → Prop}
  (hQ : ∀ a c N L e h',CheckS n [⟨un,ud,vn,vd⟩] e → Ext h h' → Rows Pk.cells 4 h' a N L → N ≤ 100000 → (e = 0 → L = partsR n ⟨un,ud,vn,vd⟩ n) → (e ≠ 0 → L = []) → Q (.tuple #[.slice a N c,.int .i64 e]) h') :
  call 10 [.int .i64 n,.agg #[.int .i64 un,.int .i64 ud,.int .i64 vn,.int .i64 vd]] h Q:=by
 refine parts_ok hA hlow iu iv (fun e h' k c x => hQ none 0 0 [] e h' k x (pk_none _) (by omega) (fun q => absurd q c) (fun _ => rfl)) (fun b c N L h' k D hp hs => ?_)
 obtain ⟨⟨n2,n8⟩,_,hz⟩:=k.zero
 obtain ⟨cu,cv⟩:=hz 0 (by omega) (by simp)
 have cu : Coord n un ud:=⟨cu,n2,n8⟩
 have cv : Coord n vn vd:=⟨cv,n2,n8⟩
 obtain rfl : L = partsR n ⟨un,ud,vn,vd⟩ n:=sorted_parts (s:=⟨un,ud,vn,vd⟩) cu cv D.len hp hs
 have rows : Rows Pk.cells 4 h' (some ⟨b,0,none⟩) N (partsR n ⟨un,ud,vn,vd⟩ n):=by
  have:=Own.rows D.own pk_len (by omega) D.lt
  rwa [D.len] at this
 exact hQ _ _ _ _ _ _ k D.ext rows D.few (fun _ => rfl) (fun q => absurd rfl q)
end Go.Proofs.Ytkbgkjlgnmlghaa
namespace Go.Proofs.Ytkbgkjlgnmlghaa
open Go.Sim
set_option linter.unusedVariables false
set_option maxRecDepth 100000
variable {F : Prims} {call head arith cmp scmp bnot bsame conv neg imax imin ofNat slen place inR nz geZ rd wr push next mkOK nat zeros sadd eqAgg cut slc sslc strAt part app cpy putAt fresh lowered bump wrote addN lt ne fpAll brk yn rng mget mput mnew bytes clr : _} (hA : AP F ⟨call,head,arith,cmp,scmp,bnot,bsame,conv,neg,imax,imin,ofNat,slen,place,inR,nz,geZ,rd,wr,push,next,mkOK,nat,zeros,sadd,eqAgg,cut,slc,sslc,strAt,part,app,cpy,putAt,fresh,lowered,bump,wrote,addN,lt,ne,fpAll,brk,yn,rng,mget,mput,mnew,bytes,clr⟩)
include hA
theorem lvalid_ok {h : AHeap} (hlow : h.low ≤ h.next) {n : Int} {a a' : Option Addr} {N M c c' : Nat} {l : List Sk} {v : List Ck} (hl : Sps h a N l) (hi : allS l) (hv : Cs h a' M v) {Q : Value → AHeap → Prop}
  (hQ : ∀ (r : Bool) h',(r = true → CheckS n l 0 ∧ N = M ∧ ValidL v ∧ N ≤ 40 ∧ M ≤ 80) → Ext h h' → Q (.bool r) h') : call 19 [.int .i64 n,.slice a N c,.slice a' M c'] h Q:=by
 refine hA.bodyR Try.func19 r19_ok (hA.alike _ _ _ rfl) hlow (zc ?_)
 refine great_ok hA hlow (fun r hr => ⟨_,rfl,?_⟩)
 cases r with
 | true =>
  refine zc ?_
  rw [show bnot true = false by rw [e_bnot hA];rfl]
  refine zc ?_
  exact hQ false h (fun q => by cases q) (.refl h)
 | false =>
 obtain ⟨hN,hM⟩:=hr rfl
 refine zc ?_
 rw [show bnot false = true by rw [e_bnot hA];rfl]
 refine zc ?_
 refine rkcheck_ok hA hlow hl hi (fun e h1 k1 x1 => ⟨_,rfl,?_⟩)
 refine zc ?_
 refine br (e = 0) (by rw [e_eql hA]) (fun c1 => ?_) (fun c1 => ?_) <;> refine zc ?_
 rotate_left
 ·exact hQ false h1 (fun q => by cases q) x1
 refine br ((N : Int) = M) (by rw [e_eql hA,e_ofNat hA,e_ofNat hA]) (fun c2 => ?_) (fun c2 => ?_) <;> refine zc ?_
 rotate_left
 ·exact hQ false h1 (fun q => by cases q) x1
 refine rvalid_ok hA (x1.lowOK hlow) (hv.ext x1) (by omega) (fun r h2 k2 x2 => ⟨_,rfl,?_⟩)
 refine zc ?_
 subst c1
 exact hQ r h2 (fun q => ⟨k1,by omega,k2.1 q,hN,hM⟩) (x1.trans x2)
theorem kgrid_is2 {h : AHeap} (hlow : h.low ≤ h.next) {n : Int} {a a' : Option Addr} {N M c c' : Nat} {l : List Sk} {v : List Ck} (hl : Sps h a N l) (hi : allS l) (hv : Cs h a' M v) (hM : M ≤ 100000) (hN : N ≤ 100000) {Q : Value → AHeap → Prop}
  (hQ : ∀ b k cap g e h',GridIs n l v g e → GridV h h' b k g → (e = 0 → (k : Int) = n) → Ext h h' → Q (.tuple #[.slice b k cap,.int .i64 e]) h') :
  call 12 [.int .i64 n,.slice a N c,.slice a' M c'] h Q:=
 kgrid_ok hA hlow hl hi hv hM hN (fun e h' k z x => hQ none 0 0 [] e h' k (.inl ⟨rfl,rfl,rfl⟩) (fun q => absurd q z) x) (fun oa bs g h' k sq t => hQ _ _ _ g 0 h' k (.inr ⟨oa,bs,rfl,by have:=k.n;omega,by have:=k.n;omega,sq,t⟩) (fun _ => by have:=k.n;omega) t.ext)
theorem sq_one {h0 w : AHeap} (hlow : h0.low ≤ h0.next) {oa cap : Nat} {bs : List Nat} {g : Gd} {n : Nat} (sq : SqG n g) (hn : n ≤ 8) (t : Grid2 Ck.cells 3 w h0 oa bs g) {Q : Exit → SS → Prop}
  (hok : ∀ h',Ext h0 h' → Q (.exit 0) ⟨[(0,.slice (some ⟨oa,0,none⟩) n cap)],0,[],h'⟩) :
  ∀ (m : Nat) (i : Int) (h : AHeap),(n - i).toNat ≤ m → 0 ≤ i → i ≤ n → Ext h0 h →
   head 23 4 0 ⟨[(0,.slice (some ⟨oa,0,none⟩) n cap),(3,.int .i64 i)],0,[],h⟩ Q:=by
 intro m
 induction m with
 | zero =>
  intro i h hm i0 i1 he
  refine hA.roundR Try.func23 r23_ok (zc ?_)
  refine br (i < n) (by rw [e_lss hA,e_ofNat hA]) (fun c1 => by omega) (fun c1 => ?_) <;> refine zc ?_
  exact hok h he
 | succ m ih =>
 intro i h hm i0 i1 he
 by_cases ci : i < n
 rotate_left
 ·refine hA.roundR Try.func23 r23_ok (zc ?_)
  refine br (i < n) (by rw [e_lss hA,e_ofNat hA]) (fun c1 => absurd c1 ci) (fun c1 => ?_) <;> refine zc ?_
  exact hok h he
 have t9:=t.more he
 have gl:=sq.len
 have ry:=sq.row i i0 ci
 obtain ⟨rb,hrb⟩ : ∃ z,z = bs.getD i.toNat 0:=⟨_,rfl⟩
 have d1:=t9.head i0 (by omega)
 unfold hdr at d1
 rw [ry,← hrb] at d1
 have d1:=rd_ok hA d1
 generalize hcap : someCap 3 n = cp at *
 refine hA.roundR Try.func23 r23_ok (zc ?_)
 refine br (i < n) (by rw [e_lss hA,e_ofNat hA]) (fun c1 => ?_) (fun c1 => absurd ci c1) <;> refine zc ?_
 refine zq ?_
 refine br ((n : Int) ≠ n) (by rw [e_neq hA,e_ofNat hA]) (fun q => absurd rfl q) (fun _ => ?_) <;> refine zc ?_
 rw [add64 hA (by omega) (by omega)]
 exact ih (i + 1) h (by omega) (by omega) (by omega) he
theorem sq_two {h0 w : AHeap} (hlow : h0.low ≤ h0.next) {oa cap : Nat} {bs : List Nat} {g : Gd} {n : Nat} (sq : SqG n g) (hn : n ≤ 8) (t : Grid2 Ck.cells 3 w h0 oa bs g) {Q : Exit → SS → Prop}
  (hok : ∀ h' kn,Ext h0 h' → Q (.exit 2) ⟨[],kn,[],h'⟩) :
  ∀ (m : Nat) (i : Int) (h : AHeap),(n - i).toNat ≤ m → 0 ≤ i → i ≤ n → Ext h0 h →
   head 23 9 0 ⟨[(0,.slice (some ⟨oa,0,none⟩) n cap),(4,.int .i64 i)],0,[],h⟩ Q:=by
 intro m
 induction m with
 | zero =>
  intro i h hm i0 i1 he
  refine hA.roundR Try.func23 r23_ok (zc ?_)
  refine br (i < n) (by rw [e_lss hA,e_ofNat hA]) (fun c1 => by omega) (fun c1 => ?_) <;> refine zc ?_
  exact hok h _ he
 | succ m ih =>
 intro i h hm i0 i1 he
 by_cases ci : i < n
 rotate_left
 ·refine hA.roundR Try.func23 r23_ok (zc ?_)
  refine br (i < n) (by rw [e_lss hA,e_ofNat hA]) (fun c1 => absurd c1 ci) (fun c1 => ?_) <;> refine zc ?_
  exact hok h _ he
 have t9:=t.more he
 have gl:=sq.len
 have ry:=sq.row i i0 ci
 obtain ⟨rb,hrb⟩ : ∃ z,z = bs.getD i.toNat 0:=⟨_,rfl⟩
 have d1:=t9.head i0 (by omega)
 unfold hdr at d1
 rw [ry,← hrb] at d1
 have d1:=rd_ok hA d1
 have w1 : Cs h (some ⟨rb,0,none⟩) n (gt g i):=by
  have:=Own.rows (t9.row i i0 (by omega)) t9.each (by omega) (t9.ltr _ (bs_mem (by have:=t.len;omega)))
  rwa [ry,← hrb] at this
 generalize hcap : someCap 3 n = cp at *
 refine hA.roundR Try.func23 r23_ok (zc ?_)
 refine br (i < n) (by rw [e_lss hA,e_ofNat hA]) (fun c1 => ?_) (fun c1 => absurd ci c1) <;> refine zc ?_
 refine zq ?_
 refine rvalid_ok hA (he.lowOK hlow) w1 (by omega) (fun r h2 k2 x2 => ⟨_,rfl,?_⟩)
 obtain rfl : r = true:=k2.2 (fun j j0 j1 => sq.ok i j i0 ci j0 (by rw [ry] at j1;exact j1))
 refine zc ?_
 rw [show bnot true = false by rw [e_bnot hA];rfl]
 refine zc ?_
 rw [add64 hA (by omega) (by omega)]
 exact ih (i + 1) h2 (by omega) (by omega) (by omega) (he.trans x2)
theorem square_ok {h w : AHeap} (hlow : h.low ≤ h.next) {a : Option Addr} {cap : Nat} {g : Gd} {n : Nat} (n2 : 2 ≤ n) (t : GridV w h a n g) {Q : Value → AHeap → Prop}
  (hQ : ∀ h',Ext h h' → Q (.int .i64 0) h') : call 23 [.slice a n cap] h Q:=by
 rcases t with ⟨rfl,rfl,rfl⟩ | ⟨oa,bs,rfl,k2,k8,sq,t⟩
 ·omega
 refine hA.bodyR Try.func23 r23_ok (hA.alike _ _ _ rfl) hlow (zc ?_)
 refine br ((n : Int) < 2) (by rw [e_lss hA,e_ofNat hA]) (fun q => by omega) (fun _ => ?_) <;> refine zc ?_
 refine br (8 < (n : Int)) (by rw [e_gtr hA,e_ofNat hA]) (fun q => by omega) (fun _ => ?_) <;> refine zc ?_
 refine sq_one hA hlow sq k8 t (fun h1 x1 => ?_) n 0 h (by omega) (by omega) (by omega) (.refl h)
 refine zc ?_
 refine sq_two hA (x1.lowOK hlow) sq k8 (t.more x1) (fun h2 kn x2 => ?_) n 0 h1 (by omega) (by omega) (by omega) (.refl h1)
 refine zc ?_
 exact hQ h2 (x1.trans x2)
end Go.Proofs.Ytkbgkjlgnmlghaa
