import Derived.Test.YtkbgkjlgnmlghaaGreatCaM
import Derived.Test.YtkbgkjlgnmlghaaGreatCaK
import Derived.Test.YtkbgkjlgnmlghaaGreatCaF
set_option linter.unusedSimpArgs false
set_option linter.unusedVariables false
namespace Go.Proofs.YtkbgkjlgnmlghaaGreat
open Go.Sim
set_option linter.unusedVariables false
set_option maxRecDepth 100000
theorem pk_none (h : AHeap) : Rows Pk.cells 4 h none 0 []:=⟨by simp [Cells],fun _ => rfl,by omega⟩
variable {F : Prims} {call head arith cmp scmp bnot bsame conv neg imax imin ofNat slen place inR nz geZ rd wr push next mkOK nat zeros sadd eqAgg cut slc sslc strAt part app cpy putAt fresh lowered bump wrote addN lt ne fpAll fpApp brk yn rng mget mput mnew bytes clr : _} (hA : AP F ⟨call,head,arith,cmp,scmp,bnot,bsame,conv,neg,imax,imin,ofNat,slen,place,inR,nz,geZ,rd,wr,push,next,mkOK,nat,zeros,sadd,eqAgg,cut,slc,sslc,strAt,part,app,cpy,putAt,fresh,lowered,bump,wrote,addN,lt,ne,fpAll,fpApp,brk,yn,rng,mget,mput,mnew,bytes,clr⟩)
include hA
theorem kparts_is {h : AHeap} (hlow : h.low ≤ h.next) {n un ud vn vd : Int} (iu : i64 un ∧ i64 ud) (iv : i64 vn ∧ i64 vd) {Q : Value → AHeap → Prop}
  (hQ : ∀ a c N L e h',CheckS n [⟨un,ud,vn,vd⟩] e → Ext h h' → Rows Pk.cells 4 h' a N L → N ≤ 100000 → (e = 0 → L = partsR n ⟨un,ud,vn,vd⟩ n) → (e ≠ 0 → L = []) → Q (.tuple #[.slice a N c,.int .i64 e]) h') :
  call 15 [.int .i64 n,.agg #[.int .i64 un,.int .i64 ud,.int .i64 vn,.int .i64 vd]] h Q:=by
 refine parts_ok hA hlow iu iv (fun e h' k c x => hQ none 0 0 [] e h' k x (pk_none _) (by omega) (fun q => absurd q c) (fun _ => rfl)) (fun b c N L h' k D hp hs => ?_)
 obtain ⟨⟨n2,n8⟩,_,hz⟩:=k.zero
 obtain ⟨cu,cv⟩:=hz 0 (by omega) (by simp)
 have cu : Coord n un ud:=⟨cu,n2,n8⟩
 have cv : Coord n vn vd:=⟨cv,n2,n8⟩
 obtain rfl : L = partsR n ⟨un,ud,vn,vd⟩ n:=sorted_parts (s:=⟨un,ud,vn,vd⟩) cu cv D.len hp hs
 have rows : Rows Pk.cells 4 h' (some ⟨b,0,none⟩) N (partsR n ⟨un,ud,vn,vd⟩ n):=by
  have:=Own.rows D.own pk_len (by omega) D.lt
  rwa [D.len] at this
 exact hQ _ _ _ _ _ _ k D.ext rows D.few (fun _ => rfl) (fun q => absurd rfl q)
end Go.Proofs.YtkbgkjlgnmlghaaGreat
namespace Go.Proofs.YtkbgkjlgnmlghaaGreat
open Go.Sim
set_option linter.unusedVariables false
set_option maxRecDepth 100000
def places (n : Int) (l : List Sk) (i : Int) : List (Pk × Int):=(upTo i).flatMap fun j => (partsR n (gt l j) n).map fun e => (e,j)
noncomputable def cv (g : Gd) (y x : Int) : Cq:=(gt (gt g y) x).val
end Go.Proofs.YtkbgkjlgnmlghaaGreat
namespace Go.Proofs.YtkbgkjlgnmlghaaGreat
open Go.Sim
set_option linter.unusedVariables false
set_option maxRecDepth 100000
theorem gt_append_left {α : Type} [Inhabited α] (l r : List α) {i : Int} (h0 : 0 ≤ i) (h : i < l.length) : gt (l ++ r) i = gt l i:=by
 unfold gt;rw [List.getD_eq_getElem?_getD,List.getD_eq_getElem?_getD,List.getElem?_append_left (by omega)]
theorem gt_append_at {α : Type} [Inhabited α] (l : List α) (x : α) {i : Int} (h : i = l.length) : gt (l ++ [x]) i = x:=by
 unfold gt;rw [List.getD_eq_getElem?_getD,h,Int.toNat_natCast,List.getElem?_concat_length];rfl
variable {F : Prims} {call head arith cmp scmp bnot bsame conv neg imax imin ofNat slen place inR nz geZ rd wr push next mkOK nat zeros sadd eqAgg cut slc sslc strAt part app cpy putAt fresh lowered bump wrote addN lt ne fpAll fpApp brk yn rng mget mput mnew bytes clr : _} (hA : AP F ⟨call,head,arith,cmp,scmp,bnot,bsame,conv,neg,imax,imin,ofNat,slen,place,inR,nz,geZ,rd,wr,push,next,mkOK,nat,zeros,sadd,eqAgg,cut,slc,sslc,strAt,part,app,cpy,putAt,fresh,lowered,bump,wrote,addN,lt,ne,fpAll,fpApp,brk,yn,rng,mget,mput,mnew,bytes,clr⟩)
include hA
end Go.Proofs.YtkbgkjlgnmlghaaGreat
namespace Go.Proofs.YtkbgkjlgnmlghaaGreat
open Go.Sim
set_option linter.unusedVariables false
set_option maxRecDepth 100000
structure Hd where
 a : Option Addr
 n : Nat
 c : Nat
 deriving Inhabited
def Hd.cells (k : Hd) : List Value:=[.slice k.a k.n k.c]
structure GridRd (h : AHeap) (a : Option Addr) (N : Nat) (hs : List Hd) (g : Gd) : Prop where
 hd : Rows Hd.cells 1 h a N hs
 len : g.length = N
 rowW : ∀ y : Int,0 ≤ y → y < N → Cs h (gt hs y).a (gt hs y).n (gt g y) ∨ ((gt hs y).n = 0 ∧ gt g y = [])
theorem GridRd.ext {h h' : AHeap} {a : Option Addr} {N : Nat} {hs : List Hd} {g : Gd} (t : GridRd h a N hs g) (e : Ext h h') : GridRd h' a N hs g:=⟨t.hd.ext e,t.len,fun y y0 y1 => (t.rowW y y0 y1).imp (fun r => r.ext e) id⟩
theorem GridRd.rowL {h : AHeap} {a : Option Addr} {N : Nat} {hs : List Hd} {g : Gd} (t : GridRd h a N hs g) (y : Int) (y0 : 0 ≤ y) (y1 : y < N) : (gt g y).length = (gt hs y).n:=by
 rcases t.rowW y y0 y1 with q | ⟨q1,q2⟩
 ·exact q.len
 ·rw [q1,q2];rfl
theorem GridRd.rowS {h : AHeap} {a : Option Addr} {N : Nat} {hs : List Hd} {g : Gd} (t : GridRd h a N hs g) (y : Int) (y0 : 0 ≤ y) (y1 : y < N) (hn : 0 < (gt hs y).n) : Cs h (gt hs y).a (gt hs y).n (gt g y):=by
 rcases t.rowW y y0 y1 with q | ⟨q1,q2⟩
 ·exact q
 ·omega
theorem GridRd.row {h : AHeap} {a : Option Addr} {N : Nat} {hs : List Hd} {g : Gd} (t : GridRd h a N hs g) (sq : SqG N g) (y : Int) (y0 : 0 ≤ y) (y1 : y < N) : Cs h (gt hs y).a (gt hs y).n (gt g y):=
 t.rowS y y0 y1 (by have:=t.rowL y y0 y1;rw [sq.row y y0 y1] at this;omega)
noncomputable def degS (g : Gd) (L : List Pk) (s : Ck) : Option Ck:=L.foldlM (fun s e => plusF s e.w (gt (gt g e.y) e.x)) s
theorem degS_append (g : Gd) (a b : List Pk) (s : Ck) : degS g (a ++ b) s = (degS g a s).bind (degS g b):=by unfold degS;rw [List.foldlM_append];rfl
theorem degS_one (g : Gd) (e : Pk) (s : Ck) : degS g [e] s = plusF s e.w (gt (gt g e.y) e.x):=by unfold degS;rw [List.foldlM_cons];cases plusF s e.w (gt (gt g e.y) e.x) <;> rfl
theorem grid_some {h : AHeap} {a : Option Addr} {N : Nat} {hs : List Hd} {g : Gd} (t : GridRd h a N hs g) (hN : 0 < N) : ∃ b o,a = some ⟨b,o,none⟩ ∧ b < h.next:=by
 obtain ⟨b,o,e,l,_⟩:=t.hd.at (i:=0) (by omega) (by omega)
 exact ⟨b,o,e,l⟩
variable {F : Prims} {call head arith cmp scmp bnot bsame conv neg imax imin ofNat slen place inR nz geZ rd wr push next mkOK nat zeros sadd eqAgg cut slc sslc strAt part app cpy putAt fresh lowered bump wrote addN lt ne fpAll fpApp brk yn rng mget mput mnew bytes clr : _} (hA : AP F ⟨call,head,arith,cmp,scmp,bnot,bsame,conv,neg,imax,imin,ofNat,slen,place,inR,nz,geZ,rd,wr,push,next,mkOK,nat,zeros,sadd,eqAgg,cut,slc,sslc,strAt,part,app,cpy,putAt,fresh,lowered,bump,wrote,addN,lt,ne,fpAll,fpApp,brk,yn,rng,mget,mput,mnew,bytes,clr⟩)
include hA
theorem head_rd {h : AHeap} {b o N : Nat} {hs : List Hd} {g : Gd} (t : GridRd h (some ⟨b,o,none⟩) N hs g) {y : Int} (y0 : 0 ≤ y) (y1 : y < N) : rd h b (place o y 1) 1 [.slice (gt hs y).a (gt hs y).n (gt hs y).c]:=by
 obtain ⟨b',o',e,_,w⟩:=t.hd.at y0 y1
 cases e
 exact rd_ok hA (w 0 1 (by omega) (by omega))
theorem rd_cell {h : AHeap} {b o N : Nat} {hs : List Hd} {g : Gd} (t : GridRd h (some ⟨b,o,none⟩) N hs g) (sq : SqG N g) {y x : Int} (y0 : 0 ≤ y) (y1 : y < N) (x0 : 0 ≤ x) (x1 : x < N) :
  ∃ rb ro rc a b' d,rb < h.next ∧ rd h b (place o y 1) 1 [.slice (some ⟨rb,ro,none⟩) N rc] ∧ gt (gt g y) x = ⟨a,b',d⟩ ∧ rd h rb (place ro x 3) 3 [.int .i64 a,.int .i64 b',.int .i64 d]:=by
 have hr:=head_rd hA t y0 y1
 have r:=t.row sq y y0 y1
 have ry:=sq.row y y0 y1
 have e:=r.len
 rw [ry] at e
 rw [← e] at r hr
 obtain ⟨b1,o1,a1,a2,a3,ea,lb,hg,rr⟩:=cs_at r (i:=x) x0 x1
 rw [ea] at hr
 exact ⟨b1,o1,_,a1,a2,a3,lb,hr,hg,rd_ok hA rr⟩
end Go.Proofs.YtkbgkjlgnmlghaaGreat
