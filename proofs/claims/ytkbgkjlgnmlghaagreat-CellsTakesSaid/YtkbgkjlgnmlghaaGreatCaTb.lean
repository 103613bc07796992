import Derived.Test.YtkbgkjlgnmlghaaGreatCaX
import Derived.Test.YtkbgkjlgnmlghaaGreatCaTr
import Derived.Test.YtkbgkjlgnmlghaaGreatCaGa
set_option linter.unusedSimpArgs false
set_option linter.unusedVariables false
namespace Go.Proofs.YtkbgkjlgnmlghaaGreat
open Go.Sim
set_option linter.unusedVariables false
set_option maxRecDepth 100000
def DegIs (N : Nat) (g : Gd) (l : List Sk) (o : List Ck) (e : Int) : Prop:=
 (SqE N g e ∧ e ≠ 0 ∧ o = []) ∨ (SqE N g 0 ∧ CheckS N l e ∧ e ≠ 0 ∧ o = []) ∨
 (SqE N g 0 ∧ CheckS N l 0 ∧ (∃ j : Int,0 ≤ j ∧ j < l.length ∧ degS g (partsR N (gt l j) N) zeroK = none) ∧ e = 16 ∧ o = []) ∨
 (SqE N g 0 ∧ CheckS N l 0 ∧ DegL N l g o l.length ∧ e = 0)
theorem DegL.uniq {N : Nat} {l : List Sk} {g : Gd} {o o' : List Ck} {i : Int} (h : DegL N l g o i) (k : DegL N l g o' i) : o = o':=by
 have h1:=h.1
 have k1:=k.1
 refine gt_ext (by omega) (fun j j0 j1 => ?_)
 have a:=(h.2 j j0 (by omega)).1
 rw [(k.2 j j0 (by omega)).1] at a
 exact (Option.some.inj a).symm
theorem DegL.some {N : Nat} {l : List Sk} {g : Gd} {o : List Ck} {i : Int} (h : DegL N l g o i) {j : Int} (j0 : 0 ≤ j) (j1 : j < i) (hj : degS g (partsR N (gt l j) N) zeroK = none) : False:=by
 rw [(h.2 j j0 j1).1] at hj;cases hj
theorem DegIs.uniq {N : Nat} {g : Gd} {l : List Sk} {o o' : List Ck} {e e' : Int} (h : DegIs N g l o e) (k : DegIs N g l o' e') : o = o' ∧ e = e':=by
 rcases h with ⟨a,b,c⟩ | ⟨a,b,c,d⟩ | ⟨a,b,⟨j,j0,j1,hj⟩,c,d⟩ | ⟨a,b,c,d⟩ <;> rcases k with ⟨a',b',c'⟩ | ⟨a',b',c',d'⟩ | ⟨a',b',⟨j',j0',j1',hj'⟩,c',d'⟩ | ⟨a',b',c',d'⟩
 ·exact ⟨by rw [c,c'],a.uniq a'⟩
 ·exact absurd (a.uniq a') b
 ·exact absurd (a.uniq a') b
 ·exact absurd (a.uniq a') b
 ·exact absurd (a'.uniq a) b'
 ·exact ⟨by rw [d,d'],b.uniq b'⟩
 ·exact absurd (b.uniq b') c
 ·exact absurd (b.uniq b') c
 ·exact absurd (a'.uniq a) b'
 ·exact absurd (b'.uniq b) c'
 ·exact ⟨by rw [d,d'],by omega⟩
 ·exact (c'.some j0 j1 hj).elim
 ·exact absurd (a'.uniq a) b'
 ·exact absurd (b'.uniq b) c'
 ·exact (c.some j0' j1' hj').elim
 ·exact ⟨c.uniq c',by omega⟩
def DotIs (a b : List Ck) (r t u e : Int) : Prop:=
 ((64 < a.length ∨ 64 < b.length) ∧ r = 0 ∧ t = 0 ∧ u = 0 ∧ e = 4) ∨
 ((a.length ≤ 64 ∧ b.length ≤ 64) ∧ a.length ≠ b.length ∧ r = 0 ∧ t = 0 ∧ u = 0 ∧ e = 2) ∨
 ((a.length ≤ 64 ∧ b.length ≤ 64) ∧ a.length = b.length ∧ ¬ (ValidL a ∧ ValidL b) ∧ r = 0 ∧ t = 0 ∧ u = 0 ∧ e = 8) ∨
 ((a.length ≤ 64 ∧ b.length ≤ 64) ∧ a.length = b.length ∧ (ValidL a ∧ ValidL b) ∧ OutK (dotS (a.zip b) zeroK) r t u e)
theorem OutK.uniq' {z : Option Ck} {r t u e r' t' u' e' : Int} (h : OutK z r t u e) (k : OutK z r' t' u' e') : r = r' ∧ t = t' ∧ u = u' ∧ e = e':=by
 rcases h with ⟨p,rfl,rfl,rfl,rfl,rfl⟩ | ⟨rfl,rfl,rfl,rfl,rfl⟩ <;> rcases k with ⟨q,h,rfl,rfl,rfl,rfl⟩ | ⟨h,rfl,rfl,rfl,rfl⟩
 ·cases h;exact ⟨rfl,rfl,rfl,rfl⟩
 ·cases h
 ·cases h
 ·exact ⟨rfl,rfl,rfl,rfl⟩
theorem DotIs.uniq {a b : List Ck} {r t u e r' t' u' e' : Int} (h : DotIs a b r t u e) (k : DotIs a b r' t' u' e') : (r = r' ∧ t = t' ∧ u = u') ∧ e = e':=by
 rcases h with ⟨x,a1,a2,a3,a4⟩ | ⟨x,y,a1,a2,a3,a4⟩ | ⟨x,y,z,a1,a2,a3,a4⟩ | ⟨x,y,z,w⟩ <;> rcases k with ⟨x',b1,b2,b3,b4⟩ | ⟨x',y',b1,b2,b3,b4⟩ | ⟨x',y',z',b1,b2,b3,b4⟩ | ⟨x',y',z',w'⟩
 all_goals first | omega | exact absurd z' z | exact absurd z z' | skip
 have:=w.uniq' w'
 exact ⟨⟨this.1,this.2.1,this.2.2.1⟩,this.2.2.2⟩
def FlatIs (N : Nat) (g : Gd) (o : List Ck) (e : Int) : Prop:=(SqE N g e ∧ e ≠ 0 ∧ o = []) ∨ (SqE N g 0 ∧ o = g.flatten ∧ e = 0)
theorem FlatIs.uniq {N : Nat} {g : Gd} {o o' : List Ck} {e e' : Int} (h : FlatIs N g o e) (k : FlatIs N g o' e') : o = o' ∧ e = e':=by
 rcases h with ⟨a,b,c⟩ | ⟨a,b,c⟩ <;> rcases k with ⟨a',b',c'⟩ | ⟨a',b',c'⟩
 ·exact ⟨by rw [c,c'],a.uniq a'⟩
 ·exact absurd (a.uniq a') b
 ·exact absurd (a'.uniq a) b'
 ·exact ⟨by rw [b,b'],by omega⟩
theorem cs_none (h : AHeap) : Cs h none 0 []:=⟨by simp [Cells],fun _ => rfl,by omega⟩
variable {F : Prims} {call head arith cmp scmp bnot bsame conv neg imax imin ofNat slen place inR nz geZ rd wr push next mkOK nat zeros sadd eqAgg cut slc sslc strAt part app cpy putAt fresh lowered bump wrote addN lt ne fpAll fpApp brk yn rng mget mput mnew bytes clr : _} (hA : AP F ⟨call,head,arith,cmp,scmp,bnot,bsame,conv,neg,imax,imin,ofNat,slen,place,inR,nz,geZ,rd,wr,push,next,mkOK,nat,zeros,sadd,eqAgg,cut,slc,sslc,strAt,part,app,cpy,putAt,fresh,lowered,bump,wrote,addN,lt,ne,fpAll,fpApp,brk,yn,rng,mget,mput,mnew,bytes,clr⟩)
include hA
theorem kdeg_gen {h : AHeap} (hlow : h.low ≤ h.next) {ga : Option Addr} {nn gc : Nat} {hs : List Hd} {g : Gd} (t : GridRd h ga nn hs g) {sa : Option Addr} {N sc : Nat} {l : List Sk} (hl : Sps h sa N l) (hi : allS l) (hN : N ≤ 80) {Q : Value → AHeap → Prop}
  (hQ : ∀ h' a M cc Z e,DegIs nn g l Z e → Cs h' a M Z → M ≤ 80 → Ext h h' → Q (.tuple #[.slice a M cc,.int .i64 e]) h') :
  call 6 [.slice ga nn gc,.slice sa N sc] h Q:=by
 have lN:=hl.len
 refine hA.bodyR Tryz.func6 r6_ok (hA.alike _ _ _ rfl) hlow (zc ?_)
 refine check_gen hA hlow t (fun e h1 k1 x1 => ⟨_,rfl,?_⟩)
 refine zc ?_
 refine br (e ≠ 0) (by rw [e_neq hA]) (fun c => ?_) (fun c => ?_) <;> refine zc ?_
 ·exact hQ h1 none 0 0 [] e (.inl ⟨k1,c,rfl⟩) (cs_none _) (by omega) x1
 obtain rfl : e = 0:=by omega
 obtain ⟨n2,n8,sq⟩:=k1.zero t.len rfl
 obtain ⟨gb,go,rfl,_⟩:=grid_some t (by omega)
 rw [e_ofNat hA]
 refine kcheck_ok hA (x1.lowOK hlow) (hl.ext x1) hi (fun e h2 k2 x2 => ⟨_,rfl,?_⟩)
 have y2:=x1.trans x2
 refine zc ?_
 refine br (e ≠ 0) (by rw [e_neq hA]) (fun c => ?_) (fun c => ?_) <;> refine zc ?_
 ·exact hQ h2 none 0 0 [] e (.inr (.inl ⟨k1,k2,c,rfl⟩)) (cs_none _) (by omega) y2
 obtain rfl : e = 0:=by omega
 refine deg_outer hA (y2.lowOK hlow) n2 n8 sq (t.ext y2) (hl.ext y2) hi hN k2 (e_ofNat hA N) (fun h' e kn K hb x' => ?_) (fun h' a cc Z kn K hc hz x' => ?_) N 0 h2 none 0 [] (by omega) (by omega) (.nil _ _) ⟨rfl,fun j j0 j1 => by omega⟩ (fun ad q => by cases q) (.refl h2)
 ·refine zc ?_
  obtain ⟨j,j0,j1,hj⟩:=hb
  exact hQ h' none 0 0 [] 16 (.inr (.inr (.inl ⟨k1,k2,⟨j,j0,by omega,hj⟩,rfl,rfl⟩))) (cs_none _) (by omega) (y2.trans x')
 ·refine zc ?_
  rw [← lN] at hz
  exact hQ h' a N cc Z 0 (.inr (.inr (.inr ⟨k1,k2,hz,rfl⟩))) hc hN (y2.trans x')
theorem kdot_gen {h : AHeap} (hlow : h.low ≤ h.next) {va wa : Option Addr} {N M vc wc : Nat} {v w : List Ck} (hv : Cs h va N v) (hw : Cs h wa M w) {Q : Value → AHeap → Prop}
  (hQ : ∀ r t u e h',DotIs v w r t u e → Ext h h' → Q (.tuple #[.agg #[.int .i64 r,.int .i64 t,.int .i64 u],.int .i64 e]) h') :
  call 8 [.slice va N vc,.slice wa M wc] h Q:=by
 have lv:=hv.len
 have lw:=hw.len
 refine hA.bodyR Tryz.func8 r8_ok (hA.alike _ _ _ rfl) hlow (zc ?_)
 refine br (64 < (N : Int)) (by rw [e_gtr hA,e_ofNat hA]) (fun q => ?_) (fun q => ?_) <;> refine zc ?_
 ·exact hQ 0 0 0 4 h (.inl ⟨.inl (by omega),rfl,rfl,rfl,rfl⟩) (.refl h)
 refine br (64 < (M : Int)) (by rw [e_gtr hA,e_ofNat hA]) (fun q' => ?_) (fun q' => ?_) <;> refine zc ?_
 ·exact hQ 0 0 0 4 h (.inl ⟨.inr (by omega),rfl,rfl,rfl,rfl⟩) (.refl h)
 have few : v.length ≤ 64 ∧ w.length ≤ 64:=by omega
 refine br ((N : Int) ≠ M) (by rw [e_neq hA,e_ofNat hA,e_ofNat hA]) (fun q => ?_) (fun q => ?_) <;> refine zc ?_
 ·exact hQ 0 0 0 2 h (.inr (.inl ⟨few,by omega,rfl,rfl,rfl,rfl⟩)) (.refl h)
 obtain rfl : N = M:=by omega
 have same : v.length = w.length:=by omega
 refine kvalid_ok hA hlow hv (by omega) (fun r h1 k1 x1 => ⟨_,rfl,?_⟩)
 cases r with
 | false =>
  refine zc ?_
  rw [show bnot false = true by rw [e_bnot hA];rfl]
  refine zc ?_
  exact hQ 0 0 0 8 h1 (.inr (.inr (.inl ⟨few,same,(fun z => by have:=k1.2 z.1;cases this),rfl,rfl,rfl,rfl⟩))) x1
 | true =>
 have okv:=k1.1 rfl
 refine zc ?_
 rw [show bnot true = false by rw [e_bnot hA];rfl]
 refine zc ?_
 refine kvalid_ok hA (x1.lowOK hlow) (hw.ext x1) (by omega) (fun r h2 k2 x2 => ⟨_,rfl,?_⟩)
 have y2:=x1.trans x2
 cases r with
 | false =>
  refine zc ?_
  rw [show bnot false = true by rw [e_bnot hA];rfl]
  refine zc ?_
  exact hQ 0 0 0 8 h2 (.inr (.inr (.inl ⟨few,same,(fun z => by have:=k2.2 z.2;cases this),rfl,rfl,rfl,rfl⟩))) y2
 | true =>
 have okw:=k2.1 rfl
 refine zc ?_
 rw [show bnot true = false by rw [e_bnot hA];rfl]
 refine zc ?_
 rw [e_ofNat hA]
 refine dot_loop hA (y2.lowOK hlow) (hv.ext y2) (hw.ext y2) okv okw (by omega) rfl (fun h' e K hd x' => ?_) (fun h' s hd oks x' => ?_) N 0 h2 zeroK (by omega) (by omega) (by omega) rfl zeroK_ok (.refl h2)
 ·refine zc ?_
  exact hQ _ _ _ _ h' (.inr (.inr (.inr ⟨few,same,⟨okv,okw⟩,.inr ⟨hd,rfl,rfl,rfl,rfl⟩⟩))) (y2.trans x')
 ·refine zc ?_
  exact hQ _ _ _ _ h' (.inr (.inr (.inr ⟨few,same,⟨okv,okw⟩,.inl ⟨s,hd,rfl,rfl,rfl,rfl⟩⟩))) (y2.trans x')
theorem kflat_gen {h : AHeap} (hlow : h.low ≤ h.next) {a : Option Addr} {N c : Nat} {hs : List Hd} {g : Gd} (t : GridRd h a N hs g) {Q : Value → AHeap → Prop}
  (hbad : ∀ h' e,FlatIs N g [] e → Ext h h' → Q (.tuple #[.slice none 0 0,.int .i64 e]) h')
  (hok : ∀ h' b M cap,2 ≤ N → N ≤ 8 → SqG N g → FlatIs N g g.flatten 0 → M = N * N → Own h' b 3 (g.flatten.flatMap Ck.cells) → h.next ≤ b → b < h'.next → Ext h h' → Q (.tuple #[.slice (some ⟨b,0,none⟩) M cap,.int .i64 0]) h') : call 10 [.slice a N c] h Q:=by
 refine hA.bodyR Tryz.func10 r10_ok (hA.alike _ _ _ rfl) hlow (zc ?_)
 refine check_gen hA hlow t (fun e h1 k1 x1 => ⟨_,rfl,?_⟩)
 refine zc ?_
 refine br (e ≠ 0) (by rw [e_neq hA]) (fun c => ?_) (fun c => ?_) <;> refine zc ?_
 ·exact hbad h1 e (.inl ⟨k1,c,rfl⟩) x1
 obtain rfl : e = 0:=by omega
 obtain ⟨n2,n8,sq⟩:=k1.zero t.len rfl
 refine concat_ok hA (x1.lowOK hlow) n2 n8 sq (t.ext x1) (fun h2 b ho hb1 hb2 x2 => ⟨_,_,_,rfl,?_⟩)
 have fin:=fun cap => hok h2 b _ cap n2 n8 sq (.inr ⟨k1,rfl,rfl⟩) rfl ho (by have:=x1.next;omega) hb2 (x1.trans x2)
 generalize someCap 3 (N * N) = cap at *
 generalize N * N = mm at *
 refine zc ?_
 exact fin cap
end Go.Proofs.YtkbgkjlgnmlghaaGreat
