import Derived.Test.YtogliemiljhliaaRdSb
import Derived.Test.YtogliemiljhliaaRdYp
set_option linter.unusedSimpArgs false
set_option linter.unusedVariables false
namespace Go.Proofs.Ytogliemiljhliaa
open Go.Sim
set_option linter.unusedVariables false
set_option maxRecDepth 100000
def mov (l : List Int) (by_ : Int) : List Int:=l.map (· + by_)
theorem mov_len (l : List Int) (b : Int) : (mov l b).length = l.length:=by unfold mov;rw [List.length_map]
theorem mov_gt {l : List Int} {b i : Int} (i0 : 0 ≤ i) (i1 : i < l.length) : gt (mov l b) i = gt l i + b:=by unfold mov;rw [gt_map (· + b) l i0 i1]
theorem mov_cls (l : List Int) (b : Int) : clsL (mov l b) = clsL l:=by
 unfold clsL
 congr 1
 funext c
 congr 1
 unfold mov
 rw [List.any_map]
 congr 1
 funext x
 simp only [Function.comp,List.mem_map]
 apply decide_eq_decide.2
 constructor
 ·rintro ⟨a,h1,h2⟩
  have : a = x + c:=by omega
  rw [← this];exact h1
 ·intro h
  exact ⟨x + c,h,by omega⟩
theorem mov_diff {l : List Int} {b : Int} {p : P2} (hp : p ∈ pairsL l.length) : diffOf (mov l b) p = diffOf l p:=by
 obtain ⟨h0,h1,h2⟩:=mem_pairs.1 hp
 unfold diffOf
 rw [mov_gt (by omega) (by omega),mov_gt (by omega) (by omega)]
 omega
theorem mov_wid (l : List Int) (b : Int) : wid (mov l b) = wid l:=by unfold wid;rw [mov_len,mov_cls]
theorem mov_rows (l : List Int) (b : Int) : rowsL (mov l b) = rowsL l:=by
 unfold rowsL
 rw [mov_len]
 refine List.map_congr_left (fun p hp => ?_)
 unfold rowF
 rw [mov_wid,mov_len,mov_cls,mov_diff hp]
theorem mov_SE (l : List Int) (b : Int) (r : List Int) : SE (mov l b) r = SE l r:=by
 unfold SE S0 R0
 rw [mov_len,mov_wid,mov_rows]
theorem mov_bas (l : List Int) (b : Int) : basL (mov l b) = basL l:=by
 unfold basL
 rw [mov_SE,mov_len,mov_wid]
theorem mov_sol (l : List Int) (b : Int) (r : List Int) : solL (mov l b) r = solL l r:=by
 unfold solL
 rw [mov_SE,mov_wid]
theorem mov_ok (l : List Int) (b : Int) (r : List Int) : phsOk (mov l b) r ↔ phsOk l r:=by unfold phsOk;rw [mov_len]
theorem mov_solvable (l : List Int) (b : Int) (r : List Int) : solvable (mov l b) r ↔ solvable l r:=by unfold solvable;rw [mov_SE,mov_len,mov_wid]
theorem mov_solve {l r : List Int} {b e e' : Int} {x y x' y' : List Fc} (ln : Line l) (ln' : Line (mov l b)) (h : SolveIs l r e x y) (k : SolveIs (mov l b) r e' x' y') : e = e' ∧ x = x' ∧ y = y':=by
 have bad : ∀ {l : List Int} {e : Int},Line l → CheckL l e → e ≠ 0 → False:=fun ln c n => n (c.uniq (.inr (.inr (.inr ⟨⟨ln.n2,ln.n5⟩,ln.good,rfl⟩))))
 unfold SolveIs at h k
 rw [mov_ok,mov_solvable,mov_sol,mov_len] at k
 rcases h with ⟨c,n,_⟩ | ⟨_,h1,rfl,rfl,rfl⟩ | ⟨_,h1,h2,rfl,rfl,rfl⟩ | ⟨_,h1,h2,rfl,rfl,rfl⟩
 ·exact (bad ln c n).elim
 all_goals
  rcases k with ⟨c,n,_⟩ | ⟨_,k1,rfl,rfl,rfl⟩ | ⟨_,k1,k2,rfl,rfl,rfl⟩ | ⟨_,k1,k2,rfl,rfl,rfl⟩
  ·exact (bad ln' c n).elim
  all_goals first | exact ⟨rfl,rfl,rfl⟩ | exact absurd k1 h1 | exact absurd h1 k1 | exact absurd k2 h2 | exact absurd h2 k2
end Go.Proofs.Ytogliemiljhliaa
namespace Go.Proofs.Ytogliemiljhliaa
open Go.Sim
set_option linter.unusedVariables false
set_option maxRecDepth 100000
theorem solve_few {l r : List Int} {e : Int} {x y : List Fc} (ln : Line l) (h : SolveIs l r e x y) : x.length ≤ 100 ∧ y.length ≤ 100:=by
 have w:=wid_few ln
 have ls : (solL l r).length = wid l:=by unfold solL;rw [lst_len]
 rcases h with ⟨_,_,rfl,rfl⟩ | ⟨_,_,_,rfl,rfl⟩ | ⟨_,_,_,_,rfl,rfl⟩ | ⟨_,_,_,_,rfl,rfl⟩
 ·exact ⟨Nat.zero_le _,Nat.zero_le _⟩
 ·exact ⟨Nat.zero_le _,Nat.zero_le _⟩
 ·exact ⟨Nat.zero_le _,Nat.zero_le _⟩
 ·rw [List.length_take,List.length_drop];omega
variable {F : Prims} {call head arith cmp scmp bnot bsame conv neg imax imin ofNat slen place inR nz geZ rd wr push next mkOK nat zeros sadd eqAgg cut slc sslc strAt part app cpy putAt fresh lowered bump wrote addN lt ne fpAll fpApp brk yn rng mget mput mnew bytes clr : _} (hA : AP F ⟨call,head,arith,cmp,scmp,bnot,bsame,conv,neg,imax,imin,ofNat,slen,place,inR,nz,geZ,rd,wr,push,next,mkOK,nat,zeros,sadd,eqAgg,cut,slc,sslc,strAt,part,app,cpy,putAt,fresh,lowered,bump,wrote,addN,lt,ne,fpAll,fpApp,brk,yn,rng,mget,mput,mnew,bytes,clr⟩)
include hA
theorem mov_loop {h0 : AHeap} (hlow : h0.low ≤ h0.next) {a : Option Addr} {N c : Nat} {l : List Int} (hl : Is h0 a N l) (ln : Line l) {b : Int} (hb : -31 ≤ b ∧ b ≤ 31) {v1 v7 : Value} {Q : Exit → SS → Prop}
  (hQ : ∀ h' ao co,Is h' ao N (mov l b) → Ext h0 h' → Q (.exit 0) ⟨[(0,.slice a N c),(1,v1),(7,v7),(8,.slice ao N co)],0,[],h'⟩) :
  ∀ (d i : Nat) (I : Int) (h : AHeap) (ao : Option Addr) (co : Nat),N - i = d → i ≤ N → I = i → Apd h 1 ao i co (((mov l b).take i).flatMap iC) → From h0.next ao → Ext h0 h →
   head 6 6 0 ⟨[(0,.slice a N c),(1,v1),(2,.int .i64 b),(7,v7),(8,.slice ao i co),(9,.int .i64 I)],0,[],h⟩ Q:=by
 have lN:=hl.len
 have n5:=ln.n5
 intro d
 induction d with
 | zero =>
  intro i I h ao co hd hi eI t hf e
  obtain rfl : i = N:=by omega
  refine hA.roundR Try.func6 r6_ok (zc ?_)
  refine br (I < (i : Int)) (by rw [e_lss hA,e_ofNat hA]) (fun q => by omega) (fun _ => ?_) <;> refine zc ?_
  rw [List.take_of_length_le (by rw [mov_len];omega)] at t
  exact hQ h ao co ⟨t.cells,iC_len,by omega⟩ e
 | succ d ih =>
 intro i I h ao co hd hi eI t hf e
 obtain ⟨lb,lo,x,ea,_,hx,r1⟩:=is_at (hl.ext e) (i:=I) (by omega) (by omega)
 subst ea
 have r1:=rd_ok hA r1
 have g:=ln.rng (i:=I) (by omega) (by omega)
 obtain ⟨y,hy⟩ : ∃ z,z = x + b:=⟨_,rfl⟩
 have ey : arith .add .i64 x b = y:=by rw [hy];exact add64 hA (by omega) (by omega)
 refine hA.roundR Try.func6 r6_ok (zc ?_)
 refine br (I < (N : Int)) (by rw [e_lss hA,e_ofNat hA]) (fun _ => ?_) (fun q => by omega) <;> refine zc ?_
 (refine zq ?_;repeat ((first | rw [ey]);refine zq ?_))
 refine appR_ok hA TI iC_len (by omega) iC_ok (v:=y) t (by omega) (fun a' c' h' ha hx' => ?_)
 obtain ⟨i',hi'⟩ : ∃ z,z = i + 1:=⟨_,rfl⟩
 rw [← hi'] at ha ⊢
 refine zc ?_
 rw [add64 hA (by omega) (by omega)]
 obtain ⟨y1,y2⟩:=hx' h0 e hf
 have tk:=gt_take (mov l b) (i:=I) (by omega) (by rw [mov_len];omega)
 rw [show (I + 1).toNat = i' by omega,show I.toNat = i by omega,mov_gt (by omega) (by omega),hx,← hy] at tk
 refine ih i' (I + 1) h' a' c' (by omega) (by omega) (by omega) ?_ y2 y1
 rw [tk]
 exact ha
theorem lmoves_ok (hF : ∀ h,F 23 [] h = some (.bool true,h)) {h : AHeap} (hlow : h.low ≤ h.next) {a : Option Addr} {N c : Nat} {l : List Int} (hl : Is h a N l) {ar : Option Addr} {M cr : Nat} {ph : List Int} (hr : Is h ar M ph) {b : Int} {Q : Value → AHeap → Prop}
  (hQ : ∀ h',Ext h h' → Q (.bool true) h') : call 6 [.slice a N c,.slice ar M cr,.int .i64 b] h Q:=by
 have lN:=hl.len
 refine hA.bodyR Try.func6 r6_ok (hA.alike _ _ _ rfl) hlow (zc ?_)
 refine hA.prim (hF h) ⟨_,rfl,?_⟩
 refine zc ?_
 refine rchk_ok hA hlow hl (fun e h1 k1 x1 => ⟨_,rfl,?_⟩)
 refine zc ?_
 refine br (e ≠ 0) (by rw [e_neq hA]) (fun c1 => ?_) (fun c1 => ?_) <;> refine zc ?_
 ·exact hQ h1 x1
 have e0 : e = 0:=Decidable.of_not_not c1
 have ln:=k1.zero e0
 refine zc ?_
 refine br (20 < (M : Int)) (by rw [e_gtr hA,e_ofNat hA]) (fun c2 => ?_) (fun c2 => ?_) <;> refine zc ?_
 ·exact hQ h1 x1
 refine zc ?_
 refine br (b < -31) (by rw [e_lss hA]) (fun c3 => ?_) (fun c3 => ?_) <;> refine zc ?_
 ·exact hQ h1 x1
 refine zc ?_
 refine br (31 < b) (by rw [e_gtr hA]) (fun c4 => ?_) (fun c4 => ?_) <;> refine zc ?_
 ·exact hQ h1 x1
 rw [show bnot true = false by rw [e_bnot hA];rfl]
 refine zc ?_
 refine mov_loop hA (x1.lowOK hlow) (hl.ext x1) ln (b:=b) ⟨by omega,by omega⟩ (fun h2 am cm rm x2 => ?_) N 0 0 h1 none 0 (by omega) (by omega) rfl (by simpa using Apd.nil h1 1) (.none _) (.refl h1)
 have y2:=x1.trans x2
 refine zc ?_
 refine rchk_ok hA (y2.lowOK hlow) rm (fun e' h3 k3 x3 => ⟨_,rfl,?_⟩)
 have y3:=y2.trans x3
 refine zc ?_
 refine br (e' ≠ 0) (by rw [e_neq hA]) (fun c5 => ?_) (fun c5 => ?_) <;> refine zc ?_
 ·exact hQ h3 y3
 have ln':=k3.zero (Decidable.of_not_not c5)
 have rm3:=rm.ext x3
 have bad : ∀ {l : List Int} {e : Int},Line l → CheckL l e → e = 0:=fun ln c => c.uniq (.inr (.inr (.inr ⟨⟨ln.n2,ln.n5⟩,ln.good,rfl⟩)))
 refine gcls_ok hA (y3.lowOK hlow) (hl.ext y3) (fun f1 g1 a1 k1' co1 q1 r1 b1 u1 => ⟨_,_,_,_,rfl,?_⟩)
 obtain rfl:=bad ln q1
 refine zc ?_
 refine gcls_ok hA (u1.lowOK (y3.lowOK hlow)) (rm3.ext u1) (fun f2 g2 a2 k2 co2 q2 r2 b2 u2 => ⟨_,_,_,_,rfl,?_⟩)
 obtain rfl:=bad ln' q2
 have v2:=u1.trans u2
 refine zc ?_
 refine grow_ok hA (v2.lowOK (y3.lowOK hlow)) ((hl.ext y3).ext v2) (fun f3 g3 a3 k3' co3 hs3 q3 r3 b3 u3 => ⟨_,_,_,_,rfl,?_⟩)
 obtain rfl:=bad ln q3
 have v3:=v2.trans u3
 refine zc ?_
 refine grow_ok hA (v3.lowOK (y3.lowOK hlow)) (rm3.ext v3) (fun f4 g4 a4 k4 co4 hs4 q4 r4 b4 u4 => ⟨_,_,_,_,rfl,?_⟩)
 obtain rfl:=bad ln' q4
 have v4:=v3.trans u4
 refine zc ?_
 refine gbas_ok hA (v4.lowOK (y3.lowOK hlow)) ((hl.ext y3).ext v4) (fun f5 g5 a5 k5 co5 hs5 q5 r5 b5 u5 => ⟨_,_,_,_,rfl,?_⟩)
 obtain rfl:=bad ln q5
 have v5:=v4.trans u5
 refine zc ?_
 refine gbas_ok hA (v5.lowOK (y3.lowOK hlow)) (rm3.ext v5) (fun f6 g6 a6 k6 co6 hs6 q6 r6 b6 u6 => ⟨_,_,_,_,rfl,?_⟩)
 obtain rfl:=bad ln' q6
 have v6:=v5.trans u6
 refine zc ?_
 refine gsolve_ok hA (v6.lowOK (y3.lowOK hlow)) ((hl.ext y3).ext v6) ((hr.ext y3).ext v6) (by omega) (fun f7 g7 ax7 kx7 cx7 ay7 ky7 cy7 x7 y7 q7 rx7 ry7 u7 => ⟨_,_,_,_,_,_,_,rfl,?_⟩)
 have v7:=v6.trans u7
 refine zc ?_
 refine gsolve_ok hA (v7.lowOK (y3.lowOK hlow)) (rm3.ext v7) ((hr.ext y3).ext v7) (by omega) (fun f8 g8 ax8 kx8 cx8 ay8 ky8 cy8 x8 y8 q8 rx8 ry8 u8 => ⟨_,_,_,_,_,_,_,rfl,?_⟩)
 obtain ⟨rfl,rfl,rfl⟩:=mov_solve ln ln' q7 q8
 have v8:=v7.trans u8
 have z8:=y3.trans v8
 refine zc ?_
 refine br ((0 : Int) = 0) (by rw [e_eql hA]) (fun _ => ?_) (fun q => absurd rfl q) <;> refine zc ?_
 refine zc ?_
 refine br ((0 : Int) = 0) (by rw [e_eql hA]) (fun _ => ?_) (fun q => absurd rfl q) <;> refine zc ?_
 refine zc ?_
 rw [mov_cls] at r2
 obtain rfl : k1' = k2:=by rw [← r1.len,← r2.len]
 have w2 : Ext g2 g8:=u3.trans (u4.trans (u5.trans (u6.trans (u7.trans u8))))
 refine ints_ok hA (z8.lowOK hlow) (r1.ext (u2.trans w2)) (r2.ext w2) (by omega) (fun m1 t1 => ⟨_,rfl,?_⟩)
 have s1:=z8.trans t1
 refine zc ?_
 refine br ((0 : Int) = 0) (by rw [e_eql hA]) (fun _ => ?_) (fun q => absurd rfl q) <;> refine zc ?_
 refine zc ?_
 refine br ((0 : Int) = 0) (by rw [e_eql hA]) (fun _ => ?_) (fun q => absurd rfl q) <;> refine zc ?_
 refine zc ?_
 rw [mov_rows] at r4
 obtain rfl : k3' = k4:=by rw [← r3.len,← r4.len]
 have w4 : Ext g4 m1:=u5.trans (u6.trans (u7.trans (u8.trans t1)))
 refine lists_ok hA (s1.lowOK hlow) (r3.ext (u4.trans w4)) (r4.ext w4) (by omega) (few_if (fun e0 r hr => by
  have:=wid_few ln
  unfold rowsL at hr
  obtain ⟨p,_,rfl⟩:=List.mem_map.1 hr
  rw [rowF_len];omega) r3.len) (fun m2 t2 => ⟨_,rfl,?_⟩)
 have s2:=s1.trans t2
 refine zc ?_
 refine br ((0 : Int) = 0) (by rw [e_eql hA]) (fun _ => ?_) (fun q => absurd rfl q) <;> refine zc ?_
 refine zc ?_
 refine br ((0 : Int) = 0) (by rw [e_eql hA]) (fun _ => ?_) (fun q => absurd rfl q) <;> refine zc ?_
 refine zc ?_
 rw [mov_bas] at r6
 obtain rfl : k5 = k6:=by rw [← r5.len,← r6.len]
 have w6 : Ext g6 m2:=u7.trans (u8.trans (t1.trans t2))
 refine alls_ok hA (s2.lowOK hlow) (r5.ext (u6.trans w6)) (r6.ext w6) (by omega) (few_if (fun e0 r hr => by
  have:=wid_few ln
  have:=basTo_row _ _ _ r hr
  omega) r5.len) (fun m3 t3 => ⟨_,rfl,?_⟩)
 have s3:=s2.trans t3
 refine zc ?_
 refine br (f7 = f7) (by rw [e_eql hA]) (fun _ => ?_) (fun q => absurd rfl q) <;> refine zc ?_
 refine zc ?_
 obtain ⟨fx,fy⟩:=solve_few ln q7
 obtain rfl : kx7 = kx8:=by rw [← rx7.len,← rx8.len]
 obtain rfl : ky7 = ky8:=by rw [← ry7.len,← ry8.len]
 have w8 : Ext g8 m3:=t1.trans (t2.trans t3)
 have lx:=rx7.len
 have ly:=ry7.len
 refine fracs_ok hA (s3.lowOK hlow) (rx7.ext (u8.trans w8)) (rx8.ext w8) (by omega) (fun m4 t4 => ⟨_,rfl,?_⟩)
 have s4:=s3.trans t4
 refine zc ?_
 refine fracs_ok hA (s4.lowOK hlow) (ry7.ext ((u8.trans w8).trans t4)) (ry8.ext (w8.trans t4)) (by omega) (fun m5 t5 => ⟨_,rfl,?_⟩)
 refine zc ?_
 exact hQ m5 (s4.trans t5)
end Go.Proofs.Ytogliemiljhliaa
