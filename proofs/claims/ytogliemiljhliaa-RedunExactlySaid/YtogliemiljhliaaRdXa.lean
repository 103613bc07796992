import Derived.Test.YtogliemiljhliaaRdSp
import Derived.Test.YtogliemiljhliaaRdYp
import Derived.Test.YtogliemiljhliaaSymApp2
set_option linter.unusedSimpArgs false
set_option linter.unusedVariables false
namespace Go.Proofs.Ytogliemiljhliaa
open Go.Sim Ext
set_option linter.unusedVariables false
set_option maxRecDepth 100000
def oneF (v : Nat → Int) : Nat → Fc:=fun j => ⟨v j,1⟩
theorem oneF_fr (v : Nat → Int) (n : Nat) : lst (oneF v) n = lst (fun j => fr (v j) 1) n:=lst_congr (fun j hj => (fr_int (v j)).symm)
variable {F : Prims} {call head arith cmp scmp bnot bsame conv neg imax imin ofNat slen place inR nz geZ rd wr push next mkOK nat zeros sadd eqAgg cut slc sslc strAt part app cpy putAt fresh lowered bump wrote addN lt ne fpAll fpApp brk yn rng mget mput mnew bytes clr : _} (hA : AP F ⟨call,head,arith,cmp,scmp,bnot,bsame,conv,neg,imax,imin,ofNat,slen,place,inR,nz,geZ,rd,wr,push,next,mkOK,nat,zeros,sadd,eqAgg,cut,slc,sslc,strAt,part,app,cpy,putAt,fresh,lowered,bump,wrote,addN,lt,ne,fpAll,fpApp,brk,yn,rng,mget,mput,mnew,bytes,clr⟩)
include hA
set_option maxHeartbeats 1000000 in
theorem exa_loop {h0 : AHeap} (hlow : h0.low ≤ h0.next) {a : Option Addr} {N c : Nat} {l : List Int} (hl : Is h0 a N l) (ln : Line l) {a4 a6 a8 : Option Addr} {n4 n6 n8 c4 c6 c8 : Nat} {W : Int} {Q : Exit → SS → Prop}
  (hQ : ∀ h' ac cc at' ct,Apd h' 2 ac N cc ((lst (oneF (conV l)) N).flatMap fC) → Apd h' 2 at' N ct ((lst (oneF (tilV l)) N).flatMap fC) → From h0.next ac → From h0.next at' → (∀ x y,ac = some x → at' = some y → x.block ≠ y.block) → Ext h0 h' → Q (.exit 0) ⟨[(3,.bool true),(4,.slice a4 n4 c4),(6,.slice a6 n6 c6),(8,.slice a8 n8 c8),(12,.int .i64 W),(13,.slice ac N cc),(14,.slice at' N ct)],0,[],h'⟩) :
  ∀ (d k : Nat) (K : Int) (h : AHeap) (ac : Option Addr) (cc : Nat) (at' : Option Addr) (ct : Nat),N - k = d → k ≤ N → K = k → Apd h 2 ac k cc ((lst (oneF (conV l)) k).flatMap fC) → Apd h 2 at' k ct ((lst (oneF (tilV l)) k).flatMap fC) → From h0.next ac → From h0.next at' → (∀ x y,ac = some x → at' = some y → x.block ≠ y.block) → Ext h0 h →
   head 5 13 0 ⟨[(0,.slice a N c),(3,.bool true),(4,.slice a4 n4 c4),(6,.slice a6 n6 c6),(8,.slice a8 n8 c8),(12,.int .i64 W),(13,.slice ac k cc),(14,.slice at' k ct),(15,.int .i64 K)],0,[],h⟩ Q:=by
 have lN:=hl.len
 have n5:=ln.n5
 intro d
 induction d with
 | zero =>
  intro k K h ac cc at' ct hd hk eK t1 t2 f1 f2 hne e
  obtain rfl : k = N:=by omega
  refine hA.roundR Try.func5 r5_ok (zc ?_)
  refine br (K < (k : Int)) (by rw [e_lss hA,e_ofNat hA]) (fun q => by omega) (fun _ => ?_) <;> refine zc ?_
  exact hQ h ac cc at' ct t1 t2 f1 f2 hne e
 | succ d ih =>
 intro k K h ac cc at' ct hd hk eK t1 t2 f1 f2 hne e
 refine hA.roundR Try.func5 r5_ok (zc ?_)
 refine br (K < (N : Int)) (by rw [e_lss hA,e_ofNat hA]) (fun _ => ?_) (fun q => by omega) <;> refine zc ?_
 refine zq ?_
 obtain ⟨h9,hh9⟩ : ∃ z,z = bump h 14:=⟨_,rfl⟩
 have x9 : Ext h h9:=by rw [hh9];exact ext_bump hA _ _
 have n9 : h9.next = h.next + 14:=by rw [hh9,e_bump hA];rfl
 have e9:=e.trans x9
 have l9:=e9.lowOK hlow
 rw [← hh9]
 obtain ⟨lb,lo,y,ea,ll,hy,ry⟩:=is_at (hl.ext e9) (i:=K) (by omega) (by omega)
 obtain ⟨lb',lo',y',ea',lh,_,_⟩:=is_at hl (i:=K) (by omega) (by omega)
 rw [ea] at ea'
 cases ea'
 subst ea
 have hnx:=e.next
 have qy:=rd_ok hA ry
 refine zq ?_
 refine of31_ok hA (low_fresh hA h9) ⟨_,_,rfl,?_⟩
 refine zc ?_
 rw [low_same hA l9]
 refine zq ?_
 obtain ⟨ia,hia⟩ : ∃ z,z = addN (next h) 7:=⟨_,rfl⟩
 have ia' : ia = h.next + 7:=by rw [hia,e_addN hA,e_next hA]
 rw [← hia]
 refine appKE_ok hA TF fC_len (by omega) fC_ok (v:=(⟨1,1⟩ : Fc)) (by omega) (t1.ext x9) (fun ad had => by have:=t1.lt ad had;omega) (by omega) (fun b1 h1 a1 nb1 n1 g1 y1 z1 => ?_)
 obtain ⟨k',hk'⟩ : ∃ z,z = k + 1:=⟨_,rfl⟩
 rw [← hk'] at a1 ⊢
 generalize someCap 2 k' = c1 at *
 simp only [show fC ⟨1,1⟩ = [.int .i64 1,.int .i64 1] from rfl] at a1 n1 g1 y1 z1
 refine zc ?_
 obtain ⟨X,hX⟩ : ∃ z,z = lowered (putAt h9 ia 2 [.int .i64 1,.int .i64 1]) h1:=⟨_,rfl⟩
 rw [← hX] at a1 n1 g1 y1 ⊢
 have eX:=y1 h0 e9 hlow (by have:=e.next;omega) f1
 have lX:=eX.lowOK hlow
 refine of31_ok hA (low_fresh hA X) ⟨_,_,rfl,?_⟩
 refine zc ?_
 rw [low_same hA lX]
 refine zq ?_
 obtain ⟨ib,hib⟩ : ∃ z,z = addN (next h) 10:=⟨_,rfl⟩
 have ib' : ib = h.next + 10:=by rw [hib,e_addN hA,e_next hA]
 rw [← hib]
 have tX : Apd X 2 at' k ct ((lst (oneF (tilV l)) k).flatMap fC):=Apd.of_get (t2.ext x9) n1 (fun ad had hb => g1 _ hb (by have:=t2.lt ad had;omega) (fun ad' had' => hne _ _ had' had))
 refine appKD_ok hA TF fC_len (by omega) fC_ok (v:=(⟨y,1⟩ : Fc)) (by omega) tX (fun ad had => by have:=t2.lt ad had;omega) (by omega) (fun b2 h2 a2 nb2 n2 g2 y2 => ?_)
 rw [← hk'] at a2 ⊢
 generalize someCap 2 k' = c2 at *
 simp only [show fC ⟨y,1⟩ = [.int .i64 y,.int .i64 1] from rfl] at a2 n2 g2 y2
 refine zc ?_
 obtain ⟨Z,hZ⟩ : ∃ z,z = lowered (putAt X ib 2 [.int .i64 y,.int .i64 1]) h2:=⟨_,rfl⟩
 rw [← hZ] at a2 n2 g2 y2 ⊢
 have eZ:=y2 h0 eX hlow (by have:=e.next;omega) f2
 refine ⟨fp_old hA (wrote_no hA (.refl _)) (by rw [e_addN hA,e_next hA];omega),ne_ok hA (by omega),?_⟩
 have key : fpApp false (wrote (putAt h9 ia 2 [Value.int IntKind.i64 1,Value.int IntKind.i64 1]) h1) false lb (addN (next h) 14) (match some (Value.slice ac k cc) with | some (Value.slice (some a) len cap) => a.block | x => 0):=by
  rw [e_fpApp hA,e_addN hA,e_next hA]
  refine ⟨rfl,?_,.inr (by omega)⟩
  cases ac with
  | none => exact .inl (wrote_no hA (z1 rfl))
  | some ad => exact .inr (by have:=f1 ad rfl;show lb ≠ ad.block;omega)
 refine ⟨key,?_⟩
 refine zc ?_
 rw [add64 hA (by omega) (by omega)]
 have tk : ∀ v : Nat → Int,lst (oneF v) k' = lst (oneF v) k ++ [⟨v k,1⟩]:=fun v => by rw [hk',lst_succ];rfl
 have cv : conV l k = 1:=by unfold conV;rw [if_pos (by omega)]
 have tv : tilV l k = y:=by unfold tilV;rw [if_pos (by omega),← hy,eK]
 refine ih k' (K + 1) Z _ _ _ _ (by omega) (by omega) (by omega) (Apd.of_get (by rw [tk,cv];exact a1) n2 (fun ad had hb => g2 _ hb ?_ (fun ad' had' => ?_))) (by rw [tk,tv];exact a2) (fun ad had => ?_) (fun ad had => ?_) (fun u w hu hw => ?_) eZ
 ·cases had;have:=a1.lt _ rfl;simp only;omega
 ·cases had;have:=t2.lt _ had';simp only;omega
 ·cases had;simp only;omega
 ·cases had;simp only;omega
 ·cases hu;cases hw;have:=a1.lt _ rfl;simp only at this ⊢;omega
set_option maxHeartbeats 1000000 in
theorem exb_loop {h0 : AHeap} (hlow : h0.low ≤ h0.next) {l : List Int} (ln : Line l) {a4 : Option Addr} {C c4 : Nat} (hl : Is h0 a4 C (clsL l)) (C100 : C ≤ 100) {a6 a8 : Option Addr} {n6 n8 c6 c8 : Nat} {W : Int} {N P : Nat} (eN : N = l.length) (eP : P = N + C) {Q : Exit → SS → Prop}
  (hQ : ∀ h' ac cc at' ct,Apd h' 2 ac P cc ((lst (oneF (conV l)) P).flatMap fC) → Apd h' 2 at' P ct ((lst (oneF (tilV l)) P).flatMap fC) → From h0.next ac → From h0.next at' → (∀ x y,ac = some x → at' = some y → x.block ≠ y.block) → Ext h0 h' → Q (.exit 2) ⟨[(3,.bool true),(6,.slice a6 n6 c6),(8,.slice a8 n8 c8),(12,.int .i64 W),(13,.slice ac P cc),(14,.slice at' P ct)],0,[],h'⟩) :
  ∀ (d k q : Nat) (K : Int) (h : AHeap) (ac : Option Addr) (cc : Nat) (at' : Option Addr) (ct : Nat),C - k = d → k ≤ C → K = k → q = N + k → Apd h 2 ac q cc ((lst (oneF (conV l)) q).flatMap fC) → Apd h 2 at' q ct ((lst (oneF (tilV l)) q).flatMap fC) → From h0.next ac → From h0.next at' → (∀ x y,ac = some x → at' = some y → x.block ≠ y.block) → Ext h0 h →
   head 5 17 0 ⟨[(3,.bool true),(4,.slice a4 C c4),(6,.slice a6 n6 c6),(8,.slice a8 n8 c8),(12,.int .i64 W),(13,.slice ac q cc),(14,.slice at' q ct),(16,.int .i64 K)],0,[],h⟩ Q:=by
 have lN:=hl.len
 have n5:=ln.n5
 have lC:=hl.len
 have n5:=ln.n5
 intro d
 induction d with
 | zero =>
  intro k q K h ac cc at' ct hd hk eK eq t1 t2 f1 f2 hne e
  obtain rfl : k = C:=by omega
  obtain rfl : q = P:=by omega
  refine hA.roundR Try.func5 r5_ok (zc ?_)
  refine br (K < (k : Int)) (by rw [e_lss hA,e_ofNat hA]) (fun w => by omega) (fun _ => ?_) <;> refine zc ?_
  exact hQ h ac cc at' ct t1 t2 f1 f2 hne e
 | succ d ih =>
 intro k q K h ac cc at' ct hd hk eK eq t1 t2 f1 f2 hne e
 refine hA.roundR Try.func5 r5_ok (zc ?_)
 refine br (K < (C : Int)) (by rw [e_lss hA,e_ofNat hA]) (fun _ => ?_) (fun q => by omega) <;> refine zc ?_
 refine zq ?_
 obtain ⟨h9,hh9⟩ : ∃ z,z = bump h 14:=⟨_,rfl⟩
 have x9 : Ext h h9:=by rw [hh9];exact ext_bump hA _ _
 have n9 : h9.next = h.next + 14:=by rw [hh9,e_bump hA];rfl
 have e9:=e.trans x9
 have l9:=e9.lowOK hlow
 rw [← hh9]
 obtain ⟨lb,lo,y,ea,ll,hy,ry⟩:=is_at (hl.ext e9) (i:=K) (by omega) (by omega)
 obtain ⟨lb',lo',y',ea',lh,_,_⟩:=is_at hl (i:=K) (by omega) (by omega)
 rw [ea] at ea'
 cases ea'
 subst ea
 have hnx:=e.next
 have qy:=rd_ok hA ry
 refine zq ?_
 refine of31_ok hA (low_fresh hA h9) ⟨_,_,rfl,?_⟩
 refine zc ?_
 rw [low_same hA l9]
 refine zq ?_
 obtain ⟨ia,hia⟩ : ∃ z,z = addN (next h) 7:=⟨_,rfl⟩
 have ia' : ia = h.next + 7:=by rw [hia,e_addN hA,e_next hA]
 rw [← hia]
 refine appKE_ok hA TF fC_len (by omega) fC_ok (v:=(⟨0,1⟩ : Fc)) (by omega) (t1.ext x9) (fun ad had => by have:=t1.lt ad had;omega) (by omega) (fun b1 h1 a1 nb1 n1 g1 y1 z1 => ?_)
 obtain ⟨k',hk'⟩ : ∃ z,z = q + 1:=⟨_,rfl⟩
 rw [← hk'] at a1 ⊢
 generalize someCap 2 k' = c1 at *
 simp only [show fC ⟨0,1⟩ = [.int .i64 0,.int .i64 1] from rfl] at a1 n1 g1 y1 z1
 refine zc ?_
 obtain ⟨X,hX⟩ : ∃ z,z = lowered (putAt h9 ia 2 [.int .i64 0,.int .i64 1]) h1:=⟨_,rfl⟩
 rw [← hX] at a1 n1 g1 y1 ⊢
 have eX:=y1 h0 e9 hlow (by have:=e.next;omega) f1
 have lX:=eX.lowOK hlow
 refine of31_ok hA (low_fresh hA X) ⟨_,_,rfl,?_⟩
 refine zc ?_
 rw [low_same hA lX]
 refine zq ?_
 obtain ⟨ib,hib⟩ : ∃ z,z = addN (next h) 10:=⟨_,rfl⟩
 have ib' : ib = h.next + 10:=by rw [hib,e_addN hA,e_next hA]
 rw [← hib]
 have tX : Apd X 2 at' q ct ((lst (oneF (tilV l)) q).flatMap fC):=Apd.of_get (t2.ext x9) n1 (fun ad had hb => g1 _ hb (by have:=t2.lt ad had;omega) (fun ad' had' => hne _ _ had' had))
 refine appKD_ok hA TF fC_len (by omega) fC_ok (v:=(⟨y,1⟩ : Fc)) (by omega) tX (fun ad had => by have:=t2.lt ad had;omega) (by omega) (fun b2 h2 a2 nb2 n2 g2 y2 => ?_)
 rw [← hk'] at a2 ⊢
 generalize someCap 2 k' = c2 at *
 simp only [show fC ⟨y,1⟩ = [.int .i64 y,.int .i64 1] from rfl] at a2 n2 g2 y2
 refine zc ?_
 obtain ⟨Z,hZ⟩ : ∃ z,z = lowered (putAt X ib 2 [.int .i64 y,.int .i64 1]) h2:=⟨_,rfl⟩
 rw [← hZ] at a2 n2 g2 y2 ⊢
 have eZ:=y2 h0 eX hlow (by have:=e.next;omega) f2
 refine ⟨fp_old hA (wrote_no hA (.refl _)) (by rw [e_addN hA,e_next hA];omega),ne_ok hA (by omega),?_⟩
 have key : fpApp false (wrote (putAt h9 ia 2 [Value.int IntKind.i64 0,Value.int IntKind.i64 1]) h1) false lb (addN (next h) 14) (match some (Value.slice ac q cc) with | some (Value.slice (some a) len cap) => a.block | x => 0):=by
  rw [e_fpApp hA,e_addN hA,e_next hA]
  refine ⟨rfl,?_,.inr (by omega)⟩
  cases ac with
  | none => exact .inl (wrote_no hA (z1 rfl))
  | some ad => exact .inr (by have:=f1 ad rfl;show lb ≠ ad.block;omega)
 refine ⟨key,?_⟩
 refine zc ?_
 rw [add64 hA (by omega) (by omega)]
 have tk : ∀ v : Nat → Int,lst (oneF v) k' = lst (oneF v) q ++ [⟨v q,1⟩]:=fun v => by rw [hk',lst_succ];rfl
 have cv : conV l q = 0:=by unfold conV;rw [if_neg (by omega)]
 have tv : tilV l q = y:=by unfold tilV;rw [if_neg (by omega),← hy,eK,show (q : Int) - l.length = k by omega]
 refine ih (k + 1) k' (K + 1) Z _ _ _ _ (by omega) (by omega) (by omega) (by omega) (Apd.of_get (by rw [tk,cv];exact a1) n2 (fun ad had hb => g2 _ hb ?_ (fun ad' had' => ?_))) (by rw [tk,tv];exact a2) (fun ad had => ?_) (fun ad had => ?_) (fun u w hu hw => ?_) eZ
 ·cases had;have:=a1.lt _ rfl;simp only;omega
 ·cases had;have:=t2.lt _ had';simp only;omega
 ·cases had;simp only;omega
 ·cases had;simp only;omega
 ·cases hu;cases hw;have:=a1.lt _ rfl;simp only at this ⊢;omega
end Go.Proofs.Ytogliemiljhliaa
