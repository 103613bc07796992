import Derived.Test.YtogliemiljhliaaRdL
set_option linter.unusedSimpArgs false
set_option linter.unusedVariables false
namespace Go.Proofs.Ytogliemiljhliaa
open Go.Sim
set_option linter.unusedVariables false
set_option maxRecDepth 100000
def oneTo (i : Nat) (j : Nat) : Fc:=if j < i then ⟨0,1⟩ else ⟨0,0⟩
def fillR (R : Nat → Nat → Int) (bound : List Nat) (lead : Int) (col : Nat) (by_ : Int) : Nat → Nat → Fc
 | 0,_ => ⟨0,1⟩
 | k + 1,x => if x = bound.getD k 0 then fr (by_ * R k col) lead else fillR R bound lead col by_ k x
variable {F : Prims} {call head arith cmp scmp bnot bsame conv neg imax imin ofNat slen place inR nz geZ rd wr push next mkOK nat zeros sadd eqAgg cut slc sslc strAt part app cpy putAt fresh lowered bump wrote addN lt ne fpAll fpApp brk yn rng mget mput mnew bytes clr : _} (hA : AP F ⟨call,head,arith,cmp,scmp,bnot,bsame,conv,neg,imax,imin,ofNat,slen,place,inR,nz,geZ,rd,wr,push,next,mkOK,nat,zeros,sadd,eqAgg,cut,slc,sslc,strAt,part,app,cpy,putAt,fresh,lowered,bump,wrote,addN,lt,ne,fpAll,fpApp,brk,yn,rng,mget,mput,mnew,bytes,clr⟩)
include hA
theorem zeros_loop {h0 : AHeap} {b n : Nat} {N : Int} (eN : N = n) (n100 : n ≤ 100) {Q : Exit → SS → Prop}
  (hQ : ∀ h',Vec fC 2 h0 h' b n (fun _ => ⟨0,1⟩) → Q (.exit 0) ⟨[(3,.slice (some ⟨b,0,none⟩) n n)],0,[],h'⟩) :
  ∀ (d i : Nat) (I : Int) (h : AHeap),n - i = d → i ≤ n → I = i → Vec fC 2 h0 h b n (oneTo i) →
   head 73 3 0 ⟨[(3,.slice (some ⟨b,0,none⟩) n n),(8,.int .i64 N),(9,.int .i64 I)],0,[],h⟩ Q:=by
 intro d
 induction d with
 | zero =>
  intro i I h hd hi eI t
  refine hA.roundR Try.func73 r73_ok (zc ?_)
  refine br (I < N) (by rw [e_lss hA]) (fun q => by omega) (fun _ => ?_) <;> refine zc ?_
  exact hQ h (t.congr (fun j hj => by unfold oneTo;rw [if_pos (by omega)]))
 | succ d ih =>
 intro i I h hd hi eI t
 obtain ⟨h1,w1,t1,r1⟩:=t.set (i:=i) (by omega) (⟨0,1⟩ : Fc)
 have w1 : wr h b (place 0 I 2) [.int .i64 0,.int .i64 1] h1:=wr_ok hA (by rw [eI];exact w1)
 refine hA.roundR Try.func73 r73_ok (zc ?_)
 refine br (I < N) (by rw [e_lss hA]) (fun _ => ?_) (fun q => by omega) <;> refine zc ?_
 refine zq ?_
 rw [add64 hA (by omega) (by omega)]
 exact ih (i + 1) (I + 1) h1 (by omega) (by omega) (by omega) (t1.congr (fun j hj => by
  unfold oneTo
  by_cases c : j = i
  ·rw [if_pos c,if_pos (by omega)]
  ·rw [if_neg c]
   by_cases c2 : j < i
   ·rw [if_pos c2,if_pos (by omega)]
   ·rw [if_neg c2,if_neg (by omega)]))
theorem zeros_ok {h : AHeap} (hlow : h.low ≤ h.next) {n : Nat} {N : Int} (eN : N = n) (n100 : n ≤ 100) {Q : Value → AHeap → Prop}
  (hQ : ∀ h' b,Vec fC 2 h h' b n (fun _ => ⟨0,1⟩) → Q (.slice (some ⟨b,0,none⟩) n n) h') : call 73 [.int .i64 N] h Q:=by
 refine hA.bodyR Try.func73 r73_ok (hA.alike _ _ _ rfl) hlow (zc ?_)
 refine ⟨mk_ok hA (by omega) (Int.le_refl _) (by omega),?_⟩
 refine zc ?_
 rw [e_zeros hA,e_next hA,e_push hA,e_nat hA,show N.toNat = n by omega]
 rw [show copies [Value.int .i64 0,.int .i64 0] n = (lst (fun _ => (⟨0,0⟩ : Fc)) n).flatMap fC from copies_lst (enc:=fC) ⟨0,0⟩ n]
 rw [e_ofNat hA]
 refine zeros_loop hA (h0:=h) rfl n100 (fun h' t => ?_) n 0 0 _ (by omega) (by omega) rfl ⟨.push h 2 _,Own.push h 2 _,Nat.le_refl _,Nat.lt_succ_self _,fC_len,by omega⟩
 refine zc ?_
 exact hQ h' _ t
theorem fill_loop {h0 : AHeap} (hlow : h0.low ≤ h0.next) {sb oa cp m w cm k col b n : Nat} {bs : Nat → Nat} {ba : Option Addr} {cb : Nat} {R : Nat → Nat → Int} {bound : List Nat} {lead : Int} {hs : AHeap} (hsx : Ext hs h0) (M0 : MatW iC 1 cp hs h0 oa bs m w R) (hR : Red h0 sb oa m cm n ba k cb lead) (hsb : sb < h0.next) (hba : Is h0 ba k (bound.map Int.ofNat)) (hk : k ≤ m) (hcol : col < w) (hn : n ≤ 100) (hm : m ≤ 100) (hw : w ≤ 100)
  (hbn : ∀ x,x ∈ bound → x < n) (hl : lead ≠ 0) (hl2 : lead.natAbs ≤ 1000000000) (hRb : ∀ i,i < m → (R i col).natAbs ≤ 1000000000) {C BY Kk : Int} (eC : C = col) (eK : Kk = k) (hby : BY = 1 ∨ BY = -1) {Q : Exit → SS → Prop}
  (hQ : ∀ h',Vec fC 2 h0 h' b n (fillR R bound lead col BY k) → Q (.exit 0) ⟨[(7,.slice (some ⟨b,0,none⟩) n n)],0,[],h'⟩) :
  ∀ (d i : Nat) (I : Int) (h : AHeap),k - i = d → i ≤ k → I = i → Vec fC 2 h0 h b n (fillR R bound lead col BY i) →
   head 46 3 0 ⟨[(0,.pointer (some ⟨sb,0,none⟩)),(1,.int .i64 C),(2,.int .i64 BY),(7,.slice (some ⟨b,0,none⟩) n n),(20,.slice ba k cb),(21,.int .i64 Kk),(22,.int .i64 I)],0,[],h⟩ Q:=by
 have lb:=hba.len
 rw [List.length_map] at lb
 intro d
 induction d with
 | zero =>
  intro i I h hd hi eI t
  obtain rfl : i = k:=by omega
  refine hA.roundR Try.func46 r46_ok (zc ?_)
  refine br (I < Kk) (by rw [e_lss hA]) (fun q => by omega) (fun _ => ?_) <;> refine zc ?_
  exact hQ h t
 | succ d ih =>
 intro i I h hd hi eI t
 obtain ⟨pb,po,x,ea,_,hx,q1⟩:=is_at (hba.ext t.ext) (i:=I) (by omega) (by omega)
 subst ea
 have q1:=rd_ok hA q1
 have ex : x = (bound.getD i 0 : Nat):=by
  rw [← hx,eI]
  unfold gt
  rw [List.getD_eq_getElem?_getD,show ((i : Int)).toNat = i from rfl,List.getElem?_map,List.getD_eq_getElem?_getD,List.getElem?_eq_getElem (show i < bound.length by omega)]
  rfl
 have xn : bound.getD i 0 < n:=by
  rw [List.getD_eq_getElem?_getD,List.getElem?_eq_getElem (show i < bound.length by omega)]
  exact hbn _ (List.getElem_mem _)
 obtain ⟨h9,hh9⟩ : ∃ z,z = bump h 23:=⟨_,rfl⟩
 have x9 : Ext h h9:=by rw [hh9];exact ext_bump hA _ _
 have e9:=t.ext.trans x9
 have l9:=e9.lowOK hlow
 have t9:=t.more x9
 have M9:=M0.more e9
 have red9:=Own.ext hR e9 hsb
 obtain ⟨v,hv⟩ : ∃ z,z = R i col:=⟨_,rfl⟩
 have r1 : rd h9 sb (addN 0 0) 1 [.slice (some ⟨oa,0,none⟩) m cm]:=by rw [e_addN hA];exact rd_at hA (Own.readG red9 (o:=0) (n:=1) (Nat.le_of_ble_eq_true rfl))
 have r2 : rd h9 sb (addN 0 3) 1 [.int .i64 lead]:=by rw [e_addN hA];exact rd_at hA (Own.readG red9 (o:=3) (n:=1) (Nat.le_of_ble_eq_true rfl))
 have r3 : rd h9 oa (place 0 I 1) 1 [.slice (some ⟨bs i,0,none⟩) w cp]:=rd_ok hA (by rw [eI];exact M9.head (by omega))
 have r4 : rd h9 (bs i) (place 0 C 1) 1 [.int .i64 v]:=rd_ok hA (by rw [eC,hv];exact M9.el (by omega) hcol)
 have bv:=hRb i (by omega)
 rw [← hv] at bv
 obtain ⟨u,hu⟩ : ∃ z,z = BY * v:=⟨_,rfl⟩
 have bu : u.natAbs ≤ 1000000000:=by rcases hby with e | e <;> rw [hu,e] <;> omega
 have m1 : arith .mul .i64 BY v = u:=by rw [hu];rw [hu] at bu;exact mul64 hA (by omega) (by omega)
 refine hA.roundR Try.func46 r46_ok (zc ?_)
 refine br (I < Kk) (by rw [e_lss hA]) (fun _ => ?_) (fun q => by omega) <;> refine zc ?_
 refine zq ?_
 rw [← hh9]
 (refine zq ?_;repeat ((first | rw [m1]);refine zq ?_))
 refine make_ok hA (low_fresh hA h9) (by unfold i64;omega) (by unfold i64;omega) (fun n' d' e k2 hz ez => ⟨_,_,_,rfl,?_⟩)
 have hF:=fits_rq (a:=u) (b:=lead) (by omega) (by omega) hl
 obtain ⟨z1,z2⟩ : (⟨n',d'⟩ : Fc) = fr u lead ∧ e = 0:=by
  rcases k2 with ⟨w,_⟩ | ⟨_,⟨_,k3,k4,k5⟩ | ⟨w,_⟩⟩
  ·exact absurd w hl
  ·exact ⟨by unfold fr rq;rw [k3,k4],k5⟩
  ·exact absurd hF w
 subst z2
 obtain ⟨hX,hhX⟩ : ∃ z,z = lowered h9 hz:=⟨_,rfl⟩
 have eX : Ext h9 hX:=by rw [hhX];exact ext_low hA l9 (.refl h9) ez
 have tX:=t9.more eX
 refine zc ?_
 rw [← hhX]
 obtain ⟨h1,w1,t1,_⟩:=tX.set (i:=bound.getD i 0) xn (⟨n',d'⟩ : Fc)
 have w1 : wr hX b (place 0 x 2) [.int .i64 n',.int .i64 d'] h1:=wr_ok hA (by rw [ex];exact w1)
 refine zq ?_
 refine br ((0 : Int) = 0) (by rw [e_eql hA]) (fun _ => ?_) (fun q => absurd rfl q) <;> refine zc ?_
 refine zq ?_
 rw [add64 hA (by omega) (by omega)]
 refine ih (i + 1) (I + 1) h1 (by omega) (by omega) (by omega) (t1.congr (fun j hj => ?_))
 show _ = (if j = bound.getD i 0 then fr (BY * R i col) lead else fillR R bound lead col BY i j)
 rw [← hv,← hu,z1]
theorem fill_ok {h0 : AHeap} (hlow : h0.low ≤ h0.next) {sb oa cp m w cm k col n : Nat} {bs : Nat → Nat} {ba : Option Addr} {cb : Nat} {R : Nat → Nat → Int} {bound : List Nat} {lead : Int} {hs : AHeap} (M0 : MatW iC 1 cp hs h0 oa bs m w R) (hR : Red h0 sb oa m cm n ba k cb lead) (hsb : sb < h0.next) (hba : Is h0 ba k (bound.map Int.ofNat)) (hk : k ≤ m) (hcol : col < w) (hn : n ≤ 100) (hm : m ≤ 100) (hw : w ≤ 100)
  (hbn : ∀ x,x ∈ bound → x < n) (hl : lead ≠ 0) (hl2 : lead.natAbs ≤ 1000000000) (hRb : ∀ i,i < m → (R i col).natAbs ≤ 1000000000) {C BY : Int} (eC : C = col) (hby : BY = 1 ∨ BY = -1) {Q : Value → AHeap → Prop}
  (hQ : ∀ h' b,Vec fC 2 h0 h' b n (fillR R bound lead col BY k) → Q (.slice (some ⟨b,0,none⟩) n n) h') : call 46 [.pointer (some ⟨sb,0,none⟩),.int .i64 C,.int .i64 BY] h0 Q:=by
 obtain ⟨N,eN⟩ : ∃ z : Int,z = n:=⟨_,rfl⟩
 have r1 : rd h0 sb (addN 0 1) 1 [.int .i64 N]:=by rw [e_addN hA,eN];exact rd_at hA (Own.readG hR (o:=1) (n:=1) (Nat.le_of_ble_eq_true rfl))
 refine hA.bodyR Try.func46 r46_ok (hA.alike _ _ _ rfl) hlow (zc ?_)
 refine zq ?_
 refine zeros_ok hA hlow eN hn (fun h1 b t => ⟨_,_,_,rfl,?_⟩)
 have r2 : rd h1 sb (addN 0 2) 1 [.slice ba k cb]:=by rw [e_addN hA];exact rd_at hA (Own.readG (Own.ext hR t.ext hsb) (o:=2) (n:=1) (Nat.le_of_ble_eq_true rfl))
 refine zq ?_
 rw [e_ofNat hA]
 refine fill_loop hA hlow M0.ext M0 hR hsb hba hk hcol hn hm hw hbn hl hl2 hRb eC rfl hby (fun h' t' => ?_) k 0 0 h1 (by omega) (by omega) rfl t
 refine zc ?_
 exact hQ h' b t'
end Go.Proofs.Ytogliemiljhliaa
