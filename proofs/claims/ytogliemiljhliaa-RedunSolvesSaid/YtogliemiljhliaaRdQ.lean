import Derived.Test.YtogliemiljhliaaRdN
set_option linter.unusedSimpArgs false
set_option linter.unusedVariables false
namespace Go.Proofs.Ytogliemiljhliaa
open Go.Sim
set_option linter.unusedVariables false
set_option maxRecDepth 100000
def one (z : Int) : Fc:=⟨z,1⟩
def wides (rows : List (List Int)) (right : List Int) : List (List Fc):=(longs rows right).map (·.map one)
theorem wides_len {rows : List (List Int)} {right : List Int} (h : right.length = rows.length) : (wides rows right).length = rows.length:=by
 unfold wides;rw [List.length_map,longs_len h]
theorem wides_take {rows : List (List Int)} {right : List Int} (h : right.length = rows.length) {k : Nat} (hk : k < rows.length) : (wides rows right).take (k + 1) = (wides rows right).take k ++ [(gt rows (k : Int)).map one ++ [one (gt right (k : Int))]]:=by
 unfold wides
 rw [← List.map_take,← List.map_take,longs_take h hk,List.map_append]
 simp only [List.map_append,List.map_cons,List.map_nil]
variable {F : Prims} {call head arith cmp scmp bnot bsame conv neg imax imin ofNat slen place inR nz geZ rd wr push next mkOK nat zeros sadd eqAgg cut slc sslc strAt part app cpy putAt fresh lowered bump wrote addN lt ne fpAll fpApp brk yn rng mget mput mnew bytes clr : _} (hA : AP F ⟨call,head,arith,cmp,scmp,bnot,bsame,conv,neg,imax,imin,ofNat,slen,place,inR,nz,geZ,rd,wr,push,next,mkOK,nat,zeros,sadd,eqAgg,cut,slc,sslc,strAt,part,app,cpy,putAt,fresh,lowered,bump,wrote,addN,lt,ne,fpAll,fpApp,brk,yn,rng,mget,mput,mnew,bytes,clr⟩)
include hA
theorem wid_in {h0 : AHeap} (hlow : h0.low ≤ h0.next) {a : Option Addr} {m w ca i : Nat} {hs : List Hd} {rows : List (List Int)} (hg : GrR iC 1 h0 a m hs rows) (hi : i < m) (hw : (gt rows (i : Int)).length = w) (w100 : w ≤ 100) {I : Int} (eI : I = i) {v1 v5 : Value} {Q : Exit → SS → Prop}
  (hQ : ∀ h' ar cr,Apd h' 2 ar w cr (((gt rows (i : Int)).map one).flatMap fC) → From h0.next ar → Ext h0 h' → Q (.exit 2) ⟨[(0,.slice a m ca),(1,v1),(5,v5),(6,.int .i64 I),(7,.slice ar w cr)],0,[],h'⟩) :
  ∀ (d k : Nat) (K : Int) (h : AHeap) (ar : Option Addr) (cr : Nat),w - k = d → k ≤ w → K = k → Apd h 2 ar k cr ((((gt rows (i : Int)).take k).map one).flatMap fC) → From h0.next ar → Ext h0 h →
   head 49 7 0 ⟨[(0,.slice a m ca),(1,v1),(5,v5),(6,.int .i64 I),(7,.slice ar k cr),(8,.int .i64 K)],0,[],h⟩ Q:=by
 intro d
 have hd : ∃ rb ro ra rc,a = some ⟨rb,ro,none⟩ ∧ ∀ h,Ext h0 h → rd h rb (place ro I 1) 1 [.slice ra w rc] ∧ Is h ra w (gt rows (i : Int)):=by
  obtain ⟨rb,ro,ea,_,rr⟩:=hg.hd.at (i:=I) (by omega) (by omega)
  obtain ⟨ra,rn,rc,hh⟩ : ∃ x y z,gt hs I = ⟨x,y,z⟩:=⟨_,_,_,rfl⟩
  have rw0:=hg.row I (by omega) (by omega)
  rw [hh,eI] at rw0
  have rw0 : Is h0 ra rn (gt rows (i : Int)):=rw0
  obtain rfl : rn = w:=by rw [← rw0.len,hw]
  refine ⟨rb,ro,ra,rc,ea,fun h e => ⟨?_,rw0.ext e⟩⟩
  obtain ⟨rb',ro',ea',_,rr⟩:=(hg.ext e).hd.at (i:=I) (by omega) (by omega)
  rw [ea] at ea'
  cases ea'
  have rr:=rr 0 1 (by omega) (by omega)
  rw [hh] at rr
  exact rd_ok hA rr
 obtain ⟨rb,ro,ra,rc,rfl,hd⟩:=hd
 induction d with
 | zero =>
  intro k K h ar cr hd' hk eK t hf e
  obtain ⟨r1,_⟩:=hd h e
  obtain rfl : k = w:=by omega
  refine hA.roundR Try.func49 r49_ok (zc ?_)
  refine zq ?_
  refine br (K < (k : Int)) (by rw [e_lss hA,e_ofNat hA]) (fun q => by omega) (fun _ => ?_) <;> refine zc ?_
  rw [List.take_of_length_le (by omega)] at t
  exact hQ h ar cr t hf e
 | succ d ih =>
 intro k K h ar cr hd' hk eK t hf e
 obtain ⟨r1,rR⟩:=hd h e
 obtain ⟨lb,lo,x,ea,_,hx,r2⟩:=is_at rR (i:=K) (by omega) (by omega)
 subst ea
 have r2:=rd_ok hA r2
 refine hA.roundR Try.func49 r49_ok (zc ?_)
 refine zq ?_
 refine br (K < (w : Int)) (by rw [e_lss hA,e_ofNat hA]) (fun _ => ?_) (fun q => by omega) <;> refine zc ?_
 refine zq ?_
 refine of_ok' hA (e.lowOK hlow) ⟨_,_,rfl,?_⟩
 refine zq ?_
 refine appR_ok hA TF fC_len (by omega) fC_ok (v:=one x) t (by omega) (fun a' c' h' ha hx' => ?_)
 obtain ⟨k',hk2⟩ : ∃ z,z = k + 1:=⟨_,rfl⟩
 rw [← hk2] at ha ⊢
 refine zc ?_
 rw [add64 hA (by omega) (by omega)]
 obtain ⟨y1,y2⟩:=hx' h0 e hf
 have tk:=gt_take (gt rows (i : Int)) (i:=K) (by omega) (by omega)
 rw [show (K + 1).toNat = k' by omega,show K.toNat = k by omega,hx] at tk
 refine ih k' (K + 1) h' a' c' (by omega) (by omega) (by omega) ?_ y2 y1
 rw [tk,List.map_append]
 exact ha
set_option maxHeartbeats 1000000 in
theorem wid_loop {h0 : AHeap} (hlow : h0.low ≤ h0.next) {a : Option Addr} {m w ca : Nat} {hs : List Hd} {rows : List (List Int)} (hg : GrR iC 1 h0 a m hs rows) (hw : ∀ y : Int,0 ≤ y → y < m → (gt rows y).length = w) (w100 : w ≤ 100) (m100 : m ≤ 100) {a1 : Option Addr} {c1 : Nat} {right : List Int} (hr : Is h0 a1 m right) {cw : Nat} (hcw : cw = someCap 2 (w + 1)) {Q : Exit → SS → Prop}
  (hQ : ∀ (h' : AHeap) ao co bs,Apd h' 1 ao m co ((hds cw bs (wides rows right)).flatMap Hd.cells) → From h0.next ao → GrW fC 2 cw h0 h' bs (wides rows right) → (∀ ad,ao = some ad → ad.block ∉ bs) → Q (.exit 0) ⟨[(5,.slice ao m co)],0,[],h'⟩) :
  ∀ (d k : Nat) (K : Int) (h : AHeap) (ao : Option Addr) (co : Nat) (bs : List Nat),m - k = d → k ≤ m → K = k → Apd h 1 ao k co ((hds cw bs ((wides rows right).take k)).flatMap Hd.cells) → From h0.next ao → GrW fC 2 cw h0 h bs ((wides rows right).take k) → (∀ ad,ao = some ad → ad.block ∉ bs) →
   head 49 3 0 ⟨[(0,.slice a m ca),(1,.slice a1 m c1),(5,.slice ao k co),(6,.int .i64 K)],0,[],h⟩ Q:=by
 have lr:=hr.len
 have lg:=hg.len
 have ll : right.length = rows.length:=by omega
 intro d
 induction d with
 | zero =>
  intro k K h ao co bs hd hk eK t hf g out
  obtain rfl : k = m:=by omega
  refine hA.roundR Try.func49 r49_ok (zc ?_)
  refine br (K < (k : Int)) (by rw [e_lss hA,e_ofNat hA]) (fun q => by omega) (fun _ => ?_) <;> refine zc ?_
  rw [List.take_of_length_le (by rw [wides_len ll];omega)] at t g
  exact hQ h ao co bs t hf g out
 | succ d ih =>
 intro k K h ao co bs hd hk eK t hf g out
 have e:=g.ext
 refine hA.roundR Try.func49 r49_ok (zc ?_)
 refine br (K < (m : Int)) (by rw [e_lss hA,e_ofNat hA]) (fun _ => ?_) (fun q => by omega) <;> refine zc ?_
 refine zq ?_
 refine wid_in hA (h0:=h) (e.lowOK hlow) (hg.ext e) (i:=k) (by omega) (hw _ (by omega) (by omega)) w100 eK (fun h2 ar cr t2 f2 x2 => ?_) w 0 0 h none 0 (by omega) (by omega) rfl (by simpa using Apd.nil h 2) (.none _) (.refl h)
 have e2:=e.trans x2
 obtain ⟨pb,po,x,ea,_,hx,r3⟩:=is_at (hr.ext e2) (i:=K) (by omega) (by omega)
 subst ea
 have r3:=rd_ok hA r3
 refine zq ?_
 refine of_ok' hA (e2.lowOK hlow) ⟨_,_,rfl,?_⟩
 refine zq ?_
 refine appK_ok hA TF fC_len (by omega) fC_ok (v:=one x) t2 (by omega) (fun lb h3 a3 x3 n3 l3 k3 => ?_)
 obtain ⟨w',hw'⟩ : ∃ z,z = w + 1:=⟨_,rfl⟩
 rw [← hw'] at a3 hcw ⊢
 rw [← hcw] at a3 ⊢
 have o3 : Own h3 lb 2 ((((gt rows (k : Int)).map one) ++ [one (gt right (k : Int))]).flatMap fC):=by
  rw [← eK] at *
  rcases a3 with ⟨q,_⟩ | ⟨_,q,_,_,_,o⟩
  ·cases q
  ·cases q;rw [hx];exact o
 have y3 : Ext h h3:=x3 h x2 f2
 have e3:=e.trans y3
 have k3l : lb < h3.next:=by
  rcases a3 with ⟨q,_⟩ | ⟨_,q,_,ql,_⟩
  ·cases q
  ·cases q;exact ql
 have hx2:=x2.next
 have he:=e.next
 refine zc ?_
 have tk:=wides_take ll (k:=k) (by omega)
 have rl : (((gt rows (k : Int)).map one) ++ [one (gt right (k : Int))]).length = w':=by rw [List.length_append,List.length_map,hw _ (by omega) (by omega)];exact hw'.symm
 refine appK_ok hA TFF hd_len (by omega) hd_ok (v:=⟨some ⟨lb,0,none⟩,w',cw⟩) (t.ext y3) (by omega) (fun b' h' ha hx' hn' hb' hk' => ?_)
 generalize someCap 1 (k + 1) = cc' at *
 obtain ⟨k',hk2⟩ : ∃ z,z = k + 1:=⟨_,rfl⟩
 rw [← hk2] at ha tk ⊢
 refine zc ?_
 rw [add64 hA (by omega) (by omega)]
 have bnew : lb ∉ bs:=fun q => by have:=g.ltr lb q;omega
 have hB : hds cw (bs ++ [lb]) ((wides rows right).take k') = hds cw bs ((wides rows right).take k) ++ [⟨some ⟨lb,0,none⟩,w',cw⟩]:=by rw [tk,hds_add g.len,rl]
 have gw:=(g.more y3).add o3 (by omega) k3l bnew
 rw [← tk] at gw
 have tlt:=t.lt
 have out' : ∀ q,q ∈ bs ++ [lb] → ∀ ad,ao = some ad → ad.block ≠ q:=fun q hq ad had e1 => by
  rcases List.mem_append.1 hq with z | z
  ·exact out ad had (by rw [e1];exact z)
  ·simp only [List.mem_singleton] at z;have:=tlt ad had;omega
 have gl:=gw.ltr
 have x':=hx' h0 e3 hf
 exact ih k' (K + 1) h' _ _ (bs ++ [lb]) (by omega) (by omega) (by omega) (by rw [hB];exact ha) (fun ad q => by cases q;simp only;omega) (gw.keep x' (by omega) (fun q hq => hk' q (gl q hq) (out' q hq))) (fun ad q z => by cases q;have:=gl _ z;simp only at this;omega)
theorem widen_ok {h : AHeap} (hlow : h.low ≤ h.next) {a : Option Addr} {m w ca : Nat} {hs : List Hd} {rows : List (List Int)} (hg : GrR iC 1 h a m hs rows) (hw : ∀ y : Int,0 ≤ y → y < m → (gt rows y).length = w) (w100 : w ≤ 100) (m100 : m ≤ 100) (m1 : 0 < m) {a1 : Option Addr} {c1 : Nat} {right : List Int} (hr : Is h a1 m right) {Q : Value → AHeap → Prop}
  (hQ : ∀ (h' : AHeap) oa bs co,MatW fC 2 (someCap 2 (w + 1)) h h' oa bs m (w + 1) (fun y x => one (gt (gt (longs rows right) (y : Int)) (x : Int))) → Q (.slice (some ⟨oa,0,none⟩) m co) h') : call 49 [.slice a m ca,.slice a1 m c1] h Q:=by
 have lr:=hr.len
 have lg:=hg.len
 have ll : right.length = rows.length:=by omega
 have lw:=wides_len ll
 refine hA.bodyR Try.func49 r49_ok (hA.alike _ _ _ rfl) hlow (zc ?_)
 refine wid_loop hA hlow hg hw w100 m100 hr rfl (fun h3 ao c3 bl a3 f3 w3 out => ?_) m 0 0 h none 0 [] (by omega) (by omega) rfl (by simpa [hds] using Apd.nil h 1) (.none _) (by simpa using GrW.nil h fC_len (by omega)) (fun ad e => by cases e)
 refine zc ?_
 obtain ⟨oa,rfl⟩ : ∃ b,ao = some ⟨b,0,none⟩:=by
  rcases a3 with ⟨_,q,_⟩ | ⟨b,e,_⟩
  ·omega
  ·exact ⟨b,e⟩
 have mat:=w3.mat (b:=oa) (w:=w + 1) (by rw [lw,lg];exact a3) (f3 _ rfl) (out _ rfl) (fun y y0 y1 => by
  rw [lw] at y1
  unfold wides
  rw [gt_map _ _ y0 (by rw [longs_len ll];omega),List.length_map,longs_gt ll y0 y1,List.length_append,hw y y0 (by omega)];rfl)
 rw [lw,lg] at mat
 refine hQ h3 oa _ c3 (mat.congr (fun y x hy hx => ?_))
 unfold wides
 have l1 : (longs rows right).length = m:=by rw [longs_len ll];omega
 have l2 : (gt (longs rows right) (y : Int)).length = w + 1:=by rw [longs_gt ll (by omega) (by omega),List.length_append,hw y (by omega) (by omega)];rfl
 rw [gt_map _ _ (by omega) (by omega),gt_map _ _ (by omega) (by omega)]
end Go.Proofs.Ytogliemiljhliaa
namespace Go.Proofs.Ytogliemiljhliaa
open Go.Sim
set_option linter.unusedVariables false
set_option maxRecDepth 100000
def pickN (R : Nat → Nat → Int) (c m k : Nat) : Nat:=match pick R c (m - k) k with | none => m | some i => i
theorem divIs_of {n d m e a b r : Int} {p q : Rat} (hp : isF n d p) (hq : isF m e q) (hm : m ≠ 0) (hf : fits (p / q)) (k : DivIs n d m e a b r) : isF a b (p / q) ∧ r = 0:=by
 rcases k with ⟨w,_⟩ | ⟨_,_,w,_⟩ | ⟨p',q',hp',hq',_,k⟩
 ·exact absurd ⟨⟨p,hp⟩,⟨q,hq⟩⟩ w
 ·exact absurd w hm
 ·obtain rfl:=hp.uniq hp'
  obtain rfl:=hq.uniq hq'
  rcases k with ⟨_,rfl,rfl,rfl⟩ | ⟨w,_⟩
  ·exact ⟨⟨rfl,rfl,hf⟩,rfl⟩
  ·exact absurd hf w
def ofQ (q : Rat) : Fc:=⟨q.num,q.den⟩
theorem isF.ofQ {n d : Int} {q : Rat} (h : isF n d q) : (⟨n,d⟩ : Fc) = ofQ q:=by unfold Go.Proofs.Ytogliemiljhliaa.ofQ;rw [← h.1,← h.2.1]
def rowG (f : Nat → Nat → Fc) (i j : Nat) (g : Nat → Fc) : Nat → Nat → Fc:=fun y x => if y = i ∧ x < j then g x else f y x
variable {F : Prims} {call head arith cmp scmp bnot bsame conv neg imax imin ofNat slen place inR nz geZ rd wr push next mkOK nat zeros sadd eqAgg cut slc sslc strAt part app cpy putAt fresh lowered bump wrote addN lt ne fpAll fpApp brk yn rng mget mput mnew bytes clr : _} (hA : AP F ⟨call,head,arith,cmp,scmp,bnot,bsame,conv,neg,imax,imin,ofNat,slen,place,inR,nz,geZ,rd,wr,push,next,mkOK,nat,zeros,sadd,eqAgg,cut,slc,sslc,strAt,part,app,cpy,putAt,fresh,lowered,bump,wrote,addN,lt,ne,fpAll,fpApp,brk,yn,rng,mget,mput,mnew,bytes,clr⟩)
include hA
theorem find_loop {h0 h : AHeap} {oa cp co m w c k : Nat} {bs : Nat → Nat} {f : Nat → Nat → Fc} {R : Nat → Nat → Int} (t : MatW fC 2 cp h0 h oa bs m w f) (hf : ∀ y,y < m → ((f y c).n = 0 ↔ R y c = 0)) (hc : c < w) (hk : k ≤ m) (m100 : m ≤ 100) {C : Int} (eC : C = c) {v2 v4 : Value} {i3 i5 : Int} {kn : Nat} {T : List (Nat × List Value)} {Q : Exit → SS → Prop}
  (hQ : ∀ P : Int,P = pickN R c m k → Q (.exit 2) ⟨[(0,.slice (some ⟨oa,0,none⟩) m co),(2,v2),(3,.int .i64 i3),(4,v4),(5,.int .i64 i5),(6,.int .i64 C),(7,.int .i64 P)],kn,T,h⟩) :
  ∀ (d p : Nat) (P : Int),m - p = d → k ≤ p → p ≤ m → P = p → pick R c (m - k) k = pick R c (m - p) p →
   head 48 8 kn ⟨[(0,.slice (some ⟨oa,0,none⟩) m co),(2,v2),(3,.int .i64 i3),(4,v4),(5,.int .i64 i5),(6,.int .i64 C),(7,.int .i64 P)],kn,T,h⟩ Q:=by
 intro d
 induction d with
 | zero =>
  intro p P hd hkp hp eP hpk
  obtain rfl : p = m:=by omega
  refine hA.roundR Try.func48 r48_ok (zc ?_)
  refine br (P < (p : Int)) (by rw [e_lss hA,e_ofNat hA]) (fun q => by omega) (fun _ => ?_) <;> refine zc ?_
  refine zq ?_
  exact hQ P (by unfold pickN;rw [hpk,Nat.sub_self];exact eP)
 | succ d ih =>
 intro p P hd hkp hp eP hpk
 have r1 : rd h oa (place 0 P 1) 1 [.slice (some ⟨bs p,0,none⟩) w cp]:=rd_ok hA (by rw [eP];exact t.head (by omega))
 obtain ⟨x,hx⟩ : ∃ z,z = (f p c).n:=⟨_,rfl⟩
 have r2 : rd h (bs p) (addN (place 0 C 2) 0) 1 [.int .i64 x]:=rd_fld hA (by
  have:=t.elAt (y:=p) (x:=c) (k:=0) (n:=1) (by omega) hc (by omega) (by omega)
  rw [eC,hx];exact this)
 refine hA.roundR Try.func48 r48_ok (zc ?_)
 refine br (P < (m : Int)) (by rw [e_lss hA,e_ofNat hA]) (fun _ => ?_) (fun q => by omega) <;> refine zc ?_
 refine zq ?_
 have e1 : pick R c (m - p) p = if R p c = 0 then pick R c (m - (p + 1)) (p + 1) else some p:=by
  obtain ⟨d',hd'⟩ : ∃ z,m - p = z + 1:=⟨m - (p + 1),by omega⟩
  rw [hd',show m - (p + 1) = d' by omega]
  rfl
 have hz:=hf p (by omega)
 rw [← hx] at hz
 refine br (x = 0) (by rw [e_eql hA]) (fun e => ?_) (fun e => ?_) <;> refine zc ?_
 ·refine zq ?_
  rw [add64 hA (by omega) (by omega)]
  rw [if_pos (hz.1 e)] at e1
  exact ih (p + 1) (P + 1) (by omega) (by omega) (by omega) (by omega) (by rw [hpk,e1])
 ·refine zq ?_
  rw [if_neg (fun q => e (hz.2 q))] at e1
  exact hQ P (by unfold pickN;rw [hpk,e1];exact eP)
theorem div_loop {h0 hs : AHeap} (hlow : h0.low ≤ h0.next) {oa cp co m n k : Nat} {bs : Nat → Nat} {f : Nat → Nat → Fc} {q : Nat → Rat} {b : Rat} {bn bd : Int} (hk : k < m) (m100 : m ≤ 100) (n100 : n < 100) (hq : ∀ x,x ≤ n → isF (f k x).n (f k x).d (q x)) (hb : isF bn bd b) (b0 : bn ≠ 0) (hqb : ∀ x,x ≤ n → fits (q x / b)) {C N K : Int} (eN : N = n) (eK : K = k) {k0 k1 : List Value} {Q : Exit → SS → Prop}
  (hQ : ∀ h',MatW fC 2 cp h0 h' oa bs m (n + 1) (rowG f k (n + 1) (fun x => ofQ (q x / b))) → Stays hs h' bs m → Q (.exit 4) ⟨[(0,.slice (some ⟨oa,0,none⟩) m co),(2,.pointer (some ⟨0,0,some 0⟩)),(3,.int .i64 N),(4,.pointer (some ⟨1,0,some 0⟩)),(5,.int .i64 K),(6,.int .i64 C)],19,[(0,k0),(1,k1),(18,[.int .i64 bn,.int .i64 bd])],h'⟩) :
  ∀ (d j : Nat) (J : Int) (h : AHeap),n + 1 - j = d → j ≤ n + 1 → J = j → MatW fC 2 cp h0 h oa bs m (n + 1) (rowG f k j (fun x => ofQ (q x / b))) → Stays hs h bs m →
   head 48 14 19 ⟨[(0,.slice (some ⟨oa,0,none⟩) m co),(2,.pointer (some ⟨0,0,some 0⟩)),(3,.int .i64 N),(4,.pointer (some ⟨1,0,some 0⟩)),(5,.int .i64 K),(6,.int .i64 C),(8,.pointer (some ⟨18,0,some 0⟩)),(9,.int .i64 J)],19,[(0,k0),(1,k1),(18,[.int .i64 bn,.int .i64 bd])],h⟩ Q:=by
 intro d
 induction d with
 | zero =>
  intro j J h hd hj eJ t st
  obtain rfl : j = n + 1:=by omega
  refine hA.roundR Try.func48 r48_ok (zc ?_)
  refine br (J ≤ N) (by rw [e_leq hA]) (fun q => by omega) (fun _ => ?_) <;> refine zc ?_
  exact hQ h t st
 | succ d ih =>
 intro j J h hd hj eJ t st
 obtain ⟨h9,hh9⟩ : ∃ z,z = bump h 19:=⟨_,rfl⟩
 have x9 : Ext h h9:=by rw [hh9];exact ext_bump hA _ _
 have t9:=t.more x9
 have l9:=t9.ext.lowOK hlow
 obtain ⟨xn,xd,hx⟩ : ∃ x y,f k j = ⟨x,y⟩:=⟨_,_,rfl⟩
 obtain ⟨rb,hrb⟩ : ∃ z,z = bs k:=⟨_,rfl⟩
 have z1 : rd h9 oa (place 0 K 1) 1 [.slice (some ⟨rb,0,none⟩) (n + 1) cp]:=rd_ok hA (by rw [eK,hrb];exact t9.head hk)
 have z2 : rd h9 rb (place 0 J 2) 2 [.int .i64 xn,.int .i64 xd]:=rd_ok hA (by
  have:=t9.el hk (x:=j) (by omega)
  rw [show rowG f k j (fun x => ofQ (q x / b)) k j = ⟨xn,xd⟩ by unfold rowG;rw [if_neg (by omega),hx]] at this
  rw [eJ,hrb];exact this)
 have hj':=hq j (by omega)
 rw [hx] at hj'
 refine hA.roundR Try.func48 r48_ok (zc ?_)
 refine br (J ≤ N) (by rw [e_leq hA]) (fun _ => ?_) (fun q => by omega) <;> refine zc ?_
 rw [← hh9]
 refine zq ?_
 refine rdiv_ok hA (low_fresh hA h9) hj'.i64n hj'.i64d hb.i64n hb.i64d (fun a1 a2 e k2 hz ez => ⟨_,_,_,rfl,?_⟩)
 obtain ⟨kk,rfl⟩:=divIs_of hj' hb b0 (hqb j (by omega)) k2
 obtain ⟨hX,hhX⟩ : ∃ z,z = lowered h9 hz:=⟨_,rfl⟩
 have eX : Ext h9 hX:=by rw [hhX];exact ext_low hA l9 (.refl h9) ez
 have tX:=t9.more eX
 obtain ⟨h1,w1,t1,r1⟩:=tX.set hk (x:=j) (by omega) (⟨a1,a2⟩ : Fc)
 have w1 : wr hX rb (place 0 J 2) [.int .i64 a1,.int .i64 a2] h1:=wr_ok hA (by rw [eJ,hrb];exact w1)
 refine zc ?_
 rw [← hhX]
 refine zq ?_
 have lto:=t.lto
 refine ⟨fp_old hA (wrote_no hA ez) (by rw [e_addN hA,e_next hA];omega),?_⟩
 refine zc ?_
 rw [add64 hA (by omega) (by omega)]
 refine ih (j + 1) (J + 1) h1 (by omega) (by omega) (by omega) (t1.congr (fun y x hy hx' => ?_)) (((st.ext x9).ext eX).wrote r1 hk)
 unfold upd rowG
 by_cases c : y = k ∧ x = j
 ·rw [if_pos c,if_pos ⟨c.1,by omega⟩,c.2,kk.ofQ]
 ·rw [if_neg c]
  by_cases c2 : y = k ∧ x < j
  ·rw [if_pos c2,if_pos ⟨c2.1,by omega⟩]
  ·rw [if_neg c2,if_neg (fun q' => by
    by_cases e : x = j
    ·exact c ⟨q'.1,e⟩
    ·exact c2 ⟨q'.1,by omega⟩)]
end Go.Proofs.Ytogliemiljhliaa
