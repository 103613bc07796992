import Derived.Test.YtkbgkjlgnmlghaaCaJ
set_option linter.unusedSimpArgs false
set_option linter.unusedVariables false
namespace Go.Proofs.Ytkbgkjlgnmlghaa
open Go.Sim
set_option linter.unusedVariables false
set_option maxRecDepth 100000
structure BldR (h0 h : AHeap) (n : Nat) (oc : Option Addr) (cc : Nat) (bs : List Nat) : Prop where
 ext : Ext h0 h
 apd : Apd h 1 oc bs.length cc (bs.flatMap fun b => [hdr 3 n b])
 row : ∀ b,b ∈ bs → Own h b 3 ((zs n).flatMap Ck.cells)
 oldo : From h0.next oc
 oldr : ∀ b,b ∈ bs → h0.next ≤ b
 ltr : ∀ b,b ∈ bs → b < h.next
 out : ∀ ad,oc = some ad → ad.block ∉ bs
 dis : bs.Nodup
theorem hdr_ok (n b : Nat) : ([hdr 3 n b] : List Value).all cellOK = true:=rfl
theorem BldR.more {h0 h h' : AHeap} {n : Nat} {oc : Option Addr} {cc : Nat} {bs : List Nat} (t : BldR h0 h n oc cc bs) (e : Ext h h') : BldR h0 h' n oc cc bs:=
 ⟨t.ext.trans e,t.apd.ext e,fun b hb => (t.row b hb).ext e (t.ltr b hb),t.oldo,t.oldr,fun b hb => Nat.lt_of_lt_of_le (t.ltr b hb) e.next,t.out,t.dis⟩
theorem hdrs_map (n : Nat) (bs : List Nat) : (bs.flatMap fun b => [hdr 3 n b]) = hdrs 3 bs (List.replicate bs.length (zs n)):=by
 induction bs with
 | nil => rfl
 | cons b bs ih =>
  rw [List.flatMap_cons,ih]
  unfold hdrs
  rw [List.length_cons,List.replicate_succ,List.zipWith_cons_cons]
  unfold zs
  rw [List.length_replicate]
  rfl
variable {F : Prims} {call head arith cmp scmp bnot bsame conv neg imax imin ofNat slen place inR nz geZ rd wr push next mkOK nat zeros sadd eqAgg cut slc sslc strAt part app cpy putAt fresh lowered bump wrote addN lt ne fpAll brk yn rng mget mput mnew bytes clr : _} (hA : AP F ⟨call,head,arith,cmp,scmp,bnot,bsame,conv,neg,imax,imin,ofNat,slen,place,inR,nz,geZ,rd,wr,push,next,mkOK,nat,zeros,sadd,eqAgg,cut,slc,sslc,strAt,part,app,cpy,putAt,fresh,lowered,bump,wrote,addN,lt,ne,fpAll,brk,yn,rng,mget,mput,mnew,bytes,clr⟩)
include hA
theorem rvalid_loop {h0 : AHeap} (hlow : h0.low ≤ h0.next) {a : Option Addr} {N c : Nat} {l : List Ck} (hl : Cs h0 a N l) (hN : N ≤ 100000) {Q : Exit → SS → Prop}
  (hbad : ∀ h' e kn K,¬ ValidL l → Ext h0 h' → Q .ret ⟨(2,.bool false) :: e,kn,K,h'⟩) (hok : ∀ h' kn e K,ValidL l → Ext h0 h' → Q (.exit 0) ⟨e,kn,K,h'⟩) :
  ∀ (m : Nat) (i : Int) (h : AHeap),(N - i).toNat ≤ m → 0 ≤ i → i ≤ N → (∀ j : Int,0 ≤ j → j < i → (gt l j).ok) → Ext h0 h →
   head 43 2 0 ⟨[(0,.slice a N c),(3,.int .i64 i)],0,[],h⟩ Q:=by
 have hlen:=hl.len
 intro m
 induction m with
 | zero =>
  intro i h hm i0 i1 hall he
  refine hA.roundR Try.func43 r43_ok (zc ?_)
  refine br (i < N) (by rw [e_lss hA,e_ofNat hA]) (fun c1 => by omega) (fun c1 => ?_) <;> refine zc ?_
  exact hok h _ _ _ (fun j j0 j1 => hall j j0 (by omega)) he
 | succ m ih =>
 intro i h hm i0 i1 hall he
 by_cases ci : i < N
 rotate_left
 ·refine hA.roundR Try.func43 r43_ok (zc ?_)
  refine br (i < N) (by rw [e_lss hA,e_ofNat hA]) (fun c1 => absurd c1 ci) (fun c1 => ?_) <;> refine zc ?_
  exact hok h _ _ _ (fun j j0 j1 => hall j j0 (by omega)) he
 obtain ⟨b,o,x,y,z,ea,_,hg,r1⟩:=cs_at (hl.ext he) (i:=i) i0 ci
 cases ea
 have q1:=rd_ok hA r1
 refine hA.roundR Try.func43 r43_ok (zc ?_)
 refine br (i < N) (by rw [e_lss hA,e_ofNat hA]) (fun c1 => ?_) (fun c1 => absurd ci c1) <;> refine zc ?_
 refine zq ?_
 refine rccheck_ok hA (he.lowOK hlow) (fun e h1 k1 x1 => ⟨_,rfl,?_⟩)
 have y1:=he.trans x1
 refine zc ?_
 refine br (e ≠ 0) (by rw [e_neq hA]) (fun c3 => ?_) (fun c3 => ?_) <;> refine zc ?_
 ·refine hbad h1 _ _ _ (fun w => ?_) y1
  have:=w i i0 (by omega)
  rw [hg] at this
  rcases k1 with ⟨q,_⟩ | ⟨_,q⟩
  ·exact c3 q
  ·exact q this
 have ok1 : okC x y z:=by
  rcases k1 with ⟨_,q⟩ | ⟨q,_⟩
  ·exact q
  ·omega
 rw [add64 hA (by omega) (by omega)]
 refine ih (i + 1) h1 (by omega) (by omega) (by omega) (fun j j0 j1 => ?_) y1
 by_cases z : j = i
 ·subst z;rw [hg];exact ok1
 ·exact hall j j0 (by omega)
theorem rvalid_ok {h : AHeap} (hlow : h.low ≤ h.next) {a : Option Addr} {N c : Nat} {l : List Ck} (hl : Cs h a N l) (hN : N ≤ 100000) {Q : Value → AHeap → Prop}
  (hQ : ∀ r h',(r = true ↔ ValidL l) → Ext h h' → Q (.bool r) h') : call 43 [.slice a N c] h Q:=by
 refine hA.bodyR Try.func43 r43_ok (hA.alike _ _ _ rfl) hlow (zc ?_)
 refine rvalid_loop hA hlow hl hN (fun h' e kn K hg x' => ?_) (fun h' kn e K hg x' => ?_) N 0 h (by omega) (by omega) (by omega) (fun j j0 j1 => by omega) (.refl h)
 ·refine zc ?_
  exact hQ false h' ⟨(fun q => by cases q),fun q => absurd q hg⟩ x'
 ·refine zc ?_
  exact hQ true h' ⟨fun _ => hg,fun _ => rfl⟩ x'
theorem zero_inner {n : Int} {nn : Nat} (hn : n = nn) {cap : Nat} (hcap : cap = someCap 3 nn) (n0 : 2 ≤ n) (n1 : n ≤ 8) {oc : Option Addr} {on cc : Nat} {yy : Int} {hs : AHeap} {Q : Exit → SS → Prop}
  (hQ : ∀ h' b,Apd h' 3 (some ⟨b,0,none⟩) nn cap ((zs nn).flatMap Ck.cells) → Ext hs h' → hs.next ≤ b → Q (.exit 2) ⟨[(0,.int .i64 n),(3,.slice oc on cc),(4,.int .i64 yy),(5,.slice (some ⟨b,0,none⟩) nn cap)],0,[],h'⟩) :
  ∀ (m : Nat) (k : Nat) (h : AHeap) (cur : Option Addr) (c : Nat),nn - k ≤ m → k ≤ nn → Apd h 3 cur k c ((zs k).flatMap Ck.cells) → From hs.next cur → Ext hs h →
   head 27 7 0 ⟨[(0,.int .i64 n),(3,.slice oc on cc),(4,.int .i64 yy),(5,.slice cur k c),(6,.int .i64 k)],0,[],h⟩ Q:=by
 have fin : ∀ (k : Nat) (h : AHeap) (cur : Option Addr) (c : Nat),k = nn → Apd h 3 cur k c ((zs k).flatMap Ck.cells) → ∃ b,cur = some ⟨b,0,none⟩ ∧ c = cap:=by
  intro k h cur c hk t
  subst hk
  rcases t with ⟨_,w,_⟩ | ⟨b,e1,e2,_⟩
  ·omega
  ·exact ⟨b,e1,e2.trans hcap.symm⟩
 intro m
 induction m with
 | zero =>
  intro k h cur c hm hk t hf he
  obtain ⟨b,rfl,rfl⟩:=fin k h cur c (by omega) t
  obtain rfl : k = nn:=by omega
  obtain ⟨K,hK⟩ : ∃ z : Int,z = k:=⟨_,rfl⟩
  rw [← hK]
  refine hA.roundR Try.func27 r27_ok (zc ?_)
  refine br (K < n) (by rw [e_lss hA]) (fun q => by omega) (fun _ => ?_) <;> refine zc ?_
  exact hQ h b t he (hf _ rfl)
 | succ m ih =>
 intro k h cur c hm hk t hf he
 obtain ⟨K,hK⟩ : ∃ z : Int,z = k:=⟨_,rfl⟩
 by_cases ck : k < nn
 rotate_left
 ·obtain ⟨b,rfl,rfl⟩:=fin k h cur c (by omega) t
  obtain rfl : k = nn:=by omega
  rw [← hK]
  refine hA.roundR Try.func27 r27_ok (zc ?_)
  refine br (K < n) (by rw [e_lss hA]) (fun q => by omega) (fun _ => ?_) <;> refine zc ?_
  exact hQ h b t he (hf _ rfl)
 rw [← hK]
 refine hA.roundR Try.func27 r27_ok (zc ?_)
 refine br (K < n) (by rw [e_lss hA]) (fun _ => ?_) (fun q => by omega) <;> refine zc ?_
 refine zq ?_
 refine appK_ok hA TC ck_len (by omega) ck_ok (v:=zeroK) t (by omega) (fun b' h' ha hx hn' hb' hk' => ?_)
 rw [zs_succ] at ha
 generalize someCap 3 (k + 1) = cc' at *
 obtain ⟨k',hk2⟩ : ∃ z,z = k + 1:=⟨_,rfl⟩
 rw [← hk2] at ha ⊢
 refine zc ?_
 rw [add64 hA (by omega) (by omega),show K + 1 = ((k' : Nat) : Int) by omega]
 exact ih k' h' _ _ (by omega) (by omega) ha (fun ad e => by cases e;have:=he.next;simp only;omega) (hx hs he hf)
theorem zero_outer {h0 : AHeap} (hlow : h0.low ≤ h0.next) {n : Int} {nn : Nat} (hn : n = nn) {cap1 : Nat} (hcap1 : cap1 = someCap 1 nn) (n0 : 2 ≤ n) (n1 : n ≤ 8) {Q : Exit → SS → Prop}
  (hQ : ∀ h' oa bs e,Grid2 Ck.cells 3 h0 h' oa bs (zeroG nn) → Q (.exit 0) ⟨(3,.slice (some ⟨oa,0,none⟩) nn cap1) :: e,0,[],h'⟩) :
  ∀ (m : Nat) (y : Nat) (h : AHeap) (oc : Option Addr) (cc : Nat) (bs : List Nat),nn - y ≤ m → y ≤ nn → y = bs.length → BldR h0 h nn oc cc bs →
   head 27 3 0 ⟨[(0,.int .i64 n),(3,.slice oc y cc),(4,.int .i64 y)],0,[],h⟩ Q:=by
 have fin : ∀ (h : AHeap) (oc : Option Addr) (cc : Nat) (bs : List Nat),bs.length = nn → BldR h0 h nn oc cc bs → ∃ oa,oc = some ⟨oa,0,none⟩ ∧ cc = cap1 ∧ Grid2 Ck.cells 3 h0 h oa bs (zeroG nn):=by
  intro h oc cc bs hb t
  rcases t.apd with ⟨_,w,_⟩ | ⟨oa,rfl,rfl,w1,w2,w3⟩
  ·omega
  refine ⟨oa,rfl,by rw [hcap1,hb],t.ext,?_,by unfold zeroG;rw [List.length_replicate];exact hb,fun i i0 i1 => ?_,t.oldo _ rfl,t.oldr,w1,t.ltr,t.out _ rfl,t.dis,ck_len⟩
  ·rw [hdrs_map,hb] at w3;exact w3
  ·have zl : (zeroG nn).length = nn:=by unfold zeroG;rw [List.length_replicate]
   rw [zl] at i1
   have : gt (zeroG nn) i = zs nn:=by unfold zeroG;exact gt_replicate nn _ i0 i1
   rw [this]
   exact t.row _ (bs_mem (by omega))
 intro m
 induction m with
 | zero =>
  intro y h oc cc bs hm hy hb t
  obtain ⟨oa,rfl,rfl,tg⟩:=fin h oc cc bs (by omega) t
  obtain rfl : y = nn:=by omega
  obtain ⟨Y,hY⟩ : ∃ z : Int,z = y:=⟨_,rfl⟩
  rw [← hY]
  refine hA.roundR Try.func27 r27_ok (zc ?_)
  refine br (Y < n) (by rw [e_lss hA]) (fun q => by omega) (fun _ => ?_) <;> refine zc ?_
  exact hQ h oa bs _ tg
 | succ m ih =>
 intro y h oc cc bs hm hy hb t
 obtain ⟨Y,hY⟩ : ∃ z : Int,z = y:=⟨_,rfl⟩
 by_cases cy : y < nn
 rotate_left
 ·obtain ⟨oa,rfl,rfl,tg⟩:=fin h oc cc bs (by omega) t
  obtain rfl : y = nn:=by omega
  rw [← hY]
  refine hA.roundR Try.func27 r27_ok (zc ?_)
  refine br (Y < n) (by rw [e_lss hA]) (fun q => by omega) (fun _ => ?_) <;> refine zc ?_
  exact hQ h oa bs _ tg
 rw [← hY]
 refine hA.roundR Try.func27 r27_ok (zc ?_)
 refine br (Y < n) (by rw [e_lss hA]) (fun _ => ?_) (fun q => by omega) <;> refine zc ?_
 obtain ⟨cap,hcap⟩ : ∃ z,z = someCap 3 nn:=⟨_,rfl⟩
 refine zero_inner hA hn hcap n0 n1 (hs:=h) (fun h' b ha hx hb' => ?_) nn 0 h none 0 (by omega) (by omega) (Apd.nil h 3) (.none _) (.refl h)
 have t':=t.more hx
 refine zc ?_
 have hv : Value.slice (some ⟨b,0,none⟩) nn cap = hdr 3 nn b:=by unfold hdr;rw [hcap]
 rw [hv]
 have ap:=t'.apd
 rw [← hb] at ap
 refine appK_ok hA TG (enc:=fun b => [hdr 3 nn b]) (fun _ => rfl) (by omega) (hdr_ok nn) (v:=b) ap (by omega) (fun o' h'' ha' hx' hn' ho' hk' => ?_)
 have hr : Own h' b 3 ((zs nn).flatMap Ck.cells) ∧ b < h'.next:=by
  rcases ha with ⟨w,_⟩ | ⟨b2,e,_,w1,_,w⟩
  ·cases w
  ·cases e;exact ⟨w,w1⟩
 have bnew : b ∉ bs:=fun q => by have:=t.ltr b q;omega
 have keep : ∀ i,i < h'.next → (i ∈ bs ∨ i = b) → h''.m.get i = h'.m.get i:=fun i hi q => hk' i hi (fun ad e w => by
  rcases q with q | q
  ·exact t.out ad e (by rw [w];exact q)
  ·rcases t.apd with ⟨w2,_⟩ | ⟨o2,e2,_,w2,_⟩
   ·rw [w2] at e;cases e
   ·rw [e2] at e;cases e;simp only at w;omega)
 have t2 : BldR h0 h'' nn (some ⟨o',0,none⟩) (someCap 1 (y + 1)) (bs ++ [b]):=by
  refine ⟨hx' h0 t'.ext t.oldo,by rw [List.length_append,List.length_singleton,← hb];exact ha',fun c hc => ?_,fun ad e => ?_,fun c hc => ?_,fun c hc => ?_,fun ad e q => ?_,?_⟩
  ·rcases List.mem_append.1 hc with q | q
   ·exact (t'.row c q).of_get (keep c (t'.ltr c q) (.inl q))
   ·simp only [List.mem_singleton] at q;rw [q];exact hr.1.of_get (keep b hr.2 (.inr rfl))
  ·cases e;have:=t'.ext.next;simp only;omega
  ·rcases List.mem_append.1 hc with q | q
   ·exact t.oldr c q
   ·simp only [List.mem_singleton] at q;rw [q];have:=t.ext.next;omega
  ·rcases List.mem_append.1 hc with q | q
   ·have:=t'.ltr c q;omega
   ·simp only [List.mem_singleton] at q;rw [q];have:=hr.2;omega
  ·cases e
   simp only at q
   rcases List.mem_append.1 q with q | q
   ·have:=t'.ltr _ q;omega
   ·simp only [List.mem_singleton] at q;have:=hr.2;omega
  ·rw [List.nodup_append]
   refine ⟨t.dis,by simp,fun c hc d hd e => ?_⟩
   simp only [List.mem_singleton] at hd
   rw [hd] at e
   exact bnew (by rw [← e];exact hc)
 generalize someCap 1 (y + 1) = cc' at *
 obtain ⟨y',hy2⟩ : ∃ z,z = y + 1:=⟨_,rfl⟩
 rw [← hy2]
 refine zc ?_
 rw [add64 hA (by omega) (by omega),show Y + 1 = ((y' : Nat) : Int) by omega]
 exact ih y' h'' _ _ (bs ++ [b]) (by omega) (by omega) (by rw [List.length_append,List.length_singleton];omega) t2
theorem zero_ok {h : AHeap} (hlow : h.low ≤ h.next) {n : Int} {nn : Nat} (hn : n = nn) {cap1 : Nat} (hcap1 : cap1 = someCap 1 nn) (n0 : 2 ≤ n) (n1 : n ≤ 8) {Q : Value → AHeap → Prop}
  (hQ : ∀ h' oa bs,Grid2 Ck.cells 3 h h' oa bs (zeroG nn) → Q (.slice (some ⟨oa,0,none⟩) nn cap1) h') : call 27 [.int .i64 n] h Q:=by
 refine hA.bodyR Try.func27 r27_ok (hA.alike _ _ _ rfl) hlow (zc ?_)
 refine zero_outer hA hlow hn hcap1 n0 n1 (fun h' oa bs e t => ?_) nn 0 h none 0 [] (by omega) (by omega) rfl ⟨.refl h,Apd.nil h 1,(fun b hb => by simp at hb),.none _,(fun b hb => by simp at hb),(fun b hb => by simp at hb),(fun ad e => by cases e),by simp⟩
 refine zc ?_
 exact hQ h' oa bs t
end Go.Proofs.Ytkbgkjlgnmlghaa
