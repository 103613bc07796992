import Derived.Test.YtkbgkjlgnmlghaaGreatCaTr
import Derived.Test.YtkbgkjlgnmlghaaGreatCmpA
set_option linter.unusedSimpArgs false
set_option linter.unusedVariables false
namespace Go.Proofs.YtkbgkjlgnmlghaaGreat
open Go.Sim
set_option linter.unusedVariables false
set_option maxRecDepth 100000
variable {F : Prims} {call head arith cmp scmp bnot bsame conv neg imax imin ofNat slen place inR nz geZ rd wr push next mkOK nat zeros sadd eqAgg cut slc sslc strAt part app cpy putAt fresh lowered bump wrote addN lt ne fpAll fpApp brk yn rng mget mput mnew bytes clr : _} (hA : AP F ⟨call,head,arith,cmp,scmp,bnot,bsame,conv,neg,imax,imin,ofNat,slen,place,inR,nz,geZ,rd,wr,push,next,mkOK,nat,zeros,sadd,eqAgg,cut,slc,sslc,strAt,part,app,cpy,putAt,fresh,lowered,bump,wrote,addN,lt,ne,fpAll,fpApp,brk,yn,rng,mget,mput,mnew,bytes,clr⟩)
include hA
theorem app_grow {t ti e es : Nat} (hT : SliceT Tryz.prog t e es) {ik : IntKind} (hi : Tryz.prog.underlying ti = some (.int ik)) (hzok : ∀ z,zeroT Tryz.prog e = some z → z.cells.toList.all cellOK = true) {h : AHeap} {n : Int} (n0 : 1 ≤ n) (n1 : n ≤ 1000000) {C : Option Addr → Nat → Nat → AHeap → Prop}
  (hC : ∀ h' cells,Own h' h.next es cells → cells.length = n.toNat * es → h'.next = h.next + 1 → (∀ h0,Ext h0 h → Ext h0 h') → C (some ⟨h.next,0,none⟩) n.toNat (someCap es n.toNat) h') :
  app [t,ti] [.slice none 0 0,.int .i64 n] h C:=by
 rw [e_app hA]
 obtain ⟨by_,hby,hby2⟩:=hT.bytes
 obtain ⟨z,hz,hz2⟩:=hT.zero
 have hc:=copies_length z.cells.toList n.toNat
 rw [hz2] at hc
 have hca:=copies_all (hzok z hz) n.toNat
 have hnews : newsA Tryz.prog h e es true (.int .i64 n) = some (n.toNat,copies z.cells.toList n.toNat):=by
  unfold newsA
  simp only [cond_true,hz,hby]
  rw [if_pos ⟨by omega,by omega,by have:=Nat.le_of_ble_eq_true (ble_true hby2);exact this,hz2⟩]
 refine ⟨_,_,_,h.push es (copies z.cells.toList n.toNat),?_,hC _ _ (Own.push h es _) hc rfl (fun h0 e => e.trans (.push _ _ _))⟩
 unfold appendH
 simp only [hT.und,hT.size,hby,hz,hi,isIntDesc,hnews]
 rw [show capLow 0 = 0 from rfl,ble_false (show 0 < 0 + n.toNat by omega)]
 simp only [cond_false,Nat.zero_add]
 rw [ble_true (show n.toNat ≤ 1073741824 by omega),ble_true hby2,hca,hz2,hc]
 simp only [Bool.and_self,Nat.beq_refl,cond_true]
theorem app_room {t e es : Nat} (hT : SliceT Tryz.prog t e es) {h : AHeap} {b k M n2 c2 : Nat} {a2 : Option Addr} {cells news : List Value} (ho : Own h b es cells) (hl : cells.length = M * es) (hM : M ≤ 1000000) (hs : Cells h a2 n2 es news) (hok : news.all cellOK = true) (hk : k + n2 ≤ M) {C : Option Addr → Nat → Nat → AHeap → Prop}
  (hC : ∀ h',Own h' b es (cells.take (k * es) ++ (news ++ cells.drop (k * es + news.length))) → Wrote h h' b → C (some ⟨b,0,none⟩) (k + n2) (someCap es M) h') :
  app [t,t] [.slice (some ⟨b,0,none⟩) k (someCap es M),.slice a2 n2 c2] h C:=by
 rw [e_app hA]
 obtain ⟨by_,hby,hby2⟩:=hT.bytes
 obtain ⟨z,hz,hz2⟩:=hT.zero
 have hnl:=hs.length
 have hnews : newsA Tryz.prog h e es false (.slice a2 n2 c2) = some (n2,news):=by
  unfold newsA
  simp only [cond_false]
  cases a2 with
  | none => obtain ⟨rfl,rfl⟩:=hs;simp
  | some ad =>
   obtain ⟨h1,h2,h3⟩:=hs
   simp only [h3]
 have hkm : k * es + n2 * es ≤ M * es:=by rw [← Nat.add_mul];exact Nat.mul_le_mul_right es hk
 obtain ⟨h',w1,w2,w3⟩:=ho.write (o:=k * es) (vs:=news) (by omega)
 refine ⟨_,_,_,h',?_,hC h' w2 w3⟩
 unfold appendH
 simp only [hT.und,hT.size,hby,hz,isIntDesc,hnews]
 rw [capLow_some (by unfold slack;omega),ble_true hk]
 simp only [cond_true]
 have hwg : h.writeG (aadd ⟨b,0,none⟩ (k * es)) news = some h':=by
  unfold AHeap.writeG aadd
  simp only [hok,cond_true,Nat.zero_add]
  exact w1
 rw [hwg]
omit hA in
theorem zero_cx : ∀ z,zeroT Tryz.prog 33 = some z → z.cells.toList.all cellOK = true:=by
 intro z hz
 have : zeroT Tryz.prog 33 = some (.agg #[.int .i64 0,.int .i64 0,.int .i64 0]):=by kernel_rfl
 rw [this] at hz
 cases hz
 rfl
omit hA in
theorem under_int : Tryz.prog.underlying 3 = some (.int .i64):=by kernel_rfl
theorem lt_slack : lt 0 9223372036854775808:=by
 have e : ∀ a b,lt a b = (a < b):=by have:=hA.eq;injections;subst_vars;intros;rfl
 rw [e];decide
theorem grow_ok {h : AHeap} (hlow : h.low ≤ h.next) {n : Int} (n0 : 1 ≤ n) (n1 : n ≤ 1000000) {Q : Value → AHeap → Prop}
  (hQ : ∀ h' b cells,Own h' b 3 cells → cells.length = n.toNat * 3 → b < h'.next → h.next ≤ b → Ext h h' → Q (.slice (some ⟨b,0,none⟩) 0 (someCap 3 n.toNat)) h') :
  call 45 [.slice none 0 0,.int .i64 n] h Q:=by
 refine hA.bodyR Tryz.func45 r45_ok (hA.alike _ _ _ rfl) hlow (zc ?_)
 refine br (n < 0) (by rw [e_lss hA]) (fun q => by omega) (fun _ => ?_) <;> refine zc ?_
 refine ⟨lt_slack hA,?_⟩
 refine zc ?_
 rw [show arith .sub .i64 (ofNat 0) (ofNat 0) = 0 by rw [e_ofNat hA];exact sub64 hA (by omega) (by omega)]
 rw [show arith .sub .i64 n 0 = n by rw [sub64 hA (by omega) (by omega)];omega]
 refine br (0 < n) (by rw [e_gtr hA]) (fun _ => ?_) (fun q => by omega) <;> refine zc ?_
 refine ⟨lt_slack hA,?_⟩
 refine zc ?_
 rw [e_ofNat hA]
 refine ⟨by rw [e_cut hA];exact ⟨by omega,by decide⟩,?_⟩
 refine zc ?_
 rw [show nat (Int.ofNat 0) = 0 by rw [e_nat hA];rfl]
 refine app_grow hA TC under_int zero_cx n0 n1 (fun h' cells ho hl hn hx => ?_)
 obtain ⟨b,hb⟩ : ∃ z,z = h.next:=⟨_,rfl⟩
 rw [← hb] at ho hn ⊢
 have fin:=hQ h' b cells ho hl (by omega) (by omega) (hx h (.refl h))
 generalize someCap 3 n.toNat = cap at *
 generalize n.toNat = m at *
 refine zc ?_
 rw [e_ofNat hA]
 refine ⟨by rw [e_cut hA];exact ⟨by omega,by omega⟩,?_⟩
 refine zc ?_
 rw [show nat (Int.ofNat 0) = 0 by rw [e_nat hA];rfl]
 exact fin
theorem cat_one {h0 : AHeap} (hlow : h0.low ≤ h0.next) {b o N c : Nat} {hs : List Hd} {g : Gd} (sq : SqG N g) (hn : N ≤ 8) (t : GridRd h0 (some ⟨b,o,none⟩) N hs g) {NN : Int} (hNN : NN = N) {Q : Exit → SS → Prop}
  (hok : ∀ h',Ext h0 h' → Q (.exit 0) ⟨[(0,.slice (some ⟨b,o,none⟩) N c),(3,.int .i64 (NN * NN))],0,[],h'⟩) :
  ∀ (m : Nat) (i : Int) (h : AHeap),(N - i).toNat ≤ m → 0 ≤ i → i ≤ N → Ext h0 h →
   head 28 3 0 ⟨[(0,.slice (some ⟨b,o,none⟩) N c),(3,.int .i64 (i * NN)),(9,.slice (some ⟨b,o,none⟩) N c),(10,.int .i64 NN),(11,.int .i64 i)],0,[],h⟩ Q:=by
 intro m
 induction m with
 | zero =>
  intro i h hm i0 i1 he
  obtain ⟨M,hM⟩ : ∃ z,z = i * NN:=⟨_,rfl⟩
  rw [← hM]
  refine hA.roundR Tryz.func28 r28_ok (zc ?_)
  refine br (i < NN) (by rw [e_lss hA]) (fun c1 => by omega) (fun c1 => ?_) <;> refine zc ?_
  rw [hM,show i = NN by omega]
  exact hok h he
 | succ m ih =>
 intro i h hm i0 i1 he
 obtain ⟨M,hM⟩ : ∃ z,z = i * NN:=⟨_,rfl⟩
 rw [← hM]
 by_cases ci : i < N
 rotate_left
 ·refine hA.roundR Tryz.func28 r28_ok (zc ?_)
  refine br (i < NN) (by rw [e_lss hA]) (fun c1 => by omega) (fun c1 => ?_) <;> refine zc ?_
  rw [hM,show i = NN by omega]
  exact hok h he
 have d1:=head_rd hA (t.ext he) i0 ci
 have ry:=(t.row sq i i0 ci).len
 rw [sq.row i i0 ci] at ry
 rw [← ry] at d1
 generalize (gt hs i).a = ra at *
 generalize (gt hs i).c = rc at *
 have hb : i * NN ≤ 8 * 8:=Int.mul_le_mul (by omega) (by omega) (by omega) (by omega)
 have hb0 : 0 ≤ i * NN:=Int.mul_nonneg i0 (by omega)
 refine hA.roundR Tryz.func28 r28_ok (zc ?_)
 refine br (i < NN) (by rw [e_lss hA]) (fun c1 => ?_) (fun c1 => by omega) <;> refine zc ?_
 refine zq ?_
 rw [e_ofNat hA,add64 hA (a:=M) (by omega) (by omega)]
 obtain ⟨M',hM'⟩ : ∃ z,z = M + (N : Int):=⟨_,rfl⟩
 rw [← hM']
 refine br (M' < 0) (by rw [e_lss hA]) (fun q => by omega) (fun _ => ?_) <;> refine zc ?_
 rw [add64 hA (by omega) (by omega),show M' = (i + 1) * NN by rw [Int.add_mul];omega]
 exact ih (i + 1) h (by omega) (by omega) (by omega) he
theorem cat_two {h0 : AHeap} (hlow : h0.low ≤ h0.next) {b o N c : Nat} {hs : List Hd} {g : Gd} (sq : SqG N g) (hn : N ≤ 8) (t : GridRd h0 (some ⟨b,o,none⟩) N hs g) {NN : Int} (hNN : NN = N) {ob : Nat} (hob : h0.next ≤ ob) {M : Nat} (hM : M = N * N) {Q : Exit → SS → Prop}
  (hok : ∀ h' kn,Own h' ob 3 (g.flatten.flatMap Ck.cells) → ob < h'.next → Ext h0 h' → Q (.exit 2) ⟨[(6,.slice (some ⟨ob,0,none⟩) M (someCap 3 M))],kn,[],h'⟩) :
  ∀ (m : Nat) (i : Nat) (h : AHeap) (rest : List Value) (k : Nat),N - i ≤ m → i ≤ N → k = i * N → Own h ob 3 ((g.take i).flatten.flatMap Ck.cells ++ rest) → ((g.take i).flatten.flatMap Ck.cells ++ rest).length = M * 3 → ob < h.next → Ext h0 h →
   head 28 11 0 ⟨[(6,.slice (some ⟨ob,0,none⟩) k (someCap 3 M)),(25,.slice (some ⟨b,o,none⟩) N c),(26,.int .i64 NN),(27,.int .i64 i)],0,[],h⟩ Q:=by
 have rl:=sq.rows
 have fl : ∀ i,i ≤ N → ((g.take i).flatten.flatMap Ck.cells).length = i * N * 3:=fun i hi => by
  rw [flatE_len ck_len,flat_len (g.take i) (fun r hr => rl r (List.mem_of_mem_take hr)),List.length_take,sq.len,Nat.min_eq_left hi]
 intro m
 induction m with
 | zero =>
  intro i h rest k hm hi hk ho hl hb he
  obtain ⟨I,hI⟩ : ∃ z : Int,z = i:=⟨_,rfl⟩
  rw [← hI]
  generalize hc : someCap 3 M = cap at *
  refine hA.roundR Tryz.func28 r28_ok (zc ?_)
  refine br (I < NN) (by rw [e_lss hA]) (fun c1 => by omega) (fun c1 => ?_) <;> refine zc ?_
  obtain rfl : i = N:=by omega
  rw [List.length_append,fl i (Nat.le_refl _)] at hl
  rw [List.take_of_length_le (by rw [sq.len];omega)] at ho
  have hr : rest = []:=List.length_eq_zero_iff.1 (by rw [hM] at hl;omega)
  rw [hr,List.append_nil] at ho
  rw [hk,← hM]
  exact hok h _ ho hb he
 | succ m ih =>
 intro i h rest k hm hi hk ho hl hb he
 by_cases ci : i < N
 rotate_left
 ·obtain ⟨I,hI⟩ : ∃ z : Int,z = i:=⟨_,rfl⟩
  rw [← hI]
  generalize hc : someCap 3 M = cap at *
  refine hA.roundR Tryz.func28 r28_ok (zc ?_)
  refine br (I < NN) (by rw [e_lss hA]) (fun c1 => by omega) (fun c1 => ?_) <;> refine zc ?_
  obtain rfl : i = N:=by omega
  rw [List.length_append,fl i (Nat.le_refl _)] at hl
  rw [List.take_of_length_le (by rw [sq.len];omega)] at ho
  have hr : rest = []:=List.length_eq_zero_iff.1 (by rw [hM] at hl;omega)
  rw [hr,List.append_nil] at ho
  rw [hk,← hM]
  exact hok h _ ho hb he
 have d1:=head_rd hA (t.ext he) (y:=(i : Int)) (by omega) (by omega)
 have rr:=(t.ext he).row sq (i : Int) (by omega) (by omega)
 have ry:=rr.len
 rw [sq.row (i : Int) (by omega) (by omega)] at ry
 rw [← ry] at d1 rr
 generalize (gt hs (i : Int)).a = ra at *
 generalize (gt hs (i : Int)).c = rc at *
 obtain ⟨I,hI⟩ : ∃ z : Int,z = i:=⟨_,rfl⟩
 rw [← hI] at d1 rr ⊢
 have hMM : M ≤ 64:=by rw [hM];exact Nat.mul_le_mul hn hn
 have hk1 : k + N ≤ M:=by rw [hk,hM,← Nat.succ_mul];exact Nat.mul_le_mul_right N ci
 have hc : ∃ cap,cap = someCap 3 M:=⟨_,rfl⟩
 obtain ⟨cap,hc⟩:=hc
 rw [← hc]
 refine hA.roundR Tryz.func28 r28_ok (zc ?_)
 refine br (I < NN) (by rw [e_lss hA]) (fun c1 => ?_) (fun c1 => by omega) <;> refine zc ?_
 refine zq ?_
 rw [hc]
 refine app_room hA TC ho hl (by omega) rr.cells (all_flat ck_ok _) hk1 (fun h' ho' hw => ?_)
 obtain ⟨k',hk'⟩ : ∃ z,z = k + N:=⟨_,rfl⟩
 rw [← hk',← hc]
 refine zc ?_
 rw [add64 hA (by omega) (by omega),show I + 1 = ((i + 1 : Nat) : Int) by omega,hc]
 have e0:=fl i (by omega)
 rw [← hk] at e0
 rw [← e0,List.take_left] at ho'
 have gI : gt g I = g[i]'(by rw [sq.len];omega):=by
  unfold gt
  rw [hI,Int.toNat_natCast,List.getD_eq_getElem?_getD,List.getElem?_eq_getElem (by rw [sq.len];omega)]
  rfl
 have e1 : (g.take (i + 1)).flatten.flatMap Ck.cells = (g.take i).flatten.flatMap Ck.cells ++ (gt g I).flatMap Ck.cells:=by
  rw [List.take_add_one,List.getElem?_eq_getElem (by rw [sq.len];omega),gI,List.flatten_append,List.flatMap_append]
  congr 1
  simp only [Option.toList_some,List.flatten_cons,List.flatten_nil,List.append_nil]
 have hl2:=hl
 rw [List.length_append,e0] at hl2
 have e2 : ((gt g I).flatMap Ck.cells).length = N * 3:=by rw [flatE_len ck_len,sq.row I (by omega) (by omega)]
 refine ih (i + 1) h' (((g.take i).flatten.flatMap Ck.cells ++ rest).drop (((g.take i).flatten.flatMap Ck.cells).length + ((gt g I).flatMap Ck.cells).length)) k' (by omega) (by omega) (by rw [hk',hk,Nat.succ_mul]) ?_ ?_ (by rw [hw.next];exact hb) (hw.ext he hob)
 ·rw [e1,List.append_assoc];exact ho'
 ·rw [e1,List.length_append,List.length_append,List.length_drop,List.length_append,e0,e2];omega
theorem concat_ok {h : AHeap} (hlow : h.low ≤ h.next) {a : Option Addr} {N c : Nat} {hs : List Hd} {g : Gd} (n2 : 2 ≤ N) (n8 : N ≤ 8) (sq : SqG N g) (t : GridRd h a N hs g) {Q : Value → AHeap → Prop}
  (hQ : ∀ h' b,Own h' b 3 (g.flatten.flatMap Ck.cells) → h.next ≤ b → b < h'.next → Ext h h' → Q (.slice (some ⟨b,0,none⟩) (N * N) (someCap 3 (N * N))) h') : call 28 [.slice a N c] h Q:=by
 obtain ⟨b,o,rfl,_⟩:=grid_some t (by omega)
 refine hA.bodyR Tryz.func28 r28_ok (hA.alike _ _ _ rfl) hlow (zc ?_)
 have NN4 : 2 * 2 ≤ N * N:=Nat.mul_le_mul n2 n2
 have NN6 : N * N ≤ 8 * 8:=Nat.mul_le_mul n8 n8
 have e0 : (0 : Int) = 0 * (N : Int):=by omega
 refine (show ∀ z : Int,z = 0 * (N : Int) → head 28 3 0 ⟨[(0,.slice (some ⟨b,o,none⟩) N c),(3,.int .i64 z),(9,.slice (some ⟨b,o,none⟩) N c),(10,.int .i64 (ofNat N)),(11,.int .i64 0)],0,[],h⟩ _ from fun z hz => ?_) 0 (by omega)
 rw [hz,e_ofNat hA]
 refine cat_one hA hlow sq n8 t rfl (fun h1 x1 => ?_) N 0 h (by omega) (by omega) (by omega) (.refl h)
 obtain ⟨M,hM⟩ : ∃ z : Int,z = (N : Int) * N:=⟨_,rfl⟩
 have hM' : M = ((N * N : Nat) : Int):=by rw [hM,Int.natCast_mul]
 rw [← hM]
 refine zc ?_
 refine grow_ok hA (x1.lowOK hlow) (n:=M) (by omega) (by omega) (fun h2 ob cells ho hl hb1 hb2 x2 => ⟨_,_,_,rfl,?_⟩)
 have eM : M.toNat = N * N:=by omega
 rw [eM] at hl ⊢
 generalize hc : someCap 3 (N * N) = cap at *
 refine zc ?_
 rw [e_ofNat hA,← hc]
 refine cat_two hA (x1.lowOK hlow) sq n8 (t.ext x1) rfl (ob:=ob) hb2 (M:=N * N) rfl (fun h3 kn ho3 hb3 x3 => ?_) N 0 h2 cells 0 (by omega) (by omega) (by omega) (by simpa using ho) (by simpa using hl) hb1 x2
 have fin:=hQ h3 ob ho3 (by have:=x1.next;omega) hb3 (x1.trans x3)
 rw [hc]
 clear hc hl ho3 NN4 NN6 hM'
 generalize N * N = mm at *
 refine zc ?_
 exact fin
end Go.Proofs.YtkbgkjlgnmlghaaGreat
