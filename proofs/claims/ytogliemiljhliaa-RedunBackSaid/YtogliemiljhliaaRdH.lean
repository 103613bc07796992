import Derived.Test.YtogliemiljhliaaRdP
import Derived.Test.YtogliemiljhliaaSymApp
import Derived.Test.YtogliemiljhliaaFracAlive
set_option linter.unusedSimpArgs false
set_option linter.unusedVariables false
namespace Go.Proofs.Ytogliemiljhliaa
open Go.Sim
set_option maxRecDepth 100000
def Red(h:AHeap)(sb oa m cm:Nat)(cols:Int)(ba:Option Addr)(nb cb:Nat)(lead:Int):Prop:=Own h sb 4 [.slice (some ⟨oa,0,none⟩) m cm,.int .i64 cols,.slice ba nb cb,.int .i64 lead]
structure Stays(h h':AHeap)(bs:Nat->Nat)(m:Nat):Prop where
 next:h.next<=h'.next
 get:∀b,b<h.next->(∀y,y<m->b≠bs y)->h'.m.get b=h.m.get b
theorem Stays.refl(h:AHeap)(bs:Nat->Nat)(m:Nat):Stays h h bs m:=⟨Nat.le_refl _,fun _ _ _=>rfl⟩
theorem Stays.wrote{h h' h2:AHeap}{bs:Nat->Nat}{m y:Nat}(t:Stays h h' bs m)(w:Wrote h' h2 (bs y))(hy:y<m):Stays h h2 bs m:=
 ⟨by rw[w.next];exact t.next,fun b hb ne=>by rw[w.get b (ne y hy)];exact t.get b hb ne⟩
theorem Stays.ext{h h' h2:AHeap}{bs:Nat->Nat}{m:Nat}(t:Stays h h' bs m)(w:Ext h' h2):Stays h h2 bs m:=
 ⟨Nat.le_trans t.next w.next,fun b hb ne=>by rw[w.get b (Nat.lt_of_lt_of_le hb t.next)];exact t.get b hb ne⟩
def rowTo(f:Nat->Nat->Int)(i j:Nat)(g:Nat->Int):Nat->Nat->Int:=fun y x=>if y=i/\x<j then g x else f y x
variable{F:Prims}{call head arith cmp scmp bnot bsame conv neg imax imin ofNat slen place inR nz geZ rd wr push next mkOK nat zeros sadd eqAgg cut slc sslc strAt part app cpy putAt fresh lowered bump wrote addN lt ne fpAll fpApp brk yn rng mget mput mnew bytes clr:_}(hA:AP F ⟨call,head,arith,cmp,scmp,bnot,bsame,conv,neg,imax,imin,ofNat,slen,place,inR,nz,geZ,rd,wr,push,next,mkOK,nat,zeros,sadd,eqAgg,cut,slc,sslc,strAt,part,app,cpy,putAt,fresh,lowered,bump,wrote,addN,lt,ne,fpAll,fpApp,brk,yn,rng,mget,mput,mnew,bytes,clr⟩)
include hA
theorem clear_in {h0 : AHeap} {sb oa cp m cm w k i : Nat} {bs : Nat → Nat} {cols lead p by_ : Int} {ba : Option Addr} {nb cb : Nat} {f : Nat → Nat → Int} {hs : AHeap} (hk : k < m) (hi : i < m) (ne : i ≠ k) (hsb : sb < hs.next) (hsn : ∀ y, y < m → sb ≠ bs y) (hR : Red hs sb oa m cm cols ba nb cb lead)
    (hm : m ≤ 100) (hw : w ≤ 100) (hb : ∀ x, x < w → (p * f i x).natAbs ≤ 1000000000000000000 ∧ (by_ * f k x).natAbs ≤ 1000000000000000000) (hl : lead ≠ 0) {K C I W M : Int} (eK : K = k) (eI : I = i) (eW : W = w) {Q : Exit → SS → Prop}
    (hQ : ∀ (h' : AHeap) (kn : Nat) (T : List (Nat × List Value)), MatW iC 1 cp h0 h' oa bs m w (rowTo f i w (fun x => (p * f i x - by_ * f k x).tdiv lead)) → Stays hs h' bs m → Q (.exit 2) ⟨[(0, .pointer (some ⟨sb, 0, none⟩)), (1, .int .i64 K), (2, .int .i64 C), (6, .int .i64 p), (24, .slice (some ⟨oa, 0, none⟩) m cm), (25, .int .i64 M), (26, .int .i64 I)], kn, T, h'⟩) :
    ∀ (d j : Nat) (J : Int) (h : AHeap), w - j ≤ d → j ≤ w → J = j → MatW iC 1 cp h0 h oa bs m w (rowTo f i j (fun x => (p * f i x - by_ * f k x).tdiv lead)) → Stays hs h bs m →
      head 72 7 0 ⟨[(0, .pointer (some ⟨sb, 0, none⟩)), (1, .int .i64 K), (2, .int .i64 C), (6, .int .i64 p), (8, .slice (some ⟨bs i, 0, none⟩) w cp), (9, .int .i64 by_), (24, .slice (some ⟨oa, 0, none⟩) m cm), (25, .int .i64 M), (26, .int .i64 I), (39, .int .i64 W), (40, .int .i64 J)], 0, [], h⟩ Q := by
  intro d
  induction d with
  | zero =>
    intro j J h hd hj eJ t st
    refine hA.roundR Try.func72 r72_ok (zc ?_)
    refine br (J < W) (by rw [e_lss hA]) (fun q => by omega) (fun _ => ?_) <;> refine zc ?_
    obtain rfl : j = w := by omega
    exact hQ h _ _ t st
  | succ d ih =>
  intro j J h hd hj eJ t st
  by_cases cj : j < w
  rotate_left
  · refine hA.roundR Try.func72 r72_ok (zc ?_)
    refine br (J < W) (by rw [e_lss hA]) (fun q => by omega) (fun _ => ?_) <;> refine zc ?_
    obtain rfl : j = w := by omega
    exact hQ h _ _ t st
  have x9 : Ext h (bump h 28) := ext_bump hA _ _
  have t9 := t.more x9
  have hR9 : Red (bump h 28) sb oa m cm cols ba nb cb lead := hR.of_get (by rw [x9.get _ (Nat.lt_of_lt_of_le hsb st.next)]; exact st.get _ hsb hsn)
  obtain ⟨x, hx⟩ : ∃ z, z = f i j := ⟨_, rfl⟩
  obtain ⟨y, hy⟩ : ∃ z, z = f k j := ⟨_, rfl⟩
  have r1 : rd (bump h 28) (bs i) (place 0 J 1) 1 [.int .i64 x] := rd_ok hA (by
    have := t9.el hi cj
    rw [show rowTo f i j (fun x => (p * f i x - by_ * f k x).tdiv lead) i j = x by unfold rowTo; rw [if_neg (by omega), hx]] at this
    rw [eJ]; exact this)
  have r5 : rd (bump h 28) (bs k) (place 0 J 1) 1 [.int .i64 y] := rd_ok hA (by
    have := t9.el hk cj
    rw [show rowTo f i j (fun x => (p * f i x - by_ * f k x).tdiv lead) k j = y by unfold rowTo; rw [if_neg (by omega), hy]] at this
    rw [eJ]; exact this)
  have r2 : rd (bump h 28) sb (addN 0 0) 1 [.slice (some ⟨oa, 0, none⟩) m cm] := by rw [e_addN hA]; exact rd_at hA (hR9.readG (o := 0) (n := 1) (Nat.le_of_ble_eq_true rfl))
  have r3 : rd (bump h 28) sb (addN 0 3) 1 [.int .i64 lead] := by rw [e_addN hA]; exact rd_at hA (hR9.readG (o := 3) (n := 1) (Nat.le_of_ble_eq_true rfl))
  have r4 : rd (bump h 28) oa (place 0 K 1) 1 [.slice (some ⟨bs k, 0, none⟩) w cp] := rd_ok hA (by rw [eK]; exact t9.head hk)
  obtain ⟨b1, b2⟩ := hb j cj
  rw [← hx] at b1
  rw [← hy] at b2
  obtain ⟨u, hu⟩ : ∃ z, z = p * x := ⟨_, rfl⟩
  obtain ⟨v, hv⟩ : ∃ z, z = by_ * y := ⟨_, rfl⟩
  have m1 : arith .mul .i64 p x = u := by rw [hu]; exact mul64 hA (by omega) (by omega)
  have m2 : arith .mul .i64 by_ y = v := by rw [hv]; exact mul64 hA (by omega) (by omega)
  rw [← hu] at b1
  rw [← hv] at b2
  obtain ⟨d', hd'⟩ : ∃ z, z = u - v := ⟨_, rfl⟩
  have m3 : arith .sub .i64 u v = d' := by rw [hd']; exact sub64 hA (by omega) (by omega)
  have b3 : (d'.tdiv lead).natAbs ≤ d'.natAbs := Int.natAbs_tdiv_le_natAbs _ _
  obtain ⟨g, hg⟩ : ∃ z, z = d'.tdiv lead := ⟨_, rfl⟩
  have m4 : arith .quo .i64 d' lead = g := by rw [hg, e_quo hA]; exact wrap64 (by omega) (by omega)
  obtain ⟨h2, w1, t2, wr2⟩ := t9.set hi cj g
  have w1 : wr (bump h 28) (bs i) (place 0 J 1) [.int .i64 g] h2 := wr_ok hA (by rw [eJ]; exact w1)
  refine hA.roundR Try.func72 r72_ok (zc ?_)
  refine br (J < W) (by rw [e_lss hA]) (fun _ => ?_) (fun q => by omega) <;> refine zc ?_
  (refine zq ?_; repeat ((first | rw [m1] | rw [m2] | rw [m3] | rw [m4]); refine zq ?_))
  rw [add64 hA (by omega) (by omega)]
  refine ih (j + 1) (J + 1) h2 (by omega) (by omega) (by omega) (t2.congr (fun a b ha hb => ?_)) ((st.ext x9).wrote wr2 hi)
  unfold upd rowTo
  by_cases c : a = i ∧ b = j
  · rw [if_pos c, if_pos ⟨c.1, by omega⟩, c.2, hg, hd', hu, hv, hx, hy]
  · rw [if_neg c]
    by_cases c2 : a = i ∧ b < j
    · rw [if_pos c2, if_pos ⟨c2.1, by omega⟩]
    · rw [if_neg c2, if_neg (fun q => c ⟨q.1, by have := q.2; by_cases e : b = j; · exact e
                                                 · exact absurd ⟨q.1, by omega⟩ c2⟩)]
def clrTo(f:Nat->Nat->Int)(k c:Nat)(lead:Int)(i:Nat):Nat->Nat->Int:=fun y x=>if y<i then clrF f k c lead y x else f y x
theorem clear_out{h0:AHeap}{sb oa cp m cm w k c:Nat}{bs:Nat->Nat}{cols lead:Int}{ba:Option Addr}{nb cb:Nat}{f:Nat->Nat->Int}{hs:AHeap}(hk:k<m)(hc:c<w)(hsb:sb<hs.next)(hsn:∀y,y<m->sb≠bs y)(hR:Red hs sb oa m cm cols ba nb cb lead)
  (hm:m<=100) (hw:w<=100) (hb:∀i x,i<m->x<w->(f k c*f i x).natAbs<=1000000000000000000/\(f i c*f k x).natAbs<=1000000000000000000) (hl:lead≠0) {K C M p:Int} (eK:K=k) (eC:C=c) (eM:M=m) (ep:p=f k c) {Q:Exit->SS->Prop}
  (hQ:∀(h':AHeap) (kn:Nat) (T:List (Nat×List Value)),MatW iC 1 cp h0 h' oa bs m w (clrF f k c lead)->Stays hs h' bs m->Q (.exit 0) ⟨[],kn,T,h'⟩) :
  ∀(d i:Nat) (I:Int) (h:AHeap),m-i<=d->i<=m->I=i->MatW iC 1 cp h0 h oa bs m w (clrTo f k c lead i)->Stays hs h bs m->
   head 72 2 0 ⟨[(0,.pointer (some ⟨sb,0,none⟩)),(1,.int .i64 K),(2,.int .i64 C),(6,.int .i64 p),(24,.slice (some ⟨oa,0,none⟩) m cm),(25,.int .i64 M),(26,.int .i64 I)],0,[],h⟩ Q:=by
 have fin:∀(h:AHeap) i,i=m->MatW iC 1 cp h0 h oa bs m w (clrTo f k c lead i)->MatW iC 1 cp h0 h oa bs m w (clrF f k c lead):=fun h i e t=>t.congr (fun y x hy hx=>by unfold clrTo;rw[if_pos (by omega)])
 refine upTo (fun d ih=>?_);intro i I h hd hj eI t st;by_cases ci:i<m
 rotate_left
 ·refine hA.roundR Try.func72 r72_ok (zc ?_)
  refine br (I<M) (by rw[e_lss hA]) (fun q=>by omega) (fun _=>?_)<;>refine zc ?_;exact hQ h _ _ (fin h i (by omega) t) st
 obtain⟨d,rfl⟩:∃k,d=k+1:=⟨d-1,by omega⟩
 replace ih:=ih d rfl
 have r1:rd h oa (place 0 I 1) 1 [.slice (some ⟨bs i,0,none⟩) w cp]:=rd_ok hA (by rw[eI];exact t.head ci);obtain⟨b,hb'⟩:∃z,z=f i c:=⟨_,rfl⟩;have r2:rd h (bs i) (place 0 C 1) 1 [.int .i64 b]:=rd_ok hA (by
  have:=t.el ci hc;rw[show clrTo f k c lead i i c=b by unfold clrTo;rw[if_neg (by omega),hb']]at this;rw[eC];exact this)
 refine hA.roundR Try.func72 r72_ok (zc ?_);refine br (I<M) (by rw[e_lss hA]) (fun _=>?_) (fun q=>by omega)<;>refine zc ?_;refine zq ?_;refine br (I=K) (by rw[e_eql hA]) (fun e=>?_) (fun e=>?_)<;>refine zc ?_
 ·rw[add64 hA (by omega) (by omega)]
  refine ih (i+1) (I+1) h (by omega) (by omega) (by omega) (t.congr (fun y x hy hx=>?_)) st;have eik:i=k:=by omega
  unfold clrTo;by_cases c1:y<i
  ·rw[if_pos c1,if_pos (by omega)]
  ·rw[if_neg c1]
   by_cases c2:y<i+1
   ·rw[if_pos c2];unfold clrF;rw[if_pos (by omega)]
   ·rw[if_neg c2]
 refine zq ?_;rw[e_ofNat hA];refine clear_in hA (f:=clrTo f k c lead i) (by_:=b) (p:=p) hk ci (fun q=>e (by omega)) (Nat.lt_of_lt_of_le hsb st.next) hsn (hR.of_get (st.get _ hsb hsn)) hm hw (fun x hx=>?_) hl eK eI rfl (fun h2 kn T t2 st2=>?_) w 0 0 h (by omega) (by omega) rfl (t.congr (fun y x hy hx=>by unfold rowTo;rw[if_neg (by omega)])) (.refl _ _ _)
 ·have h1:clrTo f k c lead i i x=f i x:=by unfold clrTo;rw[if_neg (by omega)]
  have h2:clrTo f k c lead i k x=f k x:=by
   unfold clrTo clrF;by_cases e:k<i
   ·rw[if_pos e,if_pos rfl]
   ·rw[if_neg e]
  rw[h1,h2,ep,hb'];exact hb i x ci hx
 refine zq ?_;rw[add64 hA (by omega) (by omega)];refine ih (i+1) (I+1) h2 (by omega) (by omega) (by omega) (t2.congr (fun y x hy hx=>?_)) ⟨Nat.le_trans st.next st2.next,fun b hb ne=>by rw[st2.get b (Nat.lt_of_lt_of_le hb st.next) ne];exact st.get b hb ne⟩;have h1:clrTo f k c lead i i x=f i x:=by unfold clrTo;rw[if_neg (by omega)]
 have h2:clrTo f k c lead i k x=f k x:=by
  unfold clrTo clrF;by_cases e:k<i
  ·rw[if_pos e,if_pos rfl]
  ·rw[if_neg e]
 unfold rowTo;simp only[h1,h2];have e2:i≠k:=fun q=>e (by omega)
 by_cases c1:y=i
 ·subst c1
  rw[if_pos ⟨rfl,hx⟩];unfold clrTo clrF;rw[if_pos (by omega),if_neg e2,ep,hb']
 ·rw[if_neg (fun q=>c1 q.1)]
  unfold clrTo;by_cases c2:y<i
  ·rw[if_pos c2,if_pos (by omega)]
  ·rw[if_neg c2,if_neg (by omega)]
theorem clear_ok{h0 h:AHeap}(hlow:h.low<=h.next){sb oa cp m cm w k c:Nat}{bs:Nat->Nat}{cols lead:Int}{ba:Option Addr}{nb cb:Nat}{f:Nat->Nat->Int}(hk:k<m)(hc:c<w)(hsb:sb<h.next)(hsn:∀y,y<m->sb≠bs y)(hR:Red h sb oa m cm cols ba nb cb lead)
  (hm:m<=100) (hw:w<=100) (hb:∀i x,i<m->x<w->(f k c*f i x).natAbs<=1000000000000000000/\(f i c*f k x).natAbs<=1000000000000000000) (hl:lead≠0) {K C:Int} (eK:K=k) (eC:C=c) (t:MatW iC 1 cp h0 h oa bs m w f) {Q:Value->AHeap->Prop}
  (hQ:∀(h':AHeap),MatW iC 1 cp h0 h' oa bs m w (clrF f k c lead)->Stays h h' bs m->Q (.tuple #[]) h') :
  call 72 [.pointer (some ⟨sb,0,none⟩),.int .i64 K,.int .i64 C] h Q:=by
 have r2:rd h sb (addN 0 0) 1 [.slice (some ⟨oa,0,none⟩) m cm]:=by rw[e_addN hA];exact rd_at hA (hR.readG (o:=0) (n:=1) (Nat.le_of_ble_eq_true rfl))
 have r4:rd h oa (place 0 K 1) 1 [.slice (some ⟨bs k,0,none⟩) w cp]:=rd_ok hA (by rw[eK];exact t.head hk);obtain⟨p,hp⟩:∃z,z=f k c:=⟨_,rfl⟩;have r5:rd h (bs k) (place 0 C 1) 1 [.int .i64 p]:=rd_ok hA (by rw[eC,hp];exact t.el hk hc);refine hA.bodyR Try.func72 r72_ok (hA.alike _ _ _ rfl) hlow (zc ?_);refine zq ?_;rw[e_ofNat hA];refine clear_out hA hk hc hsb hsn hR hm hw hb hl eK eC rfl hp (fun h' kn T t2 st=>?_) m 0 0 h (by omega) (by omega) rfl (t.congr (fun y x hy hx=>by unfold clrTo;rw[if_neg (by omega)])) (.refl _ _ _);refine zc ?_;exact hQ h' t2 st
end Go.Proofs.Ytogliemiljhliaa
namespace Go.Proofs.Ytogliemiljhliaa
open Go.Sim
set_option maxRecDepth 100000
variable{F:Prims}{call head arith cmp scmp bnot bsame conv neg imax imin ofNat slen place inR nz geZ rd wr push next mkOK nat zeros sadd eqAgg cut slc sslc strAt part app cpy putAt fresh lowered bump wrote addN lt ne fpAll fpApp brk yn rng mget mput mnew bytes clr:_}(hA:AP F ⟨call,head,arith,cmp,scmp,bnot,bsame,conv,neg,imax,imin,ofNat,slen,place,inR,nz,geZ,rd,wr,push,next,mkOK,nat,zeros,sadd,eqAgg,cut,slc,sslc,strAt,part,app,cpy,putAt,fresh,lowered,bump,wrote,addN,lt,ne,fpAll,fpApp,brk,yn,rng,mget,mput,mnew,bytes,clr⟩)
include hA
theorem nz1_ok{h:AHeap}(hlow:h.low<=h.next){rb rw_ cp qb:Nat}{C x:Int}(h1:h.readG ⟨qb,0,none⟩ 1=some [.int .i64 C])(h2:h.readG ⟨rb,0+C.toNat*1,none⟩ 1=some [.int .i64 x])(c0:0<=C)(c1:C<rw_){Q:Value->AHeap->Prop}(hQ:Q (.bool (decide (x≠0))) h) :
  call 71 [.slice (some ⟨rb,0,none⟩) rw_ cp,.pointer (some ⟨qb,0,none⟩)] h Q:=by
 have r1:=rd_at hA h1;have r2:=rd_ok hA (i:=C) (es:=1) h2;refine hA.bodyR Try.func71 r71_ok (hA.alike _ _ _ rfl) hlow (zc ?_);refine zq ?_;rw[e_neq hA];exact hQ
theorem idx_loop{h0:AHeap}{oa cp m w k c qb cm:Nat}{bs:Nat->Nat}{f:Nat->Nat->Int}{h:AHeap}(hlow:h.low<=h.next)(t:MatW iC 1 cp h0 h oa bs m w f)(hm:m<=100)(hw:w<=100)(hk:k<m)(hc:c<w){C N:Int}{o n:Nat}(eo:o=k)(en:n=m-k)(eC:C=c)(eN:N=n)(hq:h.readG ⟨qb,0,none⟩ 1=some [.int .i64 C]){Q:Exit->SS->Prop}
  (hret:∀i,pick f c (m-k) k=some i->∀e kn T,Q .ret ⟨(4,.int .i64 ((i:Int)-k)) :: e,kn,T,h⟩)
  (h9:pick f c (m-k) k=none->∀kn T,Q (.exit 0) ⟨[],kn,T,h⟩) :
  ∀(d j:Nat) (J:Int),m-k-j=d->j<=m-k->J=j->pick f c (m-k) k=pick f c (m-k-j) (k+j)->
   head 70 2 0 ⟨[(0,.slice (some ⟨oa,o,none⟩) n cm),(1,.func (.func 71) #[] #[.pointer (some ⟨qb,0,none⟩)]),(7,.int .i64 N),(8,.int .i64 J)],0,[],h⟩ Q:=by
 intro d
 induction d with
 |zero=>
  intro j J hd hj eJ hp;refine hA.roundR Try.func70 r70_ok (zc ?_);refine br (J<N) (by rw[e_lss hA]) (fun q=>by omega) (fun _=>?_)<;>refine zc ?_;exact h9 (by rw[hp,hd];rfl) _ _
 |succ d ih=>
 intro j J hd hj eJ hp;have r1:rd h oa (place o J 1) 1 [.slice (some ⟨bs (k+j),0,none⟩) w cp]:=rd_ok hA (by
  have:=t.head (y:=k+j) (by omega);rw[show o+J.toNat*1=0+(k+j)*1 by omega];exact this)
 refine hA.roundR Try.func70 r70_ok (zc ?_);refine br (J<N) (by rw[e_lss hA]) (fun _=>?_) (fun q=>by omega)<;>refine zc ?_;refine zq ?_;obtain⟨x,hx⟩:∃z,z=f (k+j) c:=⟨_,rfl⟩;refine nz1_ok hA hlow hq (x:=x) (by rw[eC,hx];exact t.el (by omega) hc) (by omega) (by omega) ⟨_,rfl,?_⟩;refine zc ?_;have e1:pick f c (m-k-j) (k+j)=if x=0 then pick f c (m-k-(j+1)) (k+(j+1))else some (k+j):=by
  obtain⟨d',hd'⟩:∃z,m-k-j=z+1:=⟨m-k-(j+1),by omega⟩;rw[hd',show m-k-(j+1)=d' by omega,hx];rfl
 refine br (x≠0) (decide_eq_decide.2 Iff.rfl) (fun e=>?_) (fun e=>?_)<;>refine zc ?_
 ·refine zq ?_
  rw[if_neg e]at e1;have:=hret (k+j) (by rw[hp,e1]);rw[show((k+j:Nat):Int)-k=J by omega]at this;exact this _ _ _
 ·rw[add64 hA (by omega) (by omega)]
  rw[if_pos (by omega)]at e1;exact ih (j+1) (J+1) (by omega) (by omega) (by omega) (by rw[hp,e1])
def pickI(f:Nat->Nat->Int)(c m k:Nat):Int:=match pick f c (m-k) k with|none=>-1|some i=>(i:Int)-k
theorem idx_ok{h0:AHeap}{oa cp m w k c qb cm:Nat}{bs:Nat->Nat}{f:Nat->Nat->Int}{h:AHeap}(hlow:h.low<=h.next)(t:MatW iC 1 cp h0 h oa bs m w f)(hm:m<=100)(hw:w<=100)(hk:k<m)(hc:c<w){C:Int}{o n:Nat}(eo:o=k)(en:n=m-k)(eC:C=c)(hq:h.readG ⟨qb,0,none⟩ 1=some [.int .i64 C]){Q:Value->AHeap->Prop}
  (hQ:Q (.int .i64 (pickI f c m k)) h):call 70 [.slice (some ⟨oa,o,none⟩) n cm,.func (.func 71) #[] #[.pointer (some ⟨qb,0,none⟩)]] h Q:=by
 refine hA.bodyR Try.func70 r70_ok (hA.alike _ _ _ rfl) hlow (zc ?_);refine zq ?_;rw[e_ofNat hA];refine idx_loop hA hlow t hm hw hk hc eo en eC rfl hq (fun i hi e kn T=>?_) (fun hi kn T=>?_) (m-k) 0 0 (by omega) (by omega) rfl rfl
 ·have:pickI f c m k=(i:Int)-k:=by unfold pickI;rw[hi]
  rw[this]at hQ;refine zc ?_;exact hQ
 ·have:pickI f c m k=-1:=by unfold pickI;rw[hi]
  rw[this]at hQ;refine zc ?_;exact hQ
