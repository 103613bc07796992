import Derived.Test.YtlimjlpjldijdaaCyP
set_option linter.unusedSimpArgs false
set_option linter.unusedVariables false
namespace Go.Proofs.Ytlimjlpjldijdaa
open Go.Sim
set_option maxRecDepth 100000
theorem fr_at{h:AHeap}{a:Option Addr}{n:Nat}{P:List F2}(p:Rows F2.cells 2 h a n P){i:Int}(h0:0<=i)(hi:i<n) :
  ∃b o x y,a=some ⟨b,o,none⟩/\b<h.next/\gt P i=⟨x,y⟩/\h.readG ⟨b,o+i.toNat*2,none⟩ 2=some [.int .i64 x,.int .i64 y]/\h.readG ⟨b,o+i.toNat*2+0,none⟩ 1=some [.int .i64 x]/\h.readG ⟨b,o+i.toNat*2+1,none⟩ 1=some [.int .i64 y]:=by
 obtain⟨b,o,e,h1,h2⟩:=p.at h0 (by have:=p.len;omega);obtain⟨x,y,hx⟩:∃x y,gt P i=⟨x,y⟩:=⟨_,_,rfl⟩;rw[hx]at h2;exact⟨b,o,x,y,e,h1,hx,h2 0 2 (by omega) (by omega),h2 0 1 (by omega) (by omega),h2 1 1 (by omega) (by omega)⟩
variable{F:Prims}{call head arith a0 b0 bnot c0 d0 e0 f0 g0 l0 m0 n0 o0 nz p0 rd wr push next q0 r0 s0 t0 u0 v0 w0 x0 y0 z0 a1 b1 d1 f1 g1 l1 m1 addN lt ne p1 s1 t1 yn u1 w1 z1 a2 b2 c2 d2 f2:_}(hA:AP F ⟨call,head,arith,a0,b0,bnot,c0,d0,e0,f0,g0,l0,m0,n0,o0,nz,p0,rd,wr,push,next,q0,r0,s0,t0,u0,v0,w0,x0,y0,z0,a1,b1,d1,f1,g1,l1,m1,addN,lt,ne,p1,s1,t1,yn,u1,w1,z1,a2,b2,c2,d2,f2⟩)
include hA
theorem seq_loop{y:Nat}{a:Option Addr}{n c:Nat}{N:Int}(hN:N=n){P:List F2}(hn:n<=1000){I:Int->AHeap->Prop}{S:AHeap->Prop}(hI:∀k h,I k h->Rows F2.cells 2 h a n P/\h.low<=h.next)
  (hy:∀(k:Int) (h:AHeap),I k h->0<=k->k<n->∀Q:Value->AHeap->Prop,(∀h',I (k+1) h'->Q (.bool true) h')->(∀h',S h'->Q (.bool false) h')->call (yn y) [.agg #[.int .i64 (gt P k).n,.int .i64 (gt P k).d]] h Q) {Q:Exit->SS->Prop}
  (hend:∀h',I n h'->∀e kn K,Q (.exit 0) ⟨e,kn,K,h'⟩) (hstop:∀h',S h'->∀e kn K,Q .ret ⟨e,kn,K,h'⟩) :
  ∀(m:Nat) (i:Int) (h:AHeap),(n-i).toNat<=m->0<=i->i<=n->I i h->
   head 67 1 0 ⟨[(0,.func (.yield y) #[] #[]),(5,.slice a n c),(6,.int .i64 N),(7,.int .i64 i)],0,[],h⟩ Q:=by
 refine upTo (fun m ih=>?_);intro i h hm i0 i1 hi;by_cases ci:i<n
 rotate_left
 ·have hin:i=n:=by omega
  refine hA.roundR Try.func67 r67_ok (zc ?_);refine br (i<N) (by rw[e_lss hA]) (fun c1=>by omega) (fun c1=>?_)<;>refine zc ?_;exact hend h (by rw[<-hin];exact hi) _ _ _
 obtain⟨m,rfl⟩:∃k,m=k+1:=⟨m-1,by omega⟩
 replace ih:=ih m rfl
 obtain⟨hr,hl⟩:=hI i h hi;obtain⟨b,o,u,v,rfl,hb,hg,r1,_⟩:=fr_at hr i0 ci;have q1:=rd_ok hA r1;have e2:arith .add .i64 i 1=i+1:=add64 hA (by omega) (by omega);refine hA.roundR Try.func67 r67_ok (zc ?_);refine br (i<N) (by rw[e_lss hA]) (fun c1=>?_) (fun c1=>by omega)<;>refine zc ?_;refine zq ?_;have hy':=hy i h hi i0 ci;rw[hg]at hy';refine hy' _ (fun h' hi'=>⟨_,rfl,?_⟩) (fun h' hs=>⟨_,rfl,?_⟩)
 ·refine zc ?_
  rw[show bnot true=false from e_bnot hA true];refine zc ?_;rw[e2];exact ih (i+1) h' (by omega) (by omega) (by omega) hi'
 ·refine zc ?_
  rw[show bnot false=true from e_bnot hA false];refine zc ?_;exact hstop h' hs _ _ _
theorem seq_ok{y bs:Nat}{a:Option Addr}{n c:Nat}{P:List F2}(hn:n<=1000){I:Int->AHeap->Prop}{S:AHeap->Prop}(hI:∀k h,I k h->Rows F2.cells 2 h a n P/\h.low<=h.next)
  (hy:∀(k:Int) (h:AHeap),I k h->0<=k->k<n->∀Q:Value->AHeap->Prop,(∀h',I (k+1) h'->Q (.bool true) h')->(∀h',S h'->Q (.bool false) h')->call (yn y) [.agg #[.int .i64 (gt P k).n,.int .i64 (gt P k).d]] h Q)
  {h:AHeap} (hi:I 0 h) (ho:Own h bs 1 [.slice a n c]) {Q:Value->AHeap->Prop} (hend:∀h',I n h'->Q (.tuple #[]) h') (hstop:∀h',S h'->Q (.tuple #[]) h') :
  call 67 [.func (.yield y) #[] #[],.pointer (some ⟨bs,0,none⟩)] h Q:=by
 have hlow:=(hI 0 h hi).2;have q2:rd h bs 0 1 [.slice a n c]:=rd_at hA (ho.readG (o:=0) (n:=1) (by simp));refine hA.bodyR Try.func67 r67_ok (hA.alike _ _ _ rfl) hlow (zc ?_);refine zq ?_;rw[e_ofNat hA];exact seq_loop hA rfl hn hI hy (fun h' q e kn K=>by refine zc ?_;exact hend h' q) (fun h' q e kn K=>by refine zc ?_;exact hstop h' q) n 0 h (by omega) (by omega) (by omega) hi
omit hA in
theorem mIB:MapT Try.prog 114 intK boolK false:=⟨⟨3,.int .i64,4,by kernel_rfl,keyInt (by kernel_rfl),by kernel_rfl,fun _=>rfl⟩⟩
omit hA in
theorem _root_.Go.Sim.Ext.putB{h h1:AHeap}(k:Ext h h1){b:Nat}(hb:h.next<=b)(x:Blk):Ext h (h1.putB b x):=by
 refine⟨k.next,fun l=>?_,?_,fun i hi=>?_⟩
 ·have:=k.low l
  have h2:Nat.min h1.low b<=h1.low:=Nat.min_le_left _ _;show Nat.min h1.low b<=h1.next;omega
 ·have:=k.lowG
  show Nat.min h.low h.next<=Nat.min h1.low b;have h2:Nat.min h.low h.next<=h.next:=Nat.min_le_right _ _;exact Nat.le_min.2 ⟨this,by omega⟩
 ·show(h1.m.set b _).get i=_
  rw[Tri.get_set_ne _ _ (by omega)];exact k.get i hi
omit hA in
theorem putB_ne{h:AHeap}{b i:Nat}(x:Blk)(hne:i≠b):(h.putB b x).m.get i=h.m.get i:=by
 show(h.m.set b _).get i=_;rw[Tri.get_set_ne _ _ (by omega)]
omit hA in
theorem putB_eq{h:AHeap}{b:Nat}(x:Blk):(h.putB b x).m.get b=some x:=by
 show(h.m.set b _).get b=_;rw[Tri.get_set_eq]
omit hA in
theorem RMap.look{S:Int->Prop}{M:List (Int×Bool)}{R:Int->Bool}(h:RMap S M R)(x:Int):(getL M x).getD false=R x:=by
 rw[h.val];cases c:getL M x with
 |none=>simp
 |some b=>cases b<;>simp
omit hA in
theorem cells_of{h h':AHeap}{a:Option Addr}{n es:Nat}{cells:List Value}(c:Cells h a n es cells)(hn:h.next<=h'.next)(hg:∀ad,a=some ad->h'.m.get ad.block=h.m.get ad.block):Cells h' a n es cells:=by
 cases a with
 |none=>exact c
 |some ad=>
  obtain⟨h1,h2,h3⟩:=c;refine⟨h1,by omega,?_⟩;unfold AHeap.readG AHeap.cells? at h3 ⊢;rw[hg ad rfl];exact h3
omit hA in
theorem find_gt{α:Type}[Inhabited α]{P:List α}{f:α->Bool}{k:Int}(h0:0<=k)(h1:k<P.length)(hk:f (gt P k)=true)(hl:∀j:Int,0<=j->j<k->f (gt P j)=false):P.find? f=some (gt P k):=by
 rw[List.find?_eq_some_iff_getElem];obtain⟨m,rfl⟩:∃m:Nat,k=m:=⟨k.toNat,by omega⟩;have hm:m<P.length:=by omega
 have gm:gt P (m:Int)=P[m]:=by unfold gt;simp[List.getElem?_eq_getElem hm]
 refine⟨hk,m,hm,gm.symm,fun j hj=>?_⟩;have hj':j<P.length:=by omega
 have:=hl j (by omega) (by omega);rw[show gt P (j:Int)=P[j] by unfold gt;simp[List.getElem?_eq_getElem hj']]at this;simp[this]
structure NxI(h0:AHeap)(a':Option Addr)(n:Nat)(P:List F2)(id:Nat)(es:List (Value×Value))(b3 b4 b5 y:Nat)(lb:Blk)(p:F2)(b:Bool)(h:AHeap):Prop where
 ext:Ext h0 h
 rows:Rows F2.cells 2 h a' n P
 map:h.m.get id=some (.map es)
 o3:Own h b3 1 [.map (some id)]
 o4:Own h b4 2 p.cells
 o5:Own h b5 1 [.bool b]
 lp:h.m.get y=some lb
 lt:y<h.next
 low:h.low<=h.next
theorem nx_round{h0:AHeap}(hlow0:h0.low<=h0.next){a':Option Addr}{n:Nat}{P:List F2}{id:Nat}{M:List (Int×Bool)}{S:Int->Prop}{R:Int->Bool}(hR:RMap S M R){b3 b4 b5 Y:Nat}(hb3:h0.next<=b3)(h34:b3<b4)(h45:b4<b5)(h5y:b5<Y)(hfa:∀ad,a'=some ad->ad.block≠b4/\ad.block≠b5/\ad.block<Y)(hidn:id<h0.next){env':Tri Value}{as1 bo1:Code}(hat:RangeAt (progU ()) 70 2 as1 bo1)
  (henv:∀i v,lk [(3,Value.pointer (some ⟨b3,0,none⟩)),(4,.pointer (some ⟨b4,0,none⟩)),(5,.pointer (some ⟨b5,0,none⟩))] i=some v->env'.get i=some v) {h:AHeap} (hB:NxI h0 a' n P id (encE intK boolK M) b3 b4 b5 Y (.loop .ready none 70 Try.f70.ntmps env' [9] as1 bo1) ⟨0,0⟩ false h)
  {p:F2} {Q:Value->AHeap->Prop} (hno:cutP R p=false->∀h',NxI h0 a' n P id (encE intK boolK M) b3 b4 b5 Y (.loop .ready none 70 Try.f70.ntmps env' [9] as1 bo1) ⟨0,0⟩ false h'->Q (.bool true) h')
  (hyes:cutP R p=true->∀h',NxI h0 a' n P id (encE intK boolK M) b3 b4 b5 Y (.loop .done (some .ret) 70 Try.f70.ntmps env' [9] as1 bo1) p true h'->Q (.bool false) h') :
  call (yn Y) [.agg #[.int .i64 p.n,.int .i64 p.d]] h Q:=by
 obtain⟨pn,pd⟩:=p;have hlp:=hB.lp;have hlt:=hB.lt;refine hA.yieldR Try.func70 r70_ok (key:=2) rfl hat hlp henv rfl hB.low ?_;refine zc ?_;simp only[e_next hA,e_push hA];have e1:=Ext.push h 2 [Value.int .i64 0,Value.int .i64 0];have o1:=Own.push h 2 [Value.int .i64 0,Value.int .i64 0];have n1:(h.push 2 [Value.int .i64 0,Value.int .i64 0]).next=h.next+1:=rfl;generalize h.push 2 [Value.int .i64 0,Value.int .i64 0]=h1 at *;obtain⟨b6,hb6⟩:∃v,v=h.next:=⟨_,rfl⟩;rw[<-hb6]at o1 n1 ⊢;obtain⟨h2,w2,o2,k2⟩:=o1.write (o:=0) (vs:=[.int .i64 pn,.int .i64 pd]) (by simp);have o2':Own h2 b6 2 [.int .i64 pn,.int .i64 pd]:=o2;have n2:=k2.next;refine⟨h2,wr_at hA w2,?_⟩;refine zc ?_;have old:∀i,i<h.next->h2.m.get i=h.m.get i:=fun i hi=>by rw[k2.get i (by omega),e1.get i hi]
 have hlp2:h2.m.get Y=some (.loop .ready none 70 Try.f70.ntmps env' [9] as1 bo1):=by rw[old Y hlt];exact hlp
 refine⟨none,70,Try.f70.ntmps,env',[9],as1,bo1,hlp2,?_⟩;obtain⟨h3,hh3⟩:∃v,v=h2.putB Y (.loop .busy none 70 Try.f70.ntmps env' [9] as1 bo1):=⟨_,rfl⟩;have g3:∀i,i≠Y->h3.m.get i=h2.m.get i:=fun i hi=>by rw[hh3];exact putB_ne _ hi
 have g3y:h3.m.get Y=some (.loop .busy none 70 Try.f70.ntmps env' [9] as1 bo1):=by rw[hh3];exact putB_eq _
 have n3:h3.next=h2.next:=by rw[hh3];rfl
 have on:=hB.ext.next;have x3:Ext h0 h3:=by rw[hh3];exact(k2.ext (hB.ext.trans e1) (by omega)).putB (by omega) _
 rw[<-hh3];have q3:Own h3 b3 1 [.map (some id)]:=by unfold Own;rw[g3 _ (by omega),old _ (by omega)];exact hB.o3
 have q4:Own h3 b4 2 [.int .i64 0,.int .i64 0]:=by unfold Own;rw[g3 _ (by omega),old _ (by omega)];exact hB.o4
 have q5:Own h3 b5 1 [.bool false]:=by unfold Own;rw[g3 _ (by omega),old _ (by omega)];exact hB.o5
 have q6:Own h3 b6 2 [.int .i64 pn,.int .i64 pd]:=by unfold Own;rw[g3 _ (by omega)];exact o2'
 have qm:h3.m.get id=some (.map (encE intK boolK M)):=by rw[g3 _ (by omega),old _ (by omega)];exact hB.map
 have r3:rd h3 b3 0 1 [.map (some id)]:=rd_at hA (q3.readG (o:=0) (n:=1) (by simp));have r6:rd h3 b6 (addN 0 0) 1 [.int .i64 pn]:=rd_fld0 hA (q6.readG (o:=0+0) (n:=1) (by simp));have r7:rd h3 b6 (addN 0 1) 1 [.int .i64 pd]:=rd_fld0 hA (q6.readG (o:=0+1) (n:=1) (by simp));have r8:rd h3 b6 0 2 [.int .i64 pn,.int .i64 pd]:=rd_at hA (q6.readG (o:=0) (n:=2) (by simp));refine zq ?_;obtain⟨v1,hv1⟩:∃z,z=R pn:=⟨_,rfl⟩;obtain⟨v2,hv2⟩:∃z,z=R pd:=⟨_,rfl⟩;refine⟨v1,(getL M pn).isSome,(e_mget hA _ _ _ _ _ _).mpr (by rw[hv1,<-hR.look];exact look_enc mIB qm pn),?_⟩;refine zq ?_;refine⟨v2,(getL M pd).isSome,(e_mget hA _ _ _ _ _ _).mpr (by rw[hv2,<-hR.look];exact look_enc mIB qm pd),?_⟩;refine zq ?_;refine br (cutP R ⟨pn,pd⟩=true) (by rw[e_bnot hA,e_bsame hA,hv1,hv2];unfold cutP;cases R pn<;>cases R pd<;>rfl) (fun c=>?_) (fun c=>?_)<;>refine zc ?_
 ·refine zq ?_
  obtain⟨h4,w4,o4,k4⟩:=q4.write (o:=0) (vs:=[.int .i64 pn,.int .i64 pd]) (by simp);refine⟨h4,wr_at hA w4,?_⟩;refine zc ?_;obtain⟨h5,w5,o5,k5⟩:=(k4.own q5 (by omega)).write (o:=0) (vs:=[.bool true]) (by simp);refine⟨h5,wr_at hA w5,?_⟩;refine zc ?_;have n4:=k4.next;have n5:=k5.next;have g5:∀i,i≠b4->i≠b5->h5.m.get i=h3.m.get i:=fun i i1 i2=>by rw[k5.get i i2,k4.get i i1]
  have g5y:h5.m.get Y=some (.loop .busy none 70 Try.f70.ntmps env' [9] as1 bo1):=by rw[g5 Y (by omega) (by omega)];exact g3y
  have x5:Ext h0 h5:=k5.ext (k4.ext x3 (by omega)) (by omega);refine⟨some .ret,.bool false,h5.putB Y (.loop .done (some .ret) 70 Try.f70.ntmps env' [9] as1 bo1),rfl,by unfold roundEnd;rw[g5y];rfl,hyes c _ ?_⟩;have gg:∀i,i<h.next->i≠b4->i≠b5->i≠Y->(h5.putB Y (.loop .done (some .ret) 70 Try.f70.ntmps env' [9] as1 bo1)).m.get i=h.m.get i:=fun i i1 i2 i3 i4=>by rw[putB_ne _ i4,g5 i i2 i3,g3 i i4,old i i1]
  refine { ext:=x5.putB (by omega) _,rows:=⟨?_,hB.rows.each,hB.rows.pos⟩,map:=?_,o3:=?_,o4:=?_,o5:=?_,lp:=putB_eq _,lt:=by show Y<h5.next;omega,low:=?_ }
  ·refine cells_of (h:=h) hB.rows.cells (by show h.next<=h5.next;omega) (fun ad had=>gg _ ?_ (hfa ad had).1 (hfa ad had).2.1 (by have:=(hfa ad had).2.2;omega))
   have:=(hfa ad had).2.2;omega
  ·rw[gg id (by omega) (by omega) (by omega) (by omega)];exact hB.map
  ·unfold Own;rw[gg b3 (by omega) (by omega) (by omega) (by omega)];exact hB.o3
  ·unfold Own;rw[putB_ne _ (by omega),k5.get b4 (by omega)];exact o4
  ·unfold Own;rw[putB_ne _ (by omega)];exact o5
  ·have:=(x5.putB (b:=Y) (by omega) (.loop .done (some .ret) 70 Try.f70.ntmps env' [9] as1 bo1)).lowOK hlow0;exact this
 ·refine zc ?_
  refine⟨none,.bool true,h3.putB Y (.loop .ready none 70 Try.f70.ntmps env' [9] as1 bo1),rfl,by unfold roundEnd;rw[g3y];rfl,hno (by simpa using c) _ ?_⟩;have gg:∀i,i<h.next->i≠Y->(h3.putB Y (.loop .ready none 70 Try.f70.ntmps env' [9] as1 bo1)).m.get i=h.m.get i:=fun i i1 i4=>by rw[putB_ne _ i4,g3 i i4,old i i1]
  refine { ext:=x3.putB (by omega) _,rows:=⟨?_,hB.rows.each,hB.rows.pos⟩,map:=?_,o3:=?_,o4:=?_,o5:=?_,lp:=putB_eq _,lt:=by show Y<h3.next;omega,low:=?_ }
  ·refine cells_of (h:=h) hB.rows.cells (by show h.next<=h3.next;omega) (fun ad had=>gg _ ?_ (by have:=(hfa ad had).2.2;omega))
   have:=(hfa ad had).2.2;omega
  ·rw[gg id (by omega) (by omega)];exact hB.map
  ·unfold Own;rw[gg b3 (by omega) (by omega)];exact hB.o3
  ·unfold Own;rw[gg b4 (by omega) (by omega)];exact hB.o4
  ·unfold Own;rw[gg b5 (by omega) (by omega)];exact hB.o5
  ·exact(x3.putB (b:=Y) (by omega) _).lowOK hlow0
theorem cnext_ok{h:AHeap}(hlow:h.low<=h.next){a:Option Addr}{n c:Nat}{l:List Vk}(hl:Vs h a n l)(hs:stOK l)(hn:n<=1000){P:List F2}(hP:Bas l P)(hd:(l.map Vk.pr).Nodup){id:Nat}(hid:id<h.next){M:List (Int×Bool)}(hm:h.m.get id=some (.map (encE intK boolK M))){S:Int->Prop}{R:Int->Bool}(hR:RMap S M R){Q:Value->AHeap->Prop}
  (hno:∀h',P.find? (cutP R)=none->Ext h h'->Q (.tuple #[.agg #[.int .i64 0,.int .i64 0],.bool false]) h') (hyes:∀h' p,P.find? (cutP R)=some p->Ext h h'->Q (.tuple #[.agg #[.int .i64 p.n,.int .i64 p.d],.bool true]) h') :
  call 70 [.slice a n c,.map (some id)] h Q:=by
 refine hA.bodyR Try.func70 r70_ok (hA.alike _ _ _ rfl) hlow (zc ?_);simp only[e_next hA,e_push hA];have x1:=Ext.push h 1 [.map (some id)];have o1:=Own.push h 1 [.map (some id)];have n1:(h.push 1 [.map (some id)]).next=h.next+1:=rfl;generalize h.push 1 [.map (some id)]=h1 at *;have x2:=Ext.push h1 2 [.int .i64 0,.int .i64 0];have o2:=Own.push h1 2 [.int .i64 0,.int .i64 0];have n2:(h1.push 2 [.int .i64 0,.int .i64 0]).next=h.next+2:=by show h1.next+1=_;omega
 generalize h1.push 2 [.int .i64 0,.int .i64 0]=h2 at *;have x3:=Ext.push h2 1 [.bool false];have o3:=Own.push h2 1 [.bool false];have n3:(h2.push 1 [.bool false]).next=h.next+3:=by show h2.next+1=_;omega
 generalize h2.push 1 [.bool false]=h3 at *;obtain⟨b3,hb3⟩:∃z,z=h.next:=⟨_,rfl⟩;obtain⟨b4,hb4⟩:∃z,z=h1.next:=⟨_,rfl⟩;obtain⟨b5,hb5⟩:∃z,z=h2.next:=⟨_,rfl⟩;have xx3:=(x1.trans x2).trans x3;rw[<-hb3,<-hb4,<-hb5];rw[<-hb3]at o1;rw[<-hb4]at o2;rw[<-hb5]at o3;refine baselines_ok hA (xx3.lowOK hlow) (hl.ext xx3) hs hn (fun h4 bs a' c' P' o4 r4 hp hso hbs hbs2 hf hne x4=>?_);obtain rfl:P=P':=hP.uniq hs (bas_of hl.len hp hso hd hs);refine⟨_,rfl,?_⟩;refine zc ?_;have xx4:=xx3.trans x4;have p3:Own h4 b3 1 [.map (some id)]:=((o1.ext x2 (by omega)).ext x3 (by omega)).ext x4 (by omega);have p4:Own h4 b4 2 [.int .i64 0,.int .i64 0]:=(o2.ext x3 (by omega)).ext x4 (by omega);have p5:Own h4 b5 1 [.bool false]:=o3.ext x4 (by omega);have m4:h4.m.get id=some (.map (encE intK boolK M)):=by rw[xx4.get id hid];exact hm
 have nx4:=x4.next;have lo4:h4.low<=h4.next:=xx4.lowOK hlow;refine hA.rangeR Try.func70 r70_ok (key:=2) rfl (s:=⟨_,_,_,h4⟩) (g:=67) rfl (by kernel_rfl) (fun env' as1 bo1 hat henv=>?_);have henv':∀i v,lk [(3,Value.pointer (some ⟨b3,0,none⟩)),(4,.pointer (some ⟨b4,0,none⟩)),(5,.pointer (some ⟨b5,0,none⟩))] i=some v->env'.get i=some v:=by
  intro i v hv;have:=lk_mem hv;simp only[List.mem_cons,List.not_mem_nil,or_false,pj]at this;rcases this with ⟨rfl,rfl⟩|⟨rfl,rfl⟩|⟨rfl,rfl⟩
  ·exact henv _ _ rfl rfl
  ·exact henv _ _ rfl rfl
  ·exact henv _ _ rfl rfl
 obtain⟨Y,hY⟩:∃z,z=h4.next:=⟨_,rfl⟩;have hgb:∀b,b<h4.next->(h4.pushB (.loop .ready none 70 Try.f70.ntmps env' [9] as1 bo1)).m.get b=h4.m.get b:=fun b hb=>by
  simp only[AHeap.pushB];rw[Tri.get_set_ne _ _ (by omega)]
 have hgx:Ext h4 (h4.pushB (.loop .ready none 70 Try.f70.ntmps env' [9] as1 bo1)):=
  ⟨Nat.le_succ _,fun l=>by show h4.low<=h4.next+1;omega,Nat.min_le_left _ _,hgb⟩
 have lt4:∀ad,a'=some ad->ad.block<h4.next:=fun ad had=>by have:=r4.cells;rw[had]at this;exact this.2.1
 have frm:∀ad,a'=some ad->ad.block≠b4/\ad.block≠b5/\ad.block<Y:=fun ad had=>by have:=hf ad had;have:=lt4 ad had;omega
 have hB:NxI h a' n P id (encE intK boolK M) b3 b4 b5 Y (.loop .ready none 70 Try.f70.ntmps env' [9] as1 bo1) ⟨0,0⟩ false (h4.pushB (.loop .ready none 70 Try.f70.ntmps env' [9] as1 bo1)):=
  { ext:=xx4.trans hgx,rows:=r4.ext hgx,map:=by rw[hgb id (by omega)];exact m4,o3:=p3.ext hgx (by omega),o4:=p4.ext hgx (by omega),o5:=p5.ext hgx (by omega),lp:=by simp only[AHeap.pushB];rw[hY,Tri.get_set_eq],lt:=by show Y<h4.next+1;omega,low:=by show h4.low<=h4.next+1;omega }
 show call 67 [.func (.yield h4.next) #[] #[],.pointer (some ⟨bs,0,none⟩)] (h4.pushB (.loop .ready none 70 Try.f70.ntmps env' [9] as1 bo1)) _;rw[<-hY];have len:=hP;refine seq_ok hA (n:=n) (a:=a') (c:=c') (P:=P) hn (I:=fun k h'=>NxI h a' n P id (encE intK boolK M) b3 b4 b5 Y (.loop .ready none 70 Try.f70.ntmps env' [9] as1 bo1) ⟨0,0⟩ false h'/\∀j:Int,0<=j->j<k->cutP R (gt P j)=false)
  (S:=fun h'=>∃k:Int,0<=k/\k<n/\(∀j:Int,0<=j->j<k->cutP R (gt P j)=false)/\cutP R (gt P k)=true/\NxI h a' n P id (encE intK boolK M) b3 b4 b5 Y (.loop .done (some .ret) 70 Try.f70.ntmps env' [9] as1 bo1) (gt P k) true h')
  (fun k h' hI=>⟨hI.1.rows,hI.1.low⟩) (fun k h' hI k0 k1 Q' y1 y2=>?_) (bs:=bs) ⟨hB,fun j j0 j1=>by omega⟩ (o4.ext hgx (by omega)) (fun h' hI=>?_) (fun h' hS=>?_)
 ·exact nx_round hA hlow hR (by omega) (by omega) (by omega) (by omega) frm (by omega) hat henv' hI.1 (p:=gt P k) (fun cp h'' hB'=>y1 h'' ⟨hB',fun j j0 j1=>by
   by_cases e:j=k
   ·rw[e];exact cp
   ·exact hI.2 j j0 (by omega)⟩) (fun cp h'' hB'=>y2 h'' ⟨k,k0,k1,hI.2,cp,hB'⟩)
 ·obtain⟨hI1,hI2⟩:=hI
  have pn:∀i,i≠Y->(h'.putB h4.next .dead).m.get i=h'.m.get i:=fun i hi=>putB_ne _ (by omega)
  refine⟨.ready,none,.normal,⟨⟨70,Try.f70.ntmps,env',[9],as1,bo1,by show h'.m.get h4.next=_;rw[<-hY];exact hI1.lp⟩⟩,.inl rfl,rfl,?_⟩;generalize hH:h'.putB h4.next .dead=hz;rw[hH]at pn;have on:=hI1.ext.next;have nz:hz.next=h'.next:=by rw[<-hH];rfl
  have xz:Ext h hz:=by rw[<-hH];exact hI1.ext.putB (by omega) _
  have z4:Own hz b4 2 [.int .i64 0,.int .i64 0]:=by unfold Own;rw[pn _ (by omega)];exact hI1.o4
  have z5:Own hz b5 1 [.bool false]:=by unfold Own;rw[pn _ (by omega)];exact hI1.o5
  have hnone:P.find? (cutP R)=none:=by
   rw[List.find?_eq_none];intro x hx;obtain⟨j,j0,j1,rfl⟩:=mem_gt hx;rw[hI2 j j0 (by rw[<-r4.len];exact j1)];simp
  refine zc ?_;obtain⟨h6,w6,o6,k6⟩:=z4.write (o:=0) (vs:=[.int .i64 0,.int .i64 0]) (by simp);refine⟨h6,wr_at hA w6,?_⟩;refine zc ?_;obtain⟨h7,w7,o7,k7⟩:=(k6.own z5 (by omega)).write (o:=0) (vs:=[.bool false]) (by simp);refine⟨h7,wr_at hA w7,?_⟩;have n6:=k6.next;have o6':Own h7 b4 2 [.int .i64 0,.int .i64 0]:=k7.own o6 (by omega);have x7:Ext h h7:=k7.ext (k6.ext xz (by omega)) (by omega);have q4:rd h7 b4 0 2 [.int .i64 0,.int .i64 0]:=rd_at hA (o6'.readG (o:=0) (n:=2) (by simp));have q5:rd h7 b5 0 1 [.bool false]:=rd_at hA (o7.readG (o:=0) (n:=1) (by simp));refine zq ?_;exact hno _ hnone x7
 ·obtain⟨k,k0,k1,hI2,hcut,hI1⟩:=hS
  have pn:∀i,i≠Y->(h'.putB h4.next .dead).m.get i=h'.m.get i:=fun i hi=>putB_ne _ (by omega)
  refine⟨.done,some .ret,.ret,⟨⟨70,Try.f70.ntmps,env',[9],as1,bo1,by show h'.m.get h4.next=_;rw[<-hY];exact hI1.lp⟩⟩,.inr rfl,rfl,?_⟩;generalize hH:h'.putB h4.next .dead=hz;rw[hH]at pn;have on:=hI1.ext.next;have nz:hz.next=h'.next:=by rw[<-hH];rfl
  have xz:Ext h hz:=by rw[<-hH];exact hI1.ext.putB (by omega) _
  have z4:Own hz b4 2 (gt P k).cells:=by unfold Own;rw[pn _ (by omega)];exact hI1.o4
  have z5:Own hz b5 1 [.bool true]:=by unfold Own;rw[pn _ (by omega)];exact hI1.o5
  have q4:rd hz b4 0 2 [.int .i64 (gt P k).n,.int .i64 (gt P k).d]:=rd_at hA (z4.readG (o:=0) (n:=2) (by simp[F2.cells]));have q5:rd hz b5 0 1 [.bool true]:=rd_at hA (z5.readG (o:=0) (n:=1) (by simp));refine zq ?_;exact hyes _ _ (find_gt k0 (by have:=r4.len;omega) hcut hI2) xz
