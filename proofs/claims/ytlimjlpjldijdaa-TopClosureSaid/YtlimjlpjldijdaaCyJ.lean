import Derived.Test.YtlimjlpjldijdaaCyG
set_option linter.unusedSimpArgs false
set_option linter.unusedVariables false
namespace Go.Proofs.Ytlimjlpjldijdaa
open Go.Sim
set_option maxRecDepth 100000
theorem mPB:MapT Try.prog 87 pairK boolK false:=⟨⟨89,(Try.prog.underlying 89).getD (.int .i64),4,by kernel_rfl,keyPair (by kernel_rfl) (by kernel_rfl) (by kernel_rfl),by kernel_rfl,fun _=>rfl⟩⟩
deriving instance DecidableEq for F2
def onK(t:List F2):List ((Int×Int)×Bool):=t.map fun p=>(p.t,true)
theorem F2.t_inj{p q:F2}(h:p.t=q.t):p=q:=by
 obtain⟨a,b⟩:=p;obtain⟨c,d⟩:=q;simp only[F2.t,pj]at h;rw[h.1,h.2]
theorem onK_get{t:List F2}{p:F2}:(getL (onK t) p.t).getD false=decide (p∈t):=by
 induction t with
 |nil=>simp[onK,getL]
 |cons q t ih=>
  show(getL ((q.t,true) :: onK t) p.t).getD false=_;simp only[getL];by_cases c:q.t=p.t
  ·rw[if_pos c,F2.t_inj c];simp
  ·rw[if_neg c,ih]
   have:p≠q:=fun e=>c (by rw[e])
   simp[this]
theorem onK_none{t:List F2}{p:F2}(h:p∉t):getL (onK t) p.t=none:=by
 rw[getL_none];intro e he;obtain⟨q,hq,rfl⟩:=List.mem_map.1 he;exact fun c=>h (by rw[<-F2.t_inj c];exact hq)
theorem grows_nodup:∀{T:List (Int×Int)},grows T=true->T.Nodup
 | [],_=>List.nodup_nil
 |(a,b) :: T,h=>by
  have h':=h;simp only[grows,Bool.and_eq_true,Bool.or_eq_true,Bool.not_eq_true']at h';refine List.nodup_cons.2 ⟨fun hm=>?_,grows_nodup h'.2⟩;rcases h'.1.2 with c|c
  ·rw[hasV_mem.2 ⟨_,hm,.inl rfl⟩]at c;cases c
  ·rw[hasV_mem.2 ⟨_,hm,.inr rfl⟩]at c;cases c
theorem Parts.nodup{P:List F2}{S:Int->Prop}{t:List F2}{k:Int}(h:Parts P S (fun _=>false) [] 0 t k):t.Nodup:=by
 have h1:=(h.grows rfl (fun x hx=>by cases hx)).1;have h2:=grows_nodup h1;unfold trT at h2;have h3:=List.pairwise_reverse.1 h2;exact List.Pairwise.of_map _ (fun a b hab e=>hab (by rw[e])) h3
variable{F:Prims}{call head arith a0 b0 c0 d0 e0 f0 g0 j0 l0 m0 n0 o0 nz p0 rd wr push next q0 r0 s0 t0 u0 v0 w0 x0 y0 z0 a1 b1 d1 f1 g1 j1 l1 m1 lt ne s1 t1 u1 yn w1 b2 d2 f2 g2 j2 l2 m2:_}(hA:AP F ⟨call,head,arith,a0,b0,c0,d0,e0,f0,g0,j0,l0,m0,n0,o0,nz,p0,rd,wr,push,next,q0,r0,s0,t0,u0,v0,w0,x0,y0,z0,a1,b1,d1,f1,g1,j1,l1,m1,lt,ne,s1,t1,u1,yn,w1,b2,d2,f2,g2,j2,l2,m2⟩)
include hA
theorem jn_loop{h0:AHeap}{a:Option Addr}{n c:Nat}{N:Int}(hN:N=n){t:List F2}(hl:Rows F2.cells 2 h0 a n t)(hn:n<=1000)(hnd:t.Nodup){id:Nat}(hid0:h0.next<=id){Q:Exit->SS->Prop}
  (hQ:∀h',h'.m.get id=some (.map (encE pairK boolK (onK t)))->Ext h0 h'->id<h'.next->Q (.exit 0) ⟨[(5,.map (some id))],0,[],h'⟩) :
  ∀(m:Nat) (i:Int) (h:AHeap),(n-i).toNat<=m->0<=i->i<=n->h.m.get id=some (.map (encE pairK boolK (onK (t.take i.toNat))))->Ext h0 h->id<h.next->
   head 47 4 0 ⟨[(5,.map (some id)),(14,.slice a n c),(15,.int .i64 N),(16,.int .i64 i)],0,[],h⟩ Q:=by
 have hlen:=hl.len;refine upTo (fun m ih=>?_);intro i h hm i0 i1 hg he hb;by_cases ci:i<n
 rotate_left
 ·refine hA.roundR Try.func47 r47_ok (zc ?_)
  refine br (i<N) (by rw[e_lss hA]) (fun c1=>by omega) (fun c1=>?_)<;>refine zc ?_;rw[List.take_of_length_le (by omega)]at hg;exact hQ h hg he hb
 obtain⟨m,rfl⟩:∃k,m=k+1:=⟨m-1,by omega⟩
 replace ih:=ih m rfl
 obtain⟨bb,o,x,y,rfl,hbb,hgt,r1,_⟩:=fr_at (hl.ext he) (i:=i) i0 ci;have q1:=rd_ok hA r1;have e2:arith .add .i64 i 1=i+1:=add64 hA (by omega) (by omega);have htk:=gt_take t i0 (by omega);rw[hgt]at htk;have hnot:(⟨x,y⟩:F2)∉t.take i.toNat:=fun hm=>by
  have hnd':(t.take (i+1).toNat).Nodup:=hnd.sublist (List.take_sublist _ _);rw[htk,List.nodup_append]at hnd';exact hnd'.2.2 _ hm _ (List.mem_singleton.2 rfl) rfl
 refine hA.roundR Try.func47 r47_ok (zc ?_);refine br (i<N) (by rw[e_lss hA]) (fun c1=>?_) (fun c1=>by omega)<;>refine zc ?_;refine zq ?_;obtain⟨M1,p1,p2,p3,p4⟩:=put_enc mPB hg (F2.t ⟨x,y⟩) true;have p5:=p3 (onK_none hnot);obtain⟨h1,hh1⟩:∃z,z=h.putB id (.map (encE pairK boolK M1)):=⟨_,rfl⟩;rw[<-hh1]at p1;refine⟨h1,(e_mput hA _ _ _ _ _ _).mpr p1,?_⟩;refine zc ?_;rw[e2];refine ih (i+1) h1 (by omega) (by omega) (by omega) ?_ (by rw[hh1];exact he.putB hid0 _) (by rw[hh1];exact hb);rw[hh1,putB_eq,p5,htk];unfold onK;rw[List.map_append];rfl
theorem joins_ok(hW:LW F){h:AHeap}(hlow:h.low<=h.next){a:Option Addr}{n c:Nat}{l:List Vk}(hl:Vs h a n l)(hs:stOK l)(hn:n<=1000){P:List F2}(hP:Bas l P)(hd:(l.map Vk.pr).Nodup){Q:Value->AHeap->Prop}
  (hQ:∀t h' id pk,Parts P (stS l) (fun _=>false) [] 0 t pk->h'.m.get id=some (.map (encE pairK boolK (onK t)))->Ext h h'->h.next<=id->id<h'.next->t.length<=8->Q (.map (some id)) h') :
  call 47 [.slice a n c] h Q:=by
 refine hA.bodyR Try.func47 r47_ok (hA.alike _ _ _ rfl) hlow (zc ?_);refine grow_ok hA hW hlow hl hs hn hP hd (fun t h1 a' k c' pk q1 q2 q3 q4 q5 q6 q7 q8=>?_);refine⟨_,_,_,_,rfl,?_⟩;refine zc ?_;simp only[e_next hA,e_ofNat hA,e_mnew hA];refine jn_loop hA rfl (h0:=h1) ⟨q2.cells,f2_len,by omega⟩ (by omega) q1.nodup (Nat.le_refl _) (fun h' y1 y2 y3=>?_) k 0 _ (by omega) (by omega) (by omega) (pushB_eq _ _) (.pushB _ _) (by show h1.next<h1.next+1;omega);refine zc ?_;exact hQ t h' _ pk q1 y1 (q4.trans y2) q4.next y3 (by omega)
structure CdI(h0:AHeap)(a':Option Addr)(n:Nat)(P:List F2)(id:Nat)(es:List (Value×Value))(b3 b5 y:Nat)(lb:Blk)(out:List F2)(h:AHeap):Prop where
 ext:Ext h0 h
 rows:Rows F2.cells 2 h a' n P
 map:h.m.get id=some (.map es)
 o3:Own h b3 1 [.map (some id)]
 out:∃a2 k2 c2,Own h b5 1 [.slice a2 k2 c2]/\Apd h 2 a2 k2 c2 (out.flatMap F2.cells)/\From (y+1) a2/\out.length=k2
 lp:h.m.get y=some lb
 lt:y<h.next
 low:h.low<=h.next
def chK(t out:List F2)(p:F2):List F2:=if p∈t then out else out++[p]
omit hA in
theorem cells_of'{h h':AHeap}{a:Option Addr}{n es:Nat}{cells:List Value}(c:Cells h a n es cells)(hg:∀ad,a=some ad->ad.block<h'.next/\h'.m.get ad.block=h.m.get ad.block):Cells h' a n es cells:=by
 cases a with
 |none=>exact c
 |some ad=>
  obtain⟨h1,h2,h3⟩:=c;refine⟨h1,(hg ad rfl).1,?_⟩;unfold AHeap.readG AHeap.cells? at h3 ⊢;rw[(hg ad rfl).2];exact h3
theorem cd_round{h0:AHeap}(hlow0:h0.low<=h0.next){a':Option Addr}{n:Nat}{P:List F2}{id:Nat}{t:List F2}{b3 b5 Y:Nat}(hb3:h0.next<=b3)(h35:b3<b5)(h5y:b5<Y)(hfa:∀ad,a'=some ad->ad.block≠b5/\ad.block<Y)(hidn:id<h0.next){env':Tri Value}{as1 bo1:Code}(hat:RangeAt (progU ()) 46 3 as1 bo1)
  (henv:∀i v,lk [(3,Value.pointer (some ⟨b3,0,none⟩)),(5,.pointer (some ⟨b5,0,none⟩))] i=some v->env'.get i=some v) {out:List F2} (hout:out.length<=1000) {h:AHeap} (hB:CdI h0 a' n P id (encE pairK boolK (onK t)) b3 b5 Y (.loop .ready none 46 Try.f46.ntmps env' [9] as1 bo1) out h)
  {p:F2} {Q:Value->AHeap->Prop} (hQ:∀h',CdI h0 a' n P id (encE pairK boolK (onK t)) b3 b5 Y (.loop .ready none 46 Try.f46.ntmps env' [9] as1 bo1) (chK t out p) h'->Q (.bool true) h') :
  call (yn Y) [.agg #[.int .i64 p.n,.int .i64 p.d]] h Q:=by
 obtain⟨pn,pd⟩:=p;have hlp:=hB.lp;have hlt:=hB.lt;refine hA.yieldR Try.func46 r46_ok (key:=3) rfl hat hlp henv rfl hB.low ?_;refine zc ?_;simp only[e_next hA,e_push hA];have e1:=Ext.push h 2 [Value.int .i64 0,Value.int .i64 0];have o1:=Own.push h 2 [Value.int .i64 0,Value.int .i64 0];have n1:(h.push 2 [Value.int .i64 0,Value.int .i64 0]).next=h.next+1:=rfl;generalize h.push 2 [Value.int .i64 0,Value.int .i64 0]=h1 at *;obtain⟨b6,hb6⟩:∃v,v=h.next:=⟨_,rfl⟩;rw[<-hb6]at o1 n1 ⊢;obtain⟨h2,w2,o2,k2⟩:=o1.write (o:=0) (vs:=[.int .i64 pn,.int .i64 pd]) (by simp);have o2':Own h2 b6 2 [.int .i64 pn,.int .i64 pd]:=o2;have n2:=k2.next;refine⟨h2,wr_at hA w2,?_⟩;refine zc ?_;have old:∀i,i<h.next->h2.m.get i=h.m.get i:=fun i hi=>by rw[k2.get i (by omega),e1.get i hi]
 have hlp2:h2.m.get Y=some (.loop .ready none 46 Try.f46.ntmps env' [9] as1 bo1):=by rw[old Y hlt];exact hlp
 refine⟨none,46,Try.f46.ntmps,env',[9],as1,bo1,hlp2,?_⟩;obtain⟨h3,hh3⟩:∃v,v=h2.putB Y (.loop .busy none 46 Try.f46.ntmps env' [9] as1 bo1):=⟨_,rfl⟩;have g3:∀i,i≠Y->h3.m.get i=h2.m.get i:=fun i hi=>by rw[hh3];exact putB_ne _ hi
 have g3y:h3.m.get Y=some (.loop .busy none 46 Try.f46.ntmps env' [9] as1 bo1):=by rw[hh3];exact putB_eq _
 have n3:h3.next=h2.next:=by rw[hh3];rfl
 have on:=hB.ext.next;have x3:Ext h0 h3:=by rw[hh3];exact(k2.ext (hB.ext.trans e1) (by omega)).putB (by omega) _
 rw[<-hh3];obtain⟨a2,kk,c2,z1,z2,z3,z4⟩:=hB.out;have q3:Own h3 b3 1 [.map (some id)]:=by unfold Own;rw[g3 _ (by omega),old _ (by omega)];exact hB.o3
 have q5:Own h3 b5 1 [.slice a2 kk c2]:=by unfold Own;rw[g3 _ (by omega),old _ (by omega)];exact z1
 have q6:Own h3 b6 2 [.int .i64 pn,.int .i64 pd]:=by unfold Own;rw[g3 _ (by omega)];exact o2'
 have qm:h3.m.get id=some (.map (encE pairK boolK (onK t))):=by rw[g3 _ (by omega),old _ (by omega)];exact hB.map
 have qo:Apd h3 2 a2 kk c2 (out.flatMap F2.cells):=z2.of_get (by omega) (fun ad had hl=>by have:=z3 ad had;rw[g3 _ (by omega),old _ hl]);have r3:rd h3 b3 0 1 [.map (some id)]:=rd_at hA (q3.readG (o:=0) (n:=1) (by simp));have r8:rd h3 b6 0 2 [.int .i64 pn,.int .i64 pd]:=rd_at hA (q6.readG (o:=0) (n:=2) (by simp));have r5:rd h3 b5 0 1 [.slice a2 kk c2]:=rd_at hA (q5.readG (o:=0) (n:=1) (by simp));refine zq ?_;obtain⟨v1,hv1⟩:∃z,z=decide ((⟨pn,pd⟩:F2)∈t):=⟨_,rfl⟩;refine⟨v1,(getL (onK t) (pn,pd)).isSome,(e_mget hA _ _ _ _ _ _).mpr (by rw[hv1,<-onK_get];exact look_enc mPB qm (pn,pd)),?_⟩;refine zq ?_;refine br (v1=false) (by rw[e_bnot hA];cases v1<;>rfl) (fun c=>?_) (fun c=>?_)<;>refine zc ?_
 ·refine zq ?_
  obtain⟨hB',hhB⟩:∃z:AHeap,z = { next:=Y+1,low:=h3.low,m:=h3.m }:=⟨_,rfl⟩;have xB:Ext hB' h3:=by rw[hhB];exact ext_cut (by omega)
  have nB:hB'.next=Y+1:=by rw[hhB]
  have hk:kk<=100000:=by omega
  refine appR_ok hA TP2 f2_len (by omega) f2_ok' (v:=⟨pn,pd⟩) qo hk (fun a4 c4 h4 hp4 hx=>?_);obtain⟨xB4,hf4⟩:=hx hB' xB (by rw[nB];exact z3);rw[nB]at hf4;obtain⟨x4,_⟩:=hx h0 x3 (fun ad had=>by have:=z3 ad had;omega);have n4:=xB4.next;have q54:Own h4 b5 1 [.slice a2 kk c2]:=by unfold Own;rw[xB4.get b5 (by omega),hhB];exact q5
  obtain⟨h5,w5,o5,k5⟩:=q54.write (o:=0) (vs:=[.slice a4 (kk+1) c4]) (by simp);refine⟨h5,wr_at hA w5,?_⟩;refine zc ?_;have n5:=k5.next;have g5:∀i,i<Y+1->i≠b5->h5.m.get i=h3.m.get i:=fun i i1 i2=>by rw[k5.get i i2,xB4.get i (by omega),hhB]
  have g5y:h5.m.get Y=some (.loop .busy none 46 Try.f46.ntmps env' [9] as1 bo1):=by rw[g5 Y (by omega) (by omega)];exact g3y
  have x5:Ext h0 h5:=k5.ext x4 (by omega);refine⟨none,.bool true,h5.putB Y (.loop .ready none 46 Try.f46.ntmps env' [9] as1 bo1),rfl,by unfold roundEnd;rw[g5y];rfl,hQ _ ?_⟩;have gg:∀i,i<Y->i≠b5->(h5.putB Y (.loop .ready none 46 Try.f46.ntmps env' [9] as1 bo1)).m.get i=h.m.get i:=fun i i1 i2=>by rw[putB_ne _ (by omega),g5 i (by omega) i2,g3 i (by omega),old i (by omega)]
  refine { ext:=x5.putB (by omega) _,rows:=⟨?_,hB.rows.each,hB.rows.pos⟩,map:=?_,o3:=?_,out:=?_,lp:=putB_eq _,lt:=by show Y<h5.next;omega,low:=(x5.putB (by omega) _).lowOK hlow0 }
  ·exact cells_of' (h:=h) hB.rows.cells (fun ad had=>⟨by show ad.block<h5.next;have:=(hfa ad had).2;omega,gg _ (hfa ad had).2 (hfa ad had).1⟩)
  ·rw[gg id (by omega) (by omega)];exact hB.map
  ·unfold Own;rw[gg b3 (by omega) (by omega)];exact hB.o3
  ·refine⟨a4,kk+1,c4,by unfold Own;rw[putB_ne _ (by omega)];exact o5,?_,hf4,?_⟩
   ·have hnt:¬((⟨pn,pd⟩:F2)∈t):=by rw[hv1]at c;simpa using c
    unfold chK;rw[if_neg hnt];exact hp4.of_get (by show h4.next<=h5.next;omega) (fun ad had hl=>by rw[putB_ne _ (by have:=hf4 ad had;omega),k5.get _ (by have:=hf4 ad had;omega)])
   ·have hnt:¬((⟨pn,pd⟩:F2)∈t):=by rw[hv1]at c;simpa using c
    unfold chK;rw[if_neg hnt];simp[z4]
 ·refine zc ?_
  refine⟨none,.bool true,h3.putB Y (.loop .ready none 46 Try.f46.ntmps env' [9] as1 bo1),rfl,by unfold roundEnd;rw[g3y];rfl,hQ _ ?_⟩;have gg:∀i,i<h.next->i≠Y->(h3.putB Y (.loop .ready none 46 Try.f46.ntmps env' [9] as1 bo1)).m.get i=h.m.get i:=fun i i1 i4=>by rw[putB_ne _ i4,g3 i i4,old i i1]
  have ht:(⟨pn,pd⟩:F2)∈t:=by rw[hv1]at c;simpa using c
  refine { ext:=x3.putB (by omega) _,rows:=⟨?_,hB.rows.each,hB.rows.pos⟩,map:=?_,o3:=?_,out:=?_,lp:=putB_eq _,lt:=by show Y<h3.next;omega,low:=(x3.putB (by omega) _).lowOK hlow0 }
  ·refine cells_of (h:=h) hB.rows.cells (by show h.next<=h3.next;omega) (fun ad had=>gg _ (by have:=(hfa ad had).2;omega) (by have:=(hfa ad had).2;omega))
  ·rw[gg id (by omega) (by omega)];exact hB.map
  ·unfold Own;rw[gg b3 (by omega) (by omega)];exact hB.o3
  ·unfold chK
   rw[if_pos ht];refine⟨a2,kk,c2,by unfold Own;rw[gg b5 (by omega) (by omega)];exact z1,z2.of_get (by show h.next<=h3.next;omega) (fun ad had hl=>gg _ hl (by have:=z3 ad had;omega)),z3,z4⟩
omit hA in
theorem chK_fold(t:List F2):∀(P out:List F2),P.foldl (chK t) out=out++P.filter (fun p=>decide (p∉t))
 | [],out=>by simp
 |p :: P,out=>by
  rw[List.foldl_cons,chK_fold t P];unfold chK;by_cases c:p∈t
  ·rw[if_pos c,List.filter_cons_of_neg (by simpa using c)]
  ·rw[if_neg c,List.filter_cons_of_pos (by simpa using c)];simp
theorem chords_ok{h:AHeap}(hlow:h.low<=h.next){a:Option Addr}{n c:Nat}{l:List Vk}(hl:Vs h a n l)(hs:stOK l)(hn:n<=1000){P:List F2}(hP:Bas l P)(hd:(l.map Vk.pr).Nodup){id:Nat}(hid:id<h.next){t:List F2}(hm:h.m.get id=some (.map (encE pairK boolK (onK t)))){Q:Value->AHeap->Prop}
  (hQ:∀h' a2 k2 c2,Apd h' 2 a2 k2 c2 ((P.filter (fun p=>decide (p∉t))).flatMap F2.cells)->From h.next a2->(P.filter (fun p=>decide (p∉t))).length=k2->P.length=n->Ext h h'->Q (.slice a2 k2 c2) h') :
  call 46 [.slice a n c,.map (some id)] h Q:=by
 refine hA.bodyR Try.func46 r46_ok (hA.alike _ _ _ rfl) hlow (zc ?_);simp only[e_next hA,e_push hA];have x1:=Ext.push h 1 [.map (some id)];have o1:=Own.push h 1 [.map (some id)];have n1:(h.push 1 [.map (some id)]).next=h.next+1:=rfl;generalize h.push 1 [.map (some id)]=h1 at *;have x2:=Ext.push h1 1 [.slice none 0 0];have o2:=Own.push h1 1 [.slice none 0 0];have n2:(h1.push 1 [.slice none 0 0]).next=h.next+2:=by show h1.next+1=_;omega
 generalize h1.push 1 [.slice none 0 0]=h2 at *;obtain⟨b3,hb3⟩:∃z,z=h.next:=⟨_,rfl⟩;obtain⟨b5,hb5⟩:∃z,z=h1.next:=⟨_,rfl⟩;have xx2:=x1.trans x2;rw[<-hb3,<-hb5];rw[<-hb3]at o1;rw[<-hb5]at o2;refine baselines_ok hA (xx2.lowOK hlow) (hl.ext xx2) hs hn (fun h4 bs a' c' P' o4 r4 hp hso hbs hbs2 hf hne x4=>?_);obtain rfl:P=P':=hP.uniq hs (bas_of hl.len hp hso hd hs);refine⟨_,rfl,?_⟩;refine zc ?_;have xx4:=xx2.trans x4;have p3:Own h4 b3 1 [.map (some id)]:=(o1.ext x2 (by omega)).ext x4 (by omega);have p5:Own h4 b5 1 [.slice none 0 0]:=o2.ext x4 (by omega);have m4:h4.m.get id=some (.map (encE pairK boolK (onK t))):=by rw[xx4.get id hid];exact hm
 have nx4:=x4.next;have lo4:h4.low<=h4.next:=xx4.lowOK hlow;refine hA.rangeR Try.func46 r46_ok (key:=3) rfl (s:=⟨_,_,_,h4⟩) (g:=67) rfl (by kernel_rfl) (fun env' as1 bo1 hat henv=>?_);have henv':∀i v,lk [(3,Value.pointer (some ⟨b3,0,none⟩)),(5,.pointer (some ⟨b5,0,none⟩))] i=some v->env'.get i=some v:=by
  intro i v hv;have:=lk_mem hv;simp only[List.mem_cons,List.not_mem_nil,or_false,pj]at this;rcases this with ⟨rfl,rfl⟩|⟨rfl,rfl⟩
  ·exact henv _ _ rfl rfl
  ·exact henv _ _ rfl rfl
 obtain⟨Y,hY⟩:∃z,z=h4.next:=⟨_,rfl⟩;have hgb:∀b,b<h4.next->(h4.pushB (.loop .ready none 46 Try.f46.ntmps env' [9] as1 bo1)).m.get b=h4.m.get b:=fun b hb=>pushB_ne _ _ hb
 have hgx:=Ext.pushB h4 (.loop .ready none 46 Try.f46.ntmps env' [9] as1 bo1);have lt4:∀ad,a'=some ad->ad.block<h4.next:=fun ad had=>by have:=r4.cells;rw[had]at this;exact this.2.1
 have frm:∀ad,a'=some ad->ad.block≠b5/\ad.block<Y:=fun ad had=>by have:=hf ad had;have:=lt4 ad had;omega
 have len:P.length=n:=r4.len;show call 67 [.func (.yield h4.next) #[] #[],.pointer (some ⟨bs,0,none⟩)] (h4.pushB (.loop .ready none 46 Try.f46.ntmps env' [9] as1 bo1)) _;rw[<-hY];refine seq_ok hA (n:=n) (a:=a') (c:=c') (P:=P) hn (I:=fun k h'=>CdI h a' n P id (encE pairK boolK (onK t)) b3 b5 Y (.loop .ready none 46 Try.f46.ntmps env' [9] as1 bo1) ((P.take k.toNat).foldl (chK t) []) h')
  (S:=fun _=>False) (fun k h' hI=>⟨hI.rows,hI.low⟩) (fun k h' hI k0 k1 Q' y1 y2=>?_) (bs:=bs) ?_ (o4.ext hgx (by omega)) (fun h' hI=>?_) (fun h' hS=>hS.elim)
 ·refine cd_round hA hlow (by omega) (by omega) (by omega) frm (by omega) hat henv' (out:=(P.take k.toNat).foldl (chK t) []) ?_ hI (p:=gt P k) (fun h'' hB'=>y1 h'' ?_)
  ·rw[chK_fold,List.nil_append]
   have:=List.length_filter_le (fun p=>decide (p∉t)) (P.take k.toNat);have:=List.length_take_le k.toNat P;omega
  ·rw[gt_take P k0 (by omega),List.foldl_append]
   exact hB'
 ·exact { ext:=xx4.trans hgx,rows:=r4.ext hgx,map:=by rw[hgb id (by omega)];exact m4,o3:=p3.ext hgx (by omega),out:=⟨none,0,0,p5.ext hgx (by omega),Apd.nil _ _,From.none _,rfl⟩,lp:=by rw[hY];exact pushB_eq _ _,lt:=by show Y<h4.next+1;omega,low:=by show h4.low<=h4.next+1;omega }
 ·rw[List.take_of_length_le (by omega),chK_fold,List.nil_append]at hI
  refine⟨.ready,none,.normal,⟨⟨46,Try.f46.ntmps,env',[9],as1,bo1,by show h'.m.get h4.next=_;rw[<-hY];exact hI.lp⟩⟩,.inl rfl,rfl,?_⟩;obtain⟨a2,k2,c2,z1,z2,z3,z4⟩:=hI.out;have pn:∀i,i≠Y->(h'.putB h4.next .dead).m.get i=h'.m.get i:=fun i hi=>putB_ne _ (by omega)
  generalize hH:h'.putB h4.next .dead=hz;rw[hH]at pn;have nz:hz.next=h'.next:=by rw[<-hH];rfl
  have xz:Ext h hz:=by rw[<-hH];exact hI.ext.putB (by omega) _
  have z5:Own hz b5 1 [.slice a2 k2 c2]:=by unfold Own;rw[pn _ (by omega)];exact z1
  have q5:rd hz b5 0 1 [.slice a2 k2 c2]:=rd_at hA (z5.readG (o:=0) (n:=1) (by simp));refine zq ?_;exact hQ hz a2 k2 c2 (z2.of_get (by omega) (fun ad had hl=>pn _ (by have:=z3 ad had;omega))) (fun ad had=>by have:=z3 ad had;omega) z4 len xz
