import Derived.Test.YtdpbiegfljmhmaaSymW
import Derived.Lib.Overlaps
set_option linter.unusedSimpArgs false
set_option linter.unusedVariables false
namespace Go.Sim
open Go.RowKit
variable{P:Program}
theorem opsN_pre{ro:Option Nat}{H:Hint}{call:CallT}(hcall:CallOK2 P call){f:FuncId}{nt:Nat}{ops:Array Oper}{Q:Exit->Act->World->Prop}(more:Nat):∀(l:List Oper) (k:Nat) (s:St) (J:Inj) (w:World) (a:Act) (s':St),
  (∀j,j<l.length->l[j]?=ops[k+j]?)->opsN P H call f nt ops l s=some s'->HR J s w->ER J s a->nt<=a.tmps.size->(∀a' w',Post J s w a s' a' w'->wpOpsIn (Wd ro) 0 P ops Q (List.range' (k+l.length) more) a' w')->wpOpsIn (Wd ro) 0 P ops Q (List.range' k (l.length+more)) a w
 | [],k,s,J,w,a,s',_,h,hR,hE,_,hQ=>by
  simp only[opsN,oi]at h;subst h;have:=hQ a w ⟨J,.refl hR,hE,rfl,rfl,.refl _ _⟩;simpa using this
 |o :: l,k,s,J,w,a,s',hl,h,hR,hE,hn,hQ=>by
  have ho:ops[k]?=some o:=by have:=hl 0 (by simp);simpa using this.symm
  have hl':∀j,j<l.length->l[j]?=ops[k+1+j]?:=fun j hj=>by have:=hl (j+1) (by simpa using hj);simpa[Nat.add_assoc,Nat.add_comm 1 j]using this
  rw[List.length_cons,show l.length+1+more=(l.length+more)+1 by omega,List.range'_succ];simp only[wpOpsIn,ho];simp only[opsN]at h;split at h
  ·rename_i hw
   rw[wantedA_sim hw (hE.gu ops o),if_pos rfl];split at h
   ·rename_i v s1 h1
    split at h
    ·rename_i s2 h2
     refine oneA_goes hcall hR (hE.ev _) h1 _ Q ?_ ro;intro c w' J' hG hlm hv henv hA _;have hE':ER J' s1 a:=by
      have:=hE.mono (J':=J') hG.mono hlm;intro t u hu;exact this t u (by rw[henv]at hu;exact hu)
     have hE2:=putA_ER h2 hE' hn hv;have hG2:Good J s w J' s2 w':=by rw[putA_env h2];exact hG.env _
     refine opsN_pre hcall more l (k+1) s2 J' w' (a.put o.dst c) s' hl' h hG2.hr hE2 (by rw[put_size];exact hn) ?_;rintro a' w2 ⟨J2,q1,q2,q3,q4,q5⟩;rw[show k+1+l.length=k+(l.length+1) by omega];exact hQ a' w2 ⟨J2,hG2.trans q1,q2,by rw[q3,put_size],by rw[q4,put_defers],hA.trans (q5.mono (fun k hk=>Nat.le_trans hG2.next hk))⟩
    ·cases h
   ·cases h
  ·rename_i hw
   rw[wantedA_sim hw (hE.gu ops o),if_neg (by simp)];split at h
   ·rename_i s1 h1
    have hE2:=putA_ER h1 hE hn (c:=undef) (.glob _ _ (VG.of_flat rfl));have hG2:Good J s w J s1 w:=by rw[putA_env h1];exact(Good.refl hR).env _
    refine⟨fun _ _=>trivial,?_⟩;refine opsN_pre hcall more l (k+1) s1 J w (a.put o.dst undef) s' hl' h hG2.hr hE2 (by rw[put_size];exact hn) ?_;rintro a' w2 ⟨J2,q1,q2,q3,q4,q5⟩;rw[show k+1+l.length=k+(l.length+1) by omega];exact hQ a' w2 ⟨J2,hG2.trans q1,q2,by rw[q3,put_size],by rw[q4,put_defers],q5.mono (fun k hk=>Nat.le_trans hG2.next hk)⟩
   ·cases h
  ·cases h
theorem WN.cap{H:Hint}{call:CallT}(hcall:CallOK2 P call){f:FuncId}{nt id d:Nat}{x:Operand}{t e:TypeId}{o:Oper}{pre rest:List Oper}{ops:Array Oper}(hops:ops.toList=pre++o :: rest)
  (ho:o.op=.call { callee:=.builtin .cap,args:=#[x],argTypes:=#[t] }) (hd:o.dst=some d) (hdn:d<nt) (hg:o.guard=none) (ht:P.underlying t=some (.slice e))
  {s s1:St} (hpre:opsN P H call f nt ops pre s=some s1) {b:Nat} {off n k:Nat} (hx:evalA s1 x=some (.slice (some ⟨b,off,none⟩) n k)) {Q:Exit->St->Prop}
  (h:∀c:Nat,capLow k<=c->∃s2,opsN P H call f nt ops rest { s1 with env:=s1.env.set d (.int .i64 c) }=some s2/\Q .normal s2):WN P nt (.region id ops false) s Q:=by
 intro J w a hR hE hn;refine wpIn_region ?_;have hsz:ops.size=pre.length+(1+rest.length):=by have:=congrArg List.length hops;simp at this;omega
 have h0:∀j,j<pre.length->pre[j]?=ops[0+j]?:=fun j hj=>by rw[Nat.zero_add,<-Array.getElem?_toList,hops,List.getElem?_append_left hj]
 have h1:ops[pre.length]?=some o:=by rw[<-Array.getElem?_toList,hops,List.getElem?_append_right (Nat.le_refl _)];simp
 have hrest:∀j,rest[j]?=ops[pre.length+1+j]?:=fun j=>by rw[<-Array.getElem?_toList,hops,List.getElem?_append_right (by omega),show pre.length+1+j-pre.length=j+1 by omega];rfl
 rw[List.range_eq_range',hsz];refine opsN_pre hcall (1+rest.length) pre 0 s J w a s1 h0 hpre hR hE hn ?_;rintro a1 w1 ⟨J1,g1,g2,g3,g4,g5⟩;rw[Nat.zero_add,Nat.add_comm 1,List.range'_succ];have hw:Region.wanted o (yielded ops a1.tmps)=true:=by unfold Region.wanted;rw[hg]
 simp only[wpOpsIn,h1,hw,if_true];obtain⟨a',c',hev,hc⟩:=((g2.eval hx).of_noLoc rfl).sliceAny;have hnd:∀c,o.op≠.defer c:=fun c e=>by rw[ho]at e;cases e
 have hex:execOp a1.eval o=((Builtin.cap_ #[t] o.type #[.slice a' n c']) >>= fun u=>pure (Next.value u)):=by
  unfold execOp;simp only[ho,resolve,invoke,builtin];simp[hev]
 obtain⟨s2,k1,k2⟩:=h c' hc;have hrun:(Builtin.cap_ #[t] o.type #[.slice a' n c']).run P w1=.ok (.int .i64 c') w1:=by simp[Builtin.cap_,run_und ht,goInt]
 have hop:=Sim1.op (Sim1.still (R:=(s1.h.next<=·)) (Rl:=fun _=>False) g1.hr hrun (.glob _ _ (VG.of_flat (v:=.int .i64 c') rfl)));rw[<-hex]at hop;refine SimOp.goes hnd hop _ _ ?_ none;intro c w' J' hG hlm hv henv hA _;have hE':ER J' { s1 with env:=s1.env.set d (.int .i64 c') } (a1.put o.dst c):=by
  rw[hd];intro t u hu;have hu':(s1.env.set d (.int .i64 c')).get t=some u:=hu;rw[Tri.get_set]at hu';show t<(a1.tmps.setIfInBounds d c).size/\VR J' u ((a1.tmps.setIfInBounds d c).getD t undef);by_cases e:d=t
  ·rw[if_pos e]at hu'
   subst e;obtain rfl:=Option.some.inj hu';refine⟨by simp;omega,?_⟩;rw[show(a1.tmps.setIfInBounds d c).getD d undef=c by simp[Array.getD,show d<a1.tmps.size by omega]];exact hv
  ·rw[if_neg e]at hu'
   obtain⟨k1,k2⟩:=g2 t u hu';refine⟨by simpa using k1,?_⟩;rw[show(a1.tmps.setIfInBounds d c).getD t undef=a1.tmps.getD t undef by simp[Array.getD,k1,e]];exact k2.mono hG.mono hlm
 refine opsN_goes hcall rest (pre.length+1) _ J' w' _ s2 hrest k1 (hG.env _).hr hE' (by rw[put_size,g3];exact hn) ?_;rintro a2 w2 ⟨J2,q1,q2,q3,q4,q5⟩;refine⟨s2,k2,J2,g1.trans ((hG.env (s1.env.set d (.int .i64 c'))).trans q1),q2,by rw[q3,put_size,g3],by rw[q4,put_defers,g4];exact .none _ _ _ _,g5.trans (Adds.mono (hA.trans (q5.mono (fun k hk=>Nat.le_trans hG.next hk))) (fun k hk=>Nat.le_trans g1.next hk))⟩
end Go.Sim
namespace Go.Sim
open Go.RowKit
def isHd:Value->Bool
 | .slice (some ⟨_,_,none⟩) _ _=>true
 |_=>false
def insertF(args:List Value)(h:AHeap):Option (Value×AHeap):=
 match args with
 | [.slice (some ⟨b,0,none⟩) n k,.int .i64 i,.slice (some ⟨vb,0,none⟩) 1 1]=>
  match h.m.get b,h.m.get vb with
  |some (.live true 1 cs),some (.live true 1 [v])=>
   bif Nat.beq k (someCap 1 n) && Nat.beq cs.length n && decide (0<=i/\i<n) && cs.all isHd && isHd v && !(Nat.beq b vb) && Nat.ble n 1000 then
    some (.slice (some ⟨h.next,0,none⟩) (n+1) (someCap 1 (n+1)),(h.kill b).push 1 (cs.take i.toNat++v :: cs.drop i.toNat))else none
  |_,_=>none
 |_=>none
def overlapsF(args:List Value)(h:AHeap):Option (Value×AHeap):=
 match args with
 | [.slice (some ⟨a,_,none⟩) _ _,.slice (some ⟨b,_,none⟩) _ _]=>
  match h.m.get a,h.m.get b with
  |some (.live true 1 (_ :: _)),some (.live true 1 (_ :: _))=>bif Nat.beq a b then none else some (.bool false,h)
  |_,_=>none
 |_=>none
def withH(g0:FuncId)(f:List Value->AHeap->Option (Value×AHeap))(F:Prims):Prims:=fun g args h=>bif Nat.beq g g0 then(match f args h with|some r=>some r|none=>F g args h)else F g args h
theorem insertF_spec{args:List Value}{h h':AHeap}{r:Value}(hc:insertF args h=some (r,h')):∃b n i vb cs v,args=[.slice (some ⟨b,0,none⟩) n (someCap 1 n),.int .i64 (Int.ofNat i),.slice (some ⟨vb,0,none⟩) 1 1]/\h.m.get b=some (.live true 1 cs)/\h.m.get vb=some (.live true 1 [v])/\cs.length=n/\i<n/\cs.all isHd=true/\isHd v=true/\b≠vb/\n<=1000 /\
  r=.slice (some ⟨h.next,0,none⟩) (n+1) (someCap 1 (n+1))/\h'=(h.kill b).push 1 (cs.take i++v :: cs.drop i):=by
 unfold insertF at hc;split at hc
 ·rename_i b n k i vb
  split at hc
  ·rename_i cs v h1 h2
   obtain⟨hb,hc⟩:=condSome hc;simp only[Bool.and_eq_true,decide_eq_true_eq,Bool.not_eq_true']at hb;obtain⟨⟨⟨⟨⟨⟨k1,k2⟩,k3,k4⟩,k5⟩,k6⟩,k7⟩,k8⟩:=hb;have k1:=Nat.eq_of_beq_eq_true k1;have k2:=Nat.eq_of_beq_eq_true k2;have k8:=Nat.le_of_ble_eq_true k8;obtain⟨rfl,rfl⟩:=Prod.mk.inj hc;obtain⟨j,rfl⟩:∃j:Nat,i=j:=⟨i.toNat,by omega⟩;subst k1;exact⟨b,n,j,vb,cs,v,rfl,h1,h2,k2,by omega,k5,k6,(fun e=>by rw[e,Nat.beq_refl]at k7;cases k7),k8,rfl,rfl⟩
  ·cases hc
 ·cases hc
end Go.Sim
namespace Go.Sim
open Go.RowKit
theorem isHd_spec{v:Value}(h:isHd v=true):∃b o n k,v=.slice (some ⟨b,o,none⟩) n k:=by
 unfold isHd at h;split at h
 ·exact⟨_,_,_,_,rfl⟩
 ·cases h
theorem withH_ok{P:Program}{g0:FuncId}{f:List Value->AHeap->Option (Value×AHeap)}{F:Prims}(hF:CallOK P F)
  (hf:∀args h v h',f args h=some (v,h')->∀(G:Nat->Option Loc) (w:World) (cargs:List Value),HR ⟨G,fun _=>none⟩ (St0 h) w->VGs G args cargs->Does P g0 cargs.toArray w (fun c w'=>∃G',VG G' v c/\Good ⟨G,fun _=>none⟩ (St0 h) w ⟨G',fun _=>none⟩ (St0 h') w'/\Adds (h.next<=·) G G')):CallOK P (withH g0 f F):=by
 intro g args h v h' hc hg G w cargs hR hA;unfold withH at hc;cases hb:Nat.beq g g0 with
 |false=>rw[hb]at hc;exact hF g args h v h' hc hg G w cargs hR hA
 |true=>
  obtain rfl:=Nat.eq_of_beq_eq_true hb;rw[hb]at hc;simp only[cond_true]at hc;split at hc
  ·rename_i r hr
   simp only[oi]at hc;subst hc;exact hf args h v h' hr G w cargs hR hA
  ·exact hF g args h v h' hc hg G w cargs hR hA
theorem withH_keep{g0:FuncId}{f:List Value->AHeap->Option (Value×AHeap)}{F:Prims}(hf:∀args h v h',f args h=some (v,h')->KeepB h.next h h')(hF:CallKeep F):CallKeep (withH g0 f F):=by
 intro g args h v h' hc;unfold withH at hc;cases hb:Nat.beq g g0 with
 |false=>rw[hb]at hc;exact hF g args h v h' hc
 |true=>
  rw[hb]at hc;simp only[cond_true]at hc;split at hc
  ·rename_i r hr
   simp only[oi]at hc;subst hc;exact hf args h v h' hr
  ·exact hF g args h v h' hc
theorem insertF_keep(args:List Value)(h:AHeap)(v:Value)(h':AHeap)(hc:insertF args h=some (v,h')):KeepB h.next h h':=by
 obtain⟨b,n,i,vb,cs,v,rfl,h1,_,_,_,_,_,_,_,rfl,rfl⟩:=insertF_spec hc;have k1:KeepB h.next h (h.kill b):=KeepB.kill (by rw[h1];simp);exact k1.trans (KeepB.push (h:=h.kill b) (by show h.next<=h.next;omega) _ _)
theorem overlapsF_keep(args:List Value)(h:AHeap)(v:Value)(h':AHeap)(hc:overlapsF args h=some (v,h')):KeepB h.next h h':=by
 unfold overlapsF at hc;split at hc
 ·split at hc
  ·rename_i a _ _ _ b _ _ _ _ _ _ _ _ _ _
   revert hc
   cases Nat.beq _ _ with
   |true=>intro hc;cases hc
   |false=>
    intro hc;simp only[cond_false,oi,pj]at hc;rw[hc.2];exact .refl _ _
  ·cases hc
 ·cases hc
theorem VG.backS{G G':Nat->Option Loc}(hm:∀id L,G id=some L->G' id=some L){a:Addr}{len k:Nat}{c:Value}(hs:a.spot=none){L1:Loc}(h1:G a.block=some L1)(h:VG G' (.slice (some a) len k) c):VG G (.slice (some a) len k) c:=by
 have e:=hm _ _ h1;cases h with
 |flat _ h=>simp[flat1]at h
 |sliceX _ L _ _ _ h hc=>
  rw[e]at h;obtain rfl:=Option.some.inj h;exact .sliceX _ _ _ _ hs h1 hc
 |sliceI _ L _ m c _ h hm hms ht=>
  rw[e]at h;obtain rfl:=Option.some.inj h;exact .sliceI _ _ _ _ _ hs h1 hm hms ht
 |sliceE _ a' x h=>rw[hs]at h;cases h
 |sliceZ _ a' x c h=>rw[hs]at h;cases h
theorem HR.room{G:Nat->Option Loc}{h:AHeap}{w:World}{b es:Nat}{cs:List Value}{L:Loc}(hR:HR ⟨G,fun _=>none⟩ (St0 h) w)(hb:G b=some L)(hm:h.m.get b=some (.live true es cs))(hk:L.o+cs.length+1<=L.tot) :
  HR ⟨G,fun _=>none⟩ (St0 { h with m:=h.m.set b (.live true es (cs++[.chan none])) }) w:=by
 have get:∀k,(h.m.set b (.live true es (cs++[.chan none]))).get k=if b=k then some (.live true es (cs++[.chan none]))else h.m.get k:=fun k=>by rw[Tri.get_set]
 refine { gdom:=hR.gdom,gblk:=hR.gblk,gcon:=?_,ginj:=?_,ldom:=hR.ldom,lcon:=hR.lcon,linj:=hR.linj,sep:=hR.sep }
 ·intro k L1 blk h1 h2
  have h2':(h.m.set b (.live true es (cs++[.chan none]))).get k=some blk:=h2;rw[get]at h2';by_cases e:b=k
  ·subst e
   rw[if_pos rfl]at h2';obtain rfl:=Option.some.inj h2';have h1':G b=some L1:=h1;rw[hb]at h1';obtain rfl:=Option.some.inj h1';obtain⟨q1,cv,e,fr,q2,q3,q4⟩:=hR.gcon b L _ hb hm;refine⟨q1,cv,e,fr,q2,?_,q4⟩;intro i v hi;by_cases c:i<cs.length
   ·rw[List.getElem?_append_left c]at hi
    exact q3 i v hi
   ·have hi2:=(List.getElem?_eq_some_iff.1 hi).1
    rw[List.length_append,List.length_singleton]at hi2;obtain rfl:i=cs.length:=by omega
    rw[List.getElem?_append_right (Nat.le_refl _)]at hi;simp at hi;subst hi;obtain⟨o,r1,r2⟩:=hR.gblk b L hb;have:=r2 cv e fr (by rw[q2]at r1;exact(Option.some.inj r1).symm);exact⟨cv[L.o+cs.length]'(by omega),Array.getElem?_eq_getElem _,.junk _⟩
  ·rw[if_neg e]at h2'
   exact hR.gcon k L1 blk h1 h2'
 ·intro k k' L1 L2 b1 b2 h1 h2 h3 h4 a1 a2 he
  have alv:∀k b1,(h.m.set b (.live true es (cs++[.chan none]))).get k=some b1->b1.alive=true->∃b2,h.m.get k=some b2/\b2.alive=true:=fun k b1 q1 q2=>by
   rw[get]at q1;by_cases e:b=k
   ·subst e;exact⟨_,hm,rfl⟩
   ·rw[if_neg e]at q1;exact⟨_,q1,q2⟩
  obtain⟨c1,d1,d2⟩:=alv k b1 h3 a1;obtain⟨c2,d3,d4⟩:=alv k' b2 h4 a2;exact hR.ginj k k' L1 L2 c1 c2 h1 h2 d1 d3 d2 d4 he
theorem Good.moved{G G':Nat->Option Loc}{h h2 h':AHeap}{w w':World}{b b2:Nat}{L:Loc}{cells:List Value}(hR:HR ⟨G,fun _=>none⟩ (St0 h) w)(hb:b<h.next)(hG:Good ⟨G,fun _=>none⟩ (St0 h2) w ⟨G',fun _=>none⟩ (St0 h') w')
  (hL:G' b2=some L) (hc:h'.m.get b2=some (.live true 1 cells)) (hkeep:∀k L1 blk,k≠b->G k=some L1->h.m.get k=some blk->BR G blk L1 w'.heap[L1.b]?) (hsep:∀k L1 blk,k≠b->G k=some L1->h.m.get k=some blk->blk.alive=true->L1.b≠L.b)
  (hfr:w.heap.size<=L.b\/G b=some L) (hlow:Nat.min h.low b<=h'.low) (hhd:∀v∈cells,∃a len k L1,v=.slice (some a) len k/\a.spot=none/\G a.block=some L1) :
  ∃G2,G2 h.next=some L/\(∀id L,G id=some L->G2 id=some L)/\Good ⟨G,fun _=>none⟩ (St0 h) w ⟨G2,fun _=>none⟩ (St0 ((h.kill b).push 1 cells)) w'/\Adds (h.next<=·) G G2:=by
 let G2:Nat->Option Loc:=fun k=>if k=h.next then some L else G k
 have split:∀k L1,G2 k=some L1->(k=h.next/\L1=L)\/(k≠h.next/\G k=some L1):=fun k L1 h1=>by
  by_cases e:k=h.next
  ·left;simp only[G2,e,if_true,oi]at h1;exact⟨e,h1.symm⟩
  ·right;simp only[G2,e,if_false]at h1;exact⟨e,h1⟩
 have up:∀k L1,G k=some L1->G2 k=some L1:=fun k L1 h1=>by
  have:k<h.next:=hR.gdom k L1 h1;simp only[G2,show ¬k=h.next by omega,if_false,h1]
 have get:∀k,((h.kill b).push 1 cells).m.get k=if h.next=k then some (.live true 1 cells)else if b=k then some .dead else h.m.get k:=fun k=>by
  show((h.m.set b .dead).set h.next _).get k=_;rw[Tri.get_set,Tri.get_set]
 have ncase:∀k blk,k≠h.next->((h.kill b).push 1 cells).m.get k=some blk->blk=.dead\/(k≠b/\h.m.get k=some blk):=fun k blk hk q=>by
  rw[get,if_neg (fun e=>hk e.symm)]at q;by_cases e:b=k
  ·rw[if_pos e]at q;exact .inl (Option.some.inj q).symm
  ·rw[if_neg e]at q;exact .inr ⟨fun e'=>e e'.symm,q⟩
 refine⟨G2,by simp[G2],up,?_,fun k L1 h1=>?_⟩
 ·refine { hr:=?_,mono:=up,next:=by show h.next<=h.next+1;omega,low:=Nat.min_le_left _ _,size:=hG.size,os:=hG.os,tape:=hG.tape,output:=hG.output,fresh:=?_,lfresh:=(fun t L h=>by cases h),frame:=fun k hk hid hl=>hG.frame k hk (fun id L1 h0 he=>Nat.lt_of_lt_of_le (hid id L1 h0 he) hlow) hl }
  ·refine { gdom:=?_,gblk:=?_,gcon:=?_,ginj:=?_,ldom:=(fun t L h=>by cases h),lcon:=(fun t L h=>by cases h),linj:=(fun t t' L L' h=>by cases h),sep:=(fun id t L L' _ h=>by cases h) }
   ·intro k L1 h1
    show k<h.next+1;rcases split k L1 h1 with ⟨e,_⟩|⟨_,h2⟩
    ·omega
    ·have:k<h.next:=hR.gdom k L1 h2;omega
   ·intro k L1 h1
    rcases split k L1 h1 with ⟨_,rfl⟩|⟨_,h2⟩
    ·exact hG.hr.gblk b2 _ hL
    ·exact hG.hr.gblk k L1 (hG.mono k L1 h2)
   ·intro k L1 b1 h1 h2
    rcases split k L1 h1 with ⟨rfl,rfl⟩|⟨hk,h3⟩
    ·have h2':((h.kill b).push 1 cells).m.get h.next=some b1:=h2
     rw[get,if_pos rfl]at h2';obtain rfl:=Option.some.inj h2';obtain⟨k1,cs,e,fr,k2,k3,k4⟩:=hG.hr.gcon b2 _ _ hL hc;refine⟨k1,cs,e,fr,k2,fun i v hi=>?_,k4⟩;obtain⟨cv,q1,q2⟩:=k3 i v hi;obtain⟨a,len,kk,L1,rfl,g1,g2⟩:=hhd v (List.mem_of_getElem? hi);exact⟨cv,q1,(VG.backS hG.mono g1 g2 q2).mono up⟩
    ·rcases ncase k b1 hk h2 with rfl|⟨hkb,q⟩
     ·trivial
     ·exact(hkeep k L1 b1 hkb h3 q).mono up
   ·intro k k' L1 L2 b1 b2' h1 h2 h3 h4 a1 a2 he
    rcases split k L1 h1 with ⟨e1,rfl⟩|⟨e1,g1⟩<;>rcases split k' L2 h2 with ⟨e2,rfl⟩|⟨e2,g2⟩
    ·rw[e1,e2]
    ·rcases ncase k' b2' e2 h4 with rfl|⟨hkb,q⟩
     ·cases a2
     ·exact absurd he.symm (hsep k' L2 b2' hkb g2 q a2)
    ·rcases ncase k b1 e1 h3 with rfl|⟨hkb,q⟩
     ·cases a1
     ·exact absurd he (hsep k L1 b1 hkb g1 q a1)
    ·rcases ncase k b1 e1 h3 with rfl|⟨hkb,q⟩
     ·cases a1
     rcases ncase k' b2' e2 h4 with rfl|⟨hkb2,q2⟩
     ·cases a2
     exact hR.ginj k k' L1 L2 b1 b2' g1 g2 q q2 a1 a2 he
  ·intro k L1 h1 h2
   rcases split k L1 h1 with ⟨_,rfl⟩|⟨_,h3⟩
   ·rcases hfr with q|q
    ·exact .inl q
    ·exact .inr ⟨b,_,q,rfl,Nat.min_le_right _ _⟩
   ·have h2':G k=none:=h2
    rw[h2']at h3;cases h3
 ·rcases split k L1 h1 with ⟨e,_⟩|⟨_,h2⟩
  ·right;show h.next<=k;omega
  ·exact .inl h2
end Go.Sim
namespace Go.Sim
open Go.RowKit
theorem overlaps_does{P : Program}{g : FuncId}{fn : Func}{tS tR e : TypeId}(hf : P.funcs[g]? = some fn)(hname : (fn.name == "runtime.NumGoroutine") = false)(hb : fn.body.isNone = true)(hn : Extern.findNext fn = none)
  (he:Extern.find fn=some (Extern.SlicesOverlaps.overlaps #[tS,tS] #[tR])) (ht:P.underlying tS=some (.slice e)) (hz:∀w,(Go.sizeOf e).run P w=.ok 1 w) (args:List Value) (h:AHeap) (v:Value) (h':AHeap) (hc:overlapsF args h=some (v,h'))
  (G:Nat->Option Loc) (w:World) (cargs:List Value) (hR:HR ⟨G,fun _=>none⟩ (St0 h) w) (hA:VGs G args cargs):Does P g cargs.toArray w (fun c w'=>∃G',VG G' v c/\Good ⟨G,fun _=>none⟩ (St0 h) w ⟨G',fun _=>none⟩ (St0 h') w'/\Adds (h.next<=·) G G'):=by
 unfold overlapsF at hc;split at hc
 ·rename_i a oa la ca b ob lb cb
  split at hc
  ·rename_i v1 r1 v2 r2 h1 h2
   revert hc
   cases hab:Nat.beq a b with
   |true=>intro hc;cases hc
   |false=>
    intro hc;simp only[cond_false,oi,pj]at hc;obtain⟨rfl,rfl⟩:=hc;obtain⟨x1,l1,rfl,g1,hA⟩:=hA.head;obtain⟨x2,l2,rfl,g2,hA⟩:=hA.head;obtain rfl:l2=[]:=List.eq_nil_of_length_eq_zero hA.1.symm;rcases g1.sliceL with ⟨_,L1,c1,hL1,rfl,_⟩|⟨_,⟨x,hx⟩,_⟩
    rotate_left
    ·cases hx
    rcases g2.sliceL with ⟨_,L2,c2,hL2,rfl,_⟩|⟨_,⟨x,hx⟩,_⟩
    rotate_left
    ·cases hx
    obtain⟨_,cs1,e1,f1,k1,k2,k3⟩:=hR.gcon _ _ _ hL1 h1;obtain⟨_,cs2,e2,f2,q1,q2,q3⟩:=hR.gcon _ _ _ hL2 h2;obtain rfl:=k3 rfl;obtain rfl:=q3 rfl;have hne:L1.b≠L2.b:=fun q=>by
     have:=hR.ginj a b L1 L2 _ _ hL1 hL2 h1 h2 rfl rfl q;rw[this,Nat.beq_refl]at hab;cases hab
    obtain⟨cv,z1,_⟩:=q2 0 v2 rfl;have hk2:cs2.size≠0:=by have:=(Array.getElem?_eq_some_iff.1 z1).1;omega
    refine .inr ⟨.bool false,w,?_,G,.of_flat rfl,.refl hR,.refl _ _⟩;show(callFunc g #[.slice (some ⟨L1.b,L1.o+oa,none⟩) la c1,.slice (some ⟨L2.b,L2.o+ob,none⟩) lb c2]).run P w=_;rw[run_callFunc_extern hf hname hb hn he,Lib.run_overlaps_apart w tS tR e ht 1 hz ⟨L1.b,L1.o+oa,none⟩ ⟨L2.b,L2.o+ob,none⟩ la c1 lb c2 hne e1 e2 cs1.size cs2.size (by unfold World.shape?;simp only[k1]) (by unfold World.shape?;simp only[q1]) hk2 (by unfold World.frozen?;simp only[k1];simp) (by unfold World.frozen?;simp only[k1];simp)];rfl
  ·cases hc
 ·cases hc
end Go.Sim
namespace Go.Sim
open Go.RowKit
theorem opsN_one{P:Program}{H:Hint}{call:CallT}{f:FuncId}{nt:Nat}{ops:Array Oper}{o:Oper}{rest:List Oper}{s s':St}{v:Value}{d:Tmp}(hg:o.guard=none)(hd:o.dst=some d)(hdn:d<nt)(h1:oneA P H call f o s=some (v,s))(h:opsN P H call f nt ops rest { s with env:=s.env.set d v }=some s') :
  opsN P H call f nt ops (o :: rest) s=some s':=by
 have hw:wantedA ops o s=some true:=by unfold wantedA;rw[hg]
 have hbl:Nat.blt d nt=true:=ble_true hdn;simp only[opsN,hw,h1,hd,putA,hbl,cond_true];exact h
theorem WNs.room{P:Unit->Program}{nt id:Nat}(hnt:32<=nt){ti tj tk tl e:TypeId}{o1 o2 o3 o4 o5 o6:Oper}{ops:Array Oper}(hops:ops.toList=[o1,o2,o3,o4,o5,o6])
  (p1:o1.op=.move (.tmp 8)) (p2:o2.op=.move (.tmp 7)) (p3:o3.op=.binOp .add ti (.tmp 26) (.tmp 27) tj) (p4:o4.op=.move (.tmp 0)) (p5:o5.op=.call { callee:=.builtin .cap,args:=#[.tmp 29],argTypes:=#[tl] }) (p6:o6.op=.binOp .gtr ti (.tmp 28) (.tmp 30) tk)
  (d1:o1.dst=some 26) (d2:o2.dst=some 27) (d3:o3.dst=some 28) (d4:o4.dst=some 29) (d5:o5.dst=some 30) (d6:o6.dst=some 31) (g1:o1.guard=none) (g2:o2.guard=none) (g3:o3.guard=none) (g4:o4.guard=none) (g5:o5.guard=none) (g6:o6.guard=none)
  (ht:(P ()).underlying tl=some (.slice e)) {s:SS} {n b off k:Nat} (e8:lk s.env 8=some (.int .i64 n)) (e7:lk s.env 7=some (.int .i64 1)) (e0:lk s.env 0=some (.slice (some ⟨b,off,none⟩) n k)) (hlow:∀p∈s.env,p.1<26) (hn:n<=1000) (hk:n+1<=capLow k) {Q:Exit->SS->Prop}
  (h:Q .normal { s with env:=(31,.bool false) :: s.env }):WNs P nt (.region id ops false) s Q:=by
 refine⟨?_⟩;intro t hs hl;have hcall:CallOK2 (P ()) (fun _ _ _=>none):=⟨fun g args h v h' hc=>(by cases hc),fun g args h v h' hc=>(by cases hc)⟩;have t8:t.env.get 8=some (.int .i64 n):=hs.env _ _ e8;have t7:t.env.get 7=some (.int .i64 1):=hs.env _ _ e7;have t0:t.env.get 0=some (.slice (some ⟨b,off,none⟩) n k):=hs.env _ _ e0;have eop:∀{o:Oper} {s:St} {v:Value},isCall o.op=none->opA (P ()) s.new (locOf noHint 0 o) o.op s=some (v,s)->oneA (P ()) noHint (fun _ _ _=>none) 0 o s=some (v,s):=fun h1 h2=>by unfold oneA;rw[h1];exact h2
 have w1:IntKind.wrap .i64 ((n:Int)+1)=(n:Int)+1:=wrap64 (by omega) (by omega);refine WN.cap (H:=noHint) (f:=0) hcall (pre:=[o1,o2,o3,o4]) (rest:=[o6]) hops p5 d5 (Nat.lt_of_lt_of_le (by decide) hnt) g5 ht (s1:={ t with env:=(((t.env.set 26 (.int .i64 n)).set 27 (.int .i64 1)).set 28 (.int .i64 ((n:Int)+1))).set 29 (.slice (some ⟨b,off,none⟩) n k) }) ?_ (b:=b) (off:=off) (n:=n) (k:=k) ?_ (fun c hc=>?_)
 ·refine opsN_one g1 d1 (Nat.lt_of_lt_of_le (by decide) hnt) (eop (by rw[p1];rfl) (v:=.int .i64 n) (by rw[p1];simp only[opA,evalA,t8])) ?_
  refine opsN_one g2 d2 (Nat.lt_of_lt_of_le (by decide) hnt) (eop (by rw[p2];rfl) (v:=.int .i64 1) (by rw[p2];simp only[opA,evalA,Tri.get_set];simp[t7])) ?_;refine opsN_one g3 d3 (Nat.lt_of_lt_of_le (by decide) hnt) (eop (by rw[p3];rfl) (v:=.int .i64 ((n:Int)+1)) (by rw[p3];simp only[opA,evalA,Tri.get_set];simp[binA,intOp,w1])) ?_;refine opsN_one g4 d4 (Nat.lt_of_lt_of_le (by decide) hnt) (eop (by rw[p4];rfl) (v:=.slice (some ⟨b,off,none⟩) n k) (by rw[p4];simp only[opA,evalA,Tri.get_set];simp[t0])) ?_;rfl
 ·simp only[evalA,Tri.get_set];simp
 ·have hlt:(decide ((c:Int)<(n:Int)+1))=false:=by simp;omega
  refine⟨_,opsN_one g6 d6 (Nat.lt_of_lt_of_le (by decide) hnt) (eop (by rw[p6];rfl) (v:=.bool false) (by rw[p6];simp only[opA,evalA,Tri.get_set];simp[binA,intOp];omega)) rfl,{ s with env:=(31,.bool false) :: s.env },⟨fun i v hv=>?_,hs.K,hs.kn,hs.h⟩,hl,h⟩;show((((((t.env.set 26 _).set 27 _).set 28 _).set 29 _).set 30 _).set 31 _).get i=some v;simp only[lk_cons]at hv;rw[Tri.get_set];by_cases c1:31=i
  ·rw[if_pos c1]at hv ⊢;exact hv
  ·rw[if_neg c1]at hv ⊢
   have hi:i<26:=hlow _ (lk_mem hv);simp only[Tri.get_set];rw[if_neg (by omega),if_neg (by omega),if_neg (by omega),if_neg (by omega),if_neg (by omega)];exact hs.env i v hv
end Go.Sim
namespace Go.Sim
open Go.RowKit
theorem VG.back{G G':Nat->Option Loc}(hm:∀id L,G id=some L->G' id=some L){v c0:Value}(h0:VG G v c0):∀c,VG G' v c->VG G v c:=by
 induction h0 with
 |flat v h=>intro c hc;rw[VG.flat1_eq hc h];exact .flat v h
 |junk _=>intro c _;exact .junk c
 |ptr a L hs h=>
  intro c hc;have e:=hm _ _ h;cases hc with
  |flat _ h'=>simp[flat1]at h'
  |ptr _ L' _ h'=>rw[e]at h';obtain rfl:=Option.some.inj h';exact .ptr a L hs h
 |sliceX a L len k hs h hc0=>intro c hc;exact VG.backS hm hs h hc
 |sliceI a L len m c' hs h _ _ _=>intro c hc;exact VG.backS hm hs h hc
 |sliceE a a' x hs=>
  intro c hc;rcases hc.sliceL with ⟨hs',_⟩|⟨_,⟨x2,h2⟩,a2,c2,rfl,q⟩
  ·rw[hs]at hs';cases hs'
  ·rcases q with ⟨_,rfl⟩|q
   ·exact .sliceE a a2 x hs
   ·unfold slack at q;omega
 |sliceZ a a' x c1 hs=>
  intro c hc;rcases hc.sliceL with ⟨hs',_⟩|⟨_,⟨x2,h2⟩,a2,c2,rfl,q⟩
  ·rw[hs]at hs';cases hs'
  ·exact .sliceZ a a2 x c2 hs
 |mapR id L h=>
  intro c hc;have e:=hm _ _ h;cases hc with
  |flat _ h'=>simp[flat1]at h'
  |mapR _ L' h'=>rw[e]at h';obtain rfl:=Option.some.inj h';exact .mapR id L h
 |yield y L h=>
  intro c hc;have e:=hm _ _ h;cases hc with
  |flat _ h'=>simp[flat1]at h'
  |yield _ L' h'=>rw[e]at h';obtain rfl:=Option.some.inj h';exact .yield y L h
 |func f x y x' y' hx hy h1 h2 ih1 ih2=>
  intro c hc;cases hc with
  |flat _ h'=>simp[flat1]at h'
  |func _ _ _ x2 y2 hx2 hy2 k1 k2=>
   refine .func f x y x2 y2 hx2 hy2 (fun i u v hu hv=>?_) (fun i u v hu hv=>?_)
   ·have:=(List.getElem?_eq_some_iff.1 hu).1
    exact ih1 i u _ hu (List.getElem?_eq_getElem (by omega)) v (k1 i u v hu hv)
   ·have:=(List.getElem?_eq_some_iff.1 hu).1
    exact ih2 i u _ hu (List.getElem?_eq_getElem (by omega)) v (k2 i u v hu hv)
 |agg x x' hx h1 ih=>
  intro c hc;cases hc with
  |flat _ h'=>simp[flat1]at h'
  |agg _ x2 hx2 k1=>
   refine .agg x x2 hx2 (fun i u v hu hv=>?_);have:=(List.getElem?_eq_some_iff.1 hu).1;exact ih i u _ hu (List.getElem?_eq_getElem (by omega)) v (k1 i u v hu hv)
 |tuple x x' hx h1 ih=>
  intro c hc;cases hc with
  |flat _ h'=>simp[flat1]at h'
  |tuple _ x2 hx2 k1=>
   refine .tuple x x2 hx2 (fun i u v hu hv=>?_);have:=(List.getElem?_eq_some_iff.1 hu).1;exact ih i u _ hu (List.getElem?_eq_getElem (by omega)) v (k1 i u v hu hv)
theorem BR.back{G G':Nat->Option Loc}(hm:∀id L,G id=some L->G' id=some L){b:Blk}{L:Loc}{o0 o:Option Obj}(h0:BR G b L o0)(h:BR G' b L o):BR G b L o:=by
 cases b with
 |dead=>trivial
 |live wr es cells=>
  obtain⟨_,cs0,e0,f0,_,q3,_⟩:=h0;obtain⟨h1,cs,e,fr,h2,h3,h4⟩:=h;refine⟨h1,cs,e,fr,h2,fun i v hi=>?_,h4⟩;obtain⟨c0,_,k2⟩:=q3 i v hi;obtain⟨c,r1,r2⟩:=h3 i v hi;exact⟨c,r1,k2.back hm c r2⟩
 |map es=>
  obtain⟨ces0,_,_,q2⟩:=h0;obtain⟨ces,clock,h1,h2⟩:=h;refine⟨ces,clock,h1,h2.1,fun i e c he hc=>⟨(h2.2 i e c he hc).1,?_⟩⟩;have:=(List.getElem?_eq_some_iff.1 he).1;exact(q2.2 i e _ he (List.getElem?_eq_getElem (by rw[<-q2.1];exact this))).2.back hm _ (h2.2 i e c he hc).2
 |loop st pend f nt env ps assign body=>
  obtain⟨_,_,_,_,_,_,_,q4⟩:=h0;obtain⟨fn,tmps,params,D,h1,h2,h3,h4⟩:=h;refine⟨fn,tmps,params,D,h1,h2,h3,fun t v hv=>⟨(h4 t v hv).1,(q4 t v hv).2.back hm _ (h4 t v hv).2⟩⟩
