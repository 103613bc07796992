import Derived.Test.YtlimjlpjldijdaaSymC
import Derived.Test.YtlimjlpjldijdaaSimF
import Derived.Maps.RangeRun
set_option linter.unusedSimpArgs false
set_option linter.unusedVariables false
namespace Go.Sim
open Go.RowKit
variable{P:Program}
def WN(P:Program)(nt:Nat)(c:Code)(s:St)(Q:Exit->St->Prop):Prop:=
 ∀(J:Inj) (w:World) (a:Act),HR J s w->ER J s a->nt<=a.tmps.size->c.wpIn (Wd none) 0 P (fun e a' w'=>∃s',Q e s'/\PostM J s w a s' a' w') a w
theorem WN.mono{nt:Nat}{c:Code}{s:St}{Q Q':Exit->St->Prop}(h:WN P nt c s Q)(hq:∀e s',Q e s'->Q' e s'):WN P nt c s Q':=
 fun J w a hR hE hn=>wpIn_mono (h J w a hR hE hn) (fun e a' w' ⟨s',q,p⟩=>⟨s',hq e s' q,p⟩)
theorem PostM.self{J:Inj}{s:St}{w:World}{a:Act}(hR:HR J s w)(hE:ER J s a):PostM J s w a s a w:=⟨J,.refl hR,hE,rfl,.none _ _ _ _,.refl _ _⟩
theorem WN.det{run:FuncId->Nat->Code->St->Option (Exit×St)}(hr:RunOK P run){f:FuncId}{nt:Nat}{c:Code}{s s':St}{x:Exit}{Q:Exit->St->Prop}(h:run f nt c s=some (x,s'))(hq:Q x s'):WN P nt c s Q:=
 fun J w a hR hE hn=>wpIn_mono (hr f nt c s x s' h none (.inl rfl) J w a hR hE hn) (fun e a' w' ⟨he,p⟩=>⟨s',by rw[he];exact hq,p⟩)
theorem WN.seq{nt:Nat}{c d:Code}{s:St}{Q:Exit->St->Prop}(h:WN P nt c s (fun e s1=>match e with | .normal=>WN P nt d s1 Q|e=>Q e s1)):WN P nt (.seq c d) s Q:=by
 intro J w a hR hE hn;refine wpIn_seq (wpIn_mono (h J w a hR hE hn) ?_);rintro e a1 w1 ⟨s1,q,J1,q1,q2,q3,q4,q5⟩;cases e with
 |normal=>
  show d.wpIn (Wd none) 0 P _ a1 w1;refine wpIn_mono (q J1 w1 a1 q1.hr q2 (by rw[q3];exact hn)) ?_;rintro e a2 w2 ⟨s2,r,p⟩;exact⟨s2,r,PostM.trans q1 q3 q4 q5 p⟩
 |_=>exact then_other (by simp) ⟨s1,q,J1,q1,q2,q3,q4,q5⟩
theorem WN.cond{nt:Nat}{x:Operand}{c d:Code}{s:St}{t:Bool}{Q:Exit->St->Prop}(ht:evalA s x=some (.bool t))(h:WN P nt (bif t then c else d) s Q):WN P nt (.cond x c d) s Q:=by
 intro J w a hR hE hn;have:=((hE.eval ht).of_ne (fun a=>by simp)).bool;refine wpIn_cond this ?_;have:=h J w a hR hE hn;cases t<;>exact this
def blockX(id:Nat):Exit->Exit
 | .exit i=>bif Nat.beq i id then .normal else .exit i
 |e=>e
theorem WN.block{nt id:Nat}{c:Code}{s:St}{Q:Exit->St->Prop}(h:WN P nt c s (fun e s1=>Q (blockX id e) s1)):WN P nt (.block id c) s Q:=by
 intro J w a hR hE hn;refine wpIn_block (wpIn_mono (h J w a hR hE hn) ?_);rintro e a1 w1 ⟨s1,q,hp⟩;cases e with
 |exit i=>
  simp only[blockX]at q;by_cases hi:i=id
  ·rw[show Nat.beq i id=true by rw[hi];exact Nat.beq_refl _,cond_true]at q
   simp only[Exit.inBlock,if_pos hi];exact⟨s1,q,hp⟩
  ·rw[show Nat.beq i id=false from by cases c:Nat.beq i id with|false=>rfl|true=>exact absurd (Nat.eq_of_beq_eq_true c) hi,cond_false]at q
   simp only[Exit.inBlock,if_neg hi];exact⟨s1,q,hp⟩
 |_=>exact⟨s1,q,hp⟩
theorem rounds_more{F:Fence}{n:Nat}{c:Code}{Q:Exit->Act->World->Prop}:∀(m:Nat) (a:Act) (w:World),Code.roundsIn F n P c Q m a w->Code.roundsIn F n P c Q (m+1) a w
 |0,a,w,h=>h.elim
 |m+1,a,w,h=>wpIn_mono h (fun e a' w' q=>by
   cases e with
   |normal=>exact rounds_more m a' w' q
   |_=>exact q)
theorem WN.loop{H:Hint}{f:FuncId}{kn:Nat}{nt:Nat}{c:Code}{Q:Exit->St->Prop}(I:Nat->St->Prop)(hI:∀m s,I m s->WN P nt c s (fun e s1=>match e with | .normal=>∃m' s2,m'<m/\norm H f c kn s1=some s2/\I m' s2|e=>Q e s1)):∀(m:Nat) (s:St),I m s->WN P nt (.loop c) s Q:=by
 intro m s hs J w a hR hE hn;have key:∀(m:Nat) (s:St),I m s->∀(J:Inj) (w:World) (a:Act),HR J s w->ER J s a->nt<=a.tmps.size->∀(R:Exit->Act->World->Prop),(∀e a' w' s',Q e s'->PostM J s w a s' a' w'->R e a' w')->Code.roundsIn (Wd none) 0 P c R (m+1) a w:=by
  intro m
  induction m using Nat.strongRecOn with
  |_ m ih=>
  intro s hs J w a hR hE hn R hRR;refine wpIn_mono (hI m s hs J w a hR hE hn) ?_;rintro e a1 w1 ⟨s1,q,J1,q1,q2,q3,q4,q5⟩;cases e with
  |normal=>
   obtain⟨m',s2,hm,hnm,hs2⟩:=q;obtain⟨J2,g1,g2,g3⟩:=norm_sim hnm q1.hr q2;have:=ih m' hm s2 hs2 J2 w1 a1 g1.hr g2 (by rw[q3];exact hn) R (fun e a' w' s' hq hp=>hRR e a' w' s' hq (PostM.trans q1 q3 q4 q5 (PostM.trans g1 rfl (.none _ _ _ _) (by rw[g3];exact .refl _ _) hp)));show Code.roundsIn (Wd none) 0 P c R m a1 w1;obtain⟨d,rfl⟩:∃d,m=m'+1+d:=⟨m-(m'+1),by omega⟩;clear ih hRR hs
   induction d with
   |zero=>exact this
   |succ d ihd=>exact rounds_more _ _ _ (ihd (by omega))
  |_=>exact hRR _ _ _ s1 q ⟨J1,q1,q2,q3,q4,q5⟩
 exact wpIn_loop_rounds (m+1) (key m s hs J w a hR hE hn _ (fun e a' w' s' hq hp=>⟨s',hq,hp⟩))
theorem Good.ofDrew{J:Inj}{s:St}{w:World}{s':St}{J':Inj}{w':World}(h:Good J s w.drew J' s' w'):Good J s w J' s' w':=
 { hr:=h.hr,mono:=h.mono,next:=h.next,low:=h.low,size:=h.size,os:=h.os,tape:=h.tape,output:=h.output,fresh:=h.fresh,lfresh:=h.lfresh,frame:=h.frame }
theorem WN.next{H:Hint}{call:CallT}(hcall:CallOK2 P call){f:FuncId}{nt id d:Nat}{x:Operand}{o:Oper}{rest:List Oper}{ops:Array Oper}(hops:ops.toList=o :: rest)(ho:o.op=.next x false)(hd:o.dst=some d)(hdn:d<nt)(hg:o.guard=none)
  {s:St} {r m:Nat} {seen:List Nat} {es:List (Value×Value)} (hx:evalA s x=some (.pointer (some ⟨r,0,none⟩))) (hr:s.h.m.get r=some (.iter (some m) es.length seen)) (hm:s.h.m.get m=some (.map es)) {Q:Exit->St->Prop}
  (hdone:(∀i,i<es.length->i∈seen)->∃s2,opsN P H call f nt ops rest { s with env:=s.env.set d (.tuple #[.bool false]) }=some s2/\Q .normal s2)
  (hmore:∀i e,es[i]?=some e->i∉seen->∃s2,opsN P H call f nt ops rest { s with env:=s.env.set d (.tuple #[.bool true,e.1,e.2]),h:=s.h.putB r (.iter (some m) es.length (seen++[i])) }=some s2/\Q .normal s2):WN P nt (.region id ops false) s Q:=by
 intro J w a hR hE hn;refine wpIn_region ?_;have hsz:ops.size=rest.length+1:=by have:=congrArg List.length hops;simpa using this
 have h0:ops[0]?=some o:=by rw[<-Array.getElem?_toList,hops];rfl
 have hrest:∀j,rest[j]?=ops[1+j]?:=fun j=>by rw[<-Array.getElem?_toList,hops,Nat.add_comm 1 j];rfl
 rw[List.range_eq_range',hsz,List.range'_succ];have hw:Region.wanted o (yielded ops a.tmps)=true:=by unfold Region.wanted;rw[hg]
 simp only[wpOpsIn,h0,hw,if_true];obtain⟨_,L,hL,hev⟩:=((hE.eval hx).of_noLoc rfl).ptrL;obtain⟨ho0,L',hL',hit⟩:=hR.gcon _ _ _ hL hr;obtain⟨ces,hw2,hmr⟩:=hR.gcon _ _ _ hL' hm;have hlen:es.length=ces.size:=by have:=hmr.1.1;simpa using this
 have hev':a.eval x=.pointer (some ⟨L.b,0,none⟩):=by rw[hev,ho0];rfl
 have hold:∀c∈ces.toList,c.born<es.length:=fun c hc=>by
  obtain⟨i,hi,rfl⟩:=List.getElem_of_mem hc;have:=hmr.2 i _ (List.getElem?_eq_getElem hi);rw[this,hlen];simpa using hi
 have hnd:∀c,o.op≠.defer c:=fun c e=>by rw[ho]at e;cases e
 have hex:∀(ρ:Operand->Value),execOp ρ o=(Instr.next (ρ x) false o.type >>= fun u=>pure (Next.value u)):=fun ρ=>by
  unfold execOp;simp only[ho]
 have fin:∀(v:Value) (s1:St),Sim1 P J s w (Instr.next (a.eval x) false o.type) v s1 (s.h.next<=·) (fun _=>False)->(∃s2,opsN P H call f nt ops rest { s1 with env:=s.env.set d v }=some s2/\Q .normal s2)->
   o.wpIn (Wd none) 0 P a w (wpOpsIn (Wd none) 0 P ops (fun e a' w'=>∃s',Q e s'/\PostM J s w a s' a' w') (List.range' (0+1) rest.length)) (fun e a' w'=>∃s',Q e s'/\PostM J s w a s' a' w'):=by
  intro v s1 hs1 ⟨s2,h1,h2⟩;have hop:=Sim1.op hs1;rw[<-hex]at hop;refine SimOp.goes hnd hop _ _ ?_ none;intro c w' J' hG hlm hv henv hA _;have hE':ER J' { s1 with env:=s.env.set d v } (a.put o.dst c):=by
   rw[hd];intro t u hu;have hu':(s.env.set d v).get t=some u:=hu;rw[Tri.get_set]at hu';show t<(a.tmps.setIfInBounds d c).size/\VR J' u ((a.tmps.setIfInBounds d c).getD t undef);by_cases e:d=t
   ·rw[if_pos e]at hu'
    subst e;obtain rfl:=Option.some.inj hu';refine⟨by simp;omega,?_⟩;rw[show(a.tmps.setIfInBounds d c).getD d undef=c by simp[Array.getD,show d<a.tmps.size by omega]];exact hv
   ·rw[if_neg e]at hu'
    obtain⟨k1,k2⟩:=hE t u hu';refine⟨by simpa using k1,?_⟩;rw[show(a.tmps.setIfInBounds d c).getD t undef=a.tmps.getD t undef by simp[Array.getD,k1,e]];exact k2.mono hG.mono hlm
  refine opsN_goes hcall rest 1 _ J' w' _ s2 hrest h1 (hG.env _).hr hE' (by rw[put_size];exact hn) ?_;rintro a2 w2 ⟨J2,q1,q2,q3,q4,q5⟩;refine⟨s2,h2,J2,(hG.env (s.env.set d v)).trans q1,q2,by rw[q3,put_size],by rw[q4,put_defers];exact .none _ _ _ _,hA.trans (q5.mono (fun k hk=>Nat.le_trans hG.next hk))⟩
 rcases run_next_at (P:=P) w o.type L.b L'.b es.length es.length seen.toArray ces ces.size hit hw2 hold (Nat.le_refl _)with ⟨h0',hrun⟩|⟨c,hc,w1,hw1,hrun⟩
 ·refine fin (.tuple #[.bool false]) s ?_ (hdone ?_)
  ·rw[hev']
   exact Sim1.still hR hrun (.glob _ _ (VG.of_flatT rfl))
  ·intro i hi
   by_cases hs:i∈seen
   ·exact hs
   ·exfalso
    have hi':i<ces.size:=by omega
    have hb:=hmr.2 i ces[i] (by simp[hi']);have:ces[i]∈leftOf ces seen.toArray:=by
     unfold leftOf;rw[Array.mem_filter];refine⟨Array.getElem_mem hi',?_⟩;rw[hb];simpa using hs
    have:=Array.size_pos_of_mem this;omega
 ·have hc':c∈ces/\¬c.born∈seen:=by
   have:c∈leftOf ces seen.toArray:=by simpa using hc
   unfold leftOf at this;rw[Array.mem_filter]at this;exact⟨this.1,by simpa using this.2⟩
  obtain⟨i,hi,hci⟩:=Array.getElem_of_mem hc'.1;have hb:=hmr.2 i c (by simp[hi,hci]);have hil:i<es.length:=by omega
  obtain⟨k1,k2,k3⟩:=hmr.1.2 i es[i] c (List.getElem?_eq_getElem hil) (by simp[hi,hci]);refine fin (.tuple #[.bool true,es[i].1,es[i].2]) { s with h:=s.h.putB r (.iter (some m) es.length (seen++[i])) } ?_ (hmore i es[i] (List.getElem?_eq_getElem hil) (by rw[<-hb];exact hc'.2));have hR1:HR J s w1:=by rcases hw1 with rfl|rfl;exact hR;exact hR.drew
  have hG:=hR1.putB hL hr rfl (o:=.mapIter (some L'.b) es.length (seen.toArray.push c.born) ces.size) (by simp) (b:=.iter (some m) es.length (seen++[i])) ⟨ho0,L',hL',by rw[hb,<-hlen];simp⟩;have hG':Good J s w J { s with h:=s.h.putB r (.iter (some m) es.length (seen++[i])) } (w1.putObj L.b (.mapIter (some L'.b) es.length (seen.toArray.push c.born) ces.size)):=by
   rcases hw1 with rfl|rfl
   ·exact hG
   ·exact hG.ofDrew
  refine⟨_,_,J,by rw[hev'];exact hrun,hG',fun _ _ h=>h,.glob _ _ (.tuple _ _ (by simp) fun j u z hu hz=>?_),rfl,.refl _ _,.refl _ _⟩
  match j with
  |0=>simp at hu hz;subst hu;subst hz;exact .flat _ rfl
  |1=>simp at hu hz;subst hu;subst hz;rw[k1];exact VG.of_flat (by rw[<-k1];exact k3)
  |2=>simp at hu hz;subst hu;subst hz;exact k2
  |j+3=>simp at hu
theorem WN.does{g : FuncId}{fn : Func}{c : Code}(hfn : P.funcs[g]? = some fn)(hb : fn.body = some c)(hname : (fn.name == "runtime.NumGoroutine") = false){args : List Value}{h : AHeap}{R : Value → AHeap → Prop}
  (hw:WN P fn.ntmps c { env:=argsEnv args 0 .leaf,kn:=0,K:=.leaf,h:=h } (fun e s'=>(e=.normal\/e=.ret)/\∃v h',endA P fn s'=some (v,h')/\R v h'))
  {G:Nat->Option Loc} {w:World} {cargs:List Value} (hR:HR ⟨G,fun _=>none⟩ (St0 h) w) (hA:VGs G args cargs) :
  Does P g cargs.toArray w (fun c w'=>∃v h' G',R v h'/\VG G' v c/\Good ⟨G,fun _=>none⟩ (St0 h) w ⟨G',fun _=>none⟩ (St0 h') w'/\Adds (h.next<=·) G G'):=by
 left;refine⟨callFunc_enter hfn (by rw[hb];rfl) hname,(callsIn_wide (n:=0)).1 (callsIn_of_wp_marks hfn hb trivial ?_)⟩;have hR':HR ⟨G,fun _=>none⟩ { env:=argsEnv args 0 .leaf,kn:=0,K:=.leaf,h:=h } w:=hR.env _;have hE':ER ⟨G,fun _=>none⟩ { env:=argsEnv args 0 .leaf,kn:=0,K:=.leaf,h:=h } { tmps:=cargs.toArray++Array.replicate (fn.ntmps-cargs.toArray.size) undef,defers:=[] }:=by
  intro t u hu;simp only[argsEnv_get,Nat.zero_le,true_and,Nat.zero_add,Nat.sub_zero]at hu;by_cases ht:t<args.length
  ·rw[if_pos ht]at hu
   have ht':t<cargs.length:=by rw[<-hA.1];exact ht
   refine⟨by simp;omega,?_⟩;have:(cargs.toArray++Array.replicate (fn.ntmps-cargs.toArray.size) undef).getD t undef=cargs[t]:=by
    simp[Array.getD,ht',Array.getElem_append,show t<cargs.length+(fn.ntmps-cargs.length) by omega]
   rw[this];exact .glob _ _ (hA.2 t u _ hu (by simp[ht']))
  ·rw[if_neg ht]at hu;simp[Tri.get]at hu
 have hrun':=hw _ w _ hR' hE' (by simp;omega);refine wpIn_mono (F:=Fence.wide) hrun' ?_;rintro e a' w' ⟨s',⟨hx,v,h',hend,hRv⟩,J',q1,q2,q3,⟨Ds,q4,q6,q7⟩,q5⟩;simp only[List.append_nil]at q4;unfold endA at hend;split at hend
 ·rename_i l hl
  cases hn:l.all noLoc with
  |false=>rw[hn]at hend;simp at hend
  |true=>
   rw[hn]at hend;simp only[cond_true,oi,pj]at hend;obtain⟨rfl,rfl⟩:=hend;have hpost:LeavesInM Fence.wide 0 P fn a'.tmps (fun e w'=>∃c,e=.returned c/\∃v h' G',R v h'/\VG G' v c/\Good ⟨G,fun _=>none⟩ (St0 h) w ⟨G',fun _=>none⟩ (St0 h') w'/\Adds (h.next<=·) G G') a'.defers .returning w':=by
    rw[q4];refine leaves_marks (fun w''=>Good ⟨G,fun _=>none⟩ { env:=argsEnv args 0 .leaf,kn:=0,K:=.leaf,h:=h } w J' s' w'') (fun w'' hG=>?_) Ds w' q6 (fun D hD=>(q7 D hD).2.1) q1 (fun w'' D hG hD=>hG.putD (q7 D hD).1 (q7 D hD).2.2.1 (q7 D hD).2.2.2 _);obtain⟨cv,r1,r2⟩:=results_sim hG.hr q2 hl hn;exact⟨cv,r1,cv,rfl,_,_,J'.g,hRv,r2,hG.bare,q5⟩
   rcases hx with rfl|rfl<;>exact hpost
 ·cases hend
structure WNs(P:Unit->Program)(nt:Nat)(c:Code)(s:SS)(Q:Exit->SS->Prop):Prop where
 go:∀t,Le s t->t.h.low<=t.h.next->WN (P ()) nt c t (fun e t'=>∃s',Le s' t'/\t'.h.low<=t'.h.next/\Q e s')
variable{P:Unit->Program}
theorem WNs.run{H : Hint}{F : Prims}{A : Atoms}(hA : AOK P H F A)(V : Live)(hm : (P ()).follows .mixedOrders = true)(hF : CallOK (P ()) F)(hname : ∀ (g : FuncId) (fn : Func), (P ()).funcs[g]? = some fn → (fn.name == "runtime.NumGoroutine") = false)
  {f:FuncId} {fn:Func} {c0:Code} (hfn:(P ()).funcs[f]?=some fn) (hc0:fn.body=some c0) {c:Code} (hl:loopsOf c=[]) (hr:rangesOf c=[]) {s:SS} {Q:Exit->SS->Prop} (h:wpS P H A V f fn.ntmps c s Q):WNs P fn.ntmps c s Q:=by
 refine⟨?_⟩;intro t hs hlow;have e:=hA.eq;subst e;obtain⟨x,t',s',⟨n,hrun⟩,hs',hq⟩:=wpS_ok hA.keep hfn hc0 c s t Q ⟨(fun b hb=>by rw[hl]at hb;simp at hb),(fun b hb=>by rw[hr]at hb;simp at hb)⟩ hs hlow h;have hk:=(execA_keep hA.keep n).1 _ _ _ _ _ _ hrun;exact WN.det (execA_ok hm hF hA.keep hname n).1 hrun ⟨s',hs',by have h1:=hk.next;have h2:=hk.low;omega,hq⟩
theorem WNs.seq{nt:Nat}{c d:Code}{s:SS}{Q:Exit->SS->Prop}(h:WNs P nt c s (fun e s1=>match e with | .normal=>WNs P nt d s1 Q|e=>Q e s1)):WNs P nt (.seq c d) s Q:=by
 refine⟨?_⟩;intro t hs hlow;refine WN.seq ((h.go t hs hlow).mono ?_);rintro e t1 ⟨s1,q1,q2,q3⟩;cases e with
 |normal=>exact q3.go t1 q1 q2
 |_=>exact⟨s1,q1,q2,q3⟩
theorem Le.ev'{s:SS}{t:St}(hs:Le s t){x:Operand}{v:Value}(hx:Sim.ev s x=some v):evalA t x=some v:=by
 have:=hs.ev hx;exact this
theorem WNs.cond{nt:Nat}{x:Operand}{c d:Code}{s:SS}{b:Bool}{Q:Exit->SS->Prop}(hb:ev s x=some (.bool b))(h:WNs P nt (bif b then c else d) s Q):WNs P nt (.cond x c d) s Q:=
 ⟨fun t hs hlow=>WN.cond (hs.ev' hb) (h.go t hs hlow)⟩
theorem WNs.block{nt id:Nat}{c:Code}{s:SS}{Q:Exit->SS->Prop}(h:WNs P nt c s (fun e s1=>Q (blockX id e) s1)):WNs P nt (.block id c) s Q:=
 ⟨fun t hs hlow=>WN.block ((h.go t hs hlow).mono (fun e t' q=>q))⟩
theorem WNs.skip{nt:Nat}{s:SS}{Q:Exit->SS->Prop}(h:Q .normal s):WNs P nt .skip s Q:=
 ⟨fun t hs hlow J w a hR hE hn=>wpIn_skip ⟨t,⟨s,hs,hlow,h⟩,.self hR hE⟩⟩
theorem WNs.ret{nt:Nat}{s:SS}{Q:Exit->SS->Prop}(h:Q .ret s):WNs P nt .ret s Q:=
 ⟨fun t hs hlow J w a hR hE hn=>wpIn_ret ⟨t,⟨s,hs,hlow,h⟩,.self hR hE⟩⟩
theorem WNs.exit{nt id:Nat}{s:SS}{Q:Exit->SS->Prop}(h:Q (.exit id) s):WNs P nt (.exit id) s Q:=
 ⟨fun t hs hlow J w a hR hE hn=>wpIn_exit ⟨t,⟨s,hs,hlow,h⟩,.self hR hE⟩⟩
theorem WNs.less{nt:Nat}{c:Code}{s s0:SS}{Q:Exit->SS->Prop}(he:∀i v,lk s0.env i=some v->lk s.env i=some v)(hK:∀i v,lk s0.K i=some v->lk s.K i=some v)(hk:s0.kn=s.kn)(hh:s0.h=s.h)(h:WNs P nt c s0 Q):WNs P nt c s Q:=
 ⟨fun t hs hlow=>h.go t ⟨fun i v hi=>hs.env i v (he i v hi),fun i v hi=>hs.K i v (hK i v hi),by rw[hk];exact hs.kn,by rw[hh];exact hs.h⟩ hlow⟩
theorem lk_mem{α:Type}:∀{l:List (Nat×α)} {i:Nat} {v:α},lk l i=some v->(i,v)∈l
 | [],i,v,h=>by simp[lk]at h
 |p :: l,i,v,h=>by
  rw[lk_cons]at h;by_cases e:p.1=i
  ·rw[if_pos e]at h
   obtain rfl:=Option.some.inj h;subst e;exact List.mem_cons_self
  ·rw[if_neg e]at h
   exact List.mem_cons_of_mem _ (lk_mem h)
theorem WNs.lessE{nt:Nat}{c:Code}{env env0:List (Nat×Value)}{kn:Nat}{K:List (Nat×List Value)}{h:AHeap}{Q:Exit->SS->Prop}(he:∀p∈env0,lk env p.1=some p.2)(hw:WNs P nt c ⟨env0,kn,K,h⟩ Q):WNs P nt c ⟨env,kn,K,h⟩ Q:=
 WNs.less (s0:=⟨env0,kn,K,h⟩) (fun i v hi=>he _ (lk_mem hi)) (fun i v hi=>hi) rfl rfl hw
def keepH(l:List Tmp):Hint:=⟨fun _ _=>false,fun _ _=>some l⟩
theorem WNs.loop(l:List Tmp)(kn:Nat){nt:Nat}{c:Code}{Q:Exit->SS->Prop}(I:Nat->SS->Prop)(hI:∀m s,I m s->WNs P nt c s (fun e s1=>match e with | .normal=>∃m' s2,m'<m/\normS (keepH l) 0 c kn s1=some s2/\I m' s2|e=>Q e s1)){m:Nat}{s:SS}(hs0:I m s):WNs P nt (.loop c) s Q:=by
 refine⟨?_⟩;intro t hs hlow;refine WN.loop (H:=keepH l) (f:=0) (kn:=kn) (fun m t=>∃s,Le s t/\t.h.low<=t.h.next/\I m s) ?_ m t ⟨s,hs,hlow,hs0⟩;rintro m t ⟨s,q1,q2,q3⟩;refine((hI m s q3).go t q1 q2).mono ?_;rintro e t1 ⟨s1,r1,r2,r3⟩;cases e with
 |normal=>
  obtain⟨m',s2,k1,k2,k3⟩:=r3;obtain⟨t0,n1,n2,n3⟩:=normS_ok r1 k2;exact⟨m',t0,k1,n1,s2,n2,by rw[n3];exact r2,k3⟩
 |_=>exact⟨s1,r1,r2,r3⟩
theorem WNs.next{nt id d d2:Nat}{x:Operand}{o o2:Oper}{ops:Array Oper}(hops:ops.toList=[o,o2])(ho:o.op=.next x false)(hd:o.dst=some d)(hdn:d<nt)(hg:o.guard=none)(ho2:o2.op=.extract (.tmp d) 0)(hd2:o2.dst=some d2)(hdn2:d2<nt)(hg2:o2.guard=none)
  {s:SS} {r m:Nat} {seen:List Nat} {es:List (Value×Value)} (hx:ev s x=some (.pointer (some ⟨r,0,none⟩))) (hr:s.h.m.get r=some (.iter (some m) es.length seen)) (hm:s.h.m.get m=some (.map es)) {Q:Exit->SS->Prop}
  (hdone:(∀i,i<es.length->i∈seen)->Q .normal { s with env:=(d2,.bool false) :: (d,.tuple #[.bool false]) :: s.env })
  (hmore:∀i e,es[i]?=some e->i∉seen->Q .normal { s with env:=(d2,.bool true) :: (d,.tuple #[.bool true,e.1,e.2]) :: s.env,h:=s.h.putB r (.iter (some m) es.length (seen++[i])) }):WNs P nt (.region id ops false) s Q:=by
 refine⟨?_⟩;intro t hs hlow;have hcall:CallOK2 (P ()) (fun _ _ _=>none):=⟨fun g args h v h' hc=>(by cases hc),fun g args h v h' hc=>(by cases hc)⟩;have fin:∀(b:Bool) (vs:List Value) (h':AHeap),opsN (P ()) noHint (fun _ _ _=>none) 0 nt ops [o2] { t with env:=t.env.set d (.tuple (.bool b :: vs).toArray),h:=h' }=some { t with env:=(t.env.set d (.tuple (.bool b :: vs).toArray)).set d2 (.bool b),h:=h' }:=by
  intro b vs h';have hbl:Nat.blt d2 nt=true:=ble_true hdn2;have hw:wantedA ops o2 { t with env:=t.env.set d (.tuple (.bool b :: vs).toArray),h:=h' }=some true:=by unfold wantedA;rw[hg2]
  have h1:oneA (P ()) noHint (fun _ _ _=>none) 0 o2 { t with env:=t.env.set d (.tuple (.bool b :: vs).toArray),h:=h' }=some (.bool b,{ t with env:=t.env.set d (.tuple (.bool b :: vs).toArray),h:=h' }):=by
   unfold oneA;rw[ho2];simp only[isCall,opA,evalA,Tri.get_set,if_true];rfl
  simp only[opsN,hw,h1,hd2,putA,hbl,cond_true]
 have le:∀(b:Bool) (vs:List Value) (h':AHeap),Le { s with env:=(d2,.bool b) :: (d,.tuple (.bool b :: vs).toArray) :: s.env,h:=h' } { t with env:=(t.env.set d (.tuple (.bool b :: vs).toArray)).set d2 (.bool b),h:=h' }:=by
  intro b vs h';refine⟨fun i v hv=>?_,hs.K,hs.kn,rfl⟩;show((t.env.set d _).set d2 _).get i=some v;simp only[lk_cons]at hv;rw[Tri.get_set,Tri.get_set];by_cases e2:d2=i
  ·rw[if_pos e2]at hv ⊢;exact hv
  ·rw[if_neg e2]at hv ⊢
   by_cases e1:d=i
   ·rw[if_pos e1]at hv ⊢;exact hv
   ·rw[if_neg e1]at hv ⊢;exact hs.env i v hv
 refine WN.next (H:=noHint) (f:=0) hcall hops ho hd hdn hg (hs.ev' hx) (by rw[hs.h];exact hr) (by rw[hs.h];exact hm) (fun hall=>?_) (fun i e he hi=>?_)
 ·refine⟨_,fin false [] t.h,_,le false [] t.h,hlow,?_⟩
  rw[hs.h];exact hdone hall
 ·refine⟨_,fin true [e.1,e.2] (t.h.putB r (.iter (some m) es.length (seen++[i]))),_,le true [e.1,e.2] _,?_,?_⟩
  ·show Nat.min t.h.low r<=t.h.next
   exact Nat.le_trans (Nat.min_le_left _ _) hlow
  ·rw[hs.h]
   exact hmore i e he hi
theorem WNs.does{g : FuncId}{fn : Func}{c : Code}(hfn : (P ()).funcs[g]? = some fn)(hb : fn.body = some c)(hname : (fn.name == "runtime.NumGoroutine") = false){args : List Value}{h : AHeap}{i : Tmp}(hres : fn.results.toList = [.tmp i]){R : Value → AHeap → Prop}(hl : h.low ≤ h.next)
  (hw:WNs P fn.ntmps c ⟨argsL args 0 [],0,[],h⟩ (fun e s'=>(e=.normal\/e=.ret)/\∃v,lk s'.env i=some v/\noLoc v=true/\R v s'.h))
  {G:Nat->Option Loc} {w:World} {cargs:List Value} (hR:HR ⟨G,fun _=>none⟩ (St0 h) w) (hA:VGs G args cargs) :
  Does (P ()) g cargs.toArray w (fun c w'=>∃v h' G',R v h'/\VG G' v c/\Good ⟨G,fun _=>none⟩ (St0 h) w ⟨G',fun _=>none⟩ (St0 h') w'/\Adds (h.next<=·) G G'):=by
 refine WN.does hfn hb hname ?_ hR hA;have e:=argsL_E args 0 [];simp only[E]at e;rw[e];refine(hw.go _ (Le_refl ⟨argsL args 0 [],0,[],h⟩) hl).mono ?_;rintro x t' ⟨s',q1,q2,hx,v,q3,q4,q5⟩;refine⟨hx,v,s'.h,?_,q5⟩;unfold endA;rw[hres];simp only[resA,q1.env _ _ q3];simp only[List.all_cons,q4,List.all_nil,Bool.and_true,cond_true,resultA,q1.h]
end Go.Sim
namespace Go.Sim
open Go.RowKit
theorem Does.newList{P:Program}{g:FuncId}{args:Array Value}{G:Nat->Option Loc}{h:AHeap}{w:World}(hR:HR ⟨G,fun _=>none⟩ (St0 h) w){es:Nat}{l:List Value}{n:Nat}(hl:l.length=n*es)(hn:0<n)(hes:0<es)(hns:n<slack)(hf:l.all flat1=true)
  (hd:Does P g args w (fun c w'=>∃v h' G',(∃b c0,v=.slice (some ⟨b,0,none⟩) n c0/\h'.m.get b=some (.live true es l)/\h.next<=b/\(c0=n\/c0=someCap es n)/\h.next<=h'.low)/\VG G' v c/\Good ⟨G,fun _=>none⟩ (St0 h.anew) w ⟨G',fun _=>none⟩ (St0 h') w'/\Adds (h.next<=·) G G')) :
  Does P g args w (fun c w'=>∃G',VG G' (.slice (some ⟨h.next,0,none⟩) n (someCap es n)) c/\Good ⟨G,fun _=>none⟩ (St0 h) w ⟨G',fun _=>none⟩ (St0 (h.push es l)) w'/\Adds (h.next<=·) G G'):=by
 refine hd.mono (fun c w'=>?_);rintro⟨v,h',G',⟨b,c0,rfl,ho,hb,hc,hlow⟩,hv,hG,_⟩;have key:∃L c',G' b=some L/\c=.slice (some ⟨L.b,L.o,none⟩) n c'/\n<=c'/\L.es=es/\L.o+c'*es<=L.tot:=by
  have blk:∀L,G' b=some L->L.es=es/\L.o+n*es<=L.tot:=fun L hL=>by
   obtain⟨h1,cs,e,fr,h2,h3,_⟩:=hG.hr.gcon b L _ hL ho;refine⟨h1,?_⟩;obtain⟨o,ho1,ho2⟩:=hG.hr.gblk b L hL;have hsz:=ho2 cs e fr (by rw[h2]at ho1;exact(Option.some.inj ho1).symm);have hpos:0<n*es:=Nat.mul_pos hn hes;obtain⟨c1,hc1,_⟩:=h3 (n*es-1) (l[n*es-1]'(by omega)) (List.getElem?_eq_getElem (by omega));have:=(Array.getElem?_eq_some_iff.1 hc1).1;omega
  cases hv with
  |flat _ h=>simp[flat1]at h
  |sliceX _ L _ _ hs hL hcs=>
   have hL':G' b=some L:=hL;obtain⟨k1,k2⟩:=blk L hL';refine⟨L,c0,hL',rfl,?_,k1,?_⟩
   ·rcases hc with rfl|rfl
    ·exact Nat.le_refl _
    ·exfalso;unfold someCap slack at hcs;omega
   ·rcases hc with rfl|rfl
    ·exact k2
    ·exfalso;unfold someCap slack at hcs;omega
  |sliceI _ L _ m c' hs hL hm hms ht=>
   have hL':G' b=some L:=hL;obtain⟨k1,k2⟩:=blk L hL';have hmn:m=n:=by
    rcases hc with hc|hc
    ·unfold someCap slack at hc;unfold slack at hns;omega
    ·rw[k1]at hc
     unfold someCap at hc;omega
   refine⟨L,c',hL',rfl,by omega,k1,?_⟩;rw[k1]at ht;exact ht
  |sliceE _ _ _ hs=>cases hs
  |sliceZ _ _ _ _ hs=>cases hs
 obtain⟨L,c',hL,rfl,hnc,hes',htot⟩:=key;have hGb:G b=none:=by
  cases hx:G b with
  |none=>rfl
  |some L1=>have:=hR.gdom b L1 hx;have:b<h.next:=this;omega
 have hnew:w.heap.size<=L.b:=by
  rcases hG.fresh b L hL hGb with h1|⟨id0,L0,h1,h2,h3⟩
  ·exact h1
  ·have:=hR.gdom id0 L0 h1
   have h4:id0<h.next:=this;have h5:h'.low<=id0:=h3;omega
 have hold:∀k,k<w.heap.size->w'.heap[k]?=w.heap[k]?:=fun k hk=>hG.frame k hk (fun id L1 h0 _=>by have:=hR.gdom id L1 h0;exact Nat.lt_of_lt_of_le this hlow) (fun t L h=>by cases h)
 let G2:Nat->Option Loc:=fun k=>if k=h.next then some L else G k
 have split:∀k L1,G2 k=some L1->(k=h.next/\L1=L)\/(k≠h.next/\G k=some L1):=fun k L1 h1=>by
  by_cases e:k=h.next
  ·left;simp only[G2,e,if_true,oi]at h1;exact⟨e,h1.symm⟩
  ·right;simp only[G2,e,if_false]at h1;exact⟨e,h1⟩
 have up:∀k L1,G k=some L1->G2 k=some L1:=fun k L1 h1=>by
  have:k<h.next:=hR.gdom k L1 h1;simp only[G2,show ¬k=h.next by omega,if_false,h1]
 have old:∀k,k≠h.next->(h.push es l).m.get k=h.m.get k:=fun k hk=>by
  show(h.m.set h.next _).get k=_;rw[Tri.get_set_ne _ _ (by omega)]
 refine⟨G2,?_,?_,fun k L1 h1=>?_⟩
 ·have:=VG.sliceI (g:=G2) ⟨h.next,0,none⟩ L n n c' rfl (by simp[G2]) hnc hns (by show L.o+0+c'*L.es<=L.tot;rw[hes'];exact htot)
  rw[hes']at this;exact this
 ·refine { hr:=?_,mono:=up,next:=by show h.next<=h.next+1;omega,low:=Nat.le_refl _,size:=hG.size,os:=hG.os,tape:=hG.tape,output:=hG.output,fresh:=?_,lfresh:=(fun t L h=>by cases h),frame:=fun k hk _ _=>hold k hk }
  ·refine { gdom:=?_,gblk:=?_,gcon:=?_,ginj:=?_,ldom:=(fun t L h=>by cases h),lcon:=(fun t L h=>by cases h),linj:=(fun t t' L L' h=>by cases h),sep:=(fun id t L L' _ h=>by cases h) }
   ·intro k L1 h1
    show k<h.next+1;rcases split k L1 h1 with ⟨e,_⟩|⟨_,h2⟩
    ·omega
    ·have:k<h.next:=hR.gdom k L1 h2;omega
   ·intro k L1 h1
    rcases split k L1 h1 with ⟨_,rfl⟩|⟨_,h2⟩
    ·exact hG.hr.gblk b _ hL
    ·exact hG.hr.gblk k L1 (hG.mono k L1 h2)
   ·intro k L1 b1 h1 h2
    rcases split k L1 h1 with ⟨rfl,rfl⟩|⟨hk,h3⟩
    ·have h2':(h.m.set h.next (.live true es l)).get h.next=some b1:=h2
     rw[Tri.get_set_eq]at h2';obtain rfl:=Option.some.inj h2';obtain⟨k1,cs,e,fr,k2,k3,k4⟩:=hG.hr.gcon b _ _ hL ho;refine⟨k1,cs,e,fr,k2,fun i v hi=>?_,k4⟩;obtain⟨cv,q1,q2⟩:=k3 i v hi;have hfv:=List.all_eq_true.1 hf v (List.mem_of_getElem? hi);exact⟨cv,q1,by rw[VG.flat1_eq q2 hfv];exact .flat v hfv⟩
    ·have h2':(h.push es l).m.get k=some b1:=h2
     rw[old k hk]at h2';rw[hold _ (hR.lt h3)];exact(hR.gcon k L1 b1 h3 h2').mono up
   ·intro k k' L1 L2 b1 b2 h1 h2 h3 h4 a1 a2 he
    rcases split k L1 h1 with ⟨e1,rfl⟩|⟨e1,g1⟩<;>rcases split k' L2 h2 with ⟨e2,rfl⟩|⟨e2,g2⟩
    ·rw[e1,e2]
    ·have:=hR.lt g2;omega
    ·have:=hR.lt g1;omega
    ·have h3':(h.push es l).m.get k=some b1:=h3
     have h4':(h.push es l).m.get k'=some b2:=h4;rw[old k e1]at h3';rw[old k' e2]at h4';exact hR.ginj k k' L1 L2 b1 b2 g1 g2 h3' h4' a1 a2 he
  ·intro k L1 h1 h2
   rcases split k L1 h1 with ⟨_,rfl⟩|⟨_,h3⟩
   ·exact .inl hnew
   ·have h2':G k=none:=h2
    rw[h2']at h3;cases h3
 ·rcases split k L1 h1 with ⟨e,_⟩|⟨_,h2⟩
  ·right;show h.next<=k;omega
  ·exact .inl h2
