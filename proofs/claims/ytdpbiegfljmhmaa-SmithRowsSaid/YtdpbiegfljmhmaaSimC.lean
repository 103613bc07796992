import Derived.Test.YtdpbiegfljmhmaaSimB
import Derived.LoopNIn
import Derived.OrdersIn
import Derived.RangeFuncLeaves
import Derived.Laws.Sem
set_option linter.unusedSimpArgs false
set_option linter.unusedVariables false
namespace Go.Sim
variable{P:Program}{w:World}{J:dm}{s:St}
def fV(h:af):St:={ env:=.leaf,kn:=0,K:=.leaf,h:=h }
def pF(P:Program)(g:FuncId)(args:Array Value)(w:World)(R:Value->World->Prop):Prop:=
 ((callFunc g args).run P w=.ok (.enter g args) w/\Calls P g args w (fun e w'=>∃c,e=.returned c/\R c w'))\/∃c w',(callFunc g args).run P w=.ok (.value c) w'/\R c w'
theorem pF.mono{g:FuncId}{args:Array Value}{R R':Value->World->Prop}(h:pF P g args w R)(hr:∀c w',R c w'->R' c w'):pF P g args w R':=by
 rcases h with ⟨h1,h2⟩|⟨c,w',h1,h2⟩
 ·exact .inl ⟨h1,h2.mono fun e w' ⟨c,h3,h4⟩=>⟨c,h3,hr _ _ h4⟩⟩
 ·exact .inr ⟨c,w',h1,hr _ _ h2⟩
theorem pF.calls'{g : FuncId}{fn : Func}{args : Array Value}{R : Value → World → Prop}(h : pF P g args w R)(hf : P.funcs[g]? = some fn)(hb : fn.body.isSome = true)(hname : (fn.name == "runtime.NumGoroutine") = false) :
  Calls P g args w (fun e w'=>∃c,e=.returned c/\R c w'):=by
 rcases h with ⟨_,h⟩|⟨c,w',h,_⟩
 ·exact h
 ·exfalso
  have hb':fn.body≠none:=by cases h:fn.body<;>simp_all
  have hname' : fn.name ≠ "runtime.NumGoroutine" := by simpa using hname
  unfold callFunc at h;simp[hf,hname',hb']at h
def Wd(ro:Option Nat):Fence:={ Fence.wide with round:=ro }
def Ji(P:Program)(l:Nat)(args:Array Value)(w:World)(R:Value->World->Prop):Prop:=
 ∃fn tmps assign body,(Instr.yield l args).run P w=.ok (.round l fn tmps assign body) w/\RoundIn Fence.wide 0 P l fn tmps assign body w (fun e w'=>∃c,e=.returned c/\R c w')
def cU(P:Program)(call:bS):Prop:=∀g args h v h',call g args h=some (v,h')->g<aN->∀(G:Nat->Option cN) (w:World) (cargs:List Value),HR ⟨G,fun _=>none⟩ (fV h) w->dK G args cargs->
 pF P g cargs.toArray w (fun c w'=>∃G',VG G' v c/\aQ ⟨G,fun _=>none⟩ (fV h) w ⟨G',fun _=>none⟩ (fV h') w'/\dI (h.next<=·) G G')
def Ig(P:Program)(call:bS):Prop:=∀y args h v h',call (aN+y) args h=some (v,h')->∀(G:Nat->Option cN) (w:World) (cargs:List Value) (L:cN),HR ⟨G,fun _=>none⟩ (fV h) w->dK G args cargs->G y=some L->
 Ji P L.b cargs.toArray w (fun c w'=>∃G',VG G' v c/\aQ ⟨G,fun _=>none⟩ (fV h) w ⟨G',fun _=>none⟩ (fV h') w'/\dI (h.next<=·) G G')
def fz(P:Program)(call:bS):Prop:=cU P call/\Ig P call
theorem HR.bare(h:HR J s w):HR ⟨J.g,fun _=>none⟩ (fV s.h) w:=
 { gdom:=h.gdom,gblk:=h.gblk,gcon:=h.gcon,ginj:=h.ginj,ldom:=(fun t L h=>by cases h),lcon:=(fun t L h=>by cases h),linj:=(fun t t' L L' h=>by cases h),sep:=(fun id t L L' _ h=>by cases h) }
theorem aQ.call{G':Nat->Option cN}{h':af}{w':World}(h:HR J s w)(k:aQ ⟨J.g,fun _=>none⟩ (fV s.h) w ⟨G',fun _=>none⟩ (fV h') w'):aQ J s w ⟨G',J.l⟩ { s with h:=h' } w':=by
 have hold:∀t L,J.l t=some L->w'.heap[L.b]?=w.heap[L.b]?:=fun t L hL=>
  k.frame L.b (h.llt hL) (fun id L1 h1 e=>absurd e (h.sep _ _ _ _ h1 hL)) (fun t L h=>by cases h)
 refine { hr:=?_,mono:=k.mono,next:=k.next,low:=k.low,size:=k.size,os:=k.os,tape:=k.tape,output:=k.output,fresh:=k.fresh,lfresh:=fun t L hL=>.inr ⟨t,L,hL,rfl⟩,frame:=fun b hb hg _=>k.frame b hb hg (fun t L h=>by cases h) };refine { gdom:=k.hr.gdom,gblk:=k.hr.gblk,gcon:=k.hr.gcon,ginj:=k.hr.ginj,ldom:=h.ldom,lcon:=?_,linj:=h.linj,sep:=?_ }
 ·intro t L hL
  obtain⟨cs,e,h1,h2⟩:=h.lcon _ _ hL;exact⟨cs,e,by rw[hold _ _ hL];exact h1,fun c hc=>(h2 c hc).mono k.mono⟩
 ·intro id t L L' h1 h2 hb
  cases h0:J.g id with
  |some L0=>
   have:G' id=some L0:=k.mono id L0 h0;have h1':G' id=some L:=h1;rw[h1']at this;obtain rfl:=Option.some.inj this;exact h.sep _ _ _ _ h0 h2 hb
  |none=>
   rcases k.fresh id L h1 h0 with q|⟨id0,L0,x,y,_⟩
   ·have:=h.llt h2;omega
   ·exact h.sep _ _ _ _ x h2 (y.trans hb)
def xS(P:Program)(J:dm)(s:St)(w:World)(a:Act)(o:Oper)(v:Value)(s':St)(R Rl:Nat->Prop):Prop:=
 ∀(K:Act->World->Prop) (Q:Exit->Act->World->Prop),(∀c w' J',aQ J s w J' s' w'->(∀t L,J.l t=some L->J'.l t=some L)->VR J' v c->s'.env=s.env->dI R J.g J'.g->dI Rl J.l J'.l->K (a.put o.dst c) w')->∀ro,o.wpIn (Wd ro) 0 P a w K Q
theorem zn.goes{a:Act}{o:Oper}{v:Value}{s':St}{R Rl:Nat->Prop}(hnd:∀c,o.op≠.defer c)(h:zn P J s w (execOp a.eval o) v s' R Rl):xS P J s w a o v s' R Rl:=by
 obtain⟨n,c,w',J',h1,h2,h3,h4,h5,h6,h7,h8⟩:=h;intro K Q hK ro;refine⟨fun _ _=>trivial,?_⟩;rw[Oper.semAt_eq _ _ _ hnd,h1];rcases h2 with rfl|⟨rfl,rfl⟩
 ·exact hK c w' J' h3 h4 h5 h6 h7 h8
 ·exact hK undef w' J' h3 h4 h5 h6 h7 h8
theorem rK{mk:jK}{loc:Bool}{op:Op}{r:Value×St}(h:fe P mk loc op s=some r):∀c,op≠.defer c:=by
 intro c e;subst e;simp[fe]at h
theorem AW{a:Act}{c:Call}{g:FuncId}{args:List Value}{o:Oper}(hc:o.op=.call c)(hE:mF J s a o.op.operands.toList)(h:jk s c=some (g,args)) :
  ∃cargs:List Value,dK J.g args cargs/\((g<aN/\execOp a.eval o=callFunc g cargs.toArray)\/∃y L,g=aN+y/\J.g y=some L/\execOp a.eval o=Instr.yield L.b cargs.toArray):=by
 unfold jk at h;split at h
 ·rename_i x hx
  split at h
  ·rename_i f first captured l h1 h2
   cases hb0:(l.all cP && Nat.blt f aN)with
   |false=>rw[hb0]at h;simp at h
   |true=>
    rw[hb0]at h;simp only[cond_true,oi,pj]at h;obtain⟨rfl,rfl⟩:=h;simp only[Bool.and_eq_true]at hb0;obtain⟨hb,hlt⟩:=hb0;have hops:o.op.operands.toList=x :: c.args.toList:=by simp[hc,Op.operands,Call.operands,hx]
    rw[hops]at hE;obtain⟨x',y',hf,hx',hy'⟩:=((hE x _ (by simp) h1).of_ne (fun a=>by simp)).funcL;have hl:=sV (iC c.args.toList (hE.sub (fun y hy=>List.mem_cons_of_mem _ hy)) _ h2) hb;refine⟨x'.toList++c.args.toList.map a.eval++y'.toList,(hx'.append hl).append hy',.inl ⟨Nat.le_of_ble_eq_true hlt,?_⟩⟩;have e1:execOp a.eval o=(do let d <-resolve a.eval c o.type;invoke d.target d.args):=by unfold execOp;rw[hc]
    rw[e1];simp only[resolve,hx,hf,Deferred.ofValue];show invoke (.fn (.func f) y') (x'++c.args.map a.eval)=_;have e2:invoke (.fn (.func f) y') (x'++c.args.map a.eval)=callFunc f (x'++c.args.map a.eval++y'):=rfl;rw[e2]
    congr 1
    apply Array.ext';simp
  ·rename_i y u1 u2 l h1 h2
   cases hb:l.all cP with
   |false=>rw[hb]at h;simp at h
   |true=>
    rw[hb]at h;simp only[cond_true,oi,pj]at h;obtain⟨rfl,rfl⟩:=h;have hops:o.op.operands.toList=x :: c.args.toList:=by simp[hc,Op.operands,Call.operands,hx]
    rw[hops]at hE;obtain⟨L,hL,hf,_,_⟩:=((hE x _ (by simp) h1).of_ne (fun a=>by simp)).yieldL;have hl:=sV (iC c.args.toList (hE.sub (fun y hy=>List.mem_cons_of_mem _ hy)) _ h2) hb;refine⟨c.args.toList.map a.eval,hl,.inr ⟨y,L,rfl,hL,?_⟩⟩;have e1:execOp a.eval o=(do let d <-resolve a.eval c o.type;invoke d.target d.args):=by unfold execOp;rw[hc]
    rw[e1];simp only[resolve,hx,hf,Deferred.ofValue];show invoke (.fn (.yield L.b) #[]) (#[]++c.args.map a.eval)=_;have e2:invoke (.fn (.yield L.b) #[]) (#[]++c.args.map a.eval)=Instr.yield L.b (#[]++c.args.map a.eval):=rfl;rw[e2]
    congr 1
    apply Array.ext';simp
  ·cases h
 ·cases h
theorem rX{call:bS}(hcall:fz P call){a:Act}{c:Call}{o:Oper}{v:Value}{s':St}(hR:HR J s w)(hc:o.op=.call c)(hE:mF J s a o.op.operands.toList)(h:iz call c s=some (v,s')):xS P J s w a o v s' (s.h.next<=·) (fun _=>False):=by
 unfold iz at h;split at h
 ·rename_i g args hg
  split at h
  ·rename_i v' h' hr
   simp only[oi,pj]at h;obtain⟨rfl,rfl⟩:=h;obtain⟨cargs,h1,h2⟩:=AW hc hE hg;intro K Q hK ro;refine⟨fun _ _=>trivial,?_⟩;rw[Oper.semAt_eq _ _ _ (by rw[hc];intro c' e;cases e)];rcases h2 with ⟨hlt,h2⟩|⟨y,L,rfl,hL,h2⟩
   ·have hd:=hcall.1 g args s.h v' h' hr hlt J.g w cargs hR.bare h1
    rw[h2];rcases hd with ⟨e1,e2⟩|⟨c,w',e1,G',e2,e3,e4⟩
    ·rw[e1]
     simp only[Oper.uponIn_enter];refine⟨(fun q=>by simp[Wd,Fence.wide]at q),CallsIn.mono (F:=Wd ro) (n:=0-1) (R:=fun e w'=>∃c,e=.returned c/\∃G',VG G' v' c/\aQ ⟨J.g,fun _=>none⟩ (fV s.h) w ⟨G',fun _=>none⟩ (fV h') w'/\dI (s.h.next<=·) J.g G') ?_ ?_⟩
     ·show CallsIn Fence.wide 0 P g cargs.toArray w _
      exact callsIn_wide.2 e2
     ·rintro e w' ⟨c,rfl,G',hv,hG,hA⟩
      exact hK c w' ⟨G',J.l⟩ (aQ.call hR hG) (fun _ _ h=>h) (.glob _ _ hv) rfl hA (.refl _ _)
    ·rw[e1]
     simp only[Oper.uponIn_value];exact hK c w' ⟨G',J.l⟩ (aQ.call hR e3) (fun _ _ h=>h) (.glob _ _ e2) rfl e4 (.refl _ _)
   ·obtain⟨fn,tmps,assign,body,e1,e2⟩:=hcall.2 y args s.h v' h' hr J.g w cargs L hR.bare h1 hL
    rw[h2,e1];simp only[Oper.uponIn_round];refine⟨(fun q=>by simp[Wd,Fence.wide]at q),RoundIn.mono (F:=Wd ro) (n:=0-1) (R:=fun e w'=>∃c,e=.returned c/\∃G',VG G' v' c/\aQ ⟨J.g,fun _=>none⟩ (fV s.h) w ⟨G',fun _=>none⟩ (fV h') w'/\dI (s.h.next<=·) J.g G') ?_ ?_⟩
    ·show RoundIn Fence.wide 0 P L.b fn tmps assign body w _
     exact e2
    ·rintro e w' ⟨c,rfl,G',hv,hG,hA⟩
     exact hK c w' ⟨G',J.l⟩ (aQ.call hR hG) (fun _ _ h=>h) (.glob _ _ hv) rfl hA (.refl _ _)
  ·cases h
 ·cases h
theorem mM{op:Op}{c:Call}(h:dr op=some c):op=.call c:=by
 unfold dr at h;split at h
 ·split at h
  ·simp only[oi]at h;rw[h]
  ·cases h
 ·cases h
theorem JD{loc:Bool}{es:Nat}{cells:List Value}{r:Value×St}(h:s.new loc es cells=some r):cells.all aA=true:=by
 unfold St.new at h;cases hc:cells.all aA with
 |true=>rfl
 |false=>rw[hc]at h;simp at h
theorem G6{id tag:Nat}{loc:Bool}{es:Nat}{cells:List Value}{r:Value×St}(h:s.newAt id tag loc es cells=some r):cells.all aA=true:=by
 unfold St.newAt at h;cases hc:cells.all aA with
 |true=>rfl
 |false=>rw[hc]at h;simp at h
theorem wN{H:bg}{call:bS}(hcall:fz P call){f:FuncId}{a:Act}{o:Oper}{v:Value}{s':St}(hR:HR J s w)(hE:mF J s a o.op.operands.toList)(h:o7 P H call f o s=some (v,s')):xS P J s w a o v s' (s.h.next<=·) (fun _=>True):=by
 unfold o7 at h;split at h
 ·rename_i c hc
  intro K Q hK ro;exact rX hcall hR (mM hc) hE h K Q (fun c w' J' a1 a2 a3 a4 a5 a6=>hK c w' J' a1 a2 a3 a4 a5 (a6.mono (fun _ _=>trivial))) ro
 ·intro K Q hK ro
  refine(Df hR hR.newOK hE JD h).goes (rK h) K Q (ro:=ro) (fun c w' J' a1 a2 a3 a4 a5 a6=>hK c w' J' a1 a2 a3 a4 (a5.mono ?_) (a6.mono (fun _ _=>trivial)));rintro k (⟨_,es,cells,s9,h9⟩|⟨_,h9⟩)
  ·unfold St.new at h9
   simp only[Bool.cond_eq_ite]at h9;split at h9
   ·simp at h9;rw[h9.1];exact Nat.le_refl _
   ·cases h9
  ·exact h9
theorem aQ.env {J' : dm} {s' : St} {w' : World} (h : aQ J s w J' s' w') (e : cg Value) : aQ J s w J' { s' with env := e } w' :=
  { hr := { gdom := h.hr.gdom, gblk := h.hr.gblk, gcon := h.hr.gcon, ginj := h.hr.ginj, ldom := h.hr.ldom, lcon := h.hr.lcon, linj := h.hr.linj, sep := h.hr.sep }
    mono := h.mono, next := h.next, low := h.low, size := h.size, os := h.os, tape := h.tape, output := h.output, fresh := h.fresh, lfresh := h.lfresh, frame := h.frame }
theorem HR.env(h:HR J s w)(e:cg Value):HR J { s with env:=e } w:=
 { gdom:=h.gdom,gblk:=h.gblk,gcon:=h.gcon,ginj:=h.ginj,ldom:=h.ldom,lcon:=h.lcon,linj:=h.linj,sep:=h.sep }
theorem dA(a:Act)(dst:Option Tmp)(v:Value):(a.put dst v).tmps.size=a.tmps.size:=by
 cases dst<;>simp[Act.put]
theorem fH(a:Act)(dst:Option Tmp)(v:Value):(a.put dst v).defers=a.defers:=by
 cases dst<;>simp[Act.put]
theorem kP{nt:Nat}{dst:Option Tmp}{v:Value}{s':St}(h:o9 nt s dst v=some s'):(dst=none/\s'=s)\/∃d,dst=some d/\d<nt/\s' = { s with env:=s.env.set d v }:=by
 unfold o9 at h;split at h
 ·simp only[oi]at h;exact .inl ⟨rfl,h.symm⟩
 ·rename_i d
  cases hb:Nat.blt d nt with
  |false=>rw[hb]at h;simp at h
  |true=>rw[hb]at h;simp only[cond_true,oi]at h;exact .inr ⟨d,rfl,Nat.le_of_ble_eq_true hb,h.symm⟩
theorem sJ{nt:Nat}{dst:Option Tmp}{v c:Value}{s':St}{a:Act}(h:o9 nt s dst v=some s')(hE:ER J s a)(hn:nt<=a.tmps.size)(hv:VR J v c):ER J s' (a.put dst c):=by
 rcases kP h with ⟨rfl,rfl⟩|⟨d,rfl,hd,rfl⟩
 ·exact hE
 ·intro t u hu
  simp only[cg.get_set]at hu;rw[dA];by_cases e:d=t
  ·subst e
   simp only[if_true,oi]at hu;subst hu;have hlt:d<a.tmps.size:=Nat.lt_of_lt_of_le hd hn;refine⟨hlt,?_⟩;have:(a.put (some d) c).tmps.getD d undef=c:=by simp[Act.put,hlt]
   rw[this];exact hv
  ·simp only[e,if_false]at hu
   obtain⟨h1,h2⟩:=hE t u hu;refine⟨h1,?_⟩;have:(a.put (some d) c).tmps.getD t undef=a.tmps.getD t undef:=by simp[Act.put,Array.getElem?_setIfInBounds_ne e]
   rw[this];exact h2
theorem bX{nt:Nat}{dst:Option Tmp}{v:Value}{s':St}(h:o9 nt s dst v=some s'):s' = { s with env:=s'.env }:=by
 rcases kP h with ⟨_,rfl⟩|⟨d,_,_,rfl⟩<;>rfl
def Kf(J:dm)(s:St)(a:Act)(ops:Array Oper)(o:Oper):Prop:=
 ∀j want d v,o.guard=some (j,want)->(ops[j]?).bind (·.dst)=some d->s.env.get d=some v->d<a.tmps.size/\VR J v (a.tmps.getD d undef)
theorem gJ{ops:Array Oper}{o:Oper}{b:Bool}{a:Act}(h:gU ops o s=some b)(hE:Kf J s a ops o):Region.wanted o (yielded ops a.tmps)=b:=by
 unfold gU at h;unfold Region.wanted;split at h
 ·rename_i hg
  simp only[oi]at h;rw[hg];exact h
 ·rename_i j want hg
  rw[hg];simp only[];split at h
  ·rename_i d hd
   have key:∀v,s.env.get d=some v->∃c,a.tmps[d]?=some c/\VR J v c:=by
    intro v hv;obtain⟨h1,h2⟩:=hE j want d v hg hd hv;exact⟨a.tmps[d],by simp[h1],by simpa[h1]using h2⟩
   split at h
   ·rename_i b' hv
    simp only[oi]at h;subst h;obtain⟨c,h1,h2⟩:=key _ hv;obtain rfl:=(h2.of_ne (fun a=>by simp)).bool;simp only[yielded,hd,Option.bind_some,h1];cases b'<;>cases want<;>rfl
   ·rename_i vs hv
    cases hvs:vs.toList.isEmpty with
    |false=>rw[hvs]at h;simp at h
    |true=>
    rw[hvs]at h;simp only[cond_true,oi]at h;subst h;obtain rfl:vs=#[]:=by simpa using hvs
    obtain⟨c,h1,h2⟩:=key _ hv;have:=(h2.of_ne (fun a=>by simp)).undefL;subst this;simp only[yielded,hd,Option.bind_some,h1,undef];cases want<;>rfl
   ·cases h
  ·cases h
theorem ER.gu{a:Act}(h:ER J s a)(ops:Array Oper)(o:Oper):Kf J s a ops o:=fun _ _ d v _ _ hv=>h d v hv
def Bj(J:dm)(s:St)(w:World)(a:Act)(s':St)(a':Act)(w':World):Prop:=
 ∃J',aQ J s w J' s' w'/\ER J' s' a'/\a'.tmps.size=a.tmps.size/\a'.defers=a.defers/\dI (s.h.next<=·) J.g J'.g
theorem nU{ro:Option Nat}{H:bg}{call:bS}(hcall:fz P call){f:FuncId}{nt:Nat}{ops:Array Oper}{Q:Exit->Act->World->Prop}:∀(l:List Oper) (k:Nat) (s:St) (J:dm) (w:World) (a:Act) (s':St),
  (∀j,l[j]?=ops[k+j]?)->jz P H call f nt ops l s=some s'->HR J s w->ER J s a->nt<=a.tmps.size->(∀a' w',Bj J s w a s' a' w'->Q .normal a' w')->wpOpsIn (Wd ro) 0 P ops Q (List.range' k l.length) a w
 | [],k,s,J,w,a,s',_,h,hR,hE,_,hQ=>by
  simp only[jz,oi]at h;subst h;exact hQ a w ⟨J,.refl hR,hE,rfl,rfl,.refl _ _⟩
 |o :: l,k,s,J,w,a,s',hl,h,hR,hE,hn,hQ=>by
  have ho:ops[k]?=some o:=by have:=hl 0;simpa using this.symm
  have hl':∀j,l[j]?=ops[k+1+j]?:=fun j=>by have:=hl (j+1);simpa[Nat.add_assoc,Nat.add_comm 1 j]using this
  simp only[List.length_cons,List.range'_succ];simp only[wpOpsIn,ho];simp only[jz]at h;split at h
  ·rename_i hw
   rw[gJ hw (hE.gu ops o),if_pos rfl];split at h
   ·rename_i v s1 h1
    split at h
    ·rename_i s2 h2
     refine wN hcall hR (hE.ev _) h1 _ Q ?_ ro;intro c w' J' hG hlm hv henv hA _;have hE':ER J' s1 a:=by
      have:=hE.mono (J':=J') hG.mono hlm;intro t u hu;exact this t u (by rw[henv]at hu;exact hu)
     have hE2:=sJ h2 hE' hn hv;have hG2:aQ J s w J' s2 w':=by rw[bX h2];exact hG.env _
     refine nU hcall l (k+1) s2 J' w' (a.put o.dst c) s' hl' h hG2.hr hE2 (by rw[dA];exact hn) ?_;rintro a' w2 ⟨J2,q1,q2,q3,q4,q5⟩;exact hQ a' w2 ⟨J2,hG2.trans q1,q2,by rw[q3,dA],by rw[q4,fH],hA.trans (q5.mono (fun k hk=>Nat.le_trans hG2.next hk))⟩
    ·cases h
   ·cases h
  ·rename_i hw
   rw[gJ hw (hE.gu ops o),if_neg (by simp)];split at h
   ·rename_i s1 h1
    have hE2:=sJ h1 hE hn (c:=undef) (.glob _ _ (VG.of_flat rfl));have hG2:aQ J s w J s1 w:=by rw[bX h1];exact(aQ.refl hR).env _
    refine⟨fun _ _=>trivial,?_⟩;refine nU hcall l (k+1) s1 J w (a.put o.dst undef) s' hl' h hG2.hr hE2 (by rw[dA];exact hn) ?_;rintro a' w2 ⟨J2,q1,q2,q3,q4,q5⟩;exact hQ a' w2 ⟨J2,hG2.trans q1,q2,by rw[q3,dA],by rw[q4,fH],q5.mono (fun k hk=>Nat.le_trans hG2.next hk)⟩
   ·cases h
  ·cases h
theorem Ah{ro:Option Nat}{H:bg}{call:bS}(hcall:fz P call){f:FuncId}{nt:Nat}{ops:Array Oper}{id:Nat}{a:Act}{s':St}(h:jz P H call f nt ops ops.toList s=some s')(hR:HR J s w)(hE:ER J s a)(hn:nt<=a.tmps.size) :
  (Code.region id ops false).wpIn (Wd ro) 0 P (fun e a' w'=>e=.normal/\Bj J s w a s' a' w') a w:=by
 refine wpIn_region ?_;have:=nU (ro:=ro) (Q:=fun e a' w'=>e=.normal/\Bj J s w a s' a' w') hcall ops.toList 0 s J w a s' (fun j=>by simp) h hR hE hn (fun a' w' q=>⟨rfl,q⟩);rw[List.range_eq_range'];simpa using this
end Go.Sim
namespace Go.Sim
structure bz(B:Nat)(h h':af):Prop where
 next:h.next<=h'.next
 low:h'.low<=h.low
 get:∀id,id<B->id<h'.low->h'.m.get id=h.m.get id
 gone:∀id,id<B->h.m.get id=none->h'.m.get id=none
theorem bz.refl(B:Nat)(h:af):bz B h h:=⟨Nat.le_refl _,Nat.le_refl _,fun _ _ _=>rfl,fun _ _ h=>h⟩
theorem bz.trans{B:Nat}{a b c:af}(h:bz B a b)(k:bz B b c):bz B a c:=
 ⟨Nat.le_trans h.next k.next,Nat.le_trans k.low h.low,fun id h1 h2=>(k.get id h1 h2).trans (h.get id h1 (Nat.lt_of_lt_of_le h2 k.low)),fun id h1 h2=>k.gone id h1 (h.gone id h1 h2)⟩
theorem bz.mono{B B':Nat}{h h':af}(k:bz B h h')(hb:B'<=B):bz B' h h':=
 ⟨k.next,k.low,fun id h1 h2=>k.get id (by omega) h2,fun id h1 h2=>k.gone id (by omega) h2⟩
theorem bz.push{B:Nat}{h:af}(hb:B<=h.next)(es:Nat)(cs:List Value):bz B h (h.push es cs):=
 ⟨by simp[af.push],Nat.le_refl _,fun id h1 _=>by simp only[af.push];rw[cg.get_set_ne _ _ (by omega)],fun id h1 h2=>by simp only[af.push];rw[cg.get_set_ne _ _ (by omega)];exact h2⟩
theorem bz.write{B:Nat}{h h':af}{b off:Nat}{vs:List Value}(hw:h.write b off vs=some h'):bz B h h':=by
 unfold af.write at hw;split at hw
 ·rename_i es cs hm
  split at hw
  ·rename_i cs' _
   simp only[oi]at hw;subst hw;refine⟨Nat.le_refl _,Nat.min_le_left _ _,fun id _ h2=>?_,fun id _ h2=>?_⟩
   ·have:Nat.min h.low b<=b:=Nat.min_le_right _ _
    simp only[]at h2 ⊢;rw[cg.get_set_ne _ _ (by omega)]
   ·simp only[]
    by_cases e:b=id
    ·subst e;rw[hm]at h2;cases h2
    ·rw[cg.get_set_ne _ _ e];exact h2
  ·cases hw
 ·cases hw
theorem bz.kill{B:Nat}{h:af}{b:Nat}(hb:h.m.get b≠none):bz B h (h.kill b):=by
 refine⟨Nat.le_refl _,Nat.min_le_left _ _,fun id _ h2=>?_,fun id _ h2=>?_⟩
 ·have:Nat.min h.low b<=b:=Nat.min_le_right _ _
  simp only[af.kill]at h2 ⊢;rw[cg.get_set_ne _ _ (by omega)]
 ·simp only[af.kill]
  by_cases e:b=id
  ·subst e;exact absurd h2 hb
  ·rw[cg.get_set_ne _ _ e];exact h2
theorem bz.pushB{B:Nat}{h:af}(hb:B<=h.next)(b:yS):bz B h (h.pushB b):=
 ⟨by simp[af.pushB],Nat.le_refl _,fun id h1 _=>by simp only[af.pushB];rw[cg.get_set_ne _ _ (by omega)],fun id h1 h2=>by simp only[af.pushB];rw[cg.get_set_ne _ _ (by omega)];exact h2⟩
theorem bz.putB{B:Nat}{h:af}{b:Nat}{x:yS}(hb:h.m.get b≠none\/B<=b):bz B h (h.putB b x):=by
 refine⟨Nat.le_refl _,Nat.min_le_left _ _,fun id _ h2=>?_,fun id h1 h2=>?_⟩
 ·have:Nat.min h.low b<=b:=Nat.min_le_right _ _
  simp only[af.putB]at h2 ⊢;rw[cg.get_set_ne _ _ (by omega)]
 ·simp only[af.putB]
  by_cases e:b=id
  ·subst e
   rcases hb with hb|hb
   ·exact absurd h2 hb
   ·omega
  ·rw[cg.get_set_ne _ _ e];exact h2
theorem pL{P:Program}{B:Nat}{h h':af}{t:TypeId}{x k v:Value}{ok:Bool}(hh:jo P h t x k ok=some (v,h')):bz B h h':=by
 unfold jo at hh;simp only[Bool.cond_eq_ite]at hh;repeat' split at hh
 all_goals first
  |(cases hh;done)
  |(simp only[oi,pj]at hh;obtain⟨_,rfl⟩:=hh;exact .refl _ _)
theorem lP{P:Program}{B:Nat}{h h':af}{t:TypeId}{x k u v:Value}(hh:jp P h t x k u=some (v,h')):bz B h h':=by
 unfold jp at hh;simp only[Bool.cond_eq_ite]at hh;split at hh
 ·rename_i id _
  split at hh
  ·rename_i es _ hm
   repeat' split at hh
   all_goals first
    |(cases hh;done)
    |(simp only[oi,pj]at hh;obtain⟨_,rfl⟩:=hh;exact .putB (.inl (by rw[hm];simp)))
  ·cases hh
 ·cases hh
theorem A9{B:Nat}{s s':St}{a:Addr}{vs:List Value}(h:s.write a vs=some s'):bz B s.h s'.h:=by
 unfold St.write at h;cases hok:vs.all aA with
 |false=>rw[hok]at h;simp at h
 |true=>
  rw[hok]at h;simp only[cond_true]at h;split at h
  ·split at h
   ·rename_i h' hw;simp only[oi]at h;subst h;exact .write hw
   ·cases h
  ·cases hb:Nat.blt a.block s.kn with
   |false=>rw[hb]at h;simp at h
   |true=>
    rw[hb]at h;simp only[cond_true]at h;split at h
    ·split at h
     ·simp only[oi]at h;subst h;exact .refl _ _
     ·cases h
    ·cases h
def BM(B:Nat)(s:St)(mk:jK):Prop:=∀loc es cells v s',mk loc es cells=some (v,s')->bz B s.h s'.h
theorem GF{B:Nat}{s:St}(hb:B<=s.h.next):BM B s s.new:=by
 intro loc es cells v s' h;unfold St.new at h;cases hc:cells.all aA with
 |false=>rw[hc]at h;simp at h
 |true=>
  rw[hc]at h;cases loc with
  |false=>simp only[cond_true,cond_false,oi,pj]at h;obtain⟨_,rfl⟩:=h;exact .push hb _ _
  |true=>simp only[cond_true,oi,pj]at h;obtain⟨_,rfl⟩:=h;exact .refl _ _
theorem Bs{B:Nat}{s:St}{id tag:Nat}(hb:B<=id):BM B s (s.newAt id tag):=by
 intro loc es cells v s' h;unfold St.newAt at h;cases hc:cells.all aA with
 |false=>rw[hc]at h;simp at h
 |true=>
  rw[hc]at h;cases loc with
  |false=>
   simp only[cond_true,cond_false,oi,pj]at h;obtain⟨_,rfl⟩:=h;exact⟨Nat.le_refl _,Nat.le_refl _,fun k h1 _=>by simp only[];rw[cg.get_set_ne _ _ (by omega)],fun k h1 h2=>by simp only[];rw[cg.get_set_ne _ _ (by omega)];exact h2⟩
  |true=>simp only[cond_true,oi,pj]at h;obtain⟨_,rfl⟩:=h;exact .refl _ _
theorem mN{B:Nat}{h h':af}{a:Addr}{vs:List Value}(hw:h.writeG a vs=some h'):bz B h h':=by
 unfold af.writeG at hw;split at hw
 ·cases hc:vs.all aA with
  |false=>rw[hc]at hw;simp at hw
  |true=>rw[hc]at hw;simp only[cond_true]at hw;exact .write hw
 ·cases hw
theorem pT{P:Program}{B:Nat}{h h':af}{ts:List TypeId}{args:List Value}{v:Value}(hb:B<=h.next)(hh:bO P h ts args=some (v,h')):bz B h h':=by
 unfold bO at hh;simp only[Bool.cond_eq_ite]at hh;repeat' split at hh
 all_goals first
  |(cases hh;done)
  |(simp only[oi,pj]at hh;obtain⟨_,rfl⟩:=hh;exact .refl _ _)
  |(simp only[oi,pj]at hh;obtain⟨_,rfl⟩:=hh;exact .push hb _ _)
  |(simp only[oi,pj]at hh;obtain⟨_,rfl⟩:=hh;exact mN (by assumption))
  |(simp only[oi,pj]at hh;obtain⟨_,rfl⟩:=hh;rename_i hl _ _;exact(bz.kill (by rw[hl];simp)).trans (.push (by exact hb) _ _))
theorem tA{P:Program}{B:Nat}{h h':af}{ts:List TypeId}{args:List Value}{v:Value}(hh:pE P h ts args=some (v,h')):bz B h h':=by
 unfold pE at hh;simp only[Bool.cond_eq_ite]at hh;repeat' split at hh
 all_goals first
  |(cases hh;done)
  |(simp only[oi,pj]at hh;obtain⟨_,rfl⟩:=hh;exact .refl _ _)
  |(simp only[oi,pj]at hh;obtain⟨_,rfl⟩:=hh;exact mN (by assumption))
theorem rG{P:Program}{B:Nat}{h h':af}{ts:List TypeId}{args:List Value}{v:Value}(hh:o8 P h ts args=some (v,h')):bz B h h':=by
 unfold o8 at hh;simp only[Bool.cond_eq_ite]at hh;repeat' split at hh
 all_goals first
  |(cases hh;done)
  |(simp only[oi,pj]at hh;obtain⟨_,rfl⟩:=hh;exact .refl _ _)
  |(simp only[oi,pj]at hh;obtain⟨_,rfl⟩:=hh;exact mN (by assumption))
theorem yT{P:Program}{B:Nat}{s s':St}{t:TypeId}{a:Addr}{v:Value}(h:kC P s t a v=some s'):bz B s.h s'.h:=by
 unfold kC at h;simp only[Bool.cond_eq_ite]at h;repeat' split at h
 all_goals first
  |(cases h;done)
  |exact A9 h
theorem zv{P:Program}{B:Nat}{mk:jK}{s s':St}{loc:Bool}{op:Op}{v:Value}(hb:B<=s.h.next)(hM:BM B s mk)(h:fe P mk loc op s=some (v,s')):bz B s.h s'.h:=by
 unfold fe at h;split at h
 case h_7=>
  unfold dD at h
  (try simp only[Bool.cond_eq_ite]at h)
  repeat' split at h
  all_goals (try simp only[Bool.cond_eq_ite]at h)
  all_goals repeat' split at h
  all_goals first
   |(cases h;done)
   |(simp only[oi,pj]at h;obtain⟨_,rfl⟩:=h;exact hM _ _ _ _ _ (by assumption))
 case h_15=>
  unfold dR at h;repeat' split at h
  all_goals first
   |(cases h;done)
   |(simp only[oi,pj]at h;obtain⟨_,rfl⟩:=h;exact hM _ _ _ _ _ (by assumption))
 all_goals (try simp only[Bool.cond_eq_ite]at h)
 all_goals repeat' split at h
 all_goals first
  |(cases h;done)
  |(simp only[oi,pj]at h;obtain⟨_,rfl⟩:=h;exact .refl _ _)
  |exact hM _ _ _ _ _ h
  |(simp only[oi,pj]at h;obtain⟨_,rfl⟩:=h;exact yT (by assumption))
  |(obtain⟨h',h1,rfl⟩:=aR h;exact pT hb h1)
  |(obtain⟨h',h1,rfl⟩:=aR h;exact tA h1)
  |(obtain⟨h',h1,rfl⟩:=aR h;exact rG h1)
  |(obtain⟨h',h1,rfl⟩:=aR h;exact pL h1)
  |(obtain⟨h',h1,rfl⟩:=aR h;exact lP h1)
  |(obtain⟨h',h1,rfl⟩:=aR h;simp only[oi,pj]at h1;obtain⟨_,rfl⟩:=h1;exact .pushB hb _)
def aP(call:bS):Prop:=∀g args h v h',call g args h=some (v,h')->bz h.next h h'
theorem nM{call:bS}(hc:aP call){B:Nat}{s s':St}{c:Call}{v:Value}(hb:B<=s.h.next)(h:iz call c s=some (v,s')):bz B s.h s'.h:=by
 unfold iz at h;split at h
 ·split at h
  ·rename_i hr
   simp only[oi,pj]at h;obtain⟨_,rfl⟩:=h;exact(hc _ _ _ _ _ hr).mono hb
  ·cases h
 ·cases h
theorem Eb{P:Program}{H:bg}{call:bS}(hc:aP call){B:Nat}{f:FuncId}{o:Oper}{s s':St}{v:Value}(hb:B<=s.h.next)(h:o7 P H call f o s=some (v,s')):bz B s.h s'.h:=by
 unfold o7 at h;split at h
 ·exact nM hc hb h
 ·exact zv hb (GF hb) h
theorem qQ{P:Program}{H:bg}{call:bS}(hc:aP call){B id tag:Nat}{f:FuncId}{o:Oper}{s s':St}{v:Value}(hb:B<=s.h.next)(hid:B<=id)(h:iv P H call f id tag o s=some (v,s')):bz B s.h s'.h:=by
 unfold iv at h;split at h
 ·exact nM hc hb h
 ·exact zv hb (Bs hid) h
theorem gM{nt:Nat}{dst:Option Tmp}{s s':St}{v:Value}(h:o9 nt s dst v=some s'):s'.h=s.h:=by
 rw[bX h]
theorem qN{P:Program}{H:bg}{call:bS}(hc:aP call){f:FuncId}{nt:Nat}{ops:Array Oper}{B:Nat}:∀(l:List Oper) (s s':St),B<=s.h.next->jz P H call f nt ops l s=some s'->bz B s.h s'.h
 | [],s,s',_,h=>by simp only[jz,oi]at h;subst h;exact .refl _ _
 |o :: l,s,s',hb,h=>by
  simp only[jz]at h;split at h
  ·split at h
   ·rename_i v s1 h1
    split at h
    ·rename_i s2 h2
     have k1:=Eb hc hb h1;have k2:=qN hc l s2 s' (by rw[gM h2];exact Nat.le_trans hb k1.next) h;rw[gM h2]at k2;exact k1.trans k2
    ·cases h
   ·cases h
  ·split at h
   ·rename_i s2 h2
    have k2:=qN hc l s2 s' (by rw[gM h2];exact hb) h;rw[gM h2]at k2;exact k2
   ·cases h
  ·cases h
theorem ic{B:Nat}{s s1:St}(k:bz B s.fresh.h s1.h):bz B s.h (s1.lowered s.h.low).h:=
 ⟨k.next,Nat.min_le_left _ _,fun id h1 h2=>k.get id h1 (Nat.lt_of_lt_of_le h2 (Nat.min_le_right _ _)),fun id h1 h2=>k.gone id h1 h2⟩
theorem rj{P:Program}{H:bg}{call:bS}(hc:aP call){f:FuncId}{nt:Nat}{ops:Array Oper}{base kbase:Nat}:∀(l:List Nat) (i:Nat) (s s':St) (fps:List (Nat×FP×Bool)),base<=s.h.next->oE P H call f nt ops base kbase l i s=some (s',fps)->bz base s.h s'.h
 | [],i,s,s',fps,_,h=>by simp only[oE,oi,pj]at h;obtain⟨rfl,_⟩:=h;exact .refl _ _
 |p :: l,i,s,s',fps,hb,h=>by
  simp only[oE]at h;split at h
  ·cases h
  ·split at h
   ·split at h
    ·rename_i v s1 h1
     split at h
     ·rename_i s2 h2
      split at h
      ·rename_i r fps' h3
       simp only[oi,pj]at h;obtain⟨rfl,_⟩:=h;have k1:=ic (qQ hc (B:=base) (s:=s.fresh) hb (by omega) h1);have k2:=rj hc l (i+1) s2 r fps' (by rw[gM h2];exact Nat.le_trans hb k1.next) h3;rw[gM h2]at k2;exact k1.trans k2
      ·cases h
     ·cases h
    ·cases h
   ·split at h
    ·rename_i s2 h2
     split at h
     ·rename_i r fps' h3
      simp only[oi,pj]at h;obtain⟨rfl,_⟩:=h;have k2:=rj hc l (i+1) s2 r fps' (by rw[gM h2];exact hb) h3;rw[gM h2]at k2;exact k2
     ·cases h
    ·cases h
   ·cases h
theorem BA{P:Program}{H:bg}{call:bS}(hc:aP call){f:FuncId}{nt:Nat}{ops:Array Oper}{s s':St}(h:oH P H call f nt ops s=some s'):bz s.h.next s.h s'.h:=by
 unfold oH at h;simp only[Bool.cond_eq_ite]at h;split at h
 ·split at h
  ·split at h
   ·rename_i h1 _
    simp only[oi]at h;subst h;have k:=rj hc (base:=s.h.next) _ _ _ _ _ (by simp[St.keepNos]) h1;exact⟨by have:=k.next;simp only[St.keepNos]at this;omega,k.low,k.get,k.gone⟩
   ·cases h
  ·cases h
 ·cases h
theorem Ew{H:bg}{f:FuncId}{c:Code}{kn:Nat}{s s':St}(h:AN H f c kn s=some s'):s'.h=s.h:=by
 unfold AN at h;split at h
 ·simp only[oi]at h;rw[h]
 ·simp only[Bool.cond_eq_ite]at h
  split at h
  ·simp only[oi]at h;rw[<-h]
  ·cases h
theorem Au{s s':St}{j:Option Code}{x:Exit}(h:qK s j=some (x,s')):s'=s:=by
 unfold qK at h;split at h
 all_goals first
  |(cases h;done)
  |(simp only[oi,pj]at h;exact h.2.symm)
theorem Ax{P:Program}{call:bS}(hc:aP call){f:FuncId}{nt:Nat}{x:Operand}{ps:Array Tmp}{assign body:Code}{s s':St}{e:Exit}(h:nO P call f nt x ps assign body s=some (e,s')):bz s.h.next s.h s'.h:=by
 unfold nO at h;simp only[Bool.cond_eq_ite]at h;split at h
 ·split at h
  ·split at h
   ·split at h
    ·rename_i h2 hr
     have k1:bz s.h.next s.h h2:=(bz.pushB (Nat.le_refl _) _).trans ((hc _ _ _ _ _ hr).mono (by simp[af.pushB]));split at h
     ·rw[Au h];exact k1.trans (.putB (.inr (Nat.le_refl _)))
     ·rw[Au h];exact k1.trans (.putB (.inr (Nat.le_refl _)))
     ·cases h
    ·cases h
   ·cases h
  ·cases h
 ·cases h
theorem ko{B y:Nat}{h h':af}{j:Option Code}{v:Value}(hh:iN y h j=some (v,h')):bz B h h':=by
 unfold iN at hh;split at hh
 ·rename_i hm
  simp only[oi,pj]at hh;obtain⟨_,rfl⟩:=hh;exact .putB (.inl (by rw[hm];simp))
 ·cases hh
theorem zO{run:FuncId->Nat->Code->St->Option (Exit×St)}(hr:∀f nt c s x s',run f nt c s=some (x,s')->bz s.h.next s.h s'.h){y:Nat}{args:List Value}{h h':af}{v:Value}(hh:nu run y args h=some (v,h')):bz h.next h h':=by
 unfold nu at hh;split at hh
 ·simp only[Bool.cond_eq_ite]at hh
  split at hh
  ·split at hh
   ·rename_i s1 h1
    have k1:=hr _ _ _ _ _ _ h1;simp only[]at k1;split at hh
    ·rename_i pend1 f1 nt1 env1 ps1 assign1 body1 hm
     have k2:bz h.next h (s1.h.putB y (.loop .busy pend1 f1 nt1 env1 ps1 assign1 body1)):=k1.trans (.putB (.inl (by rw[hm];simp)));split at hh
     ·rename_i s2 h2
      exact k2.trans (((hr _ _ _ _ _ _ h2).mono k1.next).trans (ko hh))
     ·rename_i s2 h2
      exact k2.trans (((hr _ _ _ _ _ _ h2).mono k1.next).trans (ko hh))
     ·rename_i s2 h2
      exact k2.trans (((hr _ _ _ _ _ _ h2).mono k1.next).trans (ko hh))
     ·cases hh
    ·cases hh
   ·cases hh
  ·cases hh
 ·cases hh
theorem fK{P:Program}{H:bg}{F:aM}(hF:aP F):∀n,(∀f nt c s x s',(bR P H F n).run f nt c s=some (x,s')->bz s.h.next s.h s'.h)/\(∀f nt c kn s x s',(bR P H F n).loop f nt c kn s=some (x,s')->bz s.h.next s.h s'.h)/\aP (bR P H F n).call
 |0=>⟨fun f nt c s x s' h=>by simp[bR]at h,fun f nt c kn s x s' h=>by simp[bR]at h,fun g args h v h' hh=>by simp[bR]at hh⟩
 |n+1=>by
  obtain⟨i1,i2,i3⟩:=fK (H:=H) hF n;refine⟨?_,?_,?_⟩
  ·intro f nt c s x s' h
   simp only[bR,li]at h;split at h
   ·simp only[oi,pj]at h;obtain⟨_,rfl⟩:=h;exact .refl _ _
   ·simp only[oi,pj]at h;obtain⟨_,rfl⟩:=h;exact .refl _ _
   ·simp only[oi,pj]at h;obtain⟨_,rfl⟩:=h;exact .refl _ _
   ·split at h
    ·rename_i s1 h1
     have k1:=i1 _ _ _ _ _ _ h1;have k2:=i1 _ _ _ _ _ _ h;exact k1.trans (k2.mono k1.next)
    ·exact i1 _ _ _ _ _ _ h
   ·split at h
    ·exact i1 _ _ _ _ _ _ h
    ·cases h
   ·split at h
    ·rename_i id' s1 h1
     have k1:=i1 _ _ _ _ _ _ h1;simp only[Bool.cond_eq_ite]at h;split at h
     ·simp only[oi,pj]at h;obtain⟨_,rfl⟩:=h;exact k1
     ·simp only[oi,pj]at h;obtain⟨_,rfl⟩:=h;exact k1
    ·exact i1 _ _ _ _ _ _ h
   ·exact i2 _ _ _ _ _ _ _ h
   ·rename_i ops draw
    split at h
    ·rename_i s1 h1
     simp only[oi,pj]at h;obtain⟨_,rfl⟩:=h;cases draw with
     |true=>exact BA i3 h1
     |false=>exact qN i3 _ _ _ (Nat.le_refl _) h1
    ·cases h
   ·exact Ax i3 h
   ·cases h
  ·intro f nt c kn s x s' h
   simp only[bR,na]at h;split at h
   ·cases h
   ·rename_i s1 h0
    have e0:=Ew h0;split at h
    ·rename_i s2 h1
     have k1:=i1 _ _ _ _ _ _ h1;have k2:=i2 _ _ _ _ _ _ _ h;rw[e0]at k1;exact k1.trans (k2.mono k1.next)
    ·have k1:=i1 _ _ _ _ _ _ h
     rw[e0]at k1;exact k1
  ·intro g args h v h' hh
   simp only[bR,mA]at hh;cases hy:Nat.ble aN g with
   |true=>rw[hy]at hh;exact zO i1 hh
   |false=>
   rw[hy]at hh;simp only[cond_false]at hh;split at hh
   ·rename_i r hr
    simp only[oi]at hh;subst hh;exact hF _ _ _ _ _ hr
   ·split at hh
    ·rename_i fn _
     split at hh
     ·have key:∀s,sj P fn s=some (v,h')->h'=s.h:=by
       intro s he;unfold sj at he;simp only[Bool.cond_eq_ite]at he;repeat' split at he
       all_goals first|(cases he;done)|(simp only[oi,pj]at he;exact he.2.symm)
      split at hh
      ·rename_i s1 h1
       have k1:=i1 _ _ _ _ _ _ h1;rw[key _ hh];exact k1
      ·rename_i s1 h1
       have k1:=i1 _ _ _ _ _ _ h1;rw[key _ hh];exact k1
      ·cases hh
     ·cases hh
    ·cases hh
end Go.Sim
namespace Go.Sim
theorem bH{s s2:St}(h:s2.env=s.env):bq s2=bq s:=by
 funext x;cases x<;>simp[bq,h]
theorem fP{s s2:St}(h:s2.env=s.env):fG s2=fG s:=by
 funext l
 induction l with
 |nil=>rfl
 |cons x l ih=>simp only[fG,bH h,ih]
theorem mC{s s2:St}(h:s2.env=s.env):eO s2=eO s:=by
 funext l
 induction l with
 |nil=>rfl
 |cons x l ih=>obtain⟨i,x⟩:=x;simp only[eO,bH h,ih]
theorem vN{s s2:St}(h:s2.env=s.env):gR s2=gR s:=by
 funext x;cases x<;>simp only[gR,bH h]
inductive wO where
 |idle
 |setG (b:Nat) (blk:yS) (lw:Bool)
 |setL (t:Nat) (cs:List Value)
def wO.apply:wO->St->St
 | .idle,s=>s
 | .setG b blk lw,s=>{ s with h:={ next:=s.h.next,low:=bif lw then Nat.min s.h.low b else s.h.low,m:=s.h.m.set b blk } }
 | .setL t cs,s=>{ s with K:=s.K.set t cs }
def wO.fits:wO->FP->Bool->Prop
 | .idle,x,st=>(∀l b,x≠.new l b)/\st=false
 | .setG b blk lw,x,st=>(x=.block false b/\st=true/\lw=true/\∃es cs,blk=.live true es cs)\/(x=.new false b/\st=false/\lw=false/\∃es cs,blk=.live true es cs)
 | .setL t _,x,st=>(x=.block true t/\st=true)\/(x=.new true t/\st=false)
theorem oA{s s':St}{id tag:Nat}{loc:Bool}{es:Nat}{cells:List Value}{v:Value}(h:s.newAt id tag loc es cells=some (v,s')) :
  (loc=false/\s'=(wO.setG id (.live true es cells) false).apply s/\v=.pointer (some ⟨id,0,none⟩)/\∀s2:St,s2.newAt id tag loc es cells=some (v,(wO.setG id (.live true es cells) false).apply s2)) \/
  (loc=true/\s'=(wO.setL tag cells).apply s/\∀s2:St,s2.newAt id tag loc es cells=some (v,(wO.setL tag cells).apply s2)):=by
 unfold St.newAt at h;cases hc:cells.all aA with
 |false=>rw[hc]at h;simp at h
 |true=>
  rw[hc]at h;cases loc with
  |false=>
   simp only[cond_true,cond_false,oi,pj]at h;obtain⟨rfl,rfl⟩:=h;exact .inl ⟨rfl,rfl,rfl,fun s2=>by unfold St.newAt;rw[hc];rfl⟩
  |true=>
   simp only[cond_true,oi,pj]at h;obtain⟨rfl,rfl⟩:=h;exact .inr ⟨rfl,rfl,fun s2=>by unfold St.newAt;rw[hc];rfl⟩
theorem z8{P:Program}{s s2:St}{t:TypeId}{a:Addr}(h:s2.cells? a=s.cells? a):pX P s2 t a=pX P s t a:=by
 unfold pX St.read;rw[h]
theorem EE{s s':St}{a:Addr}{vs:List Value}(h:s.write a vs=some s') :
  (a.spot=none/\∃blk es cs,blk=.live true es cs/\s'=(wO.setG a.block blk true).apply s/\(∃es0 cs0,s.h.m.get a.block=some (.live true es0 cs0))/\∀s2:St,s2.h.m.get a.block=s.h.m.get a.block->s2.write a vs=some ((wO.setG a.block blk true).apply s2)) \/
  (a.spot.isSome=true/\∃cs,s'=(wO.setL a.block cs).apply s/\∀s2:St,s2.kn=s.kn->s2.K.get a.block=s.K.get a.block->s2.write a vs=some ((wO.setL a.block cs).apply s2)):=by
 unfold St.write at h;cases hok:vs.all aA with
 |false=>rw[hok]at h;simp at h
 |true=>
  rw[hok]at h;simp only[cond_true]at h;cases hsp:a.spot with
  |none=>
   left;rw[hsp]at h;simp only[]at h;split at h
   ·rename_i h' hw
    simp only[oi]at h;subst h;unfold af.write at hw;split at hw
    ·rename_i es cs hm
     split at hw
     ·rename_i cs' hsl
      simp only[oi]at hw;subst hw;refine⟨rfl,.live true es cs',es,cs',rfl,rfl,⟨es,cs,hm⟩,fun s2 h2=>?_⟩;unfold St.write af.write;rw[hok,hsp];simp only[cond_true,h2,hm,hsl];rfl
     ·cases hw
    ·cases hw
   ·cases h
  |some x=>
   right;rw[hsp]at h;simp only[]at h;cases hb:Nat.blt a.block s.kn with
   |false=>rw[hb]at h;simp at h
   |true=>
    rw[hb]at h;simp only[cond_true]at h;split at h
    ·rename_i cs hK
     split at h
     ·rename_i cs' hsl
      simp only[oi]at h;subst h;refine⟨rfl,cs',rfl,fun s2 h1 h2=>?_⟩;unfold St.write;rw[hok,hsp];simp only[cond_true,h1,hb,h2,hK,hsl];simp only[wO.apply,h1]
     ·cases h
    ·cases h
theorem sR {P : Program} {s s' : St} {id tag : Nat} {loc : Bool} {op : Op} {v : Value} (hA : (dx op loc id tag s).large = false) (h : fe P (s.newAt id tag) loc op s = some (v, s')) :
    ∃ E : wO, s' = E.apply s ∧ E.fits (dx op loc id tag s) (gp op) ∧
      ∀ s2 : St, s2.env = s.env → s2.kn = s.kn → (∀ b, dx op loc id tag s = .block false b → s2.h.m.get b = s.h.m.get b) → (∀ t, dx op loc id tag s = .block true t → s2.K.get t = s.K.get t) →
        fe P (s2.newAt id tag) loc op s2 = some (v, E.apply s2) := by
  by_cases hp : bB op = true
  · 
    have hfp : dx op loc id tag s = .none := by unfold dx; rw [hp]; rfl
    have key : s' = s ∧ ∀ s2 : St, s2.env = s.env → fe P (s2.newAt id tag) loc op s2 = some (v, s2) := by
      unfold fe at h
      split at h
      all_goals first | (exfalso; simp [bB] at hp; done) | skip
      all_goals repeat' split at h
      all_goals first
        | (cases h; done)
        | (simp only [oi, pj] at h
           obtain ⟨rfl, rfl⟩ := h
           exact ⟨rfl, fun s2 he => by simp_all [fe, bH he, fP he, mC he, vN he]⟩)
        | (simp only [Bool.cond_eq_ite] at h
           split at h
           · rename_i h1 h2 hcnd
             simp only [oi, pj] at h
             obtain ⟨rfl, rfl⟩ := h
             exact ⟨rfl, fun s2 he => by simp only [fe, fP he, h1, h2, hcnd, cond_true]⟩
           · cases h)
        | (exfalso; simp [bB] at hp; done)
    refine ⟨.idle, key.1, ⟨fun l b => by rw [hfp]; simp, ?_⟩, fun s2 he _ _ _ => key.2 s2 he⟩
    cases op <;> first | rfl | simp [bB] at hp
  · have hp' : bB op = false := by simpa using hp
    unfold fe at h
    split at h
    all_goals first | (exfalso; simp [bB] at hp; done) | skip
    · 
      rename_i e
      split at h
      · rename_i z n hz hn
        have hfp : dx (.alloc e) loc id tag s = bif loc then .new true tag else .new false id := rfl
        rcases oA h with ⟨rfl, h1, _, h2⟩ | ⟨rfl, h1, h2⟩
        · exact ⟨_, h1, .inr ⟨hfp, rfl, rfl, _, _, rfl⟩, fun s2 _ _ _ _ => by simp only [fe, hz, hn]; exact h2 s2⟩
        · exact ⟨_, h1, .inr ⟨hfp, rfl⟩, fun s2 _ _ _ _ => by simp only [fe, hz, hn]; exact h2 s2⟩
      · cases h
    · 
      rename_i e x
      split at h
      · rename_i u n hu hn
        have hfp : dx (.box e x) loc id tag s = bif loc then .new true tag else .new false id := rfl
        rcases oA h with ⟨rfl, h1, _, h2⟩ | ⟨rfl, h1, h2⟩
        · exact ⟨_, h1, .inr ⟨hfp, rfl, rfl, _, _, rfl⟩, fun s2 he _ _ _ => by simp only [fe, bH he, hu, hn]; exact h2 s2⟩
        · exact ⟨_, h1, .inr ⟨hfp, rfl⟩, fun s2 he _ _ _ => by simp only [fe, bH he, hu, hn]; exact h2 s2⟩
      · cases h
    · 
      rename_i t len parts
      split at h
      · rename_i l hl
        have hfp : dx (.buildSlice t len parts) loc id tag s = .new false id := rfl
        have h9 := h
        unfold dD at h
        split at h
        · rename_i e hu
          split at h
          · rename_i n z hn hz
            cases hb : (Nat.ble (len * n) 16777216 && Nat.beq z.cells.toList.length n && Nat.ble len 16777216) with
            | false => rw [hb] at h; simp at h
            | true =>
              rw [hb] at h
              simp only [cond_true] at h
              split at h
              · rename_i cs hcs
                split at h
                · rename_i a s1 hnew
                  simp only [oi, pj] at h
                  obtain ⟨rfl, rfl⟩ := h
                  rcases oA hnew with ⟨_, h1, h3, h2⟩ | ⟨q, _⟩
                  · exact ⟨_, h1, .inr ⟨hfp, rfl, rfl, _, _, rfl⟩, fun s2 he _ _ _ => by simp only [fe, mC he, hl, dD, hu, hn, hz, hb, cond_true, hcs, h2 s2]⟩
                  · cases q
                · cases h
              · cases h
          · cases h
        · cases h
      · cases h
    · 
      rename_i t x
      split at h
      · rename_i a hu
        split at h
        · rename_i u hv
          simp only [oi, pj] at h
          obtain ⟨rfl, rfl⟩ := h
          have hfp : dx (.load t x) loc id tag s = .block a.spot.isSome a.block := by simp only [dx, bB, cond_false, hu]
          refine ⟨.idle, rfl, ⟨fun l b => by rw [hfp]; simp, rfl⟩, fun s2 he hk hb ht => ?_⟩
          have hcells : s2.cells? a = s.cells? a := by
            unfold St.cells?
            cases hsp : a.spot with
            | none =>
              simp only [af.cells?]
              rw [hb a.block (by rw [hfp, hsp]; rfl)]
            | some y =>
              simp only [hk]
              rw [ht a.block (by rw [hfp, hsp]; rfl)]
          simp only [fe, bH he, hu, z8 hcells, hv]
          rfl
        · cases h
      · cases h
    · 
      rename_i t x y
      split at h
      · rename_i a u hx hy
        split at h
        · rename_i s1 hs1
          simp only [oi, pj] at h
          obtain ⟨rfl, rfl⟩ := h
          have hfp : dx (.store t x y) loc id tag s = .block a.spot.isSome a.block := by simp only [dx, bB, cond_false, hx]
          unfold kC at hs1
          split at hs1
          · rename_i n hn
            cases hbq : Nat.beq u.cells.toList.length n with
            | false => rw [hbq] at hs1; simp at hs1
            | true =>
              rw [hbq] at hs1
              simp only [cond_true] at hs1
              rcases EE hs1 with ⟨hsp, blk, es, cs, hblk, h1, _, h2⟩ | ⟨hsp, cs, h1, h2⟩
              · refine ⟨_, h1, .inl ⟨by rw [hfp, hsp]; rfl, rfl, rfl, es, cs, hblk⟩, fun s2 he hk hb ht => ?_⟩
                have := h2 s2 (hb a.block (by rw [hfp, hsp]; rfl))
                simp only [fe, bH he, hx, hy, kC, hn, hbq, cond_true, this]
              · refine ⟨_, h1, .inl ⟨by rw [hfp, hsp], rfl⟩, fun s2 he hk hb ht => ?_⟩
                have := h2 s2 hk (ht a.block (by rw [hfp, hsp]))
                simp only [fe, bH he, hx, hy, kC, hn, hbq, cond_true, this]
          · cases hs1
        · cases h
      · cases h
    · 
      rename_i src dst x
      split at h
      · rename_i a n c hu
        split at h
        · rename_i u hv
          simp only [oi, pj] at h
          obtain ⟨rfl, rfl⟩ := h
          refine ⟨.idle, rfl, ⟨fun l b => ?_, rfl⟩, fun s2 he hk hb ht => ?_⟩
          · simp only [dx, bB, cond_false, hu]
            cases a with
            | none => simp
            | some a =>
              intro q
              simp only [Bool.cond_eq_ite] at q
              split at q <;> cases q
          · have hcm : ms P s2.h src dst a n = ms P s.h src dst a n := by
              cases a with
              | none => rfl
              | some a =>
                cases hsp : a.spot with
                | some y => unfold ms af.readG; simp only [hsp]
                | none =>
                  have hg := hb a.block (by simp [dx, bB, hu, hsp])
                  unfold ms af.readG af.cells?
                  simp only [hsp, hg]
            simp only [fe, bH he, hu, hcm, hv]
            rfl
        · cases h
      · rename_i u1 hne hu
        split at h
        · rename_i u hv
          simp only [oi, pj] at h
          obtain ⟨rfl, rfl⟩ := h
          refine ⟨.idle, rfl, ⟨fun l b => ?_, rfl⟩, fun s2 he hk hb ht => ?_⟩
          · simp only [dx, bB, cond_false, hu]
            split
            · rename_i a9 n9 c9 e9
              simp only [oi] at e9
              exact absurd e9 (hne _ _ _)
            · simp
          · simp only [fe, bH he, hu]
            cases u1 <;> first | exact absurd rfl (hne _ _ _) | (simp only [hv]; rfl)
        · cases h
      · cases h
    · 
      rename_i t l c
      split at h
      · rename_i u1 u2 hu1 hu2
        have hfp : dx (.makeSlice t l c) loc id tag s = .new false id := rfl
        unfold dR at h
        split at h
        · rename_i e k1 l' k2 c' hu
          split at h
          · rename_i n z by_ hn hz hby
            split at h
            · rename_i hcond
              split at h
              · rename_i a s1 hnew
                simp only [oi, pj] at h
                obtain ⟨rfl, rfl⟩ := h
                rcases oA hnew with ⟨_, h1, h3, h2⟩ | ⟨q, _⟩
                · exact ⟨_, h1, .inr ⟨hfp, rfl, rfl, _, _, rfl⟩, fun s2 he _ _ _ => by simp only [fe, bH he, hu1, hu2, dR, hu, hn, hz, hby]; rw [if_pos hcond]; simp only [h2 s2]⟩
                · cases q
              · cases h
            · cases h
          · cases h
        · cases h
      · cases h
    · 
      rename_i b args argTypes
      exfalso
      have : (dx (.call { callee := .builtin b, args, argTypes }) loc id tag s).large = true := by
        cases b <;> first | (simp [bB] at hp'; done) | rfl
      rw [this] at hA
      cases hA
    · exact absurd (show (true : Bool) = false from hA) (by decide)
    · exact absurd (show (true : Bool) = false from hA) (by decide)
    · exact absurd (show (true : Bool) = false from hA) (by decide)
    · exact absurd (show (true : Bool) = false from hA) (by decide)
    · cases h
end Go.Sim
namespace Go.Sim
theorem ua(acc:Array Nat):∀(l:List Edge) (s0 p:Nat),(l.foldl (fun s e=>if Region.binds .any e then s ||| 2 ^ e.on ||| acc.getD e.on 0 else s) s0).testBit p=true->
  s0.testBit p=true\/∃e∈l,Region.binds .any e=true/\(p=e.on\/(acc.getD e.on 0).testBit p=true)
 | [],s0,p,h=>.inl h
 |e :: l,s0,p,h=>by
  simp only[List.foldl_cons]at h;rcases ua acc l _ p h with h1|⟨e',h1,h2,h3⟩
  ·by_cases hb:Region.binds .any e=true
   ·rw[if_pos hb]at h1
    simp only[Nat.testBit_or,Bool.or_eq_true,Nat.testBit_two_pow,decide_eq_true_eq]at h1;rcases h1 with (h1|h1)|h1
    ·exact .inl h1
    ·exact .inr ⟨e,by simp,hb,.inl h1.symm⟩
    ·exact .inr ⟨e,by simp,hb,.inr h1⟩
   ·rw[if_neg hb]at h1;exact .inl h1
  ·exact .inr ⟨e',by simp[h1],h2,h3⟩
def ui(ops:Array Oper)(E:Nat->Prop):Prop:=∀q o,E q->ops[q]?=some o->∀e∈o.after.toList,Region.binds .any e=true->E e.on
theorem oR{ops:Array Oper}{E:Nat->Prop}(hE:ui ops E){p q:Nat}(h:qT (Region.before ops) p q=true)(hq:E q):E p:=by
 have key:∀(l:List Oper) (k:Nat) (acc:Array Nat),acc.size=k->(∀j,l[j]?=ops[k+j]?)->(∀q p,(acc.getD q 0).testBit p=true->E q->E p)->
   ∀q p,((l.foldl (fun(acc:Array Nat) o=>acc.push (o.after.foldl (fun s e=>if Region.binds .any e then s ||| 2 ^ e.on ||| acc.getD e.on 0 else s) 0)) acc).getD q 0).testBit p=true->E q->E p:=by
  intro l
  induction l with
  |nil=>intro k acc _ _ h q p hq;exact h q p hq
  |cons o l ih=>
   intro k acc hk hl h;simp only[List.foldl_cons];have ho:ops[k]?=some o:=by have:=hl 0;simpa using this.symm
   refine ih (k+1) _ (by simp[hk]) (fun j=>by have:=hl (j+1);simpa[Nat.add_assoc,Nat.add_comm 1 j]using this) ?_;intro q p hb hq;rcases Nat.lt_trichotomy q acc.size with hlt|heq|hgt
   ·have:(acc.push (o.after.foldl (fun s e=>if Region.binds .any e then s ||| 2 ^ e.on ||| acc.getD e.on 0 else s) 0)).getD q 0=acc.getD q 0:=by
     simp[Array.getD,Array.getElem_push,hlt,Nat.lt_succ_of_lt hlt]
    rw[this]at hb;exact h q p hb hq
   ·subst heq
    have:(acc.push (o.after.foldl (fun s e=>if Region.binds .any e then s ||| 2 ^ e.on ||| acc.getD e.on 0 else s) 0)).getD acc.size 0=o.after.foldl (fun s e=>if Region.binds .any e then s ||| 2 ^ e.on ||| acc.getD e.on 0 else s) 0:=by
     simp[Array.getD]
    rw[this,<-Array.foldl_toList]at hb;rcases ua acc o.after.toList 0 p hb with h1|⟨e,h1,h2,h3⟩
    ·simp at h1
    ·have he:=hE acc.size o hq (by rw[hk];exact ho) e h1 h2
     rcases h3 with rfl|h3
     ·exact he
     ·exact h _ _ h3 he
   ·have:(acc.push (o.after.foldl (fun s e=>if Region.binds .any e then s ||| 2 ^ e.on ||| acc.getD e.on 0 else s) 0)).getD q 0=0:=by
     simp[Array.getD,show ¬q<acc.size+1 by omega]
    rw[this]at hb;simp at hb
 refine key ops.toList 0 #[] rfl (fun j=>by simp) (fun q p h=>by simp at h) q p ?_ hq;unfold qT Region.before at h;rw[<-Array.foldl_toList]at h;exact h
theorem pp{α:Type}{p:α->α->Bool}:∀(l:List α),wq p l=true->∀(i k:Nat) (x y:α),i<k->l[i]?=some x->l[k]?=some y->p x y=true
 | [],_,i,k,x,y,_,h1,_=>by simp at h1
 |z :: l,h,i,k,x,y,hik,h1,h2=>by
  simp only[wq,Bool.and_eq_true,List.all_eq_true]at h;obtain⟨k',rfl⟩:∃k',k=k'+1:=⟨k-1,by omega⟩;simp only[List.getElem?_cons_succ]at h2;cases i with
  |zero=>simp at h1;subst h1;exact h.1 y (List.mem_of_getElem? h2)
  |succ i=>simp only[List.getElem?_cons_succ]at h1;exact pp l h.2 i k' x y (by omega) h1 h2
section
variable(P:Program)(H:bg)(call:bS)(f:FuncId)(nt:Nat)(ops:Array Oper)(base kbase:Nat)
def j9(i:Nat)(o:Oper)(s:St)(v:Value)(x:FP)(wr:Bool)(s':St):Prop:=
 (gU ops o s=some true/\∃s1,iv P H call f (base+i) (kbase+i) o s.fresh=some (v,s1)/\o9 nt (s1.lowered s.h.low) o.dst v=some s'/\x=dx o.op (dC H f o) (base+i) (kbase+i) s/\wr=(gp o.op || Nat.blt s1.h.low s.h.next)) \/
 (gU ops o s=some false/\o9 nt s o.dst undef=some s'/\v=undef/\x=.none/\wr=false)
theorem tG:∀(l:List Nat) (i:Nat) (s r:St) (fps:List (Nat×FP×Bool)),oE P H call f nt ops base kbase l i s=some (r,fps)->
  ∃(S:Nat->St) (V:Nat->Value) (X:Nat->FP) (W:Nat->Bool),S i=s/\S (i+l.length)=r/\fps.length=l.length /\
   ∀j p,l[j]?=some p->∃o,ops[p]?=some o/\fps[j]?=some (p,X (i+j),W (i+j))/\j9 P H call f nt ops base kbase (i+j) o (S (i+j)) (V (i+j)) (X (i+j)) (W (i+j)) (S (i+j+1))
 | [],i,s,r,fps,h=>by
  simp only[oE,oi,pj]at h;obtain⟨rfl,rfl⟩:=h;exact⟨fun _=>s,fun _=>undef,fun _=>.none,fun _=>false,rfl,rfl,rfl,fun j p h=>by simp at h⟩
 |p :: l,i,s,r,fps,h=>by
  simp only[oE]at h;have comb:∀(o:Oper) (v:Value) (x:FP) (wr:Bool) (s2:St) (fps':List (Nat×FP×Bool)),ops[p]?=some o->j9 P H call f nt ops base kbase i o s v x wr s2->oE P H call f nt ops base kbase l (i+1) s2=some (r,fps')->fps=(p,x,wr) :: fps'->
    ∃(S:Nat->St) (V:Nat->Value) (X:Nat->FP) (W:Nat->Bool),S i=s/\S (i+(p :: l).length)=r/\fps.length=(p :: l).length /\
     ∀j q,(p :: l)[j]?=some q->∃o,ops[q]?=some o/\fps[j]?=some (q,X (i+j),W (i+j))/\j9 P H call f nt ops base kbase (i+j) o (S (i+j)) (V (i+j)) (X (i+j)) (W (i+j)) (S (i+j+1)):=by
   intro o v x wr s2 fps' ho hs hr hf;subst hf;obtain⟨S,V,X,W,e1,e2,e3,e4⟩:=tG l (i+1) s2 r fps' hr;refine⟨fun k=>if k=i then s else S k,fun k=>if k=i then v else V k,fun k=>if k=i then x else X k,fun k=>if k=i then wr else W k,by simp,?_,by simp[e3],?_⟩
   ·have:¬i+(p :: l).length=i:=by simp
    simp only[this,if_false];rw[<-e2];congr 1;simp;omega
   ·intro j q hj
    cases j with
    |zero=>
     simp at hj;subst hj;refine⟨o,ho,by simp,?_⟩;simp only[Nat.add_zero,if_true,show ¬i+1=i by omega,if_false,e1];exact hs
    |succ j=>
     simp only[List.getElem?_cons_succ]at hj;obtain⟨o',f1,f2,f3⟩:=e4 j q hj;have e5:i+1+j=i+(j+1):=by omega
     rw[e5]at f2 f3;refine⟨o',f1,?_,?_⟩
     ·simp only[List.getElem?_cons_succ,show ¬i+(j+1)=i by omega,if_false];exact f2
     ·simp only[show ¬i+(j+1)=i by omega,show ¬i+(j+1)+1=i by omega,if_false];exact f3
  split at h
  ·cases h
  ·rename_i o ho
   split at h
   ·rename_i hw
    split at h
    ·rename_i v s1 h1
     split at h
     ·rename_i s2 h2
      split at h
      ·rename_i r' fps' h3
       simp only[oi,pj]at h;obtain⟨rfl,h4⟩:=h;exact comb o v _ _ s2 fps' ho (.inl ⟨hw,s1,h1,h2,rfl,rfl⟩) h3 h4.symm
      ·cases h
     ·cases h
    ·cases h
   ·rename_i hw
    split at h
    ·rename_i s2 h2
     split at h
     ·rename_i r' fps' h3
      simp only[oi,pj]at h;obtain⟨rfl,h4⟩:=h;exact comb o undef .none false s2 fps' ho (.inr ⟨hw,h2,rfl,rfl,rfl⟩) h3 h4.symm
     ·cases h
    ·cases h
   ·cases h
end
theorem pN{P:Program}{H:bg}{call:bS}{f:FuncId}{id tag:Nat}{o:Oper}{s s':St}{v:Value}(hx:(dx o.op (dC H f o) id tag s).large=true)(h:iv P H call f id tag o s=some (v,s')) :
  s' = { s with h:=s'.h }/\(∀s3:St,s3.env=s.env->s3.h=s.h->iv P H call f id tag o s3=some (v,{ s3 with h:=s'.h }))/\(aP call->∀B,B<=s.h.next->bz B s.h s'.h):=by
 unfold iv at h;split at h
 ·rename_i c hc
  have h0:=h;unfold iz at h;split at h
  ·rename_i g args hg
   split at h
   ·rename_i u h' hr
    simp only[oi,pj]at h;obtain⟨rfl,rfl⟩:=h;refine⟨rfl,fun s3 he hh=>?_,fun hk B hB=>nM hk hB h0⟩;have e1:jk s3 c=jk s c:=by unfold jk;rw[bH he,fP he]
    unfold iv;rw[hc];simp only[iz,e1,hg,hh,hr]
   ·cases h
  ·cases h
 ·rename_i hc
  have hcase:∀op,fe P (s.newAt id tag) (dC H f o) op s=some (v,s')->(dx op (dC H f o) id tag s).large=true->
    s' = { s with h:=s'.h }/\(∀s3:St,s3.env=s.env->s3.h=s.h->fe P (s3.newAt id tag) (dC H f o) op s3=some (v,{ s3 with h:=s'.h }))/\(∀B,B<=s.h.next->bz B s.h s'.h):=by
   intro op h hx;unfold fe at h;split at h
   all_goals first|(exfalso;simp[dx,bB,FP.large]at hx;done)|skip
   ·exfalso;revert hx;unfold dx;cases dC H f o<;>simp[bB,FP.large]
   ·exfalso;revert hx;unfold dx;cases dC H f o<;>simp[bB,FP.large]
   ·rename_i t x
    split at h
    ·rename_i a hu;exfalso;simp[dx,bB,hu,FP.large]at hx
    ·cases h
   ·rename_i t x y
    split at h
    ·rename_i a u hu _;exfalso;simp[dx,bB,hu,FP.large]at hx
    ·cases h
   ·exfalso
    revert hx
    simp only[dx,bB,cond_false];split
    ·rename_i a9 n9 c9 e9
     cases a9.spot.isNone<;>simp[FP.large]
    ·simp[FP.large]
   ·rename_i b args argTypes
    split at h
    ·rename_i l hl
     split at h
     ·exfalso;simp[dx,bB,FP.large]at hx
     ·exfalso;simp[dx,bB,FP.large]at hx
     ·exfalso;simp[dx,bB,FP.large]at hx
     ·exfalso;simp[dx,bB,FP.large]at hx
     ·obtain⟨h',h1,rfl⟩:=aR h
      refine⟨rfl,fun s3 he hh=>?_,fun B hB=>pT hB h1⟩;simp only[fe,fP he,hl,hh,h1,bF]
     ·obtain⟨h',h1,rfl⟩:=aR h
      refine⟨rfl,fun s3 he hh=>?_,fun B hB=>tA h1⟩;simp only[fe,fP he,hl,hh,h1,bF]
     ·obtain⟨h',h1,rfl⟩:=aR h
      refine⟨rfl,fun s3 he hh=>?_,fun B hB=>rG h1⟩;simp only[fe,fP he,hl,hh,h1,bF]
     ·cases h
    ·cases h
   ·obtain⟨h',h1,rfl⟩:=aR h
    simp only[oi,pj]at h1;obtain⟨rfl,rfl⟩:=h1;exact⟨rfl,fun s3 he hh=>by simp only[fe,hh,bF],fun B hB=>.pushB hB _⟩
   ·split at h
    ·rename_i u1 u2 g1 g2
     obtain⟨h',h1,rfl⟩:=aR h;refine⟨rfl,fun s3 he hh=>?_,fun B hB=>pL h1⟩;simp only[fe,bH he,g1,g2,hh,h1,bF]
    ·cases h
   ·split at h
    ·rename_i u1 u2 u3 g1 g2 g3
     obtain⟨h',h1,rfl⟩:=aR h;refine⟨rfl,fun s3 he hh=>?_,fun B hB=>lP h1⟩;simp only[fe,bH he,g1,g2,g3,hh,h1,bF]
    ·cases h
   ·split at h
    ·rename_i u1 u2 u3 g1 g2 g3
     obtain⟨h',h1,rfl⟩:=aR h;refine⟨rfl,fun s3 he hh=>?_,fun B hB=>lP h1⟩;simp only[fe,bH he,g1,g2,g3,hh,h1,bF]
    ·cases h
   ·cases h
  obtain⟨e1,e2,e3⟩:=hcase o.op h hx;refine⟨e1,fun s3 he hh=>?_,fun _=>e3⟩;unfold iv;rw[hc];exact e2 s3 he hh
theorem vD{h:af}{b c es:Nat}{cs:List Value}(hb:b<h.next)(hc:b≠c):((h.kill c).push es cs).m.get b=h.m.get b:=by
 show((h.m.set c _).set h.next _).get b=_;rw[cg.get_set_ne _ _ (by omega),cg.get_set_ne _ _ (by omega)]
theorem xk{P:Program}{h h':af}{ts:List TypeId}{x:Value}{r:List Value}{v:Value}(hh:bO P h ts (x :: r)=some (v,h')){b:Nat}(hb:b<h.next)(hne:b≠wo (some x)):h'.m.get b=h.m.get b:=by
 unfold bO at hh;split at hh
 ·rename_i t xt base len c' y heq
  simp only[List.cons.injEq]at heq;obtain⟨rfl,rfl⟩:=heq;have ps:∀(es:Nat) (cs:List Value),(h.push es cs).m.get b=h.m.get b:=fun es cs=>by
   show(h.m.set h.next _).get b=_;rw[cg.get_set_ne _ _ (by omega)]
  cases base with
  |none=>
   simp only[Bool.cond_eq_ite]at hh;repeat' split at hh
   all_goals first
    |(cases hh;done)
    |(simp only[oi,pj]at hh;obtain⟨_,rfl⟩:=hh;rfl)
    |(simp only[oi,pj]at hh;obtain⟨_,rfl⟩:=hh;exact ps _ _)
  |some a=>
   have hne:b≠a.block:=hne;have wr:∀{h1:af} {o:Nat} {vs:List Value},h.write a.block o vs=some h1->h1.m.get b=h.m.get b:=by
    intro h1 o vs hw;unfold af.write at hw;repeat' split at hw
    all_goals first
     |(cases hw;done)
     |(simp only[oi]at hw;subst hw;show(h.m.set _ _).get b=_;rw[cg.get_set_ne _ _ (fun e=>hne e.symm)])
   have wg:∀{h1:af} {n:Nat} {vs:List Value},h.writeG (dP a n) vs=some h1->h1.m.get b=h.m.get b:=by
    intro h1 n vs hw;unfold af.writeG at hw;simp only[dP,Bool.cond_eq_ite]at hw;repeat' split at hw
    all_goals first
     |(cases hw;done)
     |exact wr hw
   simp only[Bool.cond_eq_ite]at hh;repeat' split at hh
   all_goals first
    |(cases hh;done)
    |(simp only[oi,pj]at hh;obtain⟨_,rfl⟩:=hh;rfl)
    |(simp only[oi,pj]at hh;obtain⟨_,rfl⟩:=hh;exact vD hb hne)
    |(simp only[oi,pj]at hh;obtain⟨_,rfl⟩:=hh;exact ps _ _)
    |(simp only[oi,pj]at hh;obtain⟨_,rfl⟩:=hh;exact wg (by assumption))
 ·cases hh
theorem Do{P:Program}{H:bg}{call:bS}{f:FuncId}{id tag:Nat}{o:Oper}{s s':St}{v:Value}{c:Nat}(hx:dx o.op (dC H f o) id tag s=.app c)(h:iv P H call f id tag o s=some (v,s')){b:Nat}(hb:b<s.h.next)(hne:b≠c):s'.h.m.get b=s.h.m.get b:=by
 have key:∀op,dx op (dC H f o) id tag s=.app c->∃args ts,op=.call { callee:=.builtin .append,args:=args,argTypes:=ts }/\wo (Ad s args.toList)=c:=by
  intro op hx;unfold dx at hx;cases hp:bB op with
  |true=>rw[hp]at hx;cases hx
  |false=>
   rw[hp]at hx;simp only[cond_false]at hx;split at hx
   ·cases hl:dC H f o<;>rw[hl]at hx<;>cases hx
   ·cases hl:dC H f o<;>rw[hl]at hx<;>cases hx
   ·cases hx
   ·cases hx
   ·split at hx<;>cases hx
   ·split at hx<;>cases hx
   ·split at hx
    ·rename_i a _ _ _
     cases hn:a.spot.isNone<;>rw[hn]at hx<;>cases hx
    ·cases hx
   ·rename_i args ts
    exact⟨args,ts,rfl,by simpa using hx⟩
   ·cases hx
 obtain⟨args,ts,ho,rfl⟩:=key o.op hx;unfold iv at h;rw[ho]at h;have hc:dr (.call { callee:=.builtin .append,args:=args,argTypes:=ts })=none:=rfl;rw[hc]at h;have h:fe P (s.newAt id tag) (dC H f o) (.call { callee:=.builtin .append,args:=args,argTypes:=ts }) s=some (v,s'):=h;simp only[fe]at h;split at h
 ·rename_i l hl
  obtain⟨h',h1,rfl⟩:=aR h;cases ha:args.toList with
  |nil=>
   rw[ha]at hl;simp only[fG,oi]at hl;subst hl;unfold bO at h1;split at h1
   ·rename_i heq;cases heq
   ·cases h1
  |cons x r=>
   rw[ha]at hne hl;have:∃u l',l=u :: l'/\bq s x=some u:=by
    unfold fG at hl;split at hl
    ·rename_i u e1
     split at hl
     ·cases hl
      exact⟨u,_,rfl,e1⟩
     ·cases hl
    ·cases hl
   obtain⟨u,l',rfl,hu⟩:=this;refine xk h1 hb ?_;have e:Ad s (x :: r)=some u:=hu;rw[e]at hne;exact hne
 ·cases h
theorem wt{P:Program}{H:bg}{call:bS}(hcall:fz P call){f:FuncId}{J:dm}{s s':St}{w:World}{a:Act}{id tag:Nat}{o:Oper}{v:Value}(hR:HR J s w)(hM:v5 J s w (s.newAt id tag))(hE:mF J s a o.op.operands.toList)(h:iv P H call f id tag o s=some (v,s')) :
  xS P J s w a o v s' (fun k=>(zf o.op (dC H f o)=true/\k=id)\/s.h.next<=k) (fun t=>Al o.op (dC H f o)=true/\t=tag):=by
 unfold iv at h;split at h
 ·rename_i c hc
  intro K Q hK ro;exact rX hcall hR (mM hc) hE h K Q (fun c w' J' a1 a2 a3 a4 a5 a6=>hK c w' J' a1 a2 a3 a4 (a5.mono (fun _=>.inr)) (a6.mono (fun _ q=>q.elim))) ro
 ·intro K Q hK ro
  refine(Df hR hM hE G6 h).goes (rK h) K Q (ro:=ro) (fun c w' J' a1 a2 a3 a4 a5 a6=>hK c w' J' a1 a2 a3 a4 (a5.mono ?_) (a6.mono ?_))
  ·rintro k (⟨q,es,cells,s9,h9⟩|⟨_,h9⟩)
   ·left
    refine⟨q,?_⟩;unfold St.newAt at h9;simp only[Bool.cond_eq_ite]at h9;split at h9
    ·simp at h9;exact h9.1.symm
    ·cases h9
   ·exact .inr h9
  ·rintro t ⟨q,es,cells,s9,h9⟩
   refine⟨q,?_⟩;unfold St.newAt at h9;simp only[Bool.cond_eq_ite]at h9;split at h9
   ·simp at h9;exact h9.1.symm
   ·cases h9
end Go.Sim
namespace Go.Sim
structure Tr(P:Program)(H:bg)(call:bS)(f:FuncId)(nt:Nat)(ops:Array Oper)(base kbase:Nat)(l:List Nat)(S:Nat->St)(V:Nat->Value)(X:Nat->FP)(W:Nat->Bool):Prop where
 len:l.length=ops.size
 step:∀(i p:Nat),l[i]?=some p->∃o,ops[p]?=some o/\j9 P H call f nt ops base kbase i o (S i) (V i) (X i) (W i) (S (i+1))
 dist:∀(i k p q:Nat),i<k->l[i]?=some p->l[k]?=some q->p≠q
 conf:∀(i k p q:Nat) (o o':Oper),i<k->l[i]?=some p->l[k]?=some q->ops[p]?=some o->ops[q]?=some o'->(me ops o o'=true\/bN (base+ops.size) (X i) (W i) (X k) (W k)=true)->qT (Region.before ops) p q=true
 lim:base+ops.size<=(S 0).h.next
 kn:(S 0).kn=kbase+ops.size
 keep:aP call
def uu(S:Nat->St)(X:Nat->FP)(W:Nat->Bool)(j id:Nat):Prop:=(X j=.block false id/\W j=true)\/X j=.new false id\/((X j).large=true/\((W j=true/\(X j).hits id=true)\/(S j).h.next<=id))
def yq(X:Nat->FP)(W:Nat->Bool)(j t:Nat):Prop:=(X j=.block true t/\W j=true)\/X j=.new true t
section
variable{P:Program}{H:bg}{call:bS}{f:FuncId}{nt:Nat}{ops:Array Oper}{base kbase:Nat}{l:List Nat}{S:Nat->St}{V:Nat->Value}{X:Nat->FP}{W:Nat->Bool}
theorem mf{o:Oper}{c:Call}{loc:Bool}{id tag:Nat}{s:St}(h:dr o.op=some c):dx o.op loc id tag s=.all:=by
 have hc:=mM h;unfold dr at h;rw[hc]at h ⊢;simp only[]at h;cases hx:c.callee with
 |value x=>cases c;simp only at hx;subst hx;rfl
 |invoke _ _=>rw[hx]at h;simp at h
 |builtin _=>rw[hx]at h;simp at h
theorem fj{o:Op}{loc:Bool}{id tag:Nat}{s:St}:dx o loc id tag s.fresh=dx o loc id tag s:=by
 unfold dx;have e:∀l,Ad s.fresh l=Ad s l:=fun l=>by cases l<;>first|rfl|exact bH rfl
 simp only[bH (s:=s) (s2:=s.fresh) rfl,e]
structure H8(i:Nat)(o:Oper)(s:St)(v:Value)(x:FP)(wr:Bool)(s':St):Prop where
 env:∀t,s'.env.get t=if o.dst=some t then some v else s.env.get t
 kn:s'.kn=s.kn
 next:s.h.next<=s'.h.next
 nextEq:x.large=false->s'.h.next=s.h.next
 low:s'.h.low<=s.h.low
theorem j9.sum(hk:aP call){i:Nat}{o:Oper}{s s':St}{v:Value}{x:FP}{wr:Bool}(h:j9 P H call f nt ops base kbase i o s v x wr s'):H8 i o s v x wr s':=by
 have henv:∀(s0:St) (u:Value),o9 nt s0 o.dst u=some s'->∀t,s'.env.get t=if o.dst=some t then some u else s0.env.get t:=by
  intro s0 u hp t;rcases kP hp with ⟨h1,rfl⟩|⟨d,h1,_,rfl⟩
  ·simp[h1]
  ·simp only[h1,cg.get_set,oi]
 rcases h with ⟨_,s1,h1,h2,rfl,rfl⟩|⟨_,h2,rfl,rfl,rfl⟩
 ·by_cases hA:(dx o.op (dC H f o) (base+i) (kbase+i) s).large=true
  ·obtain⟨e1,_,e3⟩:=pN (by rw[fj];exact hA) h1
   have k:=ic (e3 hk 0 (Nat.zero_le _));refine⟨fun t=>?_,?_,?_,fun q=>absurd (hA.symm.trans q) (by decide),?_⟩
   ·rw[henv _ _ h2 t];rw[e1];rfl
   ·rw[bX h2,e1];rfl
   ·rw[bX h2];exact k.next
   ·rw[bX h2];exact k.low
  ·have hc:dr o.op=none:=by
    cases hc:dr o.op with
    |none=>rfl
    |some c=>exact absurd (by rw[mf hc];rfl) hA
   unfold iv at h1;rw[hc]at h1;obtain⟨E,e1,e2,_⟩:=sR (by rw[fj];simpa using hA) h1;have hEe:s1.env=s.env/\s1.kn=s.kn/\s1.h.next=s.h.next:=by
    rw[e1];cases E<;>exact⟨rfl,rfl,rfl⟩
   refine⟨fun t=>?_,?_,?_,fun _=>?_,?_⟩
   ·rw[henv _ _ h2 t];simp only[St.lowered,hEe.1]
   ·rw[bX h2];exact hEe.2.1
   ·rw[bX h2];simp only[St.lowered,hEe.2.2];exact Nat.le_refl _
   ·rw[bX h2];exact hEe.2.2
   ·rw[bX h2];exact Nat.min_le_left _ _
 ·refine⟨fun t=>henv _ _ h2 t,?_,?_,fun _=>?_,?_⟩
  ·rw[bX h2]
  ·rw[bX h2];exact Nat.le_refl _
  ·rw[bX h2]
  ·rw[bX h2];exact Nat.le_refl _
theorem j9.getG(hk:aP call){i:Nat}{o:Oper}(h:j9 P H call f nt ops base kbase i o (S i) (V i) (X i) (W i) (S (i+1))){id:Nat}(hm:¬uu S X W i id):(S (i+1)).h.m.get id=(S i).h.m.get id:=by
 rcases h with ⟨_,s1,h1,h2,hx,hw⟩|⟨_,h2,_,hx,hw⟩
 ·rw[bX h2]
  show s1.h.m.get id=_;by_cases hA:(X i).large=true
  ·obtain⟨e1,_,e3⟩:=pN (by rw[fj,<-hx];exact hA) h1
   have hlt:id<(S i).h.next:=by
    rcases Nat.lt_or_ge id (S i).h.next with q|q
    ·exact q
    ·exact absurd (.inr (.inr ⟨hA,.inr q⟩)) hm
   cases hh:(X i).hits id with
   |false=>
    cases hX:X i with
    |app c=>
     rw[hX]at hh;exact Do (by rw[fj,<-hx];exact hX) h1 hlt (fun e=>by rw[e]at hh;simp[FP.hits]at hh)
    |all=>rw[hX]at hh;cases hh
    |none=>rw[hX]at hh;cases hh
    |block _ _=>rw[hX]at hh;cases hh
    |new _ _=>rw[hX]at hh;cases hh
   |true=>
   have hwf:W i=false:=by
    cases hq:W i with
    |false=>rfl
    |true=>exact absurd (.inr (.inr ⟨hA,.inl ⟨hq,hh⟩⟩)) hm
   have hlow:(S i).h.next<=s1.h.low:=by
    rw[hwf]at hw;have:=hw.symm;simp only[Bool.or_eq_false_iff]at this;rcases Nat.lt_or_ge s1.h.low (S i).h.next with q|q
    ·rw[da q]at this;cases this.2
    ·exact q
   exact(e3 hk (S i).h.next (Nat.le_refl _)).get id hlt (by omega)
  ·have hc:dr o.op=none:=by
    cases hc:dr o.op with
    |none=>rfl
    |some c=>exact absurd (by rw[hx,mf hc];rfl) hA
   unfold iv at h1;rw[hc]at h1;obtain⟨E,e1,e2,_⟩:=sR (by rw[fj,<-hx];simpa using hA) h1;rw[fj,<-hx]at e2;rw[e1];cases E with
   |idle=>rfl
   |setL t cs=>rfl
   |setG b blk lw=>
    have hne:b≠id:=by
     intro e;subst e;rcases e2 with ⟨q1,q2,_⟩|⟨q1,_⟩
     ·exact hm (.inl ⟨q1,by rw[hw,q2];rfl⟩)
     ·exact hm (.inr (.inl q1))
    show((S i).fresh.h.m.set b blk).get id=_;rw[cg.get_set_ne _ _ hne];rfl
 ·rw[bX h2]
theorem j9.getL{i:Nat}{o:Oper}(h:j9 P H call f nt ops base kbase i o (S i) (V i) (X i) (W i) (S (i+1))){t:Nat}(hm:¬yq X W i t):(S (i+1)).K.get t=(S i).K.get t:=by
 rcases h with ⟨_,s1,h1,h2,hx,hw⟩|⟨_,h2,_,hx,hw⟩
 ·rw[bX h2]
  show s1.K.get t=_;by_cases hA:(X i).large=true
  ·obtain⟨e1,_,_⟩:=pN (by rw[fj,<-hx];exact hA) h1
   rw[e1];rfl
  ·have hc:dr o.op=none:=by
    cases hc:dr o.op with
    |none=>rfl
    |some c=>exact absurd (by rw[hx,mf hc];rfl) hA
   unfold iv at h1;rw[hc]at h1;obtain⟨E,e1,e2,_⟩:=sR (by rw[fj,<-hx];simpa using hA) h1;rw[fj,<-hx]at e2;rw[e1];cases E with
   |idle=>rfl
   |setG b blk lw=>rfl
   |setL b cs=>
    have hne:b≠t:=by
     intro e;subst e;rcases e2 with ⟨q1,q2⟩|⟨q1,_⟩
     ·exact hm (.inl ⟨q1,by rw[hw,q2];rfl⟩)
     ·exact hm (.inr q1)
    show((S i).fresh.K.set b cs).get t=_;rw[cg.get_set_ne _ _ hne];rfl
 ·rw[bX h2]
variable(T:Tr P H call f nt ops base kbase l S V X W)
include T
theorem Tr.at{i:Nat}(h:i<ops.size):∃p o,l[i]?=some p/\ops[p]?=some o/\j9 P H call f nt ops base kbase i o (S i) (V i) (X i) (W i) (S (i+1)):=by
 have hl:i<l.length:=by rw[T.len];exact h
 obtain⟨o,h1,h2⟩:=T.step i l[i] (by simp[hl]);exact⟨l[i],o,by simp[hl],h1,h2⟩
theorem Tr.knAt:∀i,i<=ops.size->(S i).kn=kbase+ops.size
 |0,_=>T.kn
 |i+1,h=>by
  obtain⟨p,o,_,_,hs⟩:=T.at (i:=i) (by omega);rw[(hs.sum T.keep).kn,Tr.knAt i (by omega)]
theorem Tr.limAt:∀i,i<=ops.size->base+ops.size<=(S i).h.next
 |0,_=>T.lim
 |i+1,h=>by
  obtain⟨p,o,_,_,hs⟩:=T.at (i:=i) (by omega);exact Nat.le_trans (Tr.limAt i (by omega)) (hs.sum T.keep).next
theorem Tr.lowAt:∀d i,i+d<=ops.size->(S (i+d)).h.low<=(S i).h.low
 |0,i,_=>Nat.le_refl _
 |d+1,i,h=>by
  obtain⟨p,o,_,_,hs⟩:=T.at (i:=i+d) (by omega);exact Nat.le_trans (hs.sum T.keep).low (Tr.lowAt d i (by omega))
theorem Tr.stableG{id:Nat}:∀d i,i+d<=ops.size->(∀j,i<=j->j<i+d->¬uu S X W j id)->(S (i+d)).h.m.get id=(S i).h.m.get id
 |0,i,_,_=>rfl
 |d+1,i,h,hm=>by
  obtain⟨p,o,_,_,hs⟩:=T.at (i:=i+d) (by omega);have:=hs.getG T.keep (hm (i+d) (by omega) (by omega));rw[show i+(d+1)=i+d+1 by omega,this];exact Tr.stableG d i (by omega) (fun j h1 h2=>hm j h1 (by omega))
theorem Tr.stableL{t:Nat}:∀d i,i+d<=ops.size->(∀j,i<=j->j<i+d->¬yq X W j t)->(S (i+d)).K.get t=(S i).K.get t
 |0,i,_,_=>rfl
 |d+1,i,h,hm=>by
  obtain⟨p,o,_,_,hs⟩:=T.at (i:=i+d) (by omega);have:=hs.getL (hm (i+d) (by omega) (by omega));rw[show i+(d+1)=i+d+1 by omega,this];exact Tr.stableL d i (by omega) (fun j h1 h2=>hm j h1 (by omega))
theorem Tr.stableE{t:Nat}:∀d i,i+d<=ops.size->(∀j p o,i<=j->j<i+d->l[j]?=some p->ops[p]?=some o->o.dst≠some t)->(S (i+d)).env.get t=(S i).env.get t
 |0,i,_,_=>rfl
 |d+1,i,h,hm=>by
  obtain⟨p,o,hp,ho,hs⟩:=T.at (i:=i+d) (by omega);have:=(hs.sum T.keep).env t;rw[if_neg (hm (i+d) p o (by omega) (by omega) hp ho)]at this;rw[show i+(d+1)=i+d+1 by omega,this];exact Tr.stableE d i (by omega) (fun j p o h1 h2=>hm j p o h1 (by omega))
theorem Tr.stableN:∀d i,i+d<=ops.size->(∀j,i<=j->j<i+d->(X j).large=false)->(S (i+d)).h.next=(S i).h.next
 |0,i,_,_=>rfl
 |d+1,i,h,hm=>by
  obtain⟨p,o,hp,ho,hs⟩:=T.at (i:=i+d) (by omega);have:=(hs.sum T.keep).nextEq (hm (i+d) (by omega) (by omega));rw[show i+(d+1)=i+d+1 by omega,this];exact Tr.stableN d i (by omega) (fun j h1 h2=>hm j h1 (by omega))
end
structure Hv(ops:Array Oper)(base kbase:Nat)(l:List Nat)(S:Nat->St)(X:Nat->FP)(W:Nat->Bool)(J0:dm)(s0:St)(w0:World)(a0:Act)(E:Nat->Prop)(a:Act)(w:World)(J:dm)(s2:St):Prop where
 kn:s2.kn=kbase+ops.size
 next:∀k,k<=ops.size->(∀(j p:Nat),l[j]?=some p->(X j).large=true->(E p↔j<k))->s2.h.next=(S k).h.next
 lim:base+ops.size<=s2.h.next
 g:∀id L k,k<=ops.size->J.g id=some L->(∀(j p:Nat),l[j]?=some p->uu S X W j id->(E p↔j<k))->s2.h.m.get id=(S k).h.m.get id
 lk:∀t L k,k<=ops.size->J.l t=some L->(∀(j p:Nat),l[j]?=some p->yq X W j t->(E p↔j<k))->s2.K.get t=(S k).K.get t
 low:(S ops.size).h.low<=s2.h.low
 good:aQ J0 s0 w0 J s2 w
 adds:dI (base<=·) J0.g J.g
 domg:∀(j p:Nat),l[j]?=some p->(J.g (base+j)).isSome=true->E p
 doml:∀(j p:Nat),l[j]?=some p->(J.l (kbase+j)).isSome=true->E p
 env:∀t v k,k<=ops.size->(∀(j p:Nat) (o:Oper),l[j]?=some p->ops[p]?=some o->o.dst=some t->(E p↔j<k))->(S k).env.get t=some v->t<a.tmps.size/\VR J v (a.tmps.getD t undef)
 size:a.tmps.size=a0.tmps.size
 defers:a.defers=a0.defers
theorem aQ.leftLow{J J':dm}{s t s':St}{w w':World}(h:aQ J s w J' s' w')(hn:t.h.next=s.h.next)(hl:s'.h.low<=t.h.low):aQ J t w J' s' w':=
 { hr:=h.hr,mono:=h.mono,next:=by rw[hn];exact h.next,low:=hl,size:=h.size,os:=h.os,tape:=h.tape,output:=h.output,fresh:=h.fresh,lfresh:=h.lfresh,frame:=h.frame }
theorem aQ.lower {J J' : dm} {s s' : St} {w w' : World} (h : aQ J s w J' s' w') {lo : Nat} (hl : lo ≤ s'.h.low) : aQ J s w J' { s' with h := { s'.h with low := lo } } w' :=
  { hr := { gdom := h.hr.gdom, gblk := h.hr.gblk, gcon := h.hr.gcon, ginj := h.hr.ginj, ldom := h.hr.ldom, lcon := h.hr.lcon, linj := h.hr.linj, sep := h.hr.sep }
    mono := h.mono, next := h.next, low := Nat.le_trans hl h.low, size := h.size, os := h.os, tape := h.tape, output := h.output
    fresh := fun id L h1 h2 => (h.fresh id L h1 h2).imp (fun q => q) (fun ⟨a, b, c, d, e⟩ => ⟨a, b, c, d, Nat.le_trans hl e⟩)
    lfresh := h.lfresh, frame := fun b hb hg hll => h.frame b hb (fun id L h1 h2 => Nat.lt_of_lt_of_le (hg id L h1 h2) hl) hll }
end Go.Sim
namespace Go.Sim
theorem HR.swap {J : dm} {s s' : St} {w : World} (h : HR J s w) (hn : s.h.next ≤ s'.h.next) (hk : s.kn ≤ s'.kn) (hg : ∀ id L, J.g id = some L → s'.h.m.get id = s.h.m.get id) (hl : ∀ t L, J.l t = some L → s'.K.get t = s.K.get t) : HR J s' w :=
  { gdom := fun id L hL => Nat.lt_of_lt_of_le (h.gdom id L hL) hn
    gblk := h.gblk
    gcon := fun id L b hL hm => h.gcon id L b hL (by rw [← hg id L hL]; exact hm)
    ginj := fun id id' L L' b b' h1 h2 h3 h4 => h.ginj id id' L L' b b' h1 h2 (by rw [← hg id L h1]; exact h3) (by rw [← hg id' L' h2]; exact h4)
    ldom := fun t L hL => Nat.lt_of_lt_of_le (h.ldom t L hL) hk
    lcon := fun t L hL => let ⟨cs, e, h1, h2⟩ := h.lcon t L hL; ⟨cs, e, h1, fun cells hc => h2 cells (by rw [← hl t L hL]; exact hc)⟩
    linj := h.linj
    sep := h.sep }
theorem aQ.swap {J0 J : dm} {s0 s s' : St} {w0 w : World} (h : aQ J0 s0 w0 J s w) (hn : s.h.next ≤ s'.h.next) (hk : s.kn ≤ s'.kn) (hg : ∀ id L, J.g id = some L → s'.h.m.get id = s.h.m.get id) (hl : ∀ t L, J.l t = some L → s'.K.get t = s.K.get t) (hlow : s'.h.low ≤ s.h.low) : aQ J0 s0 w0 J s' w :=
  { hr := h.hr.swap hn hk hg hl, mono := h.mono, next := Nat.le_trans h.next hn, low := Nat.le_trans hlow h.low, size := h.size, os := h.os, tape := h.tape, output := h.output
    fresh := fun id L h1 h2 => (h.fresh id L h1 h2).imp (fun q => q) (fun ⟨a, b, c, d, e⟩ => ⟨a, b, c, d, Nat.le_trans hlow e⟩)
    lfresh := h.lfresh, frame := fun b hb hg hll => h.frame b hb (fun id L h1 h2 => Nat.lt_of_lt_of_le (hg id L h1 h2) hlow) hll }
theorem EX{op:Op}{loc:Bool}{id tag:Nat}{s:St}{l:Bool}{b:Nat}(h:dx op loc id tag s=.block l b):∃x a,x∈op.operands.toList/\(bq s x=some (.pointer (some a))\/∃n c,bq s x=some (.slice (some a) n c)/\a.spot=none)/\a.spot.isSome=l/\a.block=b:=by
 unfold dx at h;cases hp:bB op with
 |true=>rw[hp]at h;simp at h
 |false=>
  rw[hp]at h;simp only[cond_false]at h;split at h
  ·cases loc<;>simp at h
  ·cases loc<;>simp at h
  ·cases h
  ·cases h
  ·rename_i t x
   split at h
   ·rename_i a ha
    simp only[FP.block.injEq]at h;exact⟨x,a,by simp[Op.operands],.inl ha,h.1,h.2⟩
   ·cases h
  ·rename_i t x y
   split at h
   ·rename_i a ha
    simp only[FP.block.injEq]at h;exact⟨x,a,by simp[Op.operands],.inl ha,h.1,h.2⟩
   ·cases h
  ·rename_i src dst x
   split at h
   ·rename_i a n c ha
    cases hsp:a.spot with
    |some y=>simp[hsp]at h
    |none=>
     simp only[hsp,Option.isNone_none,cond_true,FP.block.injEq]at h;exact⟨x,a,by simp[Op.operands],.inr ⟨n,c,ha,hsp⟩,by rw[hsp];exact h.1,h.2⟩
   ·cases h
  ·cases h
  ·cases h
theorem Cl{op:Op}{loc:Bool}{id tag:Nat}{s:St}(h:zf op loc=true):dx op loc id tag s=.new false id:=by
 unfold zf at h;split at h
 ·cases loc<;>simp at h;rfl
 ·cases loc<;>simp at h;rfl
 ·rfl
 ·rfl
 ·cases h
theorem CE{op:Op}{loc:Bool}{id tag:Nat}{s:St}(h:Al op loc=true):dx op loc id tag s=.new true tag:=by
 unfold Al at h;split at h
 ·subst h;rfl
 ·subst h;rfl
 ·cases h
theorem JA{op:Op}{loc:Bool}{id tag:Nat}{s:St}{l:Bool}{b:Nat}(h:dx op loc id tag s=.new l b):b=bif l then tag else id:=by
 unfold dx at h;cases hp:bB op with
 |true=>rw[hp]at h;simp at h
 |false=>
  rw[hp]at h;simp only[cond_false]at h;split at h
  ·cases loc<;>simp at h<;>obtain⟨rfl,rfl⟩:=h<;>rfl
  ·cases loc<;>simp at h<;>obtain⟨rfl,rfl⟩:=h<;>rfl
  ·simp at h;obtain⟨rfl,rfl⟩:=h;rfl
  ·simp at h;obtain⟨rfl,rfl⟩:=h;rfl
  ·split at h<;>cases h
  ·split at h<;>cases h
  ·exfalso
   split at h
   ·simp only[Bool.cond_eq_ite]at h
    split at h<;>cases h
   ·cases h
  ·cases h
  ·cases h
theorem Cz{ops:Array Oper}{x y:Oper}{d:Tmp}(hx:x.dst=some d)(hy:d∈y.looksAt ops\/y.dst=some d):me ops x y=true:=by
 unfold me;rw[hx];simp only[Bool.or_eq_true];left;rcases hy with h|h
 ·left;simpa using h
 ·right;simp[h]
theorem Ja{ops:Array Oper}{x y:Oper}{d:Tmp}(hy:y.dst=some d)(hx:d∈x.looksAt ops\/x.dst=some d):me ops x y=true:=by
 rcases hx with h|h
 ·unfold me
  rw[hy];simp only[Bool.or_eq_true];right;simpa using h
 ·exact Cz h (.inr hy)
theorem dj(l:Bool)(b:Nat):same l l b b=true:=by cases l<;>simp[same,Nat.beq_refl]
theorem cE{lim:Nat}{x y:FP}{wx wy:Bool}(hx:x.large=true)(hy:y≠.none):bN lim x wx y wy=true:=by
 cases x<;>cases y<;>first|rfl|(exact absurd rfl hy)|(cases hx)
theorem iO{lim b:Nat}{y:FP}{wx wy:Bool}(hy:y.large=true)(h:wx=true\/(wy=true/\y.hits b=true)\/lim<=b):bN lim (.block false b) wx y wy=true:=by
 cases y with
 |all=>
  rcases h with h|h|h
  ·simp[bN,h]
  ·simp[bN,h.1]
  ·simp only[bN,Bool.not_false,Bool.true_and];rw[bT h];simp
 |app c=>
  rcases h with h|⟨h1,h2⟩|h
  ·simp[bN,h]
  ·have e2:Nat.beq b c=true:=h2
   simp[bN,h1,e2]
  ·simp only[bN,Bool.not_false,Bool.true_and];rw[bT h];simp
 |none=>cases hy
 |block _ _=>cases hy
 |new _ _=>cases hy
theorem vY{lim b:Nat}{l:Bool}{y:FP}{wx wy:Bool}(hy:y.large=true)(h:wy=true/\y.hits b=true):bN lim (.new l b) wx y wy=true:=by
 cases y with
 |all=>simp[bN,h.1]
 |app c=>
  have e2:Nat.beq b c=true:=h.2;simp[bN,h.1,e2]
 |none=>cases hy
 |block _ _=>cases hy
 |new _ _=>cases hy
section
variable{P:Program}{H:bg}{call:bS}{f:FuncId}{nt:Nat}{ops:Array Oper}{base kbase:Nat}{l:List Nat}{S:Nat->St}{V:Nat->Value}{X:Nat->FP}{W:Nat->Bool}
structure Up(ops:Array Oper)(base:Nat)(l:List Nat)(X:Nat->FP)(W:Nat->Bool)(E:Nat->Prop)(i p:Nat)(o:Oper):Prop where
 hi:l[i]?=some p
 ho:ops[p]?=some o
 hp:¬E p
 lt:i<ops.size
 side:∀(j q:Nat) (o':Oper),l[j]?=some q->ops[q]?=some o'->(j<i->me ops o' o=true\/bN (base+ops.size) (X j) (W j) (X i) (W i)=true)->(i<j->me ops o o'=true\/bN (base+ops.size) (X i) (W i) (X j) (W j)=true)->(E q↔j<i)
 ne:∀(j q:Nat),l[j]?=some q->j≠i->q≠p
variable(T:Tr P H call f nt ops base kbase l S V X W)
include T
theorem Tr.up{E:Nat->Prop}{i p:Nat}{o:Oper}(hi:l[i]?=some p)(ho:ops[p]?=some o)(hp:¬E p)(hE:ui ops E)(hE':ui ops (fun q=>E q\/q=p)):Up ops base l X W E i p o where
 hi:=hi
 ho:=ho
 hp:=hp
 lt:=by rw[<-T.len];exact(List.getElem?_eq_some_iff.1 hi).1
 ne:=fun j q hj hne=>by
  rcases Nat.lt_or_gt_of_ne hne with h|h
  ·exact T.dist j i q p h hj hi
  ·exact fun e=>T.dist i j p q h hi hj e.symm
 side:=fun j q o' hj ho' h1 h2=>by
  rcases Nat.lt_trichotomy j i with h|h|h
  ·have hpr:=T.conf j i q p o' o h hj hi ho' ho (h1 h)
   have:=oR hE' hpr (.inr rfl);rcases this with q1|q1
   ·exact⟨fun _=>h,fun _=>q1⟩
   ·exact absurd q1 (T.dist j i q p h hj hi)
  ·subst h
   rw[hi]at hj;obtain rfl:=Option.some.inj hj;exact⟨fun q=>absurd q hp,fun q=>absurd q (Nat.lt_irrefl _)⟩
  ·have hpr:=T.conf i j p q o o' h hi hj ho ho' (h2 h)
   exact⟨fun q1=>absurd (oR hE hpr q1) hp,fun q1=>by omega⟩
theorem Tr.op{j q:Nat}(hj:l[j]?=some q):∃o',ops[q]?=some o'/\j<ops.size:=by
 obtain⟨o',h,_⟩:=T.step j q hj;exact⟨o',h,by rw[<-T.len];exact(List.getElem?_eq_some_iff.1 hj).1⟩
theorem Tr.newAt{j q:Nat}{lc:Bool}{b:Nat}(hj:l[j]?=some q)(h:X j=.new lc b):b=bif lc then kbase+j else base+j:=by
 obtain⟨o',_,hs⟩:=T.step j q hj;rcases hs with ⟨_,s1,_,_,hx,_⟩|⟨_,_,_,hx,_⟩
 ·rw[hx]at h;exact JA h
 ·rw[hx]at h;cases h
variable{E:Nat->Prop}{i p:Nat}{o:Oper}(U:Up ops base l X W E i p o)
include U
theorem Up.sideC{j q:Nat}(hj:l[j]?=some q)(h1:j<i->bN (base+ops.size) (X j) (W j) (X i) (W i)=true)(h2:i<j->bN (base+ops.size) (X i) (W i) (X j) (W j)=true):E q↔j<i:=by
 obtain⟨o',ho',_⟩:=T.op hj;exact U.side j q o' hj ho' (fun h=>.inr (h1 h)) (fun h=>.inr (h2 h))
theorem Up.sideG{id:Nat}(hM:uu S X W i id){j q:Nat}(hj:l[j]?=some q)(hM':uu S X W j id):E q↔j<i:=by
 obtain⟨o',_,hjl⟩:=T.op hj;have l1:=T.limAt i (Nat.le_of_lt U.lt);have l2:=T.limAt j (Nat.le_of_lt hjl);refine U.sideC T hj (fun hlt=>?_) (fun hlt=>?_)
 ·rcases hM with ⟨a1,a2⟩|a1|⟨a1,a2⟩<;>rcases hM' with ⟨b1,b2⟩|b1|⟨b1,b2⟩
  ·rw[a1,b1];simp[bN,a2,b2,dj]
  ·rw[a1,b1];simp[bN,dj]
  ·exact cE b1 (by rw[a1];simp)
  ·rw[a1,b1];simp[bN,dj]
  ·rw[a1,b1];simp[bN,dj]
  ·exact cE b1 (by rw[a1];simp)
  ·rw[b1];exact iO a1 (.inl b2)
  ·rw[b1]
   rcases a2 with a2|a2
   ·exact vY a1 a2
   ·have:=T.newAt hj b1;simp only[cond_false]at this;omega
  ·exact cE b1 (by intro e;rw[e]at a1;cases a1)
 ·rcases hM with ⟨a1,a2⟩|a1|⟨a1,a2⟩<;>rcases hM' with ⟨b1,b2⟩|b1|⟨b1,b2⟩
  ·rw[a1,b1];simp[bN,a2,b2,dj]
  ·rw[a1,b1];simp[bN,dj]
  ·rw[a1];exact iO b1 (.inl a2)
  ·rw[a1,b1];simp[bN,dj]
  ·rw[a1,b1];simp[bN,dj]
  ·rw[a1]
   rcases b2 with b2|b2
   ·exact vY b1 b2
   ·have:=T.newAt U.hi a1;simp only[cond_false]at this;have:=U.lt;omega
  ·exact cE a1 (by rw[b1];simp)
  ·exact cE a1 (by rw[b1];simp)
  ·exact cE a1 (by intro e;rw[e]at b1;cases b1)
theorem Up.sideR{id:Nat}(hX:X i=.block false id){j q:Nat}(hj:l[j]?=some q)(hM':uu S X W j id):E q↔j<i:=by
 obtain⟨o',_,hjl⟩:=T.op hj;have l2:=T.limAt j (Nat.le_of_lt hjl);refine U.sideC T hj (fun hlt=>?_) (fun hlt=>?_)
 ·rcases hM' with ⟨b1,b2⟩|b1|⟨b1,b2⟩
  ·rw[hX,b1];simp[bN,b2,dj]
  ·rw[hX,b1];simp[bN,dj]
  ·exact cE b1 (by rw[hX];simp)
 ·rcases hM' with ⟨b1,b2⟩|b1|⟨b1,b2⟩
  ·rw[hX,b1];simp[bN,b2,dj]
  ·rw[hX,b1];simp[bN,dj]
  ·rw[hX]
   rcases b2 with b2|b2
   ·exact iO b1 (.inr (.inl b2))
   ·exact iO b1 (.inr (.inr (by omega)))
theorem Up.sideL{t:Nat}(hM:yq X W i t){j q:Nat}(hj:l[j]?=some q)(hM':yq X W j t):E q↔j<i:=by
 refine U.sideC T hj (fun hlt=>?_) (fun hlt=>?_);all_goals rcases hM with ⟨a1,a2⟩|a1<;>rcases hM' with ⟨b1,b2⟩|b1<;>rw[a1,b1]
 all_goals simp[bN,dj, *]
theorem Up.sideRL{t:Nat}(hX:X i=.block true t){j q:Nat}(hj:l[j]?=some q)(hM':yq X W j t):E q↔j<i:=by
 refine U.sideC T hj (fun hlt=>?_) (fun hlt=>?_);all_goals rcases hM' with ⟨b1,b2⟩|b1<;>rw[hX,b1]
 all_goals simp[bN,dj, *]
theorem Up.sideN(hX:(X i).large=true){j q:Nat}(hj:l[j]?=some q)(hX':(X j).large=true):E q↔j<i:=by
 refine U.sideC T hj (fun hlt=>?_) (fun hlt=>?_)
 ·exact cE hX' (by intro e;rw[e]at hX;cases hX)
 ·exact cE hX (by intro e;rw[e]at hX';cases hX')
theorem Up.sideA(hX:(X i).large=true){id:Nat}(hd:∀j q:Nat,l[j]?=some q->id=base+j->E q){j q:Nat}(hj:l[j]?=some q)(hM':uu S X W j id):E q↔j<i:=by
 by_cases hn:X j=.new false id
 ·have he:E q:=hd j q hj (by have:=T.newAt hj hn;simpa using this)
  refine⟨fun _=>?_,fun _=>he⟩;rcases Nat.lt_trichotomy j i with h|h|h
  ·exact h
  ·subst h;rw[U.hi]at hj;obtain rfl:=Option.some.inj hj;exact absurd he U.hp
  ·obtain⟨o',ho',_⟩:=T.op hj
   have:=U.side j q o' hj ho' (fun q=>by omega) (fun _=>.inr (cE hX (by rw[hn];simp)));exact this.1 he
 ·refine U.sideC T hj (fun hlt=>?_) (fun hlt=>?_)
  ·rcases hM' with ⟨b1,b2⟩|b1|⟨b1,b2⟩
   ·rw[b1];exact iO hX (.inl b2)
   ·exact absurd b1 hn
   ·exact cE b1 (by intro e;rw[e]at hX;cases hX)
  ·rcases hM' with ⟨b1,b2⟩|b1|⟨b1,b2⟩
   ·exact cE hX (by rw[b1];simp)
   ·exact absurd b1 hn
   ·exact cE hX (by intro e;rw[e]at b1;cases b1)
end
section
variable{ops:Array Oper}{base:Nat}{l:List Nat}{X:Nat->FP}{W:Nat->Bool}{E:Nat->Prop}{i p:Nat}{o:Oper}(U:Up ops base l X W E i p o)
include U
theorem Up.sideE{t:Tmp}(ht:t∈o.looksAt ops\/o.dst=some t){j q:Nat}{o':Oper}(hj:l[j]?=some q)(ho':ops[q]?=some o')(hd:o'.dst=some t):E q↔j<i:=
 U.side j q o' hj ho' (fun _=>.inl (Cz hd ht)) (fun _=>.inl (Ja hd ht))
theorem Up.next{j q k:Nat}(hj:l[j]?=some q)(hne:j≠i)(h:(E q\/q=p)↔j<k):E q↔j<k:=
 ⟨fun e=>h.1 (.inl e),fun e=>(h.2 e).resolve_right (U.ne j q hj hne)⟩
end
end Go.Sim
namespace Go.Sim
theorem Jb{J:dm}{s:St}{a:Act}{l:List Operand}(h:∀t v,Operand.tmp t∈l->s.env.get t=some v->VR J v (a.tmps.getD t undef)):mF J s a l:=by
 intro x v hx he;have hE:ER J (fV s.h) a:=fun t v h=>by simp[fV,cg.get]at h
 cases x with
 |tmp t=>exact h t v hx he
 |const c=>exact hE.eval (x:=.const c) he
 |global g=>exact hE.eval (x:=.global g) he
 |func g=>exact hE.eval (x:=.func g) he
theorem E8{ops:Array Oper}{o:Oper}{t:Tmp}(h:Operand.tmp t∈o.op.operands.toList):t∈o.looksAt ops:=by
 unfold Oper.looksAt;rw[List.mem_append];left;rw[List.mem_filterMap];exact⟨.tmp t,h,rfl⟩
theorem zk{ops:Array Oper}{o:Oper}{j:Nat}{want:Bool}{d:Tmp}(hg:o.guard=some (j,want))(hd:(ops[j]?).bind (·.dst)=some d):d∈o.looksAt ops:=by
 unfold Oper.looksAt;rw[List.mem_append];right;rw[hg];simp only[hd];simp
section
variable{P:Program}{H:bg}{call:bS}{f:FuncId}{nt:Nat}{ops:Array Oper}{base kbase:Nat}{l:List Nat}{S:Nat->St}{V:Nat->Value}{X:Nat->FP}{W:Nat->Bool}
variable{J0:dm}{s0:St}{w0:World}{a0:Act}{E:Nat->Prop}{i p:Nat}{o:Oper}{a:Act}{w:World}{J:dm}{s2:St}
theorem Hv.envStep(T:Tr P H call f nt ops base kbase l S V X W)(U:Up ops base l X W E i p o)(I:Hv ops base kbase l S X W J0 s0 w0 a0 E a w J s2)
  (hs:j9 P H call f nt ops base kbase i o (S i) (V i) (X i) (W i) (S (i+1))) (hn:nt<=a.tmps.size) {J':dm} {c:Value} (hg:∀id L,J.g id=some L->J'.g id=some L) (hl:∀t L,J.l t=some L->J'.l t=some L) (hc:VR J' (V i) c)
  (hdn:∀d,o.dst=some d->d<nt) :
  ∀t v k,k<=ops.size->(∀(j q:Nat) (o':Oper),l[j]?=some q->ops[q]?=some o'->o'.dst=some t->((E q\/q=p)↔j<k))->(S k).env.get t=some v->t<(a.put o.dst c).tmps.size/\VR J' v ((a.put o.dst c).tmps.getD t undef):=by
 intro t v k hk h hv;by_cases hd:o.dst=some t
 ·have hik:i<k:=(h i p o U.hi U.ho hd).1 (.inr rfl)
  have hst:=T.stableE (t:=t) (k-(i+1)) (i+1) (by omega) (fun j q o' h1 h2 hj ho' hd'=>by
   have e1:=U.next hj (by omega) (h j q o' hj ho' hd');have e2:=U.sideE (.inr hd) hj ho' hd';have:=e2.1 (e1.2 (by omega));omega)
  rw[show i+1+(k-(i+1))=k by omega]at hst;have e:=(hs.sum T.keep).env t;rw[if_pos hd]at e;rw[hst,e]at hv;obtain rfl:=Option.some.inj hv;have hlt:t<a.tmps.size:=Nat.lt_of_lt_of_le (hdn t hd) hn;rw[dA];refine⟨hlt,?_⟩;rw[hd];have:(a.put (some t) c).tmps.getD t undef=c:=by simp[Act.put,hlt]
  rw[this];exact hc
 ·obtain⟨h1,h2⟩:=I.env t v k hk (fun j q o' hj ho' hd'=>U.next hj (by rintro rfl;rw[U.hi]at hj;obtain rfl:=Option.some.inj hj;rw[U.ho]at ho';obtain rfl:=Option.some.inj ho';exact hd hd') (h j q o' hj ho' hd')) hv
  rw[dA];refine⟨h1,?_⟩;have:(a.put o.dst c).tmps.getD t undef=a.tmps.getD t undef:=by
   cases hdd:o.dst with
   |none=>rfl
   |some d=>simp[Act.put,Array.getElem?_setIfInBounds_ne (show d≠t from fun e=>hd (by rw[hdd,e]))]
  rw[this];exact h2.mono hg hl
theorem j9.dstLt{i:Nat}{o:Oper}{s s':St}{v:Value}{x:FP}{wr:Bool}(h:j9 P H call f nt ops base kbase i o s v x wr s'):∀d,o.dst=some d->d<nt:=by
 intro d hd;rcases h with ⟨_,s1,_,h2,_,_⟩|⟨_,h2,_,_,_⟩
 ·rcases kP h2 with ⟨q,_⟩|⟨d',q,r,_⟩
  ·rw[q]at hd;cases hd
  ·rw[q]at hd;obtain rfl:=Option.some.inj hd;exact r
 ·rcases kP h2 with ⟨q,_⟩|⟨d',q,r,_⟩
  ·rw[q]at hd;cases hd
  ·rw[q]at hd;obtain rfl:=Option.some.inj hd;exact r
theorem Hv.step {ro : Option Nat} (hcall : fz P call) (T : Tr P H call f nt ops base kbase l S V X W) (U : Up ops base l X W E i p o) (I : Hv ops base kbase l S X W J0 s0 w0 a0 E a w J s2) (hn0 : nt ≤ a0.tmps.size) {Q : Exit → Act → World → Prop} {K : Act → World → Prop}
    (hK : ∀ a' w' J' s2', Hv ops base kbase l S X W J0 s0 w0 a0 (fun q => E q ∨ q = p) a' w' J' s2' → K a' w') : wpOpIn (Wd ro) 0 P ops Q p K a w := by
  obtain ⟨o', ho', hs⟩ := T.step i p U.hi
  rw [U.ho] at ho'
  obtain rfl := Option.some.inj ho'
  have hn : nt ≤ a.tmps.size := by rw [I.size]; exact hn0
  have hile : i ≤ ops.size := Nat.le_of_lt U.lt
  have hev : ∀ t v, t ∈ o.looksAt ops → (S i).env.get t = some v → t < a.tmps.size ∧ VR J v (a.tmps.getD t undef) :=
    fun t v ht hv => I.env t v i hile (fun j q o' hj ho' hd => U.sideE (.inl ht) hj ho' hd) hv
  have hEv : ∀ s3 : St, s3.env = (S i).env → mF J s3 a o.op.operands.toList := fun s3 he => Jb (fun t v ht hv => (hev t v (E8 ht) (by rw [← he]; exact hv)).2)
  have hGu : Kf J (S i) a ops o := fun j want d v hg hd hv => hev d v (zk hg hd) hv
  have hJg : J.g (base + i) = none := by
    cases hx : J.g (base + i) with
    | none => rfl
    | some L => exact absurd (I.domg i p U.hi (by rw [hx]; rfl)) U.hp
  have hJl : J.l (kbase + i) = none := by
    cases hx : J.l (kbase + i) with
    | none => rfl
    | some L => exact absurd (I.doml i p U.hi (by rw [hx]; rfl)) U.hp
  have hlim := I.lim
  have hilt := U.lt
  have envStep := fun (J' : dm) (c : Value) hg hl hc => I.envStep T U hs hn (J' := J') (c := c) hg hl hc hs.dstLt
  have hsum := hs.sum T.keep
  have hgetG := fun id => hs.getG T.keep (id := id)
  unfold wpOpIn
  rw [U.ho]
  simp only []
  rcases hs with ⟨hw, s1, h1, h2, hx, hwr⟩ | ⟨hw, h2, hv, hx, hwr⟩
  · rw [gJ hw hGu, if_pos rfl]
    by_cases hA : (X i).large = true
    · 
      obtain ⟨e1, e2, e3⟩ := pN (by rw [fj, ← hx]; exact hA) h1
      have hnext : s2.h.next = (S i).h.next := I.next i hile (fun j q hj hq => U.sideN T hA hj hq)
      have hget : ∀ id L, J.g id = some L → s2.h.m.get id = (S i).h.m.get id := fun id L hL => I.g id L i hile hL (fun j q hj hm => U.sideA T hA (fun j q hj hid => I.domg j q hj (by rw [← hid, hL]; rfl)) hj hm)
      let s3 : St := { s2 with env := (S i).env, h := (S i).fresh.h }
      have h3 := e2 s3 rfl rfl
      have hR3 : HR J s3 w := I.good.hr.swap (s' := s3) (by show s2.h.next ≤ (S i).h.next; omega) (Nat.le_refl _) (fun id L hL => (hget id L hL).symm) (fun _ _ _ => rfl)
      have hS1 : (S (i + 1)).h.m = s1.h.m ∧ (S (i + 1)).h.next = s1.h.next ∧ (S (i + 1)).h.low = Nat.min (S i).h.low s1.h.low := by
        rw [bX h2]; exact ⟨rfl, rfl, rfl⟩
      refine wt hcall hR3 (hR3.newAtOK (by show base + i < (S i).h.next; omega) hJg (by show kbase + i < s2.kn; rw [I.kn]; omega) hJl) (hEv s3 rfl) h3 K Q ?_ ro
      intro c w' J' hG hlm hv henv hAd hAl
      have hnewG : zf o.op (dC H f o) = false := by
        cases hq : zf o.op (dC H f o) with
        | false => rfl
        | true => rw [hx, Cl hq] at hA; cases hA
      have hnewL : Al o.op (dC H f o) = false := by
        cases hq : Al o.op (dC H f o) with
        | false => rfl
        | true => rw [hx, CE hq] at hA; cases hA
      have hAd' : ∀ id L, J'.g id = some L → J.g id = some L ∨ (S i).h.next ≤ id := fun id L hL => (hAd id L hL).imp (fun q => q) (fun q => q.elim (fun q => by rw [hnewG] at q; cases q.1) (fun q => q))
      have hAl' : ∀ t L, J'.l t = some L → J.l t = some L := fun t L hL => (hAl t L hL).elim (fun q => q) (fun q => by rw [hnewL] at q; cases q.1)
      let s2' : St := { s2 with h := { s1.h with low := Nat.min s2.h.low s1.h.low } }
      have hG2 : aQ J s2 w J' s2' w' := by
        have g1 := hG.lower (lo := Nat.min s2.h.low s1.h.low) (Nat.min_le_right _ _)
        have g2 := g1.leftLow (t := s2) (by rw [hnext]; rfl) (Nat.min_le_left _ _)
        exact g2.env s2.env
      refine hK (a.put o.dst c) w' J' s2' ?_
      refine { kn := I.kn, next := ?_, lim := ?_, g := ?_, lk := ?_, low := ?_, good := I.good.trans hG2, adds := ?_, domg := ?_, doml := ?_, env := envStep J' c hG.mono hlm hv, size := by rw [dA]; exact I.size, defers := by rw [fH]; exact I.defers }
      · intro k hk h
        have hik : i < k := (h i p U.hi hA).1 (.inr rfl)
        have := T.stableN (k - (i + 1)) (i + 1) (by omega) (fun j q1 q2 => by
          cases hq : (X j).large with
          | false => rfl
          | true =>
            exfalso
            obtain ⟨pj, oj, hj, _, _⟩ := T.at (i := j) (by omega)
            have := (U.sideN T hA hj hq).1 ((U.next hj (by omega) (h j pj hj hq)).2 (by omega))
            omega)
        rw [show i + 1 + (k - (i + 1)) = k by omega] at this
        rw [this]; exact hS1.2.1.symm
      · show base + ops.size ≤ s1.h.next
        rw [← hS1.2.1]; exact T.limAt (i + 1) (by omega)
      · intro id L k hk hL h
        show s1.h.m.get id = _
        by_cases hM : uu S X W i id
        · have hik : i < k := (h i p U.hi hM).1 (.inr rfl)
          have := T.stableG (id := id) (k - (i + 1)) (i + 1) (by omega) (fun j q1 q2 hq => by
            obtain ⟨pj, oj, hj, _, _⟩ := T.at (i := j) (by omega)
            have := (U.sideG T hM hj hq).1 ((U.next hj (by omega) (h j pj hj hq)).2 (by omega))
            omega)
          rw [show i + 1 + (k - (i + 1)) = k by omega] at this
          rw [this, hS1.1]
        · have hlt : id < (S i).h.next := by
            rcases Nat.lt_or_ge id (S i).h.next with q | q
            · exact q
            · exact absurd (.inr (.inr ⟨hA, .inr q⟩)) hM
          have hL0 : J.g id = some L := (hAd' id L hL).resolve_right (by omega)
          rw [← hS1.1, hgetG id hM, ← hget id L hL0]
          exact I.g id L k hk hL0 (fun j q hj hq => U.next hj (by rintro rfl; exact hM hq) (h j q hj hq))
      · intro t L k hk hL h
        exact I.lk t L k hk (hAl' t L hL) (fun j q hj hq => U.next hj (by rintro rfl; rcases hq with ⟨q, _⟩ | q <;> rw [q] at hA <;> cases hA) (h j q hj hq))
      · show _ ≤ Nat.min s2.h.low s1.h.low
        have q1 := T.lowAt (ops.size - (i + 1)) (i + 1) (by omega)
        rw [show i + 1 + (ops.size - (i + 1)) = ops.size by omega, hS1.2.2] at q1
        exact Nat.le_min.2 ⟨I.low, Nat.le_trans q1 (Nat.min_le_right _ _)⟩
      · intro id L hL
        rcases hAd' id L hL with q | q
        · exact I.adds id L q
        · right; show base ≤ id; have := T.limAt i hile; omega
      · intro j q hj hsome
        cases hq : J'.g (base + j) with
        | none => rw [hq] at hsome; cases hsome
        | some L =>
          obtain ⟨_, _, hjl⟩ := T.op hj
          rcases hAd' _ L hq with r | r
          · exact .inl (I.domg j q hj (by rw [r]; rfl))
          · have := T.limAt i hile; omega
      · intro j q hj hsome
        cases hq : J'.l (kbase + j) with
        | none => rw [hq] at hsome; cases hsome
        | some L => exact .inl (I.doml j q hj (by rw [hAl' _ L hq]; rfl))
    · 
      have hc : dr o.op = none := by
        cases hc : dr o.op with
        | none => rfl
        | some c => exact absurd (by rw [hx, mf hc]; rfl) hA
      have h1' := h1
      unfold iv at h1'
      rw [hc] at h1'
      obtain ⟨F, e1, e2, e3⟩ := sR (by rw [fj, ← hx]; simpa using hA) h1'
      rw [fj, ← hx] at e2 e3
      let s3 : St := { s2 with env := (S i).env }
      have hR3 : HR J s3 w := I.good.hr.env _
      have hplace : ∀ lc b, X i = .block lc b → ∃ ad : Addr, ad.spot.isSome = lc ∧ ad.block = b ∧ ∃ L, J.at ad = some L := by
        intro lc b hb
        rw [hx] at hb
        obtain ⟨x, ad, hxm, hxe, q1, q2⟩ := EX hb
        rcases hxe with hxe | ⟨n9, c9, hxe, hsp9⟩
        · have := hEv (S i) rfl x _ hxm hxe
          obtain ⟨L, hL, _⟩ := this.ptrL
          exact ⟨ad, q1, q2, L, hL⟩
        · have := hEv (S i) rfl x _ hxm hxe
          obtain ⟨_, L, _, hL, _⟩ := (this.of_ne (fun a => by simp)).sliceG hsp9
          exact ⟨ad, q1, q2, L, by simp [dm.at, hsp9, hL]⟩
      have h3 : iv P H call f (base + i) (kbase + i) o s3 = some (V i, F.apply s3) := by
        unfold iv
        rw [hc]
        refine e3 s3 rfl ?_ ?_ ?_
        · show s2.kn = (S i).kn
          rw [I.kn, T.knAt i hile]
        · intro b hb
          obtain ⟨ad, q1, q2, L, hL⟩ := hplace false b hb
          have hsp : ad.spot = none := by cases hq : ad.spot with | none => rfl | some y => rw [hq] at q1; cases q1
          simp only [dm.at, hsp, q2] at hL
          exact I.g b L i hile hL (fun j q hj hm => U.sideR T hb hj hm)
        · intro t hb
          obtain ⟨ad, q1, q2, L, hL⟩ := hplace true t hb
          obtain ⟨y, hsp⟩ : ∃ y, ad.spot = some y := by cases hq : ad.spot with | none => rw [hq] at q1; cases q1 | some y => exact ⟨y, rfl⟩
          simp only [dm.at, hsp, q2] at hL
          exact I.lk t L i hile hL (fun j q hj hm => U.sideRL T hb hj hm)
      have hFn : (F.apply s3).h.next = s2.h.next ∧ (F.apply s3).kn = s2.kn := by cases F <;> exact ⟨rfl, rfl⟩
      have hS1 : (S (i + 1)).h.m = s1.h.m ∧ (S (i + 1)).K = s1.K ∧ (S (i + 1)).h.low = Nat.min (S i).h.low s1.h.low := by
        rw [bX h2]; exact ⟨rfl, rfl, rfl⟩
      have hnoW : (∀ b blk lw, F ≠ .setG b blk lw) → (∀ t cs, F ≠ .setL t cs) → W i = false := by
        intro q1 q2
        cases F with
        | idle =>
          rw [hwr, e2.2, e1]
          show Nat.blt (S i).h.next (S i).h.next = false
          exact bT (Nat.le_refl _)
        | setG b blk lw => exact absurd rfl (q1 b blk lw)
        | setL t cs => exact absurd rfl (q2 t cs)
      have touchG : ∀ id, uu S X W i id → ∃ blk lw, F = .setG id blk lw := by
        intro id hM
        rcases hM with ⟨q1, q2⟩ | q1 | ⟨q1, _⟩
        · cases F with
          | idle => rw [hnoW (fun _ _ _ h => by cases h) (fun _ _ h => by cases h)] at q2; cases q2
          | setG b blk lw =>
            rcases e2 with ⟨r, _⟩ | ⟨r, _⟩
            · rw [q1] at r; simp only [FP.block.injEq, true_and] at r; subst r; exact ⟨_, _, rfl⟩
            · rw [q1] at r; cases r
          | setL t cs =>
            rcases e2 with ⟨r, _⟩ | ⟨r, _⟩
            · rw [q1] at r; simp at r
            · rw [q1] at r; cases r
        · cases F with
          | idle => exact absurd q1 (e2.1 _ _)
          | setG b blk lw =>
            rcases e2 with ⟨r, _⟩ | ⟨r, _⟩
            · rw [q1] at r; cases r
            · rw [q1] at r; simp only [FP.new.injEq, true_and] at r; subst r; exact ⟨_, _, rfl⟩
          | setL t cs =>
            rcases e2 with ⟨r, _⟩ | ⟨r, _⟩
            · rw [q1] at r; cases r
            · rw [q1] at r; simp at r
        · exact absurd q1 hA
      have touchL : ∀ t, yq X W i t → ∃ cs, F = .setL t cs := by
        intro t hM
        rcases hM with ⟨q1, q2⟩ | q1
        · cases F with
          | idle => rw [hnoW (fun _ _ _ h => by cases h) (fun _ _ h => by cases h)] at q2; cases q2
          | setG b blk lw =>
            rcases e2 with ⟨r, _⟩ | ⟨r, _⟩
            · rw [q1] at r; simp at r
            · rw [q1] at r; cases r
          | setL b cs =>
            rcases e2 with ⟨r, _⟩ | ⟨r, _⟩
            · rw [q1] at r; simp only [FP.block.injEq, true_and] at r; subst r; exact ⟨_, rfl⟩
            · rw [q1] at r; cases r
        · cases F with
          | idle => exact absurd q1 (e2.1 _ _)
          | setG b blk lw =>
            rcases e2 with ⟨r, _⟩ | ⟨r, _⟩
            · rw [q1] at r; cases r
            · rw [q1] at r; simp at r
          | setL b cs =>
            rcases e2 with ⟨r, _⟩ | ⟨r, _⟩
            · rw [q1] at r; cases r
            · rw [q1] at r; simp only [FP.new.injEq, true_and] at r; subst r; exact ⟨_, rfl⟩
      have modG : ∀ b blk lw, F = .setG b blk lw → uu S X W i b := by
        intro b blk lw hF; subst hF
        rcases e2 with ⟨r, r2, _⟩ | ⟨r, _⟩
        · exact .inl ⟨r, by rw [hwr, r2]; rfl⟩
        · exact .inr (.inl r)
      have modL : ∀ t cs, F = .setL t cs → yq X W i t := by
        intro t cs hF; subst hF
        rcases e2 with ⟨r, r2⟩ | ⟨r, _⟩
        · exact .inl ⟨r, by rw [hwr, r2]; rfl⟩
        · exact .inr r
      refine wt hcall hR3 (hR3.newAtOK (by show base + i < s2.h.next; omega) hJg (by show kbase + i < s2.kn; rw [I.kn]; omega) hJl) (hEv s3 rfl) h3 K Q ?_ ro
      intro c w' J' hG hlm hv henv hAd hAl
      have hAd' : ∀ id L, J'.g id = some L → J.g id = some L ∨ (X i = .new false id ∧ id = base + i) := fun id L hL => by
        rcases hAd id L hL with q | ⟨q1, q2⟩ | q
        · exact .inl q
        · right; refine ⟨?_, q2⟩; rw [hx, Cl q1, q2]
        · have := hG.hr.gdom id L hL
          rw [hFn.1] at this
          have q' : s2.h.next ≤ id := q
          omega
      have hAl' : ∀ t L, J'.l t = some L → J.l t = some L ∨ (X i = .new true t ∧ t = kbase + i) := fun t L hL => by
        rcases hAl t L hL with q | ⟨q1, q2⟩
        · exact .inl q
        · right; refine ⟨?_, q2⟩; rw [hx, CE q1, q2]
      refine hK (a.put o.dst c) w' J' (F.apply s3) ?_
      refine { kn := by rw [hFn.2]; exact I.kn, next := ?_, lim := by rw [hFn.1]; exact I.lim, g := ?_, lk := ?_, low := ?_, good := (I.good.env _).trans hG, adds := ?_, domg := ?_, doml := ?_, env := envStep J' c hG.mono hlm hv, size := by rw [dA]; exact I.size, defers := by rw [fH]; exact I.defers }
      · intro k hk h
        rw [hFn.1]
        exact I.next k hk (fun j q hj hq => U.next hj (by rintro rfl; exact hA hq) (h j q hj hq))
      · intro id L k hk hL h
        by_cases hM : uu S X W i id
        · obtain ⟨blk, lw, hF⟩ := touchG id hM
          have hik : i < k := (h i p U.hi hM).1 (.inr rfl)
          have := T.stableG (id := id) (k - (i + 1)) (i + 1) (by omega) (fun j q1 q2 hq => by
            obtain ⟨pj, oj, hj, _, _⟩ := T.at (i := j) (by omega)
            have := (U.sideG T hM hj hq).1 ((U.next hj (by omega) (h j pj hj hq)).2 (by omega))
            omega)
          rw [show i + 1 + (k - (i + 1)) = k by omega] at this
          rw [this, hS1.1, e1, hF]
          simp only [wO.apply, cg.get_set_eq]
        · have hL0 : J.g id = some L := (hAd' id L hL).resolve_right (fun q => hM (.inr (.inl q.1)))
          have e : (F.apply s3).h.m.get id = s2.h.m.get id := by
            cases hF : F with
            | idle => rfl
            | setL t cs => rfl
            | setG b blk lw =>
              have hne : b ≠ id := by rintro rfl; exact hM (modG _ _ _ hF)
              simp only [wO.apply]
              exact cg.get_set_ne _ _ hne
          rw [e]
          exact I.g id L k hk hL0 (fun j q hj hq => U.next hj (by rintro rfl; exact hM hq) (h j q hj hq))
      · intro t L k hk hL h
        by_cases hM : yq X W i t
        · obtain ⟨cs, hF⟩ := touchL t hM
          have hik : i < k := (h i p U.hi hM).1 (.inr rfl)
          have := T.stableL (t := t) (k - (i + 1)) (i + 1) (by omega) (fun j q1 q2 hq => by
            obtain ⟨pj, oj, hj, _, _⟩ := T.at (i := j) (by omega)
            have := (U.sideL T hM hj hq).1 ((U.next hj (by omega) (h j pj hj hq)).2 (by omega))
            omega)
          rw [show i + 1 + (k - (i + 1)) = k by omega] at this
          rw [this, hS1.2.1, e1, hF]
          simp only [wO.apply, cg.get_set_eq]
        · have hL0 : J.l t = some L := (hAl' t L hL).resolve_right (fun q => hM (.inr q.1))
          have e : (F.apply s3).K.get t = s2.K.get t := by
            cases hF : F with
            | idle => rfl
            | setG b blk lw => rfl
            | setL b cs =>
              have hne : b ≠ t := by rintro rfl; exact hM (modL _ _ hF)
              simp only [wO.apply]
              exact cg.get_set_ne _ _ hne
          rw [e]
          exact I.lk t L k hk hL0 (fun j q hj hq => U.next hj (by rintro rfl; exact hM hq) (h j q hj hq))
      · have q1 := T.lowAt (ops.size - (i + 1)) (i + 1) (by omega)
        rw [show i + 1 + (ops.size - (i + 1)) = ops.size by omega, hS1.2.2] at q1
        have q2 := Nat.le_trans q1 (Nat.min_le_right _ _)
        rw [e1] at q2
        cases hF : F with
        | idle => exact I.low
        | setL t cs => exact I.low
        | setG b blk lw =>
          rw [hF] at q2
          simp only [wO.apply] at q2 ⊢
          cases lw with
          | false => exact I.low
          | true => exact Nat.le_min.2 ⟨I.low, Nat.le_trans q2 (Nat.min_le_right _ _)⟩
      · intro id L hL
        rcases hAd' id L hL with q | q
        · exact I.adds id L q
        · right; show base ≤ id; omega
      · intro j q hj hsome
        cases hq : J'.g (base + j) with
        | none => rw [hq] at hsome; cases hsome
        | some L =>
          rcases hAd' _ L hq with r | r
          · exact .inl (I.domg j q hj (by rw [r]; rfl))
          · have : j = i := by omega
            subst this
            rw [U.hi] at hj
            exact .inr (Option.some.inj hj).symm
      · intro j q hj hsome
        cases hq : J'.l (kbase + j) with
        | none => rw [hq] at hsome; cases hsome
        | some L =>
          rcases hAl' _ L hq with r | r
          · exact .inl (I.doml j q hj (by rw [r]; rfl))
          · have : j = i := by omega
            subst this
            rw [U.hi] at hj
            exact .inr (Option.some.inj hj).symm
  · rw [gJ hw hGu, if_neg (by simp)]
    refine ⟨fun _ _ => trivial, hK _ _ J s2 ?_⟩
    have hne : ∀ (j : Nat), X j ≠ .none → j ≠ i := fun j h e => h (by rw [e, hx])
    exact { kn := I.kn
            next := fun k hk h => I.next k hk (fun j q hj hq => U.next hj (hne j (by intro e; rw [e] at hq; cases hq)) (h j q hj hq))
            lim := I.lim
            g := fun id L k hk hJ h => I.g id L k hk hJ (fun j q hj hm => U.next hj (hne j (by rcases hm with ⟨r, _⟩ | r | ⟨r, _⟩ <;> intro e <;> rw [e] at r <;> cases r)) (h j q hj hm))
            lk := fun t L k hk hJ h => I.lk t L k hk hJ (fun j q hj hm => U.next hj (hne j (by rcases hm with ⟨r, _⟩ | r <;> rw [r] <;> simp)) (h j q hj hm))
            low := I.low, good := I.good, adds := I.adds
            domg := fun j q hj h => .inl (I.domg j q hj h)
            doml := fun j q hj h => .inl (I.doml j q hj h)
            env := envStep J undef (fun _ _ h => h) (fun _ _ h => h) (by rw [hv]; exact .glob _ _ (VG.of_flat rfl))
            size := by rw [dA]; exact I.size
            defers := by rw [fH]; exact I.defers }
end
end Go.Sim
namespace Go.Sim
theorem ws{α:Type}{p p':α->Bool}(hp:∀x,p' x=true->p x=true):∀(l:List α) (x:α),x∈l->p x=true->p' x=false->(l.filter p').length<(l.filter p).length
 |y :: l,x,hx,h1,h2=>by
  have mono:∀l:List α,(l.filter p').length<=(l.filter p).length:=by
   intro l
   induction l with
   |nil=>simp
   |cons z l ih=>
    simp only[List.filter_cons];by_cases hz:p' z=true
    ·simp[hz,hp z hz,ih]
    ·by_cases hz':p z=true
     ·simp[hz,hz'];omega
     ·simp[hz,hz',ih]
  rcases List.mem_cons.1 hx with rfl|hx'
  ·simp only[List.filter_cons,h1,h2,if_true]
   have:=mono l;simp;omega
  ·have ih:=ws hp l x hx' h1 h2
   simp only[List.filter_cons];by_cases hz:p' y=true
   ·simp[hz,hp y hz,ih]
   ·by_cases hz':p y=true
    ·simp[hz,hz'];omega
    ·simp[hz,hz',ih]
 | [],x,hx,_,_=>by simp at hx
def ss(listed:Array Bool)(q:Nat):Prop:=listed.getD q false=true
theorem ss.set{listed:Array Bool}{p:Nat}(hp:p<listed.size):ss (listed.setIfInBounds p true)=fun q=>ss listed q\/q=p:=by
 funext q
 apply propext;unfold ss;by_cases e:q=p
 ·subst e;simp[Array.getD,hp]
 ·by_cases hq:q<listed.size
  ·simp[Array.getD,hq,e,Array.getElem_setIfInBounds,Ne.symm e]
  ·simp[Array.getD,hq,e]
section
variable{P:Program}{H:bg}{call:bS}{f:FuncId}{nt:Nat}{ops:Array Oper}{base kbase:Nat}{l:List Nat}{S:Nat->St}{V:Nat->Value}{X:Nat->FP}{W:Nat->Bool}
variable{J0:dm}{s0:St}{w0:World}{a0:Act}
theorem Hv.any{ro:Option Nat}(hcall:fz P call)(T:Tr P H call f nt ops base kbase l S V X W)(hn0:nt<=a0.tmps.size)(hall:∀q,q<ops.size->q∈l)
  (hback:∀(q:Nat) (o:Oper),ops[q]?=some o->∀e∈o.after.toList,Region.binds .any e=true->e.on<q) {Q:Exit->Act->World->Prop}
  (hQ:∀a w J s2,Hv ops base kbase l S X W J0 s0 w0 a0 (fun q=>q<ops.size) a w J s2->Q .normal a w) :
  ∀(fuel:Nat) (listed:Array Bool) (a:Act) (w:World) (J:dm) (s2:St),listed.size=ops.size->((List.range ops.size).filter (fun q=>!listed.getD q false)).length<=fuel->ui ops (ss listed)->
   Hv ops base kbase l S X W J0 s0 w0 a0 (ss listed) a w J s2->wpAnyIn (Wd ro) 0 P .any ops Q fuel listed a w:=by
 have hend:∀(listed:Array Bool) (a:Act) (w:World) (J:dm) (s2:St),listed.size=ops.size->Region.ready .any ops listed=[]->Hv ops base kbase l S X W J0 s0 w0 a0 (ss listed) a w J s2->Q .normal a w:=by
  intro listed a w J s2 hsz hr I;have key:∀q,q<ops.size->ss listed q:=by
   intro q
   induction q using Nat.strongRecOn with
   |_ q ih=>
    intro hq;by_cases hl:ss listed q
    ·exact hl
    ·exfalso
     have hmem:q∈Region.ready .any ops listed:=by
      unfold Region.ready;rw[List.mem_filter];refine⟨List.mem_range.2 hq,?_⟩;have hq':q<listed.size:=by omega
      have h1:listed.getD q true=false:=by
       unfold ss at hl;simp only[Array.getD,hq',dif_pos]at hl ⊢;simpa using hl
      simp only[h1,Bool.not_false,Bool.true_and,hq,Array.getElem?_eq_getElem,Option.map_some,Option.getD_some];rw[Array.all_eq_true'];intro e he;by_cases hb:Region.binds .any e=true
      ·have hlt:=hback q ops[q] (by simp[hq]) e (by simpa using he) hb
       have:=ih e.on hlt (by omega);unfold ss at this;simp only[this,Bool.or_true]
      ·simp[hb]
     rw[hr]at hmem;cases hmem
  have hE:ss listed=fun q=>q<ops.size:=by
   funext q
   apply propext;refine⟨fun h=>?_,key q⟩;unfold ss at h;by_cases hq:q<listed.size
   ·omega
   ·simp[Array.getD,hq]at h
  rw[hE]at I;exact hQ a w J s2 I
 intro fuel
 induction fuel with
 |zero=>
  intro listed a w J s2 hsz hc hcl I;have hr:Region.ready .any ops listed=[]:=by
   cases hx:Region.ready .any ops listed with
   |nil=>rfl
   |cons q r=>
    exfalso;have hmem:q∈Region.ready .any ops listed:=by rw[hx];simp
    unfold Region.ready at hmem;rw[List.mem_filter]at hmem;obtain⟨h1,h2⟩:=hmem;simp only[Bool.and_eq_true,Bool.not_eq_true']at h2;have hq:=List.mem_range.1 h1;have hq':q<listed.size:=by omega
    have:q∈(List.range ops.size).filter (fun q=>!listed.getD q false):=by
     rw[List.mem_filter];refine⟨h1,?_⟩;have:=h2.1;simp only[Array.getD,hq',dif_pos]at this ⊢;simp only[this,Bool.not_false]
    rw[List.length_eq_zero_iff.1 (Nat.le_zero.1 hc)]at this;cases this
  exact⟨hr,hend listed a w J s2 hsz hr I⟩
 |succ fuel ih=>
  intro listed a w J s2 hsz hc hcl I;refine⟨fun hr=>hend listed a w J s2 hsz hr I,fun q hq=>?_⟩;unfold Region.ready at hq;rw[List.mem_filter]at hq;obtain⟨h1,h2⟩:=hq;simp only[Bool.and_eq_true,Bool.not_eq_true']at h2;have hql:=List.mem_range.1 h1;have hq':q<listed.size:=by omega
  have hnl:listed.getD q false=false:=by
   have:=h2.1;simp only[Array.getD,hq',dif_pos]at this ⊢;exact this
  obtain⟨i,hi,hie⟩:=List.getElem_of_mem (hall q hql);have hi':l[i]?=some q:=by rw[List.getElem?_eq_getElem hi,hie]
  have hset:=ss.set (p:=q) hq';have hcl':ui ops (fun r=>ss listed r\/r=q):=by
   intro r o hr ho e he hb;rcases hr with hr|rfl
   ·exact .inl (hcl r o hr ho e he hb)
   ·left
    have:=h2.2;rw[ho]at this;simp only[Option.map_some,Option.getD_some]at this;rw[Array.all_eq_true']at this;have:=this e (by simpa using he);unfold ss;simpa[hb]using this
  obtain⟨o,ho,_⟩:=T.op hi';have hnE:¬ss listed q:=by unfold ss;rw[hnl];simp
  refine I.step hcall T (T.up hi' ho hnE hcl hcl') hn0 ?_;intro a' w' J' s2' I';rw[<-hset]at I' hcl';refine ih (listed.setIfInBounds q true) a' w' J' s2' (by simp[hsz]) ?_ hcl' I';have:((List.range ops.size).filter (fun r=>!(listed.setIfInBounds q true).getD r false)).length<((List.range ops.size).filter (fun r=>!listed.getD r false)).length:=by
   refine ws (fun r hr=>?_) _ q h1 (by simp only[hnl,Bool.not_false]) ?_
   ·by_cases hx:listed.getD r false=true
    ·have:ss (listed.setIfInBounds q true) r:=by rw[hset];exact .inl hx
     unfold ss at this;rw[this]at hr;cases hr
    ·simpa using hx
   ·have:ss (listed.setIfInBounds q true) q:=by rw[hset];exact .inr rfl
    unfold ss at this;rw[this];rfl
  omega
end
theorem aQ.drewR {J J' : dm} {s s' : St} {w w' : World} (h : aQ J s w J' s' w') (n : Nat) : aQ J s w J' s' { w' with drawn := n } :=
  { hr := { gdom := h.hr.gdom, gblk := h.hr.gblk, gcon := h.hr.gcon, ginj := h.hr.ginj, ldom := h.hr.ldom, lcon := h.hr.lcon, linj := h.hr.linj, sep := h.hr.sep }
    mono := h.mono, next := h.next, low := h.low, size := h.size, os := h.os, tape := h.tape, output := h.output, fresh := h.fresh, lfresh := h.lfresh, frame := h.frame }
theorem Af{ops:Array Oper}{l:List Nat}(h:lj ops l=true):l.length=ops.size/\(∀q,q<ops.size->q∈l)/\(∀(q:Nat) (o:Oper),ops[q]?=some o->∀e∈o.after.toList,Region.binds .any e=true->e.on<q) /\
  (∀(i k p q:Nat),i<k->l[i]?=some p->l[k]?=some q->p≠q/\∀o o',ops[p]?=some o->ops[q]?=some o'->me ops o o'=true->qT (Region.before ops) p q=true):=by
 unfold lj at h;simp only[Bool.and_eq_true]at h;obtain⟨⟨⟨h1,h2⟩,h3⟩,h4⟩:=h;refine⟨Nat.eq_of_beq_eq_true h1,fun q hq=>?_,fun q o ho e he hb=>?_,fun i k p q hik hp hq=>?_⟩
 ·rw[List.all_eq_true]at h2
  have:=h2 q (List.mem_range.2 hq);simpa using this
 ·rw[List.all_eq_true]at h3
  have hlt:q<ops.size:=(Array.getElem?_eq_some_iff.1 ho).1;have hmem:(o,q)∈ops.toList.zipIdx:=by
   rw[List.mem_zipIdx_iff_getElem?];simpa using ho
  have:=h3 (o,q) hmem;simp only[List.all_eq_true]at this;have:=this e he;rw[hb]at this;simp only[Bool.not_true,Bool.false_or]at this;exact Nat.le_of_ble_eq_true this
 ·have:=pp l h4 i k p q hik hp hq
  simp only[Bool.and_eq_true,Bool.not_eq_true']at this;refine⟨Nat.ne_of_beq_eq_false this.1,fun o o' ho ho' hs=>?_⟩;have:=this.2;rw[ho,ho']at this;simpa[hs]using this
theorem AH {ro : Option Nat} {P : Program} {H : bg} {call : bS} {f : FuncId} {nt : Nat} {ops : Array Oper} {id : Nat} {J : dm} {s s' : St} {w : World} {a : Act} (hm : P.follows .mixedOrders = true) (hcall : fz P call) (hkeep : aP call)
    (h : oH P H call f nt ops s = some s') (hR : HR J s w) (hE : ER J s a) (hn : nt ≤ a.tmps.size) :
    (Code.region id ops true).wpIn (Wd ro) 0 P (fun e a' w' => e = .normal ∧ Bj J s w a s' a' w') a w := by
  unfold oH at h
  cases hd : lj ops (dX ops) with
  | false => rw [hd] at h; simp at h
  | true =>
    rw [hd] at h
    simp only [cond_true] at h
    split at h
    · rename_i r fps hr
      cases hf : yK ops (s.h.next + ops.size) fps with
      | false => rw [hf] at h; simp at h
      | true =>
        rw [hf] at h
        simp only [cond_true, oi] at h
        subst h
        obtain ⟨d1, d2, d3, d4⟩ := Af hd
        obtain ⟨S, V, X, W, t1, t2, t3, t4⟩ := tG P H call f nt ops s.h.next s.kn (dX ops) 0 (s.keepNos ops.size) r fps hr
        simp only [Nat.zero_add] at t2 t4
        have T : Tr P H call f nt ops s.h.next s.kn (dX ops) S V X W :=
          { len := d1
            step := fun i p hp => let ⟨o, h1, _, h3⟩ := t4 i p hp; ⟨o, h1, h3⟩
            dist := fun i k p q hik hp hq => (d4 i k p q hik hp hq).1
            conf := fun i k p q o o' hik hp hq ho ho' hc => by
              rcases hc with hc | hc
              · exact (d4 i k p q hik hp hq).2 o o' ho ho' hc
              · obtain ⟨_, _, f1, _⟩ := t4 i p hp
                obtain ⟨_, _, f2, _⟩ := t4 k q hq
                have := pp fps hf i k _ _ hik f1 f2
                simpa [hc] using this
            lim := by rw [t1]; exact Nat.le_refl _
            kn := by rw [t1]; rfl
            keep := hkeep }
        rw [d1] at t2
        refine wpIn_region_any hm ?_
        refine Hv.any (J0 := J) (s0 := s) (w0 := w) (a0 := a) hcall T hn d2 d3 ?_ ops.size _ a _ J (s.keepNos ops.size) (by simp) ?_ ?_ ?_
        · intro a' w' J' s2 I
          refine ⟨rfl, J', ?_, ?_, I.size, I.defers, I.adds⟩
          · have hside : ∀ (j p : Nat), (dX ops)[j]? = some p → (p < ops.size ↔ j < ops.size) := fun j p hj => by
              obtain ⟨o', ho', hjl⟩ := T.op hj
              exact ⟨fun _ => hjl, fun _ => (Array.getElem?_eq_some_iff.1 ho').1⟩
            rw [← t2]
            refine I.good.swap ?_ ?_ (fun k L hL => ?_) (fun t L hL => ?_) I.low
            · rw [I.next ops.size (Nat.le_refl _) (fun j p hj _ => hside j p hj)]; exact Nat.le_refl _
            · rw [I.kn, T.knAt _ (Nat.le_refl _)]; exact Nat.le_refl _
            · exact (I.g k L ops.size (Nat.le_refl _) hL (fun j p hj _ => hside j p hj)).symm
            · exact (I.lk t L ops.size (Nat.le_refl _) hL (fun j p hj _ => hside j p hj)).symm
          · intro t v hv
            rw [← t2] at hv
            exact I.env t v ops.size (Nat.le_refl _) (fun j p o hj ho _ => by
              obtain ⟨o', ho', hjl⟩ := T.op hj
              exact ⟨fun _ => hjl, fun _ => (Array.getElem?_eq_some_iff.1 ho').1⟩) hv
        · exact Nat.le_trans (List.length_filter_le _ _) (by simp)
        · intro q o hq
          exfalso
          unfold ss at hq
          simp [Array.getD] at hq
        · have hno : ∀ q, ¬ ss (Array.replicate ops.size false) q := fun q hq => by unfold ss at hq; simp [Array.getD] at hq
          have hgood := (aQ.keepNos hR ops.size ops.size).drewR (w.drawn + 1)
          refine { kn := rfl, next := ?_, lim := Nat.le_refl _, g := ?_, lk := ?_, low := ?_, good := hgood, adds := .refl _ _, domg := ?_, doml := ?_, env := ?_, size := rfl, defers := rfl }
          · intro k hk h
            have := T.stableN k 0 (by omega) (fun j _ h2 => by
              cases hq : (X j).large with
              | false => rfl
              | true =>
                exfalso
                obtain ⟨pj, oj, hj, _, _⟩ := T.at (i := j) (by omega)
                exact hno _ ((h j pj hj hq).2 (by omega)))
            rw [Nat.zero_add] at this
            rw [this, t1]
          · intro id L k hk _ h
            have := T.stableG (id := id) k 0 (by omega) (fun j _ h2 hq => by
              obtain ⟨pj, oj, hj, _, _⟩ := T.at (i := j) (by omega)
              exact hno _ ((h j pj hj hq).2 (by omega)))
            rw [Nat.zero_add] at this
            rw [this, t1]
          · intro t L k hk _ h
            have := T.stableL (t := t) k 0 (by omega) (fun j _ h2 hq => by
              obtain ⟨pj, oj, hj, _, _⟩ := T.at (i := j) (by omega)
              exact hno _ ((h j pj hj hq).2 (by omega)))
            rw [Nat.zero_add] at this
            rw [this, t1]
          · have := T.lowAt ops.size 0 (by omega)
            rw [t1, Nat.zero_add] at this
            exact this
          · intro j p hj hs
            exfalso
            cases hq : J.g (s.h.next + j) with
            | none => rw [hq] at hs; cases hs
            | some L => have := hR.gdom _ _ hq; omega
          · intro j p hj hs
            exfalso
            cases hq : J.l (s.kn + j) with
            | none => rw [hq] at hs; cases hs
            | some L => have := hR.ldom _ _ hq; omega
          · intro t v k hk h hv
            have := T.stableE (t := t) k 0 (by omega) (fun j p o _ h2 hj ho hd => hno _ ((h j p o hj ho hd).2 (by omega)))
            rw [Nat.zero_add] at this
            rw [this, t1] at hv
            exact hE t v hv
    · cases h
end Go.Sim
namespace Go.Sim
variable{P:Program}{w:World}{J:dm}{s:St}
theorem lL{env:cg Value}:∀(l:List Tmp) (acc:cg Value) (t:Tmp) (v:Value),(fJ env l acc).get t=some v->acc.get t=some v\/(t∈l/\env.get t=some v)
 | [],acc,t,v,h=>.inl h
 |u :: l,acc,t,v,h=>by
  simp only[fJ]at h;split at h
  ·rename_i x hx
   rcases lL l _ t v h with h1|⟨h1,h2⟩
   ·rw[cg.get_set]at h1
    by_cases e:u=t
    ·subst e;rw[if_pos rfl]at h1;obtain rfl:=Option.some.inj h1;exact .inr ⟨by simp,hx⟩
    ·rw[if_neg e]at h1;exact .inl h1
   ·exact .inr ⟨by simp[h1],h2⟩
  ·rcases lL l _ t v h with h1|⟨h1,h2⟩
   ·exact .inl h1
   ·exact .inr ⟨by simp[h1],h2⟩
theorem yV {H : bg} {f : FuncId} {c : Code} {kn : Nat} {s1 : St} {a : Act} (h : AN H f c kn s = some s1) (hR : HR J s w) (hE : ER J s a) : ∃ J1, aQ J s w J1 s1 w ∧ ER J1 s1 a ∧ J1.g = J.g := by
  unfold AN at h
  split at h
  · simp only [oi] at h; subst h; exact ⟨J, .refl hR, hE, rfl⟩
  · rename_i l _
    simp only [] at h
    rw [Bool.cond_eq_ite] at h
    split at h
    · rename_i hb
      simp only [oi] at h
      subst h
      simp only [Bool.and_eq_true, List.all_eq_true] at hb
      have hk := Nat.le_of_ble_eq_true hb.1
      let J1 : dm := ⟨J.g, fun t => if t < kn then J.l t else none⟩
      have hl : ∀ t L, J1.l t = some L → t < kn ∧ J.l t = some L := by
        intro t L ht
        simp only [J1] at ht
        by_cases e : t < kn
        · rw [if_pos e] at ht; exact ⟨e, ht⟩
        · rw [if_neg e] at ht; cases ht
      refine ⟨J1, ?_, ?_, rfl⟩
      · exact { hr := { gdom := hR.gdom, gblk := hR.gblk, gcon := hR.gcon, ginj := hR.ginj, ldom := fun t L h => (hl t L h).1, lcon := fun t L h => hR.lcon t L (hl t L h).2, linj := fun t t' L L' h h' => hR.linj t t' L L' (hl t L h).2 (hl t' L' h').2, sep := fun id t L L' h h' => hR.sep id t L L' h (hl t L' h').2 }
                mono := fun _ _ h => h, next := Nat.le_refl _, low := Nat.le_refl _, size := Nat.le_refl _, os := rfl, tape := rfl, output := rfl
                fresh := fun id L h1 h2 => absurd h1 (by rw [h2]; simp)
                lfresh := fun t L h1 => .inr ⟨t, L, (hl t L h1).2, rfl⟩
                frame := fun _ _ _ _ => rfl }
      · intro t v hv
        have hv' : (fJ s.env l .leaf).get t = some v := hv
        rcases lL l .leaf t v hv' with h1 | ⟨h1, h2⟩
        · simp [cg.get] at h1
        · obtain ⟨e1, e2⟩ := hE t v h2
          refine ⟨e1, ?_⟩
          have hloc := hb.2 t h1
          rw [hv'] at hloc
          simp only [] at hloc
          generalize a.tmps.getD t undef = cv at e2 ⊢
          cases e2 with
          | glob _ _ h => exact .glob _ _ h
          | loc ad x L hs h =>
            refine .loc ad x L hs ?_
            simp only [px, hs, Option.isNone_some, Bool.false_or] at hloc
            show (if ad.block < kn then J.l ad.block else none) = some L
            have hlt : ad.block < kn := Nat.le_of_ble_eq_true hloc
            rw [if_pos hlt]; exact h
    · cases h
theorem tB{a:Act}(hR:HR J s w)(hE:ER J s a)(g:ResultVar->Sem Value)(hg1:∀t,g (.tmp t)=pure (a.tmps.getD t undef))(hg2:∀x t,g (.cell x t)=(do loadVar t (<-asAddr (a.tmps.getD x undef)))) :
  ∀(rs:List ResultVar) (l:List Value),si P s rs=some l->l.all cP=true->∃cs,(rs.mapM g).run P w=.ok cs w/\dK J.g l cs
 | [],l,h,_=>by
  simp only[si,oi]at h;subst h;exact⟨[],by simp,.nil _⟩
 | .tmp t :: rs,l,h,hn=>by
  simp only[si]at h;split at h
  ·rename_i v hv
   split at h
   ·rename_i l' hl
    simp only[oi]at h;subst h;simp only[List.all_cons,Bool.and_eq_true]at hn;obtain⟨cs,h1,h2⟩:=tB hR hE g hg1 hg2 rs l' hl hn.2;refine⟨a.tmps.getD t undef :: cs,?_,.cons ((hE t v hv).2.of_noLoc hn.1) h2⟩;rw[List.mapM_cons,hg1];simp only[Sem.run_bind,Sem.run_pure,Result.andThen_ok,h1]
   ·cases h
  ·cases h
 | .cell x t :: rs,l,h,hn=>by
  simp only[si]at h;split at h
  ·rename_i ad hv
   split at h
   ·rename_i v hld
    split at h
    ·rename_i l' hl
     simp only[oi]at h;subst h;simp only[List.all_cons,Bool.and_eq_true]at hn;obtain⟨cs,h1,h2⟩:=tB hR hE g hg1 hg2 rs l' hl hn.2;obtain⟨L,hL,hc⟩:=(hE x _ hv).2.ptrL;obtain⟨c,h3,h4⟩:=wK hR hL hld;refine⟨c :: cs,?_,.cons h4 h2⟩;rw[List.mapM_cons,hg2,hc];simp only[Sem.run_bind,Sem.run_pure,Result.andThen_ok,h1,asAddr,h3]
    ·cases h
   ·cases h
  ·cases h
theorem rN{fn:Func}{a:Act}{l:List Value}(hR:HR J s w)(hE:ER J s a)(h:si P s fn.results.toList=some l)(hn:l.all cP=true):∃c,(results fn a.tmps).run P w=.ok c w/\VG J.g (ip l) c:=by
 let g:ResultVar->Sem Value:=fun r=>match r with | .tmp t=>pure (a.tmps.getD t undef) | .cell x t=>do loadVar t (<-asAddr (a.tmps.getD x undef))
 have hres:results fn a.tmps=(do let vs <-fn.results.mapM g;pure (if h:vs.size=1 then vs[0] else .tuple vs)):=rfl;obtain⟨cs,h1,h2⟩:=tB (P:=P) hR hE g (fun t=>rfl) (fun x t=>rfl) fn.results.toList l h hn;rw[hres,Array.mapM_eq_mapM_toList];simp only[Sem.run_bind,Sem.run_pure,Result.andThen_ok];rw[map_eq_pure_bind];simp only[Sem.run_bind,Sem.run_pure,Result.andThen_ok,h1];refine⟨_,rfl,?_⟩;by_cases e:cs.length=1
 ·rw[dif_pos (by simpa using e)]
  obtain⟨c,rfl⟩:=List.length_eq_one_iff.1 e;obtain⟨v,rfl⟩:=List.length_eq_one_iff.1 (h2.1.trans e);exact h2.2 0 v c rfl rfl
 ·rw[dif_neg (by simpa using e)]
  have:ip l=.tuple l.toArray:=by
   unfold ip;split
   ·exact absurd h2.1.symm (by simpa using e)
   ·rfl
  rw[this];exact h2.tuple
def EY(D:Nat):Deferred:={ target:=.collected D,args:=#[] }
def rW(J':dm)(w w':World)(ds ds':List Deferred):Prop:=
 ∃Ds:List Nat,ds'=Ds.map EY++ds/\Ds.Nodup /\
  ∀D∈Ds,w.heap.size<=D/\w'.heap[D]?=some (.deferred (some []))/\(∀id L,J'.g id=some L->L.b≠D)/\(∀t L,J'.l t=some L->L.b≠D)
theorem rW.none(J':dm)(w w':World)(ds:List Deferred):rW J' w w' ds ds:=⟨[],rfl,.nil,fun D h=>by cases h⟩
theorem aQ.apart{J1 J2:dm}{s1 s2:St}{w1 w2:World}(k:aQ J1 s1 w1 J2 s2 w2){D:Nat}(hD:D<w1.heap.size)(hg:∀id L,J1.g id=some L->L.b≠D)(hl:∀t L,J1.l t=some L->L.b≠D) :
  w2.heap[D]?=w1.heap[D]?/\(∀id L,J2.g id=some L->L.b≠D)/\(∀t L,J2.l t=some L->L.b≠D):=by
 refine⟨k.frame D hD (fun id L h e=>absurd e (hg id L h)) hl,fun id L h e=>?_,fun t L h e=>?_⟩
 ·cases h1:J1.g id with
  |some L1=>
   have:=k.mono _ _ h1;rw[h]at this;obtain rfl:=Option.some.inj this;exact hg _ _ h1 e
  |none=>
   rcases k.fresh id L h h1 with q|⟨id0,L0,x,y,_⟩
   ·omega
   ·exact hg _ _ x (y.trans e)
 ·rcases k.lfresh t L h with q|⟨t0,L0,x,y⟩
  ·omega
  ·exact hl _ _ x (y.trans e)
theorem rW.trans{J1 J2:dm}{s1 s2:St}{w1 w2:World}{ds ds1 ds2:List Deferred}(h:rW J1 w w1 ds ds1)(hsz:w.heap.size<=w1.heap.size)(k:aQ J1 s1 w1 J2 s2 w2)(m:rW J2 w1 w2 ds1 ds2):rW J2 w w2 ds ds2:=by
 obtain⟨D1,rfl,n1,p1⟩:=h;obtain⟨D2,rfl,n2,p2⟩:=m;have hlt:∀D∈D1,D<w1.heap.size:=fun D hD=>(Array.getElem?_eq_some_iff.1 (p1 D hD).2.1).1
 refine⟨D2++D1,by simp,?_,?_⟩
 ·rw[List.nodup_append]
  refine⟨n2,n1,fun a ha b hb e=>?_⟩;have:=(p2 a ha).1;have:=hlt b hb;omega
 ·intro D hD
  rcases List.mem_append.1 hD with hD|hD
  ·obtain⟨q1,q2⟩:=p2 D hD
   exact⟨Nat.le_trans hsz q1,q2⟩
  ·obtain⟨q1,q2,q3,q4⟩:=p1 D hD
   obtain⟨r1,r2,r3⟩:=k.apart (hlt D hD) q3 q4;exact⟨q1,r1.trans q2,r2,r3⟩
def jg(J:dm)(s:St)(w:World)(a:Act)(s':St)(a':Act)(w':World):Prop:=
 ∃J',aQ J s w J' s' w'/\ER J' s' a'/\a'.tmps.size=a.tmps.size/\rW J' w w' a.defers a'.defers/\dI (s.h.next<=·) J.g J'.g
theorem Bj.toM{s':St}{w':World}{a a':Act}(h:Bj J s w a s' a' w'):jg J s w a s' a' w':=by
 obtain⟨J',q1,q2,q3,q4,q5⟩:=h;exact⟨J',q1,q2,q3,by rw[q4];exact .none _ _ _ _,q5⟩
theorem jg.trans{J1:dm}{s1 s2:St}{w1 w2:World}{a a1 a2:Act}(hG:aQ J s w J1 s1 w1)(hs:a1.tmps.size=a.tmps.size)(hd:rW J1 w w1 a.defers a1.defers)(hA:dI (s.h.next<=·) J.g J1.g)(h:jg J1 s1 w1 a1 s2 a2 w2):jg J s w a s2 a2 w2:=by
 obtain⟨J2,q1,q2,q3,q4,q5⟩:=h;exact⟨J2,hG.trans q1,q2,by rw[q3,hs],hd.trans hG.size q1 q4,hA.trans (q5.mono (fun k hk=>Nat.le_trans hG.next hk))⟩
theorem ow(w:World)(o:Obj){k:Nat}(hk:k<w.heap.size):(w.alloc o).heap[k]?=w.heap[k]?:=by
 show(w.heap.push _)[k]?=_;rw[Array.getElem?_push,if_neg (by omega)]
theorem aQ.alloc(h:HR J s w)(o:Obj):aQ J s w J s (w.alloc o) where
 hr:={ gdom:=h.gdom,gblk:=(fun id L hL=>by rw[ow w o (h.lt hL)];exact h.gblk id L hL),gcon:=(fun id L b hL hm=>by rw[ow w o (h.lt hL)];exact h.gcon id L b hL hm),ginj:=h.ginj,ldom:=h.ldom,lcon:=(fun t L hL=>by rw[ow w o (h.llt hL)];exact h.lcon t L hL),linj:=h.linj,sep:=h.sep }
 mono:=fun _ _ h=>h
 next:=Nat.le_refl _
 low:=Nat.le_refl _
 size:=by simp
 os:=rfl
 tape:=rfl
 output:=rfl
 fresh:=(fun id L h1 h2=>by rw[h2]at h1;cases h1)
 lfresh:=fun t L h1=>.inr ⟨t,L,h1,rfl⟩
 frame:=fun b hb _ _=>ow w o hb
theorem aQ.putD{J':dm}{s':St}{w':World}(h:aQ J s w J' s' w'){D:Nat}(hD:w.heap.size<=D)(hg:∀id L,J'.g id=some L->L.b≠D)(hl:∀t L,J'.l t=some L->L.b≠D)(o:Obj):aQ J s w J' s' (w'.putObj D o) where
 hr:={ gdom:=h.hr.gdom,gblk:=(fun id L hL=>by rw[World.putObj_heap_other (hg id L hL)];exact h.hr.gblk id L hL),gcon:=(fun id L b hL hm=>by rw[World.putObj_heap_other (hg id L hL)];exact h.hr.gcon id L b hL hm),ginj:=h.hr.ginj,ldom:=h.hr.ldom,lcon:=(fun t L hL=>by rw[World.putObj_heap_other (hl t L hL)];exact h.hr.lcon t L hL),linj:=h.hr.linj,sep:=h.hr.sep }
 mono:=h.mono
 next:=h.next
 low:=h.low
 size:=by simp;exact h.size
 os:=h.os
 tape:=h.tape
 output:=h.output
 fresh:=h.fresh
 lfresh:=h.lfresh
 frame:=fun b hb q1 q2=>(World.putObj_heap_other (by omega)).trans (h.frame b hb q1 q2)
theorem mq{fn:Func}{tmps:Array Value}{R:Ending->World->Prop}(I:World->Prop)(hres:∀w',I w'->∃v,(results fn tmps).run P w'=.ok v w'/\R (.returned v) w') :
  ∀(Ds:List Nat) (w:World),Ds.Nodup->(∀D∈Ds,w.heap[D]?=some (.deferred (some [])))->I w->(∀w' D,I w'->D∈Ds->I (w'.putObj D (.deferred none)))->LeavesInM Fence.wide 0 P fn tmps R (Ds.map EY) .returning w
 | [],w,_,_,hI,_=>hres w hI
 |D :: Ds,w,hn,hd,hI,hs=>by
  refine⟨by simp,.inl ⟨D,w.putObj D (.deferred none),rfl,run_takeDeferred (hd D (by simp)),?_⟩⟩;rw[List.nodup_cons]at hn;refine mq I hres Ds _ hn.2 (fun E hE=>?_) (hs w D hI (by simp)) (fun w' E h1 h2=>hs w' E h1 (by simp[h2]));rw[World.putObj_heap_other (fun e=>hn.1 (by rw[<-e];exact hE))];exact hd E (by simp[hE])
def tW(P:Program)(run:FuncId->Nat->Code->St->Option (Exit×St)):Prop:=∀f nt c s x s',run f nt c s=some (x,s')->∀ro,(ro=none\/aY c=true)->∀J w a,HR J s w->ER J s a->nt<=a.tmps.size->c.wpIn (Wd ro) 0 P (fun e a' w'=>e=x/\jg J s w a s' a' w') a w
def yp(P:Program)(loop:FuncId->Nat->Code->Nat->St->Option (Exit×St)):Prop:=∀f nt c kn s x s',loop f nt c kn s=some (x,s')->∀ro,(ro=none\/aY c=true)->∃n,∀J w a,HR J s w->ER J s a->nt<=a.tmps.size->∀Q:Exit->Act->World->Prop,(∀a' w',jg J s w a s' a' w'->Q x a' w')->Code.roundsIn (Wd ro) 0 P c Q n a w
theorem pt{next:Act->World->Prop}{Q:Exit->Act->World->Prop}{x:Exit}{a:Act}{w:World}(h:x≠.normal)(hq:Q x a w):Exit.then next Q x a w:=by
 cases x<;>first|exact absurd rfl h|exact hq
theorem fE{g : FuncId}{fn : Func}{args : Array Value}(hf : P.funcs[g]? = some fn)(hb : fn.body.isSome = true)(hname : (fn.name == "runtime.NumGoroutine") = false) : (callFunc g args).run P w = .ok (.enter g args) w := by
 unfold callFunc;have hb':fn.body≠none:=by cases h:fn.body<;>simp_all
 have hname' : fn.name ≠ "runtime.NumGoroutine" := by simpa using hname
 simp[hf,hname',hb']
theorem yY{call : bS}(hcall : fz P call)(hname : ∀ (g : FuncId) (fn : Func), P.funcs[g]? = some fn → (fn.name == "runtime.NumGoroutine") = false){f : FuncId}{nt : Nat}{x : Operand}{ps : Array Tmp}{assign body : Code}{s' : St}{e : Exit}{a : Act}
  (h:nO P call f nt x ps assign body s=some (e,s')) (hR:HR J s w) (hE:ER J s a) (hn:nt<=a.tmps.size) :
  (Code.rangeFunc x ps assign body).wpIn (Wd none) 0 P (fun e' a' w'=>e'=e/\jg J s w a s' a' w') a w:=by
 unfold nO at h;cases hnr:(aY assign && aY body)with
 |false=>rw[hnr]at h;simp at h
 |true=>
 rw[hnr]at h;simp only[cond_true]at h;split at h
 ·rename_i g first captured hev
  cases hb:(Nat.blt g aN && sQ P g)with
  |false=>rw[hb]at h;simp at h
  |true=>
  rw[hb]at h;simp only[cond_true]at h;simp only[Bool.and_eq_true]at hb;obtain⟨hlt0,hbody⟩:=hb;have hlt:g<aN:=Nat.le_of_ble_eq_true hlt0;obtain⟨gfn,hgf,hgb⟩:∃gfn,P.funcs[g]?=some gfn/\gfn.body.isSome=true:=by
   unfold sQ at hbody;split at hbody
   ·rename_i gfn hgf;exact⟨gfn,hgf,hbody⟩
   ·cases hbody
  split at h
  ·rename_i v h2 hr
   obtain⟨x',y',hf,hx',hy'⟩:=((hE.eval hev).of_ne (fun a=>by simp)).funcL;refine wpIn_rangeFunc fun fn _=>?_
   obtain⟨rc,hrc⟩:∃rc:Loop,rc = { state:=.ready,pending:=none,fn:=fn,tmps:=a.tmps,params:=ps,assign:=assign,body:=body,defers:=w.heap.size }:=⟨_,rfl⟩;have g0:=aQ.alloc hR (.deferred (some []));obtain⟨J1,g1,l1,gid,ad1⟩:=g0.hr.pushB (b:=.loop .ready none f nt (s.env.keep cP) ps.toList assign body) (o:=.loop rc) (by simp) (fun g' hg'=>⟨fn,a.tmps,ps,w.heap.size,by rw[hrc],rfl,hn,fun t u hu=>by
    obtain⟨q1,q2⟩:=cg.get_keep cP _ t u hu;exact⟨(hE t u q1).1,((hE t u q1).2.of_noLoc q2).mono hg'⟩⟩)
   have hsz:(w.alloc (.deferred (some []))).heap.size=w.heap.size+1:=by simp
   have hcv:dK J1.g (first.toList++[.func (.yield s.h.next) #[] #[]]++captured.toList) (x'.toList++[.func (.yield (w.heap.size+1)) #[] #[]]++y'.toList):=by
    have hy:=VG.yield (g:=J1.g) s.h.next _ gid;simp only[hsz]at hy;exact((hx'.mono g1.mono).append (.cons hy (.nil _))).append (hy'.mono g1.mono)
   have hd:=hcall.1 g _ _ v h2 hr hlt J1.g _ _ g1.hr.bare hcv;have hcalls:=hd.calls' hgf hgb (hname g gfn hgf);refine⟨w.heap.size+1,[{ target:=.collected w.heap.size,args:=#[] }],(w.alloc (.deferred (some []))).alloc (.loop rc),{ target:=.fn (.func g) y',args:=x'++#[.func (.yield (w.heap.size+1)) #[] #[]] },(w.alloc (.deferred (some []))).alloc (.loop rc),g,(x'.toList++[Value.func (.yield (w.heap.size+1)) #[] #[]]++y'.toList).toArray,(w.alloc (.deferred (some []))).alloc (.loop rc),(by rw[hrc];exact run_enterLoop_outer fn a.tmps ps assign body),?_,fun _ _=>trivial,?_,(fun q=>by simp[Wd,Fence.wide]at q),?_⟩
   ·have hf':a.eval x=.func (.func g) x' y':=hf
    simp only[resolve,rangeCall,hf',Deferred.ofValue];simp[Act.eval]
   ·have e2:invoke (.fn (.func g) y') (x'++#[.func (.yield (w.heap.size+1)) #[] #[]])=callFunc g (x'++#[.func (.yield (w.heap.size+1)) #[] #[]]++y'):=rfl
    show(invoke (.fn (.func g) y') (x'++#[.func (.yield (w.heap.size+1)) #[] #[]])).run P _=_;rw[e2,fE hgf hgb (hname g gfn hgf)]
    congr 2
    apply Array.ext';simp
   ·refine CallsIn.mono (F:=Wd none) (n:=0-1) (callsIn_wide.2 hcalls) ?_
    rintro e9 w3 ⟨c,rfl,G',hv,hG,hA⟩;have k:=aQ.call g1.hr hG;have hgid:G' s.h.next=some ⟨(w.alloc (.deferred (some []))).heap.size,0,0,0⟩:=hG.mono _ _ gid;have fin:∀st pend f1 nt1 env1 ps1 as1 bo1,h2.m.get s.h.next=some (.loop st pend f1 nt1 env1 ps1 as1 bo1)->st≠.busy->qK { s with h:=h2.putB s.h.next .dead } pend=some (e,s')->
      rangePost (Wd none) 0 P (w.heap.size+1) (fun e' a' w'=>e'=e/\jg J s w a s' a' w') { a with defers:=[{ target:=.collected w.heap.size,args:=#[] }]++a.defers } (.returned c) w3:=by
     intro st pend f1 nt1 env1 ps1 as1 bo1 hm hst hl;obtain⟨fn',tmps',params',D',ho,_⟩:=k.hr.gcon _ _ _ hgid hm;have ho':w3.heap[w.heap.size+1]?=some (.loop { state:=st,pending:=pend,fn:=fn',tmps:=tmps',params:=params',assign:=as1,body:=bo1,defers:=D' }):=by
      rw[<-hsz];exact ho
     have k2:=k.hr.putB (b:=.dead) hgid hm rfl (o:=.loop { state:=.exhausted,pending:=pend,fn:=fn',tmps:=tmps',params:=params',assign:=as1,body:=bo1,defers:=D' }) (by simp) trivial;have kk:=g1.trans (k.trans k2);have tot:=g0.trans kk;obtain⟨r1,r2,r3⟩:=kk.apart (D:=w.heap.size) (by rw[hsz];omega) (fun id L hL e=>by have:=hR.lt hL;omega) (fun t L hL e=>by have:=hR.llt hL;omega);have hD:(w.alloc (.deferred (some []))).heap[w.heap.size]?=some (.deferred (some [])):=World.alloc_heap_new w _;have hpost:jg J s w a { s with h:=h2.putB s.h.next .dead } { a with defers:=[{ target:=.collected w.heap.size,args:=#[] }]++a.defers } (w3.putObj (w.heap.size+1) (.loop { state:=.exhausted,pending:=pend,fn:=fn',tmps:=tmps',params:=params',assign:=as1,body:=bo1,defers:=D' })):=by
      rw[<-hsz];refine⟨⟨G',J1.l⟩,tot,?_,rfl,⟨[w.heap.size],rfl,by simp,fun D hD'=>?_⟩,?_⟩
      ·intro t u hu
       refine⟨(hE t u hu).1,(hE t u hu).2.mono tot.mono (fun t L hL=>?_)⟩;show J1.l t=some L;rw[l1];exact hL
      ·simp only[List.mem_singleton]at hD'
       subst hD';exact⟨Nat.le_refl _,r1.trans hD,r2,r3⟩
      ·exact ad1.trans (hA.mono (fun k hk=>by simp only[af.pushB]at hk;omega))
     refine⟨pend,_,run_endLoop ho' hst,?_⟩;unfold qK at hl;split at hl
     ·simp only[oi,pj]at hl;obtain⟨rfl,rfl⟩:=hl
      exact⟨rfl,hpost⟩
     ·simp only[oi,pj]at hl;obtain⟨rfl,rfl⟩:=hl
      exact wpIn_ret ⟨rfl,hpost⟩
     ·simp only[oi,pj]at hl;obtain⟨rfl,rfl⟩:=hl
      exact wpIn_exit ⟨rfl,hpost⟩
     ·cases hl
    split at h
    ·rename_i hm;exact fin _ _ _ _ _ _ _ _ hm (by simp) h
    ·rename_i hm;exact fin _ _ _ _ _ _ _ _ hm (by simp) h
    ·cases h
  ·cases h
 ·cases h
theorem Je{H : bg}{r : EM}(hm : P.follows .mixedOrders = true)(hname : ∀ (g : FuncId) (fn : Func), P.funcs[g]? = some fn → (fn.name == "runtime.NumGoroutine") = false)(h1 : tW P r.run)(h2 : yp P r.loop)(h3 : fz P r.call)(h4 : aP r.call) : tW P (li P H r) := by
 intro f nt c s x s' h ro hro J w a hR hE hn;have hself:jg J s w a s a w:=⟨J,.refl hR,hE,rfl,.none _ _ _ _,.refl _ _⟩;unfold li at h;split at h
 ·simp only[oi,pj]at h;obtain⟨rfl,rfl⟩:=h
  exact wpIn_skip ⟨rfl,hself⟩
 ·simp only[oi,pj]at h;obtain⟨rfl,rfl⟩:=h
  exact wpIn_ret ⟨rfl,hself⟩
 ·simp only[oi,pj]at h;obtain⟨rfl,rfl⟩:=h
  exact wpIn_exit ⟨rfl,hself⟩
 ·rename_i ca cb
  have hra:ro=none\/aY ca=true:=hro.imp id (fun q=>by simp only[aY,Bool.and_eq_true]at q;exact q.1);have hrb:ro=none\/aY cb=true:=hro.imp id (fun q=>by simp only[aY,Bool.and_eq_true]at q;exact q.2);split at h
  ·rename_i s1 ha
   refine wpIn_seq (wpIn_mono (h1 f nt ca s _ s1 ha ro hra J w a hR hE hn) ?_);rintro e a1 w1 ⟨rfl,J1,q1,q2,q3,q4,q5⟩;show cb.wpIn (Wd ro) 0 P _ a1 w1;refine wpIn_mono (h1 f nt cb s1 x s' h ro hrb J1 w1 a1 q1.hr q2 (by rw[q3];exact hn)) ?_;rintro e a2 w2 ⟨rfl,hp⟩;exact⟨rfl,jg.trans q1 q3 q4 q5 hp⟩
  ·rename_i hx
   refine wpIn_seq (wpIn_mono (h1 f nt ca s x s' h ro hra J w a hR hE hn) ?_);rintro e a1 w1 ⟨rfl,hp⟩;exact pt (fun e=>by subst e;exact hx s' h) ⟨rfl,hp⟩
 ·rename_i y ca cb
  split at h
  ·rename_i t ht
   have:=((hE.eval ht).of_ne (fun a=>by simp)).bool;refine wpIn_cond this ?_;have:=h1 f nt _ s x s' h ro (hro.imp id (fun q=>by simp only[aY,Bool.and_eq_true]at q;cases t<;>simp[q.1,q.2])) J w a hR hE hn;cases t<;>exact this
  ·cases h
 ·rename_i id cb
  have hrb:ro=none\/aY cb=true:=hro;split at h
  ·rename_i id' s1 hb
   refine wpIn_block (wpIn_mono (h1 f nt cb s _ s1 hb ro hrb J w a hR hE hn) ?_);rintro e a1 w1 ⟨rfl,hp⟩;cases hid:Nat.beq id' id with
   |true=>
    rw[hid]at h;simp only[cond_true,oi,pj]at h;obtain⟨rfl,rfl⟩:=h;simp only[Exit.inBlock,if_pos (Nat.eq_of_beq_eq_true hid)];exact⟨trivial,hp⟩
   |false=>
    rw[hid]at h;simp only[cond_false,oi,pj]at h;obtain⟨rfl,rfl⟩:=h;simp only[Exit.inBlock,if_neg (Nat.ne_of_beq_eq_false hid)];exact⟨trivial,hp⟩
  ·rename_i hx
   refine wpIn_block (wpIn_mono (h1 f nt cb s x s' h ro hrb J w a hR hE hn) ?_);rintro e a1 w1 ⟨rfl,hp⟩;cases e with
   |exit id'=>exact absurd h (hx id' s')
   |_=>exact⟨rfl,hp⟩
 ·rename_i cb
  obtain⟨n,hl⟩:=h2 f nt cb s.kn s x s' h ro hro;exact wpIn_loop_rounds n (hl J w a hR hE hn _ (fun a' w' hp=>⟨rfl,hp⟩))
 ·rename_i id ops draw
  split at h
  ·rename_i s1 hs1
   simp only[oi,pj]at h;obtain⟨rfl,rfl⟩:=h;cases draw with
   |true=>exact wpIn_mono (AH hm h3 h4 hs1 hR hE hn) (fun e a w q=>⟨q.1,q.2.toM⟩)
   |false=>exact wpIn_mono (Ah h3 hs1 hR hE hn) (fun e a w q=>⟨q.1,q.2.toM⟩)
  ·cases h
 ·rcases hro with rfl|q
  ·exact yY h3 hname h hR hE hn
  ·simp[aY]at q
 ·cases h
theorem FS{H:bg}{r:EM}(h1:tW P r.run)(h2:yp P r.loop):yp P (na H r):=by
 intro f nt c kn s x s' h ro hro;unfold na at h;split at h
 ·cases h
 ·rename_i s1 hs1
  split at h
  ·rename_i s2 hb
   obtain⟨n,hl⟩:=h2 f nt c kn s2 x s' h ro hro;refine⟨n+1,fun J w a hR hE hn Q hQ=>?_⟩;obtain⟨J1,g1,g2,g3⟩:=yV hs1 hR hE;refine wpIn_mono (h1 f nt c s1 _ s2 hb ro hro J1 w a g1.hr g2 hn) ?_;rintro e a1 w1 ⟨rfl,J2,q1,q2,q3,q4,q5⟩;show Code.roundsIn (Wd ro) 0 P c Q n a1 w1;refine hl J2 w1 a1 q1.hr q2 (by rw[q3];exact hn) Q (fun a' w' hp=>hQ a' w' ?_);exact jg.trans g1 rfl (.none _ _ _ _) (by rw[g3];exact .refl _ _) (jg.trans q1 q3 q4 q5 hp)
  ·rename_i hx
   refine⟨1,fun J w a hR hE hn Q hQ=>?_⟩;obtain⟨J1,g1,g2,g3⟩:=yV hs1 hR hE;refine wpIn_mono (h1 f nt c s1 x s' h ro hro J1 w a g1.hr g2 hn) ?_;rintro e a1 w1 ⟨rfl,hp⟩;exact pt (fun e=>by subst e;exact hx s' h) (hQ a1 w1 (jg.trans g1 rfl (.none _ _ _ _) (by rw[g3];exact .refl _ _) hp))
theorem mR:∀(l:List Value) (i:Nat) (acc:cg Value) (t:Nat),(dN l i acc).get t=if i<=t/\t<i+l.length then l[t-i]? else acc.get t
 | [],i,acc,t=>by simp[dN];intro h1 h2;omega
 |v :: l,i,acc,t=>by
  simp only[dN];rw[mR l (i+1) _ t,cg.get_set];rcases Nat.lt_trichotomy t i with h|h|h
  ·rw[if_neg (by omega),if_neg (by omega),if_neg (by omega)]
  ·subst h;rw[if_neg (by omega),if_pos rfl,if_pos (by simp)];simp
  ·by_cases h2:t<i+1+l.length
   ·rw[if_pos (by omega),if_pos (by simp;omega)]
    rw[show t-i=(t-(i+1))+1 by omega];simp
   ·rw[if_neg (by omega),if_neg (by omega),if_neg (by simp;omega)]
theorem aQ.bare{G:Nat->Option cN}{J':dm}{s':St}{w':World}(h:aQ ⟨G,fun _=>none⟩ s w J' s' w'):aQ ⟨G,fun _=>none⟩ (fV s.h) w ⟨J'.g,fun _=>none⟩ (fV s'.h) w':=
 { hr:=h.hr.bare,mono:=h.mono,next:=h.next,low:=h.low,size:=h.size,os:=h.os,tape:=h.tape,output:=h.output,fresh:=h.fresh,lfresh:=(fun t L h=>by cases h),frame:=h.frame }
theorem Gr{F : aM}{r : EM}(hF : cU P F)(hname : ∀ (g : FuncId) (fn : Func), P.funcs[g]? = some fn → (fn.name == "runtime.NumGoroutine") = false)(h1 : tW P r.run) : cU P (mA P F r) := by
 intro g args h v h' hc hlt G w cargs hR hA;unfold mA at hc;rw[show Nat.ble aN g=false from dl hlt]at hc;simp only[cond_false]at hc;split at hc
 ·rename_i x hx
  simp only[oi]at hc;subst hc;exact hF g args h v h' hx hlt G w cargs hR hA
 ·split at hc
  ·rename_i fn hfn
   split at hc
   ·rename_i c hb
    left;refine⟨fE hfn (by rw[hb];rfl) (hname g fn hfn),(callsIn_wide (n:=0)).1 (callsIn_of_wp_marks hfn hb trivial ?_)⟩;have hR':HR ⟨G,fun _=>none⟩ { env:=dN args 0 .leaf,kn:=0,K:=.leaf,h:=h } w:=hR.env _;have hE':ER ⟨G,fun _=>none⟩ { env:=dN args 0 .leaf,kn:=0,K:=.leaf,h:=h } { tmps:=cargs.toArray++Array.replicate (fn.ntmps-cargs.toArray.size) undef,defers:=[] }:=by
     intro t u hu;simp only[mR,Nat.zero_le,true_and,Nat.zero_add,Nat.sub_zero]at hu;by_cases ht:t<args.length
     ·rw[if_pos ht]at hu
      have ht':t<cargs.length:=by rw[<-hA.1];exact ht
      refine⟨by simp;omega,?_⟩;have:(cargs.toArray++Array.replicate (fn.ntmps-cargs.toArray.size) undef).getD t undef=cargs[t]:=by
       simp[Array.getD,ht',Array.getElem_append,show t<cargs.length+(fn.ntmps-cargs.length) by omega]
      rw[this];exact .glob _ _ (hA.2 t u _ hu (by simp[ht']))
     ·rw[if_neg ht]at hu;simp[cg.get]at hu
    have key:∀x s',r.run g fn.ntmps c { env:=dN args 0 .leaf,kn:=0,K:=.leaf,h:=h }=some (x,s')->sj P fn s'=some (v,h')->(x=.normal\/x=.ret)->
      c.wpIn Fence.wide 0 P (bodyPostM Fence.wide 0 P fn (fun e w'=>∃c,e=.returned c/\∃G',VG G' v c/\aQ ⟨G,fun _=>none⟩ (fV h) w ⟨G',fun _=>none⟩ (fV h') w'/\dI (h.next<=·) G G')) { tmps:=cargs.toArray++Array.replicate (fn.ntmps-cargs.toArray.size) undef,defers:=[] } w:=by
     intro x s' hrun hend hx;have hrun':=h1 g fn.ntmps c _ x s' hrun none (.inl rfl) _ w _ hR' hE' (by simp;omega);refine wpIn_mono (F:=Fence.wide) hrun' ?_;rintro e a' w' ⟨rfl,J',q1,q2,q3,⟨Ds,q4,q6,q7⟩,q5⟩;simp only[List.append_nil]at q4;unfold sj at hend;split at hend
     ·rename_i l hl
      cases hn:l.all cP with
      |false=>rw[hn]at hend;simp at hend
      |true=>
       rw[hn]at hend;simp only[cond_true,oi,pj]at hend;obtain⟨rfl,rfl⟩:=hend;have hpost:LeavesInM Fence.wide 0 P fn a'.tmps (fun e w'=>∃c,e=.returned c/\∃G',VG G' (ip l) c/\aQ ⟨G,fun _=>none⟩ (fV h) w ⟨G',fun _=>none⟩ (fV s'.h) w'/\dI (h.next<=·) G G') a'.defers .returning w':=by
        rw[q4];refine mq (fun w''=>aQ ⟨G,fun _=>none⟩ { env:=dN args 0 .leaf,kn:=0,K:=.leaf,h:=h } w J' s' w'') (fun w'' hG=>?_) Ds w' q6 (fun D hD=>(q7 D hD).2.1) q1 (fun w'' D hG hD=>hG.putD (q7 D hD).1 (q7 D hD).2.2.1 (q7 D hD).2.2.2 _);obtain⟨cv,r1,r2⟩:=rN hG.hr q2 hl hn;exact⟨cv,r1,cv,rfl,J'.g,r2,hG.bare,q5⟩
       rcases hx with rfl|rfl<;>exact hpost
     ·cases hend
    split at hc
    ·rename_i s' hrun;exact key _ s' hrun hc (.inl rfl)
    ·rename_i s' hrun;exact key _ s' hrun hc (.inr rfl)
    ·cases hc
   ·cases hc
  ·cases hc
theorem u7{g:Nat->Option cN}:∀(ps:List Tmp) (vs cs:List Value) (env:cg Value) (tmps:Array Value),TR g env tmps->dK g vs cs->(∀t∈ps,t<tmps.size)->
  TR g (oq env ps vs) ((ps.zip cs).foldl (fun tmps (t,a)=>tmps.setIfInBounds t a) tmps)/\((ps.zip cs).foldl (fun tmps (t,a)=>tmps.setIfInBounds t a) tmps).size=tmps.size
 | [],vs,cs,env,tmps,h,_,_=>by simp[oq,h]
 |p :: ps,[],cs,env,tmps,h,hv,_=>by
  obtain rfl:=hv.nil_right;simp[oq,h]
 |p :: ps,v :: vs,cs,env,tmps,h,hv,hp=>by
  obtain⟨c,cs',rfl,h1,h2⟩:=hv.head;have hp0:=hp p (by simp);have step:TR g (env.set p v) (tmps.setIfInBounds p c):=by
   intro t u hu;rw[cg.get_set]at hu;by_cases e:p=t
   ·subst e
    simp only[if_true,oi]at hu;subst hu;refine⟨by simpa using hp0,?_⟩;simp[Array.getD,hp0];exact h1
   ·simp only[e,if_false]at hu
    obtain⟨q1,q2⟩:=h t u hu;refine⟨by simpa using q1,?_⟩;simp only[Array.getD,Array.size_setIfInBounds,q1,dif_pos]at q2 ⊢;simp only[Array.getInternal_eq_getElem]at q2 ⊢;rw[Array.getElem_setIfInBounds];simp only[e,if_false];exact q2
  obtain⟨r1,r2⟩:=u7 ps vs cs' (env.set p v) (tmps.setIfInBounds p c) step h2 (fun t ht=>by simpa using hp t (by simp[ht]));simp only[oq,List.zip_cons_cons,List.foldl_cons];exact⟨r1,by rw[r2];simp⟩
theorem TR.er{G:Nat->Option cN}{env:cg Value}{tmps:Array Value}{h:af}(ht:TR G env tmps)(ds:List Deferred):ER ⟨G,fun _=>none⟩ { env:=env,kn:=0,K:=.leaf,h:=h } { tmps:=tmps,defers:=ds }:=
 fun t v hv=>⟨(ht t v hv).1,.glob _ _ (ht t v hv).2⟩
theorem xG{G:Nat->Option cN}{h h':af}{y:Nat}{L:cN}{jump:Option Code}{v:Value}(hR:HR ⟨G,fun _=>none⟩ (fV h) w)(hL:G y=some L)(hh:iN y h jump=some (v,h')) :
  ∃c w',(Instr.endRound L.b jump).run P w=.ok c w'/\VG G v c/\aQ ⟨G,fun _=>none⟩ (fV h) w ⟨G,fun _=>none⟩ (fV h') w':=by
 unfold iN at hh;split at hh
 ·rename_i st pend f nt env ps assign body hm
  simp only[oi,pj]at hh;obtain⟨rfl,rfl⟩:=hh;obtain⟨fn,tmps,params,D,ho,h1,h2,h3⟩:=hR.gcon _ _ _ hL hm;refine⟨_,_,run_endRound jump ho,.flat _ rfl,?_⟩;have:=hR.putB (b:=.loop (match jump with|none=>.ready|some _=>.done) jump f nt env ps assign body) hL hm rfl (o:=.loop { state:=if jump.isNone then .ready else .done,pending:=jump,fn:=fn,tmps:=tmps,params:=params,assign:=assign,body:=body,defers:=D }) (by simp)
   ⟨fn,tmps,params,D,by cases jump<;>rfl,h1,h2,h3⟩
  exact this
 ·cases hh
theorem Ez{run:FuncId->Nat->Code->St->Option (Exit×St)}(h1:tW P run){y:Nat}{args:List Value}{h h':af}{v:Value}(hh:nu run y args h=some (v,h')){G:Nat->Option cN}{cargs:List Value}{L:cN}(hR:HR ⟨G,fun _=>none⟩ (fV h) w)(hA:dK G args cargs)(hL:G y=some L) :
  Ji P L.b cargs.toArray w (fun c w'=>∃G',VG G' v c/\aQ ⟨G,fun _=>none⟩ (fV h) w ⟨G',fun _=>none⟩ (fV h') w'/\dI (h.next<=·) G G'):=by
 unfold nu at hh;split at hh
 ·rename_i pend f nt env ps assign body hm
  cases hb:(Nat.beq args.length ps.length && ps.all (fun t=>Nat.blt t nt) && aY assign && aY body)with
  |false=>rw[hb]at hh;simp at hh
  |true=>
  rw[hb]at hh;simp only[cond_true]at hh;simp only[Bool.and_eq_true,List.all_eq_true]at hb;obtain⟨⟨⟨b1,b2⟩,b3⟩,b4⟩:=hb;have hlen:=Nat.eq_of_beq_eq_true b1;obtain⟨fn,tmps,params,D,ho,c1,c2,c3⟩:=hR.gcon _ _ _ hL hm;have hsz:cargs.toArray.size=params.size:=by
   have:=hA.1;simp only[List.size_toArray,<-Array.length_toList,c1];omega
  have hst:=u7 ps args cargs env tmps c3 hA (fun t ht=>Nat.lt_of_lt_of_le (Nat.le_of_ble_eq_true (b2 t ht)) c2);have htm:(params.zip cargs.toArray).foldl (fun tmps (t,a)=>tmps.setIfInBounds t a) tmps=(ps.zip cargs).foldl (fun tmps (t,a)=>tmps.setIfInBounds t a) tmps:=by
   rw[<-Array.foldl_toList];simp[c1]
  split at hh
  ·rename_i s1 hr1
   split at hh
   ·rename_i pend1 f1 nt1 env1 ps1 assign1 body1 hm1
    refine⟨fn,_,assign,body,run_yield ho hsz,roundIn_of_wpIn trivial ?_⟩;rw[htm];have w1:=h1 f nt assign _ _ s1 hr1 (some L.b) (.inr b3) ⟨G,fun _=>none⟩ w { tmps:=(ps.zip cargs).foldl (fun tmps (t,a)=>tmps.setIfInBounds t a) tmps,defers:=[] } (hR.env _) (hst.1.er []) (by rw[hst.2];exact c2);refine wpIn_mono (F:=Fence.wide.inRound L.b) w1 ?_;rintro e a1 w1' ⟨rfl,J1,q1,q2,q3,q4,q5⟩;have hL1:J1.g y=some L:=q1.mono _ _ hL;obtain⟨fn1,tmps1,params1,D1,ho1,d1,d2,d3⟩:=q1.hr.gcon _ _ _ hL1 hm1;refine⟨_,run_beginRound ho1 rfl,?_⟩;have k2:=q1.hr.putB (b:=.loop .busy pend1 f1 nt1 env1 ps1 assign1 body1) hL1 hm1 rfl (o:=.loop { state:=.busy,pending:=pend1,fn:=fn1,tmps:=tmps1,params:=params1,assign:=assign1,body:=body1,defers:=D1 }) (by simp) ⟨fn1,tmps1,params1,D1,rfl,d1,d2,d3⟩;have tot1:=q1.trans k2;have fin:∀x s2 jump,run f nt body { s1 with h:=s1.h.putB y (.loop .busy pend1 f1 nt1 env1 ps1 assign1 body1) }=some (x,s2)->iN y s2.h jump=some (v,h')->
      (∀(R:Ending->World->Prop) (a2:Act) (w2:World),(∃v w',(Instr.endRound L.b jump).run P w2=.ok v w'/\R (.returned v) w')->roundPost P L.b R x a2 w2)->
      body.wpIn (Fence.wide.inRound L.b) 0 P (roundPost P L.b (fun e w'=>∃c,e=.returned c/\∃G',VG G' v c/\aQ ⟨G,fun _=>none⟩ (fV h) w ⟨G',fun _=>none⟩ (fV h') w'/\dI (h.next<=·) G G')) a1 (w1'.putObj L.b (.loop { state:=.busy,pending:=pend1,fn:=fn1,tmps:=tmps1,params:=params1,assign:=assign1,body:=body1,defers:=D1 })):=by
     intro x s2 jump hr2 hend hpost;have w2:=h1 f nt body _ x s2 hr2 (some L.b) (.inr b4) J1 _ a1 k2.hr q2 (by rw[q3];show nt<=((ps.zip cargs).foldl (fun tmps (t,a)=>tmps.setIfInBounds t a) tmps).size;rw[hst.2];exact c2);refine wpIn_mono (F:=Fence.wide.inRound L.b) w2 ?_;rintro e a2 w2' ⟨rfl,J2,r1,r2,r3,r4,r5⟩;have hL2:J2.g y=some L:=r1.mono _ _ hL1;have tot:=(tot1.trans r1).bare;obtain⟨cv,w3,e1,e2,e3⟩:=xG (P:=P) r1.hr.bare hL2 hend;refine hpost _ a2 w2' ⟨cv,w3,e1,cv,rfl,J2.g,e2,tot.trans e3,?_⟩;have hn1:h.next<=s1.h.next:=q1.next;exact q5.trans (r5.mono (fun k hk=>by simp only[af.putB]at hk;exact Nat.le_trans hn1 hk))
    split at hh
    ·rename_i s2 hr2;exact fin _ s2 none hr2 hh (fun R a w q=>q)
    ·rename_i s2 hr2;exact fin _ s2 (some .ret) hr2 hh (fun R a w q=>q)
    ·rename_i id s2 hr2;exact fin _ s2 (some (.exit id)) hr2 hh (fun R a w q=>q)
    ·cases hh
   ·cases hh
  ·cases hh
 ·cases hh
theorem pW{H : bg}{F : aM}(hm : P.follows .mixedOrders = true)(hF : cU P F)(hFk : aP F)(hname : ∀ (g : FuncId) (fn : Func), P.funcs[g]? = some fn → (fn.name == "runtime.NumGoroutine") = false) :
  ∀n,tW P (bR P H F n).run/\yp P (bR P H F n).loop/\fz P (bR P H F n).call
 |0=>⟨fun f nt c s x s' h=>(by cases h),fun f nt c kn s x s' h=>(by cases h),fun g args h v h' hc=>(by cases hc),fun g args h v h' hc=>(by cases hc)⟩
 |n+1=>by
  obtain⟨h1,h2,h3⟩:=pW hm hF hFk hname n;refine⟨Je hm hname h1 h2 h3 (fK hFk n).2.2,FS h1 h2,Gr hF hname h1,?_⟩;intro y args h v h' hc G w cargs L hR hA hL;have hc':mA P F (bR P H F n) (aN+y) args h=some (v,h'):=hc;unfold mA at hc';rw[show Nat.ble aN (aN+y)=true from aS (Nat.le_add_right _ _)]at hc';simp only[cond_true,Nat.add_sub_cancel_left]at hc';exact Ez h1 hc' hR hA hL
theorem A3:cU P pU:=fun g args h v h' hc=>(by cases hc)
theorem xC:aP pU:=fun g args h v h' hc=>(by cases hc)
