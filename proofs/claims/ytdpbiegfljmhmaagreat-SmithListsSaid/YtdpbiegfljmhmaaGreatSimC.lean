import Derived.Test.YtdpbiegfljmhmaaGreatSimB
import Derived.LoopNIn
import Derived.OrdersIn
import Derived.RangeFuncLeaves
import Derived.Laws.Sem
set_option linter.unusedSimpArgs false
set_option linter.unusedVariables false
namespace Go.cV
variable{P:Program}{w:World}{J:dM}{s:St}
def iC(h:af):St:={ env:=.leaf,kn:=0,K:=.leaf,h:=h }
def te(P:Program)(g:FuncId)(args:Array Value)(w:World)(R:Value->World->Prop):Prop:=
 ((callFunc g args).run P w=.ok (.enter g args) w/\Calls P g args w (fun e w'=>∃c,e=.returned c/\R c w'))\/∃c w',(callFunc g args).run P w=.ok (.value c) w'/\R c w'
theorem te.mono{g:FuncId}{args:Array Value}{R R':Value->World->Prop}(h:te P g args w R)(hr:∀c w',R c w'->R' c w'):te P g args w R':=by
 rcases h with ⟨h1,h2⟩|⟨c,w',h1,h2⟩
 ·exact .inl ⟨h1,h2.mono fun e w' ⟨c,h3,h4⟩=>⟨c,h3,hr _ _ h4⟩⟩
 ·exact .inr ⟨c,w',h1,hr _ _ h2⟩
theorem te.Sx{g : FuncId}{fn : Func}{args : Array Value}{R : Value → World → Prop}(h : te P g args w R)(hf : P.funcs[g]? = some fn)(hb : fn.body.isSome = true)(cG : (fn.name == "runtime.NumGoroutine") = false) :
  Calls P g args w (fun e w'=>∃c,e=.returned c/\R c w'):=by
 rcases h with ⟨_,h⟩|⟨c,w',h,_⟩
 ·exact h
 ·exfalso
  have vr:fn.body≠none:=by cases h:fn.body<;>simp_all
  have FY : fn.name ≠ "runtime.NumGoroutine" := by simpa using cG
  unfold callFunc at h;simp[hf,FY,vr]at h
def Wd(ro:Option Nat):Fence:={ Fence.wide with round:=ro }
def Q6(P:Program)(l:Nat)(args:Array Value)(w:World)(R:Value->World->Prop):Prop:=
 ∃fn tmps assign body,(Instr.yield l args).run P w=.ok (.round l fn tmps assign body) w/\RoundIn Fence.wide 0 P l fn tmps assign body w (fun e w'=>∃c,e=.returned c/\R c w')
def dC(P:Program)(call:cF):Prop:=∀g args h v h',call g args h=some (v,h')->g<aW->∀(G:Nat->Option Loc) (w:World) (aU:List Value),HR ⟨G,fun _=>none⟩ (iC h) w->fJ G args aU->
 te P g aU.toArray w (fun c w'=>∃G',VG G' v c/\Good ⟨G,fun _=>none⟩ (iC h) w ⟨G',fun _=>none⟩ (iC h') w'/\fG (h.next<=·) G G')
def Pg(P:Program)(call:cF):Prop:=∀y args h v h',call (aW+y) args h=some (v,h')->∀(G:Nat->Option Loc) (w:World) (aU:List Value) (L:Loc),HR ⟨G,fun _=>none⟩ (iC h) w->fJ G args aU->G y=some L->
 Q6 P L.b aU.toArray w (fun c w'=>∃G',VG G' v c/\Good ⟨G,fun _=>none⟩ (iC h) w ⟨G',fun _=>none⟩ (iC h') w'/\fG (h.next<=·) G G')
def gT(P:Program)(call:cF):Prop:=dC P call/\Pg P call
theorem HR.bare(h:HR J s w):HR ⟨J.g,fun _=>none⟩ (iC s.h) w:=
 { cU:=h.cU,dm:=h.dm,cK:=h.cK,dn:=h.dn,fe:=(fun t L h=>by cases h),dX:=(fun t L h=>by cases h),ff:=(fun t t' L L' h=>by cases h),sep:=(fun id t L L' _ h=>by cases h) }
theorem Good.call{G':Nat->Option Loc}{h':af}{w':World}(h:HR J s w)(k:Good ⟨J.g,fun _=>none⟩ (iC s.h) w ⟨G',fun _=>none⟩ (iC h') w'):Good J s w ⟨G',J.l⟩ { s with h:=h' } w':=by
 have hold:∀t L,J.l t=some L->w'.heap[L.b]?=w.heap[L.b]?:=fun t L hL=>
  k.frame L.b (h.K4 hL) (fun id L1 h1 e=>absurd e (h.sep _ _ _ _ h1 hL)) (fun t L h=>by cases h)
 refine { hr:=?_,mono:=k.mono,next:=k.next,low:=k.low,size:=k.size,os:=k.os,tape:=k.tape,output:=k.output,fresh:=k.fresh,cL:=fun t L hL=>.inr ⟨t,L,hL,rfl⟩,frame:=fun b hb hg _=>k.frame b hb hg (fun t L h=>by cases h) };refine { cU:=k.hr.cU,dm:=k.hr.dm,cK:=k.hr.cK,dn:=k.hr.dn,fe:=h.fe,dX:=?_,ff:=h.ff,sep:=?_ }
 ·intro t L hL
  obtain⟨cs,e,h1,h2⟩:=h.dX _ _ hL;exact⟨cs,e,by rw[hold _ _ hL];exact h1,fun c hc=>(h2 c hc).mono k.mono⟩
 ·intro id t L L' h1 h2 hb
  cases h0:J.g id with
  |some L0=>
   have:G' id=some L0:=k.mono id L0 h0;have th:G' id=some L:=h1;rw[th]at this;obtain rfl:=Option.some.inj this;exact h.sep _ _ _ _ h0 h2 hb
  |none=>
   rcases k.fresh id L h1 h0 with q|⟨Fm,L0,x,y,_⟩
   ·have:=h.K4 h2;omega
   ·exact h.sep _ _ _ _ x h2 (y.trans hb)
def BC(P:Program)(J:dM)(s:St)(w:World)(a:Act)(o:Oper)(v:Value)(s':St)(R Rl:Nat->Prop):Prop:=
 ∀(K:Act->World->Prop) (Q:Exit->Act->World->Prop),(∀c w' J',Good J s w J' s' w'->(∀t L,J.l t=some L->J'.l t=some L)->VR J' v c->s'.env=s.env->fG R J.g J'.g->fG Rl J.l J'.l->K (a.put o.dst c) w')->∀ro,o.wpIn (Wd ro) 0 P a w K Q
theorem Dy.Sy{a:Act}{o:Oper}{v:Value}{s':St}{R Rl:Nat->Prop}(XU:∀c,o.op≠.defer c)(h:Dy P J s w (execOp a.eval o) v s' R Rl):BC P J s w a o v s' R Rl:=by
 obtain⟨n,c,w',J',h1,h2,h3,h4,h5,h6,h7,h8⟩:=h;intro K Q hK ro;refine⟨fun _ _=>trivial,?_⟩;rw[Oper.semAt_eq _ _ _ XU,h1];rcases h2 with rfl|⟨rfl,rfl⟩
 ·exact hK c w' J' h3 h4 h5 h6 h7 h8
 ·exact hK undef w' J' h3 h4 h5 h6 h7 h8
theorem vt{mk:lK}{loc:Bool}{op:Op}{r:Value×St}(h:gE P mk loc op s=some r):∀c,op≠.defer c:=by
 intro c e;subst e;simp[gE]at h
theorem FZ{a:Act}{c:Call}{g:FuncId}{args:List Value}{o:Oper}(hc:o.op=.call c)(hE:pg J s a o.op.operands.toList)(h:kV s c=some (g,args)) :
  ∃aU:List Value,fJ J.g args aU/\((g<aW/\execOp a.eval o=callFunc g aU.toArray)\/∃y L,g=aW+y/\J.g y=some L/\execOp a.eval o=Instr.yield L.b aU.toArray):=by
 unfold kV at h;split at h
 ·rename_i x hx
  split at h
  ·rename_i f first captured l h1 h2
   cases ng:(l.all dA && Nat.blt f aW)with
   |false=>rw[ng]at h;simp at h
   |true=>
    rw[ng]at h;simp only[cond_true,oi,pj]at h;obtain⟨rfl,rfl⟩:=h;simp only[Bool.and_eq_true]at ng;obtain⟨hb,dW⟩:=ng;have zV:o.op.operands.toList=x :: c.args.toList:=by simp[hc,Op.operands,Call.operands,hx]
    rw[zV]at hE;obtain⟨x',y',hf,Q7,Sz⟩:=((hE x _ (by simp) h1).aZ (fun a=>by simp)).K0;have hl:=wz (jR c.args.toList (hE.sub (fun y hy=>List.mem_cons_of_mem _ hy)) _ h2) hb;refine⟨x'.toList++c.args.toList.map a.eval++y'.toList,(Q7.append hl).append Sz,.inl ⟨Nat.le_of_ble_eq_true dW,?_⟩⟩;have e1:execOp a.eval o=(do let d <-resolve a.eval c o.type;invoke d.target d.args):=by unfold execOp;rw[hc]
    rw[e1];simp only[resolve,hx,hf,Deferred.ofValue];show invoke (.fn (.func f) y') (x'++c.args.map a.eval)=_;have e2:invoke (.fn (.func f) y') (x'++c.args.map a.eval)=callFunc f (x'++c.args.map a.eval++y'):=rfl;rw[e2]
    congr 1
    apply Array.ext';simp
  ·rename_i y u1 u2 l h1 h2
   cases hb:l.all dA with
   |false=>rw[hb]at h;simp at h
   |true=>
    rw[hb]at h;simp only[cond_true,oi,pj]at h;obtain⟨rfl,rfl⟩:=h;have zV:o.op.operands.toList=x :: c.args.toList:=by simp[hc,Op.operands,Call.operands,hx]
    rw[zV]at hE;obtain⟨L,hL,hf,_,_⟩:=((hE x _ (by simp) h1).aZ (fun a=>by simp)).Sd;have hl:=wz (jR c.args.toList (hE.sub (fun y hy=>List.mem_cons_of_mem _ hy)) _ h2) hb;refine⟨c.args.toList.map a.eval,hl,.inr ⟨y,L,rfl,hL,?_⟩⟩;have e1:execOp a.eval o=(do let d <-resolve a.eval c o.type;invoke d.target d.args):=by unfold execOp;rw[hc]
    rw[e1];simp only[resolve,hx,hf,Deferred.ofValue];show invoke (.fn (.yield L.b) #[]) (#[]++c.args.map a.eval)=_;have e2:invoke (.fn (.yield L.b) #[]) (#[]++c.args.map a.eval)=Instr.yield L.b (#[]++c.args.map a.eval):=rfl;rw[e2]
    congr 1
    apply Array.ext';simp
  ·cases h
 ·cases h
theorem vu{call:cF}(fE:gT P call){a:Act}{c:Call}{o:Oper}{v:Value}{s':St}(hR:HR J s w)(hc:o.op=.call c)(hE:pg J s a o.op.operands.toList)(h:jM call c s=some (v,s')):BC P J s w a o v s' (s.h.next<=·) (fun _=>False):=by
 unfold jM at h;split at h
 ·rename_i g args hg
  split at h
  ·rename_i v' h' hr
   simp only[oi,pj]at h;obtain⟨rfl,rfl⟩:=h;obtain⟨aU,h1,h2⟩:=FZ hc hE hg;intro K Q hK ro;refine⟨fun _ _=>trivial,?_⟩;rw[Oper.semAt_eq _ _ _ (by rw[hc];intro c' e;cases e)];rcases h2 with ⟨dW,h2⟩|⟨y,L,rfl,hL,h2⟩
   ·have hd:=fE.1 g args s.h v' h' hr dW J.g w aU hR.bare h1
    rw[h2];rcases hd with ⟨e1,e2⟩|⟨c,w',e1,G',e2,e3,e4⟩
    ·rw[e1]
     simp only[Oper.uponIn_enter];refine⟨(fun q=>by simp[Wd,Fence.wide]at q),CallsIn.mono (F:=Wd ro) (n:=0-1) (R:=fun e w'=>∃c,e=.returned c/\∃G',VG G' v' c/\Good ⟨J.g,fun _=>none⟩ (iC s.h) w ⟨G',fun _=>none⟩ (iC h') w'/\fG (s.h.next<=·) J.g G') ?_ ?_⟩
     ·show CallsIn Fence.wide 0 P g aU.toArray w _
      exact callsIn_wide.2 e2
     ·rintro e w' ⟨c,rfl,G',hv,hG,hA⟩
      exact hK c w' ⟨G',J.l⟩ (Good.call hR hG) (fun _ _ h=>h) (.c7 _ _ hv) rfl hA (.refl _ _)
    ·rw[e1]
     simp only[Oper.uponIn_value];exact hK c w' ⟨G',J.l⟩ (Good.call hR e3) (fun _ _ h=>h) (.c7 _ _ e2) rfl e4 (.refl _ _)
   ·obtain⟨fn,tmps,assign,body,e1,e2⟩:=fE.2 y args s.h v' h' hr J.g w aU L hR.bare h1 hL
    rw[h2,e1];simp only[Oper.uponIn_round];refine⟨(fun q=>by simp[Wd,Fence.wide]at q),RoundIn.mono (F:=Wd ro) (n:=0-1) (R:=fun e w'=>∃c,e=.returned c/\∃G',VG G' v' c/\Good ⟨J.g,fun _=>none⟩ (iC s.h) w ⟨G',fun _=>none⟩ (iC h') w'/\fG (s.h.next<=·) J.g G') ?_ ?_⟩
    ·show RoundIn Fence.wide 0 P L.b fn tmps assign body w _
     exact e2
    ·rintro e w' ⟨c,rfl,G',hv,hG,hA⟩
     exact hK c w' ⟨G',J.l⟩ (Good.call hR hG) (fun _ _ h=>h) (.c7 _ _ hv) rfl hA (.refl _ _)
  ·cases h
 ·cases h
theorem pP{op:Op}{c:Call}(h:dU op=some c):op=.call c:=by
 unfold dU at h;split at h
 ·split at h
  ·simp only[oi]at h;rw[h]
  ·cases h
 ·cases h
theorem SA{loc:Bool}{es:Nat}{cells:List Value}{r:Value×St}(h:s.new loc es cells=some r):cells.all aF=true:=by
 unfold St.new at h;cases hc:cells.all aF with
 |true=>rfl
 |false=>rw[hc]at h;simp at h
theorem Ls{id tag:Nat}{loc:Bool}{es:Nat}{cells:List Value}{r:Value×St}(h:s.newAt id tag loc es cells=some r):cells.all aF=true:=by
 unfold St.newAt at h;cases hc:cells.all aF with
 |true=>rfl
 |false=>rw[hc]at h;simp at h
theorem AI{H:Hint}{call:cF}(fE:gT P call){f:FuncId}{a:Act}{o:Oper}{v:Value}{s':St}(hR:HR J s w)(hE:pg J s a o.op.operands.toList)(h:sf P H call f o s=some (v,s')):BC P J s w a o v s' (s.h.next<=·) (fun _=>True):=by
 unfold sf at h;split at h
 ·rename_i c hc
  intro K Q hK ro;exact vu fE hR (pP hc) hE h K Q (fun c w' J' a1 a2 a3 a4 a5 a6=>hK c w' J' a1 a2 a3 a4 a5 (a6.mono (fun _ _=>trivial))) ro
 ·intro K Q hK ro
  refine(HF hR hR.Vb hE SA h).Sy (vt h) K Q (ro:=ro) (fun c w' J' a1 a2 a3 a4 a5 a6=>hK c w' J' a1 a2 a3 a4 (a5.mono ?_) (a6.mono (fun _ _=>trivial)));rintro k (⟨_,es,cells,s9,h9⟩|⟨_,h9⟩)
  ·unfold St.new at h9
   simp only[Bool.cond_eq_ite]at h9;split at h9
   ·simp at h9;rw[h9.1];exact Nat.le_refl _
   ·cases h9
  ·exact h9
theorem Good.env {J' : dM} {s' : St} {w' : World} (h : Good J s w J' s' w') (e : cW Value) : Good J s w J' { s' with env := e } w' :=
  { hr := { cU := h.hr.cU, dm := h.hr.dm, cK := h.hr.cK, dn := h.hr.dn, fe := h.hr.fe, dX := h.hr.dX, ff := h.hr.ff, sep := h.hr.sep }
    mono := h.mono, next := h.next, low := h.low, size := h.size, os := h.os, tape := h.tape, output := h.output, fresh := h.fresh, cL := h.cL, frame := h.frame }
theorem HR.env(h:HR J s w)(e:cW Value):HR J { s with env:=e } w:=
 { cU:=h.cU,dm:=h.dm,cK:=h.cK,dn:=h.dn,fe:=h.fe,dX:=h.dX,ff:=h.ff,sep:=h.sep }
theorem eQ(a:Act)(dst:Option Tmp)(v:Value):(a.put dst v).tmps.size=a.tmps.size:=by
 cases dst<;>simp[Act.put]
theorem put_defers(a:Act)(dst:Option Tmp)(v:Value):(a.put dst v).defers=a.defers:=by
 cases dst<;>simp[Act.put]
theorem ni{nt:Nat}{dst:Option Tmp}{v:Value}{s':St}(h:se nt s dst v=some s'):(dst=none/\s'=s)\/∃d,dst=some d/\d<nt/\s' = { s with env:=s.env.set d v }:=by
 unfold se at h;split at h
 ·simp only[oi]at h;exact .inl ⟨rfl,h.symm⟩
 ·rename_i d
  cases hb:Nat.blt d nt with
  |false=>rw[hb]at h;simp at h
  |true=>rw[hb]at h;simp only[cond_true,oi]at h;exact .inr ⟨d,rfl,Nat.le_of_ble_eq_true hb,h.symm⟩
theorem wA{nt:Nat}{dst:Option Tmp}{v c:Value}{s':St}{a:Act}(h:se nt s dst v=some s')(hE:ER J s a)(hn:nt<=a.tmps.size)(hv:VR J v c):ER J s' (a.put dst c):=by
 rcases ni h with ⟨rfl,rfl⟩|⟨d,rfl,hd,rfl⟩
 ·exact hE
 ·intro t u hu
  simp only[cW.bO]at hu;rw[eQ];by_cases e:d=t
  ·subst e
   simp only[if_true,oi]at hu;subst hu;have dW:d<a.tmps.size:=Nat.lt_of_lt_of_le hd hn;refine⟨dW,?_⟩;have:(a.put (some d) c).tmps.getD d undef=c:=by simp[Act.put,dW]
   rw[this];exact hv
  ·simp only[e,if_false]at hu
   obtain⟨h1,h2⟩:=hE t u hu;refine⟨h1,?_⟩;have:(a.put (some d) c).tmps.getD t undef=a.tmps.getD t undef:=by simp[Act.put,Array.getElem?_setIfInBounds_ne e]
   rw[this];exact h2
theorem cM{nt:Nat}{dst:Option Tmp}{v:Value}{s':St}(h:se nt s dst v=some s'):s' = { s with env:=s'.env }:=by
 rcases ni h with ⟨_,rfl⟩|⟨d,_,_,rfl⟩<;>rfl
def SB(J:dM)(s:St)(a:Act)(ops:Array Oper)(o:Oper):Prop:=
 ∀j want d v,o.guard=some (j,want)->(ops[j]?).bind (·.dst)=some d->s.env.get d=some v->d<a.tmps.size/\VR J v (a.tmps.getD d undef)
theorem jc{ops:Array Oper}{o:Oper}{b:Bool}{a:Act}(h:jr ops o s=some b)(hE:SB J s a ops o):Region.wanted o (yielded ops a.tmps)=b:=by
 unfold jr at h;unfold Region.wanted;split at h
 ·rename_i hg
  simp only[oi]at h;rw[hg];exact h
 ·rename_i j want hg
  rw[hg];simp only[];split at h
  ·rename_i d hd
   have key:∀v,s.env.get d=some v->∃c,a.tmps[d]?=some c/\VR J v c:=by
    intro v hv;obtain⟨h1,h2⟩:=hE j want d v hg hd hv;exact⟨a.tmps[d],by simp[h1],by simpa[h1]using h2⟩
   split at h
   ·rename_i b' hv
    simp only[oi]at h;subst h;obtain⟨c,h1,h2⟩:=key _ hv;obtain rfl:=(h2.aZ (fun a=>by simp)).bool;simp only[yielded,hd,Option.bind_some,h1];cases b'<;>cases want<;>rfl
   ·rename_i vs hv
    cases SC:vs.toList.isEmpty with
    |false=>rw[SC]at h;simp at h
    |true=>
    rw[SC]at h;simp only[cond_true,oi]at h;subst h;obtain rfl:vs=#[]:=by simpa using SC
    obtain⟨c,h1,h2⟩:=key _ hv;have:=(h2.aZ (fun a=>by simp)).Sf;subst this;simp only[yielded,hd,Option.bind_some,h1,undef];cases want<;>rfl
   ·cases h
  ·cases h
theorem ER.gu{a:Act}(h:ER J s a)(ops:Array Oper)(o:Oper):SB J s a ops o:=fun _ _ d v _ _ hv=>h d v hv
def F2(J:dM)(s:St)(w:World)(a:Act)(s':St)(a':Act)(w':World):Prop:=
 ∃J',Good J s w J' s' w'/\ER J' s' a'/\a'.tmps.size=a.tmps.size/\a'.defers=a.defers/\fG (s.h.next<=·) J.g J'.g
theorem qP{ro:Option Nat}{H:Hint}{call:cF}(fE:gT P call){f:FuncId}{nt:Nat}{ops:Array Oper}{Q:Exit->Act->World->Prop}:∀(l:List Oper) (k:Nat) (s:St) (J:dM) (w:World) (a:Act) (s':St),
  (∀j,l[j]?=ops[k+j]?)->lP P H call f nt ops l s=some s'->HR J s w->ER J s a->nt<=a.tmps.size->(∀a' w',F2 J s w a s' a' w'->Q .normal a' w')->wpOpsIn (Wd ro) 0 P ops Q (List.range' k l.length) a w
 | [],k,s,J,w,a,s',_,h,hR,hE,_,hQ=>by
  simp only[lP,oi]at h;subst h;exact hQ a w ⟨J,.refl hR,hE,rfl,rfl,.refl _ _⟩
 |o :: l,k,s,J,w,a,s',hl,h,hR,hE,hn,hQ=>by
  have ho:ops[k]?=some o:=by have:=hl 0;simpa using this.symm
  have K8:∀j,l[j]?=ops[k+1+j]?:=fun j=>by have:=hl (j+1);simpa[Nat.add_assoc,Nat.add_comm 1 j]using this
  simp only[List.length_cons,List.range'_succ];simp only[wpOpsIn,ho];simp only[lP]at h;split at h
  ·rename_i hw
   rw[jc hw (hE.gu ops o),if_pos rfl];split at h
   ·rename_i v s1 h1
    split at h
    ·rename_i s2 h2
     refine AI fE hR (hE.ev _) h1 _ Q ?_ ro;intro c w' J' hG Ph hv zW hA _;have Lt:ER J' s1 a:=by
      have:=hE.mono (J':=J') hG.mono Ph;intro t u hu;exact this t u (by rw[zW]at hu;exact hu)
     have SD:=wA h2 Lt hn hv;have Dz:Good J s w J' s2 w':=by rw[cM h2];exact hG.env _
     refine qP fE l (k+1) s2 J' w' (a.put o.dst c) s' K8 h Dz.hr SD (by rw[eQ];exact hn) ?_;rintro a' w2 ⟨J2,q1,q2,q3,q4,q5⟩;exact hQ a' w2 ⟨J2,Dz.trans q1,q2,by rw[q3,eQ],by rw[q4,put_defers],hA.trans (q5.mono (fun k hk=>Nat.le_trans Dz.next hk))⟩
    ·cases h
   ·cases h
  ·rename_i hw
   rw[jc hw (hE.gu ops o),if_neg (by simp)];split at h
   ·rename_i s1 h1
    have SD:=wA h1 hE hn (c:=undef) (.c7 _ _ (VG.of_flat rfl));have Dz:Good J s w J s1 w:=by rw[cM h1];exact(Good.refl hR).env _
    refine⟨fun _ _=>trivial,?_⟩;refine qP fE l (k+1) s1 J w (a.put o.dst undef) s' K8 h Dz.hr SD (by rw[eQ];exact hn) ?_;rintro a' w2 ⟨J2,q1,q2,q3,q4,q5⟩;exact hQ a' w2 ⟨J2,Dz.trans q1,q2,by rw[q3,eQ],by rw[q4,put_defers],q5.mono (fun k hk=>Nat.le_trans Dz.next hk)⟩
   ·cases h
  ·cases h
theorem DA{ro:Option Nat}{H:Hint}{call:cF}(fE:gT P call){f:FuncId}{nt:Nat}{ops:Array Oper}{id:Nat}{a:Act}{s':St}(h:lP P H call f nt ops ops.toList s=some s')(hR:HR J s w)(hE:ER J s a)(hn:nt<=a.tmps.size) :
  (Code.region id ops false).wpIn (Wd ro) 0 P (fun e a' w'=>e=.normal/\F2 J s w a s' a' w') a w:=by
 refine wpIn_region ?_;have:=qP (ro:=ro) (Q:=fun e a' w'=>e=.normal/\F2 J s w a s' a' w') fE ops.toList 0 s J w a s' (fun j=>by simp) h hR hE hn (fun a' w' q=>⟨rfl,q⟩);rw[List.range_eq_range'];simpa using this
end Go.cV
namespace Go.cV
structure bK(B:Nat)(h h':af):Prop where
 next:h.next<=h'.next
 low:h'.low<=h.low
 get:∀id,id<B->id<h'.low->h'.m.get id=h.m.get id
 gone:∀id,id<B->h.m.get id=none->h'.m.get id=none
theorem bK.refl(B:Nat)(h:af):bK B h h:=⟨Nat.le_refl _,Nat.le_refl _,fun _ _ _=>rfl,fun _ _ h=>h⟩
theorem bK.trans{B:Nat}{a b c:af}(h:bK B a b)(k:bK B b c):bK B a c:=
 ⟨Nat.le_trans h.next k.next,Nat.le_trans k.low h.low,fun id h1 h2=>(k.get id h1 h2).trans (h.get id h1 (Nat.lt_of_lt_of_le h2 k.low)),fun id h1 h2=>k.gone id h1 (h.gone id h1 h2)⟩
theorem bK.mono{B B':Nat}{h h':af}(k:bK B h h')(hb:B'<=B):bK B' h h':=
 ⟨k.next,k.low,fun id h1 h2=>k.get id om h2,fun id h1 h2=>k.gone id om h2⟩
theorem bK.push{B:Nat}{h:af}(hb:B<=h.next)(es:Nat)(cs:List Value):bK B h (h.push es cs):=
 ⟨by simp[af.push],Nat.le_refl _,fun id h1 _=>by simp only[af.push];rw[cW.aT _ _ om],fun id h1 h2=>by simp only[af.push];rw[cW.aT _ _ om];exact h2⟩
theorem bK.write{B:Nat}{h h':af}{b off:Nat}{vs:List Value}(hw:h.write b off vs=some h'):bK B h h':=by
 unfold af.write at hw;split at hw
 ·rename_i es cs hm
  split at hw
  ·rename_i lE _
   simp only[oi]at hw;subst hw;refine⟨Nat.le_refl _,Nat.min_le_left _ _,fun id _ h2=>?_,fun id _ h2=>?_⟩
   ·have:Nat.min h.low b<=b:=Nat.min_le_right _ _
    simp only[]at h2 ⊢;rw[cW.aT _ _ om]
   ·simp only[]
    by_cases e:b=id
    ·subst e;rw[hm]at h2;cases h2
    ·rw[cW.aT _ _ e];exact h2
  ·cases hw
 ·cases hw
theorem bK.kill{B:Nat}{h:af}{b:Nat}(hb:h.m.get b≠none):bK B h (h.kill b):=by
 refine⟨Nat.le_refl _,Nat.min_le_left _ _,fun id _ h2=>?_,fun id _ h2=>?_⟩
 ·have:Nat.min h.low b<=b:=Nat.min_le_right _ _
  simp only[af.kill]at h2 ⊢;rw[cW.aT _ _ om]
 ·simp only[af.kill]
  by_cases e:b=id
  ·subst e;exact absurd h2 hb
  ·rw[cW.aT _ _ e];exact h2
theorem bK.gW{B:Nat}{h:af}(hb:B<=h.next)(b:C7):bK B h (h.gW b):=
 ⟨by simp[af.gW],Nat.le_refl _,fun id h1 _=>by simp only[af.gW];rw[cW.aT _ _ om],fun id h1 h2=>by simp only[af.gW];rw[cW.aT _ _ om];exact h2⟩
theorem bK.jl{B:Nat}{h:af}{b:Nat}{x:C7}(hb:h.m.get b≠none\/B<=b):bK B h (h.jl b x):=by
 refine⟨Nat.le_refl _,Nat.min_le_left _ _,fun id _ h2=>?_,fun id h1 h2=>?_⟩
 ·have:Nat.min h.low b<=b:=Nat.min_le_right _ _
  simp only[af.jl]at h2 ⊢;rw[cW.aT _ _ om]
 ·simp only[af.jl]
  by_cases e:b=id
  ·subst e
   rcases hb with hb|hb
   ·exact absurd h2 hb
   ·omega
  ·rw[cW.aT _ _ e];exact h2
theorem tm{P:Program}{B:Nat}{h h':af}{t:TypeId}{x k v:Value}{ok:Bool}(hh:kT P h t x k ok=some (v,h')):bK B h h':=by
 unfold kT at hh;simp only[Bool.cond_eq_ite]at hh;repeat' split at hh
 all_goals first
  |(cases hh;done)
  |(simp only[oi,pj]at hh;obtain⟨_,rfl⟩:=hh;exact .refl _ _)
theorem nX{P:Program}{B:Nat}{h h':af}{t:TypeId}{x k u v:Value}(hh:kU P h t x k u=some (v,h')):bK B h h':=by
 unfold kU at hh;simp only[Bool.cond_eq_ite]at hh;split at hh
 ·rename_i id _
  split at hh
  ·rename_i es _ hm
   repeat' split at hh
   all_goals first
    |(cases hh;done)
    |(simp only[oi,pj]at hh;obtain⟨_,rfl⟩:=hh;exact .jl (.inl (by rw[hm];simp)))
  ·cases hh
 ·cases hh
theorem F4{B:Nat}{s s':St}{a:Addr}{vs:List Value}(h:s.write a vs=some s'):bK B s.h s'.h:=by
 unfold St.write at h;cases fF:vs.all aF with
 |false=>rw[fF]at h;simp at h
 |true=>
  rw[fF]at h;simp only[cond_true]at h;split at h
  ·split at h
   ·rename_i h' hw;simp only[oi]at h;subst h;exact .write hw
   ·cases h
  ·cases hb:Nat.blt a.block s.kn with
   |false=>rw[hb]at h;simp at h
   |true=>
    rw[hb]at h;simp only[cond_true]at h;split at h
    ·split at h
     ·simp only[oi]at h;subst h;exact .refl _ _
     ·cases h
    ·cases h
def F5(B:Nat)(s:St)(mk:lK):Prop:=∀loc es cells v s',mk loc es cells=some (v,s')->bK B s.h s'.h
theorem Lu{B:Nat}{s:St}(hb:B<=s.h.next):F5 B s s.new:=by
 intro loc es cells v s' h;unfold St.new at h;cases hc:cells.all aF with
 |false=>rw[hc]at h;simp at h
 |true=>
  rw[hc]at h;cases loc with
  |false=>simp only[cond_true,cond_false,oi,pj]at h;obtain⟨_,rfl⟩:=h;exact .push hb _ _
  |true=>simp only[cond_true,oi,pj]at h;obtain⟨_,rfl⟩:=h;exact .refl _ _
theorem F6{B:Nat}{s:St}{id tag:Nat}(hb:B<=id):F5 B s (s.newAt id tag):=by
 intro loc es cells v s' h;unfold St.newAt at h;cases hc:cells.all aF with
 |false=>rw[hc]at h;simp at h
 |true=>
  rw[hc]at h;cases loc with
  |false=>
   simp only[cond_true,cond_false,oi,pj]at h;obtain⟨_,rfl⟩:=h;exact⟨Nat.le_refl _,Nat.le_refl _,fun k h1 _=>by simp only[];rw[cW.aT _ _ om],fun k h1 h2=>by simp only[];rw[cW.aT _ _ om];exact h2⟩
  |true=>simp only[cond_true,oi,pj]at h;obtain⟨_,rfl⟩:=h;exact .refl _ _
theorem pQ{B:Nat}{h h':af}{a:Addr}{vs:List Value}(hw:h.iA a vs=some h'):bK B h h':=by
 unfold af.iA at hw;split at hw
 ·cases hc:vs.all aF with
  |false=>rw[hc]at hw;simp at hw
  |true=>rw[hc]at hw;simp only[cond_true]at hw;exact .write hw
 ·cases hw
theorem tn{P:Program}{B:Nat}{h h':af}{ts:List TypeId}{args:List Value}{v:Value}(hb:B<=h.next)(hh:cQ P h ts args=some (v,h')):bK B h h':=by
 unfold cQ at hh;simp only[Bool.cond_eq_ite]at hh;repeat' split at hh
 all_goals first
  |(cases hh;done)
  |(simp only[oi,pj]at hh;obtain⟨_,rfl⟩:=hh;exact .refl _ _)
  |(simp only[oi,pj]at hh;obtain⟨_,rfl⟩:=hh;exact .push hb _ _)
  |(simp only[oi,pj]at hh;obtain⟨_,rfl⟩:=hh;exact pQ (by assumption))
  |(simp only[oi,pj]at hh;obtain⟨_,rfl⟩:=hh;rename_i hl _ _;exact(bK.kill (by rw[hl];simp)).trans (.push (by exact hb) _ _))
theorem xP{P:Program}{B:Nat}{h h':af}{ts:List TypeId}{args:List Value}{v:Value}(hh:sU P h ts args=some (v,h')):bK B h h':=by
 unfold sU at hh;simp only[Bool.cond_eq_ite]at hh;repeat' split at hh
 all_goals first
  |(cases hh;done)
  |(simp only[oi,pj]at hh;obtain⟨_,rfl⟩:=hh;exact .refl _ _)
  |(simp only[oi,pj]at hh;obtain⟨_,rfl⟩:=hh;exact pQ (by assumption))
theorem vv{P:Program}{B:Nat}{h h':af}{ts:List TypeId}{args:List Value}{v:Value}(hh:r8 P h ts args=some (v,h')):bK B h h':=by
 unfold r8 at hh;simp only[Bool.cond_eq_ite]at hh;repeat' split at hh
 all_goals first
  |(cases hh;done)
  |(simp only[oi,pj]at hh;obtain⟨_,rfl⟩:=hh;exact .refl _ _)
  |(simp only[oi,pj]at hh;obtain⟨_,rfl⟩:=hh;exact pQ (by assumption))
theorem DB{P:Program}{B:Nat}{s s':St}{t:TypeId}{a:Addr}{v:Value}(h:mN P s t a v=some s'):bK B s.h s'.h:=by
 unfold mN at h;simp only[Bool.cond_eq_ite]at h;repeat' split at h
 all_goals first
  |(cases h;done)
  |exact F4 h
theorem DC{P:Program}{B:Nat}{mk:lK}{s s':St}{loc:Bool}{op:Op}{v:Value}(hb:B<=s.h.next)(hM:F5 B s mk)(h:gE P mk loc op s=some (v,s')):bK B s.h s'.h:=by
 unfold gE at h;split at h
 case h_7=>
  unfold fg at h
  (try simp only[Bool.cond_eq_ite]at h)
  repeat' split at h
  all_goals (try simp only[Bool.cond_eq_ite]at h)
  all_goals repeat' split at h
  all_goals first
   |(cases h;done)
   |(simp only[oi,pj]at h;obtain⟨_,rfl⟩:=h;exact hM _ _ _ _ _ (by assumption))
 case h_15=>
  unfold fP at h;repeat' split at h
  all_goals first
   |(cases h;done)
   |(simp only[oi,pj]at h;obtain⟨_,rfl⟩:=h;exact hM _ _ _ _ _ (by assumption))
 all_goals (try simp only[Bool.cond_eq_ite]at h)
 all_goals repeat' split at h
 all_goals first
  |(cases h;done)
  |(simp only[oi,pj]at h;obtain⟨_,rfl⟩:=h;exact .refl _ _)
  |exact hM _ _ _ _ _ h
  |(simp only[oi,pj]at h;obtain⟨_,rfl⟩:=h;exact DB (by assumption))
  |(obtain⟨h',h1,rfl⟩:=bj h;exact tn hb h1)
  |(obtain⟨h',h1,rfl⟩:=bj h;exact xP h1)
  |(obtain⟨h',h1,rfl⟩:=bj h;exact vv h1)
  |(obtain⟨h',h1,rfl⟩:=bj h;exact tm h1)
  |(obtain⟨h',h1,rfl⟩:=bj h;exact nX h1)
  |(obtain⟨h',h1,rfl⟩:=bj h;simp only[oi,pj]at h1;obtain⟨_,rfl⟩:=h1;exact .gW hb _)
def aX(call:cF):Prop:=∀g args h v h',call g args h=some (v,h')->bK h.next h h'
theorem pR{call:cF}(hc:aX call){B:Nat}{s s':St}{c:Call}{v:Value}(hb:B<=s.h.next)(h:jM call c s=some (v,s')):bK B s.h s'.h:=by
 unfold jM at h;split at h
 ·split at h
  ·rename_i hr
   simp only[oi,pj]at h;obtain⟨_,rfl⟩:=h;exact(hc _ _ _ _ _ hr).mono hb
  ·cases h
 ·cases h
theorem Jh{P:Program}{H:Hint}{call:cF}(hc:aX call){B:Nat}{f:FuncId}{o:Oper}{s s':St}{v:Value}(hb:B<=s.h.next)(h:sf P H call f o s=some (v,s')):bK B s.h s'.h:=by
 unfold sf at h;split at h
 ·exact pR hc hb h
 ·exact DC hb (Lu hb) h
theorem uF{P:Program}{H:Hint}{call:cF}(hc:aX call){B id tag:Nat}{f:FuncId}{o:Oper}{s s':St}{v:Value}(hb:B<=s.h.next)(mq:B<=id)(h:jI P H call f id tag o s=some (v,s')):bK B s.h s'.h:=by
 unfold jI at h;split at h
 ·exact pR hc hb h
 ·exact DC hb (F6 mq) h
theorem jd{nt:Nat}{dst:Option Tmp}{s s':St}{v:Value}(h:se nt s dst v=some s'):s'.h=s.h:=by
 rw[cM h]
theorem uG{P:Program}{H:Hint}{call:cF}(hc:aX call){f:FuncId}{nt:Nat}{ops:Array Oper}{B:Nat}:∀(l:List Oper) (s s':St),B<=s.h.next->lP P H call f nt ops l s=some s'->bK B s.h s'.h
 | [],s,s',_,h=>by simp only[lP,oi]at h;subst h;exact .refl _ _
 |o :: l,s,s',hb,h=>by
  simp only[lP]at h;split at h
  ·split at h
   ·rename_i v s1 h1
    split at h
    ·rename_i s2 h2
     have k1:=Jh hc hb h1;have k2:=uG hc l s2 s' (by rw[jd h2];exact Nat.le_trans hb k1.next) h;rw[jd h2]at k2;exact k1.trans k2
    ·cases h
   ·cases h
  ·split at h
   ·rename_i s2 h2
    have k2:=uG hc l s2 s' (by rw[jd h2];exact hb) h;rw[jd h2]at k2;exact k2
   ·cases h
  ·cases h
theorem jv{B:Nat}{s s1:St}(k:bK B s.fresh.h s1.h):bK B s.h (s1.aB s.h.low).h:=
 ⟨k.next,Nat.min_le_left _ _,fun id h1 h2=>k.get id h1 (Nat.lt_of_lt_of_le h2 (Nat.min_le_right _ _)),fun id h1 h2=>k.gone id h1 h2⟩
theorem uH{P:Program}{H:Hint}{call:cF}(hc:aX call){f:FuncId}{nt:Nat}{ops:Array Oper}{base aP:Nat}:∀(l:List Nat) (i:Nat) (s s':St) (iB:List (Nat×FP×Bool)),base<=s.h.next->rF P H call f nt ops base aP l i s=some (s',iB)->bK base s.h s'.h
 | [],i,s,s',iB,_,h=>by simp only[rF,oi,pj]at h;obtain⟨rfl,_⟩:=h;exact .refl _ _
 |p :: l,i,s,s',iB,hb,h=>by
  simp only[rF]at h;split at h
  ·cases h
  ·split at h
   ·split at h
    ·rename_i v s1 h1
     split at h
     ·rename_i s2 h2
      split at h
      ·rename_i r v5 h3
       simp only[oi,pj]at h;obtain⟨rfl,_⟩:=h;have k1:=jv (uF hc (B:=base) (s:=s.fresh) hb om h1);have k2:=uH hc l (i+1) s2 r v5 (by rw[jd h2];exact Nat.le_trans hb k1.next) h3;rw[jd h2]at k2;exact k1.trans k2
      ·cases h
     ·cases h
    ·cases h
   ·split at h
    ·rename_i s2 h2
     split at h
     ·rename_i r v5 h3
      simp only[oi,pj]at h;obtain⟨rfl,_⟩:=h;have k2:=uH hc l (i+1) s2 r v5 (by rw[jd h2];exact hb) h3;rw[jd h2]at k2;exact k2
     ·cases h
    ·cases h
   ·cases h
theorem F7{P:Program}{H:Hint}{call:cF}(hc:aX call){f:FuncId}{nt:Nat}{ops:Array Oper}{s s':St}(h:rL P H call f nt ops s=some s'):bK s.h.next s.h s'.h:=by
 unfold rL at h;simp only[Bool.cond_eq_ite]at h;split at h
 ·split at h
  ·split at h
   ·rename_i h1 _
    simp only[oi]at h;subst h;have k:=uH hc (base:=s.h.next) _ _ _ _ _ (by simp[St.jt]) h1;exact⟨by have:=k.next;simp only[St.jt]at this;omega,k.low,k.get,k.gone⟩
   ·cases h
  ·cases h
 ·cases h
theorem Ji{H:Hint}{f:FuncId}{c:Code}{kn:Nat}{s s':St}(h:norm H f c kn s=some s'):s'.h=s.h:=by
 unfold norm at h;split at h
 ·simp only[oi]at h;rw[h]
 ·simp only[Bool.cond_eq_ite]at h
  split at h
  ·simp only[oi]at h;rw[<-h]
  ·cases h
theorem DD{s s':St}{j:Option Code}{x:Exit}(h:uz s j=some (x,s')):s'=s:=by
 unfold uz at h;split at h
 all_goals first
  |(cases h;done)
  |(simp only[oi,pj]at h;exact h.2.symm)
theorem DE{P:Program}{call:cF}(hc:aX call){f:FuncId}{nt:Nat}{x:Operand}{ps:Array Tmp}{assign body:Code}{s s':St}{e:Exit}(h:pD P call f nt x ps assign body s=some (e,s')):bK s.h.next s.h s'.h:=by
 unfold pD at h;simp only[Bool.cond_eq_ite]at h;split at h
 ·split at h
  ·split at h
   ·split at h
    ·rename_i h2 hr
     have k1:bK s.h.next s.h h2:=(bK.gW (Nat.le_refl _) _).trans ((hc _ _ _ _ _ hr).mono (by simp[af.gW]));split at h
     ·rw[DD h];exact k1.trans (.jl (.inr (Nat.le_refl _)))
     ·rw[DD h];exact k1.trans (.jl (.inr (Nat.le_refl _)))
     ·cases h
    ·cases h
   ·cases h
  ·cases h
 ·cases h
theorem mP{B y:Nat}{h h':af}{j:Option Code}{v:Value}(hh:kf y h j=some (v,h')):bK B h h':=by
 unfold kf at hh;split at hh
 ·rename_i hm
  simp only[oi,pj]at hh;obtain⟨_,rfl⟩:=hh;exact .jl (.inl (by rw[hm];simp))
 ·cases hh
theorem DF{run:FuncId->Nat->Code->St->Option (Exit×St)}(hr:∀f nt c s x s',run f nt c s=some (x,s')->bK s.h.next s.h s'.h){y:Nat}{args:List Value}{h h':af}{v:Value}(hh:pE run y args h=some (v,h')):bK h.next h h':=by
 unfold pE at hh;split at hh
 ·simp only[Bool.cond_eq_ite]at hh
  split at hh
  ·split at hh
   ·rename_i s1 h1
    have k1:=hr _ _ _ _ _ _ h1;simp only[]at k1;split at hh
    ·rename_i sW f1 OJ zR OL kW sX hm
     have k2:bK h.next h (s1.h.jl y (.loop .busy sW f1 OJ zR OL kW sX)):=k1.trans (.jl (.inl (by rw[hm];simp)));split at hh
     ·rename_i s2 h2
      exact k2.trans (((hr _ _ _ _ _ _ h2).mono k1.next).trans (mP hh))
     ·rename_i s2 h2
      exact k2.trans (((hr _ _ _ _ _ _ h2).mono k1.next).trans (mP hh))
     ·rename_i s2 h2
      exact k2.trans (((hr _ _ _ _ _ _ h2).mono k1.next).trans (mP hh))
     ·cases hh
    ·cases hh
   ·cases hh
  ·cases hh
 ·cases hh
theorem hO{P:Program}{H:Hint}{F:bg}(hF:aX F):∀n,(∀f nt c s x s',(cE P H F n).run f nt c s=some (x,s')->bK s.h.next s.h s'.h)/\(∀f nt c kn s x s',(cE P H F n).loop f nt c kn s=some (x,s')->bK s.h.next s.h s'.h)/\aX (cE P H F n).call
 |0=>⟨fun f nt c s x s' h=>by simp[cE]at h,fun f nt c kn s x s' h=>by simp[cE]at h,fun g args h v h' hh=>by simp[cE]at hh⟩
 |n+1=>by
  obtain⟨i1,i2,i3⟩:=hO (H:=H) hF n;refine⟨?_,?_,?_⟩
  ·intro f nt c s x s' h
   simp only[cE,nS]at h;split at h
   ·simp only[oi,pj]at h;obtain⟨_,rfl⟩:=h;exact .refl _ _
   ·simp only[oi,pj]at h;obtain⟨_,rfl⟩:=h;exact .refl _ _
   ·simp only[oi,pj]at h;obtain⟨_,rfl⟩:=h;exact .refl _ _
   ·split at h
    ·rename_i s1 h1
     have k1:=i1 _ _ _ _ _ _ h1;have k2:=i1 _ _ _ _ _ _ h;exact k1.trans (k2.mono k1.next)
    ·exact i1 _ _ _ _ _ _ h
   ·split at h
    ·exact i1 _ _ _ _ _ _ h
    ·cases h
   ·split at h
    ·rename_i pF s1 h1
     have k1:=i1 _ _ _ _ _ _ h1;simp only[Bool.cond_eq_ite]at h;split at h
     ·simp only[oi,pj]at h;obtain⟨_,rfl⟩:=h;exact k1
     ·simp only[oi,pj]at h;obtain⟨_,rfl⟩:=h;exact k1
    ·exact i1 _ _ _ _ _ _ h
   ·exact i2 _ _ _ _ _ _ _ h
   ·rename_i ops draw
    split at h
    ·rename_i s1 h1
     simp only[oi,pj]at h;obtain⟨_,rfl⟩:=h;cases draw with
     |true=>exact F7 i3 h1
     |false=>exact uG i3 _ _ _ (Nat.le_refl _) h1
    ·cases h
   ·exact DE i3 h
   ·cases h
  ·intro f nt c kn s x s' h
   simp only[cE,pG]at h;split at h
   ·cases h
   ·rename_i s1 h0
    have e0:=Ji h0;split at h
    ·rename_i s2 h1
     have k1:=i1 _ _ _ _ _ _ h1;have k2:=i2 _ _ _ _ _ _ _ h;rw[e0]at k1;exact k1.trans (k2.mono k1.next)
    ·have k1:=i1 _ _ _ _ _ _ h
     rw[e0]at k1;exact k1
  ·intro g args h v h' hh
   simp only[cE,oR]at hh;cases hy:Nat.ble aW g with
   |true=>rw[hy]at hh;exact DF i1 hh
   |false=>
   rw[hy]at hh;simp only[cond_false]at hh;split at hh
   ·rename_i r hr
    simp only[oi]at hh;subst hh;exact hF _ _ _ _ _ hr
   ·split at hh
    ·rename_i fn _
     split at hh
     ·have key:∀s,vV P fn s=some (v,h')->h'=s.h:=by
       intro s he;unfold vV at he;simp only[Bool.cond_eq_ite]at he;repeat' split at he
       all_goals first|(cases he;done)|(simp only[oi,pj]at he;exact he.2.symm)
      split at hh
      ·rename_i s1 h1
       have k1:=i1 _ _ _ _ _ _ h1;rw[key _ hh];exact k1
      ·rename_i s1 h1
       have k1:=i1 _ _ _ _ _ _ h1;rw[key _ hh];exact k1
      ·cases hh
     ·cases hh
    ·cases hh
end Go.cV
namespace Go.cV
theorem bV{s s2:St}(h:s2.env=s.env):bJ s2=bJ s:=by
 funext x;cases x<;>simp[bJ,h]
theorem im{s s2:St}(h:s2.env=s.env):gX s2=gX s:=by
 funext l
 induction l with
 |nil=>rfl
 |cons x l ih=>simp only[gX,bV h,ih]
theorem oT{s s2:St}(h:s2.env=s.env):gm s2=gm s:=by
 funext l
 induction l with
 |nil=>rfl
 |cons x l ih=>obtain⟨i,x⟩:=x;simp only[gm,bV h,ih]
theorem zX{s s2:St}(h:s2.env=s.env):jq s2=jq s:=by
 funext x;cases x<;>simp only[jq,bV h]
inductive BD where
 |idle
 |nY (b:Nat) (di:C7) (lw:Bool)
 |mQ (t:Nat) (cs:List Value)
def BD.apply:BD->St->St
 | .idle,s=>s
 | .nY b di lw,s=>{ s with h:={ next:=s.h.next,low:=bif lw then Nat.min s.h.low b else s.h.low,m:=s.h.m.set b di } }
 | .mQ t cs,s=>{ s with K:=s.K.set t cs }
def BD.fits:BD->FP->Bool->Prop
 | .idle,x,st=>(∀l b,x≠.new l b)/\st=false
 | .nY b di lw,x,st=>(x=.block false b/\st=true/\lw=true/\∃es cs,di=.live true es cs)\/(x=.new false b/\st=false/\lw=false/\∃es cs,di=.live true es cs)
 | .mQ t _,x,st=>(x=.block true t/\st=true)\/(x=.new true t/\st=false)
theorem qQ{s s':St}{id tag:Nat}{loc:Bool}{es:Nat}{cells:List Value}{v:Value}(h:s.newAt id tag loc es cells=some (v,s')) :
  (loc=false/\s'=(BD.nY id (.live true es cells) false).apply s/\v=.pointer (some ⟨id,0,none⟩)/\∀s2:St,s2.newAt id tag loc es cells=some (v,(BD.nY id (.live true es cells) false).apply s2)) \/
  (loc=true/\s'=(BD.mQ tag cells).apply s/\∀s2:St,s2.newAt id tag loc es cells=some (v,(BD.mQ tag cells).apply s2)):=by
 unfold St.newAt at h;cases hc:cells.all aF with
 |false=>rw[hc]at h;simp at h
 |true=>
  rw[hc]at h;cases loc with
  |false=>
   simp only[cond_true,cond_false,oi,pj]at h;obtain⟨rfl,rfl⟩:=h;exact .inl ⟨rfl,rfl,rfl,fun s2=>by unfold St.newAt;rw[hc];rfl⟩
  |true=>
   simp only[cond_true,oi,pj]at h;obtain⟨rfl,rfl⟩:=h;exact .inr ⟨rfl,rfl,fun s2=>by unfold St.newAt;rw[hc];rfl⟩
theorem DG{P:Program}{s s2:St}{t:TypeId}{a:Addr}(h:s2.cells? a=s.cells? a):sT P s2 t a=sT P s t a:=by
 unfold sT St.read;rw[h]
theorem Jj{s s':St}{a:Addr}{vs:List Value}(h:s.write a vs=some s') :
  (a.spot=none/\∃di es cs,di=.live true es cs/\s'=(BD.nY a.block di true).apply s/\(∃Ss KL,s.h.m.get a.block=some (.live true Ss KL))/\∀s2:St,s2.h.m.get a.block=s.h.m.get a.block->s2.write a vs=some ((BD.nY a.block di true).apply s2)) \/
  (a.spot.isSome=true/\∃cs,s'=(BD.mQ a.block cs).apply s/\∀s2:St,s2.kn=s.kn->s2.K.get a.block=s.K.get a.block->s2.write a vs=some ((BD.mQ a.block cs).apply s2)):=by
 unfold St.write at h;cases fF:vs.all aF with
 |false=>rw[fF]at h;simp at h
 |true=>
  rw[fF]at h;simp only[cond_true]at h;cases jH:a.spot with
  |none=>
   left;rw[jH]at h;simp only[]at h;split at h
   ·rename_i h' hw
    simp only[oi]at h;subst h;unfold af.write at hw;split at hw
    ·rename_i es cs hm
     split at hw
     ·rename_i lE C0
      simp only[oi]at hw;subst hw;refine⟨rfl,.live true es lE,es,lE,rfl,rfl,⟨es,cs,hm⟩,fun s2 h2=>?_⟩;unfold St.write af.write;rw[fF,jH];simp only[cond_true,h2,hm,C0];rfl
     ·cases hw
    ·cases hw
   ·cases h
  |some x=>
   right;rw[jH]at h;simp only[]at h;cases hb:Nat.blt a.block s.kn with
   |false=>rw[hb]at h;simp at h
   |true=>
    rw[hb]at h;simp only[cond_true]at h;split at h
    ·rename_i cs hK
     split at h
     ·rename_i lE C0
      simp only[oi]at h;subst h;refine⟨rfl,lE,rfl,fun s2 h1 h2=>?_⟩;unfold St.write;rw[fF,jH];simp only[cond_true,h1,hb,h2,hK,C0];simp only[BD.apply,h1]
     ·cases h
    ·cases h
theorem wB {P : Program} {s s' : St} {id tag : Nat} {loc : Bool} {op : Op} {v : Value} (hA : (dS op loc id tag s).fw = false) (h : gE P (s.newAt id tag) loc op s = some (v, s')) :
    ∃ E : BD, s' = E.apply s ∧ E.fits (dS op loc id tag s) (iN op) ∧
      ∀ s2 : St, s2.env = s.env → s2.kn = s.kn → (∀ b, dS op loc id tag s = .block false b → s2.h.m.get b = s.h.m.get b) → (∀ t, dS op loc id tag s = .block true t → s2.K.get t = s.K.get t) →
        gE P (s2.newAt id tag) loc op s2 = some (v, E.apply s2) := by
  by_cases hp : bM op = true
  · 
    have AJ : dS op loc id tag s = .none := by unfold dS; rw [hp]; rfl
    have key : s' = s ∧ ∀ s2 : St, s2.env = s.env → gE P (s2.newAt id tag) loc op s2 = some (v, s2) := by
      unfold gE at h
      split at h
      all_goals first | (exfalso; simp [bM] at hp; done) | skip
      all_goals repeat' split at h
      all_goals first
        | (cases h; done)
        | (simp only [oi, pj] at h
           obtain ⟨rfl, rfl⟩ := h
           exact ⟨rfl, fun s2 he => by simp_all [gE, bV he, im he, oT he, zX he]⟩)
        | (simp only [Bool.cond_eq_ite] at h
           split at h
           · rename_i h1 h2 Vo
             simp only [oi, pj] at h
             obtain ⟨rfl, rfl⟩ := h
             exact ⟨rfl, fun s2 he => by simp only [gE, im he, h1, h2, Vo, cond_true]⟩
           · cases h)
        | (exfalso; simp [bM] at hp; done)
    refine ⟨.idle, key.1, ⟨fun l b => by rw [AJ]; simp, ?_⟩, fun s2 he _ _ _ => key.2 s2 he⟩
    cases op <;> first | rfl | simp [bM] at hp
  · have sP : bM op = false := by simpa using hp
    unfold gE at h
    split at h
    all_goals first | (exfalso; simp [bM] at hp; done) | skip
    · 
      rename_i e
      split at h
      · rename_i z n hz hn
        have AJ : dS (.alloc e) loc id tag s = bif loc then .new true tag else .new false id := rfl
        rcases qQ h with ⟨rfl, h1, _, h2⟩ | ⟨rfl, h1, h2⟩
        · exact ⟨_, h1, .inr ⟨AJ, rfl, rfl, _, _, rfl⟩, fun s2 _ _ _ _ => by simp only [gE, hz, hn]; exact h2 s2⟩
        · exact ⟨_, h1, .inr ⟨AJ, rfl⟩, fun s2 _ _ _ _ => by simp only [gE, hz, hn]; exact h2 s2⟩
      · cases h
    · 
      rename_i e x
      split at h
      · rename_i u n hu hn
        have AJ : dS (.box e x) loc id tag s = bif loc then .new true tag else .new false id := rfl
        rcases qQ h with ⟨rfl, h1, _, h2⟩ | ⟨rfl, h1, h2⟩
        · exact ⟨_, h1, .inr ⟨AJ, rfl, rfl, _, _, rfl⟩, fun s2 he _ _ _ => by simp only [gE, bV he, hu, hn]; exact h2 s2⟩
        · exact ⟨_, h1, .inr ⟨AJ, rfl⟩, fun s2 he _ _ _ => by simp only [gE, bV he, hu, hn]; exact h2 s2⟩
      · cases h
    · 
      rename_i t len parts
      split at h
      · rename_i l hl
        have AJ : dS (.buildSlice t len parts) loc id tag s = .new false id := rfl
        have h9 := h
        unfold fg at h
        split at h
        · rename_i e hu
          split at h
          · rename_i n z hn hz
            cases hb : (Nat.ble (len * n) 16777216 && Nat.beq z.cells.toList.length n && Nat.ble len 16777216) with
            | false => rw [hb] at h; simp at h
            | true =>
              rw [hb] at h
              simp only [cond_true] at h
              split at h
              · rename_i cs wv
                split at h
                · rename_i a s1 pe
                  simp only [oi, pj] at h
                  obtain ⟨rfl, rfl⟩ := h
                  rcases qQ pe with ⟨_, h1, h3, h2⟩ | ⟨q, _⟩
                  · exact ⟨_, h1, .inr ⟨AJ, rfl, rfl, _, _, rfl⟩, fun s2 he _ _ _ => by simp only [gE, oT he, hl, fg, hu, hn, hz, hb, cond_true, wv, h2 s2]⟩
                  · cases q
                · cases h
              · cases h
          · cases h
        · cases h
      · cases h
    · 
      rename_i t x
      split at h
      · rename_i a hu
        split at h
        · rename_i u hv
          simp only [oi, pj] at h
          obtain ⟨rfl, rfl⟩ := h
          have AJ : dS (.load t x) loc id tag s = .block a.spot.isSome a.block := by simp only [dS, bM, cond_false, hu]
          refine ⟨.idle, rfl, ⟨fun l b => by rw [AJ]; simp, rfl⟩, fun s2 he hk hb ht => ?_⟩
          have xG : s2.cells? a = s.cells? a := by
            unfold St.cells?
            cases jH : a.spot with
            | none =>
              simp only [af.cells?]
              rw [hb a.block (by rw [AJ, jH]; rfl)]
            | some y =>
              simp only [hk]
              rw [ht a.block (by rw [AJ, jH]; rfl)]
          simp only [gE, bV he, hu, DG xG, hv]
          rfl
        · cases h
      · cases h
    · 
      rename_i t x y
      split at h
      · rename_i a u hx hy
        split at h
        · rename_i s1 fV
          simp only [oi, pj] at h
          obtain ⟨rfl, rfl⟩ := h
          have AJ : dS (.store t x y) loc id tag s = .block a.spot.isSome a.block := by simp only [dS, bM, cond_false, hx]
          unfold mN at fV
          split at fV
          · rename_i n hn
            cases XV : Nat.beq u.cells.toList.length n with
            | false => rw [XV] at fV; simp at fV
            | true =>
              rw [XV] at fV
              simp only [cond_true] at fV
              rcases Jj fV with ⟨jH, di, es, cs, Zl, h1, _, h2⟩ | ⟨jH, cs, h1, h2⟩
              · refine ⟨_, h1, .inl ⟨by rw [AJ, jH]; rfl, rfl, rfl, es, cs, Zl⟩, fun s2 he hk hb ht => ?_⟩
                have := h2 s2 (hb a.block (by rw [AJ, jH]; rfl))
                simp only [gE, bV he, hx, hy, mN, hn, XV, cond_true, this]
              · refine ⟨_, h1, .inl ⟨by rw [AJ, jH], rfl⟩, fun s2 he hk hb ht => ?_⟩
                have := h2 s2 hk (ht a.block (by rw [AJ, jH]))
                simp only [gE, bV he, hx, hy, mN, hn, XV, cond_true, this]
          · cases fV
        · cases h
      · cases h
    · 
      rename_i src dst x
      split at h
      · rename_i a n c hu
        split at h
        · rename_i u hv
          simp only [oi, pj] at h
          obtain ⟨rfl, rfl⟩ := h
          refine ⟨.idle, rfl, ⟨fun l b => ?_, rfl⟩, fun s2 he hk hb ht => ?_⟩
          · simp only [dS, bM, cond_false, hu]
            cases a with
            | none => simp
            | some a =>
              intro q
              simp only [Bool.cond_eq_ite] at q
              split at q <;> cases q
          · have hcm : oQ P s2.h src dst a n = oQ P s.h src dst a n := by
              cases a with
              | none => rfl
              | some a =>
                cases jH : a.spot with
                | some y => unfold oQ af.aN; simp only [jH]
                | none =>
                  have hg := hb a.block (by simp [dS, bM, hu, jH])
                  unfold oQ af.aN af.cells?
                  simp only [jH, hg]
            simp only [gE, bV he, hu, hcm, hv]
            rfl
        · cases h
      · rename_i u1 eO hu
        split at h
        · rename_i u hv
          simp only [oi, pj] at h
          obtain ⟨rfl, rfl⟩ := h
          refine ⟨.idle, rfl, ⟨fun l b => ?_, rfl⟩, fun s2 he hk hb ht => ?_⟩
          · simp only [dS, bM, cond_false, hu]
            split
            · rename_i a9 n9 c9 e9
              simp only [oi] at e9
              exact absurd e9 (eO _ _ _)
            · simp
          · simp only [gE, bV he, hu]
            cases u1 <;> first | exact absurd rfl (eO _ _ _) | (simp only [hv]; rfl)
        · cases h
      · cases h
    · 
      rename_i t l c
      split at h
      · rename_i u1 u2 Vd Lv
        have AJ : dS (.makeSlice t l c) loc id tag s = .new false id := rfl
        unfold fP at h
        split at h
        · rename_i e k1 l' k2 c' hu
          split at h
          · rename_i n z by_ hn hz rN
            split at h
            · rename_i rO
              split at h
              · rename_i a s1 pe
                simp only [oi, pj] at h
                obtain ⟨rfl, rfl⟩ := h
                rcases qQ pe with ⟨_, h1, h3, h2⟩ | ⟨q, _⟩
                · exact ⟨_, h1, .inr ⟨AJ, rfl, rfl, _, _, rfl⟩, fun s2 he _ _ _ => by simp only [gE, bV he, Vd, Lv, fP, hu, hn, hz, rN]; rw [if_pos rO]; simp only [h2 s2]⟩
                · cases q
              · cases h
            · cases h
          · cases h
        · cases h
      · cases h
    · 
      rename_i b args argTypes
      exfalso
      have : (dS (.call { callee := .builtin b, args, argTypes }) loc id tag s).fw = true := by
        cases b <;> first | (simp [bM] at sP; done) | rfl
      rw [this] at hA
      cases hA
    · exact absurd (show (true : Bool) = false from hA) (by decide)
    · exact absurd (show (true : Bool) = false from hA) (by decide)
    · exact absurd (show (true : Bool) = false from hA) (by decide)
    · exact absurd (show (true : Bool) = false from hA) (by decide)
    · cases h
end Go.cV
namespace Go.cV
theorem xQ(acc:Array Nat):∀(l:List Edge) (s0 p:Nat),(l.foldl (fun s e=>if Region.binds .any e then s ||| 2 ^ e.on ||| acc.getD e.on 0 else s) s0).testBit p=true->
  s0.testBit p=true\/∃e∈l,Region.binds .any e=true/\(p=e.on\/(acc.getD e.on 0).testBit p=true)
 | [],s0,p,h=>.inl h
 |e :: l,s0,p,h=>by
  simp only[List.foldl_cons]at h;rcases xQ acc l _ p h with h1|⟨e',h1,h2,h3⟩
  ·by_cases hb:Region.binds .any e=true
   ·rw[if_pos hb]at h1
    simp only[Nat.testBit_or,Bool.or_eq_true,Nat.testBit_two_pow,decide_eq_true_eq]at h1;rcases h1 with (h1|h1)|h1
    ·exact .inl h1
    ·exact .inr ⟨e,by simp,hb,.inl h1.symm⟩
    ·exact .inr ⟨e,by simp,hb,.inr h1⟩
   ·rw[if_neg hb]at h1;exact .inl h1
  ·exact .inr ⟨e',by simp[h1],h2,h3⟩
def xR(ops:Array Oper)(E:Nat->Prop):Prop:=∀q o,E q->ops[q]?=some o->∀e∈o.after.toList,Region.binds .any e=true->E e.on
theorem rQ{ops:Array Oper}{E:Nat->Prop}(hE:xR ops E){p q:Nat}(h:prec (Region.before ops) p q=true)(hq:E q):E p:=by
 have key:∀(l:List Oper) (k:Nat) (acc:Array Nat),acc.size=k->(∀j,l[j]?=ops[k+j]?)->(∀q p,(acc.getD q 0).testBit p=true->E q->E p)->
   ∀q p,((l.foldl (fun(acc:Array Nat) o=>acc.push (o.after.foldl (fun s e=>if Region.binds .any e then s ||| 2 ^ e.on ||| acc.getD e.on 0 else s) 0)) acc).getD q 0).testBit p=true->E q->E p:=by
  intro l
  induction l with
  |nil=>intro k acc _ _ h q p hq;exact h q p hq
  |cons o l ih=>
   intro k acc hk hl h;simp only[List.foldl_cons];have ho:ops[k]?=some o:=by have:=hl 0;simpa using this.symm
   refine ih (k+1) _ (by simp[hk]) (fun j=>by have:=hl (j+1);simpa[Nat.add_assoc,Nat.add_comm 1 j]using this) ?_;intro q p hb hq;rcases Nat.lt_trichotomy q acc.size with dW|heq|hgt
   ·have:(acc.push (o.after.foldl (fun s e=>if Region.binds .any e then s ||| 2 ^ e.on ||| acc.getD e.on 0 else s) 0)).getD q 0=acc.getD q 0:=by
     simp[Array.getD,Array.getElem_push,dW,Nat.lt_succ_of_lt dW]
    rw[this]at hb;exact h q p hb hq
   ·subst heq
    have:(acc.push (o.after.foldl (fun s e=>if Region.binds .any e then s ||| 2 ^ e.on ||| acc.getD e.on 0 else s) 0)).getD acc.size 0=o.after.foldl (fun s e=>if Region.binds .any e then s ||| 2 ^ e.on ||| acc.getD e.on 0 else s) 0:=by
     simp[Array.getD]
    rw[this,<-Array.foldl_toList]at hb;rcases xQ acc o.after.toList 0 p hb with h1|⟨e,h1,h2,h3⟩
    ·simp at h1
    ·have he:=hE acc.size o hq (by rw[hk];exact ho) e h1 h2
     rcases h3 with rfl|h3
     ·exact he
     ·exact h _ _ h3 he
   ·have:(acc.push (o.after.foldl (fun s e=>if Region.binds .any e then s ||| 2 ^ e.on ||| acc.getD e.on 0 else s) 0)).getD q 0=0:=by
     simp[Array.getD,show ¬q<acc.size+1 by omega]
    rw[this]at hb;simp at hb
 refine key ops.toList 0 #[] rfl (fun j=>by simp) (fun q p h=>by simp at h) q p ?_ hq;unfold prec Region.before at h;rw[<-Array.foldl_toList]at h;exact h
theorem sh{α:Type}{p:α->α->Bool}:∀(l:List α),AB p l=true->∀(i k:Nat) (x y:α),i<k->l[i]?=some x->l[k]?=some y->p x y=true
 | [],_,i,k,x,y,_,h1,_=>by simp at h1
 |z :: l,h,i,k,x,y,Hz,h1,h2=>by
  simp only[AB,Bool.and_eq_true,List.all_eq_true]at h;obtain⟨k',rfl⟩:∃k',k=k'+1:=⟨k-1,om⟩;simp only[List.getElem?_cons_succ]at h2;cases i with
  |zero=>simp at h1;subst h1;exact h.1 y (List.mem_of_getElem? h2)
  |succ i=>simp only[List.getElem?_cons_succ]at h1;exact sh l h.2 i k' x y om h1 h2
section
variable(P:Program)(H:Hint)(call:cF)(f:FuncId)(nt:Nat)(ops:Array Oper)(base aP:Nat)
def mD(i:Nat)(o:Oper)(s:St)(v:Value)(x:FP)(wr:Bool)(s':St):Prop:=
 (jr ops o s=some true/\∃s1,jI P H call f (base+i) (aP+i) o s.fresh=some (v,s1)/\se nt (s1.aB s.h.low) o.dst v=some s'/\x=dS o.op (fj H f o) (base+i) (aP+i) s/\wr=(iN o.op || Nat.blt s1.h.low s.h.next)) \/
 (jr ops o s=some false/\se nt s o.dst undef=some s'/\v=undef/\x=.none/\wr=false)
theorem xS:∀(l:List Nat) (i:Nat) (s r:St) (iB:List (Nat×FP×Bool)),rF P H call f nt ops base aP l i s=some (r,iB)->
  ∃(S:Nat->St) (V:Nat->Value) (X:Nat->FP) (W:Nat->Bool),S i=s/\S (i+l.length)=r/\iB.length=l.length /\
   ∀j p,l[j]?=some p->∃o,ops[p]?=some o/\iB[j]?=some (p,X (i+j),W (i+j))/\mD P H call f nt ops base aP (i+j) o (S (i+j)) (V (i+j)) (X (i+j)) (W (i+j)) (S (i+j+1))
 | [],i,s,r,iB,h=>by
  simp only[rF,oi,pj]at h;obtain⟨rfl,rfl⟩:=h;exact⟨fun _=>s,fun _=>undef,fun _=>.none,fun _=>false,rfl,rfl,rfl,fun j p h=>by simp at h⟩
 |p :: l,i,s,r,iB,h=>by
  simp only[rF]at h;have comb:∀(o:Oper) (v:Value) (x:FP) (wr:Bool) (s2:St) (v5:List (Nat×FP×Bool)),ops[p]?=some o->mD P H call f nt ops base aP i o s v x wr s2->rF P H call f nt ops base aP l (i+1) s2=some (r,v5)->iB=(p,x,wr) :: v5->
    ∃(S:Nat->St) (V:Nat->Value) (X:Nat->FP) (W:Nat->Bool),S i=s/\S (i+(p :: l).length)=r/\iB.length=(p :: l).length /\
     ∀j q,(p :: l)[j]?=some q->∃o,ops[q]?=some o/\iB[j]?=some (q,X (i+j),W (i+j))/\mD P H call f nt ops base aP (i+j) o (S (i+j)) (V (i+j)) (X (i+j)) (W (i+j)) (S (i+j+1)):=by
   intro o v x wr s2 v5 ho hs hr hf;subst hf;obtain⟨S,V,X,W,e1,e2,e3,e4⟩:=xS l (i+1) s2 r v5 hr;refine⟨fun k=>if k=i then s else S k,fun k=>if k=i then v else V k,fun k=>if k=i then x else X k,fun k=>if k=i then wr else W k,by simp,?_,by simp[e3],?_⟩
   ·have:¬i+(p :: l).length=i:=by simp
    simp only[this,if_false];rw[<-e2];congr 1;simp;omega
   ·intro j q hj
    cases j with
    |zero=>
     simp at hj;subst hj;refine⟨o,ho,by simp,?_⟩;simp only[Nat.add_zero,if_true,show ¬i+1=i by omega,if_false,e1];exact hs
    |succ j=>
     simp only[List.getElem?_cons_succ]at hj;obtain⟨o',f1,f2,f3⟩:=e4 j q hj;have e5:i+1+j=i+(j+1):=om
     rw[e5]at f2 f3;refine⟨o',f1,?_,?_⟩
     ·simp only[List.getElem?_cons_succ,show ¬i+(j+1)=i by omega,if_false];exact f2
     ·simp only[show ¬i+(j+1)=i by omega,show ¬i+(j+1)+1=i by omega,if_false];exact f3
  split at h
  ·cases h
  ·rename_i o ho
   split at h
   ·rename_i hw
    split at h
    ·rename_i v s1 h1
     split at h
     ·rename_i s2 h2
      split at h
      ·rename_i r' v5 h3
       simp only[oi,pj]at h;obtain⟨rfl,h4⟩:=h;exact comb o v _ _ s2 v5 ho (.inl ⟨hw,s1,h1,h2,rfl,rfl⟩) h3 h4.symm
      ·cases h
     ·cases h
    ·cases h
   ·rename_i hw
    split at h
    ·rename_i s2 h2
     split at h
     ·rename_i r' v5 h3
      simp only[oi,pj]at h;obtain⟨rfl,h4⟩:=h;exact comb o undef .none false s2 v5 ho (.inr ⟨hw,h2,rfl,rfl,rfl⟩) h3 h4.symm
     ·cases h
    ·cases h
   ·cases h
end
theorem tp{P:Program}{H:Hint}{call:cF}{f:FuncId}{id tag:Nat}{o:Oper}{s s':St}{v:Value}(hx:(dS o.op (fj H f o) id tag s).fw=true)(h:jI P H call f id tag o s=some (v,s')) :
  s' = { s with h:=s'.h }/\(∀s3:St,s3.env=s.env->s3.h=s.h->jI P H call f id tag o s3=some (v,{ s3 with h:=s'.h }))/\(aX call->∀B,B<=s.h.next->bK B s.h s'.h):=by
 unfold jI at h;split at h
 ·rename_i c hc
  have h0:=h;unfold jM at h;split at h
  ·rename_i g args hg
   split at h
   ·rename_i u h' hr
    simp only[oi,pj]at h;obtain⟨rfl,rfl⟩:=h;refine⟨rfl,fun s3 he hh=>?_,fun hk B hB=>pR hk hB h0⟩;have e1:kV s3 c=kV s c:=by unfold kV;rw[bV he,im he]
    unfold jI;rw[hc];simp only[jM,e1,hg,hh,hr]
   ·cases h
  ·cases h
 ·rename_i hc
  have Vp:∀op,gE P (s.newAt id tag) (fj H f o) op s=some (v,s')->(dS op (fj H f o) id tag s).fw=true->
    s' = { s with h:=s'.h }/\(∀s3:St,s3.env=s.env->s3.h=s.h->gE P (s3.newAt id tag) (fj H f o) op s3=some (v,{ s3 with h:=s'.h }))/\(∀B,B<=s.h.next->bK B s.h s'.h):=by
   intro op h hx;unfold gE at h;split at h
   all_goals first|(exfalso;simp[dS,bM,FP.fw]at hx;done)|skip
   ·exfalso;revert hx;unfold dS;cases fj H f o<;>simp[bM,FP.fw]
   ·exfalso;revert hx;unfold dS;cases fj H f o<;>simp[bM,FP.fw]
   ·rename_i t x
    split at h
    ·rename_i a hu;exfalso;simp[dS,bM,hu,FP.fw]at hx
    ·cases h
   ·rename_i t x y
    split at h
    ·rename_i a u hu _;exfalso;simp[dS,bM,hu,FP.fw]at hx
    ·cases h
   ·exfalso
    revert hx
    simp only[dS,bM,cond_false];split
    ·rename_i a9 n9 c9 e9
     cases a9.spot.isNone<;>simp[FP.fw]
    ·simp[FP.fw]
   ·rename_i b args argTypes
    split at h
    ·rename_i l hl
     split at h
     ·exfalso;simp[dS,bM,FP.fw]at hx
     ·exfalso;simp[dS,bM,FP.fw]at hx
     ·exfalso;simp[dS,bM,FP.fw]at hx
     ·exfalso;simp[dS,bM,FP.fw]at hx
     ·obtain⟨h',h1,rfl⟩:=bj h
      refine⟨rfl,fun s3 he hh=>?_,fun B hB=>tn hB h1⟩;simp only[gE,im he,hl,hh,h1,bT]
     ·obtain⟨h',h1,rfl⟩:=bj h
      refine⟨rfl,fun s3 he hh=>?_,fun B hB=>xP h1⟩;simp only[gE,im he,hl,hh,h1,bT]
     ·obtain⟨h',h1,rfl⟩:=bj h
      refine⟨rfl,fun s3 he hh=>?_,fun B hB=>vv h1⟩;simp only[gE,im he,hl,hh,h1,bT]
     ·cases h
    ·cases h
   ·obtain⟨h',h1,rfl⟩:=bj h
    simp only[oi,pj]at h1;obtain⟨rfl,rfl⟩:=h1;exact⟨rfl,fun s3 he hh=>by simp only[gE,hh,bT],fun B hB=>.gW hB _⟩
   ·split at h
    ·rename_i u1 u2 g1 g2
     obtain⟨h',h1,rfl⟩:=bj h;refine⟨rfl,fun s3 he hh=>?_,fun B hB=>tm h1⟩;simp only[gE,bV he,g1,g2,hh,h1,bT]
    ·cases h
   ·split at h
    ·rename_i u1 u2 u3 g1 g2 g3
     obtain⟨h',h1,rfl⟩:=bj h;refine⟨rfl,fun s3 he hh=>?_,fun B hB=>nX h1⟩;simp only[gE,bV he,g1,g2,g3,hh,h1,bT]
    ·cases h
   ·split at h
    ·rename_i u1 u2 u3 g1 g2 g3
     obtain⟨h',h1,rfl⟩:=bj h;refine⟨rfl,fun s3 he hh=>?_,fun B hB=>nX h1⟩;simp only[gE,bV he,g1,g2,g3,hh,h1,bT]
    ·cases h
   ·cases h
  obtain⟨e1,e2,e3⟩:=Vp o.op h hx;refine⟨e1,fun s3 he hh=>?_,fun _=>e3⟩;unfold jI;rw[hc];exact e2 s3 he hh
theorem zY{h:af}{b c es:Nat}{cs:List Value}(hb:b<h.next)(hc:b≠c):((h.kill c).push es cs).m.get b=h.m.get b:=by
 show((h.m.set c _).set h.next _).get b=_;rw[cW.aT _ _ om,cW.aT _ _ om]
theorem BE{P:Program}{h h':af}{ts:List TypeId}{x:Value}{r:List Value}{v:Value}(hh:cQ P h ts (x :: r)=some (v,h')){b:Nat}(hb:b<h.next)(eO:b≠Dd (some x)):h'.m.get b=h.m.get b:=by
 unfold cQ at hh;split at hh
 ·rename_i t xt base len c' y heq
  simp only[List.cons.injEq]at heq;obtain⟨rfl,rfl⟩:=heq;have ps:∀(es:Nat) (cs:List Value),(h.push es cs).m.get b=h.m.get b:=fun es cs=>by
   show(h.m.set h.next _).get b=_;rw[cW.aT _ _ om]
  cases base with
  |none=>
   simp only[Bool.cond_eq_ite]at hh;repeat' split at hh
   all_goals first
    |(cases hh;done)
    |(simp only[oi,pj]at hh;obtain⟨_,rfl⟩:=hh;rfl)
    |(simp only[oi,pj]at hh;obtain⟨_,rfl⟩:=hh;exact ps _ _)
  |some a=>
   have eO:b≠a.block:=eO;have wr:∀{h1:af} {o:Nat} {vs:List Value},h.write a.block o vs=some h1->h1.m.get b=h.m.get b:=by
    intro h1 o vs hw;unfold af.write at hw;repeat' split at hw
    all_goals first
     |(cases hw;done)
     |(simp only[oi]at hw;subst hw;show(h.m.set _ _).get b=_;rw[cW.aT _ _ (fun e=>eO e.symm)])
   have wg:∀{h1:af} {n:Nat} {vs:List Value},h.iA (gi a n) vs=some h1->h1.m.get b=h.m.get b:=by
    intro h1 n vs hw;unfold af.iA at hw;simp only[gi,Bool.cond_eq_ite]at hw;repeat' split at hw
    all_goals first
     |(cases hw;done)
     |exact wr hw
   simp only[Bool.cond_eq_ite]at hh;repeat' split at hh
   all_goals first
    |(cases hh;done)
    |(simp only[oi,pj]at hh;obtain⟨_,rfl⟩:=hh;rfl)
    |(simp only[oi,pj]at hh;obtain⟨_,rfl⟩:=hh;exact zY hb eO)
    |(simp only[oi,pj]at hh;obtain⟨_,rfl⟩:=hh;exact ps _ _)
    |(simp only[oi,pj]at hh;obtain⟨_,rfl⟩:=hh;exact wg (by assumption))
 ·cases hh
theorem Jk{P:Program}{H:Hint}{call:cF}{f:FuncId}{id tag:Nat}{o:Oper}{s s':St}{v:Value}{c:Nat}(hx:dS o.op (fj H f o) id tag s=.app c)(h:jI P H call f id tag o s=some (v,s')){b:Nat}(hb:b<s.h.next)(eO:b≠c):s'.h.m.get b=s.h.m.get b:=by
 have key:∀op,dS op (fj H f o) id tag s=.app c->∃args ts,op=.call { callee:=.builtin .append,args:=args,argTypes:=ts }/\Dd (De s args.toList)=c:=by
  intro op hx;unfold dS at hx;cases hp:bM op with
  |true=>rw[hp]at hx;cases hx
  |false=>
   rw[hp]at hx;simp only[cond_false]at hx;split at hx
   ·cases hl:fj H f o<;>rw[hl]at hx<;>cases hx
   ·cases hl:fj H f o<;>rw[hl]at hx<;>cases hx
   ·cases hx
   ·cases hx
   ·split at hx<;>cases hx
   ·split at hx<;>cases hx
   ·split at hx
    ·rename_i a _ _ _
     cases hn:a.spot.isNone<;>rw[hn]at hx<;>cases hx
    ·cases hx
   ·rename_i args ts
    exact⟨args,ts,rfl,by simpa using hx⟩
   ·cases hx
 obtain⟨args,ts,ho,rfl⟩:=key o.op hx;unfold jI at h;rw[ho]at h;have hc:dU (.call { callee:=.builtin .append,args:=args,argTypes:=ts })=none:=rfl;rw[hc]at h;have h:gE P (s.newAt id tag) (fj H f o) (.call { callee:=.builtin .append,args:=args,argTypes:=ts }) s=some (v,s'):=h;simp only[gE]at h;split at h
 ·rename_i l hl
  obtain⟨h',h1,rfl⟩:=bj h;cases ha:args.toList with
  |nil=>
   rw[ha]at hl;simp only[gX,oi]at hl;subst hl;unfold cQ at h1;split at h1
   ·rename_i heq;cases heq
   ·cases h1
  |cons x r=>
   rw[ha]at eO hl;have:∃u l',l=u :: l'/\bJ s x=some u:=by
    unfold gX at hl;split at hl
    ·rename_i u e1
     split at hl
     ·cases hl
      exact⟨u,_,rfl,e1⟩
     ·cases hl
    ·cases hl
   obtain⟨u,l',rfl,hu⟩:=this;refine BE h1 hb ?_;have e:De s (x :: r)=some u:=hu;rw[e]at eO;exact eO
 ·cases h
theorem AK{P:Program}{H:Hint}{call:cF}(fE:gT P call){f:FuncId}{J:dM}{s s':St}{w:World}{a:Act}{id tag:Nat}{o:Oper}{v:Value}(hR:HR J s w)(hM:AF J s w (s.newAt id tag))(hE:pg J s a o.op.operands.toList)(h:jI P H call f id tag o s=some (v,s')) :
  BC P J s w a o v s' (fun k=>(Da o.op (fj H f o)=true/\k=id)\/s.h.next<=k) (fun t=>Dc o.op (fj H f o)=true/\t=tag):=by
 unfold jI at h;split at h
 ·rename_i c hc
  intro K Q hK ro;exact vu fE hR (pP hc) hE h K Q (fun c w' J' a1 a2 a3 a4 a5 a6=>hK c w' J' a1 a2 a3 a4 (a5.mono (fun _=>.inr)) (a6.mono (fun _ q=>q.elim))) ro
 ·intro K Q hK ro
  refine(HF hR hM hE Ls h).Sy (vt h) K Q (ro:=ro) (fun c w' J' a1 a2 a3 a4 a5 a6=>hK c w' J' a1 a2 a3 a4 (a5.mono ?_) (a6.mono ?_))
  ·rintro k (⟨q,es,cells,s9,h9⟩|⟨_,h9⟩)
   ·left
    refine⟨q,?_⟩;unfold St.newAt at h9;simp only[Bool.cond_eq_ite]at h9;split at h9
    ·simp at h9;exact h9.1.symm
    ·cases h9
   ·exact .inr h9
  ·rintro t ⟨q,es,cells,s9,h9⟩
   refine⟨q,?_⟩;unfold St.newAt at h9;simp only[Bool.cond_eq_ite]at h9;split at h9
   ·simp at h9;exact h9.1.symm
   ·cases h9
end Go.cV
namespace Go.cV
structure Tr(P:Program)(H:Hint)(call:cF)(f:FuncId)(nt:Nat)(ops:Array Oper)(base aP:Nat)(l:List Nat)(S:Nat->St)(V:Nat->Value)(X:Nat->FP)(W:Nat->Bool):Prop where
 len:l.length=ops.size
 step:∀(i p:Nat),l[i]?=some p->∃o,ops[p]?=some o/\mD P H call f nt ops base aP i o (S i) (V i) (X i) (W i) (S (i+1))
 Pj:∀(i k p q:Nat),i<k->l[i]?=some p->l[k]?=some q->p≠q
 SE:∀(i k p q:Nat) (o o':Oper),i<k->l[i]?=some p->l[k]?=some q->ops[p]?=some o->ops[q]?=some o'->(shares ops o o'=true\/cD (base+ops.size) (X i) (W i) (X k) (W k)=true)->prec (Region.before ops) p q=true
 dD:base+ops.size<=(S 0).h.next
 kn:(S 0).kn=aP+ops.size
 dL:aX call
def xT(S:Nat->St)(X:Nat->FP)(W:Nat->Bool)(j id:Nat):Prop:=(X j=.block false id/\W j=true)\/X j=.new false id\/((X j).fw=true/\((W j=true/\(X j).KX id=true)\/(S j).h.next<=id))
def BF(X:Nat->FP)(W:Nat->Bool)(j t:Nat):Prop:=(X j=.block true t/\W j=true)\/X j=.new true t
section
variable{P:Program}{H:Hint}{call:cF}{f:FuncId}{nt:Nat}{ops:Array Oper}{base aP:Nat}{l:List Nat}{S:Nat->St}{V:Nat->Value}{X:Nat->FP}{W:Nat->Bool}
theorem nZ{o:Oper}{c:Call}{loc:Bool}{id tag:Nat}{s:St}(h:dU o.op=some c):dS o.op loc id tag s=.all:=by
 have hc:=pP h;unfold dU at h;rw[hc]at h ⊢;simp only[]at h;cases hx:c.callee with
 |value x=>cases c;simp only at hx;subst hx;rfl
 |invoke _ _=>rw[hx]at h;simp at h
 |builtin _=>rw[hx]at h;simp at h
theorem gJ{o:Op}{loc:Bool}{id tag:Nat}{s:St}:dS o loc id tag s.fresh=dS o loc id tag s:=by
 unfold dS;have e:∀l,De s.fresh l=De s l:=fun l=>by cases l<;>first|rfl|exact bV rfl
 simp only[bV (s:=s) (s2:=s.fresh) rfl,e]
structure Pk(i:Nat)(o:Oper)(s:St)(v:Value)(x:FP)(wr:Bool)(s':St):Prop where
 env:∀t,s'.env.get t=if o.dst=some t then some v else s.env.get t
 kn:s'.kn=s.kn
 next:s.h.next<=s'.h.next
 SF:x.fw=false->s'.h.next=s.h.next
 low:s'.h.low<=s.h.low
theorem mD.sum(hk:aX call){i:Nat}{o:Oper}{s s':St}{v:Value}{x:FP}{wr:Bool}(h:mD P H call f nt ops base aP i o s v x wr s'):Pk i o s v x wr s':=by
 have zW:∀(s0:St) (u:Value),se nt s0 o.dst u=some s'->∀t,s'.env.get t=if o.dst=some t then some u else s0.env.get t:=by
  intro s0 u hp t;rcases ni hp with ⟨h1,rfl⟩|⟨d,h1,_,rfl⟩
  ·simp[h1]
  ·simp only[h1,cW.bO,oi]
 rcases h with ⟨_,s1,h1,h2,rfl,rfl⟩|⟨_,h2,rfl,rfl,rfl⟩
 ·by_cases hA:(dS o.op (fj H f o) (base+i) (aP+i) s).fw=true
  ·obtain⟨e1,_,e3⟩:=tp (by rw[gJ];exact hA) h1
   have k:=jv (e3 hk 0 (Nat.zero_le _));refine⟨fun t=>?_,?_,?_,fun q=>absurd (hA.symm.trans q) (by decide),?_⟩
   ·rw[zW _ _ h2 t];rw[e1];rfl
   ·rw[cM h2,e1];rfl
   ·rw[cM h2];exact k.next
   ·rw[cM h2];exact k.low
  ·have hc:dU o.op=none:=by
    cases hc:dU o.op with
    |none=>rfl
    |some c=>exact absurd (by rw[nZ hc];rfl) hA
   unfold jI at h1;rw[hc]at h1;obtain⟨E,e1,e2,_⟩:=wB (by rw[gJ];simpa using hA) h1;have XW:s1.env=s.env/\s1.kn=s.kn/\s1.h.next=s.h.next:=by
    rw[e1];cases E<;>exact⟨rfl,rfl,rfl⟩
   refine⟨fun t=>?_,?_,?_,fun _=>?_,?_⟩
   ·rw[zW _ _ h2 t];simp only[St.aB,XW.1]
   ·rw[cM h2];exact XW.2.1
   ·rw[cM h2];simp only[St.aB,XW.2.2];exact Nat.le_refl _
   ·rw[cM h2];exact XW.2.2
   ·rw[cM h2];exact Nat.min_le_left _ _
 ·refine⟨fun t=>zW _ _ h2 t,?_,?_,fun _=>?_,?_⟩
  ·rw[cM h2]
  ·rw[cM h2];exact Nat.le_refl _
  ·rw[cM h2]
  ·rw[cM h2];exact Nat.le_refl _
theorem mD.Vq(hk:aX call){i:Nat}{o:Oper}(h:mD P H call f nt ops base aP i o (S i) (V i) (X i) (W i) (S (i+1))){id:Nat}(hm:¬xT S X W i id):(S (i+1)).h.m.get id=(S i).h.m.get id:=by
 rcases h with ⟨_,s1,h1,h2,hx,hw⟩|⟨_,h2,_,hx,hw⟩
 ·rw[cM h2]
  show s1.h.m.get id=_;by_cases hA:(X i).fw=true
  ·obtain⟨e1,_,e3⟩:=tp (by rw[gJ,<-hx];exact hA) h1
   have dW:id<(S i).h.next:=by
    rcases Nat.lt_or_ge id (S i).h.next with q|q
    ·exact q
    ·exact absurd (.inr (.inr ⟨hA,.inr q⟩)) hm
   cases hh:(X i).KX id with
   |false=>
    cases hX:X i with
    |app c=>
     rw[hX]at hh;exact Jk (by rw[gJ,<-hx];exact hX) h1 dW (fun e=>by rw[e]at hh;simp[FP.KX]at hh)
    |all=>rw[hX]at hh;cases hh
    |none=>rw[hX]at hh;cases hh
    |block _ _=>rw[hX]at hh;cases hh
    |new _ _=>rw[hX]at hh;cases hh
   |true=>
   have hwf:W i=false:=by
    cases hq:W i with
    |false=>rfl
    |true=>exact absurd (.inr (.inr ⟨hA,.inl ⟨hq,hh⟩⟩)) hm
   have ar:(S i).h.next<=s1.h.low:=by
    rw[hwf]at hw;have:=hw.symm;simp only[Bool.or_eq_false_iff]at this;rcases Nat.lt_or_ge s1.h.low (S i).h.next with q|q
    ·rw[eE q]at this;cases this.2
    ·exact q
   exact(e3 hk (S i).h.next (Nat.le_refl _)).get id dW om
  ·have hc:dU o.op=none:=by
    cases hc:dU o.op with
    |none=>rfl
    |some c=>exact absurd (by rw[hx,nZ hc];rfl) hA
   unfold jI at h1;rw[hc]at h1;obtain⟨E,e1,e2,_⟩:=wB (by rw[gJ,<-hx];simpa using hA) h1;rw[gJ,<-hx]at e2;rw[e1];cases E with
   |idle=>rfl
   |mQ t cs=>rfl
   |nY b di lw=>
    have eO:b≠id:=by
     intro e;subst e;rcases e2 with ⟨q1,q2,_⟩|⟨q1,_⟩
     ·exact hm (.inl ⟨q1,by rw[hw,q2];rfl⟩)
     ·exact hm (.inr (.inl q1))
    show((S i).fresh.h.m.set b di).get id=_;rw[cW.aT _ _ eO];rfl
 ·rw[cM h2]
theorem mD.Zm{i:Nat}{o:Oper}(h:mD P H call f nt ops base aP i o (S i) (V i) (X i) (W i) (S (i+1))){t:Nat}(hm:¬BF X W i t):(S (i+1)).K.get t=(S i).K.get t:=by
 rcases h with ⟨_,s1,h1,h2,hx,hw⟩|⟨_,h2,_,hx,hw⟩
 ·rw[cM h2]
  show s1.K.get t=_;by_cases hA:(X i).fw=true
  ·obtain⟨e1,_,_⟩:=tp (by rw[gJ,<-hx];exact hA) h1
   rw[e1];rfl
  ·have hc:dU o.op=none:=by
    cases hc:dU o.op with
    |none=>rfl
    |some c=>exact absurd (by rw[hx,nZ hc];rfl) hA
   unfold jI at h1;rw[hc]at h1;obtain⟨E,e1,e2,_⟩:=wB (by rw[gJ,<-hx];simpa using hA) h1;rw[gJ,<-hx]at e2;rw[e1];cases E with
   |idle=>rfl
   |nY b di lw=>rfl
   |mQ b cs=>
    have eO:b≠t:=by
     intro e;subst e;rcases e2 with ⟨q1,q2⟩|⟨q1,_⟩
     ·exact hm (.inl ⟨q1,by rw[hw,q2];rfl⟩)
     ·exact hm (.inr q1)
    show((S i).fresh.K.set b cs).get t=_;rw[cW.aT _ _ eO];rfl
 ·rw[cM h2]
variable(T:Tr P H call f nt ops base aP l S V X W)
include T
theorem Tr.at{i:Nat}(h:i<ops.size):∃p o,l[i]?=some p/\ops[p]?=some o/\mD P H call f nt ops base aP i o (S i) (V i) (X i) (W i) (S (i+1)):=by
 have hl:i<l.length:=by rw[T.len];exact h
 obtain⟨o,h1,h2⟩:=T.step i l[i] (by simp[hl]);exact⟨l[i],o,by simp[hl],h1,h2⟩
theorem Tr.SG:∀i,i<=ops.size->(S i).kn=aP+ops.size
 |0,_=>T.kn
 |i+1,h=>by
  obtain⟨p,o,_,_,hs⟩:=T.at (i:=i) om;rw[(hs.sum T.dL).kn,Tr.SG i om]
theorem Tr.xU:∀i,i<=ops.size->base+ops.size<=(S i).h.next
 |0,_=>T.dD
 |i+1,h=>by
  obtain⟨p,o,_,_,hs⟩:=T.at (i:=i) om;exact Nat.le_trans (Tr.xU i om) (hs.sum T.dL).next
theorem Tr.HG:∀d i,i+d<=ops.size->(S (i+d)).h.low<=(S i).h.low
 |0,i,_=>Nat.le_refl _
 |d+1,i,h=>by
  obtain⟨p,o,_,_,hs⟩:=T.at (i:=i+d) om;exact Nat.le_trans (hs.sum T.dL).low (Tr.HG d i om)
theorem Tr.wC{id:Nat}:∀d i,i+d<=ops.size->(∀j,i<=j->j<i+d->¬xT S X W j id)->(S (i+d)).h.m.get id=(S i).h.m.get id
 |0,i,_,_=>rfl
 |d+1,i,h,hm=>by
  obtain⟨p,o,_,_,hs⟩:=T.at (i:=i+d) om;have:=hs.Vq T.dL (hm (i+d) om om);rw[show i+(d+1)=i+d+1 by omega,this];exact Tr.wC d i om (fun j h1 h2=>hm j h1 om)
theorem Tr.BG{t:Nat}:∀d i,i+d<=ops.size->(∀j,i<=j->j<i+d->¬BF X W j t)->(S (i+d)).K.get t=(S i).K.get t
 |0,i,_,_=>rfl
 |d+1,i,h,hm=>by
  obtain⟨p,o,_,_,hs⟩:=T.at (i:=i+d) om;have:=hs.Zm (hm (i+d) om om);rw[show i+(d+1)=i+d+1 by omega,this];exact Tr.BG d i om (fun j h1 h2=>hm j h1 om)
theorem Tr.BH{t:Nat}:∀d i,i+d<=ops.size->(∀j p o,i<=j->j<i+d->l[j]?=some p->ops[p]?=some o->o.dst≠some t)->(S (i+d)).env.get t=(S i).env.get t
 |0,i,_,_=>rfl
 |d+1,i,h,hm=>by
  obtain⟨p,o,hp,ho,hs⟩:=T.at (i:=i+d) om;have:=(hs.sum T.dL).env t;rw[if_neg (hm (i+d) p o om om hp ho)]at this;rw[show i+(d+1)=i+d+1 by omega,this];exact Tr.BH d i om (fun j p o h1 h2=>hm j p o h1 om)
theorem Tr.BI:∀d i,i+d<=ops.size->(∀j,i<=j->j<i+d->(X j).fw=false)->(S (i+d)).h.next=(S i).h.next
 |0,i,_,_=>rfl
 |d+1,i,h,hm=>by
  obtain⟨p,o,hp,ho,hs⟩:=T.at (i:=i+d) om;have:=(hs.sum T.dL).SF (hm (i+d) om om);rw[show i+(d+1)=i+d+1 by omega,this];exact Tr.BI d i om (fun j h1 h2=>hm j h1 om)
end
structure Inv(ops:Array Oper)(base aP:Nat)(l:List Nat)(S:Nat->St)(X:Nat->FP)(W:Nat->Bool)(J0:dM)(s0:St)(w0:World)(a0:Act)(E:Nat->Prop)(a:Act)(w:World)(J:dM)(s2:St):Prop where
 kn:s2.kn=aP+ops.size
 next:∀k,k<=ops.size->(∀(j p:Nat),l[j]?=some p->(X j).fw=true->(E p↔j<k))->s2.h.next=(S k).h.next
 dD:base+ops.size<=s2.h.next
 g:∀id L k,k<=ops.size->J.g id=some L->(∀(j p:Nat),l[j]?=some p->xT S X W j id->(E p↔j<k))->s2.h.m.get id=(S k).h.m.get id
 lk:∀t L k,k<=ops.size->J.l t=some L->(∀(j p:Nat),l[j]?=some p->BF X W j t->(E p↔j<k))->s2.K.get t=(S k).K.get t
 low:(S ops.size).h.low<=s2.h.low
 ph:Good J0 s0 w0 J s2 w
 DH:fG (base<=·) J0.g J.g
 BJ:∀(j p:Nat),l[j]?=some p->(J.g (base+j)).isSome=true->E p
 DI:∀(j p:Nat),l[j]?=some p->(J.l (aP+j)).isSome=true->E p
 env:∀t v k,k<=ops.size->(∀(j p:Nat) (o:Oper),l[j]?=some p->ops[p]?=some o->o.dst=some t->(E p↔j<k))->(S k).env.get t=some v->t<a.tmps.size/\VR J v (a.tmps.getD t undef)
 size:a.tmps.size=a0.tmps.size
 defers:a.defers=a0.defers
theorem Good.Pm{J J':dM}{s t s':St}{w w':World}(h:Good J s w J' s' w')(hn:t.h.next=s.h.next)(hl:s'.h.low<=t.h.low):Good J t w J' s' w':=
 { hr:=h.hr,mono:=h.mono,next:=by rw[hn];exact h.next,low:=hl,size:=h.size,os:=h.os,tape:=h.tape,output:=h.output,fresh:=h.fresh,cL:=h.cL,frame:=h.frame }
theorem Good.lower {J J' : dM} {s s' : St} {w w' : World} (h : Good J s w J' s' w') {lo : Nat} (hl : lo ≤ s'.h.low) : Good J s w J' { s' with h := { s'.h with low := lo } } w' :=
  { hr := { cU := h.hr.cU, dm := h.hr.dm, cK := h.hr.cK, dn := h.hr.dn, fe := h.hr.fe, dX := h.hr.dX, ff := h.hr.ff, sep := h.hr.sep }
    mono := h.mono, next := h.next, low := Nat.le_trans hl h.low, size := h.size, os := h.os, tape := h.tape, output := h.output
    fresh := fun id L h1 h2 => (h.fresh id L h1 h2).imp (fun q => q) (fun ⟨a, b, c, d, e⟩ => ⟨a, b, c, d, Nat.le_trans hl e⟩)
    cL := h.cL, frame := fun b hb hg XX => h.frame b hb (fun id L h1 h2 => Nat.lt_of_lt_of_le (hg id L h1 h2) hl) XX }
end Go.cV
namespace Go.cV
theorem HR.swap {J : dM} {s s' : St} {w : World} (h : HR J s w) (hn : s.h.next ≤ s'.h.next) (hk : s.kn ≤ s'.kn) (hg : ∀ id L, J.g id = some L → s'.h.m.get id = s.h.m.get id) (hl : ∀ t L, J.l t = some L → s'.K.get t = s.K.get t) : HR J s' w :=
  { cU := fun id L hL => Nat.lt_of_lt_of_le (h.cU id L hL) hn
    dm := h.dm
    cK := fun id L b hL hm => h.cK id L b hL (by rw [← hg id L hL]; exact hm)
    dn := fun id pF L L' b b' h1 h2 h3 h4 => h.dn id pF L L' b b' h1 h2 (by rw [← hg id L h1]; exact h3) (by rw [← hg pF L' h2]; exact h4)
    fe := fun t L hL => Nat.lt_of_lt_of_le (h.fe t L hL) hk
    dX := fun t L hL => let ⟨cs, e, h1, h2⟩ := h.dX t L hL; ⟨cs, e, h1, fun cells hc => h2 cells (by rw [← hl t L hL]; exact hc)⟩
    ff := h.ff
    sep := h.sep }
theorem Good.swap {J0 J : dM} {s0 s s' : St} {w0 w : World} (h : Good J0 s0 w0 J s w) (hn : s.h.next ≤ s'.h.next) (hk : s.kn ≤ s'.kn) (hg : ∀ id L, J.g id = some L → s'.h.m.get id = s.h.m.get id) (hl : ∀ t L, J.l t = some L → s'.K.get t = s.K.get t) (ar : s'.h.low ≤ s.h.low) : Good J0 s0 w0 J s' w :=
  { hr := h.hr.swap hn hk hg hl, mono := h.mono, next := Nat.le_trans h.next hn, low := Nat.le_trans ar h.low, size := h.size, os := h.os, tape := h.tape, output := h.output
    fresh := fun id L h1 h2 => (h.fresh id L h1 h2).imp (fun q => q) (fun ⟨a, b, c, d, e⟩ => ⟨a, b, c, d, Nat.le_trans ar e⟩)
    cL := h.cL, frame := fun b hb hg XX => h.frame b hb (fun id L h1 h2 => Nat.lt_of_lt_of_le (hg id L h1 h2) ar) XX }
theorem Lw{op:Op}{loc:Bool}{id tag:Nat}{s:St}{l:Bool}{b:Nat}(h:dS op loc id tag s=.block l b):∃x a,x∈op.operands.toList/\(bJ s x=some (.pointer (some a))\/∃n c,bJ s x=some (.slice (some a) n c)/\a.spot=none)/\a.spot.isSome=l/\a.block=b:=by
 unfold dS at h;cases hp:bM op with
 |true=>rw[hp]at h;simp at h
 |false=>
  rw[hp]at h;simp only[cond_false]at h;split at h
  ·cases loc<;>simp at h
  ·cases loc<;>simp at h
  ·cases h
  ·cases h
  ·rename_i t x
   split at h
   ·rename_i a ha
    simp only[FP.block.injEq]at h;exact⟨x,a,by simp[Op.operands],.inl ha,h.1,h.2⟩
   ·cases h
  ·rename_i t x y
   split at h
   ·rename_i a ha
    simp only[FP.block.injEq]at h;exact⟨x,a,by simp[Op.operands],.inl ha,h.1,h.2⟩
   ·cases h
  ·rename_i src dst x
   split at h
   ·rename_i a n c ha
    cases jH:a.spot with
    |some y=>simp[jH]at h
    |none=>
     simp only[jH,Option.isNone_none,cond_true,FP.block.injEq]at h;exact⟨x,a,by simp[Op.operands],.inr ⟨n,c,ha,jH⟩,by rw[jH];exact h.1,h.2⟩
   ·cases h
  ·cases h
  ·cases h
theorem HH{op:Op}{loc:Bool}{id tag:Nat}{s:St}(h:Da op loc=true):dS op loc id tag s=.new false id:=by
 unfold Da at h;split at h
 ·cases loc<;>simp at h;rfl
 ·cases loc<;>simp at h;rfl
 ·rfl
 ·rfl
 ·cases h
theorem HI{op:Op}{loc:Bool}{id tag:Nat}{s:St}(h:Dc op loc=true):dS op loc id tag s=.new true tag:=by
 unfold Dc at h;split at h
 ·subst h;rfl
 ·subst h;rfl
 ·cases h
theorem SH{op:Op}{loc:Bool}{id tag:Nat}{s:St}{l:Bool}{b:Nat}(h:dS op loc id tag s=.new l b):b=bif l then tag else id:=by
 unfold dS at h;cases hp:bM op with
 |true=>rw[hp]at h;simp at h
 |false=>
  rw[hp]at h;simp only[cond_false]at h;split at h
  ·cases loc<;>simp at h<;>obtain⟨rfl,rfl⟩:=h<;>rfl
  ·cases loc<;>simp at h<;>obtain⟨rfl,rfl⟩:=h<;>rfl
  ·simp at h;obtain⟨rfl,rfl⟩:=h;rfl
  ·simp at h;obtain⟨rfl,rfl⟩:=h;rfl
  ·split at h<;>cases h
  ·split at h<;>cases h
  ·exfalso
   split at h
   ·simp only[Bool.cond_eq_ite]at h
    split at h<;>cases h
   ·cases h
  ·cases h
  ·cases h
theorem HJ{ops:Array Oper}{x y:Oper}{d:Tmp}(hx:x.dst=some d)(hy:d∈y.looksAt ops\/y.dst=some d):shares ops x y=true:=by
 unfold shares;rw[hx];simp only[Bool.or_eq_true];left;rcases hy with h|h
 ·left;simpa using h
 ·right;simp[h]
theorem Pn{ops:Array Oper}{x y:Oper}{d:Tmp}(hy:y.dst=some d)(hx:d∈x.looksAt ops\/x.dst=some d):shares ops x y=true:=by
 rcases hx with h|h
 ·unfold shares
  rw[hy];simp only[Bool.or_eq_true];right;simpa using h
 ·exact HJ h (.inr hy)
theorem dN(l:Bool)(b:Nat):same l l b b=true:=by cases l<;>simp[same,Nat.beq_refl]
theorem da{dD:Nat}{x y:FP}{wx wy:Bool}(hx:x.fw=true)(hy:y≠.none):cD dD x wx y wy=true:=by
 cases x<;>cases y<;>first|rfl|(exact absurd rfl hy)|(cases hx)
theorem kh{dD b:Nat}{y:FP}{wx wy:Bool}(hy:y.fw=true)(h:wx=true\/(wy=true/\y.KX b=true)\/dD<=b):cD dD (.block false b) wx y wy=true:=by
 cases y with
 |all=>
  rcases h with h|h|h
  ·simp[cD,h]
  ·simp[cD,h.1]
  ·simp only[cD,Bool.not_false,Bool.true_and];rw[cJ h];simp
 |app c=>
  rcases h with h|⟨h1,h2⟩|h
  ·simp[cD,h]
  ·have e2:Nat.beq b c=true:=h2
   simp[cD,h1,e2]
  ·simp only[cD,Bool.not_false,Bool.true_and];rw[cJ h];simp
 |none=>cases hy
 |block _ _=>cases hy
 |new _ _=>cases hy
theorem AL{dD b:Nat}{l:Bool}{y:FP}{wx wy:Bool}(hy:y.fw=true)(h:wy=true/\y.KX b=true):cD dD (.new l b) wx y wy=true:=by
 cases y with
 |all=>simp[cD,h.1]
 |app c=>
  have e2:Nat.beq b c=true:=h.2;simp[cD,h.1,e2]
 |none=>cases hy
 |block _ _=>cases hy
 |new _ _=>cases hy
section
variable{P:Program}{H:Hint}{call:cF}{f:FuncId}{nt:Nat}{ops:Array Oper}{base aP:Nat}{l:List Nat}{S:Nat->St}{V:Nat->Value}{X:Nat->FP}{W:Nat->Bool}
structure Up(ops:Array Oper)(base:Nat)(l:List Nat)(X:Nat->FP)(W:Nat->Bool)(E:Nat->Prop)(i p:Nat)(o:Oper):Prop where
 hi:l[i]?=some p
 ho:ops[p]?=some o
 hp:¬E p
 lt:i<ops.size
 side:∀(j q:Nat) (o':Oper),l[j]?=some q->ops[q]?=some o'->(j<i->shares ops o' o=true\/cD (base+ops.size) (X j) (W j) (X i) (W i)=true)->(i<j->shares ops o o'=true\/cD (base+ops.size) (X i) (W i) (X j) (W j)=true)->(E q↔j<i)
 ne:∀(j q:Nat),l[j]?=some q->j≠i->q≠p
variable(T:Tr P H call f nt ops base aP l S V X W)
include T
theorem Tr.up{E:Nat->Prop}{i p:Nat}{o:Oper}(hi:l[i]?=some p)(ho:ops[p]?=some o)(hp:¬E p)(hE:xR ops E)(Lt:xR ops (fun q=>E q\/q=p)):Up ops base l X W E i p o where
 hi:=hi
 ho:=ho
 hp:=hp
 lt:=by rw[<-T.len];exact(List.getElem?_eq_some_iff.1 hi).1
 ne:=fun j q hj eO=>by
  rcases Nat.lt_or_gt_of_ne eO with h|h
  ·exact T.Pj j i q p h hj hi
  ·exact fun e=>T.Pj i j p q h hi hj e.symm
 side:=fun j q o' hj mR h1 h2=>by
  rcases Nat.lt_trichotomy j i with h|h|h
  ·have Zn:=T.SE j i q p o' o h hj hi mR ho (h1 h)
   have:=rQ Lt Zn (.inr rfl);rcases this with q1|q1
   ·exact⟨fun _=>h,fun _=>q1⟩
   ·exact absurd q1 (T.Pj j i q p h hj hi)
  ·subst h
   rw[hi]at hj;obtain rfl:=Option.some.inj hj;exact⟨fun q=>absurd q hp,fun q=>absurd q (Nat.lt_irrefl _)⟩
  ·have Zn:=T.SE i j p q o o' h hi hj ho mR (h2 h)
   exact⟨fun q1=>absurd (rQ hE Zn q1) hp,fun q1=>om⟩
theorem Tr.op{j q:Nat}(hj:l[j]?=some q):∃o',ops[q]?=some o'/\j<ops.size:=by
 obtain⟨o',h,_⟩:=T.step j q hj;exact⟨o',h,by rw[<-T.len];exact(List.getElem?_eq_some_iff.1 hj).1⟩
theorem Tr.newAt{j q:Nat}{lc:Bool}{b:Nat}(hj:l[j]?=some q)(h:X j=.new lc b):b=bif lc then aP+j else base+j:=by
 obtain⟨o',_,hs⟩:=T.step j q hj;rcases hs with ⟨_,s1,_,_,hx,_⟩|⟨_,_,_,hx,_⟩
 ·rw[hx]at h;exact SH h
 ·rw[hx]at h;cases h
variable{E:Nat->Prop}{i p:Nat}{o:Oper}(U:Up ops base l X W E i p o)
include U
theorem Up.AM{j q:Nat}(hj:l[j]?=some q)(h1:j<i->cD (base+ops.size) (X j) (W j) (X i) (W i)=true)(h2:i<j->cD (base+ops.size) (X i) (W i) (X j) (W j)=true):E q↔j<i:=by
 obtain⟨o',mR,_⟩:=T.op hj;exact U.side j q o' hj mR (fun h=>.inr (h1 h)) (fun h=>.inr (h2 h))
theorem Up.Q8{id:Nat}(hM:xT S X W i id){j q:Nat}(hj:l[j]?=some q)(uv:xT S X W j id):E q↔j<i:=by
 obtain⟨o',_,Q9⟩:=T.op hj;have l1:=T.xU i (Nat.le_of_lt U.lt);have l2:=T.xU j (Nat.le_of_lt Q9);refine U.AM T hj (fun dW=>?_) (fun dW=>?_)
 ·rcases hM with ⟨a1,a2⟩|a1|⟨a1,a2⟩<;>rcases uv with ⟨b1,b2⟩|b1|⟨b1,b2⟩
  ·rw[a1,b1];simp[cD,a2,b2,dN]
  ·rw[a1,b1];simp[cD,dN]
  ·exact da b1 (by rw[a1];simp)
  ·rw[a1,b1];simp[cD,dN]
  ·rw[a1,b1];simp[cD,dN]
  ·exact da b1 (by rw[a1];simp)
  ·rw[b1];exact kh a1 (.inl b2)
  ·rw[b1]
   rcases a2 with a2|a2
   ·exact AL a1 a2
   ·have:=T.newAt hj b1;simp only[cond_false]at this;omega
  ·exact da b1 (by intro e;rw[e]at a1;cases a1)
 ·rcases hM with ⟨a1,a2⟩|a1|⟨a1,a2⟩<;>rcases uv with ⟨b1,b2⟩|b1|⟨b1,b2⟩
  ·rw[a1,b1];simp[cD,a2,b2,dN]
  ·rw[a1,b1];simp[cD,dN]
  ·rw[a1];exact kh b1 (.inl a2)
  ·rw[a1,b1];simp[cD,dN]
  ·rw[a1,b1];simp[cD,dN]
  ·rw[a1]
   rcases b2 with b2|b2
   ·exact AL b1 b2
   ·have:=T.newAt U.hi a1;simp only[cond_false]at this;have:=U.lt;omega
  ·exact da a1 (by rw[b1];simp)
  ·exact da a1 (by rw[b1];simp)
  ·exact da a1 (by intro e;rw[e]at b1;cases b1)
theorem Up.Vr{id:Nat}(hX:X i=.block false id){j q:Nat}(hj:l[j]?=some q)(uv:xT S X W j id):E q↔j<i:=by
 obtain⟨o',_,Q9⟩:=T.op hj;have l2:=T.xU j (Nat.le_of_lt Q9);refine U.AM T hj (fun dW=>?_) (fun dW=>?_)
 ·rcases uv with ⟨b1,b2⟩|b1|⟨b1,b2⟩
  ·rw[hX,b1];simp[cD,b2,dN]
  ·rw[hX,b1];simp[cD,dN]
  ·exact da b1 (by rw[hX];simp)
 ·rcases uv with ⟨b1,b2⟩|b1|⟨b1,b2⟩
  ·rw[hX,b1];simp[cD,b2,dN]
  ·rw[hX,b1];simp[cD,dN]
  ·rw[hX]
   rcases b2 with b2|b2
   ·exact kh b1 (.inr (.inl b2))
   ·exact kh b1 (.inr (.inr om))
theorem Up.Vs{t:Nat}(hM:BF X W i t){j q:Nat}(hj:l[j]?=some q)(uv:BF X W j t):E q↔j<i:=by
 refine U.AM T hj (fun dW=>?_) (fun dW=>?_);all_goals rcases hM with ⟨a1,a2⟩|a1<;>rcases uv with ⟨b1,b2⟩|b1<;>rw[a1,b1]
 all_goals simp[cD,dN, *]
theorem Up.SI{t:Nat}(hX:X i=.block true t){j q:Nat}(hj:l[j]?=some q)(uv:BF X W j t):E q↔j<i:=by
 refine U.AM T hj (fun dW=>?_) (fun dW=>?_);all_goals rcases uv with ⟨b1,b2⟩|b1<;>rw[hX,b1]
 all_goals simp[cD,dN, *]
theorem Up.Ra(hX:(X i).fw=true){j q:Nat}(hj:l[j]?=some q)(Zo:(X j).fw=true):E q↔j<i:=by
 refine U.AM T hj (fun dW=>?_) (fun dW=>?_)
 ·exact da Zo (by intro e;rw[e]at hX;cases hX)
 ·exact da hX (by intro e;rw[e]at Zo;cases Zo)
theorem Up.Vt(hX:(X i).fw=true){id:Nat}(hd:∀j q:Nat,l[j]?=some q->id=base+j->E q){j q:Nat}(hj:l[j]?=some q)(uv:xT S X W j id):E q↔j<i:=by
 by_cases hn:X j=.new false id
 ·have he:E q:=hd j q hj (by have:=T.newAt hj hn;simpa using this)
  refine⟨fun _=>?_,fun _=>he⟩;rcases Nat.lt_trichotomy j i with h|h|h
  ·exact h
  ·subst h;rw[U.hi]at hj;obtain rfl:=Option.some.inj hj;exact absurd he U.hp
  ·obtain⟨o',mR,_⟩:=T.op hj
   have:=U.side j q o' hj mR (fun q=>om) (fun _=>.inr (da hX (by rw[hn];simp)));exact this.1 he
 ·refine U.AM T hj (fun dW=>?_) (fun dW=>?_)
  ·rcases uv with ⟨b1,b2⟩|b1|⟨b1,b2⟩
   ·rw[b1];exact kh hX (.inl b2)
   ·exact absurd b1 hn
   ·exact da b1 (by intro e;rw[e]at hX;cases hX)
  ·rcases uv with ⟨b1,b2⟩|b1|⟨b1,b2⟩
   ·exact da hX (by rw[b1];simp)
   ·exact absurd b1 hn
   ·exact da hX (by intro e;rw[e]at b1;cases b1)
end
section
variable{ops:Array Oper}{base:Nat}{l:List Nat}{X:Nat->FP}{W:Nat->Bool}{E:Nat->Prop}{i p:Nat}{o:Oper}(U:Up ops base l X W E i p o)
include U
theorem Up.Rc{t:Tmp}(ht:t∈o.looksAt ops\/o.dst=some t){j q:Nat}{o':Oper}(hj:l[j]?=some q)(mR:ops[q]?=some o')(hd:o'.dst=some t):E q↔j<i:=
 U.side j q o' hj mR (fun _=>.inl (HJ hd ht)) (fun _=>.inl (Pn hd ht))
theorem Up.next{j q k:Nat}(hj:l[j]?=some q)(eO:j≠i)(h:(E q\/q=p)↔j<k):E q↔j<k:=
 ⟨fun e=>h.1 (.inl e),fun e=>(h.2 e).resolve_right (U.ne j q hj eO)⟩
end
end Go.cV
namespace Go.cV
theorem Po{J:dM}{s:St}{a:Act}{l:List Operand}(h:∀t v,Operand.tmp t∈l->s.env.get t=some v->VR J v (a.tmps.getD t undef)):pg J s a l:=by
 intro x v hx he;have hE:ER J (iC s.h) a:=fun t v h=>by simp[iC,cW.get]at h
 cases x with
 |tmp t=>exact h t v hx he
 |const c=>exact hE.eval (x:=.const c) he
 |global g=>exact hE.eval (x:=.global g) he
 |func g=>exact hE.eval (x:=.func g) he
theorem Lx{ops:Array Oper}{o:Oper}{t:Tmp}(h:Operand.tmp t∈o.op.operands.toList):t∈o.looksAt ops:=by
 unfold Oper.looksAt;rw[List.mem_append];left;rw[List.mem_filterMap];exact⟨.tmp t,h,rfl⟩
theorem DJ{ops:Array Oper}{o:Oper}{j:Nat}{want:Bool}{d:Tmp}(hg:o.guard=some (j,want))(hd:(ops[j]?).bind (·.dst)=some d):d∈o.looksAt ops:=by
 unfold Oper.looksAt;rw[List.mem_append];right;rw[hg];simp only[hd];simp
section
variable{P:Program}{H:Hint}{call:cF}{f:FuncId}{nt:Nat}{ops:Array Oper}{base aP:Nat}{l:List Nat}{S:Nat->St}{V:Nat->Value}{X:Nat->FP}{W:Nat->Bool}
variable{J0:dM}{s0:St}{w0:World}{a0:Act}{E:Nat->Prop}{i p:Nat}{o:Oper}{a:Act}{w:World}{J:dM}{s2:St}
theorem Inv.tq(T:Tr P H call f nt ops base aP l S V X W)(U:Up ops base l X W E i p o)(I:Inv ops base aP l S X W J0 s0 w0 a0 E a w J s2)
  (hs:mD P H call f nt ops base aP i o (S i) (V i) (X i) (W i) (S (i+1))) (hn:nt<=a.tmps.size) {J':dM} {c:Value} (hg:∀id L,J.g id=some L->J'.g id=some L) (hl:∀t L,J.l t=some L->J'.l t=some L) (hc:VR J' (V i) c)
  (XY:∀d,o.dst=some d->d<nt) :
  ∀t v k,k<=ops.size->(∀(j q:Nat) (o':Oper),l[j]?=some q->ops[q]?=some o'->o'.dst=some t->((E q\/q=p)↔j<k))->(S k).env.get t=some v->t<(a.put o.dst c).tmps.size/\VR J' v ((a.put o.dst c).tmps.getD t undef):=by
 intro t v k hk h hv;by_cases hd:o.dst=some t
 ·have Hz:i<k:=(h i p o U.hi U.ho hd).1 (.inr rfl)
  have uD:=T.BH (t:=t) (k-(i+1)) (i+1) om (fun j q o' h1 h2 hj mR xw=>by
   have e1:=U.next hj om (h j q o' hj mR xw);have e2:=U.Rc (.inr hd) hj mR xw;have:=e2.1 (e1.2 om);omega)
  rw[show i+1+(k-(i+1))=k by omega]at uD;have e:=(hs.sum T.dL).env t;rw[if_pos hd]at e;rw[uD,e]at hv;obtain rfl:=Option.some.inj hv;have dW:t<a.tmps.size:=Nat.lt_of_lt_of_le (XY t hd) hn;rw[eQ];refine⟨dW,?_⟩;rw[hd];have:(a.put (some t) c).tmps.getD t undef=c:=by simp[Act.put,dW]
  rw[this];exact hc
 ·obtain⟨h1,h2⟩:=I.env t v k hk (fun j q o' hj mR xw=>U.next hj (by rintro rfl;rw[U.hi]at hj;obtain rfl:=Option.some.inj hj;rw[U.ho]at mR;obtain rfl:=Option.some.inj mR;exact hd xw) (h j q o' hj mR xw)) hv
  rw[eQ];refine⟨h1,?_⟩;have:(a.put o.dst c).tmps.getD t undef=a.tmps.getD t undef:=by
   cases SJ:o.dst with
   |none=>rfl
   |some d=>simp[Act.put,Array.getElem?_setIfInBounds_ne (show d≠t from fun e=>hd (by rw[SJ,e]))]
  rw[this];exact h2.mono hg hl
theorem mD.Vu{i:Nat}{o:Oper}{s s':St}{v:Value}{x:FP}{wr:Bool}(h:mD P H call f nt ops base aP i o s v x wr s'):∀d,o.dst=some d->d<nt:=by
 intro d hd;rcases h with ⟨_,s1,_,h2,_,_⟩|⟨_,h2,_,_,_⟩
 ·rcases ni h2 with ⟨q,_⟩|⟨d',q,r,_⟩
  ·rw[q]at hd;cases hd
  ·rw[q]at hd;obtain rfl:=Option.some.inj hd;exact r
 ·rcases ni h2 with ⟨q,_⟩|⟨d',q,r,_⟩
  ·rw[q]at hd;cases hd
  ·rw[q]at hd;obtain rfl:=Option.some.inj hd;exact r
theorem Inv.step {ro : Option Nat} (fE : gT P call) (T : Tr P H call f nt ops base aP l S V X W) (U : Up ops base l X W E i p o) (I : Inv ops base aP l S X W J0 s0 w0 a0 E a w J s2) (xh : nt ≤ a0.tmps.size) {Q : Exit → Act → World → Prop} {K : Act → World → Prop}
    (hK : ∀ a' w' J' Pp, Inv ops base aP l S X W J0 s0 w0 a0 (fun q => E q ∨ q = p) a' w' J' Pp → K a' w') : wpOpIn (Wd ro) 0 P ops Q p K a w := by
  obtain ⟨o', mR, hs⟩ := T.step i p U.hi
  rw [U.ho] at mR
  obtain rfl := Option.some.inj mR
  have hn : nt ≤ a.tmps.size := by rw [I.size]; exact xh
  have DK : i ≤ ops.size := Nat.le_of_lt U.lt
  have Rd : ∀ t v, t ∈ o.looksAt ops → (S i).env.get t = some v → t < a.tmps.size ∧ VR J v (a.tmps.getD t undef) :=
    fun t v ht hv => I.env t v i DK (fun j q o' hj mR hd => U.Rc (.inl ht) hj mR hd) hv
  have XZ : ∀ s3 : St, s3.env = (S i).env → pg J s3 a o.op.operands.toList := fun s3 he => Po (fun t v ht hv => (Rd t v (Lx ht) (by rw [← he]; exact hv)).2)
  have hGu : SB J (S i) a ops o := fun j want d v hg hd hv => Rd d v (DJ hg hd) hv
  have hJg : J.g (base + i) = none := by
    cases hx : J.g (base + i) with
    | none => rfl
    | some L => exact absurd (I.BJ i p U.hi (by rw [hx]; rfl)) U.hp
  have hJl : J.l (aP + i) = none := by
    cases hx : J.l (aP + i) with
    | none => rfl
    | some L => exact absurd (I.DI i p U.hi (by rw [hx]; rfl)) U.hp
  have hlim := I.dD
  have hilt := U.lt
  have tq := fun (J' : dM) (c : Value) hg hl hc => I.tq T U hs hn (J' := J') (c := c) hg hl hc hs.Vu
  have Zp := hs.sum T.dL
  have Vv := fun id => hs.Vq T.dL (id := id)
  unfold wpOpIn
  rw [U.ho]
  simp only []
  rcases hs with ⟨hw, s1, h1, h2, hx, X0⟩ | ⟨hw, h2, hv, hx, X0⟩
  · rw [jc hw hGu, if_pos rfl]
    by_cases hA : (X i).fw = true
    · 
      obtain ⟨e1, e2, e3⟩ := tp (by rw [gJ, ← hx]; exact hA) h1
      have AN : s2.h.next = (S i).h.next := I.next i DK (fun j q hj hq => U.Ra T hA hj hq)
      have Jd : ∀ id L, J.g id = some L → s2.h.m.get id = (S i).h.m.get id := fun id L hL => I.g id L i DK hL (fun j q hj hm => U.Vt T hA (fun j q hj mq => I.BJ j q hj (by rw [← mq, hL]; rfl)) hj hm)
      let s3 : St := { s2 with env := (S i).env, h := (S i).fresh.h }
      have h3 := e2 s3 rfl rfl
      have Vw : HR J s3 w := I.ph.hr.swap (s' := s3) (by show s2.h.next ≤ (S i).h.next; omega) (Nat.le_refl _) (fun id L hL => (Jd id L hL).symm) (fun _ _ _ => rfl)
      have Pq : (S (i + 1)).h.m = s1.h.m ∧ (S (i + 1)).h.next = s1.h.next ∧ (S (i + 1)).h.low = Nat.min (S i).h.low s1.h.low := by
        rw [cM h2]; exact ⟨rfl, rfl, rfl⟩
      refine AK fE Vw (Vw.Hx (by show base + i < (S i).h.next; omega) hJg (by show aP + i < s2.kn; rw [I.kn]; omega) hJl) (XZ s3 rfl) h3 K Q ?_ ro
      intro c w' J' hG Ph hv zW Zq Zr
      have Vx : Da o.op (fj H f o) = false := by
        cases hq : Da o.op (fj H f o) with
        | false => rfl
        | true => rw [hx, HH hq] at hA; cases hA
      have Vy : Dc o.op (fj H f o) = false := by
        cases hq : Dc o.op (fj H f o) with
        | false => rfl
        | true => rw [hx, HI hq] at hA; cases hA
      have F8 : ∀ id L, J'.g id = some L → J.g id = some L ∨ (S i).h.next ≤ id := fun id L hL => (Zq id L hL).imp (fun q => q) (fun q => q.elim (fun q => by rw [Vx] at q; cases q.1) (fun q => q))
      have Ly : ∀ t L, J'.l t = some L → J.l t = some L := fun t L hL => (Zr t L hL).elim (fun q => q) (fun q => by rw [Vy] at q; cases q.1)
      let Pp : St := { s2 with h := { s1.h with low := Nat.min s2.h.low s1.h.low } }
      have Dz : Good J s2 w J' Pp w' := by
        have g1 := hG.lower (lo := Nat.min s2.h.low s1.h.low) (Nat.min_le_right _ _)
        have g2 := g1.Pm (t := s2) (by rw [AN]; rfl) (Nat.min_le_left _ _)
        exact g2.env s2.env
      refine hK (a.put o.dst c) w' J' Pp ?_
      refine { kn := I.kn, next := ?_, dD := ?_, g := ?_, lk := ?_, low := ?_, ph := I.ph.trans Dz, DH := ?_, BJ := ?_, DI := ?_, env := tq J' c hG.mono Ph hv, size := by rw [eQ]; exact I.size, defers := by rw [put_defers]; exact I.defers }
      · intro k hk h
        have Hz : i < k := (h i p U.hi hA).1 (.inr rfl)
        have := T.BI (k - (i + 1)) (i + 1) om (fun j q1 q2 => by
          cases hq : (X j).fw with
          | false => rfl
          | true =>
            exfalso
            obtain ⟨pj, oj, hj, _, _⟩ := T.at (i := j) om
            have := (U.Ra T hA hj hq).1 ((U.next hj om (h j pj hj hq)).2 om)
            omega)
        rw [show i + 1 + (k - (i + 1)) = k by omega] at this
        rw [this]; exact Pq.2.1.symm
      · show base + ops.size ≤ s1.h.next
        rw [← Pq.2.1]; exact T.xU (i + 1) om
      · intro id L k hk hL h
        show s1.h.m.get id = _
        by_cases hM : xT S X W i id
        · have Hz : i < k := (h i p U.hi hM).1 (.inr rfl)
          have := T.wC (id := id) (k - (i + 1)) (i + 1) om (fun j q1 q2 hq => by
            obtain ⟨pj, oj, hj, _, _⟩ := T.at (i := j) om
            have := (U.Q8 T hM hj hq).1 ((U.next hj om (h j pj hj hq)).2 om)
            omega)
          rw [show i + 1 + (k - (i + 1)) = k by omega] at this
          rw [this, Pq.1]
        · have dW : id < (S i).h.next := by
            rcases Nat.lt_or_ge id (S i).h.next with q | q
            · exact q
            · exact absurd (.inr (.inr ⟨hA, .inr q⟩)) hM
          have Ut : J.g id = some L := (F8 id L hL).resolve_right om
          rw [← Pq.1, Vv id hM, ← Jd id L Ut]
          exact I.g id L k hk Ut (fun j q hj hq => U.next hj (by rintro rfl; exact hM hq) (h j q hj hq))
      · intro t L k hk hL h
        exact I.lk t L k hk (Ly t L hL) (fun j q hj hq => U.next hj (by rintro rfl; rcases hq with ⟨q, _⟩ | q <;> rw [q] at hA <;> cases hA) (h j q hj hq))
      · show _ ≤ Nat.min s2.h.low s1.h.low
        have q1 := T.HG (ops.size - (i + 1)) (i + 1) om
        rw [show i + 1 + (ops.size - (i + 1)) = ops.size by omega, Pq.2.2] at q1
        exact Nat.le_min.2 ⟨I.low, Nat.le_trans q1 (Nat.min_le_right _ _)⟩
      · intro id L hL
        rcases F8 id L hL with q | q
        · exact I.DH id L q
        · right; show base ≤ id; have := T.xU i DK; omega
      · intro j q hj pS
        cases hq : J'.g (base + j) with
        | none => rw [hq] at pS; cases pS
        | some L =>
          obtain ⟨_, _, Q9⟩ := T.op hj
          rcases F8 _ L hq with r | r
          · exact .inl (I.BJ j q hj (by rw [r]; rfl))
          · have := T.xU i DK; omega
      · intro j q hj pS
        cases hq : J'.l (aP + j) with
        | none => rw [hq] at pS; cases pS
        | some L => exact .inl (I.DI j q hj (by rw [Ly _ L hq]; rfl))
    · 
      have hc : dU o.op = none := by
        cases hc : dU o.op with
        | none => rfl
        | some c => exact absurd (by rw [hx, nZ hc]; rfl) hA
      have th := h1
      unfold jI at th
      rw [hc] at th
      obtain ⟨F, e1, e2, e3⟩ := wB (by rw [gJ, ← hx]; simpa using hA) th
      rw [gJ, ← hx] at e2 e3
      let s3 : St := { s2 with env := (S i).env }
      have Vw : HR J s3 w := I.ph.hr.env _
      have Lz : ∀ lc b, X i = .block lc b → ∃ ad : Addr, ad.spot.isSome = lc ∧ ad.block = b ∧ ∃ L, J.at ad = some L := by
        intro lc b hb
        rw [hx] at hb
        obtain ⟨x, ad, X5, Vz, q1, q2⟩ := Lw hb
        rcases Vz with Vz | ⟨n9, c9, Vz, VA⟩
        · have := XZ (S i) rfl x _ X5 Vz
          obtain ⟨L, hL, _⟩ := this.pI
          exact ⟨ad, q1, q2, L, hL⟩
        · have := XZ (S i) rfl x _ X5 Vz
          obtain ⟨_, L, _, hL, _⟩ := (this.aZ (fun a => by simp)).pJ VA
          exact ⟨ad, q1, q2, L, by simp [dM.at, VA, hL]⟩
      have h3 : jI P H call f (base + i) (aP + i) o s3 = some (V i, F.apply s3) := by
        unfold jI
        rw [hc]
        refine e3 s3 rfl ?_ ?_ ?_
        · show s2.kn = (S i).kn
          rw [I.kn, T.SG i DK]
        · intro b hb
          obtain ⟨ad, q1, q2, L, hL⟩ := Lz false b hb
          have jH : ad.spot = none := by cases hq : ad.spot with | none => rfl | some y => rw [hq] at q1; cases q1
          simp only [dM.at, jH, q2] at hL
          exact I.g b L i DK hL (fun j q hj hm => U.Vr T hb hj hm)
        · intro t hb
          obtain ⟨ad, q1, q2, L, hL⟩ := Lz true t hb
          obtain ⟨y, jH⟩ : ∃ y, ad.spot = some y := by cases hq : ad.spot with | none => rw [hq] at q1; cases q1 | some y => exact ⟨y, rfl⟩
          simp only [dM.at, jH, q2] at hL
          exact I.lk t L i DK hL (fun j q hj hm => U.SI T hb hj hm)
      have X6 : (F.apply s3).h.next = s2.h.next ∧ (F.apply s3).kn = s2.kn := by cases F <;> exact ⟨rfl, rfl⟩
      have Pq : (S (i + 1)).h.m = s1.h.m ∧ (S (i + 1)).K = s1.K ∧ (S (i + 1)).h.low = Nat.min (S i).h.low s1.h.low := by
        rw [cM h2]; exact ⟨rfl, rfl, rfl⟩
      have VB : (∀ b di lw, F ≠ .nY b di lw) → (∀ t cs, F ≠ .mQ t cs) → W i = false := by
        intro q1 q2
        cases F with
        | idle =>
          rw [X0, e2.2, e1]
          show Nat.blt (S i).h.next (S i).h.next = false
          exact cJ (Nat.le_refl _)
        | nY b di lw => exact absurd rfl (q1 b di lw)
        | mQ t cs => exact absurd rfl (q2 t cs)
      have SK : ∀ id, xT S X W i id → ∃ di lw, F = .nY id di lw := by
        intro id hM
        rcases hM with ⟨q1, q2⟩ | q1 | ⟨q1, _⟩
        · cases F with
          | idle => rw [VB (fun _ _ _ h => by cases h) (fun _ _ h => by cases h)] at q2; cases q2
          | nY b di lw =>
            rcases e2 with ⟨r, _⟩ | ⟨r, _⟩
            · rw [q1] at r; simp only [FP.block.injEq, true_and] at r; subst r; exact ⟨_, _, rfl⟩
            · rw [q1] at r; cases r
          | mQ t cs =>
            rcases e2 with ⟨r, _⟩ | ⟨r, _⟩
            · rw [q1] at r; simp at r
            · rw [q1] at r; cases r
        · cases F with
          | idle => exact absurd q1 (e2.1 _ _)
          | nY b di lw =>
            rcases e2 with ⟨r, _⟩ | ⟨r, _⟩
            · rw [q1] at r; cases r
            · rw [q1] at r; simp only [FP.new.injEq, true_and] at r; subst r; exact ⟨_, _, rfl⟩
          | mQ t cs =>
            rcases e2 with ⟨r, _⟩ | ⟨r, _⟩
            · rw [q1] at r; cases r
            · rw [q1] at r; simp at r
        · exact absurd q1 hA
      have SL : ∀ t, BF X W i t → ∃ cs, F = .mQ t cs := by
        intro t hM
        rcases hM with ⟨q1, q2⟩ | q1
        · cases F with
          | idle => rw [VB (fun _ _ _ h => by cases h) (fun _ _ h => by cases h)] at q2; cases q2
          | nY b di lw =>
            rcases e2 with ⟨r, _⟩ | ⟨r, _⟩
            · rw [q1] at r; simp at r
            · rw [q1] at r; cases r
          | mQ b cs =>
            rcases e2 with ⟨r, _⟩ | ⟨r, _⟩
            · rw [q1] at r; simp only [FP.block.injEq, true_and] at r; subst r; exact ⟨_, rfl⟩
            · rw [q1] at r; cases r
        · cases F with
          | idle => exact absurd q1 (e2.1 _ _)
          | nY b di lw =>
            rcases e2 with ⟨r, _⟩ | ⟨r, _⟩
            · rw [q1] at r; cases r
            · rw [q1] at r; simp at r
          | mQ b cs =>
            rcases e2 with ⟨r, _⟩ | ⟨r, _⟩
            · rw [q1] at r; cases r
            · rw [q1] at r; simp only [FP.new.injEq, true_and] at r; subst r; exact ⟨_, rfl⟩
      have Zs : ∀ b di lw, F = .nY b di lw → xT S X W i b := by
        intro b di lw hF; subst hF
        rcases e2 with ⟨r, r2, _⟩ | ⟨r, _⟩
        · exact .inl ⟨r, by rw [X0, r2]; rfl⟩
        · exact .inr (.inl r)
      have Zt : ∀ t cs, F = .mQ t cs → BF X W i t := by
        intro t cs hF; subst hF
        rcases e2 with ⟨r, r2⟩ | ⟨r, _⟩
        · exact .inl ⟨r, by rw [X0, r2]; rfl⟩
        · exact .inr r
      refine AK fE Vw (Vw.Hx (by show base + i < s2.h.next; omega) hJg (by show aP + i < s2.kn; rw [I.kn]; omega) hJl) (XZ s3 rfl) h3 K Q ?_ ro
      intro c w' J' hG Ph hv zW Zq Zr
      have F8 : ∀ id L, J'.g id = some L → J.g id = some L ∨ (X i = .new false id ∧ id = base + i) := fun id L hL => by
        rcases Zq id L hL with q | ⟨q1, q2⟩ | q
        · exact .inl q
        · right; refine ⟨?_, q2⟩; rw [hx, HH q1, q2]
        · have := hG.hr.cU id L hL
          rw [X6.1] at this
          have q' : s2.h.next ≤ id := q
          omega
      have Ly : ∀ t L, J'.l t = some L → J.l t = some L ∨ (X i = .new true t ∧ t = aP + i) := fun t L hL => by
        rcases Zr t L hL with q | ⟨q1, q2⟩
        · exact .inl q
        · right; refine ⟨?_, q2⟩; rw [hx, HI q1, q2]
      refine hK (a.put o.dst c) w' J' (F.apply s3) ?_
      refine { kn := by rw [X6.2]; exact I.kn, next := ?_, dD := by rw [X6.1]; exact I.dD, g := ?_, lk := ?_, low := ?_, ph := (I.ph.env _).trans hG, DH := ?_, BJ := ?_, DI := ?_, env := tq J' c hG.mono Ph hv, size := by rw [eQ]; exact I.size, defers := by rw [put_defers]; exact I.defers }
      · intro k hk h
        rw [X6.1]
        exact I.next k hk (fun j q hj hq => U.next hj (by rintro rfl; exact hA hq) (h j q hj hq))
      · intro id L k hk hL h
        by_cases hM : xT S X W i id
        · obtain ⟨di, lw, hF⟩ := SK id hM
          have Hz : i < k := (h i p U.hi hM).1 (.inr rfl)
          have := T.wC (id := id) (k - (i + 1)) (i + 1) om (fun j q1 q2 hq => by
            obtain ⟨pj, oj, hj, _, _⟩ := T.at (i := j) om
            have := (U.Q8 T hM hj hq).1 ((U.next hj om (h j pj hj hq)).2 om)
            omega)
          rw [show i + 1 + (k - (i + 1)) = k by omega] at this
          rw [this, Pq.1, e1, hF]
          simp only [BD.apply, cW.gY]
        · have Ut : J.g id = some L := (F8 id L hL).resolve_right (fun q => hM (.inr (.inl q.1)))
          have e : (F.apply s3).h.m.get id = s2.h.m.get id := by
            cases hF : F with
            | idle => rfl
            | mQ t cs => rfl
            | nY b di lw =>
              have eO : b ≠ id := by rintro rfl; exact hM (Zs _ _ _ hF)
              simp only [BD.apply]
              exact cW.aT _ _ eO
          rw [e]
          exact I.g id L k hk Ut (fun j q hj hq => U.next hj (by rintro rfl; exact hM hq) (h j q hj hq))
      · intro t L k hk hL h
        by_cases hM : BF X W i t
        · obtain ⟨cs, hF⟩ := SL t hM
          have Hz : i < k := (h i p U.hi hM).1 (.inr rfl)
          have := T.BG (t := t) (k - (i + 1)) (i + 1) om (fun j q1 q2 hq => by
            obtain ⟨pj, oj, hj, _, _⟩ := T.at (i := j) om
            have := (U.Vs T hM hj hq).1 ((U.next hj om (h j pj hj hq)).2 om)
            omega)
          rw [show i + 1 + (k - (i + 1)) = k by omega] at this
          rw [this, Pq.2.1, e1, hF]
          simp only [BD.apply, cW.gY]
        · have Ut : J.l t = some L := (Ly t L hL).resolve_right (fun q => hM (.inr q.1))
          have e : (F.apply s3).K.get t = s2.K.get t := by
            cases hF : F with
            | idle => rfl
            | nY b di lw => rfl
            | mQ b cs =>
              have eO : b ≠ t := by rintro rfl; exact hM (Zt _ _ hF)
              simp only [BD.apply]
              exact cW.aT _ _ eO
          rw [e]
          exact I.lk t L k hk Ut (fun j q hj hq => U.next hj (by rintro rfl; exact hM hq) (h j q hj hq))
      · have q1 := T.HG (ops.size - (i + 1)) (i + 1) om
        rw [show i + 1 + (ops.size - (i + 1)) = ops.size by omega, Pq.2.2] at q1
        have q2 := Nat.le_trans q1 (Nat.min_le_right _ _)
        rw [e1] at q2
        cases hF : F with
        | idle => exact I.low
        | mQ t cs => exact I.low
        | nY b di lw =>
          rw [hF] at q2
          simp only [BD.apply] at q2 ⊢
          cases lw with
          | false => exact I.low
          | true => exact Nat.le_min.2 ⟨I.low, Nat.le_trans q2 (Nat.min_le_right _ _)⟩
      · intro id L hL
        rcases F8 id L hL with q | q
        · exact I.DH id L q
        · right; show base ≤ id; omega
      · intro j q hj pS
        cases hq : J'.g (base + j) with
        | none => rw [hq] at pS; cases pS
        | some L =>
          rcases F8 _ L hq with r | r
          · exact .inl (I.BJ j q hj (by rw [r]; rfl))
          · have : j = i := by omega
            subst this
            rw [U.hi] at hj
            exact .inr (Option.some.inj hj).symm
      · intro j q hj pS
        cases hq : J'.l (aP + j) with
        | none => rw [hq] at pS; cases pS
        | some L =>
          rcases Ly _ L hq with r | r
          · exact .inl (I.DI j q hj (by rw [r]; rfl))
          · have : j = i := by omega
            subst this
            rw [U.hi] at hj
            exact .inr (Option.some.inj hj).symm
  · rw [jc hw hGu, if_neg (by simp)]
    refine ⟨fun _ _ => trivial, hK _ _ J s2 ?_⟩
    have eO : ∀ (j : Nat), X j ≠ .none → j ≠ i := fun j h e => h (by rw [e, hx])
    exact { kn := I.kn
            next := fun k hk h => I.next k hk (fun j q hj hq => U.next hj (eO j (by intro e; rw [e] at hq; cases hq)) (h j q hj hq))
            dD := I.dD
            g := fun id L k hk hJ h => I.g id L k hk hJ (fun j q hj hm => U.next hj (eO j (by rcases hm with ⟨r, _⟩ | r | ⟨r, _⟩ <;> intro e <;> rw [e] at r <;> cases r)) (h j q hj hm))
            lk := fun t L k hk hJ h => I.lk t L k hk hJ (fun j q hj hm => U.next hj (eO j (by rcases hm with ⟨r, _⟩ | r <;> rw [r] <;> simp)) (h j q hj hm))
            low := I.low, ph := I.ph, DH := I.DH
            BJ := fun j q hj h => .inl (I.BJ j q hj h)
            DI := fun j q hj h => .inl (I.DI j q hj h)
            env := tq J undef (fun _ _ h => h) (fun _ _ h => h) (by rw [hv]; exact .c7 _ _ (VG.of_flat rfl))
            size := by rw [eQ]; exact I.size
            defers := by rw [put_defers]; exact I.defers }
end
end Go.cV
namespace Go.cV
theorem filter_lt{α:Type}{p p':α->Bool}(hp:∀x,p' x=true->p x=true):∀(l:List α) (x:α),x∈l->p x=true->p' x=false->(l.filter p').length<(l.filter p).length
 |y :: l,x,hx,h1,h2=>by
  have mono:∀l:List α,(l.filter p').length<=(l.filter p).length:=by
   intro l
   induction l with
   |nil=>simp
   |cons z l ih=>
    simp only[List.filter_cons];by_cases hz:p' z=true
    ·simp[hz,hp z hz,ih]
    ·by_cases SM:p z=true
     ·simp[hz,SM];omega
     ·simp[hz,SM,ih]
  rcases List.mem_cons.1 hx with rfl|Q7
  ·simp only[List.filter_cons,h1,h2,if_true]
   have:=mono l;simp;omega
  ·have ih:=filter_lt hp l x Q7 h1 h2
   simp only[List.filter_cons];by_cases hz:p' y=true
   ·simp[hz,hp y hz,ih]
   ·by_cases SM:p y=true
    ·simp[hz,SM];omega
    ·simp[hz,SM,ih]
 | [],x,hx,_,_=>by simp at hx
def v7(bS:Array Bool)(q:Nat):Prop:=bS.getD q false=true
theorem v7.set{bS:Array Bool}{p:Nat}(hp:p<bS.size):v7 (bS.setIfInBounds p true)=fun q=>v7 bS q\/q=p:=by
 funext q
 apply propext;unfold v7;by_cases e:q=p
 ·subst e;simp[Array.getD,hp]
 ·by_cases hq:q<bS.size
  ·simp[Array.getD,hq,e,Array.getElem_setIfInBounds,Ne.symm e]
  ·simp[Array.getD,hq,e]
section
variable{P:Program}{H:Hint}{call:cF}{f:FuncId}{nt:Nat}{ops:Array Oper}{base aP:Nat}{l:List Nat}{S:Nat->St}{V:Nat->Value}{X:Nat->FP}{W:Nat->Bool}
variable{J0:dM}{s0:St}{w0:World}{a0:Act}
theorem Inv.any{ro:Option Nat}(fE:gT P call)(T:Tr P H call f nt ops base aP l S V X W)(xh:nt<=a0.tmps.size)(F9:∀q,q<ops.size->q∈l)
  (VC:∀(q:Nat) (o:Oper),ops[q]?=some o->∀e∈o.after.toList,Region.binds .any e=true->e.on<q) {Q:Exit->Act->World->Prop}
  (hQ:∀a w J s2,Inv ops base aP l S X W J0 s0 w0 a0 (fun q=>q<ops.size) a w J s2->Q .normal a w) :
  ∀(fuel:Nat) (bS:Array Bool) (a:Act) (w:World) (J:dM) (s2:St),bS.size=ops.size->((List.range ops.size).filter (fun q=>!bS.getD q false)).length<=fuel->xR ops (v7 bS)->
   Inv ops base aP l S X W J0 s0 w0 a0 (v7 bS) a w J s2->wpAnyIn (Wd ro) 0 P .any ops Q fuel bS a w:=by
 have dr:∀(bS:Array Bool) (a:Act) (w:World) (J:dM) (s2:St),bS.size=ops.size->Region.ready .any ops bS=[]->Inv ops base aP l S X W J0 s0 w0 a0 (v7 bS) a w J s2->Q .normal a w:=by
  intro bS a w J s2 uB hr I;have key:∀q,q<ops.size->v7 bS q:=by
   intro q
   induction q using Nat.strongRecOn with
   |_ q ih=>
    intro hq;by_cases hl:v7 bS q
    ·exact hl
    ·exfalso
     have DL:q∈Region.ready .any ops bS:=by
      unfold Region.ready;rw[List.mem_filter];refine⟨List.mem_range.2 hq,?_⟩;have zH:q<bS.size:=om
      have h1:bS.getD q true=false:=by
       unfold v7 at hl;simp only[Array.getD,zH,dif_pos]at hl ⊢;simpa using hl
      simp only[h1,Bool.not_false,Bool.true_and,hq,Array.getElem?_eq_getElem,Option.map_some,Option.getD_some];rw[Array.all_eq_true'];intro e he;by_cases hb:Region.binds .any e=true
      ·have dW:=VC q ops[q] (by simp[hq]) e (by simpa using he) hb
       have:=ih e.on dW om;unfold v7 at this;simp only[this,Bool.or_true]
      ·simp[hb]
     rw[hr]at DL;cases DL
  have hE:v7 bS=fun q=>q<ops.size:=by
   funext q
   apply propext;refine⟨fun h=>?_,key q⟩;unfold v7 at h;by_cases hq:q<bS.size
   ·omega
   ·simp[Array.getD,hq]at h
  rw[hE]at I;exact hQ a w J s2 I
 intro fuel
 induction fuel with
 |zero=>
  intro bS a w J s2 uB hc Jl I;have hr:Region.ready .any ops bS=[]:=by
   cases hx:Region.ready .any ops bS with
   |nil=>rfl
   |cons q r=>
    exfalso;have DL:q∈Region.ready .any ops bS:=by rw[hx];simp
    unfold Region.ready at DL;rw[List.mem_filter]at DL;obtain⟨h1,h2⟩:=DL;simp only[Bool.and_eq_true,Bool.not_eq_true']at h2;have hq:=List.mem_range.1 h1;have zH:q<bS.size:=om
    have:q∈(List.range ops.size).filter (fun q=>!bS.getD q false):=by
     rw[List.mem_filter];refine⟨h1,?_⟩;have:=h2.1;simp only[Array.getD,zH,dif_pos]at this ⊢;simp only[this,Bool.not_false]
    rw[List.length_eq_zero_iff.1 (Nat.le_zero.1 hc)]at this;cases this
  exact⟨hr,dr bS a w J s2 uB hr I⟩
 |succ fuel ih=>
  intro bS a w J s2 uB hc Jl I;refine⟨fun hr=>dr bS a w J s2 uB hr I,fun q hq=>?_⟩;unfold Region.ready at hq;rw[List.mem_filter]at hq;obtain⟨h1,h2⟩:=hq;simp only[Bool.and_eq_true,Bool.not_eq_true']at h2;have hql:=List.mem_range.1 h1;have zH:q<bS.size:=om
  have ta:bS.getD q false=false:=by
   have:=h2.1;simp only[Array.getD,zH,dif_pos]at this ⊢;exact this
  obtain⟨i,hi,Zb⟩:=List.getElem_of_mem (F9 q hql);have zZ:l[i]?=some q:=by rw[List.getElem?_eq_getElem hi,Zb]
  have SN:=v7.set (p:=q) zH;have SO:xR ops (fun r=>v7 bS r\/r=q):=by
   intro r o hr ho e he hb;rcases hr with hr|rfl
   ·exact .inl (Jl r o hr ho e he hb)
   ·left
    have:=h2.2;rw[ho]at this;simp only[Option.map_some,Option.getD_some]at this;rw[Array.all_eq_true']at this;have:=this e (by simpa using he);unfold v7;simpa[hb]using this
  obtain⟨o,ho,_⟩:=T.op zZ;have hnE:¬v7 bS q:=by unfold v7;rw[ta];simp
  refine I.step fE T (T.up zZ ho hnE Jl SO) xh ?_;intro a' w' J' Pp I';rw[<-SN]at I' SO;refine ih (bS.setIfInBounds q true) a' w' J' Pp (by simp[uB]) ?_ SO I';have:((List.range ops.size).filter (fun r=>!(bS.setIfInBounds q true).getD r false)).length<((List.range ops.size).filter (fun r=>!bS.getD r false)).length:=by
   refine filter_lt (fun r hr=>?_) _ q h1 (by simp only[ta,Bool.not_false]) ?_
   ·by_cases hx:bS.getD r false=true
    ·have:v7 (bS.setIfInBounds q true) r:=by rw[SN];exact .inl hx
     unfold v7 at this;rw[this]at hr;cases hr
    ·simpa using hx
   ·have:v7 (bS.setIfInBounds q true) q:=by rw[SN];exact .inr rfl
    unfold v7 at this;rw[this];rfl
  omega
end
theorem Good.VD {J J' : dM} {s s' : St} {w w' : World} (h : Good J s w J' s' w') (n : Nat) : Good J s w J' s' { w' with drawn := n } :=
  { hr := { cU := h.hr.cU, dm := h.hr.dm, cK := h.hr.cK, dn := h.hr.dn, fe := h.hr.fe, dX := h.hr.dX, ff := h.hr.ff, sep := h.hr.sep }
    mono := h.mono, next := h.next, low := h.low, size := h.size, os := h.os, tape := h.tape, output := h.output, fresh := h.fresh, cL := h.cL, frame := h.frame }
theorem DM{ops:Array Oper}{l:List Nat}(h:nR ops l=true):l.length=ops.size/\(∀q,q<ops.size->q∈l)/\(∀(q:Nat) (o:Oper),ops[q]?=some o->∀e∈o.after.toList,Region.binds .any e=true->e.on<q) /\
  (∀(i k p q:Nat),i<k->l[i]?=some p->l[k]?=some q->p≠q/\∀o o',ops[p]?=some o->ops[q]?=some o'->shares ops o o'=true->prec (Region.before ops) p q=true):=by
 unfold nR at h;simp only[Bool.and_eq_true]at h;obtain⟨⟨⟨h1,h2⟩,h3⟩,h4⟩:=h;refine⟨Nat.eq_of_beq_eq_true h1,fun q hq=>?_,fun q o ho e he hb=>?_,fun i k p q Hz hp hq=>?_⟩
 ·rw[List.all_eq_true]at h2
  have:=h2 q (List.mem_range.2 hq);simpa using this
 ·rw[List.all_eq_true]at h3
  have dW:q<ops.size:=(Array.getElem?_eq_some_iff.1 ho).1;have DL:(o,q)∈ops.toList.zipIdx:=by
   rw[List.mem_zipIdx_iff_getElem?];simpa using ho
  have:=h3 (o,q) DL;simp only[List.all_eq_true]at this;have:=this e he;rw[hb]at this;simp only[Bool.not_true,Bool.false_or]at this;exact Nat.le_of_ble_eq_true this
 ·have:=sh l h4 i k p q Hz hp hq
  simp only[Bool.and_eq_true,Bool.not_eq_true']at this;refine⟨Nat.ne_of_beq_eq_false this.1,fun o o' ho mR hs=>?_⟩;have:=this.2;rw[ho,mR]at this;simpa[hs]using this
theorem Ga {ro : Option Nat} {P : Program} {H : Hint} {call : cF} {f : FuncId} {nt : Nat} {ops : Array Oper} {id : Nat} {J : dM} {s s' : St} {w : World} {a : Act} (hm : P.follows .mixedOrders = true) (fE : gT P call) (LA : aX call)
    (h : rL P H call f nt ops s = some s') (hR : HR J s w) (hE : ER J s a) (hn : nt ≤ a.tmps.size) :
    (Code.region id ops true).wpIn (Wd ro) 0 P (fun e a' w' => e = .normal ∧ F2 J s w a s' a' w') a w := by
  unfold rL at h
  cases hd : nR ops (fY ops) with
  | false => rw [hd] at h; simp at h
  | true =>
    rw [hd] at h
    simp only [cond_true] at h
    split at h
    · rename_i r iB hr
      cases hf : Df ops (s.h.next + ops.size) iB with
      | false => rw [hf] at h; simp at h
      | true =>
        rw [hf] at h
        simp only [cond_true, oi] at h
        subst h
        obtain ⟨d1, d2, d3, d4⟩ := DM hd
        obtain ⟨S, V, X, W, t1, t2, t3, t4⟩ := xS P H call f nt ops s.h.next s.kn (fY ops) 0 (s.jt ops.size) r iB hr
        simp only [Nat.zero_add] at t2 t4
        have T : Tr P H call f nt ops s.h.next s.kn (fY ops) S V X W :=
          { len := d1
            step := fun i p hp => let ⟨o, h1, _, h3⟩ := t4 i p hp; ⟨o, h1, h3⟩
            Pj := fun i k p q Hz hp hq => (d4 i k p q Hz hp hq).1
            SE := fun i k p q o o' Hz hp hq ho mR hc => by
              rcases hc with hc | hc
              · exact (d4 i k p q Hz hp hq).2 o o' ho mR hc
              · obtain ⟨_, _, f1, _⟩ := t4 i p hp
                obtain ⟨_, _, f2, _⟩ := t4 k q hq
                have := sh iB hf i k _ _ Hz f1 f2
                simpa [hc] using this
            dD := by rw [t1]; exact Nat.le_refl _
            kn := by rw [t1]; rfl
            dL := LA }
        rw [d1] at t2
        refine wpIn_region_any hm ?_
        refine Inv.any (J0 := J) (s0 := s) (w0 := w) (a0 := a) fE T hn d2 d3 ?_ ops.size _ a _ J (s.jt ops.size) (by simp) ?_ ?_ ?_
        · intro a' w' J' s2 I
          refine ⟨rfl, J', ?_, ?_, I.size, I.defers, I.DH⟩
          · have LB : ∀ (j p : Nat), (fY ops)[j]? = some p → (p < ops.size ↔ j < ops.size) := fun j p hj => by
              obtain ⟨o', mR, Q9⟩ := T.op hj
              exact ⟨fun _ => Q9, fun _ => (Array.getElem?_eq_some_iff.1 mR).1⟩
            rw [← t2]
            refine I.ph.swap ?_ ?_ (fun k L hL => ?_) (fun t L hL => ?_) I.low
            · rw [I.next ops.size (Nat.le_refl _) (fun j p hj _ => LB j p hj)]; exact Nat.le_refl _
            · rw [I.kn, T.SG _ (Nat.le_refl _)]; exact Nat.le_refl _
            · exact (I.g k L ops.size (Nat.le_refl _) hL (fun j p hj _ => LB j p hj)).symm
            · exact (I.lk t L ops.size (Nat.le_refl _) hL (fun j p hj _ => LB j p hj)).symm
          · intro t v hv
            rw [← t2] at hv
            exact I.env t v ops.size (Nat.le_refl _) (fun j p o hj ho _ => by
              obtain ⟨o', mR, Q9⟩ := T.op hj
              exact ⟨fun _ => Q9, fun _ => (Array.getElem?_eq_some_iff.1 mR).1⟩) hv
        · exact Nat.le_trans (List.length_filter_le _ _) (by simp)
        · intro q o hq
          exfalso
          unfold v7 at hq
          simp [Array.getD] at hq
        · have FR : ∀ q, ¬ v7 (Array.replicate ops.size false) q := fun q hq => by unfold v7 at hq; simp [Array.getD] at hq
          have VE := (Good.jt hR ops.size ops.size).VD (w.drawn + 1)
          refine { kn := rfl, next := ?_, dD := Nat.le_refl _, g := ?_, lk := ?_, low := ?_, ph := VE, DH := .refl _ _, BJ := ?_, DI := ?_, env := ?_, size := rfl, defers := rfl }
          · intro k hk h
            have := T.BI k 0 om (fun j _ h2 => by
              cases hq : (X j).fw with
              | false => rfl
              | true =>
                exfalso
                obtain ⟨pj, oj, hj, _, _⟩ := T.at (i := j) om
                exact FR _ ((h j pj hj hq).2 om))
            rw [Nat.zero_add] at this
            rw [this, t1]
          · intro id L k hk _ h
            have := T.wC (id := id) k 0 om (fun j _ h2 hq => by
              obtain ⟨pj, oj, hj, _, _⟩ := T.at (i := j) om
              exact FR _ ((h j pj hj hq).2 om))
            rw [Nat.zero_add] at this
            rw [this, t1]
          · intro t L k hk _ h
            have := T.BG (t := t) k 0 om (fun j _ h2 hq => by
              obtain ⟨pj, oj, hj, _, _⟩ := T.at (i := j) om
              exact FR _ ((h j pj hj hq).2 om))
            rw [Nat.zero_add] at this
            rw [this, t1]
          · have := T.HG ops.size 0 om
            rw [t1, Nat.zero_add] at this
            exact this
          · intro j p hj hs
            exfalso
            cases hq : J.g (s.h.next + j) with
            | none => rw [hq] at hs; cases hs
            | some L => have := hR.cU _ _ hq; omega
          · intro j p hj hs
            exfalso
            cases hq : J.l (s.kn + j) with
            | none => rw [hq] at hs; cases hs
            | some L => have := hR.fe _ _ hq; omega
          · intro t v k hk h hv
            have := T.BH (t := t) k 0 om (fun j p o _ h2 hj ho hd => FR _ ((h j p o hj ho hd).2 om))
            rw [Nat.zero_add] at this
            rw [this, t1] at hv
            exact hE t v hv
    · cases h
end Go.cV
namespace Go.cV
variable{P:Program}{w:World}{J:dM}{s:St}
theorem n7{env:cW Value}:∀(l:List Tmp) (acc:cW Value) (t:Tmp) (v:Value),(restrict env l acc).get t=some v->acc.get t=some v\/(t∈l/\env.get t=some v)
 | [],acc,t,v,h=>.inl h
 |u :: l,acc,t,v,h=>by
  simp only[restrict]at h;split at h
  ·rename_i x hx
   rcases n7 l _ t v h with h1|⟨h1,h2⟩
   ·rw[cW.bO]at h1
    by_cases e:u=t
    ·subst e;rw[if_pos rfl]at h1;obtain rfl:=Option.some.inj h1;exact .inr ⟨by simp,hx⟩
    ·rw[if_neg e]at h1;exact .inl h1
   ·exact .inr ⟨by simp[h1],h2⟩
  ·rcases n7 l _ t v h with h1|⟨h1,h2⟩
   ·exact .inl h1
   ·exact .inr ⟨by simp[h1],h2⟩
theorem DN {H : Hint} {f : FuncId} {c : Code} {kn : Nat} {s1 : St} {a : Act} (h : norm H f c kn s = some s1) (hR : HR J s w) (hE : ER J s a) : ∃ J1, Good J s w J1 s1 w ∧ ER J1 s1 a ∧ J1.g = J.g := by
  unfold norm at h
  split at h
  · simp only [oi] at h; subst h; exact ⟨J, .refl hR, hE, rfl⟩
  · rename_i l _
    simp only [] at h
    rw [Bool.cond_eq_ite] at h
    split at h
    · rename_i hb
      simp only [oi] at h
      subst h
      simp only [Bool.and_eq_true, List.all_eq_true] at hb
      have hk := Nat.le_of_ble_eq_true hb.1
      let J1 : dM := ⟨J.g, fun t => if t < kn then J.l t else none⟩
      have hl : ∀ t L, J1.l t = some L → t < kn ∧ J.l t = some L := by
        intro t L ht
        simp only [J1] at ht
        by_cases e : t < kn
        · rw [if_pos e] at ht; exact ⟨e, ht⟩
        · rw [if_neg e] at ht; cases ht
      refine ⟨J1, ?_, ?_, rfl⟩
      · exact { hr := { cU := hR.cU, dm := hR.dm, cK := hR.cK, dn := hR.dn, fe := fun t L h => (hl t L h).1, dX := fun t L h => hR.dX t L (hl t L h).2, ff := fun t t' L L' h h' => hR.ff t t' L L' (hl t L h).2 (hl t' L' h').2, sep := fun id t L L' h h' => hR.sep id t L L' h (hl t L' h').2 }
                mono := fun _ _ h => h, next := Nat.le_refl _, low := Nat.le_refl _, size := Nat.le_refl _, os := rfl, tape := rfl, output := rfl
                fresh := fun id L h1 h2 => absurd h1 (by rw [h2]; simp)
                cL := fun t L h1 => .inr ⟨t, L, (hl t L h1).2, rfl⟩
                frame := fun _ _ _ _ => rfl }
      · intro t v hv
        have VF : (restrict s.env l .leaf).get t = some v := hv
        rcases n7 l .leaf t v VF with h1 | ⟨h1, h2⟩
        · simp [cW.get] at h1
        · obtain ⟨e1, e2⟩ := hE t v h2
          refine ⟨e1, ?_⟩
          have Pr := hb.2 t h1
          rw [VF] at Pr
          simp only [] at Pr
          generalize a.tmps.getD t undef = cv at e2 ⊢
          cases e2 with
          | c7 _ _ h => exact .c7 _ _ h
          | loc ad x L hs h =>
            refine .loc ad x L hs ?_
            simp only [sV, hs, Option.isNone_some, Bool.false_or] at Pr
            show (if ad.block < kn then J.l ad.block else none) = some L
            have dW : ad.block < kn := Nat.le_of_ble_eq_true Pr
            rw [if_pos dW]; exact h
    · cases h
theorem xV{a:Act}(hR:HR J s w)(hE:ER J s a)(g:ResultVar->Sem Value)(Uu:∀t,g (.tmp t)=pure (a.tmps.getD t undef))(Uv:∀x t,g (.cell x t)=(do loadVar t (<-asAddr (a.tmps.getD x undef)))) :
  ∀(rs:List ResultVar) (l:List Value),vU P s rs=some l->l.all dA=true->∃cs,(rs.mapM g).run P w=.ok cs w/\fJ J.g l cs
 | [],l,h,_=>by
  simp only[vU,oi]at h;subst h;exact⟨[],by simp,.nil _⟩
 | .tmp t :: rs,l,h,hn=>by
  simp only[vU]at h;split at h
  ·rename_i v hv
   split at h
   ·rename_i l' hl
    simp only[oi]at h;subst h;simp only[List.all_cons,Bool.and_eq_true]at hn;obtain⟨cs,h1,h2⟩:=xV hR hE g Uu Uv rs l' hl hn.2;refine⟨a.tmps.getD t undef :: cs,?_,.cons ((hE t v hv).2.pK hn.1) h2⟩;rw[List.mapM_cons,Uu];simp only[Sem.run_bind,Sem.run_pure,Result.andThen_ok,h1]
   ·cases h
  ·cases h
 | .cell x t :: rs,l,h,hn=>by
  simp only[vU]at h;split at h
  ·rename_i ad hv
   split at h
   ·rename_i v X7
    split at h
    ·rename_i l' hl
     simp only[oi]at h;subst h;simp only[List.all_cons,Bool.and_eq_true]at hn;obtain⟨cs,h1,h2⟩:=xV hR hE g Uu Uv rs l' hl hn.2;obtain⟨L,hL,hc⟩:=(hE x _ hv).2.pI;obtain⟨c,h3,h4⟩:=AE hR hL X7;refine⟨c :: cs,?_,.cons h4 h2⟩;rw[List.mapM_cons,Uv,hc];simp only[Sem.run_bind,Sem.run_pure,Result.andThen_ok,h1,asAddr,h3]
    ·cases h
   ·cases h
  ·cases h
theorem vw{fn:Func}{a:Act}{l:List Value}(hR:HR J s w)(hE:ER J s a)(h:vU P s fn.results.toList=some l)(hn:l.all dA=true):∃c,(results fn a.tmps).run P w=.ok c w/\VG J.g (js l) c:=by
 let g:ResultVar->Sem Value:=fun r=>match r with | .tmp t=>pure (a.tmps.getD t undef) | .cell x t=>do loadVar t (<-asAddr (a.tmps.getD x undef))
 have z8:results fn a.tmps=(do let vs <-fn.results.mapM g;pure (if h:vs.size=1 then vs[0] else .tuple vs)):=rfl;obtain⟨cs,h1,h2⟩:=xV (P:=P) hR hE g (fun t=>rfl) (fun x t=>rfl) fn.results.toList l h hn;rw[z8,Array.mapM_eq_mapM_toList];simp only[Sem.run_bind,Sem.run_pure,Result.andThen_ok];rw[map_eq_pure_bind];simp only[Sem.run_bind,Sem.run_pure,Result.andThen_ok,h1];refine⟨_,rfl,?_⟩;by_cases e:cs.length=1
 ·rw[dif_pos (by simpa using e)]
  obtain⟨c,rfl⟩:=List.length_eq_one_iff.1 e;obtain⟨v,rfl⟩:=List.length_eq_one_iff.1 (h2.1.trans e);exact h2.2 0 v c rfl rfl
 ·rw[dif_neg (by simpa using e)]
  have:js l=.tuple l.toArray:=by
   unfold js;split
   ·exact absurd h2.1.symm (by simpa using e)
   ·rfl
  rw[this];exact h2.tuple
def LC(D:Nat):Deferred:={ target:=.collected D,args:=#[] }
def Marks(J':dM)(w w':World)(ds ds':List Deferred):Prop:=
 ∃Ds:List Nat,ds'=Ds.map LC++ds/\Ds.Nodup /\
  ∀D∈Ds,w.heap.size<=D/\w'.heap[D]?=some (.deferred (some []))/\(∀id L,J'.g id=some L->L.b≠D)/\(∀t L,J'.l t=some L->L.b≠D)
theorem Marks.none(J':dM)(w w':World)(ds:List Deferred):Marks J' w w' ds ds:=⟨[],rfl,.nil,fun D h=>by cases h⟩
theorem Good.apart{J1 J2:dM}{s1 s2:St}{w1 w2:World}(k:Good J1 s1 w1 J2 s2 w2){D:Nat}(hD:D<w1.heap.size)(hg:∀id L,J1.g id=some L->L.b≠D)(hl:∀t L,J1.l t=some L->L.b≠D) :
  w2.heap[D]?=w1.heap[D]?/\(∀id L,J2.g id=some L->L.b≠D)/\(∀t L,J2.l t=some L->L.b≠D):=by
 refine⟨k.frame D hD (fun id L h e=>absurd e (hg id L h)) hl,fun id L h e=>?_,fun t L h e=>?_⟩
 ·cases h1:J1.g id with
  |some L1=>
   have:=k.mono _ _ h1;rw[h]at this;obtain rfl:=Option.some.inj this;exact hg _ _ h1 e
  |none=>
   rcases k.fresh id L h h1 with q|⟨Fm,L0,x,y,_⟩
   ·omega
   ·exact hg _ _ x (y.trans e)
 ·rcases k.cL t L h with q|⟨t0,L0,x,y⟩
  ·omega
  ·exact hl _ _ x (y.trans e)
theorem Marks.trans{J1 J2:dM}{s1 s2:St}{w1 w2:World}{ds Zu Zv:List Deferred}(h:Marks J1 w w1 ds Zu)(uB:w.heap.size<=w1.heap.size)(k:Good J1 s1 w1 J2 s2 w2)(m:Marks J2 w1 w2 Zu Zv):Marks J2 w w2 ds Zv:=by
 obtain⟨D1,rfl,n1,p1⟩:=h;obtain⟨D2,rfl,n2,p2⟩:=m;have dW:∀D∈D1,D<w1.heap.size:=fun D hD=>(Array.getElem?_eq_some_iff.1 (p1 D hD).2.1).1
 refine⟨D2++D1,by simp,?_,?_⟩
 ·rw[List.nodup_append]
  refine⟨n2,n1,fun a ha b hb e=>?_⟩;have:=(p2 a ha).1;have:=dW b hb;omega
 ·intro D hD
  rcases List.mem_append.1 hD with hD|hD
  ·obtain⟨q1,q2⟩:=p2 D hD
   exact⟨Nat.le_trans uB q1,q2⟩
  ·obtain⟨q1,q2,q3,q4⟩:=p1 D hD
   obtain⟨r1,r2,r3⟩:=k.apart (dW D hD) q3 q4;exact⟨q1,r1.trans q2,r2,r3⟩
def kM(J:dM)(s:St)(w:World)(a:Act)(s':St)(a':Act)(w':World):Prop:=
 ∃J',Good J s w J' s' w'/\ER J' s' a'/\a'.tmps.size=a.tmps.size/\Marks J' w w' a.defers a'.defers/\fG (s.h.next<=·) J.g J'.g
theorem F2.toM{s':St}{w':World}{a a':Act}(h:F2 J s w a s' a' w'):kM J s w a s' a' w':=by
 obtain⟨J',q1,q2,q3,q4,q5⟩:=h;exact⟨J',q1,q2,q3,by rw[q4];exact .none _ _ _ _,q5⟩
theorem kM.trans{J1:dM}{s1 s2:St}{w1 w2:World}{a a1 a2:Act}(hG:Good J s w J1 s1 w1)(hs:a1.tmps.size=a.tmps.size)(hd:Marks J1 w w1 a.defers a1.defers)(hA:fG (s.h.next<=·) J.g J1.g)(h:kM J1 s1 w1 a1 s2 a2 w2):kM J s w a s2 a2 w2:=by
 obtain⟨J2,q1,q2,q3,q4,q5⟩:=h;exact⟨J2,hG.trans q1,q2,by rw[q3,hs],hd.trans hG.size q1 q4,hA.trans (q5.mono (fun k hk=>Nat.le_trans hG.next hk))⟩
theorem qR(w:World)(o:Obj){k:Nat}(hk:k<w.heap.size):(w.alloc o).heap[k]?=w.heap[k]?:=by
 show(w.heap.push _)[k]?=_;rw[Array.getElem?_push,if_neg om]
theorem Good.alloc(h:HR J s w)(o:Obj):Good J s w J s (w.alloc o) where
 hr:={ cU:=h.cU,dm:=(fun id L hL=>by rw[qR w o (h.lt hL)];exact h.dm id L hL),cK:=(fun id L b hL hm=>by rw[qR w o (h.lt hL)];exact h.cK id L b hL hm),dn:=h.dn,fe:=h.fe,dX:=(fun t L hL=>by rw[qR w o (h.K4 hL)];exact h.dX t L hL),ff:=h.ff,sep:=h.sep }
 mono:=fun _ _ h=>h
 next:=Nat.le_refl _
 low:=Nat.le_refl _
 size:=by simp
 os:=rfl
 tape:=rfl
 output:=rfl
 fresh:=(fun id L h1 h2=>by rw[h2]at h1;cases h1)
 cL:=fun t L h1=>.inr ⟨t,L,h1,rfl⟩
 frame:=fun b hb _ _=>qR w o hb
theorem Good.VH{J':dM}{s':St}{w':World}(h:Good J s w J' s' w'){D:Nat}(hD:w.heap.size<=D)(hg:∀id L,J'.g id=some L->L.b≠D)(hl:∀t L,J'.l t=some L->L.b≠D)(o:Obj):Good J s w J' s' (w'.putObj D o) where
 hr:={ cU:=h.hr.cU,dm:=(fun id L hL=>by rw[World.putObj_heap_other (hg id L hL)];exact h.hr.dm id L hL),cK:=(fun id L b hL hm=>by rw[World.putObj_heap_other (hg id L hL)];exact h.hr.cK id L b hL hm),dn:=h.hr.dn,fe:=h.hr.fe,dX:=(fun t L hL=>by rw[World.putObj_heap_other (hl t L hL)];exact h.hr.dX t L hL),ff:=h.hr.ff,sep:=h.hr.sep }
 mono:=h.mono
 next:=h.next
 low:=h.low
 size:=by simp;exact h.size
 os:=h.os
 tape:=h.tape
 output:=h.output
 fresh:=h.fresh
 cL:=h.cL
 frame:=fun b hb q1 q2=>(World.putObj_heap_other om).trans (h.frame b hb q1 q2)
theorem n8{fn:Func}{tmps:Array Value}{R:Ending->World->Prop}(I:World->Prop)(z8:∀w',I w'->∃v,(results fn tmps).run P w'=.ok v w'/\R (.returned v) w') :
  ∀(Ds:List Nat) (w:World),Ds.Nodup->(∀D∈Ds,w.heap[D]?=some (.deferred (some [])))->I w->(∀w' D,I w'->D∈Ds->I (w'.putObj D (.deferred none)))->LeavesInM Fence.wide 0 P fn tmps R (Ds.map LC) .returning w
 | [],w,_,_,hI,_=>z8 w hI
 |D :: Ds,w,hn,hd,hI,hs=>by
  refine⟨by simp,.inl ⟨D,w.putObj D (.deferred none),rfl,run_takeDeferred (hd D (by simp)),?_⟩⟩;rw[List.nodup_cons]at hn;refine n8 I z8 Ds _ hn.2 (fun E hE=>?_) (hs w D hI (by simp)) (fun w' E h1 h2=>hs w' E h1 (by simp[h2]));rw[World.putObj_heap_other (fun e=>hn.1 (by rw[<-e];exact hE))];exact hd E (by simp[hE])
def xW(P:Program)(run:FuncId->Nat->Code->St->Option (Exit×St)):Prop:=∀f nt c s x s',run f nt c s=some (x,s')->∀ro,(ro=none\/bD c=true)->∀J w a,HR J s w->ER J s a->nt<=a.tmps.size->c.wpIn (Wd ro) 0 P (fun e a' w'=>e=x/\kM J s w a s' a' w') a w
def BK(P:Program)(loop:FuncId->Nat->Code->Nat->St->Option (Exit×St)):Prop:=∀f nt c kn s x s',loop f nt c kn s=some (x,s')->∀ro,(ro=none\/bD c=true)->∃n,∀J w a,HR J s w->ER J s a->nt<=a.tmps.size->∀Q:Exit->Act->World->Prop,(∀a' w',kM J s w a s' a' w'->Q x a' w')->Code.roundsIn (Wd ro) 0 P c Q n a w
theorem si{next:Act->World->Prop}{Q:Exit->Act->World->Prop}{x:Exit}{a:Act}{w:World}(h:x≠.normal)(hq:Q x a w):Exit.then next Q x a w:=by
 cases x<;>first|exact absurd rfl h|exact hq
theorem ia{g : FuncId}{fn : Func}{args : Array Value}(hf : P.funcs[g]? = some fn)(hb : fn.body.isSome = true)(cG : (fn.name == "runtime.NumGoroutine") = false) : (callFunc g args).run P w = .ok (.enter g args) w := by
 unfold callFunc;have vr:fn.body≠none:=by cases h:fn.body<;>simp_all
 have FY : fn.name ≠ "runtime.NumGoroutine" := by simpa using cG
 simp[hf,FY,vr]
theorem DO{call : cF}(fE : gT P call)(cG : ∀ (g : FuncId) (fn : Func), P.funcs[g]? = some fn → (fn.name == "runtime.NumGoroutine") = false){f : FuncId}{nt : Nat}{x : Operand}{ps : Array Tmp}{assign body : Code}{s' : St}{e : Exit}{a : Act}
  (h:pD P call f nt x ps assign body s=some (e,s')) (hR:HR J s w) (hE:ER J s a) (hn:nt<=a.tmps.size) :
  (Code.rangeFunc x ps assign body).wpIn (Wd none) 0 P (fun e' a' w'=>e'=e/\kM J s w a s' a' w') a w:=by
 unfold pD at h;cases SP:(bD assign && bD body)with
 |false=>rw[SP]at h;simp at h
 |true=>
 rw[SP]at h;simp only[cond_true]at h;split at h
 ·rename_i g first captured Rd
  cases hb:(Nat.blt g aW && wq P g)with
  |false=>rw[hb]at h;simp at h
  |true=>
  rw[hb]at h;simp only[cond_true]at h;simp only[Bool.and_eq_true]at hb;obtain⟨Zw,HK⟩:=hb;have dW:g<aW:=Nat.le_of_ble_eq_true Zw;obtain⟨SQ,zJ,hgb⟩:∃SQ,P.funcs[g]?=some SQ/\SQ.body.isSome=true:=by
   unfold wq at HK;split at HK
   ·rename_i SQ zJ;exact⟨SQ,zJ,HK⟩
   ·cases HK
  split at h
  ·rename_i v h2 hr
   obtain⟨x',y',hf,Q7,Sz⟩:=((hE.eval Rd).aZ (fun a=>by simp)).K0;refine wpIn_rangeFunc fun fn _=>?_
   obtain⟨rc,hrc⟩:∃rc:Loop,rc = { state:=.ready,pending:=none,fn:=fn,tmps:=a.tmps,params:=ps,assign:=assign,body:=body,defers:=w.heap.size }:=⟨_,rfl⟩;have g0:=Good.alloc hR (.deferred (some []));obtain⟨J1,g1,l1,gid,ad1⟩:=g0.hr.gW (b:=.loop .ready none f nt (s.env.dL dA) ps.toList assign body) (o:=.loop rc) (by simp) (fun g' vW=>⟨fn,a.tmps,ps,w.heap.size,by rw[hrc],rfl,hn,fun t u hu=>by
    obtain⟨q1,q2⟩:=cW.xi dA _ t u hu;exact⟨(hE t u q1).1,((hE t u q1).2.pK q2).mono vW⟩⟩)
   have uB:(w.alloc (.deferred (some []))).heap.size=w.heap.size+1:=by simp
   have Vn:fJ J1.g (first.toList++[.func (.yield s.h.next) #[] #[]]++captured.toList) (x'.toList++[.func (.yield (w.heap.size+1)) #[] #[]]++y'.toList):=by
    have hy:=VG.yield (g:=J1.g) s.h.next _ gid;simp only[uB]at hy;exact((Q7.mono g1.mono).append (.cons hy (.nil _))).append (Sz.mono g1.mono)
   have hd:=fE.1 g _ _ v h2 hr dW J1.g _ _ g1.hr.bare Vn;have SR:=hd.Sx zJ hgb (cG g SQ zJ);refine⟨w.heap.size+1,[{ target:=.collected w.heap.size,args:=#[] }],(w.alloc (.deferred (some []))).alloc (.loop rc),{ target:=.fn (.func g) y',args:=x'++#[.func (.yield (w.heap.size+1)) #[] #[]] },(w.alloc (.deferred (some []))).alloc (.loop rc),g,(x'.toList++[Value.func (.yield (w.heap.size+1)) #[] #[]]++y'.toList).toArray,(w.alloc (.deferred (some []))).alloc (.loop rc),(by rw[hrc];exact run_enterLoop_outer fn a.tmps ps assign body),?_,fun _ _=>trivial,?_,(fun q=>by simp[Wd,Fence.wide]at q),?_⟩
   ·have La:a.eval x=.func (.func g) x' y':=hf
    simp only[resolve,rangeCall,La,Deferred.ofValue];simp[Act.eval]
   ·have e2:invoke (.fn (.func g) y') (x'++#[.func (.yield (w.heap.size+1)) #[] #[]])=callFunc g (x'++#[.func (.yield (w.heap.size+1)) #[] #[]]++y'):=rfl
    show(invoke (.fn (.func g) y') (x'++#[.func (.yield (w.heap.size+1)) #[] #[]])).run P _=_;rw[e2,ia zJ hgb (cG g SQ zJ)]
    congr 2
    apply Array.ext';simp
   ·refine CallsIn.mono (F:=Wd none) (n:=0-1) (callsIn_wide.2 SR) ?_
    rintro e9 w3 ⟨c,rfl,G',hv,hG,hA⟩;have k:=Good.call g1.hr hG;have VI:G' s.h.next=some ⟨(w.alloc (.deferred (some []))).heap.size,0,0,0⟩:=hG.mono _ _ gid;have fin:∀st nQ f1 OJ zR OL VJ VK,h2.m.get s.h.next=some (.loop st nQ f1 OJ zR OL VJ VK)->st≠.busy->uz { s with h:=h2.jl s.h.next .dead } nQ=some (e,s')->
      rangePost (Wd none) 0 P (w.heap.size+1) (fun e' a' w'=>e'=e/\kM J s w a s' a' w') { a with defers:=[{ target:=.collected w.heap.size,args:=#[] }]++a.defers } (.returned c) w3:=by
     intro st nQ f1 OJ zR OL VJ VK hm uD hl;obtain⟨Q2,LD,BL,D',ho,_⟩:=k.hr.cK _ _ _ VI hm;have mR:w3.heap[w.heap.size+1]?=some (.loop { state:=st,pending:=nQ,fn:=Q2,tmps:=LD,params:=BL,assign:=VJ,body:=VK,defers:=D' }):=by
      rw[<-uB];exact ho
     have k2:=k.hr.jl (b:=.dead) VI hm rfl (o:=.loop { state:=.exhausted,pending:=nQ,fn:=Q2,tmps:=LD,params:=BL,assign:=VJ,body:=VK,defers:=D' }) (by simp) trivial;have kk:=g1.trans (k.trans k2);have AD:=g0.trans kk;obtain⟨r1,r2,r3⟩:=kk.apart (D:=w.heap.size) (by rw[uB];omega) (fun id L hL e=>by have:=hR.lt hL;omega) (fun t L hL e=>by have:=hR.K4 hL;omega);have hD:(w.alloc (.deferred (some []))).heap[w.heap.size]?=some (.deferred (some [])):=World.alloc_heap_new w _;have tr:kM J s w a { s with h:=h2.jl s.h.next .dead } { a with defers:=[{ target:=.collected w.heap.size,args:=#[] }]++a.defers } (w3.putObj (w.heap.size+1) (.loop { state:=.exhausted,pending:=nQ,fn:=Q2,tmps:=LD,params:=BL,assign:=VJ,body:=VK,defers:=D' })):=by
      rw[<-uB];refine⟨⟨G',J1.l⟩,AD,?_,rfl,⟨[w.heap.size],rfl,by simp,fun D VL=>?_⟩,?_⟩
      ·intro t u hu
       refine⟨(hE t u hu).1,(hE t u hu).2.mono AD.mono (fun t L hL=>?_)⟩;show J1.l t=some L;rw[l1];exact hL
      ·simp only[List.mem_singleton]at VL
       subst VL;exact⟨Nat.le_refl _,r1.trans hD,r2,r3⟩
      ·exact ad1.trans (hA.mono (fun k hk=>by simp only[af.gW]at hk;omega))
     refine⟨nQ,_,run_endLoop mR uD,?_⟩;unfold uz at hl;split at hl
     ·simp only[oi,pj]at hl;obtain⟨rfl,rfl⟩:=hl
      exact⟨rfl,tr⟩
     ·simp only[oi,pj]at hl;obtain⟨rfl,rfl⟩:=hl
      exact wpIn_ret ⟨rfl,tr⟩
     ·simp only[oi,pj]at hl;obtain⟨rfl,rfl⟩:=hl
      exact wpIn_exit ⟨rfl,tr⟩
     ·cases hl
    split at h
    ·rename_i hm;exact fin _ _ _ _ _ _ _ _ hm (by simp) h
    ·rename_i hm;exact fin _ _ _ _ _ _ _ _ hm (by simp) h
    ·cases h
  ·cases h
 ·cases h
theorem Ps{H : Hint}{r : Rec}(hm : P.follows .mixedOrders = true)(cG : ∀ (g : FuncId) (fn : Func), P.funcs[g]? = some fn → (fn.name == "runtime.NumGoroutine") = false)(h1 : xW P r.run)(h2 : BK P r.loop)(h3 : gT P r.call)(h4 : aX r.call) : xW P (nS P H r) := by
 intro f nt c s x s' h ro ON J w a hR hE hn;have LF:kM J s w a s a w:=⟨J,.refl hR,hE,rfl,.none _ _ _ _,.refl _ _⟩;unfold nS at h;split at h
 ·simp only[oi,pj]at h;obtain⟨rfl,rfl⟩:=h
  exact wpIn_skip ⟨rfl,LF⟩
 ·simp only[oi,pj]at h;obtain⟨rfl,rfl⟩:=h
  exact wpIn_ret ⟨rfl,LF⟩
 ·simp only[oi,pj]at h;obtain⟨rfl,rfl⟩:=h
  exact wpIn_exit ⟨rfl,LF⟩
 ·rename_i ca cb
  have X8:ro=none\/bD ca=true:=ON.imp id (fun q=>by simp only[bD,Bool.and_eq_true]at q;exact q.1);have X9:ro=none\/bD cb=true:=ON.imp id (fun q=>by simp only[bD,Bool.and_eq_true]at q;exact q.2);split at h
  ·rename_i s1 ha
   refine wpIn_seq (wpIn_mono (h1 f nt ca s _ s1 ha ro X8 J w a hR hE hn) ?_);rintro e a1 w1 ⟨rfl,J1,q1,q2,q3,q4,q5⟩;show cb.wpIn (Wd ro) 0 P _ a1 w1;refine wpIn_mono (h1 f nt cb s1 x s' h ro X9 J1 w1 a1 q1.hr q2 (by rw[q3];exact hn)) ?_;rintro e a2 w2 ⟨rfl,hp⟩;exact⟨rfl,kM.trans q1 q3 q4 q5 hp⟩
  ·rename_i hx
   refine wpIn_seq (wpIn_mono (h1 f nt ca s x s' h ro X8 J w a hR hE hn) ?_);rintro e a1 w1 ⟨rfl,hp⟩;exact si (fun e=>by subst e;exact hx s' h) ⟨rfl,hp⟩
 ·rename_i y ca cb
  split at h
  ·rename_i t ht
   have:=((hE.eval ht).aZ (fun a=>by simp)).bool;refine wpIn_cond this ?_;have:=h1 f nt _ s x s' h ro (ON.imp id (fun q=>by simp only[bD,Bool.and_eq_true]at q;cases t<;>simp[q.1,q.2])) J w a hR hE hn;cases t<;>exact this
  ·cases h
 ·rename_i id cb
  have X9:ro=none\/bD cb=true:=ON;split at h
  ·rename_i pF s1 hb
   refine wpIn_block (wpIn_mono (h1 f nt cb s _ s1 hb ro X9 J w a hR hE hn) ?_);rintro e a1 w1 ⟨rfl,hp⟩;cases mq:Nat.beq pF id with
   |true=>
    rw[mq]at h;simp only[cond_true,oi,pj]at h;obtain⟨rfl,rfl⟩:=h;simp only[Exit.inBlock,if_pos (Nat.eq_of_beq_eq_true mq)];exact⟨trivial,hp⟩
   |false=>
    rw[mq]at h;simp only[cond_false,oi,pj]at h;obtain⟨rfl,rfl⟩:=h;simp only[Exit.inBlock,if_neg (Nat.ne_of_beq_eq_false mq)];exact⟨trivial,hp⟩
  ·rename_i hx
   refine wpIn_block (wpIn_mono (h1 f nt cb s x s' h ro X9 J w a hR hE hn) ?_);rintro e a1 w1 ⟨rfl,hp⟩;cases e with
   |exit pF=>exact absurd h (hx pF s')
   |_=>exact⟨rfl,hp⟩
 ·rename_i cb
  obtain⟨n,hl⟩:=h2 f nt cb s.kn s x s' h ro ON;exact wpIn_loop_rounds n (hl J w a hR hE hn _ (fun a' w' hp=>⟨rfl,hp⟩))
 ·rename_i id ops draw
  split at h
  ·rename_i s1 fV
   simp only[oi,pj]at h;obtain⟨rfl,rfl⟩:=h;cases draw with
   |true=>exact wpIn_mono (Ga hm h3 h4 fV hR hE hn) (fun e a w q=>⟨q.1,q.2.toM⟩)
   |false=>exact wpIn_mono (DA h3 fV hR hE hn) (fun e a w q=>⟨q.1,q.2.toM⟩)
  ·cases h
 ·rcases ON with rfl|q
  ·exact DO h3 cG h hR hE hn
  ·simp[bD]at q
 ·cases h
theorem LG{H:Hint}{r:Rec}(h1:xW P r.run)(h2:BK P r.loop):BK P (pG H r):=by
 intro f nt c kn s x s' h ro ON;unfold pG at h;split at h
 ·cases h
 ·rename_i s1 fV
  split at h
  ·rename_i s2 hb
   obtain⟨n,hl⟩:=h2 f nt c kn s2 x s' h ro ON;refine⟨n+1,fun J w a hR hE hn Q hQ=>?_⟩;obtain⟨J1,g1,g2,g3⟩:=DN fV hR hE;refine wpIn_mono (h1 f nt c s1 _ s2 hb ro ON J1 w a g1.hr g2 hn) ?_;rintro e a1 w1 ⟨rfl,J2,q1,q2,q3,q4,q5⟩;show Code.roundsIn (Wd ro) 0 P c Q n a1 w1;refine hl J2 w1 a1 q1.hr q2 (by rw[q3];exact hn) Q (fun a' w' hp=>hQ a' w' ?_);exact kM.trans g1 rfl (.none _ _ _ _) (by rw[g3];exact .refl _ _) (kM.trans q1 q3 q4 q5 hp)
  ·rename_i hx
   refine⟨1,fun J w a hR hE hn Q hQ=>?_⟩;obtain⟨J1,g1,g2,g3⟩:=DN fV hR hE;refine wpIn_mono (h1 f nt c s1 x s' h ro ON J1 w a g1.hr g2 hn) ?_;rintro e a1 w1 ⟨rfl,hp⟩;exact si (fun e=>by subst e;exact hx s' h) (hQ a1 w1 (kM.trans g1 rfl (.none _ _ _ _) (by rw[g3];exact .refl _ _) hp))
theorem pT:∀(l:List Value) (i:Nat) (acc:cW Value) (t:Nat),(fM l i acc).get t=if i<=t/\t<i+l.length then l[t-i]? else acc.get t
 | [],i,acc,t=>by simp[fM];intro h1 h2;omega
 |v :: l,i,acc,t=>by
  simp only[fM];rw[pT l (i+1) _ t,cW.bO];rcases Nat.lt_trichotomy t i with h|h|h
  ·rw[if_neg om,if_neg om,if_neg om]
  ·subst h;rw[if_neg om,if_pos rfl,if_pos (by simp)];simp
  ·by_cases h2:t<i+1+l.length
   ·rw[if_pos om,if_pos (by simp;omega)]
    rw[show t-i=(t-(i+1))+1 by omega];simp
   ·rw[if_neg om,if_neg om,if_neg (by simp;omega)]
theorem Good.bare{G:Nat->Option Loc}{J':dM}{s':St}{w':World}(h:Good ⟨G,fun _=>none⟩ s w J' s' w'):Good ⟨G,fun _=>none⟩ (iC s.h) w ⟨J'.g,fun _=>none⟩ (iC s'.h) w':=
 { hr:=h.hr.bare,mono:=h.mono,next:=h.next,low:=h.low,size:=h.size,os:=h.os,tape:=h.tape,output:=h.output,fresh:=h.fresh,cL:=(fun t L h=>by cases h),frame:=h.frame }
theorem LH{F : bg}{r : Rec}(hF : dC P F)(cG : ∀ (g : FuncId) (fn : Func), P.funcs[g]? = some fn → (fn.name == "runtime.NumGoroutine") = false)(h1 : xW P r.run) : dC P (oR P F r) := by
 intro g args h v h' hc dW G w aU hR hA;unfold oR at hc;rw[show Nat.ble aW g=false from ft dW]at hc;simp only[cond_false]at hc;split at hc
 ·rename_i x hx
  simp only[oi]at hc;subst hc;exact hF g args h v h' hx dW G w aU hR hA
 ·split at hc
  ·rename_i fn zK
   split at hc
   ·rename_i c hb
    left;refine⟨ia zK (by rw[hb];rfl) (cG g fn zK),(callsIn_wide (n:=0)).1 (callsIn_of_wp_marks zK hb trivial ?_)⟩;have Zx:HR ⟨G,fun _=>none⟩ { env:=fM args 0 .leaf,kn:=0,K:=.leaf,h:=h } w:=hR.env _;have Lt:ER ⟨G,fun _=>none⟩ { env:=fM args 0 .leaf,kn:=0,K:=.leaf,h:=h } { tmps:=aU.toArray++Array.replicate (fn.ntmps-aU.toArray.size) undef,defers:=[] }:=by
     intro t u hu;simp only[pT,Nat.zero_le,true_and,Nat.zero_add,Nat.sub_zero]at hu;by_cases ht:t<args.length
     ·rw[if_pos ht]at hu
      have VM:t<aU.length:=by rw[<-hA.1];exact ht
      refine⟨by simp;omega,?_⟩;have:(aU.toArray++Array.replicate (fn.ntmps-aU.toArray.size) undef).getD t undef=aU[t]:=by
       simp[Array.getD,VM,Array.getElem_append,show t<aU.length+(fn.ntmps-aU.length) by omega]
      rw[this];exact .c7 _ _ (hA.2 t u _ hu (by simp[VM]))
     ·rw[if_neg ht]at hu;simp[cW.get]at hu
    have key:∀x s',r.run g fn.ntmps c { env:=fM args 0 .leaf,kn:=0,K:=.leaf,h:=h }=some (x,s')->vV P fn s'=some (v,h')->(x=.normal\/x=.ret)->
      c.wpIn Fence.wide 0 P (bodyPostM Fence.wide 0 P fn (fun e w'=>∃c,e=.returned c/\∃G',VG G' v c/\Good ⟨G,fun _=>none⟩ (iC h) w ⟨G',fun _=>none⟩ (iC h') w'/\fG (h.next<=·) G G')) { tmps:=aU.toArray++Array.replicate (fn.ntmps-aU.toArray.size) undef,defers:=[] } w:=by
     intro x s' nf dr hx;have LI:=h1 g fn.ntmps c _ x s' nf none (.inl rfl) _ w _ Zx Lt (by simp;omega);refine wpIn_mono (F:=Fence.wide) LI ?_;rintro e a' w' ⟨rfl,J',q1,q2,q3,⟨Ds,q4,q6,q7⟩,q5⟩;simp only[List.append_nil]at q4;unfold vV at dr;split at dr
     ·rename_i l hl
      cases hn:l.all dA with
      |false=>rw[hn]at dr;simp at dr
      |true=>
       rw[hn]at dr;simp only[cond_true,oi,pj]at dr;obtain⟨rfl,rfl⟩:=dr;have tr:LeavesInM Fence.wide 0 P fn a'.tmps (fun e w'=>∃c,e=.returned c/\∃G',VG G' (js l) c/\Good ⟨G,fun _=>none⟩ (iC h) w ⟨G',fun _=>none⟩ (iC s'.h) w'/\fG (h.next<=·) G G') a'.defers .returning w':=by
        rw[q4];refine n8 (fun SU=>Good ⟨G,fun _=>none⟩ { env:=fM args 0 .leaf,kn:=0,K:=.leaf,h:=h } w J' s' SU) (fun SU hG=>?_) Ds w' q6 (fun D hD=>(q7 D hD).2.1) q1 (fun SU D hG hD=>hG.VH (q7 D hD).1 (q7 D hD).2.2.1 (q7 D hD).2.2.2 _);obtain⟨cv,r1,r2⟩:=vw hG.hr q2 hl hn;exact⟨cv,r1,cv,rfl,J'.g,r2,hG.bare,q5⟩
       rcases hx with rfl|rfl<;>exact tr
     ·cases dr
    split at hc
    ·rename_i s' nf;exact key _ s' nf hc (.inl rfl)
    ·rename_i s' nf;exact key _ s' nf hc (.inr rfl)
    ·cases hc
   ·cases hc
  ·cases hc
theorem xY{g:Nat->Option Loc}:∀(ps:List Tmp) (vs cs:List Value) (env:cW Value) (tmps:Array Value),TR g env tmps->fJ g vs cs->(∀t∈ps,t<tmps.size)->
  TR g (qN env ps vs) ((ps.zip cs).foldl (fun tmps (t,a)=>tmps.setIfInBounds t a) tmps)/\((ps.zip cs).foldl (fun tmps (t,a)=>tmps.setIfInBounds t a) tmps).size=tmps.size
 | [],vs,cs,env,tmps,h,_,_=>by simp[qN,h]
 |p :: ps,[],cs,env,tmps,h,hv,_=>by
  obtain rfl:=hv.iX;simp[qN,h]
 |p :: ps,v :: vs,cs,env,tmps,h,hv,hp=>by
  obtain⟨c,lE,rfl,h1,h2⟩:=hv.head;have LJ:=hp p (by simp);have step:TR g (env.set p v) (tmps.setIfInBounds p c):=by
   intro t u hu;rw[cW.bO]at hu;by_cases e:p=t
   ·subst e
    simp only[if_true,oi]at hu;subst hu;refine⟨by simpa using LJ,?_⟩;simp[Array.getD,LJ];exact h1
   ·simp only[e,if_false]at hu
    obtain⟨q1,q2⟩:=h t u hu;refine⟨by simpa using q1,?_⟩;simp only[Array.getD,Array.size_setIfInBounds,q1,dif_pos]at q2 ⊢;simp only[Array.getInternal_eq_getElem]at q2 ⊢;rw[Array.getElem_setIfInBounds];simp only[e,if_false];exact q2
  obtain⟨r1,r2⟩:=xY ps vs lE (env.set p v) (tmps.setIfInBounds p c) step h2 (fun t ht=>by simpa using hp t (by simp[ht]));simp only[qN,List.zip_cons_cons,List.foldl_cons];exact⟨r1,by rw[r2];simp⟩
theorem TR.er{G:Nat->Option Loc}{env:cW Value}{tmps:Array Value}{h:af}(ht:TR G env tmps)(ds:List Deferred):ER ⟨G,fun _=>none⟩ { env:=env,kn:=0,K:=.leaf,h:=h } { tmps:=tmps,defers:=ds }:=
 fun t v hv=>⟨(ht t v hv).1,.c7 _ _ (ht t v hv).2⟩
theorem BM{G:Nat->Option Loc}{h h':af}{y:Nat}{L:Loc}{jump:Option Code}{v:Value}(hR:HR ⟨G,fun _=>none⟩ (iC h) w)(hL:G y=some L)(hh:kf y h jump=some (v,h')) :
  ∃c w',(Instr.endRound L.b jump).run P w=.ok c w'/\VG G v c/\Good ⟨G,fun _=>none⟩ (iC h) w ⟨G,fun _=>none⟩ (iC h') w':=by
 unfold kf at hh;split at hh
 ·rename_i st nQ f nt env ps assign body hm
  simp only[oi,pj]at hh;obtain⟨rfl,rfl⟩:=hh;obtain⟨fn,tmps,params,D,ho,h1,h2,h3⟩:=hR.cK _ _ _ hL hm;refine⟨_,_,run_endRound jump ho,.flat _ rfl,?_⟩;have:=hR.jl (b:=.loop (match jump with|none=>.ready|some _=>.done) jump f nt env ps assign body) hL hm rfl (o:=.loop { state:=if jump.isNone then .ready else .done,pending:=jump,fn:=fn,tmps:=tmps,params:=params,assign:=assign,body:=body,defers:=D }) (by simp)
   ⟨fn,tmps,params,D,by cases jump<;>rfl,h1,h2,h3⟩
  exact this
 ·cases hh
theorem Jm{run:FuncId->Nat->Code->St->Option (Exit×St)}(h1:xW P run){y:Nat}{args:List Value}{h h':af}{v:Value}(hh:pE run y args h=some (v,h')){G:Nat->Option Loc}{aU:List Value}{L:Loc}(hR:HR ⟨G,fun _=>none⟩ (iC h) w)(hA:fJ G args aU)(hL:G y=some L) :
  Q6 P L.b aU.toArray w (fun c w'=>∃G',VG G' v c/\Good ⟨G,fun _=>none⟩ (iC h) w ⟨G',fun _=>none⟩ (iC h') w'/\fG (h.next<=·) G G'):=by
 unfold pE at hh;split at hh
 ·rename_i nQ f nt env ps assign body hm
  cases hb:(Nat.beq args.length ps.length && ps.all (fun t=>Nat.blt t nt) && bD assign && bD body)with
  |false=>rw[hb]at hh;simp at hh
  |true=>
  rw[hb]at hh;simp only[cond_true]at hh;simp only[Bool.and_eq_true,List.all_eq_true]at hb;obtain⟨⟨⟨b1,b2⟩,b3⟩,b4⟩:=hb;have hlen:=Nat.eq_of_beq_eq_true b1;obtain⟨fn,tmps,params,D,ho,c1,c2,c3⟩:=hR.cK _ _ _ hL hm;have uB:aU.toArray.size=params.size:=by
   have:=hA.1;simp only[List.size_toArray,<-Array.length_toList,c1];omega
  have uD:=xY ps args aU env tmps c3 hA (fun t ht=>Nat.lt_of_lt_of_le (Nat.le_of_ble_eq_true (b2 t ht)) c2);have Ya:(params.zip aU.toArray).foldl (fun tmps (t,a)=>tmps.setIfInBounds t a) tmps=(ps.zip aU).foldl (fun tmps (t,a)=>tmps.setIfInBounds t a) tmps:=by
   rw[<-Array.foldl_toList];simp[c1]
  split at hh
  ·rename_i s1 v8
   split at hh
   ·rename_i sW f1 OJ zR OL kW sX Zy
    refine⟨fn,_,assign,body,run_yield ho uB,roundIn_of_wpIn trivial ?_⟩;rw[Ya];have w1:=h1 f nt assign _ _ s1 v8 (some L.b) (.inr b3) ⟨G,fun _=>none⟩ w { tmps:=(ps.zip aU).foldl (fun tmps (t,a)=>tmps.setIfInBounds t a) tmps,defers:=[] } (hR.env _) (uD.1.er []) (by rw[uD.2];exact c2);refine wpIn_mono (F:=Fence.wide.inRound L.b) w1 ?_;rintro e a1 w1' ⟨rfl,J1,q1,q2,q3,q4,q5⟩;have KM:J1.g y=some L:=q1.mono _ _ hL;obtain⟨Zz,LK,params1,D1,ho1,d1,d2,d3⟩:=q1.hr.cK _ _ _ KM Zy;refine⟨_,run_beginRound ho1 rfl,?_⟩;have k2:=q1.hr.jl (b:=.loop .busy sW f1 OJ zR OL kW sX) KM Zy rfl (o:=.loop { state:=.busy,pending:=sW,fn:=Zz,tmps:=LK,params:=params1,assign:=kW,body:=sX,defers:=D1 }) (by simp) ⟨Zz,LK,params1,D1,rfl,d1,d2,d3⟩;have ZA:=q1.trans k2;have fin:∀x s2 jump,run f nt body { s1 with h:=s1.h.jl y (.loop .busy sW f1 OJ zR OL kW sX) }=some (x,s2)->kf y s2.h jump=some (v,h')->
      (∀(R:Ending->World->Prop) (a2:Act) (w2:World),(∃v w',(Instr.endRound L.b jump).run P w2=.ok v w'/\R (.returned v) w')->roundPost P L.b R x a2 w2)->
      body.wpIn (Fence.wide.inRound L.b) 0 P (roundPost P L.b (fun e w'=>∃c,e=.returned c/\∃G',VG G' v c/\Good ⟨G,fun _=>none⟩ (iC h) w ⟨G',fun _=>none⟩ (iC h') w'/\fG (h.next<=·) G G')) a1 (w1'.putObj L.b (.loop { state:=.busy,pending:=sW,fn:=Zz,tmps:=LK,params:=params1,assign:=kW,body:=sX,defers:=D1 })):=by
     intro x s2 jump BN dr tr;have w2:=h1 f nt body _ x s2 BN (some L.b) (.inr b4) J1 _ a1 k2.hr q2 (by rw[q3];show nt<=((ps.zip aU).foldl (fun tmps (t,a)=>tmps.setIfInBounds t a) tmps).size;rw[uD.2];exact c2);refine wpIn_mono (F:=Fence.wide.inRound L.b) w2 ?_;rintro e a2 w2' ⟨rfl,J2,r1,r2,r3,r4,r5⟩;have HL:J2.g y=some L:=r1.mono _ _ KM;have AD:=(ZA.trans r1).bare;obtain⟨cv,w3,e1,e2,e3⟩:=BM (P:=P) r1.hr.bare HL dr;refine tr _ a2 w2' ⟨cv,w3,e1,cv,rfl,J2.g,e2,AD.trans e3,?_⟩;have hn1:h.next<=s1.h.next:=q1.next;exact q5.trans (r5.mono (fun k hk=>by simp only[af.jl]at hk;exact Nat.le_trans hn1 hk))
    split at hh
    ·rename_i s2 BN;exact fin _ s2 none BN hh (fun R a w q=>q)
    ·rename_i s2 BN;exact fin _ s2 (some .ret) BN hh (fun R a w q=>q)
    ·rename_i id s2 BN;exact fin _ s2 (some (.exit id)) BN hh (fun R a w q=>q)
    ·cases hh
   ·cases hh
  ·cases hh
 ·cases hh
theorem tu{H : Hint}{F : bg}(hm : P.follows .mixedOrders = true)(hF : dC P F)(Re : aX F)(cG : ∀ (g : FuncId) (fn : Func), P.funcs[g]? = some fn → (fn.name == "runtime.NumGoroutine") = false) :
  ∀n,xW P (cE P H F n).run/\BK P (cE P H F n).loop/\gT P (cE P H F n).call
 |0=>⟨fun f nt c s x s' h=>(by cases h),fun f nt c kn s x s' h=>(by cases h),fun g args h v h' hc=>(by cases hc),fun g args h v h' hc=>(by cases hc)⟩
 |n+1=>by
  obtain⟨h1,h2,h3⟩:=tu hm hF Re cG n;refine⟨Ps hm cG h1 h2 h3 (hO Re n).2.2,LG h1 h2,LH hF cG h1,?_⟩;intro y args h v h' hc G w aU L hR hA hL;have Fo:oR P F (cE P H F n) (aW+y) args h=some (v,h'):=hc;unfold oR at Fo;rw[show Nat.ble aW (aW+y)=true from bz (Nat.le_add_right _ _)]at Fo;simp only[cond_true,Nat.add_sub_cancel_left]at Fo;exact Jm h1 Fo hR hA hL
theorem Gb:dC P sY:=fun g args h v h' hc=>(by cases hc)
theorem BO:aX sY:=fun g args h v h' hc=>(by cases hc)
