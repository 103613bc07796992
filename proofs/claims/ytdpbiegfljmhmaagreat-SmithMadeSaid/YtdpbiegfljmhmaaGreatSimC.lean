import Derived.Test.YtdpbiegfljmhmaaGreatSimB
import Derived.LoopNIn
import Derived.OrdersIn
import Derived.RangeFuncLeaves
import Derived.Laws.Sem
set_option linter.unusedSimpArgs false
set_option linter.unusedVariables false
namespace Go.cS
variable{P:Program}{w:World}{J:dI}{s:St}
def im(h:af):St:={ env:=.leaf,kn:=0,K:=.leaf,h:=h }
def sH(P:Program)(g:FuncId)(args:Array Value)(w:World)(R:Value->World->Prop):Prop:=
 ((callFunc g args).run P w=.ok (.enter g args) w/\Calls P g args w (fun e w'=>∃c,e=.returned c/\R c w'))\/∃c w',(callFunc g args).run P w=.ok (.value c) w'/\R c w'
theorem sH.mono{g:FuncId}{args:Array Value}{R R':Value->World->Prop}(h:sH P g args w R)(hr:∀c w',R c w'->R' c w'):sH P g args w R':=by
 rcases h with ⟨h1,h2⟩|⟨c,w',h1,h2⟩
 ·exact .inl ⟨h1,h2.mono fun e w' ⟨c,h3,h4⟩=>⟨c,h3,hr _ _ h4⟩⟩
 ·exact .inr ⟨c,w',h1,hr _ _ h2⟩
theorem sH.RB{g : FuncId}{fn : Func}{args : Array Value}{R : Value → World → Prop}(h : sH P g args w R)(hf : P.funcs[g]? = some fn)(hb : fn.body.isSome = true)(cE : (fn.name == "runtime.NumGoroutine") = false) :
  Calls P g args w (fun e w'=>∃c,e=.returned c/\R c w'):=by
 rcases h with ⟨_,h⟩|⟨c,w',h,_⟩
 ·exact h
 ·exfalso
  have uP:fn.body≠none:=by cases h:fn.body<;>simp_all
  have Fg : fn.name ≠ "runtime.NumGoroutine" := by simpa using cE
  unfold callFunc at h;simp[hf,Fg,uP]at h
def Wd(ro:Option Nat):Fence:={ Fence.wide with round:=ro }
def Qk(P:Program)(l:Nat)(args:Array Value)(w:World)(R:Value->World->Prop):Prop:=
 ∃fn tmps assign body,(Instr.yield l args).run P w=.ok (.round l fn tmps assign body) w/\RoundIn Fence.wide 0 P l fn tmps assign body w (fun e w'=>∃c,e=.returned c/\R c w')
def dx(P:Program)(call:cD):Prop:=∀g args h v h',call g args h=some (v,h')->g<aV->∀(G:Nat->Option Loc) (w:World) (aU:List Value),HR ⟨G,fun _=>none⟩ (im h) w->fF G args aU->
 sH P g aU.toArray w (fun c w'=>∃G',VG G' v c/\Good ⟨G,fun _=>none⟩ (im h) w ⟨G',fun _=>none⟩ (im h') w'/\fD (h.next<=·) G G')
def Oi(P:Program)(call:cD):Prop:=∀y args h v h',call (aV+y) args h=some (v,h')->∀(G:Nat->Option Loc) (w:World) (aU:List Value) (L:Loc),HR ⟨G,fun _=>none⟩ (im h) w->fF G args aU->G y=some L->
 Qk P L.b aU.toArray w (fun c w'=>∃G',VG G' v c/\Good ⟨G,fun _=>none⟩ (im h) w ⟨G',fun _=>none⟩ (im h') w'/\fD (h.next<=·) G G')
def gL(P:Program)(call:cD):Prop:=dx P call/\Oi P call
theorem HR.bare(h:HR J s w):HR ⟨J.g,fun _=>none⟩ (im s.h) w:=
 { cP:=h.cP,dg:=h.dg,cG:=h.cG,dh:=h.dh,eE:=(fun t L h=>by cases h),dS:=(fun t L h=>by cases h),eO:=(fun t t' L L' h=>by cases h),sep:=(fun id t L L' _ h=>by cases h) }
theorem Good.call{G':Nat->Option Loc}{h':af}{w':World}(h:HR J s w)(k:Good ⟨J.g,fun _=>none⟩ (im s.h) w ⟨G',fun _=>none⟩ (im h') w'):Good J s w ⟨G',J.l⟩ { s with h:=h' } w':=by
 have hold:∀t L,J.l t=some L->w'.heap[L.b]?=w.heap[L.b]?:=fun t L hL=>
  k.frame L.b (h.Kg hL) (fun id L1 h1 e=>absurd e (h.sep _ _ _ _ h1 hL)) (fun t L h=>by cases h)
 refine { hr:=?_,mono:=k.mono,next:=k.next,low:=k.low,size:=k.size,os:=k.os,tape:=k.tape,output:=k.output,fresh:=k.fresh,cH:=fun t L hL=>.inr ⟨t,L,hL,rfl⟩,frame:=fun b hb hg _=>k.frame b hb hg (fun t L h=>by cases h) };refine { cP:=k.hr.cP,dg:=k.hr.dg,cG:=k.hr.cG,dh:=k.hr.dh,eE:=h.eE,dS:=?_,eO:=h.eO,sep:=?_ }
 ·intro t L hL
  obtain⟨cs,e,h1,h2⟩:=h.dS _ _ hL;exact⟨cs,e,by rw[hold _ _ hL];exact h1,fun c hc=>(h2 c hc).mono k.mono⟩
 ·intro id t L L' h1 h2 hb
  cases h0:J.g id with
  |some L0=>
   have:G' id=some L0:=k.mono id L0 h0;have sI:G' id=some L:=h1;rw[sI]at this;obtain rfl:=Option.some.inj this;exact h.sep _ _ _ _ h0 h2 hb
  |none=>
   rcases k.fresh id L h1 h0 with q|⟨EB,L0,x,y,_⟩
   ·have:=h.Kg h2;omega
   ·exact h.sep _ _ _ _ x h2 (y.trans hb)
def AS(P:Program)(J:dI)(s:St)(w:World)(a:Act)(o:Oper)(v:Value)(s':St)(R Rl:Nat->Prop):Prop:=
 ∀(K:Act->World->Prop) (Q:Exit->Act->World->Prop),(∀c w' J',Good J s w J' s' w'->(∀t L,J.l t=some L->J'.l t=some L)->VR J' v c->s'.env=s.env->fD R J.g J'.g->fD Rl J.l J'.l->K (a.put o.dst c) w')->∀ro,o.wpIn (Wd ro) 0 P a w K Q
theorem CL.RC{a:Act}{o:Oper}{v:Value}{s':St}{R Rl:Nat->Prop}(WT:∀c,o.op≠.defer c)(h:CL P J s w (execOp a.eval o) v s' R Rl):AS P J s w a o v s' R Rl:=by
 obtain⟨n,c,w',J',h1,h2,h3,h4,h5,h6,h7,h8⟩:=h;intro K Q hK ro;refine⟨fun _ _=>trivial,?_⟩;rw[Oper.semAt_eq _ _ _ WT,h1];rcases h2 with rfl|⟨rfl,rfl⟩
 ·exact hK c w' J' h3 h4 h5 h6 h7 h8
 ·exact hK undef w' J' h3 h4 h5 h6 h7 h8
theorem uQ{mk:kY}{loc:Bool}{op:Op}{r:Value×St}(h:gm P mk loc op s=some r):∀c,op≠.defer c:=by
 intro c e;subst e;simp[gm]at h
theorem Fh{a:Act}{c:Call}{g:FuncId}{args:List Value}{o:Oper}(hc:o.op=.call c)(hE:oJ J s a o.op.operands.toList)(h:kJ s c=some (g,args)) :
  ∃aU:List Value,fF J.g args aU/\((g<aV/\execOp a.eval o=callFunc g aU.toArray)\/∃y L,g=aV+y/\J.g y=some L/\execOp a.eval o=Instr.yield L.b aU.toArray):=by
 unfold kJ at h;split at h
 ·rename_i x hx
  split at h
  ·rename_i f first captured l h1 h2
   cases mL:(l.all dr && Nat.blt f aV)with
   |false=>rw[mL]at h;simp at h
   |true=>
    rw[mL]at h;simp only[cond_true,oi,pj]at h;obtain⟨rfl,rfl⟩:=h;simp only[Bool.and_eq_true]at mL;obtain⟨hb,dR⟩:=mL;have zi:o.op.operands.toList=x :: c.args.toList:=by simp[hc,Op.operands,Call.operands,hx]
    rw[zi]at hE;obtain⟨x',y',hf,Ql,RD⟩:=((hE x _ (by simp) h1).aY (fun a=>by simp)).Ke;have hl:=vO (jG c.args.toList (hE.sub (fun y hy=>List.mem_cons_of_mem _ hy)) _ h2) hb;refine⟨x'.toList++c.args.toList.map a.eval++y'.toList,(Ql.append hl).append RD,.inl ⟨Nat.le_of_ble_eq_true dR,?_⟩⟩;have e1:execOp a.eval o=(do let d <-resolve a.eval c o.type;invoke d.target d.args):=by unfold execOp;rw[hc]
    rw[e1];simp only[resolve,hx,hf,Deferred.ofValue];show invoke (.fn (.func f) y') (x'++c.args.map a.eval)=_;have e2:invoke (.fn (.func f) y') (x'++c.args.map a.eval)=callFunc f (x'++c.args.map a.eval++y'):=rfl;rw[e2]
    congr 1
    apply Array.ext';simp
  ·rename_i y u1 u2 l h1 h2
   cases hb:l.all dr with
   |false=>rw[hb]at h;simp at h
   |true=>
    rw[hb]at h;simp only[cond_true,oi,pj]at h;obtain⟨rfl,rfl⟩:=h;have zi:o.op.operands.toList=x :: c.args.toList:=by simp[hc,Op.operands,Call.operands,hx]
    rw[zi]at hE;obtain⟨L,hL,hf,_,_⟩:=((hE x _ (by simp) h1).aY (fun a=>by simp)).Rk;have hl:=vO (jG c.args.toList (hE.sub (fun y hy=>List.mem_cons_of_mem _ hy)) _ h2) hb;refine⟨c.args.toList.map a.eval,hl,.inr ⟨y,L,rfl,hL,?_⟩⟩;have e1:execOp a.eval o=(do let d <-resolve a.eval c o.type;invoke d.target d.args):=by unfold execOp;rw[hc]
    rw[e1];simp only[resolve,hx,hf,Deferred.ofValue];show invoke (.fn (.yield L.b) #[]) (#[]++c.args.map a.eval)=_;have e2:invoke (.fn (.yield L.b) #[]) (#[]++c.args.map a.eval)=Instr.yield L.b (#[]++c.args.map a.eval):=rfl;rw[e2]
    congr 1
    apply Array.ext';simp
  ·cases h
 ·cases h
theorem uR{call:cD}(fy:gL P call){a:Act}{c:Call}{o:Oper}{v:Value}{s':St}(hR:HR J s w)(hc:o.op=.call c)(hE:oJ J s a o.op.operands.toList)(h:jB call c s=some (v,s')):AS P J s w a o v s' (s.h.next<=·) (fun _=>False):=by
 unfold jB at h;split at h
 ·rename_i g args hg
  split at h
  ·rename_i v' h' hr
   simp only[oi,pj]at h;obtain⟨rfl,rfl⟩:=h;obtain⟨aU,h1,h2⟩:=Fh hc hE hg;intro K Q hK ro;refine⟨fun _ _=>trivial,?_⟩;rw[Oper.semAt_eq _ _ _ (by rw[hc];intro c' e;cases e)];rcases h2 with ⟨dR,h2⟩|⟨y,L,rfl,hL,h2⟩
   ·have hd:=fy.1 g args s.h v' h' hr dR J.g w aU hR.bare h1
    rw[h2];rcases hd with ⟨e1,e2⟩|⟨c,w',e1,G',e2,e3,e4⟩
    ·rw[e1]
     simp only[Oper.uponIn_enter];refine⟨(fun q=>by simp[Wd,Fence.wide]at q),CallsIn.mono (F:=Wd ro) (n:=0-1) (R:=fun e w'=>∃c,e=.returned c/\∃G',VG G' v' c/\Good ⟨J.g,fun _=>none⟩ (im s.h) w ⟨G',fun _=>none⟩ (im h') w'/\fD (s.h.next<=·) J.g G') ?_ ?_⟩
     ·show CallsIn Fence.wide 0 P g aU.toArray w _
      exact callsIn_wide.2 e2
     ·rintro e w' ⟨c,rfl,G',hv,hG,hA⟩
      exact hK c w' ⟨G',J.l⟩ (Good.call hR hG) (fun _ _ h=>h) (.cU _ _ hv) rfl hA (.refl _ _)
    ·rw[e1]
     simp only[Oper.uponIn_value];exact hK c w' ⟨G',J.l⟩ (Good.call hR e3) (fun _ _ h=>h) (.cU _ _ e2) rfl e4 (.refl _ _)
   ·obtain⟨fn,tmps,assign,body,e1,e2⟩:=fy.2 y args s.h v' h' hr J.g w aU L hR.bare h1 hL
    rw[h2,e1];simp only[Oper.uponIn_round];refine⟨(fun q=>by simp[Wd,Fence.wide]at q),RoundIn.mono (F:=Wd ro) (n:=0-1) (R:=fun e w'=>∃c,e=.returned c/\∃G',VG G' v' c/\Good ⟨J.g,fun _=>none⟩ (im s.h) w ⟨G',fun _=>none⟩ (im h') w'/\fD (s.h.next<=·) J.g G') ?_ ?_⟩
    ·show RoundIn Fence.wide 0 P L.b fn tmps assign body w _
     exact e2
    ·rintro e w' ⟨c,rfl,G',hv,hG,hA⟩
     exact hK c w' ⟨G',J.l⟩ (Good.call hR hG) (fun _ _ h=>h) (.cU _ _ hv) rfl hA (.refl _ _)
  ·cases h
 ·cases h
theorem o9{op:Op}{c:Call}(h:dP op=some c):op=.call c:=by
 unfold dP at h;split at h
 ·split at h
  ·simp only[oi]at h;rw[h]
  ·cases h
 ·cases h
theorem RE{loc:Bool}{es:Nat}{cells:List Value}{r:Value×St}(h:s.new loc es cells=some r):cells.all aE=true:=by
 unfold St.new at h;cases hc:cells.all aE with
 |true=>rfl
 |false=>rw[hc]at h;simp at h
theorem Ky{id tag:Nat}{loc:Bool}{es:Nat}{cells:List Value}{r:Value×St}(h:s.newAt id tag loc es cells=some r):cells.all aE=true:=by
 unfold St.newAt at h;cases hc:cells.all aE with
 |true=>rfl
 |false=>rw[hc]at h;simp at h
theorem zT{H:Hint}{call:cD}(fy:gL P call){f:FuncId}{a:Act}{o:Oper}{v:Value}{s':St}(hR:HR J s w)(hE:oJ J s a o.op.operands.toList)(h:rE P H call f o s=some (v,s')):AS P J s w a o v s' (s.h.next<=·) (fun _=>True):=by
 unfold rE at h;split at h
 ·rename_i c hc
  intro K Q hK ro;exact uR fy hR (o9 hc) hE h K Q (fun c w' J' a1 a2 a3 a4 a5 a6=>hK c w' J' a1 a2 a3 a4 a5 (a6.mono (fun _ _=>trivial))) ro
 ·intro K Q hK ro
  refine(GS hR hR.Uf hE RE h).RC (uQ h) K Q (ro:=ro) (fun c w' J' a1 a2 a3 a4 a5 a6=>hK c w' J' a1 a2 a3 a4 (a5.mono ?_) (a6.mono (fun _ _=>trivial)));rintro k (⟨_,es,cells,s9,h9⟩|⟨_,h9⟩)
  ·unfold St.new at h9
   simp only[Bool.cond_eq_ite]at h9;split at h9
   ·simp at h9;rw[h9.1];exact Nat.le_refl _
   ·cases h9
  ·exact h9
theorem Good.env {J' : dI} {s' : St} {w' : World} (h : Good J s w J' s' w') (e : cQ Value) : Good J s w J' { s' with env := e } w' :=
  { hr := { cP := h.hr.cP, dg := h.hr.dg, cG := h.hr.cG, dh := h.hr.dh, eE := h.hr.eE, dS := h.hr.dS, eO := h.hr.eO, sep := h.hr.sep }
    mono := h.mono, next := h.next, low := h.low, size := h.size, os := h.os, tape := h.tape, output := h.output, fresh := h.fresh, cH := h.cH, frame := h.frame }
theorem HR.env(h:HR J s w)(e:cQ Value):HR J { s with env:=e } w:=
 { cP:=h.cP,dg:=h.dg,cG:=h.cG,dh:=h.dh,eE:=h.eE,dS:=h.dS,eO:=h.eO,sep:=h.sep }
theorem dZ(a:Act)(dst:Option Tmp)(v:Value):(a.put dst v).tmps.size=a.tmps.size:=by
 cases dst<;>simp[Act.put]
theorem put_defers(a:Act)(dst:Option Tmp)(v:Value):(a.put dst v).defers=a.defers:=by
 cases dst<;>simp[Act.put]
theorem mN{nt:Nat}{dst:Option Tmp}{v:Value}{s':St}(h:rD nt s dst v=some s'):(dst=none/\s'=s)\/∃d,dst=some d/\d<nt/\s' = { s with env:=s.env.set d v }:=by
 unfold rD at h;split at h
 ·simp only[oi]at h;exact .inl ⟨rfl,h.symm⟩
 ·rename_i d
  cases hb:Nat.blt d nt with
  |false=>rw[hb]at h;simp at h
  |true=>rw[hb]at h;simp only[cond_true,oi]at h;exact .inr ⟨d,rfl,Nat.le_of_ble_eq_true hb,h.symm⟩
theorem vP{nt:Nat}{dst:Option Tmp}{v c:Value}{s':St}{a:Act}(h:rD nt s dst v=some s')(hE:ER J s a)(hn:nt<=a.tmps.size)(hv:VR J v c):ER J s' (a.put dst c):=by
 rcases mN h with ⟨rfl,rfl⟩|⟨d,rfl,hd,rfl⟩
 ·exact hE
 ·intro t u hu
  simp only[cQ.bL]at hu;rw[dZ];by_cases e:d=t
  ·subst e
   simp only[if_true,oi]at hu;subst hu;have dR:d<a.tmps.size:=Nat.lt_of_lt_of_le hd hn;refine⟨dR,?_⟩;have:(a.put (some d) c).tmps.getD d undef=c:=by simp[Act.put,dR]
   rw[this];exact hv
  ·simp only[e,if_false]at hu
   obtain⟨h1,h2⟩:=hE t u hu;refine⟨h1,?_⟩;have:(a.put (some d) c).tmps.getD t undef=a.tmps.getD t undef:=by simp[Act.put,Array.getElem?_setIfInBounds_ne e]
   rw[this];exact h2
theorem cK{nt:Nat}{dst:Option Tmp}{v:Value}{s':St}(h:rD nt s dst v=some s'):s' = { s with env:=s'.env }:=by
 rcases mN h with ⟨_,rfl⟩|⟨d,_,_,rfl⟩<;>rfl
def RF(J:dI)(s:St)(a:Act)(ops:Array Oper)(o:Oper):Prop:=
 ∀j want d v,o.guard=some (j,want)->(ops[j]?).bind (·.dst)=some d->s.env.get d=some v->d<a.tmps.size/\VR J v (a.tmps.getD d undef)
theorem iO{ops:Array Oper}{o:Oper}{b:Bool}{a:Act}(h:jd ops o s=some b)(hE:RF J s a ops o):Region.wanted o (yielded ops a.tmps)=b:=by
 unfold jd at h;unfold Region.wanted;split at h
 ·rename_i hg
  simp only[oi]at h;rw[hg];exact h
 ·rename_i j want hg
  rw[hg];simp only[];split at h
  ·rename_i d hd
   have key:∀v,s.env.get d=some v->∃c,a.tmps[d]?=some c/\VR J v c:=by
    intro v hv;obtain⟨h1,h2⟩:=hE j want d v hg hd hv;exact⟨a.tmps[d],by simp[h1],by simpa[h1]using h2⟩
   split at h
   ·rename_i b' hv
    simp only[oi]at h;subst h;obtain⟨c,h1,h2⟩:=key _ hv;obtain rfl:=(h2.aY (fun a=>by simp)).bool;simp only[yielded,hd,Option.bind_some,h1];cases b'<;>cases want<;>rfl
   ·rename_i vs hv
    cases RG:vs.toList.isEmpty with
    |false=>rw[RG]at h;simp at h
    |true=>
    rw[RG]at h;simp only[cond_true,oi]at h;subst h;obtain rfl:vs=#[]:=by simpa using RG
    obtain⟨c,h1,h2⟩:=key _ hv;have:=(h2.aY (fun a=>by simp)).Rn;subst this;simp only[yielded,hd,Option.bind_some,h1,undef];cases want<;>rfl
   ·cases h
  ·cases h
theorem ER.gu{a:Act}(h:ER J s a)(ops:Array Oper)(o:Oper):RF J s a ops o:=fun _ _ d v _ _ hv=>h d v hv
def Fi(J:dI)(s:St)(w:World)(a:Act)(s':St)(a':Act)(w':World):Prop:=
 ∃J',Good J s w J' s' w'/\ER J' s' a'/\a'.tmps.size=a.tmps.size/\a'.defers=a.defers/\fD (s.h.next<=·) J.g J'.g
theorem qp{ro:Option Nat}{H:Hint}{call:cD}(fy:gL P call){f:FuncId}{nt:Nat}{ops:Array Oper}{Q:Exit->Act->World->Prop}:∀(l:List Oper) (k:Nat) (s:St) (J:dI) (w:World) (a:Act) (s':St),
  (∀j,l[j]?=ops[k+j]?)->lj P H call f nt ops l s=some s'->HR J s w->ER J s a->nt<=a.tmps.size->(∀a' w',Fi J s w a s' a' w'->Q .normal a' w')->wpOpsIn (Wd ro) 0 P ops Q (List.range' k l.length) a w
 | [],k,s,J,w,a,s',_,h,hR,hE,_,hQ=>by
  simp only[lj,oi]at h;subst h;exact hQ a w ⟨J,.refl hR,hE,rfl,rfl,.refl _ _⟩
 |o :: l,k,s,J,w,a,s',hl,h,hR,hE,hn,hQ=>by
  have ho:ops[k]?=some o:=by have:=hl 0;simpa using this.symm
  have Kk:∀j,l[j]?=ops[k+1+j]?:=fun j=>by have:=hl (j+1);simpa[Nat.add_assoc,Nat.add_comm 1 j]using this
  simp only[List.length_cons,List.range'_succ];simp only[wpOpsIn,ho];simp only[lj]at h;split at h
  ·rename_i hw
   rw[iO hw (hE.gu ops o),if_pos rfl];split at h
   ·rename_i v s1 h1
    split at h
    ·rename_i s2 h2
     refine zT fy hR (hE.ev _) h1 _ Q ?_ ro;intro c w' J' hG Oj hv zj hA _;have Kz:ER J' s1 a:=by
      have:=hE.mono (J':=J') hG.mono Oj;intro t u hu;exact this t u (by rw[zj]at hu;exact hu)
     have RH:=vP h2 Kz hn hv;have CM:Good J s w J' s2 w':=by rw[cK h2];exact hG.env _
     refine qp fy l (k+1) s2 J' w' (a.put o.dst c) s' Kk h CM.hr RH (by rw[dZ];exact hn) ?_;rintro a' w2 ⟨J2,q1,q2,q3,q4,q5⟩;exact hQ a' w2 ⟨J2,CM.trans q1,q2,by rw[q3,dZ],by rw[q4,put_defers],hA.trans (q5.mono (fun k hk=>Nat.le_trans CM.next hk))⟩
    ·cases h
   ·cases h
  ·rename_i hw
   rw[iO hw (hE.gu ops o),if_neg (by simp)];split at h
   ·rename_i s1 h1
    have RH:=vP h1 hE hn (c:=undef) (.cU _ _ (VG.of_flat rfl));have CM:Good J s w J s1 w:=by rw[cK h1];exact(Good.refl hR).env _
    refine⟨fun _ _=>trivial,?_⟩;refine qp fy l (k+1) s1 J w (a.put o.dst undef) s' Kk h CM.hr RH (by rw[dZ];exact hn) ?_;rintro a' w2 ⟨J2,q1,q2,q3,q4,q5⟩;exact hQ a' w2 ⟨J2,CM.trans q1,q2,by rw[q3,dZ],by rw[q4,put_defers],q5.mono (fun k hk=>Nat.le_trans CM.next hk)⟩
   ·cases h
  ·cases h
theorem CN{ro:Option Nat}{H:Hint}{call:cD}(fy:gL P call){f:FuncId}{nt:Nat}{ops:Array Oper}{id:Nat}{a:Act}{s':St}(h:lj P H call f nt ops ops.toList s=some s')(hR:HR J s w)(hE:ER J s a)(hn:nt<=a.tmps.size) :
  (Code.region id ops false).wpIn (Wd ro) 0 P (fun e a' w'=>e=.normal/\Fi J s w a s' a' w') a w:=by
 refine wpIn_region ?_;have:=qp (ro:=ro) (Q:=fun e a' w'=>e=.normal/\Fi J s w a s' a' w') fy ops.toList 0 s J w a s' (fun j=>by simp) h hR hE hn (fun a' w' q=>⟨rfl,q⟩);rw[List.range_eq_range'];simpa using this
end Go.cS
namespace Go.cS
structure bI(B:Nat)(h h':af):Prop where
 next:h.next<=h'.next
 low:h'.low<=h.low
 get:∀id,id<B->id<h'.low->h'.m.get id=h.m.get id
 gone:∀id,id<B->h.m.get id=none->h'.m.get id=none
theorem bI.refl(B:Nat)(h:af):bI B h h:=⟨Nat.le_refl _,Nat.le_refl _,fun _ _ _=>rfl,fun _ _ h=>h⟩
theorem bI.trans{B:Nat}{a b c:af}(h:bI B a b)(k:bI B b c):bI B a c:=
 ⟨Nat.le_trans h.next k.next,Nat.le_trans k.low h.low,fun id h1 h2=>(k.get id h1 h2).trans (h.get id h1 (Nat.lt_of_lt_of_le h2 k.low)),fun id h1 h2=>k.gone id h1 (h.gone id h1 h2)⟩
theorem bI.mono{B B':Nat}{h h':af}(k:bI B h h')(hb:B'<=B):bI B' h h':=
 ⟨k.next,k.low,fun id h1 h2=>k.get id om h2,fun id h1 h2=>k.gone id om h2⟩
theorem bI.push{B:Nat}{h:af}(hb:B<=h.next)(es:Nat)(cs:List Value):bI B h (h.push es cs):=
 ⟨by simp[af.push],Nat.le_refl _,fun id h1 _=>by simp only[af.push];rw[cQ.aS _ _ om],fun id h1 h2=>by simp only[af.push];rw[cQ.aS _ _ om];exact h2⟩
theorem bI.write{B:Nat}{h h':af}{b off:Nat}{vs:List Value}(hw:h.write b off vs=some h'):bI B h h':=by
 unfold af.write at hw;split at hw
 ·rename_i es cs hm
  split at hw
  ·rename_i kR _
   simp only[oi]at hw;subst hw;refine⟨Nat.le_refl _,Nat.min_le_left _ _,fun id _ h2=>?_,fun id _ h2=>?_⟩
   ·have:Nat.min h.low b<=b:=Nat.min_le_right _ _
    simp only[]at h2 ⊢;rw[cQ.aS _ _ om]
   ·simp only[]
    by_cases e:b=id
    ·subst e;rw[hm]at h2;cases h2
    ·rw[cQ.aS _ _ e];exact h2
  ·cases hw
 ·cases hw
theorem bI.kill{B:Nat}{h:af}{b:Nat}(hb:h.m.get b≠none):bI B h (h.kill b):=by
 refine⟨Nat.le_refl _,Nat.min_le_left _ _,fun id _ h2=>?_,fun id _ h2=>?_⟩
 ·have:Nat.min h.low b<=b:=Nat.min_le_right _ _
  simp only[af.kill]at h2 ⊢;rw[cQ.aS _ _ om]
 ·simp only[af.kill]
  by_cases e:b=id
  ·subst e;exact absurd h2 hb
  ·rw[cQ.aS _ _ e];exact h2
theorem bI.gO{B:Nat}{h:af}(hb:B<=h.next)(b:Cq):bI B h (h.gO b):=
 ⟨by simp[af.gO],Nat.le_refl _,fun id h1 _=>by simp only[af.gO];rw[cQ.aS _ _ om],fun id h1 h2=>by simp only[af.gO];rw[cQ.aS _ _ om];exact h2⟩
theorem bI.iW{B:Nat}{h:af}{b:Nat}{x:Cq}(hb:h.m.get b≠none\/B<=b):bI B h (h.iW b x):=by
 refine⟨Nat.le_refl _,Nat.min_le_left _ _,fun id _ h2=>?_,fun id h1 h2=>?_⟩
 ·have:Nat.min h.low b<=b:=Nat.min_le_right _ _
  simp only[af.iW]at h2 ⊢;rw[cQ.aS _ _ om]
 ·simp only[af.iW]
  by_cases e:b=id
  ·subst e
   rcases hb with hb|hb
   ·exact absurd h2 hb
   ·omega
  ·rw[cQ.aS _ _ e];exact h2
theorem sJ{P:Program}{B:Nat}{h h':af}{t:TypeId}{x k v:Value}{ok:Bool}(hh:kH P h t x k ok=some (v,h')):bI B h h':=by
 unfold kH at hh;simp only[Bool.cond_eq_ite]at hh;repeat' split at hh
 all_goals first
  |(cases hh;done)
  |(simp only[oi,pj]at hh;obtain⟨_,rfl⟩:=hh;exact .refl _ _)
theorem nE{P:Program}{B:Nat}{h h':af}{t:TypeId}{x k u v:Value}(hh:kI P h t x k u=some (v,h')):bI B h h':=by
 unfold kI at hh;simp only[Bool.cond_eq_ite]at hh;split at hh
 ·rename_i id _
  split at hh
  ·rename_i es _ hm
   repeat' split at hh
   all_goals first
    |(cases hh;done)
    |(simp only[oi,pj]at hh;obtain⟨_,rfl⟩:=hh;exact .iW (.inl (by rw[hm];simp)))
  ·cases hh
 ·cases hh
theorem Fj{B:Nat}{s s':St}{a:Addr}{vs:List Value}(h:s.write a vs=some s'):bI B s.h s'.h:=by
 unfold St.write at h;cases fz:vs.all aE with
 |false=>rw[fz]at h;simp at h
 |true=>
  rw[fz]at h;simp only[cond_true]at h;split at h
  ·split at h
   ·rename_i h' hw;simp only[oi]at h;subst h;exact .write hw
   ·cases h
  ·cases hb:Nat.blt a.block s.kn with
   |false=>rw[hb]at h;simp at h
   |true=>
    rw[hb]at h;simp only[cond_true]at h;split at h
    ·split at h
     ·simp only[oi]at h;subst h;exact .refl _ _
     ·cases h
    ·cases h
def Fk(B:Nat)(s:St)(mk:kY):Prop:=∀loc es cells v s',mk loc es cells=some (v,s')->bI B s.h s'.h
theorem KA{B:Nat}{s:St}(hb:B<=s.h.next):Fk B s s.new:=by
 intro loc es cells v s' h;unfold St.new at h;cases hc:cells.all aE with
 |false=>rw[hc]at h;simp at h
 |true=>
  rw[hc]at h;cases loc with
  |false=>simp only[cond_true,cond_false,oi,pj]at h;obtain⟨_,rfl⟩:=h;exact .push hb _ _
  |true=>simp only[cond_true,oi,pj]at h;obtain⟨_,rfl⟩:=h;exact .refl _ _
theorem Fl{B:Nat}{s:St}{id tag:Nat}(hb:B<=id):Fk B s (s.newAt id tag):=by
 intro loc es cells v s' h;unfold St.newAt at h;cases hc:cells.all aE with
 |false=>rw[hc]at h;simp at h
 |true=>
  rw[hc]at h;cases loc with
  |false=>
   simp only[cond_true,cond_false,oi,pj]at h;obtain⟨_,rfl⟩:=h;exact⟨Nat.le_refl _,Nat.le_refl _,fun k h1 _=>by simp only[];rw[cQ.aS _ _ om],fun k h1 h2=>by simp only[];rw[cQ.aS _ _ om];exact h2⟩
  |true=>simp only[cond_true,oi,pj]at h;obtain⟨_,rfl⟩:=h;exact .refl _ _
theorem pe{B:Nat}{h h':af}{a:Addr}{vs:List Value}(hw:h.ik a vs=some h'):bI B h h':=by
 unfold af.ik at hw;split at hw
 ·cases hc:vs.all aE with
  |false=>rw[hc]at hw;simp at hw
  |true=>rw[hc]at hw;simp only[cond_true]at hw;exact .write hw
 ·cases hw
theorem sK{P:Program}{B:Nat}{h h':af}{ts:List TypeId}{args:List Value}{v:Value}(hb:B<=h.next)(hh:cN P h ts args=some (v,h')):bI B h h':=by
 unfold cN at hh;simp only[Bool.cond_eq_ite]at hh;repeat' split at hh
 all_goals first
  |(cases hh;done)
  |(simp only[oi,pj]at hh;obtain⟨_,rfl⟩:=hh;exact .refl _ _)
  |(simp only[oi,pj]at hh;obtain⟨_,rfl⟩:=hh;exact .push hb _ _)
  |(simp only[oi,pj]at hh;obtain⟨_,rfl⟩:=hh;exact pe (by assumption))
  |(simp only[oi,pj]at hh;obtain⟨_,rfl⟩:=hh;rename_i hl _ _;exact(bI.kill (by rw[hl];simp)).trans (.push (by exact hb) _ _))
theorem wX{P:Program}{B:Nat}{h h':af}{ts:List TypeId}{args:List Value}{v:Value}(hh:ss P h ts args=some (v,h')):bI B h h':=by
 unfold ss at hh;simp only[Bool.cond_eq_ite]at hh;repeat' split at hh
 all_goals first
  |(cases hh;done)
  |(simp only[oi,pj]at hh;obtain⟨_,rfl⟩:=hh;exact .refl _ _)
  |(simp only[oi,pj]at hh;obtain⟨_,rfl⟩:=hh;exact pe (by assumption))
theorem uS{P:Program}{B:Nat}{h h':af}{ts:List TypeId}{args:List Value}{v:Value}(hh:rC P h ts args=some (v,h')):bI B h h':=by
 unfold rC at hh;simp only[Bool.cond_eq_ite]at hh;repeat' split at hh
 all_goals first
  |(cases hh;done)
  |(simp only[oi,pj]at hh;obtain⟨_,rfl⟩:=hh;exact .refl _ _)
  |(simp only[oi,pj]at hh;obtain⟨_,rfl⟩:=hh;exact pe (by assumption))
theorem CO{P:Program}{B:Nat}{s s':St}{t:TypeId}{a:Addr}{v:Value}(h:mu P s t a v=some s'):bI B s.h s'.h:=by
 unfold mu at h;simp only[Bool.cond_eq_ite]at h;repeat' split at h
 all_goals first
  |(cases h;done)
  |exact Fj h
theorem CP{P:Program}{B:Nat}{mk:kY}{s s':St}{loc:Bool}{op:Op}{v:Value}(hb:B<=s.h.next)(hM:Fk B s mk)(h:gm P mk loc op s=some (v,s')):bI B s.h s'.h:=by
 unfold gm at h;split at h
 case h_7=>
  unfold eQ at h
  (try simp only[Bool.cond_eq_ite]at h)
  repeat' split at h
  all_goals (try simp only[Bool.cond_eq_ite]at h)
  all_goals repeat' split at h
  all_goals first
   |(cases h;done)
   |(simp only[oi,pj]at h;obtain⟨_,rfl⟩:=h;exact hM _ _ _ _ _ (by assumption))
 case h_15=>
  unfold fJ at h;repeat' split at h
  all_goals first
   |(cases h;done)
   |(simp only[oi,pj]at h;obtain⟨_,rfl⟩:=h;exact hM _ _ _ _ _ (by assumption))
 all_goals (try simp only[Bool.cond_eq_ite]at h)
 all_goals repeat' split at h
 all_goals first
  |(cases h;done)
  |(simp only[oi,pj]at h;obtain⟨_,rfl⟩:=h;exact .refl _ _)
  |exact hM _ _ _ _ _ h
  |(simp only[oi,pj]at h;obtain⟨_,rfl⟩:=h;exact CO (by assumption))
  |(obtain⟨h',h1,rfl⟩:=bg h;exact sK hb h1)
  |(obtain⟨h',h1,rfl⟩:=bg h;exact wX h1)
  |(obtain⟨h',h1,rfl⟩:=bg h;exact uS h1)
  |(obtain⟨h',h1,rfl⟩:=bg h;exact sJ h1)
  |(obtain⟨h',h1,rfl⟩:=bg h;exact nE h1)
  |(obtain⟨h',h1,rfl⟩:=bg h;simp only[oi,pj]at h1;obtain⟨_,rfl⟩:=h1;exact .gO hb _)
def aW(call:cD):Prop:=∀g args h v h',call g args h=some (v,h')->bI h.next h h'
theorem pg{call:cD}(hc:aW call){B:Nat}{s s':St}{c:Call}{v:Value}(hb:B<=s.h.next)(h:jB call c s=some (v,s')):bI B s.h s'.h:=by
 unfold jB at h;split at h
 ·split at h
  ·rename_i hr
   simp only[oi,pj]at h;obtain⟨_,rfl⟩:=h;exact(hc _ _ _ _ _ hr).mono hb
  ·cases h
 ·cases h
theorem Iu{P:Program}{H:Hint}{call:cD}(hc:aW call){B:Nat}{f:FuncId}{o:Oper}{s s':St}{v:Value}(hb:B<=s.h.next)(h:rE P H call f o s=some (v,s')):bI B s.h s'.h:=by
 unfold rE at h;split at h
 ·exact pg hc hb h
 ·exact CP hb (KA hb) h
theorem tW{P:Program}{H:Hint}{call:cD}(hc:aW call){B id tag:Nat}{f:FuncId}{o:Oper}{s s':St}{v:Value}(hb:B<=s.h.next)(lP:B<=id)(h:jx P H call f id tag o s=some (v,s')):bI B s.h s'.h:=by
 unfold jx at h;split at h
 ·exact pg hc hb h
 ·exact CP hb (Fl lP) h
theorem iP{nt:Nat}{dst:Option Tmp}{s s':St}{v:Value}(h:rD nt s dst v=some s'):s'.h=s.h:=by
 rw[cK h]
theorem tX{P:Program}{H:Hint}{call:cD}(hc:aW call){f:FuncId}{nt:Nat}{ops:Array Oper}{B:Nat}:∀(l:List Oper) (s s':St),B<=s.h.next->lj P H call f nt ops l s=some s'->bI B s.h s'.h
 | [],s,s',_,h=>by simp only[lj,oi]at h;subst h;exact .refl _ _
 |o :: l,s,s',hb,h=>by
  simp only[lj]at h;split at h
  ·split at h
   ·rename_i v s1 h1
    split at h
    ·rename_i s2 h2
     have k1:=Iu hc hb h1;have k2:=tX hc l s2 s' (by rw[iP h2];exact Nat.le_trans hb k1.next) h;rw[iP h2]at k2;exact k1.trans k2
    ·cases h
   ·cases h
  ·split at h
   ·rename_i s2 h2
    have k2:=tX hc l s2 s' (by rw[iP h2];exact hb) h;rw[iP h2]at k2;exact k2
   ·cases h
  ·cases h
theorem jh{B:Nat}{s s1:St}(k:bI B s.fresh.h s1.h):bI B s.h (s1.az s.h.low).h:=
 ⟨k.next,Nat.min_le_left _ _,fun id h1 h2=>k.get id h1 (Nat.lt_of_lt_of_le h2 (Nat.min_le_right _ _)),fun id h1 h2=>k.gone id h1 h2⟩
theorem tY{P:Program}{H:Hint}{call:cD}(hc:aW call){f:FuncId}{nt:Nat}{ops:Array Oper}{base aO:Nat}:∀(l:List Nat) (i:Nat) (s s':St) (il:List (Nat×FP×Bool)),base<=s.h.next->qN P H call f nt ops base aO l i s=some (s',il)->bI base s.h s'.h
 | [],i,s,s',il,_,h=>by simp only[qN,oi,pj]at h;obtain⟨rfl,_⟩:=h;exact .refl _ _
 |p :: l,i,s,s',il,hb,h=>by
  simp only[qN]at h;split at h
  ·cases h
  ·split at h
   ·split at h
    ·rename_i v s1 h1
     split at h
     ·rename_i s2 h2
      split at h
      ·rename_i r vx h3
       simp only[oi,pj]at h;obtain⟨rfl,_⟩:=h;have k1:=jh (tW hc (B:=base) (s:=s.fresh) hb om h1);have k2:=tY hc l (i+1) s2 r vx (by rw[iP h2];exact Nat.le_trans hb k1.next) h3;rw[iP h2]at k2;exact k1.trans k2
      ·cases h
     ·cases h
    ·cases h
   ·split at h
    ·rename_i s2 h2
     split at h
     ·rename_i r vx h3
      simp only[oi,pj]at h;obtain⟨rfl,_⟩:=h;have k2:=tY hc l (i+1) s2 r vx (by rw[iP h2];exact hb) h3;rw[iP h2]at k2;exact k2
     ·cases h
    ·cases h
   ·cases h
theorem Fm{P:Program}{H:Hint}{call:cD}(hc:aW call){f:FuncId}{nt:Nat}{ops:Array Oper}{s s':St}(h:qW P H call f nt ops s=some s'):bI s.h.next s.h s'.h:=by
 unfold qW at h;simp only[Bool.cond_eq_ite]at h;split at h
 ·split at h
  ·split at h
   ·rename_i h1 _
    simp only[oi]at h;subst h;have k:=tY hc (base:=s.h.next) _ _ _ _ _ (by simp[St.jf]) h1;exact⟨by have:=k.next;simp only[St.jf]at this;omega,k.low,k.get,k.gone⟩
   ·cases h
  ·cases h
 ·cases h
theorem Iv{H:Hint}{f:FuncId}{c:Code}{kn:Nat}{s s':St}(h:norm H f c kn s=some s'):s'.h=s.h:=by
 unfold norm at h;split at h
 ·simp only[oi]at h;rw[h]
 ·simp only[Bool.cond_eq_ite]at h
  split at h
  ·simp only[oi]at h;rw[<-h]
  ·cases h
theorem CQ{s s':St}{j:Option Code}{x:Exit}(h:tN s j=some (x,s')):s'=s:=by
 unfold tN at h;split at h
 all_goals first
  |(cases h;done)
  |(simp only[oi,pj]at h;exact h.2.symm)
theorem CS{P:Program}{call:cD}(hc:aW call){f:FuncId}{nt:Nat}{x:Operand}{ps:Array Tmp}{assign body:Code}{s s':St}{e:Exit}(h:oQ P call f nt x ps assign body s=some (e,s')):bI s.h.next s.h s'.h:=by
 unfold oQ at h;simp only[Bool.cond_eq_ite]at h;split at h
 ·split at h
  ·split at h
   ·split at h
    ·rename_i h2 hr
     have k1:bI s.h.next s.h h2:=(bI.gO (Nat.le_refl _) _).trans ((hc _ _ _ _ _ hr).mono (by simp[af.gO]));split at h
     ·rw[CQ h];exact k1.trans (.iW (.inr (Nat.le_refl _)))
     ·rw[CQ h];exact k1.trans (.iW (.inr (Nat.le_refl _)))
     ·cases h
    ·cases h
   ·cases h
  ·cases h
 ·cases h
theorem my{B y:Nat}{h h':af}{j:Option Code}{v:Value}(hh:jS y h j=some (v,h')):bI B h h':=by
 unfold jS at hh;split at hh
 ·rename_i hm
  simp only[oi,pj]at hh;obtain⟨_,rfl⟩:=hh;exact .iW (.inl (by rw[hm];simp))
 ·cases hh
theorem CT{run:FuncId->Nat->Code->St->Option (Exit×St)}(hr:∀f nt c s x s',run f nt c s=some (x,s')->bI s.h.next s.h s'.h){y:Nat}{args:List Value}{h h':af}{v:Value}(hh:oR run y args h=some (v,h')):bI h.next h h':=by
 unfold oR at hh;split at hh
 ·simp only[Bool.cond_eq_ite]at hh
  split at hh
  ·split at hh
   ·rename_i s1 h1
    have k1:=hr _ _ _ _ _ _ h1;simp only[]at k1;split at hh
    ·rename_i sz f1 NK ze NM kK sA hm
     have k2:bI h.next h (s1.h.iW y (.loop .busy sz f1 NK ze NM kK sA)):=k1.trans (.iW (.inl (by rw[hm];simp)));split at hh
     ·rename_i s2 h2
      exact k2.trans (((hr _ _ _ _ _ _ h2).mono k1.next).trans (my hh))
     ·rename_i s2 h2
      exact k2.trans (((hr _ _ _ _ _ _ h2).mono k1.next).trans (my hh))
     ·rename_i s2 h2
      exact k2.trans (((hr _ _ _ _ _ _ h2).mono k1.next).trans (my hh))
     ·cases hh
    ·cases hh
   ·cases hh
  ·cases hh
 ·cases hh
theorem gT{P:Program}{H:Hint}{F:aZ}(hF:aW F):∀n,(∀f nt c s x s',(cB P H F n).run f nt c s=some (x,s')->bI s.h.next s.h s'.h)/\(∀f nt c kn s x s',(cB P H F n).loop f nt c kn s=some (x,s')->bI s.h.next s.h s'.h)/\aW (cB P H F n).call
 |0=>⟨fun f nt c s x s' h=>by simp[cB]at h,fun f nt c kn s x s' h=>by simp[cB]at h,fun g args h v h' hh=>by simp[cB]at hh⟩
 |n+1=>by
  obtain⟨i1,i2,i3⟩:=gT (H:=H) hF n;refine⟨?_,?_,?_⟩
  ·intro f nt c s x s' h
   simp only[cB,nk]at h;split at h
   ·simp only[oi,pj]at h;obtain⟨_,rfl⟩:=h;exact .refl _ _
   ·simp only[oi,pj]at h;obtain⟨_,rfl⟩:=h;exact .refl _ _
   ·simp only[oi,pj]at h;obtain⟨_,rfl⟩:=h;exact .refl _ _
   ·split at h
    ·rename_i s1 h1
     have k1:=i1 _ _ _ _ _ _ h1;have k2:=i1 _ _ _ _ _ _ h;exact k1.trans (k2.mono k1.next)
    ·exact i1 _ _ _ _ _ _ h
   ·split at h
    ·exact i1 _ _ _ _ _ _ h
    ·cases h
   ·split at h
    ·rename_i oS s1 h1
     have k1:=i1 _ _ _ _ _ _ h1;simp only[Bool.cond_eq_ite]at h;split at h
     ·simp only[oi,pj]at h;obtain⟨_,rfl⟩:=h;exact k1
     ·simp only[oi,pj]at h;obtain⟨_,rfl⟩:=h;exact k1
    ·exact i1 _ _ _ _ _ _ h
   ·exact i2 _ _ _ _ _ _ _ h
   ·rename_i ops draw
    split at h
    ·rename_i s1 h1
     simp only[oi,pj]at h;obtain⟨_,rfl⟩:=h;cases draw with
     |true=>exact Fm i3 h1
     |false=>exact tX i3 _ _ _ (Nat.le_refl _) h1
    ·cases h
   ·exact CS i3 h
   ·cases h
  ·intro f nt c kn s x s' h
   simp only[cB,oT]at h;split at h
   ·cases h
   ·rename_i s1 h0
    have e0:=Iv h0;split at h
    ·rename_i s2 h1
     have k1:=i1 _ _ _ _ _ _ h1;have k2:=i2 _ _ _ _ _ _ _ h;rw[e0]at k1;exact k1.trans (k2.mono k1.next)
    ·have k1:=i1 _ _ _ _ _ _ h
     rw[e0]at k1;exact k1
  ·intro g args h v h' hh
   simp only[cB,ot]at hh;cases hy:Nat.ble aV g with
   |true=>rw[hy]at hh;exact CT i1 hh
   |false=>
   rw[hy]at hh;simp only[cond_false]at hh;split at hh
   ·rename_i r hr
    simp only[oi]at hh;subst hh;exact hF _ _ _ _ _ hr
   ·split at hh
    ·rename_i fn _
     split at hh
     ·have key:∀s,vp P fn s=some (v,h')->h'=s.h:=by
       intro s he;unfold vp at he;simp only[Bool.cond_eq_ite]at he;repeat' split at he
       all_goals first|(cases he;done)|(simp only[oi,pj]at he;exact he.2.symm)
      split at hh
      ·rename_i s1 h1
       have k1:=i1 _ _ _ _ _ _ h1;rw[key _ hh];exact k1
      ·rename_i s1 h1
       have k1:=i1 _ _ _ _ _ _ h1;rw[key _ hh];exact k1
      ·cases hh
     ·cases hh
    ·cases hh
end Go.cS
namespace Go.cS
theorem bQ{s s2:St}(h:s2.env=s.env):bH s2=bH s:=by
 funext x;cases x<;>simp[bH,h]
theorem gZ{s s2:St}(h:s2.env=s.env):gP s2=gP s:=by
 funext l
 induction l with
 |nil=>rfl
 |cons x l ih=>simp only[gP,bQ h,ih]
theorem ow{s s2:St}(h:s2.env=s.env):fU s2=fU s:=by
 funext l
 induction l with
 |nil=>rfl
 |cons x l ih=>obtain⟨i,x⟩:=x;simp only[fU,bQ h,ih]
theorem zl{s s2:St}(h:s2.env=s.env):jc s2=jc s:=by
 funext x;cases x<;>simp only[jc,bQ h]
inductive AT where
 |idle
 |nF (b:Nat) (dm:Cq) (lw:Bool)
 |mA (t:Nat) (cs:List Value)
def AT.apply:AT->St->St
 | .idle,s=>s
 | .nF b dm lw,s=>{ s with h:={ next:=s.h.next,low:=bif lw then Nat.min s.h.low b else s.h.low,m:=s.h.m.set b dm } }
 | .mA t cs,s=>{ s with K:=s.K.set t cs }
def AT.fits:AT->FP->Bool->Prop
 | .idle,x,st=>(∀l b,x≠.new l b)/\st=false
 | .nF b dm lw,x,st=>(x=.block false b/\st=true/\lw=true/\∃es cs,dm=.live true es cs)\/(x=.new false b/\st=false/\lw=false/\∃es cs,dm=.live true es cs)
 | .mA t _,x,st=>(x=.block true t/\st=true)\/(x=.new true t/\st=false)
theorem qq{s s':St}{id tag:Nat}{loc:Bool}{es:Nat}{cells:List Value}{v:Value}(h:s.newAt id tag loc es cells=some (v,s')) :
  (loc=false/\s'=(AT.nF id (.live true es cells) false).apply s/\v=.pointer (some ⟨id,0,none⟩)/\∀s2:St,s2.newAt id tag loc es cells=some (v,(AT.nF id (.live true es cells) false).apply s2)) \/
  (loc=true/\s'=(AT.mA tag cells).apply s/\∀s2:St,s2.newAt id tag loc es cells=some (v,(AT.mA tag cells).apply s2)):=by
 unfold St.newAt at h;cases hc:cells.all aE with
 |false=>rw[hc]at h;simp at h
 |true=>
  rw[hc]at h;cases loc with
  |false=>
   simp only[cond_true,cond_false,oi,pj]at h;obtain⟨rfl,rfl⟩:=h;exact .inl ⟨rfl,rfl,rfl,fun s2=>by unfold St.newAt;rw[hc];rfl⟩
  |true=>
   simp only[cond_true,oi,pj]at h;obtain⟨rfl,rfl⟩:=h;exact .inr ⟨rfl,rfl,fun s2=>by unfold St.newAt;rw[hc];rfl⟩
theorem CU{P:Program}{s s2:St}{t:TypeId}{a:Addr}(h:s2.cells? a=s.cells? a):sq P s2 t a=sq P s t a:=by
 unfold sq St.read;rw[h]
theorem Iw{s s':St}{a:Addr}{vs:List Value}(h:s.write a vs=some s') :
  (a.spot=none/\∃dm es cs,dm=.live true es cs/\s'=(AT.nF a.block dm true).apply s/\(∃Ry JW,s.h.m.get a.block=some (.live true Ry JW))/\∀s2:St,s2.h.m.get a.block=s.h.m.get a.block->s2.write a vs=some ((AT.nF a.block dm true).apply s2)) \/
  (a.spot.isSome=true/\∃cs,s'=(AT.mA a.block cs).apply s/\∀s2:St,s2.kn=s.kn->s2.K.get a.block=s.K.get a.block->s2.write a vs=some ((AT.mA a.block cs).apply s2)):=by
 unfold St.write at h;cases fz:vs.all aE with
 |false=>rw[fz]at h;simp at h
 |true=>
  rw[fz]at h;simp only[cond_true]at h;cases iY:a.spot with
  |none=>
   left;rw[iY]at h;simp only[]at h;split at h
   ·rename_i h' hw
    simp only[oi]at h;subst h;unfold af.write at hw;split at hw
    ·rename_i es cs hm
     split at hw
     ·rename_i kR Cj
      simp only[oi]at hw;subst hw;refine⟨rfl,.live true es kR,es,kR,rfl,rfl,⟨es,cs,hm⟩,fun s2 h2=>?_⟩;unfold St.write af.write;rw[fz,iY];simp only[cond_true,h2,hm,Cj];rfl
     ·cases hw
    ·cases hw
   ·cases h
  |some x=>
   right;rw[iY]at h;simp only[]at h;cases hb:Nat.blt a.block s.kn with
   |false=>rw[hb]at h;simp at h
   |true=>
    rw[hb]at h;simp only[cond_true]at h;split at h
    ·rename_i cs hK
     split at h
     ·rename_i kR Cj
      simp only[oi]at h;subst h;refine⟨rfl,kR,rfl,fun s2 h1 h2=>?_⟩;unfold St.write;rw[fz,iY];simp only[cond_true,h1,hb,h2,hK,Cj];simp only[AT.apply,h1]
     ·cases h
    ·cases h
theorem vQ {P : Program} {s s' : St} {id tag : Nat} {loc : Bool} {op : Op} {v : Value} (hA : (dO op loc id tag s).fj = false) (h : gm P (s.newAt id tag) loc op s = some (v, s')) :
    ∃ E : AT, s' = E.apply s ∧ E.fits (dO op loc id tag s) (iC op) ∧
      ∀ s2 : St, s2.env = s.env → s2.kn = s.kn → (∀ b, dO op loc id tag s = .block false b → s2.h.m.get b = s.h.m.get b) → (∀ t, dO op loc id tag s = .block true t → s2.K.get t = s.K.get t) →
        gm P (s2.newAt id tag) loc op s2 = some (v, E.apply s2) := by
  by_cases hp : bK op = true
  · 
    have zU : dO op loc id tag s = .none := by unfold dO; rw [hp]; rfl
    have key : s' = s ∧ ∀ s2 : St, s2.env = s.env → gm P (s2.newAt id tag) loc op s2 = some (v, s2) := by
      unfold gm at h
      split at h
      all_goals first | (exfalso; simp [bK] at hp; done) | skip
      all_goals repeat' split at h
      all_goals first
        | (cases h; done)
        | (simp only [oi, pj] at h
           obtain ⟨rfl, rfl⟩ := h
           exact ⟨rfl, fun s2 he => by simp_all [gm, bQ he, gZ he, ow he, zl he]⟩)
        | (simp only [Bool.cond_eq_ite] at h
           split at h
           · rename_i h1 h2 Ut
             simp only [oi, pj] at h
             obtain ⟨rfl, rfl⟩ := h
             exact ⟨rfl, fun s2 he => by simp only [gm, gZ he, h1, h2, Ut, cond_true]⟩
           · cases h)
        | (exfalso; simp [bK] at hp; done)
    refine ⟨.idle, key.1, ⟨fun l b => by rw [zU]; simp, ?_⟩, fun s2 he _ _ _ => key.2 s2 he⟩
    cases op <;> first | rfl | simp [bK] at hp
  · have vt : bK op = false := by simpa using hp
    unfold gm at h
    split at h
    all_goals first | (exfalso; simp [bK] at hp; done) | skip
    · 
      rename_i e
      split at h
      · rename_i z n hz hn
        have zU : dO (.alloc e) loc id tag s = bif loc then .new true tag else .new false id := rfl
        rcases qq h with ⟨rfl, h1, _, h2⟩ | ⟨rfl, h1, h2⟩
        · exact ⟨_, h1, .inr ⟨zU, rfl, rfl, _, _, rfl⟩, fun s2 _ _ _ _ => by simp only [gm, hz, hn]; exact h2 s2⟩
        · exact ⟨_, h1, .inr ⟨zU, rfl⟩, fun s2 _ _ _ _ => by simp only [gm, hz, hn]; exact h2 s2⟩
      · cases h
    · 
      rename_i e x
      split at h
      · rename_i u n hu hn
        have zU : dO (.box e x) loc id tag s = bif loc then .new true tag else .new false id := rfl
        rcases qq h with ⟨rfl, h1, _, h2⟩ | ⟨rfl, h1, h2⟩
        · exact ⟨_, h1, .inr ⟨zU, rfl, rfl, _, _, rfl⟩, fun s2 he _ _ _ => by simp only [gm, bQ he, hu, hn]; exact h2 s2⟩
        · exact ⟨_, h1, .inr ⟨zU, rfl⟩, fun s2 he _ _ _ => by simp only [gm, bQ he, hu, hn]; exact h2 s2⟩
      · cases h
    · 
      rename_i t len parts
      split at h
      · rename_i l hl
        have zU : dO (.buildSlice t len parts) loc id tag s = .new false id := rfl
        have h9 := h
        unfold eQ at h
        split at h
        · rename_i e hu
          split at h
          · rename_i n z hn hz
            cases hb : (Nat.ble (len * n) 16777216 && Nat.beq z.cells.toList.length n && Nat.ble len 16777216) with
            | false => rw [hb] at h; simp at h
            | true =>
              rw [hb] at h
              simp only [cond_true] at h
              split at h
              · rename_i cs vN
                split at h
                · rename_i a s1 oI
                  simp only [oi, pj] at h
                  obtain ⟨rfl, rfl⟩ := h
                  rcases qq oI with ⟨_, h1, h3, h2⟩ | ⟨q, _⟩
                  · exact ⟨_, h1, .inr ⟨zU, rfl, rfl, _, _, rfl⟩, fun s2 he _ _ _ => by simp only [gm, ow he, hl, eQ, hu, hn, hz, hb, cond_true, vN, h2 s2]⟩
                  · cases q
                · cases h
              · cases h
          · cases h
        · cases h
      · cases h
    · 
      rename_i t x
      split at h
      · rename_i a hu
        split at h
        · rename_i u hv
          simp only [oi, pj] at h
          obtain ⟨rfl, rfl⟩ := h
          have zU : dO (.load t x) loc id tag s = .block a.spot.isSome a.block := by simp only [dO, bK, cond_false, hu]
          refine ⟨.idle, rfl, ⟨fun l b => by rw [zU]; simp, rfl⟩, fun s2 he hk hb ht => ?_⟩
          have wP : s2.cells? a = s.cells? a := by
            unfold St.cells?
            cases iY : a.spot with
            | none =>
              simp only [af.cells?]
              rw [hb a.block (by rw [zU, iY]; rfl)]
            | some y =>
              simp only [hk]
              rw [ht a.block (by rw [zU, iY]; rfl)]
          simp only [gm, bQ he, hu, CU wP, hv]
          rfl
        · cases h
      · cases h
    · 
      rename_i t x y
      split at h
      · rename_i a u hx hy
        split at h
        · rename_i s1 fX
          simp only [oi, pj] at h
          obtain ⟨rfl, rfl⟩ := h
          have zU : dO (.store t x y) loc id tag s = .block a.spot.isSome a.block := by simp only [dO, bK, cond_false, hx]
          unfold mu at fX
          split at fX
          · rename_i n hn
            cases WU : Nat.beq u.cells.toList.length n with
            | false => rw [WU] at fX; simp at fX
            | true =>
              rw [WU] at fX
              simp only [cond_true] at fX
              rcases Iw fX with ⟨iY, dm, es, cs, Yg, h1, _, h2⟩ | ⟨iY, cs, h1, h2⟩
              · refine ⟨_, h1, .inl ⟨by rw [zU, iY]; rfl, rfl, rfl, es, cs, Yg⟩, fun s2 he hk hb ht => ?_⟩
                have := h2 s2 (hb a.block (by rw [zU, iY]; rfl))
                simp only [gm, bQ he, hx, hy, mu, hn, WU, cond_true, this]
              · refine ⟨_, h1, .inl ⟨by rw [zU, iY], rfl⟩, fun s2 he hk hb ht => ?_⟩
                have := h2 s2 hk (ht a.block (by rw [zU, iY]))
                simp only [gm, bQ he, hx, hy, mu, hn, WU, cond_true, this]
          · cases fX
        · cases h
      · cases h
    · 
      rename_i src dst x
      split at h
      · rename_i a n c hu
        split at h
        · rename_i u hv
          simp only [oi, pj] at h
          obtain ⟨rfl, rfl⟩ := h
          refine ⟨.idle, rfl, ⟨fun l b => ?_, rfl⟩, fun s2 he hk hb ht => ?_⟩
          · simp only [dO, bK, cond_false, hu]
            cases a with
            | none => simp
            | some a =>
              intro q
              simp only [Bool.cond_eq_ite] at q
              split at q <;> cases q
          · have hcm : oq P s2.h src dst a n = oq P s.h src dst a n := by
              cases a with
              | none => rfl
              | some a =>
                cases iY : a.spot with
                | some y => unfold oq af.aM; simp only [iY]
                | none =>
                  have hg := hb a.block (by simp [dO, bK, hu, iY])
                  unfold oq af.aM af.cells?
                  simp only [iY, hg]
            simp only [gm, bQ he, hu, hcm, hv]
            rfl
        · cases h
      · rename_i u1 dX hu
        split at h
        · rename_i u hv
          simp only [oi, pj] at h
          obtain ⟨rfl, rfl⟩ := h
          refine ⟨.idle, rfl, ⟨fun l b => ?_, rfl⟩, fun s2 he hk hb ht => ?_⟩
          · simp only [dO, bK, cond_false, hu]
            split
            · rename_i a9 n9 c9 e9
              simp only [oi] at e9
              exact absurd e9 (dX _ _ _)
            · simp
          · simp only [gm, bQ he, hu]
            cases u1 <;> first | exact absurd rfl (dX _ _ _) | (simp only [hv]; rfl)
        · cases h
      · cases h
    · 
      rename_i t l c
      split at h
      · rename_i u1 u2 Uh KB
        have zU : dO (.makeSlice t l c) loc id tag s = .new false id := rfl
        unfold fJ at h
        split at h
        · rename_i e k1 l' k2 c' hu
          split at h
          · rename_i n z by_ hn hz qY
            split at h
            · rename_i qZ
              split at h
              · rename_i a s1 oI
                simp only [oi, pj] at h
                obtain ⟨rfl, rfl⟩ := h
                rcases qq oI with ⟨_, h1, h3, h2⟩ | ⟨q, _⟩
                · exact ⟨_, h1, .inr ⟨zU, rfl, rfl, _, _, rfl⟩, fun s2 he _ _ _ => by simp only [gm, bQ he, Uh, KB, fJ, hu, hn, hz, qY]; rw [if_pos qZ]; simp only [h2 s2]⟩
                · cases q
              · cases h
            · cases h
          · cases h
        · cases h
      · cases h
    · 
      rename_i b args argTypes
      exfalso
      have : (dO (.call { callee := .builtin b, args, argTypes }) loc id tag s).fj = true := by
        cases b <;> first | (simp [bK] at vt; done) | rfl
      rw [this] at hA
      cases hA
    · exact absurd (show (true : Bool) = false from hA) (by decide)
    · exact absurd (show (true : Bool) = false from hA) (by decide)
    · exact absurd (show (true : Bool) = false from hA) (by decide)
    · exact absurd (show (true : Bool) = false from hA) (by decide)
    · cases h
end Go.cS
namespace Go.cS
theorem wY(acc:Array Nat):∀(l:List Edge) (s0 p:Nat),(l.foldl (fun s e=>if Region.binds .any e then s ||| 2 ^ e.on ||| acc.getD e.on 0 else s) s0).testBit p=true->
  s0.testBit p=true\/∃e∈l,Region.binds .any e=true/\(p=e.on\/(acc.getD e.on 0).testBit p=true)
 | [],s0,p,h=>.inl h
 |e :: l,s0,p,h=>by
  simp only[List.foldl_cons]at h;rcases wY acc l _ p h with h1|⟨e',h1,h2,h3⟩
  ·by_cases hb:Region.binds .any e=true
   ·rw[if_pos hb]at h1
    simp only[Nat.testBit_or,Bool.or_eq_true,Nat.testBit_two_pow,decide_eq_true_eq]at h1;rcases h1 with (h1|h1)|h1
    ·exact .inl h1
    ·exact .inr ⟨e,by simp,hb,.inl h1.symm⟩
    ·exact .inr ⟨e,by simp,hb,.inr h1⟩
   ·rw[if_neg hb]at h1;exact .inl h1
  ·exact .inr ⟨e',by simp[h1],h2,h3⟩
def wZ(ops:Array Oper)(E:Nat->Prop):Prop:=∀q o,E q->ops[q]?=some o->∀e∈o.after.toList,Region.binds .any e=true->E e.on
theorem rh{ops:Array Oper}{E:Nat->Prop}(hE:wZ ops E){p q:Nat}(h:prec (Region.before ops) p q=true)(hq:E q):E p:=by
 have key:∀(l:List Oper) (k:Nat) (acc:Array Nat),acc.size=k->(∀j,l[j]?=ops[k+j]?)->(∀q p,(acc.getD q 0).testBit p=true->E q->E p)->
   ∀q p,((l.foldl (fun(acc:Array Nat) o=>acc.push (o.after.foldl (fun s e=>if Region.binds .any e then s ||| 2 ^ e.on ||| acc.getD e.on 0 else s) 0)) acc).getD q 0).testBit p=true->E q->E p:=by
  intro l
  induction l with
  |nil=>intro k acc _ _ h q p hq;exact h q p hq
  |cons o l ih=>
   intro k acc hk hl h;simp only[List.foldl_cons];have ho:ops[k]?=some o:=by have:=hl 0;simpa using this.symm
   refine ih (k+1) _ (by simp[hk]) (fun j=>by have:=hl (j+1);simpa[Nat.add_assoc,Nat.add_comm 1 j]using this) ?_;intro q p hb hq;rcases Nat.lt_trichotomy q acc.size with dR|heq|hgt
   ·have:(acc.push (o.after.foldl (fun s e=>if Region.binds .any e then s ||| 2 ^ e.on ||| acc.getD e.on 0 else s) 0)).getD q 0=acc.getD q 0:=by
     simp[Array.getD,Array.getElem_push,dR,Nat.lt_succ_of_lt dR]
    rw[this]at hb;exact h q p hb hq
   ·subst heq
    have:(acc.push (o.after.foldl (fun s e=>if Region.binds .any e then s ||| 2 ^ e.on ||| acc.getD e.on 0 else s) 0)).getD acc.size 0=o.after.foldl (fun s e=>if Region.binds .any e then s ||| 2 ^ e.on ||| acc.getD e.on 0 else s) 0:=by
     simp[Array.getD]
    rw[this,<-Array.foldl_toList]at hb;rcases wY acc o.after.toList 0 p hb with h1|⟨e,h1,h2,h3⟩
    ·simp at h1
    ·have he:=hE acc.size o hq (by rw[hk];exact ho) e h1 h2
     rcases h3 with rfl|h3
     ·exact he
     ·exact h _ _ h3 he
   ·have:(acc.push (o.after.foldl (fun s e=>if Region.binds .any e then s ||| 2 ^ e.on ||| acc.getD e.on 0 else s) 0)).getD q 0=0:=by
     simp[Array.getD,show ¬q<acc.size+1 by omega]
    rw[this]at hb;simp at hb
 refine key ops.toList 0 #[] rfl (fun j=>by simp) (fun q p h=>by simp at h) q p ?_ hq;unfold prec Region.before at h;rw[<-Array.foldl_toList]at h;exact h
theorem rF{α:Type}{p:α->α->Bool}:∀(l:List α),zN p l=true->∀(i k:Nat) (x y:α),i<k->l[i]?=some x->l[k]?=some y->p x y=true
 | [],_,i,k,x,y,_,h1,_=>by simp at h1
 |z :: l,h,i,k,x,y,GM,h1,h2=>by
  simp only[zN,Bool.and_eq_true,List.all_eq_true]at h;obtain⟨k',rfl⟩:∃k',k=k'+1:=⟨k-1,om⟩;simp only[List.getElem?_cons_succ]at h2;cases i with
  |zero=>simp at h1;subst h1;exact h.1 y (List.mem_of_getElem? h2)
  |succ i=>simp only[List.getElem?_cons_succ]at h1;exact rF l h.2 i k' x y om h1 h2
section
variable(P:Program)(H:Hint)(call:cD)(f:FuncId)(nt:Nat)(ops:Array Oper)(base aO:Nat)
def me(i:Nat)(o:Oper)(s:St)(v:Value)(x:FP)(wr:Bool)(s':St):Prop:=
 (jd ops o s=some true/\∃s1,jx P H call f (base+i) (aO+i) o s.fresh=some (v,s1)/\rD nt (s1.az s.h.low) o.dst v=some s'/\x=dO o.op (eV H f o) (base+i) (aO+i) s/\wr=(iC o.op || Nat.blt s1.h.low s.h.next)) \/
 (jd ops o s=some false/\rD nt s o.dst undef=some s'/\v=undef/\x=.none/\wr=false)
theorem w6:∀(l:List Nat) (i:Nat) (s r:St) (il:List (Nat×FP×Bool)),qN P H call f nt ops base aO l i s=some (r,il)->
  ∃(S:Nat->St) (V:Nat->Value) (X:Nat->FP) (W:Nat->Bool),S i=s/\S (i+l.length)=r/\il.length=l.length /\
   ∀j p,l[j]?=some p->∃o,ops[p]?=some o/\il[j]?=some (p,X (i+j),W (i+j))/\me P H call f nt ops base aO (i+j) o (S (i+j)) (V (i+j)) (X (i+j)) (W (i+j)) (S (i+j+1))
 | [],i,s,r,il,h=>by
  simp only[qN,oi,pj]at h;obtain⟨rfl,rfl⟩:=h;exact⟨fun _=>s,fun _=>undef,fun _=>.none,fun _=>false,rfl,rfl,rfl,fun j p h=>by simp at h⟩
 |p :: l,i,s,r,il,h=>by
  simp only[qN]at h;have comb:∀(o:Oper) (v:Value) (x:FP) (wr:Bool) (s2:St) (vx:List (Nat×FP×Bool)),ops[p]?=some o->me P H call f nt ops base aO i o s v x wr s2->qN P H call f nt ops base aO l (i+1) s2=some (r,vx)->il=(p,x,wr) :: vx->
    ∃(S:Nat->St) (V:Nat->Value) (X:Nat->FP) (W:Nat->Bool),S i=s/\S (i+(p :: l).length)=r/\il.length=(p :: l).length /\
     ∀j q,(p :: l)[j]?=some q->∃o,ops[q]?=some o/\il[j]?=some (q,X (i+j),W (i+j))/\me P H call f nt ops base aO (i+j) o (S (i+j)) (V (i+j)) (X (i+j)) (W (i+j)) (S (i+j+1)):=by
   intro o v x wr s2 vx ho hs hr hf;subst hf;obtain⟨S,V,X,W,e1,e2,e3,e4⟩:=w6 l (i+1) s2 r vx hr;refine⟨fun k=>if k=i then s else S k,fun k=>if k=i then v else V k,fun k=>if k=i then x else X k,fun k=>if k=i then wr else W k,by simp,?_,by simp[e3],?_⟩
   ·have:¬i+(p :: l).length=i:=by simp
    simp only[this,if_false];rw[<-e2];congr 1;simp;omega
   ·intro j q hj
    cases j with
    |zero=>
     simp at hj;subst hj;refine⟨o,ho,by simp,?_⟩;simp only[Nat.add_zero,if_true,show ¬i+1=i by omega,if_false,e1];exact hs
    |succ j=>
     simp only[List.getElem?_cons_succ]at hj;obtain⟨o',f1,f2,f3⟩:=e4 j q hj;have e5:i+1+j=i+(j+1):=om
     rw[e5]at f2 f3;refine⟨o',f1,?_,?_⟩
     ·simp only[List.getElem?_cons_succ,show ¬i+(j+1)=i by omega,if_false];exact f2
     ·simp only[show ¬i+(j+1)=i by omega,show ¬i+(j+1)+1=i by omega,if_false];exact f3
  split at h
  ·cases h
  ·rename_i o ho
   split at h
   ·rename_i hw
    split at h
    ·rename_i v s1 h1
     split at h
     ·rename_i s2 h2
      split at h
      ·rename_i r' vx h3
       simp only[oi,pj]at h;obtain⟨rfl,h4⟩:=h;exact comb o v _ _ s2 vx ho (.inl ⟨hw,s1,h1,h2,rfl,rfl⟩) h3 h4.symm
      ·cases h
     ·cases h
    ·cases h
   ·rename_i hw
    split at h
    ·rename_i s2 h2
     split at h
     ·rename_i r' vx h3
      simp only[oi,pj]at h;obtain⟨rfl,h4⟩:=h;exact comb o undef .none false s2 vx ho (.inr ⟨hw,h2,rfl,rfl,rfl⟩) h3 h4.symm
     ·cases h
    ·cases h
   ·cases h
end
theorem sL{P:Program}{H:Hint}{call:cD}{f:FuncId}{id tag:Nat}{o:Oper}{s s':St}{v:Value}(hx:(dO o.op (eV H f o) id tag s).fj=true)(h:jx P H call f id tag o s=some (v,s')) :
  s' = { s with h:=s'.h }/\(∀s3:St,s3.env=s.env->s3.h=s.h->jx P H call f id tag o s3=some (v,{ s3 with h:=s'.h }))/\(aW call->∀B,B<=s.h.next->bI B s.h s'.h):=by
 unfold jx at h;split at h
 ·rename_i c hc
  have h0:=h;unfold jB at h;split at h
  ·rename_i g args hg
   split at h
   ·rename_i u h' hr
    simp only[oi,pj]at h;obtain⟨rfl,rfl⟩:=h;refine⟨rfl,fun s3 he hh=>?_,fun hk B hB=>pg hk hB h0⟩;have e1:kJ s3 c=kJ s c:=by unfold kJ;rw[bQ he,gZ he]
    unfold jx;rw[hc];simp only[jB,e1,hg,hh,hr]
   ·cases h
  ·cases h
 ·rename_i hc
  have Uu:∀op,gm P (s.newAt id tag) (eV H f o) op s=some (v,s')->(dO op (eV H f o) id tag s).fj=true->
    s' = { s with h:=s'.h }/\(∀s3:St,s3.env=s.env->s3.h=s.h->gm P (s3.newAt id tag) (eV H f o) op s3=some (v,{ s3 with h:=s'.h }))/\(∀B,B<=s.h.next->bI B s.h s'.h):=by
   intro op h hx;unfold gm at h;split at h
   all_goals first|(exfalso;simp[dO,bK,FP.fj]at hx;done)|skip
   ·exfalso;revert hx;unfold dO;cases eV H f o<;>simp[bK,FP.fj]
   ·exfalso;revert hx;unfold dO;cases eV H f o<;>simp[bK,FP.fj]
   ·rename_i t x
    split at h
    ·rename_i a hu;exfalso;simp[dO,bK,hu,FP.fj]at hx
    ·cases h
   ·rename_i t x y
    split at h
    ·rename_i a u hu _;exfalso;simp[dO,bK,hu,FP.fj]at hx
    ·cases h
   ·exfalso
    revert hx
    simp only[dO,bK,cond_false];split
    ·rename_i a9 n9 c9 e9
     cases a9.spot.isNone<;>simp[FP.fj]
    ·simp[FP.fj]
   ·rename_i b args argTypes
    split at h
    ·rename_i l hl
     split at h
     ·exfalso;simp[dO,bK,FP.fj]at hx
     ·exfalso;simp[dO,bK,FP.fj]at hx
     ·exfalso;simp[dO,bK,FP.fj]at hx
     ·exfalso;simp[dO,bK,FP.fj]at hx
     ·obtain⟨h',h1,rfl⟩:=bg h
      refine⟨rfl,fun s3 he hh=>?_,fun B hB=>sK hB h1⟩;simp only[gm,gZ he,hl,hh,h1,bO]
     ·obtain⟨h',h1,rfl⟩:=bg h
      refine⟨rfl,fun s3 he hh=>?_,fun B hB=>wX h1⟩;simp only[gm,gZ he,hl,hh,h1,bO]
     ·obtain⟨h',h1,rfl⟩:=bg h
      refine⟨rfl,fun s3 he hh=>?_,fun B hB=>uS h1⟩;simp only[gm,gZ he,hl,hh,h1,bO]
     ·cases h
    ·cases h
   ·obtain⟨h',h1,rfl⟩:=bg h
    simp only[oi,pj]at h1;obtain⟨rfl,rfl⟩:=h1;exact⟨rfl,fun s3 he hh=>by simp only[gm,hh,bO],fun B hB=>.gO hB _⟩
   ·split at h
    ·rename_i u1 u2 g1 g2
     obtain⟨h',h1,rfl⟩:=bg h;refine⟨rfl,fun s3 he hh=>?_,fun B hB=>sJ h1⟩;simp only[gm,bQ he,g1,g2,hh,h1,bO]
    ·cases h
   ·split at h
    ·rename_i u1 u2 u3 g1 g2 g3
     obtain⟨h',h1,rfl⟩:=bg h;refine⟨rfl,fun s3 he hh=>?_,fun B hB=>nE h1⟩;simp only[gm,bQ he,g1,g2,g3,hh,h1,bO]
    ·cases h
   ·split at h
    ·rename_i u1 u2 u3 g1 g2 g3
     obtain⟨h',h1,rfl⟩:=bg h;refine⟨rfl,fun s3 he hh=>?_,fun B hB=>nE h1⟩;simp only[gm,bQ he,g1,g2,g3,hh,h1,bO]
    ·cases h
   ·cases h
  obtain⟨e1,e2,e3⟩:=Uu o.op h hx;refine⟨e1,fun s3 he hh=>?_,fun _=>e3⟩;unfold jx;rw[hc];exact e2 s3 he hh
theorem zm{h:af}{b c es:Nat}{cs:List Value}(hb:b<h.next)(hc:b≠c):((h.kill c).push es cs).m.get b=h.m.get b:=by
 show((h.m.set c _).set h.next _).get b=_;rw[cQ.aS _ _ om,cQ.aS _ _ om]
theorem AU{P:Program}{h h':af}{ts:List TypeId}{x:Value}{r:List Value}{v:Value}(hh:cN P h ts (x :: r)=some (v,h')){b:Nat}(hb:b<h.next)(dX:b≠Cv (some x)):h'.m.get b=h.m.get b:=by
 unfold cN at hh;split at hh
 ·rename_i t xt base len c' y heq
  simp only[List.cons.injEq]at heq;obtain⟨rfl,rfl⟩:=heq;have ps:∀(es:Nat) (cs:List Value),(h.push es cs).m.get b=h.m.get b:=fun es cs=>by
   show(h.m.set h.next _).get b=_;rw[cQ.aS _ _ om]
  cases base with
  |none=>
   simp only[Bool.cond_eq_ite]at hh;repeat' split at hh
   all_goals first
    |(cases hh;done)
    |(simp only[oi,pj]at hh;obtain⟨_,rfl⟩:=hh;rfl)
    |(simp only[oi,pj]at hh;obtain⟨_,rfl⟩:=hh;exact ps _ _)
  |some a=>
   have dX:b≠a.block:=dX;have wr:∀{h1:af} {o:Nat} {vs:List Value},h.write a.block o vs=some h1->h1.m.get b=h.m.get b:=by
    intro h1 o vs hw;unfold af.write at hw;repeat' split at hw
    all_goals first
     |(cases hw;done)
     |(simp only[oi]at hw;subst hw;show(h.m.set _ _).get b=_;rw[cQ.aS _ _ (fun e=>dX e.symm)])
   have wg:∀{h1:af} {n:Nat} {vs:List Value},h.ik (fT a n) vs=some h1->h1.m.get b=h.m.get b:=by
    intro h1 n vs hw;unfold af.ik at hw;simp only[fT,Bool.cond_eq_ite]at hw;repeat' split at hw
    all_goals first
     |(cases hw;done)
     |exact wr hw
   simp only[Bool.cond_eq_ite]at hh;repeat' split at hh
   all_goals first
    |(cases hh;done)
    |(simp only[oi,pj]at hh;obtain⟨_,rfl⟩:=hh;rfl)
    |(simp only[oi,pj]at hh;obtain⟨_,rfl⟩:=hh;exact zm hb dX)
    |(simp only[oi,pj]at hh;obtain⟨_,rfl⟩:=hh;exact ps _ _)
    |(simp only[oi,pj]at hh;obtain⟨_,rfl⟩:=hh;exact wg (by assumption))
 ·cases hh
theorem Iy{P:Program}{H:Hint}{call:cD}{f:FuncId}{id tag:Nat}{o:Oper}{s s':St}{v:Value}{c:Nat}(hx:dO o.op (eV H f o) id tag s=.app c)(h:jx P H call f id tag o s=some (v,s')){b:Nat}(hb:b<s.h.next)(dX:b≠c):s'.h.m.get b=s.h.m.get b:=by
 have key:∀op,dO op (eV H f o) id tag s=.app c->∃args ts,op=.call { callee:=.builtin .append,args:=args,argTypes:=ts }/\Cv (Cw s args.toList)=c:=by
  intro op hx;unfold dO at hx;cases hp:bK op with
  |true=>rw[hp]at hx;cases hx
  |false=>
   rw[hp]at hx;simp only[cond_false]at hx;split at hx
   ·cases hl:eV H f o<;>rw[hl]at hx<;>cases hx
   ·cases hl:eV H f o<;>rw[hl]at hx<;>cases hx
   ·cases hx
   ·cases hx
   ·split at hx<;>cases hx
   ·split at hx<;>cases hx
   ·split at hx
    ·rename_i a _ _ _
     cases hn:a.spot.isNone<;>rw[hn]at hx<;>cases hx
    ·cases hx
   ·rename_i args ts
    exact⟨args,ts,rfl,by simpa using hx⟩
   ·cases hx
 obtain⟨args,ts,ho,rfl⟩:=key o.op hx;unfold jx at h;rw[ho]at h;have hc:dP (.call { callee:=.builtin .append,args:=args,argTypes:=ts })=none:=rfl;rw[hc]at h;have h:gm P (s.newAt id tag) (eV H f o) (.call { callee:=.builtin .append,args:=args,argTypes:=ts }) s=some (v,s'):=h;simp only[gm]at h;split at h
 ·rename_i l hl
  obtain⟨h',h1,rfl⟩:=bg h;cases ha:args.toList with
  |nil=>
   rw[ha]at hl;simp only[gP,oi]at hl;subst hl;unfold cN at h1;split at h1
   ·rename_i heq;cases heq
   ·cases h1
  |cons x r=>
   rw[ha]at dX hl;have:∃u l',l=u :: l'/\bH s x=some u:=by
    unfold gP at hl;split at hl
    ·rename_i u e1
     split at hl
     ·cases hl
      exact⟨u,_,rfl,e1⟩
     ·cases hl
    ·cases hl
   obtain⟨u,l',rfl,hu⟩:=this;refine AU h1 hb ?_;have e:Cw s (x :: r)=some u:=hu;rw[e]at dX;exact dX
 ·cases h
theorem zV{P:Program}{H:Hint}{call:cD}(fy:gL P call){f:FuncId}{J:dI}{s s':St}{w:World}{a:Act}{id tag:Nat}{o:Oper}{v:Value}(hR:HR J s w)(hM:zQ J s w (s.newAt id tag))(hE:oJ J s a o.op.operands.toList)(h:jx P H call f id tag o s=some (v,s')) :
  AS P J s w a o v s' (fun k=>(Ct o.op (eV H f o)=true/\k=id)\/s.h.next<=k) (fun t=>Cu o.op (eV H f o)=true/\t=tag):=by
 unfold jx at h;split at h
 ·rename_i c hc
  intro K Q hK ro;exact uR fy hR (o9 hc) hE h K Q (fun c w' J' a1 a2 a3 a4 a5 a6=>hK c w' J' a1 a2 a3 a4 (a5.mono (fun _=>.inr)) (a6.mono (fun _ q=>q.elim))) ro
 ·intro K Q hK ro
  refine(GS hR hM hE Ky h).RC (uQ h) K Q (ro:=ro) (fun c w' J' a1 a2 a3 a4 a5 a6=>hK c w' J' a1 a2 a3 a4 (a5.mono ?_) (a6.mono ?_))
  ·rintro k (⟨q,es,cells,s9,h9⟩|⟨_,h9⟩)
   ·left
    refine⟨q,?_⟩;unfold St.newAt at h9;simp only[Bool.cond_eq_ite]at h9;split at h9
    ·simp at h9;exact h9.1.symm
    ·cases h9
   ·exact .inr h9
  ·rintro t ⟨q,es,cells,s9,h9⟩
   refine⟨q,?_⟩;unfold St.newAt at h9;simp only[Bool.cond_eq_ite]at h9;split at h9
   ·simp at h9;exact h9.1.symm
   ·cases h9
end Go.cS
namespace Go.cS
structure Tr(P:Program)(H:Hint)(call:cD)(f:FuncId)(nt:Nat)(ops:Array Oper)(base aO:Nat)(l:List Nat)(S:Nat->St)(V:Nat->Value)(X:Nat->FP)(W:Nat->Bool):Prop where
 len:l.length=ops.size
 step:∀(i p:Nat),l[i]?=some p->∃o,ops[p]?=some o/\me P H call f nt ops base aO i o (S i) (V i) (X i) (W i) (S (i+1))
 Ok:∀(i k p q:Nat),i<k->l[i]?=some p->l[k]?=some q->p≠q
 RJ:∀(i k p q:Nat) (o o':Oper),i<k->l[i]?=some p->l[k]?=some q->ops[p]?=some o->ops[q]?=some o'->(shares ops o o'=true\/cA (base+ops.size) (X i) (W i) (X k) (W k)=true)->prec (Region.before ops) p q=true
 dD:base+ops.size<=(S 0).h.next
 kn:(S 0).kn=aO+ops.size
 dG:aW call
def w7(S:Nat->St)(X:Nat->FP)(W:Nat->Bool)(j id:Nat):Prop:=(X j=.block false id/\W j=true)\/X j=.new false id\/((X j).fj=true/\((W j=true/\(X j).Kb id=true)\/(S j).h.next<=id))
def AV(X:Nat->FP)(W:Nat->Bool)(j t:Nat):Prop:=(X j=.block true t/\W j=true)\/X j=.new true t
section
variable{P:Program}{H:Hint}{call:cD}{f:FuncId}{nt:Nat}{ops:Array Oper}{base aO:Nat}{l:List Nat}{S:Nat->St}{V:Nat->Value}{X:Nat->FP}{W:Nat->Bool}
theorem nG{o:Oper}{c:Call}{loc:Bool}{id tag:Nat}{s:St}(h:dP o.op=some c):dO o.op loc id tag s=.all:=by
 have hc:=o9 h;unfold dP at h;rw[hc]at h ⊢;simp only[]at h;cases hx:c.callee with
 |value x=>cases c;simp only at hx;subst hx;rfl
 |invoke _ _=>rw[hx]at h;simp at h
 |builtin _=>rw[hx]at h;simp at h
theorem gB{o:Op}{loc:Bool}{id tag:Nat}{s:St}:dO o loc id tag s.fresh=dO o loc id tag s:=by
 unfold dO;have e:∀l,Cw s.fresh l=Cw s l:=fun l=>by cases l<;>first|rfl|exact bQ rfl
 simp only[bQ (s:=s) (s2:=s.fresh) rfl,e]
structure On(i:Nat)(o:Oper)(s:St)(v:Value)(x:FP)(wr:Bool)(s':St):Prop where
 env:∀t,s'.env.get t=if o.dst=some t then some v else s.env.get t
 kn:s'.kn=s.kn
 next:s.h.next<=s'.h.next
 RK:x.fj=false->s'.h.next=s.h.next
 low:s'.h.low<=s.h.low
theorem me.sum(hk:aW call){i:Nat}{o:Oper}{s s':St}{v:Value}{x:FP}{wr:Bool}(h:me P H call f nt ops base aO i o s v x wr s'):On i o s v x wr s':=by
 have zj:∀(s0:St) (u:Value),rD nt s0 o.dst u=some s'->∀t,s'.env.get t=if o.dst=some t then some u else s0.env.get t:=by
  intro s0 u hp t;rcases mN hp with ⟨h1,rfl⟩|⟨d,h1,_,rfl⟩
  ·simp[h1]
  ·simp only[h1,cQ.bL,oi]
 rcases h with ⟨_,s1,h1,h2,rfl,rfl⟩|⟨_,h2,rfl,rfl,rfl⟩
 ·by_cases hA:(dO o.op (eV H f o) (base+i) (aO+i) s).fj=true
  ·obtain⟨e1,_,e3⟩:=sL (by rw[gB];exact hA) h1
   have k:=jh (e3 hk 0 (Nat.zero_le _));refine⟨fun t=>?_,?_,?_,fun q=>absurd (hA.symm.trans q) (by decide),?_⟩
   ·rw[zj _ _ h2 t];rw[e1];rfl
   ·rw[cK h2,e1];rfl
   ·rw[cK h2];exact k.next
   ·rw[cK h2];exact k.low
  ·have hc:dP o.op=none:=by
    cases hc:dP o.op with
    |none=>rfl
    |some c=>exact absurd (by rw[nG hc];rfl) hA
   unfold jx at h1;rw[hc]at h1;obtain⟨E,e1,e2,_⟩:=vQ (by rw[gB];simpa using hA) h1;have WV:s1.env=s.env/\s1.kn=s.kn/\s1.h.next=s.h.next:=by
    rw[e1];cases E<;>exact⟨rfl,rfl,rfl⟩
   refine⟨fun t=>?_,?_,?_,fun _=>?_,?_⟩
   ·rw[zj _ _ h2 t];simp only[St.az,WV.1]
   ·rw[cK h2];exact WV.2.1
   ·rw[cK h2];simp only[St.az,WV.2.2];exact Nat.le_refl _
   ·rw[cK h2];exact WV.2.2
   ·rw[cK h2];exact Nat.min_le_left _ _
 ·refine⟨fun t=>zj _ _ h2 t,?_,?_,fun _=>?_,?_⟩
  ·rw[cK h2]
  ·rw[cK h2];exact Nat.le_refl _
  ·rw[cK h2]
  ·rw[cK h2];exact Nat.le_refl _
theorem me.Uv(hk:aW call){i:Nat}{o:Oper}(h:me P H call f nt ops base aO i o (S i) (V i) (X i) (W i) (S (i+1))){id:Nat}(hm:¬w7 S X W i id):(S (i+1)).h.m.get id=(S i).h.m.get id:=by
 rcases h with ⟨_,s1,h1,h2,hx,hw⟩|⟨_,h2,_,hx,hw⟩
 ·rw[cK h2]
  show s1.h.m.get id=_;by_cases hA:(X i).fj=true
  ·obtain⟨e1,_,e3⟩:=sL (by rw[gB,<-hx];exact hA) h1
   have dR:id<(S i).h.next:=by
    rcases Nat.lt_or_ge id (S i).h.next with q|q
    ·exact q
    ·exact absurd (.inr (.inr ⟨hA,.inr q⟩)) hm
   cases hh:(X i).Kb id with
   |false=>
    cases hX:X i with
    |app c=>
     rw[hX]at hh;exact Iy (by rw[gB,<-hx];exact hX) h1 dR (fun e=>by rw[e]at hh;simp[FP.Kb]at hh)
    |all=>rw[hX]at hh;cases hh
    |none=>rw[hX]at hh;cases hh
    |block _ _=>rw[hX]at hh;cases hh
    |new _ _=>rw[hX]at hh;cases hh
   |true=>
   have hwf:W i=false:=by
    cases hq:W i with
    |false=>rfl
    |true=>exact absurd (.inr (.inr ⟨hA,.inl ⟨hq,hh⟩⟩)) hm
   have aq:(S i).h.next<=s1.h.low:=by
    rw[hwf]at hw;have:=hw.symm;simp only[Bool.or_eq_false_iff]at this;rcases Nat.lt_or_ge s1.h.low (S i).h.next with q|q
    ·rw[dW q]at this;cases this.2
    ·exact q
   exact(e3 hk (S i).h.next (Nat.le_refl _)).get id dR om
  ·have hc:dP o.op=none:=by
    cases hc:dP o.op with
    |none=>rfl
    |some c=>exact absurd (by rw[hx,nG hc];rfl) hA
   unfold jx at h1;rw[hc]at h1;obtain⟨E,e1,e2,_⟩:=vQ (by rw[gB,<-hx];simpa using hA) h1;rw[gB,<-hx]at e2;rw[e1];cases E with
   |idle=>rfl
   |mA t cs=>rfl
   |nF b dm lw=>
    have dX:b≠id:=by
     intro e;subst e;rcases e2 with ⟨q1,q2,_⟩|⟨q1,_⟩
     ·exact hm (.inl ⟨q1,by rw[hw,q2];rfl⟩)
     ·exact hm (.inr (.inl q1))
    show((S i).fresh.h.m.set b dm).get id=_;rw[cQ.aS _ _ dX];rfl
 ·rw[cK h2]
theorem me.Yh{i:Nat}{o:Oper}(h:me P H call f nt ops base aO i o (S i) (V i) (X i) (W i) (S (i+1))){t:Nat}(hm:¬AV X W i t):(S (i+1)).K.get t=(S i).K.get t:=by
 rcases h with ⟨_,s1,h1,h2,hx,hw⟩|⟨_,h2,_,hx,hw⟩
 ·rw[cK h2]
  show s1.K.get t=_;by_cases hA:(X i).fj=true
  ·obtain⟨e1,_,_⟩:=sL (by rw[gB,<-hx];exact hA) h1
   rw[e1];rfl
  ·have hc:dP o.op=none:=by
    cases hc:dP o.op with
    |none=>rfl
    |some c=>exact absurd (by rw[hx,nG hc];rfl) hA
   unfold jx at h1;rw[hc]at h1;obtain⟨E,e1,e2,_⟩:=vQ (by rw[gB,<-hx];simpa using hA) h1;rw[gB,<-hx]at e2;rw[e1];cases E with
   |idle=>rfl
   |nF b dm lw=>rfl
   |mA b cs=>
    have dX:b≠t:=by
     intro e;subst e;rcases e2 with ⟨q1,q2⟩|⟨q1,_⟩
     ·exact hm (.inl ⟨q1,by rw[hw,q2];rfl⟩)
     ·exact hm (.inr q1)
    show((S i).fresh.K.set b cs).get t=_;rw[cQ.aS _ _ dX];rfl
 ·rw[cK h2]
variable(T:Tr P H call f nt ops base aO l S V X W)
include T
theorem Tr.at{i:Nat}(h:i<ops.size):∃p o,l[i]?=some p/\ops[p]?=some o/\me P H call f nt ops base aO i o (S i) (V i) (X i) (W i) (S (i+1)):=by
 have hl:i<l.length:=by rw[T.len];exact h
 obtain⟨o,h1,h2⟩:=T.step i l[i] (by simp[hl]);exact⟨l[i],o,by simp[hl],h1,h2⟩
theorem Tr.RL:∀i,i<=ops.size->(S i).kn=aO+ops.size
 |0,_=>T.kn
 |i+1,h=>by
  obtain⟨p,o,_,_,hs⟩:=T.at (i:=i) om;rw[(hs.sum T.dG).kn,Tr.RL i om]
theorem Tr.w8:∀i,i<=ops.size->base+ops.size<=(S i).h.next
 |0,_=>T.dD
 |i+1,h=>by
  obtain⟨p,o,_,_,hs⟩:=T.at (i:=i) om;exact Nat.le_trans (Tr.w8 i om) (hs.sum T.dG).next
theorem Tr.GU:∀d i,i+d<=ops.size->(S (i+d)).h.low<=(S i).h.low
 |0,i,_=>Nat.le_refl _
 |d+1,i,h=>by
  obtain⟨p,o,_,_,hs⟩:=T.at (i:=i+d) om;exact Nat.le_trans (hs.sum T.dG).low (Tr.GU d i om)
theorem Tr.vR{id:Nat}:∀d i,i+d<=ops.size->(∀j,i<=j->j<i+d->¬w7 S X W j id)->(S (i+d)).h.m.get id=(S i).h.m.get id
 |0,i,_,_=>rfl
 |d+1,i,h,hm=>by
  obtain⟨p,o,_,_,hs⟩:=T.at (i:=i+d) om;have:=hs.Uv T.dG (hm (i+d) om om);rw[show i+(d+1)=i+d+1 by omega,this];exact Tr.vR d i om (fun j h1 h2=>hm j h1 om)
theorem Tr.AW{t:Nat}:∀d i,i+d<=ops.size->(∀j,i<=j->j<i+d->¬AV X W j t)->(S (i+d)).K.get t=(S i).K.get t
 |0,i,_,_=>rfl
 |d+1,i,h,hm=>by
  obtain⟨p,o,_,_,hs⟩:=T.at (i:=i+d) om;have:=hs.Yh (hm (i+d) om om);rw[show i+(d+1)=i+d+1 by omega,this];exact Tr.AW d i om (fun j h1 h2=>hm j h1 om)
theorem Tr.AX{t:Nat}:∀d i,i+d<=ops.size->(∀j p o,i<=j->j<i+d->l[j]?=some p->ops[p]?=some o->o.dst≠some t)->(S (i+d)).env.get t=(S i).env.get t
 |0,i,_,_=>rfl
 |d+1,i,h,hm=>by
  obtain⟨p,o,hp,ho,hs⟩:=T.at (i:=i+d) om;have:=(hs.sum T.dG).env t;rw[if_neg (hm (i+d) p o om om hp ho)]at this;rw[show i+(d+1)=i+d+1 by omega,this];exact Tr.AX d i om (fun j p o h1 h2=>hm j p o h1 om)
theorem Tr.AY:∀d i,i+d<=ops.size->(∀j,i<=j->j<i+d->(X j).fj=false)->(S (i+d)).h.next=(S i).h.next
 |0,i,_,_=>rfl
 |d+1,i,h,hm=>by
  obtain⟨p,o,hp,ho,hs⟩:=T.at (i:=i+d) om;have:=(hs.sum T.dG).RK (hm (i+d) om om);rw[show i+(d+1)=i+d+1 by omega,this];exact Tr.AY d i om (fun j h1 h2=>hm j h1 om)
end
structure Inv(ops:Array Oper)(base aO:Nat)(l:List Nat)(S:Nat->St)(X:Nat->FP)(W:Nat->Bool)(J0:dI)(s0:St)(w0:World)(a0:Act)(E:Nat->Prop)(a:Act)(w:World)(J:dI)(s2:St):Prop where
 kn:s2.kn=aO+ops.size
 next:∀k,k<=ops.size->(∀(j p:Nat),l[j]?=some p->(X j).fj=true->(E p↔j<k))->s2.h.next=(S k).h.next
 dD:base+ops.size<=s2.h.next
 g:∀id L k,k<=ops.size->J.g id=some L->(∀(j p:Nat),l[j]?=some p->w7 S X W j id->(E p↔j<k))->s2.h.m.get id=(S k).h.m.get id
 lk:∀t L k,k<=ops.size->J.l t=some L->(∀(j p:Nat),l[j]?=some p->AV X W j t->(E p↔j<k))->s2.K.get t=(S k).K.get t
 low:(S ops.size).h.low<=s2.h.low
 qP:Good J0 s0 w0 J s2 w
 CV:fD (base<=·) J0.g J.g
 AZ:∀(j p:Nat),l[j]?=some p->(J.g (base+j)).isSome=true->E p
 CW:∀(j p:Nat),l[j]?=some p->(J.l (aO+j)).isSome=true->E p
 env:∀t v k,k<=ops.size->(∀(j p:Nat) (o:Oper),l[j]?=some p->ops[p]?=some o->o.dst=some t->(E p↔j<k))->(S k).env.get t=some v->t<a.tmps.size/\VR J v (a.tmps.getD t undef)
 size:a.tmps.size=a0.tmps.size
 defers:a.defers=a0.defers
theorem Good.Oo{J J':dI}{s t s':St}{w w':World}(h:Good J s w J' s' w')(hn:t.h.next=s.h.next)(hl:s'.h.low<=t.h.low):Good J t w J' s' w':=
 { hr:=h.hr,mono:=h.mono,next:=by rw[hn];exact h.next,low:=hl,size:=h.size,os:=h.os,tape:=h.tape,output:=h.output,fresh:=h.fresh,cH:=h.cH,frame:=h.frame }
theorem Good.lower {J J' : dI} {s s' : St} {w w' : World} (h : Good J s w J' s' w') {lo : Nat} (hl : lo ≤ s'.h.low) : Good J s w J' { s' with h := { s'.h with low := lo } } w' :=
  { hr := { cP := h.hr.cP, dg := h.hr.dg, cG := h.hr.cG, dh := h.hr.dh, eE := h.hr.eE, dS := h.hr.dS, eO := h.hr.eO, sep := h.hr.sep }
    mono := h.mono, next := h.next, low := Nat.le_trans hl h.low, size := h.size, os := h.os, tape := h.tape, output := h.output
    fresh := fun id L h1 h2 => (h.fresh id L h1 h2).imp (fun q => q) (fun ⟨a, b, c, d, e⟩ => ⟨a, b, c, d, Nat.le_trans hl e⟩)
    cH := h.cH, frame := fun b hb hg WW => h.frame b hb (fun id L h1 h2 => Nat.lt_of_lt_of_le (hg id L h1 h2) hl) WW }
end Go.cS
namespace Go.cS
theorem HR.swap {J : dI} {s s' : St} {w : World} (h : HR J s w) (hn : s.h.next ≤ s'.h.next) (hk : s.kn ≤ s'.kn) (hg : ∀ id L, J.g id = some L → s'.h.m.get id = s.h.m.get id) (hl : ∀ t L, J.l t = some L → s'.K.get t = s.K.get t) : HR J s' w :=
  { cP := fun id L hL => Nat.lt_of_lt_of_le (h.cP id L hL) hn
    dg := h.dg
    cG := fun id L b hL hm => h.cG id L b hL (by rw [← hg id L hL]; exact hm)
    dh := fun id oS L L' b b' h1 h2 h3 h4 => h.dh id oS L L' b b' h1 h2 (by rw [← hg id L h1]; exact h3) (by rw [← hg oS L' h2]; exact h4)
    eE := fun t L hL => Nat.lt_of_lt_of_le (h.eE t L hL) hk
    dS := fun t L hL => let ⟨cs, e, h1, h2⟩ := h.dS t L hL; ⟨cs, e, h1, fun cells hc => h2 cells (by rw [← hl t L hL]; exact hc)⟩
    eO := h.eO
    sep := h.sep }
theorem Good.swap {J0 J : dI} {s0 s s' : St} {w0 w : World} (h : Good J0 s0 w0 J s w) (hn : s.h.next ≤ s'.h.next) (hk : s.kn ≤ s'.kn) (hg : ∀ id L, J.g id = some L → s'.h.m.get id = s.h.m.get id) (hl : ∀ t L, J.l t = some L → s'.K.get t = s.K.get t) (aq : s'.h.low ≤ s.h.low) : Good J0 s0 w0 J s' w :=
  { hr := h.hr.swap hn hk hg hl, mono := h.mono, next := Nat.le_trans h.next hn, low := Nat.le_trans aq h.low, size := h.size, os := h.os, tape := h.tape, output := h.output
    fresh := fun id L h1 h2 => (h.fresh id L h1 h2).imp (fun q => q) (fun ⟨a, b, c, d, e⟩ => ⟨a, b, c, d, Nat.le_trans aq e⟩)
    cH := h.cH, frame := fun b hb hg WW => h.frame b hb (fun id L h1 h2 => Nat.lt_of_lt_of_le (hg id L h1 h2) aq) WW }
theorem KC{op:Op}{loc:Bool}{id tag:Nat}{s:St}{l:Bool}{b:Nat}(h:dO op loc id tag s=.block l b):∃x a,x∈op.operands.toList/\(bH s x=some (.pointer (some a))\/∃n c,bH s x=some (.slice (some a) n c)/\a.spot=none)/\a.spot.isSome=l/\a.block=b:=by
 unfold dO at h;cases hp:bK op with
 |true=>rw[hp]at h;simp at h
 |false=>
  rw[hp]at h;simp only[cond_false]at h;split at h
  ·cases loc<;>simp at h
  ·cases loc<;>simp at h
  ·cases h
  ·cases h
  ·rename_i t x
   split at h
   ·rename_i a ha
    simp only[FP.block.injEq]at h;exact⟨x,a,by simp[Op.operands],.inl ha,h.1,h.2⟩
   ·cases h
  ·rename_i t x y
   split at h
   ·rename_i a ha
    simp only[FP.block.injEq]at h;exact⟨x,a,by simp[Op.operands],.inl ha,h.1,h.2⟩
   ·cases h
  ·rename_i src dst x
   split at h
   ·rename_i a n c ha
    cases iY:a.spot with
    |some y=>simp[iY]at h
    |none=>
     simp only[iY,Option.isNone_none,cond_true,FP.block.injEq]at h;exact⟨x,a,by simp[Op.operands],.inr ⟨n,c,ha,iY⟩,by rw[iY];exact h.1,h.2⟩
   ·cases h
  ·cases h
  ·cases h
theorem GV{op:Op}{loc:Bool}{id tag:Nat}{s:St}(h:Ct op loc=true):dO op loc id tag s=.new false id:=by
 unfold Ct at h;split at h
 ·cases loc<;>simp at h;rfl
 ·cases loc<;>simp at h;rfl
 ·rfl
 ·rfl
 ·cases h
theorem GW{op:Op}{loc:Bool}{id tag:Nat}{s:St}(h:Cu op loc=true):dO op loc id tag s=.new true tag:=by
 unfold Cu at h;split at h
 ·subst h;rfl
 ·subst h;rfl
 ·cases h
theorem RM{op:Op}{loc:Bool}{id tag:Nat}{s:St}{l:Bool}{b:Nat}(h:dO op loc id tag s=.new l b):b=bif l then tag else id:=by
 unfold dO at h;cases hp:bK op with
 |true=>rw[hp]at h;simp at h
 |false=>
  rw[hp]at h;simp only[cond_false]at h;split at h
  ·cases loc<;>simp at h<;>obtain⟨rfl,rfl⟩:=h<;>rfl
  ·cases loc<;>simp at h<;>obtain⟨rfl,rfl⟩:=h<;>rfl
  ·simp at h;obtain⟨rfl,rfl⟩:=h;rfl
  ·simp at h;obtain⟨rfl,rfl⟩:=h;rfl
  ·split at h<;>cases h
  ·split at h<;>cases h
  ·exfalso
   split at h
   ·simp only[Bool.cond_eq_ite]at h
    split at h<;>cases h
   ·cases h
  ·cases h
  ·cases h
theorem GX{ops:Array Oper}{x y:Oper}{d:Tmp}(hx:x.dst=some d)(hy:d∈y.looksAt ops\/y.dst=some d):shares ops x y=true:=by
 unfold shares;rw[hx];simp only[Bool.or_eq_true];left;rcases hy with h|h
 ·left;simpa using h
 ·right;simp[h]
theorem Oq{ops:Array Oper}{x y:Oper}{d:Tmp}(hy:y.dst=some d)(hx:d∈x.looksAt ops\/x.dst=some d):shares ops x y=true:=by
 rcases hx with h|h
 ·unfold shares
  rw[hy];simp only[Bool.or_eq_true];right;simpa using h
 ·exact GX h (.inr hy)
theorem dJ(l:Bool)(b:Nat):same l l b b=true:=by cases l<;>simp[same,Nat.beq_refl]
theorem cV{dD:Nat}{x y:FP}{wx wy:Bool}(hx:x.fj=true)(hy:y≠.none):cA dD x wx y wy=true:=by
 cases x<;>cases y<;>first|rfl|(exact absurd rfl hy)|(cases hx)
theorem jU{dD b:Nat}{y:FP}{wx wy:Bool}(hy:y.fj=true)(h:wx=true\/(wy=true/\y.Kb b=true)\/dD<=b):cA dD (.block false b) wx y wy=true:=by
 cases y with
 |all=>
  rcases h with h|h|h
  ·simp[cA,h]
  ·simp[cA,h.1]
  ·simp only[cA,Bool.not_false,Bool.true_and];rw[cF h];simp
 |app c=>
  rcases h with h|⟨h1,h2⟩|h
  ·simp[cA,h]
  ·have e2:Nat.beq b c=true:=h2
   simp[cA,h1,e2]
  ·simp only[cA,Bool.not_false,Bool.true_and];rw[cF h];simp
 |none=>cases hy
 |block _ _=>cases hy
 |new _ _=>cases hy
theorem zW{dD b:Nat}{l:Bool}{y:FP}{wx wy:Bool}(hy:y.fj=true)(h:wy=true/\y.Kb b=true):cA dD (.new l b) wx y wy=true:=by
 cases y with
 |all=>simp[cA,h.1]
 |app c=>
  have e2:Nat.beq b c=true:=h.2;simp[cA,h.1,e2]
 |none=>cases hy
 |block _ _=>cases hy
 |new _ _=>cases hy
section
variable{P:Program}{H:Hint}{call:cD}{f:FuncId}{nt:Nat}{ops:Array Oper}{base aO:Nat}{l:List Nat}{S:Nat->St}{V:Nat->Value}{X:Nat->FP}{W:Nat->Bool}
structure Up(ops:Array Oper)(base:Nat)(l:List Nat)(X:Nat->FP)(W:Nat->Bool)(E:Nat->Prop)(i p:Nat)(o:Oper):Prop where
 hi:l[i]?=some p
 ho:ops[p]?=some o
 hp:¬E p
 lt:i<ops.size
 side:∀(j q:Nat) (o':Oper),l[j]?=some q->ops[q]?=some o'->(j<i->shares ops o' o=true\/cA (base+ops.size) (X j) (W j) (X i) (W i)=true)->(i<j->shares ops o o'=true\/cA (base+ops.size) (X i) (W i) (X j) (W j)=true)->(E q↔j<i)
 ne:∀(j q:Nat),l[j]?=some q->j≠i->q≠p
variable(T:Tr P H call f nt ops base aO l S V X W)
include T
theorem Tr.up{E:Nat->Prop}{i p:Nat}{o:Oper}(hi:l[i]?=some p)(ho:ops[p]?=some o)(hp:¬E p)(hE:wZ ops E)(Kz:wZ ops (fun q=>E q\/q=p)):Up ops base l X W E i p o where
 hi:=hi
 ho:=ho
 hp:=hp
 lt:=by rw[<-T.len];exact(List.getElem?_eq_some_iff.1 hi).1
 ne:=fun j q hj dX=>by
  rcases Nat.lt_or_gt_of_ne dX with h|h
  ·exact T.Ok j i q p h hj hi
  ·exact fun e=>T.Ok i j p q h hi hj e.symm
 side:=fun j q o' hj mB h1 h2=>by
  rcases Nat.lt_trichotomy j i with h|h|h
  ·have Yi:=T.RJ j i q p o' o h hj hi mB ho (h1 h)
   have:=rh Kz Yi (.inr rfl);rcases this with q1|q1
   ·exact⟨fun _=>h,fun _=>q1⟩
   ·exact absurd q1 (T.Ok j i q p h hj hi)
  ·subst h
   rw[hi]at hj;obtain rfl:=Option.some.inj hj;exact⟨fun q=>absurd q hp,fun q=>absurd q (Nat.lt_irrefl _)⟩
  ·have Yi:=T.RJ i j p q o o' h hi hj ho mB (h2 h)
   exact⟨fun q1=>absurd (rh hE Yi q1) hp,fun q1=>om⟩
theorem Tr.op{j q:Nat}(hj:l[j]?=some q):∃o',ops[q]?=some o'/\j<ops.size:=by
 obtain⟨o',h,_⟩:=T.step j q hj;exact⟨o',h,by rw[<-T.len];exact(List.getElem?_eq_some_iff.1 hj).1⟩
theorem Tr.newAt{j q:Nat}{lc:Bool}{b:Nat}(hj:l[j]?=some q)(h:X j=.new lc b):b=bif lc then aO+j else base+j:=by
 obtain⟨o',_,hs⟩:=T.step j q hj;rcases hs with ⟨_,s1,_,_,hx,_⟩|⟨_,_,_,hx,_⟩
 ·rw[hx]at h;exact RM h
 ·rw[hx]at h;cases h
variable{E:Nat->Prop}{i p:Nat}{o:Oper}(U:Up ops base l X W E i p o)
include U
theorem Up.zX{j q:Nat}(hj:l[j]?=some q)(h1:j<i->cA (base+ops.size) (X j) (W j) (X i) (W i)=true)(h2:i<j->cA (base+ops.size) (X i) (W i) (X j) (W j)=true):E q↔j<i:=by
 obtain⟨o',mB,_⟩:=T.op hj;exact U.side j q o' hj mB (fun h=>.inr (h1 h)) (fun h=>.inr (h2 h))
theorem Up.Qm{id:Nat}(hM:w7 S X W i id){j q:Nat}(hj:l[j]?=some q)(zY:w7 S X W j id):E q↔j<i:=by
 obtain⟨o',_,Qn⟩:=T.op hj;have l1:=T.w8 i (Nat.le_of_lt U.lt);have l2:=T.w8 j (Nat.le_of_lt Qn);refine U.zX T hj (fun dR=>?_) (fun dR=>?_)
 ·rcases hM with ⟨a1,a2⟩|a1|⟨a1,a2⟩<;>rcases zY with ⟨b1,b2⟩|b1|⟨b1,b2⟩
  ·rw[a1,b1];simp[cA,a2,b2,dJ]
  ·rw[a1,b1];simp[cA,dJ]
  ·exact cV b1 (by rw[a1];simp)
  ·rw[a1,b1];simp[cA,dJ]
  ·rw[a1,b1];simp[cA,dJ]
  ·exact cV b1 (by rw[a1];simp)
  ·rw[b1];exact jU a1 (.inl b2)
  ·rw[b1]
   rcases a2 with a2|a2
   ·exact zW a1 a2
   ·have:=T.newAt hj b1;simp only[cond_false]at this;omega
  ·exact cV b1 (by intro e;rw[e]at a1;cases a1)
 ·rcases hM with ⟨a1,a2⟩|a1|⟨a1,a2⟩<;>rcases zY with ⟨b1,b2⟩|b1|⟨b1,b2⟩
  ·rw[a1,b1];simp[cA,a2,b2,dJ]
  ·rw[a1,b1];simp[cA,dJ]
  ·rw[a1];exact jU b1 (.inl a2)
  ·rw[a1,b1];simp[cA,dJ]
  ·rw[a1,b1];simp[cA,dJ]
  ·rw[a1]
   rcases b2 with b2|b2
   ·exact zW b1 b2
   ·have:=T.newAt U.hi a1;simp only[cond_false]at this;have:=U.lt;omega
  ·exact cV a1 (by rw[b1];simp)
  ·exact cV a1 (by rw[b1];simp)
  ·exact cV a1 (by intro e;rw[e]at b1;cases b1)
theorem Up.Uw{id:Nat}(hX:X i=.block false id){j q:Nat}(hj:l[j]?=some q)(zY:w7 S X W j id):E q↔j<i:=by
 obtain⟨o',_,Qn⟩:=T.op hj;have l2:=T.w8 j (Nat.le_of_lt Qn);refine U.zX T hj (fun dR=>?_) (fun dR=>?_)
 ·rcases zY with ⟨b1,b2⟩|b1|⟨b1,b2⟩
  ·rw[hX,b1];simp[cA,b2,dJ]
  ·rw[hX,b1];simp[cA,dJ]
  ·exact cV b1 (by rw[hX];simp)
 ·rcases zY with ⟨b1,b2⟩|b1|⟨b1,b2⟩
  ·rw[hX,b1];simp[cA,b2,dJ]
  ·rw[hX,b1];simp[cA,dJ]
  ·rw[hX]
   rcases b2 with b2|b2
   ·exact jU b1 (.inr (.inl b2))
   ·exact jU b1 (.inr (.inr om))
theorem Up.Ux{t:Nat}(hM:AV X W i t){j q:Nat}(hj:l[j]?=some q)(zY:AV X W j t):E q↔j<i:=by
 refine U.zX T hj (fun dR=>?_) (fun dR=>?_);all_goals rcases hM with ⟨a1,a2⟩|a1<;>rcases zY with ⟨b1,b2⟩|b1<;>rw[a1,b1]
 all_goals simp[cA,dJ, *]
theorem Up.RN{t:Nat}(hX:X i=.block true t){j q:Nat}(hj:l[j]?=some q)(zY:AV X W j t):E q↔j<i:=by
 refine U.zX T hj (fun dR=>?_) (fun dR=>?_);all_goals rcases zY with ⟨b1,b2⟩|b1<;>rw[hX,b1]
 all_goals simp[cA,dJ, *]
theorem Up.Qo(hX:(X i).fj=true){j q:Nat}(hj:l[j]?=some q)(Yj:(X j).fj=true):E q↔j<i:=by
 refine U.zX T hj (fun dR=>?_) (fun dR=>?_)
 ·exact cV Yj (by intro e;rw[e]at hX;cases hX)
 ·exact cV hX (by intro e;rw[e]at Yj;cases Yj)
theorem Up.Uy(hX:(X i).fj=true){id:Nat}(hd:∀j q:Nat,l[j]?=some q->id=base+j->E q){j q:Nat}(hj:l[j]?=some q)(zY:w7 S X W j id):E q↔j<i:=by
 by_cases hn:X j=.new false id
 ·have he:E q:=hd j q hj (by have:=T.newAt hj hn;simpa using this)
  refine⟨fun _=>?_,fun _=>he⟩;rcases Nat.lt_trichotomy j i with h|h|h
  ·exact h
  ·subst h;rw[U.hi]at hj;obtain rfl:=Option.some.inj hj;exact absurd he U.hp
  ·obtain⟨o',mB,_⟩:=T.op hj
   have:=U.side j q o' hj mB (fun q=>om) (fun _=>.inr (cV hX (by rw[hn];simp)));exact this.1 he
 ·refine U.zX T hj (fun dR=>?_) (fun dR=>?_)
  ·rcases zY with ⟨b1,b2⟩|b1|⟨b1,b2⟩
   ·rw[b1];exact jU hX (.inl b2)
   ·exact absurd b1 hn
   ·exact cV b1 (by intro e;rw[e]at hX;cases hX)
  ·rcases zY with ⟨b1,b2⟩|b1|⟨b1,b2⟩
   ·exact cV hX (by rw[b1];simp)
   ·exact absurd b1 hn
   ·exact cV hX (by intro e;rw[e]at b1;cases b1)
end
section
variable{ops:Array Oper}{base:Nat}{l:List Nat}{X:Nat->FP}{W:Nat->Bool}{E:Nat->Prop}{i p:Nat}{o:Oper}(U:Up ops base l X W E i p o)
include U
theorem Up.Qp{t:Tmp}(ht:t∈o.looksAt ops\/o.dst=some t){j q:Nat}{o':Oper}(hj:l[j]?=some q)(mB:ops[q]?=some o')(hd:o'.dst=some t):E q↔j<i:=
 U.side j q o' hj mB (fun _=>.inl (GX hd ht)) (fun _=>.inl (Oq hd ht))
theorem Up.next{j q k:Nat}(hj:l[j]?=some q)(dX:j≠i)(h:(E q\/q=p)↔j<k):E q↔j<k:=
 ⟨fun e=>h.1 (.inl e),fun e=>(h.2 e).resolve_right (U.ne j q hj dX)⟩
end
end Go.cS
namespace Go.cS
theorem Ot{J:dI}{s:St}{a:Act}{l:List Operand}(h:∀t v,Operand.tmp t∈l->s.env.get t=some v->VR J v (a.tmps.getD t undef)):oJ J s a l:=by
 intro x v hx he;have hE:ER J (im s.h) a:=fun t v h=>by simp[im,cQ.get]at h
 cases x with
 |tmp t=>exact h t v hx he
 |const c=>exact hE.eval (x:=.const c) he
 |global g=>exact hE.eval (x:=.global g) he
 |func g=>exact hE.eval (x:=.func g) he
theorem KD{ops:Array Oper}{o:Oper}{t:Tmp}(h:Operand.tmp t∈o.op.operands.toList):t∈o.looksAt ops:=by
 unfold Oper.looksAt;rw[List.mem_append];left;rw[List.mem_filterMap];exact⟨.tmp t,h,rfl⟩
theorem CX{ops:Array Oper}{o:Oper}{j:Nat}{want:Bool}{d:Tmp}(hg:o.guard=some (j,want))(hd:(ops[j]?).bind (·.dst)=some d):d∈o.looksAt ops:=by
 unfold Oper.looksAt;rw[List.mem_append];right;rw[hg];simp only[hd];simp
section
variable{P:Program}{H:Hint}{call:cD}{f:FuncId}{nt:Nat}{ops:Array Oper}{base aO:Nat}{l:List Nat}{S:Nat->St}{V:Nat->Value}{X:Nat->FP}{W:Nat->Bool}
variable{J0:dI}{s0:St}{w0:World}{a0:Act}{E:Nat->Prop}{i p:Nat}{o:Oper}{a:Act}{w:World}{J:dI}{s2:St}
theorem Inv.sM(T:Tr P H call f nt ops base aO l S V X W)(U:Up ops base l X W E i p o)(I:Inv ops base aO l S X W J0 s0 w0 a0 E a w J s2)
  (hs:me P H call f nt ops base aO i o (S i) (V i) (X i) (W i) (S (i+1))) (hn:nt<=a.tmps.size) {J':dI} {c:Value} (hg:∀id L,J.g id=some L->J'.g id=some L) (hl:∀t L,J.l t=some L->J'.l t=some L) (hc:VR J' (V i) c)
  (WX:∀d,o.dst=some d->d<nt) :
  ∀t v k,k<=ops.size->(∀(j q:Nat) (o':Oper),l[j]?=some q->ops[q]?=some o'->o'.dst=some t->((E q\/q=p)↔j<k))->(S k).env.get t=some v->t<(a.put o.dst c).tmps.size/\VR J' v ((a.put o.dst c).tmps.getD t undef):=by
 intro t v k hk h hv;by_cases hd:o.dst=some t
 ·have GM:i<k:=(h i p o U.hi U.ho hd).1 (.inr rfl)
  have tU:=T.AX (t:=t) (k-(i+1)) (i+1) om (fun j q o' h1 h2 hj mB wJ=>by
   have e1:=U.next hj om (h j q o' hj mB wJ);have e2:=U.Qp (.inr hd) hj mB wJ;have:=e2.1 (e1.2 om);omega)
  rw[show i+1+(k-(i+1))=k by omega]at tU;have e:=(hs.sum T.dG).env t;rw[if_pos hd]at e;rw[tU,e]at hv;obtain rfl:=Option.some.inj hv;have dR:t<a.tmps.size:=Nat.lt_of_lt_of_le (WX t hd) hn;rw[dZ];refine⟨dR,?_⟩;rw[hd];have:(a.put (some t) c).tmps.getD t undef=c:=by simp[Act.put,dR]
  rw[this];exact hc
 ·obtain⟨h1,h2⟩:=I.env t v k hk (fun j q o' hj mB wJ=>U.next hj (by rintro rfl;rw[U.hi]at hj;obtain rfl:=Option.some.inj hj;rw[U.ho]at mB;obtain rfl:=Option.some.inj mB;exact hd wJ) (h j q o' hj mB wJ)) hv
  rw[dZ];refine⟨h1,?_⟩;have:(a.put o.dst c).tmps.getD t undef=a.tmps.getD t undef:=by
   cases RO:o.dst with
   |none=>rfl
   |some d=>simp[Act.put,Array.getElem?_setIfInBounds_ne (show d≠t from fun e=>hd (by rw[RO,e]))]
  rw[this];exact h2.mono hg hl
theorem me.Uz{i:Nat}{o:Oper}{s s':St}{v:Value}{x:FP}{wr:Bool}(h:me P H call f nt ops base aO i o s v x wr s'):∀d,o.dst=some d->d<nt:=by
 intro d hd;rcases h with ⟨_,s1,_,h2,_,_⟩|⟨_,h2,_,_,_⟩
 ·rcases mN h2 with ⟨q,_⟩|⟨d',q,r,_⟩
  ·rw[q]at hd;cases hd
  ·rw[q]at hd;obtain rfl:=Option.some.inj hd;exact r
 ·rcases mN h2 with ⟨q,_⟩|⟨d',q,r,_⟩
  ·rw[q]at hd;cases hd
  ·rw[q]at hd;obtain rfl:=Option.some.inj hd;exact r
theorem Inv.step {ro : Option Nat} (fy : gL P call) (T : Tr P H call f nt ops base aO l S V X W) (U : Up ops base l X W E i p o) (I : Inv ops base aO l S X W J0 s0 w0 a0 E a w J s2) (wE : nt ≤ a0.tmps.size) {Q : Exit → Act → World → Prop} {K : Act → World → Prop}
    (hK : ∀ a' w' J' Ou, Inv ops base aO l S X W J0 s0 w0 a0 (fun q => E q ∨ q = p) a' w' J' Ou → K a' w') : wpOpIn (Wd ro) 0 P ops Q p K a w := by
  obtain ⟨o', mB, hs⟩ := T.step i p U.hi
  rw [U.ho] at mB
  obtain rfl := Option.some.inj mB
  have hn : nt ≤ a.tmps.size := by rw [I.size]; exact wE
  have CY : i ≤ ops.size := Nat.le_of_lt U.lt
  have Qq : ∀ t v, t ∈ o.looksAt ops → (S i).env.get t = some v → t < a.tmps.size ∧ VR J v (a.tmps.getD t undef) :=
    fun t v ht hv => I.env t v i CY (fun j q o' hj mB hd => U.Qp (.inl ht) hj mB hd) hv
  have WY : ∀ s3 : St, s3.env = (S i).env → oJ J s3 a o.op.operands.toList := fun s3 he => Ot (fun t v ht hv => (Qq t v (KD ht) (by rw [← he]; exact hv)).2)
  have hGu : RF J (S i) a ops o := fun j want d v hg hd hv => Qq d v (CX hg hd) hv
  have hJg : J.g (base + i) = none := by
    cases hx : J.g (base + i) with
    | none => rfl
    | some L => exact absurd (I.AZ i p U.hi (by rw [hx]; rfl)) U.hp
  have hJl : J.l (aO + i) = none := by
    cases hx : J.l (aO + i) with
    | none => rfl
    | some L => exact absurd (I.CW i p U.hi (by rw [hx]; rfl)) U.hp
  have hlim := I.dD
  have hilt := U.lt
  have sM := fun (J' : dI) (c : Value) hg hl hc => I.sM T U hs hn (J' := J') (c := c) hg hl hc hs.Uz
  have Yk := hs.sum T.dG
  have UA := fun id => hs.Uv T.dG (id := id)
  unfold wpOpIn
  rw [U.ho]
  simp only []
  rcases hs with ⟨hw, s1, h1, h2, hx, WZ⟩ | ⟨hw, h2, hv, hx, WZ⟩
  · rw [iO hw hGu, if_pos rfl]
    by_cases hA : (X i).fj = true
    · 
      obtain ⟨e1, e2, e3⟩ := sL (by rw [gB, ← hx]; exact hA) h1
      have w9 : s2.h.next = (S i).h.next := I.next i CY (fun j q hj hq => U.Qo T hA hj hq)
      have Iq : ∀ id L, J.g id = some L → s2.h.m.get id = (S i).h.m.get id := fun id L hL => I.g id L i CY hL (fun j q hj hm => U.Uy T hA (fun j q hj lP => I.AZ j q hj (by rw [← lP, hL]; rfl)) hj hm)
      let s3 : St := { s2 with env := (S i).env, h := (S i).fresh.h }
      have h3 := e2 s3 rfl rfl
      have UB : HR J s3 w := I.qP.hr.swap (s' := s3) (by show s2.h.next ≤ (S i).h.next; omega) (Nat.le_refl _) (fun id L hL => (Iq id L hL).symm) (fun _ _ _ => rfl)
      have Ov : (S (i + 1)).h.m = s1.h.m ∧ (S (i + 1)).h.next = s1.h.next ∧ (S (i + 1)).h.low = Nat.min (S i).h.low s1.h.low := by
        rw [cK h2]; exact ⟨rfl, rfl, rfl⟩
      refine zV fy UB (UB.GK (by show base + i < (S i).h.next; omega) hJg (by show aO + i < s2.kn; rw [I.kn]; omega) hJl) (WY s3 rfl) h3 K Q ?_ ro
      intro c w' J' hG Oj hv zj Yl Ym
      have UC : Ct o.op (eV H f o) = false := by
        cases hq : Ct o.op (eV H f o) with
        | false => rfl
        | true => rw [hx, GV hq] at hA; cases hA
      have UD : Cu o.op (eV H f o) = false := by
        cases hq : Cu o.op (eV H f o) with
        | false => rfl
        | true => rw [hx, GW hq] at hA; cases hA
      have Fo : ∀ id L, J'.g id = some L → J.g id = some L ∨ (S i).h.next ≤ id := fun id L hL => (Yl id L hL).imp (fun q => q) (fun q => q.elim (fun q => by rw [UC] at q; cases q.1) (fun q => q))
      have KE : ∀ t L, J'.l t = some L → J.l t = some L := fun t L hL => (Ym t L hL).elim (fun q => q) (fun q => by rw [UD] at q; cases q.1)
      let Ou : St := { s2 with h := { s1.h with low := Nat.min s2.h.low s1.h.low } }
      have CM : Good J s2 w J' Ou w' := by
        have g1 := hG.lower (lo := Nat.min s2.h.low s1.h.low) (Nat.min_le_right _ _)
        have g2 := g1.Oo (t := s2) (by rw [w9]; rfl) (Nat.min_le_left _ _)
        exact g2.env s2.env
      refine hK (a.put o.dst c) w' J' Ou ?_
      refine { kn := I.kn, next := ?_, dD := ?_, g := ?_, lk := ?_, low := ?_, qP := I.qP.trans CM, CV := ?_, AZ := ?_, CW := ?_, env := sM J' c hG.mono Oj hv, size := by rw [dZ]; exact I.size, defers := by rw [put_defers]; exact I.defers }
      · intro k hk h
        have GM : i < k := (h i p U.hi hA).1 (.inr rfl)
        have := T.AY (k - (i + 1)) (i + 1) om (fun j q1 q2 => by
          cases hq : (X j).fj with
          | false => rfl
          | true =>
            exfalso
            obtain ⟨pj, oj, hj, _, _⟩ := T.at (i := j) om
            have := (U.Qo T hA hj hq).1 ((U.next hj om (h j pj hj hq)).2 om)
            omega)
        rw [show i + 1 + (k - (i + 1)) = k by omega] at this
        rw [this]; exact Ov.2.1.symm
      · show base + ops.size ≤ s1.h.next
        rw [← Ov.2.1]; exact T.w8 (i + 1) om
      · intro id L k hk hL h
        show s1.h.m.get id = _
        by_cases hM : w7 S X W i id
        · have GM : i < k := (h i p U.hi hM).1 (.inr rfl)
          have := T.vR (id := id) (k - (i + 1)) (i + 1) om (fun j q1 q2 hq => by
            obtain ⟨pj, oj, hj, _, _⟩ := T.at (i := j) om
            have := (U.Qm T hM hj hq).1 ((U.next hj om (h j pj hj hq)).2 om)
            omega)
          rw [show i + 1 + (k - (i + 1)) = k by omega] at this
          rw [this, Ov.1]
        · have dR : id < (S i).h.next := by
            rcases Nat.lt_or_ge id (S i).h.next with q | q
            · exact q
            · exact absurd (.inr (.inr ⟨hA, .inr q⟩)) hM
          have Tu : J.g id = some L := (Fo id L hL).resolve_right om
          rw [← Ov.1, UA id hM, ← Iq id L Tu]
          exact I.g id L k hk Tu (fun j q hj hq => U.next hj (by rintro rfl; exact hM hq) (h j q hj hq))
      · intro t L k hk hL h
        exact I.lk t L k hk (KE t L hL) (fun j q hj hq => U.next hj (by rintro rfl; rcases hq with ⟨q, _⟩ | q <;> rw [q] at hA <;> cases hA) (h j q hj hq))
      · show _ ≤ Nat.min s2.h.low s1.h.low
        have q1 := T.GU (ops.size - (i + 1)) (i + 1) om
        rw [show i + 1 + (ops.size - (i + 1)) = ops.size by omega, Ov.2.2] at q1
        exact Nat.le_min.2 ⟨I.low, Nat.le_trans q1 (Nat.min_le_right _ _)⟩
      · intro id L hL
        rcases Fo id L hL with q | q
        · exact I.CV id L q
        · right; show base ≤ id; have := T.w8 i CY; omega
      · intro j q hj ph
        cases hq : J'.g (base + j) with
        | none => rw [hq] at ph; cases ph
        | some L =>
          obtain ⟨_, _, Qn⟩ := T.op hj
          rcases Fo _ L hq with r | r
          · exact .inl (I.AZ j q hj (by rw [r]; rfl))
          · have := T.w8 i CY; omega
      · intro j q hj ph
        cases hq : J'.l (aO + j) with
        | none => rw [hq] at ph; cases ph
        | some L => exact .inl (I.CW j q hj (by rw [KE _ L hq]; rfl))
    · 
      have hc : dP o.op = none := by
        cases hc : dP o.op with
        | none => rfl
        | some c => exact absurd (by rw [hx, nG hc]; rfl) hA
      have sI := h1
      unfold jx at sI
      rw [hc] at sI
      obtain ⟨F, e1, e2, e3⟩ := vQ (by rw [gB, ← hx]; simpa using hA) sI
      rw [gB, ← hx] at e2 e3
      let s3 : St := { s2 with env := (S i).env }
      have UB : HR J s3 w := I.qP.hr.env _
      have KF : ∀ lc b, X i = .block lc b → ∃ ad : Addr, ad.spot.isSome = lc ∧ ad.block = b ∧ ∃ L, J.at ad = some L := by
        intro lc b hb
        rw [hx] at hb
        obtain ⟨x, ad, W3, UE, q1, q2⟩ := KC hb
        rcases UE with UE | ⟨n9, c9, UE, UF⟩
        · have := WY (S i) rfl x _ W3 UE
          obtain ⟨L, hL, _⟩ := this.oV
          exact ⟨ad, q1, q2, L, hL⟩
        · have := WY (S i) rfl x _ W3 UE
          obtain ⟨_, L, _, hL, _⟩ := (this.aY (fun a => by simp)).oW UF
          exact ⟨ad, q1, q2, L, by simp [dI.at, UF, hL]⟩
      have h3 : jx P H call f (base + i) (aO + i) o s3 = some (V i, F.apply s3) := by
        unfold jx
        rw [hc]
        refine e3 s3 rfl ?_ ?_ ?_
        · show s2.kn = (S i).kn
          rw [I.kn, T.RL i CY]
        · intro b hb
          obtain ⟨ad, q1, q2, L, hL⟩ := KF false b hb
          have iY : ad.spot = none := by cases hq : ad.spot with | none => rfl | some y => rw [hq] at q1; cases q1
          simp only [dI.at, iY, q2] at hL
          exact I.g b L i CY hL (fun j q hj hm => U.Uw T hb hj hm)
        · intro t hb
          obtain ⟨ad, q1, q2, L, hL⟩ := KF true t hb
          obtain ⟨y, iY⟩ : ∃ y, ad.spot = some y := by cases hq : ad.spot with | none => rw [hq] at q1; cases q1 | some y => exact ⟨y, rfl⟩
          simp only [dI.at, iY, q2] at hL
          exact I.lk t L i CY hL (fun j q hj hm => U.RN T hb hj hm)
      have W4 : (F.apply s3).h.next = s2.h.next ∧ (F.apply s3).kn = s2.kn := by cases F <;> exact ⟨rfl, rfl⟩
      have Ov : (S (i + 1)).h.m = s1.h.m ∧ (S (i + 1)).K = s1.K ∧ (S (i + 1)).h.low = Nat.min (S i).h.low s1.h.low := by
        rw [cK h2]; exact ⟨rfl, rfl, rfl⟩
      have UG : (∀ b dm lw, F ≠ .nF b dm lw) → (∀ t cs, F ≠ .mA t cs) → W i = false := by
        intro q1 q2
        cases F with
        | idle =>
          rw [WZ, e2.2, e1]
          show Nat.blt (S i).h.next (S i).h.next = false
          exact cF (Nat.le_refl _)
        | nF b dm lw => exact absurd rfl (q1 b dm lw)
        | mA t cs => exact absurd rfl (q2 t cs)
      have RP : ∀ id, w7 S X W i id → ∃ dm lw, F = .nF id dm lw := by
        intro id hM
        rcases hM with ⟨q1, q2⟩ | q1 | ⟨q1, _⟩
        · cases F with
          | idle => rw [UG (fun _ _ _ h => by cases h) (fun _ _ h => by cases h)] at q2; cases q2
          | nF b dm lw =>
            rcases e2 with ⟨r, _⟩ | ⟨r, _⟩
            · rw [q1] at r; simp only [FP.block.injEq, true_and] at r; subst r; exact ⟨_, _, rfl⟩
            · rw [q1] at r; cases r
          | mA t cs =>
            rcases e2 with ⟨r, _⟩ | ⟨r, _⟩
            · rw [q1] at r; simp at r
            · rw [q1] at r; cases r
        · cases F with
          | idle => exact absurd q1 (e2.1 _ _)
          | nF b dm lw =>
            rcases e2 with ⟨r, _⟩ | ⟨r, _⟩
            · rw [q1] at r; cases r
            · rw [q1] at r; simp only [FP.new.injEq, true_and] at r; subst r; exact ⟨_, _, rfl⟩
          | mA t cs =>
            rcases e2 with ⟨r, _⟩ | ⟨r, _⟩
            · rw [q1] at r; cases r
            · rw [q1] at r; simp at r
        · exact absurd q1 hA
      have RQ : ∀ t, AV X W i t → ∃ cs, F = .mA t cs := by
        intro t hM
        rcases hM with ⟨q1, q2⟩ | q1
        · cases F with
          | idle => rw [UG (fun _ _ _ h => by cases h) (fun _ _ h => by cases h)] at q2; cases q2
          | nF b dm lw =>
            rcases e2 with ⟨r, _⟩ | ⟨r, _⟩
            · rw [q1] at r; simp at r
            · rw [q1] at r; cases r
          | mA b cs =>
            rcases e2 with ⟨r, _⟩ | ⟨r, _⟩
            · rw [q1] at r; simp only [FP.block.injEq, true_and] at r; subst r; exact ⟨_, rfl⟩
            · rw [q1] at r; cases r
        · cases F with
          | idle => exact absurd q1 (e2.1 _ _)
          | nF b dm lw =>
            rcases e2 with ⟨r, _⟩ | ⟨r, _⟩
            · rw [q1] at r; cases r
            · rw [q1] at r; simp at r
          | mA b cs =>
            rcases e2 with ⟨r, _⟩ | ⟨r, _⟩
            · rw [q1] at r; cases r
            · rw [q1] at r; simp only [FP.new.injEq, true_and] at r; subst r; exact ⟨_, rfl⟩
      have Yn : ∀ b dm lw, F = .nF b dm lw → w7 S X W i b := by
        intro b dm lw hF; subst hF
        rcases e2 with ⟨r, r2, _⟩ | ⟨r, _⟩
        · exact .inl ⟨r, by rw [WZ, r2]; rfl⟩
        · exact .inr (.inl r)
      have Yo : ∀ t cs, F = .mA t cs → AV X W i t := by
        intro t cs hF; subst hF
        rcases e2 with ⟨r, r2⟩ | ⟨r, _⟩
        · exact .inl ⟨r, by rw [WZ, r2]; rfl⟩
        · exact .inr r
      refine zV fy UB (UB.GK (by show base + i < s2.h.next; omega) hJg (by show aO + i < s2.kn; rw [I.kn]; omega) hJl) (WY s3 rfl) h3 K Q ?_ ro
      intro c w' J' hG Oj hv zj Yl Ym
      have Fo : ∀ id L, J'.g id = some L → J.g id = some L ∨ (X i = .new false id ∧ id = base + i) := fun id L hL => by
        rcases Yl id L hL with q | ⟨q1, q2⟩ | q
        · exact .inl q
        · right; refine ⟨?_, q2⟩; rw [hx, GV q1, q2]
        · have := hG.hr.cP id L hL
          rw [W4.1] at this
          have q' : s2.h.next ≤ id := q
          omega
      have KE : ∀ t L, J'.l t = some L → J.l t = some L ∨ (X i = .new true t ∧ t = aO + i) := fun t L hL => by
        rcases Ym t L hL with q | ⟨q1, q2⟩
        · exact .inl q
        · right; refine ⟨?_, q2⟩; rw [hx, GW q1, q2]
      refine hK (a.put o.dst c) w' J' (F.apply s3) ?_
      refine { kn := by rw [W4.2]; exact I.kn, next := ?_, dD := by rw [W4.1]; exact I.dD, g := ?_, lk := ?_, low := ?_, qP := (I.qP.env _).trans hG, CV := ?_, AZ := ?_, CW := ?_, env := sM J' c hG.mono Oj hv, size := by rw [dZ]; exact I.size, defers := by rw [put_defers]; exact I.defers }
      · intro k hk h
        rw [W4.1]
        exact I.next k hk (fun j q hj hq => U.next hj (by rintro rfl; exact hA hq) (h j q hj hq))
      · intro id L k hk hL h
        by_cases hM : w7 S X W i id
        · obtain ⟨dm, lw, hF⟩ := RP id hM
          have GM : i < k := (h i p U.hi hM).1 (.inr rfl)
          have := T.vR (id := id) (k - (i + 1)) (i + 1) om (fun j q1 q2 hq => by
            obtain ⟨pj, oj, hj, _, _⟩ := T.at (i := j) om
            have := (U.Qm T hM hj hq).1 ((U.next hj om (h j pj hj hq)).2 om)
            omega)
          rw [show i + 1 + (k - (i + 1)) = k by omega] at this
          rw [this, Ov.1, e1, hF]
          simp only [AT.apply, cQ.gQ]
        · have Tu : J.g id = some L := (Fo id L hL).resolve_right (fun q => hM (.inr (.inl q.1)))
          have e : (F.apply s3).h.m.get id = s2.h.m.get id := by
            cases hF : F with
            | idle => rfl
            | mA t cs => rfl
            | nF b dm lw =>
              have dX : b ≠ id := by rintro rfl; exact hM (Yn _ _ _ hF)
              simp only [AT.apply]
              exact cQ.aS _ _ dX
          rw [e]
          exact I.g id L k hk Tu (fun j q hj hq => U.next hj (by rintro rfl; exact hM hq) (h j q hj hq))
      · intro t L k hk hL h
        by_cases hM : AV X W i t
        · obtain ⟨cs, hF⟩ := RQ t hM
          have GM : i < k := (h i p U.hi hM).1 (.inr rfl)
          have := T.AW (t := t) (k - (i + 1)) (i + 1) om (fun j q1 q2 hq => by
            obtain ⟨pj, oj, hj, _, _⟩ := T.at (i := j) om
            have := (U.Ux T hM hj hq).1 ((U.next hj om (h j pj hj hq)).2 om)
            omega)
          rw [show i + 1 + (k - (i + 1)) = k by omega] at this
          rw [this, Ov.2.1, e1, hF]
          simp only [AT.apply, cQ.gQ]
        · have Tu : J.l t = some L := (KE t L hL).resolve_right (fun q => hM (.inr q.1))
          have e : (F.apply s3).K.get t = s2.K.get t := by
            cases hF : F with
            | idle => rfl
            | nF b dm lw => rfl
            | mA b cs =>
              have dX : b ≠ t := by rintro rfl; exact hM (Yo _ _ hF)
              simp only [AT.apply]
              exact cQ.aS _ _ dX
          rw [e]
          exact I.lk t L k hk Tu (fun j q hj hq => U.next hj (by rintro rfl; exact hM hq) (h j q hj hq))
      · have q1 := T.GU (ops.size - (i + 1)) (i + 1) om
        rw [show i + 1 + (ops.size - (i + 1)) = ops.size by omega, Ov.2.2] at q1
        have q2 := Nat.le_trans q1 (Nat.min_le_right _ _)
        rw [e1] at q2
        cases hF : F with
        | idle => exact I.low
        | mA t cs => exact I.low
        | nF b dm lw =>
          rw [hF] at q2
          simp only [AT.apply] at q2 ⊢
          cases lw with
          | false => exact I.low
          | true => exact Nat.le_min.2 ⟨I.low, Nat.le_trans q2 (Nat.min_le_right _ _)⟩
      · intro id L hL
        rcases Fo id L hL with q | q
        · exact I.CV id L q
        · right; show base ≤ id; omega
      · intro j q hj ph
        cases hq : J'.g (base + j) with
        | none => rw [hq] at ph; cases ph
        | some L =>
          rcases Fo _ L hq with r | r
          · exact .inl (I.AZ j q hj (by rw [r]; rfl))
          · have : j = i := by omega
            subst this
            rw [U.hi] at hj
            exact .inr (Option.some.inj hj).symm
      · intro j q hj ph
        cases hq : J'.l (aO + j) with
        | none => rw [hq] at ph; cases ph
        | some L =>
          rcases KE _ L hq with r | r
          · exact .inl (I.CW j q hj (by rw [r]; rfl))
          · have : j = i := by omega
            subst this
            rw [U.hi] at hj
            exact .inr (Option.some.inj hj).symm
  · rw [iO hw hGu, if_neg (by simp)]
    refine ⟨fun _ _ => trivial, hK _ _ J s2 ?_⟩
    have dX : ∀ (j : Nat), X j ≠ .none → j ≠ i := fun j h e => h (by rw [e, hx])
    exact { kn := I.kn
            next := fun k hk h => I.next k hk (fun j q hj hq => U.next hj (dX j (by intro e; rw [e] at hq; cases hq)) (h j q hj hq))
            dD := I.dD
            g := fun id L k hk hJ h => I.g id L k hk hJ (fun j q hj hm => U.next hj (dX j (by rcases hm with ⟨r, _⟩ | r | ⟨r, _⟩ <;> intro e <;> rw [e] at r <;> cases r)) (h j q hj hm))
            lk := fun t L k hk hJ h => I.lk t L k hk hJ (fun j q hj hm => U.next hj (dX j (by rcases hm with ⟨r, _⟩ | r <;> rw [r] <;> simp)) (h j q hj hm))
            low := I.low, qP := I.qP, CV := I.CV
            AZ := fun j q hj h => .inl (I.AZ j q hj h)
            CW := fun j q hj h => .inl (I.CW j q hj h)
            env := sM J undef (fun _ _ h => h) (fun _ _ h => h) (by rw [hv]; exact .cU _ _ (VG.of_flat rfl))
            size := by rw [dZ]; exact I.size
            defers := by rw [put_defers]; exact I.defers }
end
end Go.cS
namespace Go.cS
theorem filter_lt{α:Type}{p p':α->Bool}(hp:∀x,p' x=true->p x=true):∀(l:List α) (x:α),x∈l->p x=true->p' x=false->(l.filter p').length<(l.filter p).length
 |y :: l,x,hx,h1,h2=>by
  have mono:∀l:List α,(l.filter p').length<=(l.filter p).length:=by
   intro l
   induction l with
   |nil=>simp
   |cons z l ih=>
    simp only[List.filter_cons];by_cases hz:p' z=true
    ·simp[hz,hp z hz,ih]
    ·by_cases RR:p z=true
     ·simp[hz,RR];omega
     ·simp[hz,RR,ih]
  rcases List.mem_cons.1 hx with rfl|Ql
  ·simp only[List.filter_cons,h1,h2,if_true]
   have:=mono l;simp;omega
  ·have ih:=filter_lt hp l x Ql h1 h2
   simp only[List.filter_cons];by_cases hz:p' y=true
   ·simp[hz,hp y hz,ih]
   ·by_cases RR:p y=true
    ·simp[hz,RR];omega
    ·simp[hz,RR,ih]
 | [],x,hx,_,_=>by simp at hx
def vy(bM:Array Bool)(q:Nat):Prop:=bM.getD q false=true
theorem vy.set{bM:Array Bool}{p:Nat}(hp:p<bM.size):vy (bM.setIfInBounds p true)=fun q=>vy bM q\/q=p:=by
 funext q
 apply propext;unfold vy;by_cases e:q=p
 ·subst e;simp[Array.getD,hp]
 ·by_cases hq:q<bM.size
  ·simp[Array.getD,hq,e,Array.getElem_setIfInBounds,Ne.symm e]
  ·simp[Array.getD,hq,e]
section
variable{P:Program}{H:Hint}{call:cD}{f:FuncId}{nt:Nat}{ops:Array Oper}{base aO:Nat}{l:List Nat}{S:Nat->St}{V:Nat->Value}{X:Nat->FP}{W:Nat->Bool}
variable{J0:dI}{s0:St}{w0:World}{a0:Act}
theorem Inv.any{ro:Option Nat}(fy:gL P call)(T:Tr P H call f nt ops base aO l S V X W)(wE:nt<=a0.tmps.size)(Fp:∀q,q<ops.size->q∈l)
  (UH:∀(q:Nat) (o:Oper),ops[q]?=some o->∀e∈o.after.toList,Region.binds .any e=true->e.on<q) {Q:Exit->Act->World->Prop}
  (hQ:∀a w J s2,Inv ops base aO l S X W J0 s0 w0 a0 (fun q=>q<ops.size) a w J s2->Q .normal a w) :
  ∀(fuel:Nat) (bM:Array Bool) (a:Act) (w:World) (J:dI) (s2:St),bM.size=ops.size->((List.range ops.size).filter (fun q=>!bM.getD q false)).length<=fuel->wZ ops (vy bM)->
   Inv ops base aO l S X W J0 s0 w0 a0 (vy bM) a w J s2->wpAnyIn (Wd ro) 0 P .any ops Q fuel bM a w:=by
 have cW:∀(bM:Array Bool) (a:Act) (w:World) (J:dI) (s2:St),bM.size=ops.size->Region.ready .any ops bM=[]->Inv ops base aO l S X W J0 s0 w0 a0 (vy bM) a w J s2->Q .normal a w:=by
  intro bM a w J s2 tP hr I;have key:∀q,q<ops.size->vy bM q:=by
   intro q
   induction q using Nat.strongRecOn with
   |_ q ih=>
    intro hq;by_cases hl:vy bM q
    ·exact hl
    ·exfalso
     have CZ:q∈Region.ready .any ops bM:=by
      unfold Region.ready;rw[List.mem_filter];refine⟨List.mem_range.2 hq,?_⟩;have yX:q<bM.size:=om
      have h1:bM.getD q true=false:=by
       unfold vy at hl;simp only[Array.getD,yX,dif_pos]at hl ⊢;simpa using hl
      simp only[h1,Bool.not_false,Bool.true_and,hq,Array.getElem?_eq_getElem,Option.map_some,Option.getD_some];rw[Array.all_eq_true'];intro e he;by_cases hb:Region.binds .any e=true
      ·have dR:=UH q ops[q] (by simp[hq]) e (by simpa using he) hb
       have:=ih e.on dR om;unfold vy at this;simp only[this,Bool.or_true]
      ·simp[hb]
     rw[hr]at CZ;cases CZ
  have hE:vy bM=fun q=>q<ops.size:=by
   funext q
   apply propext;refine⟨fun h=>?_,key q⟩;unfold vy at h;by_cases hq:q<bM.size
   ·omega
   ·simp[Array.getD,hq]at h
  rw[hE]at I;exact hQ a w J s2 I
 intro fuel
 induction fuel with
 |zero=>
  intro bM a w J s2 tP hc Iz I;have hr:Region.ready .any ops bM=[]:=by
   cases hx:Region.ready .any ops bM with
   |nil=>rfl
   |cons q r=>
    exfalso;have CZ:q∈Region.ready .any ops bM:=by rw[hx];simp
    unfold Region.ready at CZ;rw[List.mem_filter]at CZ;obtain⟨h1,h2⟩:=CZ;simp only[Bool.and_eq_true,Bool.not_eq_true']at h2;have hq:=List.mem_range.1 h1;have yX:q<bM.size:=om
    have:q∈(List.range ops.size).filter (fun q=>!bM.getD q false):=by
     rw[List.mem_filter];refine⟨h1,?_⟩;have:=h2.1;simp only[Array.getD,yX,dif_pos]at this ⊢;simp only[this,Bool.not_false]
    rw[List.length_eq_zero_iff.1 (Nat.le_zero.1 hc)]at this;cases this
  exact⟨hr,cW bM a w J s2 tP hr I⟩
 |succ fuel ih=>
  intro bM a w J s2 tP hc Iz I;refine⟨fun hr=>cW bM a w J s2 tP hr I,fun q hq=>?_⟩;unfold Region.ready at hq;rw[List.mem_filter]at hq;obtain⟨h1,h2⟩:=hq;simp only[Bool.and_eq_true,Bool.not_eq_true']at h2;have hql:=List.mem_range.1 h1;have yX:q<bM.size:=om
  have sF:bM.getD q false=false:=by
   have:=h2.1;simp only[Array.getD,yX,dif_pos]at this ⊢;exact this
  obtain⟨i,hi,X6⟩:=List.getElem_of_mem (Fp q hql);have zZ:l[i]?=some q:=by rw[List.getElem?_eq_getElem hi,X6]
  have RS:=vy.set (p:=q) yX;have RT:wZ ops (fun r=>vy bM r\/r=q):=by
   intro r o hr ho e he hb;rcases hr with hr|rfl
   ·exact .inl (Iz r o hr ho e he hb)
   ·left
    have:=h2.2;rw[ho]at this;simp only[Option.map_some,Option.getD_some]at this;rw[Array.all_eq_true']at this;have:=this e (by simpa using he);unfold vy;simpa[hb]using this
  obtain⟨o,ho,_⟩:=T.op zZ;have hnE:¬vy bM q:=by unfold vy;rw[sF];simp
  refine I.step fy T (T.up zZ ho hnE Iz RT) wE ?_;intro a' w' J' Ou I';rw[<-RS]at I' RT;refine ih (bM.setIfInBounds q true) a' w' J' Ou (by simp[tP]) ?_ RT I';have:((List.range ops.size).filter (fun r=>!(bM.setIfInBounds q true).getD r false)).length<((List.range ops.size).filter (fun r=>!bM.getD r false)).length:=by
   refine filter_lt (fun r hr=>?_) _ q h1 (by simp only[sF,Bool.not_false]) ?_
   ·by_cases hx:bM.getD r false=true
    ·have:vy (bM.setIfInBounds q true) r:=by rw[RS];exact .inl hx
     unfold vy at this;rw[this]at hr;cases hr
    ·simpa using hx
   ·have:vy (bM.setIfInBounds q true) q:=by rw[RS];exact .inr rfl
    unfold vy at this;rw[this];rfl
  omega
end
theorem Good.UI {J J' : dI} {s s' : St} {w w' : World} (h : Good J s w J' s' w') (n : Nat) : Good J s w J' s' { w' with drawn := n } :=
  { hr := { cP := h.hr.cP, dg := h.hr.dg, cG := h.hr.cG, dh := h.hr.dh, eE := h.hr.eE, dS := h.hr.dS, eO := h.hr.eO, sep := h.hr.sep }
    mono := h.mono, next := h.next, low := h.low, size := h.size, os := h.os, tape := h.tape, output := h.output, fresh := h.fresh, cH := h.cH, frame := h.frame }
theorem C0{ops:Array Oper}{l:List Nat}(h:nj ops l=true):l.length=ops.size/\(∀q,q<ops.size->q∈l)/\(∀(q:Nat) (o:Oper),ops[q]?=some o->∀e∈o.after.toList,Region.binds .any e=true->e.on<q) /\
  (∀(i k p q:Nat),i<k->l[i]?=some p->l[k]?=some q->p≠q/\∀o o',ops[p]?=some o->ops[q]?=some o'->shares ops o o'=true->prec (Region.before ops) p q=true):=by
 unfold nj at h;simp only[Bool.and_eq_true]at h;obtain⟨⟨⟨h1,h2⟩,h3⟩,h4⟩:=h;refine⟨Nat.eq_of_beq_eq_true h1,fun q hq=>?_,fun q o ho e he hb=>?_,fun i k p q GM hp hq=>?_⟩
 ·rw[List.all_eq_true]at h2
  have:=h2 q (List.mem_range.2 hq);simpa using this
 ·rw[List.all_eq_true]at h3
  have dR:q<ops.size:=(Array.getElem?_eq_some_iff.1 ho).1;have CZ:(o,q)∈ops.toList.zipIdx:=by
   rw[List.mem_zipIdx_iff_getElem?];simpa using ho
  have:=h3 (o,q) CZ;simp only[List.all_eq_true]at this;have:=this e he;rw[hb]at this;simp only[Bool.not_true,Bool.false_or]at this;exact Nat.le_of_ble_eq_true this
 ·have:=rF l h4 i k p q GM hp hq
  simp only[Bool.and_eq_true,Bool.not_eq_true']at this;refine⟨Nat.ne_of_beq_eq_false this.1,fun o o' ho mB hs=>?_⟩;have:=this.2;rw[ho,mB]at this;simpa[hs]using this
theorem Fq {ro : Option Nat} {P : Program} {H : Hint} {call : cD} {f : FuncId} {nt : Nat} {ops : Array Oper} {id : Nat} {J : dI} {s s' : St} {w : World} {a : Act} (hm : P.follows .mixedOrders = true) (fy : gL P call) (KG : aW call)
    (h : qW P H call f nt ops s = some s') (hR : HR J s w) (hE : ER J s a) (hn : nt ≤ a.tmps.size) :
    (Code.region id ops true).wpIn (Wd ro) 0 P (fun e a' w' => e = .normal ∧ Fi J s w a s' a' w') a w := by
  unfold qW at h
  cases hd : nj ops (fQ ops) with
  | false => rw [hd] at h; simp at h
  | true =>
    rw [hd] at h
    simp only [cond_true] at h
    split at h
    · rename_i r il hr
      cases hf : Cx ops (s.h.next + ops.size) il with
      | false => rw [hf] at h; simp at h
      | true =>
        rw [hf] at h
        simp only [cond_true, oi] at h
        subst h
        obtain ⟨d1, d2, d3, d4⟩ := C0 hd
        obtain ⟨S, V, X, W, t1, t2, t3, t4⟩ := w6 P H call f nt ops s.h.next s.kn (fQ ops) 0 (s.jf ops.size) r il hr
        simp only [Nat.zero_add] at t2 t4
        have T : Tr P H call f nt ops s.h.next s.kn (fQ ops) S V X W :=
          { len := d1
            step := fun i p hp => let ⟨o, h1, _, h3⟩ := t4 i p hp; ⟨o, h1, h3⟩
            Ok := fun i k p q GM hp hq => (d4 i k p q GM hp hq).1
            RJ := fun i k p q o o' GM hp hq ho mB hc => by
              rcases hc with hc | hc
              · exact (d4 i k p q GM hp hq).2 o o' ho mB hc
              · obtain ⟨_, _, f1, _⟩ := t4 i p hp
                obtain ⟨_, _, f2, _⟩ := t4 k q hq
                have := rF il hf i k _ _ GM f1 f2
                simpa [hc] using this
            dD := by rw [t1]; exact Nat.le_refl _
            kn := by rw [t1]; rfl
            dG := KG }
        rw [d1] at t2
        refine wpIn_region_any hm ?_
        refine Inv.any (J0 := J) (s0 := s) (w0 := w) (a0 := a) fy T hn d2 d3 ?_ ops.size _ a _ J (s.jf ops.size) (by simp) ?_ ?_ ?_
        · intro a' w' J' s2 I
          refine ⟨rfl, J', ?_, ?_, I.size, I.defers, I.CV⟩
          · have KH : ∀ (j p : Nat), (fQ ops)[j]? = some p → (p < ops.size ↔ j < ops.size) := fun j p hj => by
              obtain ⟨o', mB, Qn⟩ := T.op hj
              exact ⟨fun _ => Qn, fun _ => (Array.getElem?_eq_some_iff.1 mB).1⟩
            rw [← t2]
            refine I.qP.swap ?_ ?_ (fun k L hL => ?_) (fun t L hL => ?_) I.low
            · rw [I.next ops.size (Nat.le_refl _) (fun j p hj _ => KH j p hj)]; exact Nat.le_refl _
            · rw [I.kn, T.RL _ (Nat.le_refl _)]; exact Nat.le_refl _
            · exact (I.g k L ops.size (Nat.le_refl _) hL (fun j p hj _ => KH j p hj)).symm
            · exact (I.lk t L ops.size (Nat.le_refl _) hL (fun j p hj _ => KH j p hj)).symm
          · intro t v hv
            rw [← t2] at hv
            exact I.env t v ops.size (Nat.le_refl _) (fun j p o hj ho _ => by
              obtain ⟨o', mB, Qn⟩ := T.op hj
              exact ⟨fun _ => Qn, fun _ => (Array.getElem?_eq_some_iff.1 mB).1⟩) hv
        · exact Nat.le_trans (List.length_filter_le _ _) (by simp)
        · intro q o hq
          exfalso
          unfold vy at hq
          simp [Array.getD] at hq
        · have E7 : ∀ q, ¬ vy (Array.replicate ops.size false) q := fun q hq => by unfold vy at hq; simp [Array.getD] at hq
          have UJ := (Good.jf hR ops.size ops.size).UI (w.drawn + 1)
          refine { kn := rfl, next := ?_, dD := Nat.le_refl _, g := ?_, lk := ?_, low := ?_, qP := UJ, CV := .refl _ _, AZ := ?_, CW := ?_, env := ?_, size := rfl, defers := rfl }
          · intro k hk h
            have := T.AY k 0 om (fun j _ h2 => by
              cases hq : (X j).fj with
              | false => rfl
              | true =>
                exfalso
                obtain ⟨pj, oj, hj, _, _⟩ := T.at (i := j) om
                exact E7 _ ((h j pj hj hq).2 om))
            rw [Nat.zero_add] at this
            rw [this, t1]
          · intro id L k hk _ h
            have := T.vR (id := id) k 0 om (fun j _ h2 hq => by
              obtain ⟨pj, oj, hj, _, _⟩ := T.at (i := j) om
              exact E7 _ ((h j pj hj hq).2 om))
            rw [Nat.zero_add] at this
            rw [this, t1]
          · intro t L k hk _ h
            have := T.AW (t := t) k 0 om (fun j _ h2 hq => by
              obtain ⟨pj, oj, hj, _, _⟩ := T.at (i := j) om
              exact E7 _ ((h j pj hj hq).2 om))
            rw [Nat.zero_add] at this
            rw [this, t1]
          · have := T.GU ops.size 0 om
            rw [t1, Nat.zero_add] at this
            exact this
          · intro j p hj hs
            exfalso
            cases hq : J.g (s.h.next + j) with
            | none => rw [hq] at hs; cases hs
            | some L => have := hR.cP _ _ hq; omega
          · intro j p hj hs
            exfalso
            cases hq : J.l (s.kn + j) with
            | none => rw [hq] at hs; cases hs
            | some L => have := hR.eE _ _ hq; omega
          · intro t v k hk h hv
            have := T.AX (t := t) k 0 om (fun j p o _ h2 hj ho hd => E7 _ ((h j p o hj ho hd).2 om))
            rw [Nat.zero_add] at this
            rw [this, t1] at hv
            exact hE t v hv
    · cases h
end Go.cS
namespace Go.cS
variable{P:Program}{w:World}{J:dI}{s:St}
theorem nH{env:cQ Value}:∀(l:List Tmp) (acc:cQ Value) (t:Tmp) (v:Value),(restrict env l acc).get t=some v->acc.get t=some v\/(t∈l/\env.get t=some v)
 | [],acc,t,v,h=>.inl h
 |u :: l,acc,t,v,h=>by
  simp only[restrict]at h;split at h
  ·rename_i x hx
   rcases nH l _ t v h with h1|⟨h1,h2⟩
   ·rw[cQ.bL]at h1
    by_cases e:u=t
    ·subst e;rw[if_pos rfl]at h1;obtain rfl:=Option.some.inj h1;exact .inr ⟨by simp,hx⟩
    ·rw[if_neg e]at h1;exact .inl h1
   ·exact .inr ⟨by simp[h1],h2⟩
  ·rcases nH l _ t v h with h1|⟨h1,h2⟩
   ·exact .inl h1
   ·exact .inr ⟨by simp[h1],h2⟩
theorem C2 {H : Hint} {f : FuncId} {c : Code} {kn : Nat} {s1 : St} {a : Act} (h : norm H f c kn s = some s1) (hR : HR J s w) (hE : ER J s a) : ∃ J1, Good J s w J1 s1 w ∧ ER J1 s1 a ∧ J1.g = J.g := by
  unfold norm at h
  split at h
  · simp only [oi] at h; subst h; exact ⟨J, .refl hR, hE, rfl⟩
  · rename_i l _
    simp only [] at h
    rw [Bool.cond_eq_ite] at h
    split at h
    · rename_i hb
      simp only [oi] at h
      subst h
      simp only [Bool.and_eq_true, List.all_eq_true] at hb
      have hk := Nat.le_of_ble_eq_true hb.1
      let J1 : dI := ⟨J.g, fun t => if t < kn then J.l t else none⟩
      have hl : ∀ t L, J1.l t = some L → t < kn ∧ J.l t = some L := by
        intro t L ht
        simp only [J1] at ht
        by_cases e : t < kn
        · rw [if_pos e] at ht; exact ⟨e, ht⟩
        · rw [if_neg e] at ht; cases ht
      refine ⟨J1, ?_, ?_, rfl⟩
      · exact { hr := { cP := hR.cP, dg := hR.dg, cG := hR.cG, dh := hR.dh, eE := fun t L h => (hl t L h).1, dS := fun t L h => hR.dS t L (hl t L h).2, eO := fun t t' L L' h h' => hR.eO t t' L L' (hl t L h).2 (hl t' L' h').2, sep := fun id t L L' h h' => hR.sep id t L L' h (hl t L' h').2 }
                mono := fun _ _ h => h, next := Nat.le_refl _, low := Nat.le_refl _, size := Nat.le_refl _, os := rfl, tape := rfl, output := rfl
                fresh := fun id L h1 h2 => absurd h1 (by rw [h2]; simp)
                cH := fun t L h1 => .inr ⟨t, L, (hl t L h1).2, rfl⟩
                frame := fun _ _ _ _ => rfl }
      · intro t v hv
        have UK : (restrict s.env l .leaf).get t = some v := hv
        rcases nH l .leaf t v UK with h1 | ⟨h1, h2⟩
        · simp [cQ.get] at h1
        · obtain ⟨e1, e2⟩ := hE t v h2
          refine ⟨e1, ?_⟩
          have Ow := hb.2 t h1
          rw [UK] at Ow
          simp only [] at Ow
          generalize a.tmps.getD t undef = cv at e2 ⊢
          cases e2 with
          | cU _ _ h => exact .cU _ _ h
          | loc ad x L hs h =>
            refine .loc ad x L hs ?_
            simp only [su, hs, Option.isNone_some, Bool.false_or] at Ow
            show (if ad.block < kn then J.l ad.block else none) = some L
            have dR : ad.block < kn := Nat.le_of_ble_eq_true Ow
            rw [if_pos dR]; exact h
    · cases h
theorem xg{a:Act}(hR:HR J s w)(hE:ER J s a)(g:ResultVar->Sem Value)(Tv:∀t,g (.tmp t)=pure (a.tmps.getD t undef))(Tw:∀x t,g (.cell x t)=(do loadVar t (<-asAddr (a.tmps.getD x undef)))) :
  ∀(rs:List ResultVar) (l:List Value),vo P s rs=some l->l.all dr=true->∃cs,(rs.mapM g).run P w=.ok cs w/\fF J.g l cs
 | [],l,h,_=>by
  simp only[vo,oi]at h;subst h;exact⟨[],by simp,.nil _⟩
 | .tmp t :: rs,l,h,hn=>by
  simp only[vo]at h;split at h
  ·rename_i v hv
   split at h
   ·rename_i l' hl
    simp only[oi]at h;subst h;simp only[List.all_cons,Bool.and_eq_true]at hn;obtain⟨cs,h1,h2⟩:=xg hR hE g Tv Tw rs l' hl hn.2;refine⟨a.tmps.getD t undef :: cs,?_,.cons ((hE t v hv).2.oX hn.1) h2⟩;rw[List.mapM_cons,Tv];simp only[Sem.run_bind,Sem.run_pure,Result.andThen_ok,h1]
   ·cases h
  ·cases h
 | .cell x t :: rs,l,h,hn=>by
  simp only[vo]at h;split at h
  ·rename_i ad hv
   split at h
   ·rename_i v W5
    split at h
    ·rename_i l' hl
     simp only[oi]at h;subst h;simp only[List.all_cons,Bool.and_eq_true]at hn;obtain⟨cs,h1,h2⟩:=xg hR hE g Tv Tw rs l' hl hn.2;obtain⟨L,hL,hc⟩:=(hE x _ hv).2.oV;obtain⟨c,h3,h4⟩:=zP hR hL W5;refine⟨c :: cs,?_,.cons h4 h2⟩;rw[List.mapM_cons,Tw,hc];simp only[Sem.run_bind,Sem.run_pure,Result.andThen_ok,h1,asAddr,h3]
    ·cases h
   ·cases h
  ·cases h
theorem uT{fn:Func}{a:Act}{l:List Value}(hR:HR J s w)(hE:ER J s a)(h:vo P s fn.results.toList=some l)(hn:l.all dr=true):∃c,(results fn a.tmps).run P w=.ok c w/\VG J.g (je l) c:=by
 let g:ResultVar->Sem Value:=fun r=>match r with | .tmp t=>pure (a.tmps.getD t undef) | .cell x t=>do loadVar t (<-asAddr (a.tmps.getD x undef))
 have zn:results fn a.tmps=(do let vs <-fn.results.mapM g;pure (if h:vs.size=1 then vs[0] else .tuple vs)):=rfl;obtain⟨cs,h1,h2⟩:=xg (P:=P) hR hE g (fun t=>rfl) (fun x t=>rfl) fn.results.toList l h hn;rw[zn,Array.mapM_eq_mapM_toList];simp only[Sem.run_bind,Sem.run_pure,Result.andThen_ok];rw[map_eq_pure_bind];simp only[Sem.run_bind,Sem.run_pure,Result.andThen_ok,h1];refine⟨_,rfl,?_⟩;by_cases e:cs.length=1
 ·rw[dif_pos (by simpa using e)]
  obtain⟨c,rfl⟩:=List.length_eq_one_iff.1 e;obtain⟨v,rfl⟩:=List.length_eq_one_iff.1 (h2.1.trans e);exact h2.2 0 v c rfl rfl
 ·rw[dif_neg (by simpa using e)]
  have:je l=.tuple l.toArray:=by
   unfold je;split
   ·exact absurd h2.1.symm (by simpa using e)
   ·rfl
  rw[this];exact h2.tuple
def KI(D:Nat):Deferred:={ target:=.collected D,args:=#[] }
def Marks(J':dI)(w w':World)(ds ds':List Deferred):Prop:=
 ∃Ds:List Nat,ds'=Ds.map KI++ds/\Ds.Nodup /\
  ∀D∈Ds,w.heap.size<=D/\w'.heap[D]?=some (.deferred (some []))/\(∀id L,J'.g id=some L->L.b≠D)/\(∀t L,J'.l t=some L->L.b≠D)
theorem Marks.none(J':dI)(w w':World)(ds:List Deferred):Marks J' w w' ds ds:=⟨[],rfl,.nil,fun D h=>by cases h⟩
theorem Good.apart{J1 J2:dI}{s1 s2:St}{w1 w2:World}(k:Good J1 s1 w1 J2 s2 w2){D:Nat}(hD:D<w1.heap.size)(hg:∀id L,J1.g id=some L->L.b≠D)(hl:∀t L,J1.l t=some L->L.b≠D) :
  w2.heap[D]?=w1.heap[D]?/\(∀id L,J2.g id=some L->L.b≠D)/\(∀t L,J2.l t=some L->L.b≠D):=by
 refine⟨k.frame D hD (fun id L h e=>absurd e (hg id L h)) hl,fun id L h e=>?_,fun t L h e=>?_⟩
 ·cases h1:J1.g id with
  |some L1=>
   have:=k.mono _ _ h1;rw[h]at this;obtain rfl:=Option.some.inj this;exact hg _ _ h1 e
  |none=>
   rcases k.fresh id L h h1 with q|⟨EB,L0,x,y,_⟩
   ·omega
   ·exact hg _ _ x (y.trans e)
 ·rcases k.cH t L h with q|⟨t0,L0,x,y⟩
  ·omega
  ·exact hl _ _ x (y.trans e)
theorem Marks.trans{J1 J2:dI}{s1 s2:St}{w1 w2:World}{ds Yq ds2:List Deferred}(h:Marks J1 w w1 ds Yq)(tP:w.heap.size<=w1.heap.size)(k:Good J1 s1 w1 J2 s2 w2)(m:Marks J2 w1 w2 Yq ds2):Marks J2 w w2 ds ds2:=by
 obtain⟨D1,rfl,n1,p1⟩:=h;obtain⟨D2,rfl,n2,p2⟩:=m;have dR:∀D∈D1,D<w1.heap.size:=fun D hD=>(Array.getElem?_eq_some_iff.1 (p1 D hD).2.1).1
 refine⟨D2++D1,by simp,?_,?_⟩
 ·rw[List.nodup_append]
  refine⟨n2,n1,fun a ha b hb e=>?_⟩;have:=(p2 a ha).1;have:=dR b hb;omega
 ·intro D hD
  rcases List.mem_append.1 hD with hD|hD
  ·obtain⟨q1,q2⟩:=p2 D hD
   exact⟨Nat.le_trans tP q1,q2⟩
  ·obtain⟨q1,q2,q3,q4⟩:=p1 D hD
   obtain⟨r1,r2,r3⟩:=k.apart (dR D hD) q3 q4;exact⟨q1,r1.trans q2,r2,r3⟩
def kC(J:dI)(s:St)(w:World)(a:Act)(s':St)(a':Act)(w':World):Prop:=
 ∃J',Good J s w J' s' w'/\ER J' s' a'/\a'.tmps.size=a.tmps.size/\Marks J' w w' a.defers a'.defers/\fD (s.h.next<=·) J.g J'.g
theorem Fi.toM{s':St}{w':World}{a a':Act}(h:Fi J s w a s' a' w'):kC J s w a s' a' w':=by
 obtain⟨J',q1,q2,q3,q4,q5⟩:=h;exact⟨J',q1,q2,q3,by rw[q4];exact .none _ _ _ _,q5⟩
theorem kC.trans{J1:dI}{s1 s2:St}{w1 w2:World}{a a1 a2:Act}(hG:Good J s w J1 s1 w1)(hs:a1.tmps.size=a.tmps.size)(hd:Marks J1 w w1 a.defers a1.defers)(hA:fD (s.h.next<=·) J.g J1.g)(h:kC J1 s1 w1 a1 s2 a2 w2):kC J s w a s2 a2 w2:=by
 obtain⟨J2,q1,q2,q3,q4,q5⟩:=h;exact⟨J2,hG.trans q1,q2,by rw[q3,hs],hd.trans hG.size q1 q4,hA.trans (q5.mono (fun k hk=>Nat.le_trans hG.next hk))⟩
theorem qs(w:World)(o:Obj){k:Nat}(hk:k<w.heap.size):(w.alloc o).heap[k]?=w.heap[k]?:=by
 show(w.heap.push _)[k]?=_;rw[Array.getElem?_push,if_neg om]
theorem Good.alloc(h:HR J s w)(o:Obj):Good J s w J s (w.alloc o) where
 hr:={ cP:=h.cP,dg:=(fun id L hL=>by rw[qs w o (h.lt hL)];exact h.dg id L hL),cG:=(fun id L b hL hm=>by rw[qs w o (h.lt hL)];exact h.cG id L b hL hm),dh:=h.dh,eE:=h.eE,dS:=(fun t L hL=>by rw[qs w o (h.Kg hL)];exact h.dS t L hL),eO:=h.eO,sep:=h.sep }
 mono:=fun _ _ h=>h
 next:=Nat.le_refl _
 low:=Nat.le_refl _
 size:=by simp
 os:=rfl
 tape:=rfl
 output:=rfl
 fresh:=(fun id L h1 h2=>by rw[h2]at h1;cases h1)
 cH:=fun t L h1=>.inr ⟨t,L,h1,rfl⟩
 frame:=fun b hb _ _=>qs w o hb
theorem Good.UL{J':dI}{s':St}{w':World}(h:Good J s w J' s' w'){D:Nat}(hD:w.heap.size<=D)(hg:∀id L,J'.g id=some L->L.b≠D)(hl:∀t L,J'.l t=some L->L.b≠D)(o:Obj):Good J s w J' s' (w'.putObj D o) where
 hr:={ cP:=h.hr.cP,dg:=(fun id L hL=>by rw[World.putObj_heap_other (hg id L hL)];exact h.hr.dg id L hL),cG:=(fun id L b hL hm=>by rw[World.putObj_heap_other (hg id L hL)];exact h.hr.cG id L b hL hm),dh:=h.hr.dh,eE:=h.hr.eE,dS:=(fun t L hL=>by rw[World.putObj_heap_other (hl t L hL)];exact h.hr.dS t L hL),eO:=h.hr.eO,sep:=h.hr.sep }
 mono:=h.mono
 next:=h.next
 low:=h.low
 size:=by simp;exact h.size
 os:=h.os
 tape:=h.tape
 output:=h.output
 fresh:=h.fresh
 cH:=h.cH
 frame:=fun b hb q1 q2=>(World.putObj_heap_other om).trans (h.frame b hb q1 q2)
theorem nI{fn:Func}{tmps:Array Value}{R:Ending->World->Prop}(I:World->Prop)(zn:∀w',I w'->∃v,(results fn tmps).run P w'=.ok v w'/\R (.returned v) w') :
  ∀(Ds:List Nat) (w:World),Ds.Nodup->(∀D∈Ds,w.heap[D]?=some (.deferred (some [])))->I w->(∀w' D,I w'->D∈Ds->I (w'.putObj D (.deferred none)))->LeavesInM Fence.wide 0 P fn tmps R (Ds.map KI) .returning w
 | [],w,_,_,hI,_=>zn w hI
 |D :: Ds,w,hn,hd,hI,hs=>by
  refine⟨by simp,.inl ⟨D,w.putObj D (.deferred none),rfl,run_takeDeferred (hd D (by simp)),?_⟩⟩;rw[List.nodup_cons]at hn;refine nI I zn Ds _ hn.2 (fun E hE=>?_) (hs w D hI (by simp)) (fun w' E h1 h2=>hs w' E h1 (by simp[h2]));rw[World.putObj_heap_other (fun e=>hn.1 (by rw[<-e];exact hE))];exact hd E (by simp[hE])
def xh(P:Program)(run:FuncId->Nat->Code->St->Option (Exit×St)):Prop:=∀f nt c s x s',run f nt c s=some (x,s')->∀ro,(ro=none\/bA c=true)->∀J w a,HR J s w->ER J s a->nt<=a.tmps.size->c.wpIn (Wd ro) 0 P (fun e a' w'=>e=x/\kC J s w a s' a' w') a w
def A3(P:Program)(loop:FuncId->Nat->Code->Nat->St->Option (Exit×St)):Prop:=∀f nt c kn s x s',loop f nt c kn s=some (x,s')->∀ro,(ro=none\/bA c=true)->∃n,∀J w a,HR J s w->ER J s a->nt<=a.tmps.size->∀Q:Exit->Act->World->Prop,(∀a' w',kC J s w a s' a' w'->Q x a' w')->Code.roundsIn (Wd ro) 0 P c Q n a w
theorem rG{next:Act->World->Prop}{Q:Exit->Act->World->Prop}{x:Exit}{a:Act}{w:World}(h:x≠.normal)(hq:Q x a w):Exit.then next Q x a w:=by
 cases x<;>first|exact absurd rfl h|exact hq
theorem gU{g : FuncId}{fn : Func}{args : Array Value}(hf : P.funcs[g]? = some fn)(hb : fn.body.isSome = true)(cE : (fn.name == "runtime.NumGoroutine") = false) : (callFunc g args).run P w = .ok (.enter g args) w := by
 unfold callFunc;have uP:fn.body≠none:=by cases h:fn.body<;>simp_all
 have Fg : fn.name ≠ "runtime.NumGoroutine" := by simpa using cE
 simp[hf,Fg,uP]
theorem C3{call : cD}(fy : gL P call)(cE : ∀ (g : FuncId) (fn : Func), P.funcs[g]? = some fn → (fn.name == "runtime.NumGoroutine") = false){f : FuncId}{nt : Nat}{x : Operand}{ps : Array Tmp}{assign body : Code}{s' : St}{e : Exit}{a : Act}
  (h:oQ P call f nt x ps assign body s=some (e,s')) (hR:HR J s w) (hE:ER J s a) (hn:nt<=a.tmps.size) :
  (Code.rangeFunc x ps assign body).wpIn (Wd none) 0 P (fun e' a' w'=>e'=e/\kC J s w a s' a' w') a w:=by
 unfold oQ at h;cases RU:(bA assign && bA body)with
 |false=>rw[RU]at h;simp at h
 |true=>
 rw[RU]at h;simp only[cond_true]at h;split at h
 ·rename_i g first captured Qq
  cases hb:(Nat.blt g aV && vL P g)with
  |false=>rw[hb]at h;simp at h
  |true=>
  rw[hb]at h;simp only[cond_true]at h;simp only[Bool.and_eq_true]at hb;obtain⟨Yr,GY⟩:=hb;have dR:g<aV:=Nat.le_of_ble_eq_true Yr;obtain⟨RV,A4,hgb⟩:∃RV,P.funcs[g]?=some RV/\RV.body.isSome=true:=by
   unfold vL at GY;split at GY
   ·rename_i RV A4;exact⟨RV,A4,GY⟩
   ·cases GY
  split at h
  ·rename_i v h2 hr
   obtain⟨x',y',hf,Ql,RD⟩:=((hE.eval Qq).aY (fun a=>by simp)).Ke;refine wpIn_rangeFunc fun fn _=>?_
   obtain⟨rc,hrc⟩:∃rc:Loop,rc = { state:=.ready,pending:=none,fn:=fn,tmps:=a.tmps,params:=ps,assign:=assign,body:=body,defers:=w.heap.size }:=⟨_,rfl⟩;have g0:=Good.alloc hR (.deferred (some []));obtain⟨J1,g1,l1,gid,ad1⟩:=g0.hr.gO (b:=.loop .ready none f nt (s.env.dG dr) ps.toList assign body) (o:=.loop rc) (by simp) (fun g' vr=>⟨fn,a.tmps,ps,w.heap.size,by rw[hrc],rfl,hn,fun t u hu=>by
    obtain⟨q1,q2⟩:=cQ.wF dr _ t u hu;exact⟨(hE t u q1).1,((hE t u q1).2.oX q2).mono vr⟩⟩)
   have tP:(w.alloc (.deferred (some []))).heap.size=w.heap.size+1:=by simp
   have Us:fF J1.g (first.toList++[.func (.yield s.h.next) #[] #[]]++captured.toList) (x'.toList++[.func (.yield (w.heap.size+1)) #[] #[]]++y'.toList):=by
    have hy:=VG.yield (g:=J1.g) s.h.next _ gid;simp only[tP]at hy;exact((Ql.mono g1.mono).append (.cons hy (.nil _))).append (RD.mono g1.mono)
   have hd:=fy.1 g _ _ v h2 hr dR J1.g _ _ g1.hr.bare Us;have RW:=hd.RB A4 hgb (cE g RV A4);refine⟨w.heap.size+1,[{ target:=.collected w.heap.size,args:=#[] }],(w.alloc (.deferred (some []))).alloc (.loop rc),{ target:=.fn (.func g) y',args:=x'++#[.func (.yield (w.heap.size+1)) #[] #[]] },(w.alloc (.deferred (some []))).alloc (.loop rc),g,(x'.toList++[Value.func (.yield (w.heap.size+1)) #[] #[]]++y'.toList).toArray,(w.alloc (.deferred (some []))).alloc (.loop rc),(by rw[hrc];exact run_enterLoop_outer fn a.tmps ps assign body),?_,fun _ _=>trivial,?_,(fun q=>by simp[Wd,Fence.wide]at q),?_⟩
   ·have Ob:a.eval x=.func (.func g) x' y':=hf
    simp only[resolve,rangeCall,Ob,Deferred.ofValue];simp[Act.eval]
   ·have e2:invoke (.fn (.func g) y') (x'++#[.func (.yield (w.heap.size+1)) #[] #[]])=callFunc g (x'++#[.func (.yield (w.heap.size+1)) #[] #[]]++y'):=rfl
    show(invoke (.fn (.func g) y') (x'++#[.func (.yield (w.heap.size+1)) #[] #[]])).run P _=_;rw[e2,gU A4 hgb (cE g RV A4)]
    congr 2
    apply Array.ext';simp
   ·refine CallsIn.mono (F:=Wd none) (n:=0-1) (callsIn_wide.2 RW) ?_
    rintro e9 w3 ⟨c,rfl,G',hv,hG,hA⟩;have k:=Good.call g1.hr hG;have UM:G' s.h.next=some ⟨(w.alloc (.deferred (some []))).heap.size,0,0,0⟩:=hG.mono _ _ gid;have fin:∀st ni f1 NK ze NM UN UO,h2.m.get s.h.next=some (.loop st ni f1 NK ze NM UN UO)->st≠.busy->tN { s with h:=h2.iW s.h.next .dead } ni=some (e,s')->
      rangePost (Wd none) 0 P (w.heap.size+1) (fun e' a' w'=>e'=e/\kC J s w a s' a' w') { a with defers:=[{ target:=.collected w.heap.size,args:=#[] }]++a.defers } (.returned c) w3:=by
     intro st ni f1 NK ze NM UN UO hm tU hl;obtain⟨Qg,KJ,A5,D',ho,_⟩:=k.hr.cG _ _ _ UM hm;have mB:w3.heap[w.heap.size+1]?=some (.loop { state:=st,pending:=ni,fn:=Qg,tmps:=KJ,params:=A5,assign:=UN,body:=UO,defers:=D' }):=by
      rw[<-tP];exact ho
     have k2:=k.hr.iW (b:=.dead) UM hm rfl (o:=.loop { state:=.exhausted,pending:=ni,fn:=Qg,tmps:=KJ,params:=A5,assign:=UN,body:=UO,defers:=D' }) (by simp) trivial;have kk:=g1.trans (k.trans k2);have zO:=g0.trans kk;obtain⟨r1,r2,r3⟩:=kk.apart (D:=w.heap.size) (by rw[tP];omega) (fun id L hL e=>by have:=hR.lt hL;omega) (fun t L hL e=>by have:=hR.Kg hL;omega);have hD:(w.alloc (.deferred (some []))).heap[w.heap.size]?=some (.deferred (some [])):=World.alloc_heap_new w _;have sN:kC J s w a { s with h:=h2.iW s.h.next .dead } { a with defers:=[{ target:=.collected w.heap.size,args:=#[] }]++a.defers } (w3.putObj (w.heap.size+1) (.loop { state:=.exhausted,pending:=ni,fn:=Qg,tmps:=KJ,params:=A5,assign:=UN,body:=UO,defers:=D' })):=by
      rw[<-tP];refine⟨⟨G',J1.l⟩,zO,?_,rfl,⟨[w.heap.size],rfl,by simp,fun D UP=>?_⟩,?_⟩
      ·intro t u hu
       refine⟨(hE t u hu).1,(hE t u hu).2.mono zO.mono (fun t L hL=>?_)⟩;show J1.l t=some L;rw[l1];exact hL
      ·simp only[List.mem_singleton]at UP
       subst UP;exact⟨Nat.le_refl _,r1.trans hD,r2,r3⟩
      ·exact ad1.trans (hA.mono (fun k hk=>by simp only[af.gO]at hk;omega))
     refine⟨ni,_,run_endLoop mB tU,?_⟩;unfold tN at hl;split at hl
     ·simp only[oi,pj]at hl;obtain⟨rfl,rfl⟩:=hl
      exact⟨rfl,sN⟩
     ·simp only[oi,pj]at hl;obtain⟨rfl,rfl⟩:=hl
      exact wpIn_ret ⟨rfl,sN⟩
     ·simp only[oi,pj]at hl;obtain⟨rfl,rfl⟩:=hl
      exact wpIn_exit ⟨rfl,sN⟩
     ·cases hl
    split at h
    ·rename_i hm;exact fin _ _ _ _ _ _ _ _ hm (by simp) h
    ·rename_i hm;exact fin _ _ _ _ _ _ _ _ hm (by simp) h
    ·cases h
  ·cases h
 ·cases h
theorem Ox{H : Hint}{r : Rec}(hm : P.follows .mixedOrders = true)(cE : ∀ (g : FuncId) (fn : Func), P.funcs[g]? = some fn → (fn.name == "runtime.NumGoroutine") = false)(h1 : xh P r.run)(h2 : A3 P r.loop)(h3 : gL P r.call)(h4 : aW r.call) : xh P (nk P H r) := by
 intro f nt c s x s' h ro NO J w a hR hE hn;have KK:kC J s w a s a w:=⟨J,.refl hR,hE,rfl,.none _ _ _ _,.refl _ _⟩;unfold nk at h;split at h
 ·simp only[oi,pj]at h;obtain⟨rfl,rfl⟩:=h
  exact wpIn_skip ⟨rfl,KK⟩
 ·simp only[oi,pj]at h;obtain⟨rfl,rfl⟩:=h
  exact wpIn_ret ⟨rfl,KK⟩
 ·simp only[oi,pj]at h;obtain⟨rfl,rfl⟩:=h
  exact wpIn_exit ⟨rfl,KK⟩
 ·rename_i ca cb
  have W6:ro=none\/bA ca=true:=NO.imp id (fun q=>by simp only[bA,Bool.and_eq_true]at q;exact q.1);have W7:ro=none\/bA cb=true:=NO.imp id (fun q=>by simp only[bA,Bool.and_eq_true]at q;exact q.2);split at h
  ·rename_i s1 ha
   refine wpIn_seq (wpIn_mono (h1 f nt ca s _ s1 ha ro W6 J w a hR hE hn) ?_);rintro e a1 w1 ⟨rfl,J1,q1,q2,q3,q4,q5⟩;show cb.wpIn (Wd ro) 0 P _ a1 w1;refine wpIn_mono (h1 f nt cb s1 x s' h ro W7 J1 w1 a1 q1.hr q2 (by rw[q3];exact hn)) ?_;rintro e a2 w2 ⟨rfl,hp⟩;exact⟨rfl,kC.trans q1 q3 q4 q5 hp⟩
  ·rename_i hx
   refine wpIn_seq (wpIn_mono (h1 f nt ca s x s' h ro W6 J w a hR hE hn) ?_);rintro e a1 w1 ⟨rfl,hp⟩;exact rG (fun e=>by subst e;exact hx s' h) ⟨rfl,hp⟩
 ·rename_i y ca cb
  split at h
  ·rename_i t ht
   have:=((hE.eval ht).aY (fun a=>by simp)).bool;refine wpIn_cond this ?_;have:=h1 f nt _ s x s' h ro (NO.imp id (fun q=>by simp only[bA,Bool.and_eq_true]at q;cases t<;>simp[q.1,q.2])) J w a hR hE hn;cases t<;>exact this
  ·cases h
 ·rename_i id cb
  have W7:ro=none\/bA cb=true:=NO;split at h
  ·rename_i oS s1 hb
   refine wpIn_block (wpIn_mono (h1 f nt cb s _ s1 hb ro W7 J w a hR hE hn) ?_);rintro e a1 w1 ⟨rfl,hp⟩;cases lP:Nat.beq oS id with
   |true=>
    rw[lP]at h;simp only[cond_true,oi,pj]at h;obtain⟨rfl,rfl⟩:=h;simp only[Exit.inBlock,if_pos (Nat.eq_of_beq_eq_true lP)];exact⟨trivial,hp⟩
   |false=>
    rw[lP]at h;simp only[cond_false,oi,pj]at h;obtain⟨rfl,rfl⟩:=h;simp only[Exit.inBlock,if_neg (Nat.ne_of_beq_eq_false lP)];exact⟨trivial,hp⟩
  ·rename_i hx
   refine wpIn_block (wpIn_mono (h1 f nt cb s x s' h ro W7 J w a hR hE hn) ?_);rintro e a1 w1 ⟨rfl,hp⟩;cases e with
   |exit oS=>exact absurd h (hx oS s')
   |_=>exact⟨rfl,hp⟩
 ·rename_i cb
  obtain⟨n,hl⟩:=h2 f nt cb s.kn s x s' h ro NO;exact wpIn_loop_rounds n (hl J w a hR hE hn _ (fun a' w' hp=>⟨rfl,hp⟩))
 ·rename_i id ops draw
  split at h
  ·rename_i s1 fX
   simp only[oi,pj]at h;obtain⟨rfl,rfl⟩:=h;cases draw with
   |true=>exact wpIn_mono (Fq hm h3 h4 fX hR hE hn) (fun e a w q=>⟨q.1,q.2.toM⟩)
   |false=>exact wpIn_mono (CN h3 fX hR hE hn) (fun e a w q=>⟨q.1,q.2.toM⟩)
  ·cases h
 ·rcases NO with rfl|q
  ·exact C3 h3 cE h hR hE hn
  ·simp[bA]at q
 ·cases h
theorem KL{H:Hint}{r:Rec}(h1:xh P r.run)(h2:A3 P r.loop):A3 P (oT H r):=by
 intro f nt c kn s x s' h ro NO;unfold oT at h;split at h
 ·cases h
 ·rename_i s1 fX
  split at h
  ·rename_i s2 hb
   obtain⟨n,hl⟩:=h2 f nt c kn s2 x s' h ro NO;refine⟨n+1,fun J w a hR hE hn Q hQ=>?_⟩;obtain⟨J1,g1,g2,g3⟩:=C2 fX hR hE;refine wpIn_mono (h1 f nt c s1 _ s2 hb ro NO J1 w a g1.hr g2 hn) ?_;rintro e a1 w1 ⟨rfl,J2,q1,q2,q3,q4,q5⟩;show Code.roundsIn (Wd ro) 0 P c Q n a1 w1;refine hl J2 w1 a1 q1.hr q2 (by rw[q3];exact hn) Q (fun a' w' hp=>hQ a' w' ?_);exact kC.trans g1 rfl (.none _ _ _ _) (by rw[g3];exact .refl _ _) (kC.trans q1 q3 q4 q5 hp)
  ·rename_i hx
   refine⟨1,fun J w a hR hE hn Q hQ=>?_⟩;obtain⟨J1,g1,g2,g3⟩:=C2 fX hR hE;refine wpIn_mono (h1 f nt c s1 x s' h ro NO J1 w a g1.hr g2 hn) ?_;rintro e a1 w1 ⟨rfl,hp⟩;exact rG (fun e=>by subst e;exact hx s' h) (hQ a1 w1 (kC.trans g1 rfl (.none _ _ _ _) (by rw[g3];exact .refl _ _) hp))
theorem pt:∀(l:List Value) (i:Nat) (acc:cQ Value) (t:Nat),(fH l i acc).get t=if i<=t/\t<i+l.length then l[t-i]? else acc.get t
 | [],i,acc,t=>by simp[fH];intro h1 h2;omega
 |v :: l,i,acc,t=>by
  simp only[fH];rw[pt l (i+1) _ t,cQ.bL];rcases Nat.lt_trichotomy t i with h|h|h
  ·rw[if_neg om,if_neg om,if_neg om]
  ·subst h;rw[if_neg om,if_pos rfl,if_pos (by simp)];simp
  ·by_cases h2:t<i+1+l.length
   ·rw[if_pos om,if_pos (by simp;omega)]
    rw[show t-i=(t-(i+1))+1 by omega];simp
   ·rw[if_neg om,if_neg om,if_neg (by simp;omega)]
theorem Good.bare{G:Nat->Option Loc}{J':dI}{s':St}{w':World}(h:Good ⟨G,fun _=>none⟩ s w J' s' w'):Good ⟨G,fun _=>none⟩ (im s.h) w ⟨J'.g,fun _=>none⟩ (im s'.h) w':=
 { hr:=h.hr.bare,mono:=h.mono,next:=h.next,low:=h.low,size:=h.size,os:=h.os,tape:=h.tape,output:=h.output,fresh:=h.fresh,cH:=(fun t L h=>by cases h),frame:=h.frame }
theorem KM{F : aZ}{r : Rec}(hF : dx P F)(cE : ∀ (g : FuncId) (fn : Func), P.funcs[g]? = some fn → (fn.name == "runtime.NumGoroutine") = false)(h1 : xh P r.run) : dx P (ot P F r) := by
 intro g args h v h' hc dR G w aU hR hA;unfold ot at hc;rw[show Nat.ble aV g=false from fe dR]at hc;simp only[cond_false]at hc;split at hc
 ·rename_i x hx
  simp only[oi]at hc;subst hc;exact hF g args h v h' hx dR G w aU hR hA
 ·split at hc
  ·rename_i fn yY
   split at hc
   ·rename_i c hb
    left;refine⟨gU yY (by rw[hb];rfl) (cE g fn yY),(callsIn_wide (n:=0)).1 (callsIn_of_wp_marks yY hb trivial ?_)⟩;have Ys:HR ⟨G,fun _=>none⟩ { env:=fH args 0 .leaf,kn:=0,K:=.leaf,h:=h } w:=hR.env _;have Kz:ER ⟨G,fun _=>none⟩ { env:=fH args 0 .leaf,kn:=0,K:=.leaf,h:=h } { tmps:=aU.toArray++Array.replicate (fn.ntmps-aU.toArray.size) undef,defers:=[] }:=by
     intro t u hu;simp only[pt,Nat.zero_le,true_and,Nat.zero_add,Nat.sub_zero]at hu;by_cases ht:t<args.length
     ·rw[if_pos ht]at hu
      have NP:t<aU.length:=by rw[<-hA.1];exact ht
      refine⟨by simp;omega,?_⟩;have:(aU.toArray++Array.replicate (fn.ntmps-aU.toArray.size) undef).getD t undef=aU[t]:=by
       simp[Array.getD,NP,Array.getElem_append,show t<aU.length+(fn.ntmps-aU.length) by omega]
      rw[this];exact .cU _ _ (hA.2 t u _ hu (by simp[NP]))
     ·rw[if_neg ht]at hu;simp[cQ.get]at hu
    have key:∀x s',r.run g fn.ntmps c { env:=fH args 0 .leaf,kn:=0,K:=.leaf,h:=h }=some (x,s')->vp P fn s'=some (v,h')->(x=.normal\/x=.ret)->
      c.wpIn Fence.wide 0 P (bodyPostM Fence.wide 0 P fn (fun e w'=>∃c,e=.returned c/\∃G',VG G' v c/\Good ⟨G,fun _=>none⟩ (im h) w ⟨G',fun _=>none⟩ (im h') w'/\fD (h.next<=·) G G')) { tmps:=aU.toArray++Array.replicate (fn.ntmps-aU.toArray.size) undef,defers:=[] } w:=by
     intro x s' mK cW hx;have KN:=h1 g fn.ntmps c _ x s' mK none (.inl rfl) _ w _ Ys Kz (by simp;omega);refine wpIn_mono (F:=Fence.wide) KN ?_;rintro e a' w' ⟨rfl,J',q1,q2,q3,⟨Ds,q4,q6,q7⟩,q5⟩;simp only[List.append_nil]at q4;unfold vp at cW;split at cW
     ·rename_i l hl
      cases hn:l.all dr with
      |false=>rw[hn]at cW;simp at cW
      |true=>
       rw[hn]at cW;simp only[cond_true,oi,pj]at cW;obtain⟨rfl,rfl⟩:=cW;have sN:LeavesInM Fence.wide 0 P fn a'.tmps (fun e w'=>∃c,e=.returned c/\∃G',VG G' (je l) c/\Good ⟨G,fun _=>none⟩ (im h) w ⟨G',fun _=>none⟩ (im s'.h) w'/\fD (h.next<=·) G G') a'.defers .returning w':=by
        rw[q4];refine nI (fun RY=>Good ⟨G,fun _=>none⟩ { env:=fH args 0 .leaf,kn:=0,K:=.leaf,h:=h } w J' s' RY) (fun RY hG=>?_) Ds w' q6 (fun D hD=>(q7 D hD).2.1) q1 (fun RY D hG hD=>hG.UL (q7 D hD).1 (q7 D hD).2.2.1 (q7 D hD).2.2.2 _);obtain⟨cv,r1,r2⟩:=uT hG.hr q2 hl hn;exact⟨cv,r1,cv,rfl,J'.g,r2,hG.bare,q5⟩
       rcases hx with rfl|rfl<;>exact sN
     ·cases cW
    split at hc
    ·rename_i s' mK;exact key _ s' mK hc (.inl rfl)
    ·rename_i s' mK;exact key _ s' mK hc (.inr rfl)
    ·cases hc
   ·cases hc
  ·cases hc
theorem xi{g:Nat->Option Loc}:∀(ps:List Tmp) (vs cs:List Value) (env:cQ Value) (tmps:Array Value),TR g env tmps->fF g vs cs->(∀t∈ps,t<tmps.size)->
  TR g (qi env ps vs) ((ps.zip cs).foldl (fun tmps (t,a)=>tmps.setIfInBounds t a) tmps)/\((ps.zip cs).foldl (fun tmps (t,a)=>tmps.setIfInBounds t a) tmps).size=tmps.size
 | [],vs,cs,env,tmps,h,_,_=>by simp[qi,h]
 |p :: ps,[],cs,env,tmps,h,hv,_=>by
  obtain rfl:=hv.iL;simp[qi,h]
 |p :: ps,v :: vs,cs,env,tmps,h,hv,hp=>by
  obtain⟨c,kR,rfl,h1,h2⟩:=hv.head;have KO:=hp p (by simp);have step:TR g (env.set p v) (tmps.setIfInBounds p c):=by
   intro t u hu;rw[cQ.bL]at hu;by_cases e:p=t
   ·subst e
    simp only[if_true,oi]at hu;subst hu;refine⟨by simpa using KO,?_⟩;simp[Array.getD,KO];exact h1
   ·simp only[e,if_false]at hu
    obtain⟨q1,q2⟩:=h t u hu;refine⟨by simpa using q1,?_⟩;simp only[Array.getD,Array.size_setIfInBounds,q1,dif_pos]at q2 ⊢;simp only[Array.getInternal_eq_getElem]at q2 ⊢;rw[Array.getElem_setIfInBounds];simp only[e,if_false];exact q2
  obtain⟨r1,r2⟩:=xi ps vs kR (env.set p v) (tmps.setIfInBounds p c) step h2 (fun t ht=>by simpa using hp t (by simp[ht]));simp only[qi,List.zip_cons_cons,List.foldl_cons];exact⟨r1,by rw[r2];simp⟩
theorem TR.er{G:Nat->Option Loc}{env:cQ Value}{tmps:Array Value}{h:af}(ht:TR G env tmps)(ds:List Deferred):ER ⟨G,fun _=>none⟩ { env:=env,kn:=0,K:=.leaf,h:=h } { tmps:=tmps,defers:=ds }:=
 fun t v hv=>⟨(ht t v hv).1,.cU _ _ (ht t v hv).2⟩
theorem A6{G:Nat->Option Loc}{h h':af}{y:Nat}{L:Loc}{jump:Option Code}{v:Value}(hR:HR ⟨G,fun _=>none⟩ (im h) w)(hL:G y=some L)(hh:jS y h jump=some (v,h')) :
  ∃c w',(Instr.endRound L.b jump).run P w=.ok c w'/\VG G v c/\Good ⟨G,fun _=>none⟩ (im h) w ⟨G,fun _=>none⟩ (im h') w':=by
 unfold jS at hh;split at hh
 ·rename_i st ni f nt env ps assign body hm
  simp only[oi,pj]at hh;obtain⟨rfl,rfl⟩:=hh;obtain⟨fn,tmps,params,D,ho,h1,h2,h3⟩:=hR.cG _ _ _ hL hm;refine⟨_,_,run_endRound jump ho,.flat _ rfl,?_⟩;have:=hR.iW (b:=.loop (match jump with|none=>.ready|some _=>.done) jump f nt env ps assign body) hL hm rfl (o:=.loop { state:=if jump.isNone then .ready else .done,pending:=jump,fn:=fn,tmps:=tmps,params:=params,assign:=assign,body:=body,defers:=D }) (by simp)
   ⟨fn,tmps,params,D,by cases jump<;>rfl,h1,h2,h3⟩
  exact this
 ·cases hh
theorem IA{run:FuncId->Nat->Code->St->Option (Exit×St)}(h1:xh P run){y:Nat}{args:List Value}{h h':af}{v:Value}(hh:oR run y args h=some (v,h')){G:Nat->Option Loc}{aU:List Value}{L:Loc}(hR:HR ⟨G,fun _=>none⟩ (im h) w)(hA:fF G args aU)(hL:G y=some L) :
  Qk P L.b aU.toArray w (fun c w'=>∃G',VG G' v c/\Good ⟨G,fun _=>none⟩ (im h) w ⟨G',fun _=>none⟩ (im h') w'/\fD (h.next<=·) G G'):=by
 unfold oR at hh;split at hh
 ·rename_i ni f nt env ps assign body hm
  cases hb:(Nat.beq args.length ps.length && ps.all (fun t=>Nat.blt t nt) && bA assign && bA body)with
  |false=>rw[hb]at hh;simp at hh
  |true=>
  rw[hb]at hh;simp only[cond_true]at hh;simp only[Bool.and_eq_true,List.all_eq_true]at hb;obtain⟨⟨⟨b1,b2⟩,b3⟩,b4⟩:=hb;have hlen:=Nat.eq_of_beq_eq_true b1;obtain⟨fn,tmps,params,D,ho,c1,c2,c3⟩:=hR.cG _ _ _ hL hm;have tP:aU.toArray.size=params.size:=by
   have:=hA.1;simp only[List.size_toArray,<-Array.length_toList,c1];omega
  have tU:=xi ps args aU env tmps c3 hA (fun t ht=>Nat.lt_of_lt_of_le (Nat.le_of_ble_eq_true (b2 t ht)) c2);have W8:(params.zip aU.toArray).foldl (fun tmps (t,a)=>tmps.setIfInBounds t a) tmps=(ps.zip aU).foldl (fun tmps (t,a)=>tmps.setIfInBounds t a) tmps:=by
   rw[<-Array.foldl_toList];simp[c1]
  split at hh
  ·rename_i s1 zo
   split at hh
   ·rename_i sz f1 NK ze NM kK sA Yt
    refine⟨fn,_,assign,body,run_yield ho tP,roundIn_of_wpIn trivial ?_⟩;rw[W8];have w1:=h1 f nt assign _ _ s1 zo (some L.b) (.inr b3) ⟨G,fun _=>none⟩ w { tmps:=(ps.zip aU).foldl (fun tmps (t,a)=>tmps.setIfInBounds t a) tmps,defers:=[] } (hR.env _) (tU.1.er []) (by rw[tU.2];exact c2);refine wpIn_mono (F:=Fence.wide.inRound L.b) w1 ?_;rintro e a1 w1' ⟨rfl,J1,q1,q2,q3,q4,q5⟩;have JX:J1.g y=some L:=q1.mono _ _ hL;obtain⟨Yu,KP,params1,D1,ho1,d1,d2,d3⟩:=q1.hr.cG _ _ _ JX Yt;refine⟨_,run_beginRound ho1 rfl,?_⟩;have k2:=q1.hr.iW (b:=.loop .busy sz f1 NK ze NM kK sA) JX Yt rfl (o:=.loop { state:=.busy,pending:=sz,fn:=Yu,tmps:=KP,params:=params1,assign:=kK,body:=sA,defers:=D1 }) (by simp) ⟨Yu,KP,params1,D1,rfl,d1,d2,d3⟩;have Yv:=q1.trans k2;have fin:∀x s2 jump,run f nt body { s1 with h:=s1.h.iW y (.loop .busy sz f1 NK ze NM kK sA) }=some (x,s2)->jS y s2.h jump=some (v,h')->
      (∀(R:Ending->World->Prop) (a2:Act) (w2:World),(∃v w',(Instr.endRound L.b jump).run P w2=.ok v w'/\R (.returned v) w')->roundPost P L.b R x a2 w2)->
      body.wpIn (Fence.wide.inRound L.b) 0 P (roundPost P L.b (fun e w'=>∃c,e=.returned c/\∃G',VG G' v c/\Good ⟨G,fun _=>none⟩ (im h) w ⟨G',fun _=>none⟩ (im h') w'/\fD (h.next<=·) G G')) a1 (w1'.putObj L.b (.loop { state:=.busy,pending:=sz,fn:=Yu,tmps:=KP,params:=params1,assign:=kK,body:=sA,defers:=D1 })):=by
     intro x s2 jump EF cW sN;have w2:=h1 f nt body _ x s2 EF (some L.b) (.inr b4) J1 _ a1 k2.hr q2 (by rw[q3];show nt<=((ps.zip aU).foldl (fun tmps (t,a)=>tmps.setIfInBounds t a) tmps).size;rw[tU.2];exact c2);refine wpIn_mono (F:=Fence.wide.inRound L.b) w2 ?_;rintro e a2 w2' ⟨rfl,J2,r1,r2,r3,r4,r5⟩;have GZ:J2.g y=some L:=r1.mono _ _ JX;have zO:=(Yv.trans r1).bare;obtain⟨cv,w3,e1,e2,e3⟩:=A6 (P:=P) r1.hr.bare GZ cW;refine sN _ a2 w2' ⟨cv,w3,e1,cv,rfl,J2.g,e2,zO.trans e3,?_⟩;have hn1:h.next<=s1.h.next:=q1.next;exact q5.trans (r5.mono (fun k hk=>by simp only[af.iW]at hk;exact Nat.le_trans hn1 hk))
    split at hh
    ·rename_i s2 EF;exact fin _ s2 none EF hh (fun R a w q=>q)
    ·rename_i s2 EF;exact fin _ s2 (some .ret) EF hh (fun R a w q=>q)
    ·rename_i id s2 EF;exact fin _ s2 (some (.exit id)) EF hh (fun R a w q=>q)
    ·cases hh
   ·cases hh
  ·cases hh
 ·cases hh
theorem sO{H : Hint}{F : aZ}(hm : P.follows .mixedOrders = true)(hF : dx P F)(Qr : aW F)(cE : ∀ (g : FuncId) (fn : Func), P.funcs[g]? = some fn → (fn.name == "runtime.NumGoroutine") = false) :
  ∀n,xh P (cB P H F n).run/\A3 P (cB P H F n).loop/\gL P (cB P H F n).call
 |0=>⟨fun f nt c s x s' h=>(by cases h),fun f nt c kn s x s' h=>(by cases h),fun g args h v h' hc=>(by cases hc),fun g args h v h' hc=>(by cases hc)⟩
 |n+1=>by
  obtain⟨h1,h2,h3⟩:=sO hm hF Qr cE n;refine⟨Ox hm cE h1 h2 h3 (gT Qr n).2.2,KL h1 h2,KM hF cE h1,?_⟩;intro y args h v h' hc G w aU L hR hA hL;have EC:ot P F (cB P H F n) (aV+y) args h=some (v,h'):=hc;unfold ot at EC;rw[show Nat.ble aV (aV+y)=true from bm (Nat.le_add_right _ _)]at EC;simp only[cond_true,Nat.add_sub_cancel_left]at EC;exact IA h1 EC hR hA hL
theorem Fs:dx P sB:=fun g args h v h' hc=>(by cases hc)
theorem A7:aW sB:=fun g args h v h' hc=>(by cases hc)
