import Derived.Test.YtdpbiegfljmhmaaSimB
import Derived.LoopNIn
import Derived.OrdersIn
import Derived.RangeFuncLeaves
import Derived.Laws.Sem
set_option linter.unusedSimpArgs false
set_option linter.unusedVariables false
namespace Go.cY
variable{P:Program}{w:World}{J:dS}{s:St}
def iB(h:af):St:={ env:=.leaf,kn:=0,K:=.leaf,h:=h }
def tx(P:Program)(g:FuncId)(args:Array Value)(w:World)(R:Value->World->Prop):Prop:=
 ((callFunc g args).run P w=.ok (.enter g args) w/\Calls P g args w (fun e w'=>∃c,e=.returned c/\R c w'))\/∃c w',(callFunc g args).run P w=.ok (.value c) w'/\R c w'
theorem tx.mono{g:FuncId}{args:Array Value}{R R':Value->World->Prop}(h:tx P g args w R)(hr:∀c w',R c w'->R' c w'):tx P g args w R':=by
 rcases h with ⟨h1,h2⟩|⟨c,w',h1,h2⟩
 ·exact .inl ⟨h1,h2.mono fun e w' ⟨c,h3,h4⟩=>⟨c,h3,hr _ _ h4⟩⟩
 ·exact .inr ⟨c,w',h1,hr _ _ h2⟩
theorem tx.S6{g : FuncId}{fn : Func}{args : Array Value}{R : Value → World → Prop}(h : tx P g args w R)(hf : P.funcs[g]? = some fn)(hb : fn.body.isSome = true)(cK : (fn.name == "runtime.NumGoroutine") = false) :
  Calls P g args w (fun e w'=>∃c,e=.returned c/\R c w'):=by
 rcases h with ⟨_,h⟩|⟨c,w',h,_⟩
 ·exact h
 ·exfalso
  have uX:fn.body≠none:=by cases h:fn.body<;>simp_all
  have Gn : fn.name ≠ "runtime.NumGoroutine" := by simpa using cK
  unfold callFunc at h;simp[hf,Gn,uX]at h
def Wd(ro:Option Nat):Fence:={ Fence.wide with round:=ro }
def RM(P:Program)(l:Nat)(args:Array Value)(w:World)(R:Value->World->Prop):Prop:=
 ∃fn tmps assign body,(Instr.yield l args).run P w=.ok (.round l fn tmps assign body) w/\RoundIn Fence.wide 0 P l fn tmps assign body w (fun e w'=>∃c,e=.returned c/\R c w')
def dF(P:Program)(call:cJ):Prop:=∀g args h v h',call g args h=some (v,h')->g<aX->∀(G:Nat->Option Loc) (w:World) (aT:List Value),HR ⟨G,fun _=>none⟩ (iB h) w->fQ G args aT->
 tx P g aT.toArray w (fun c w'=>∃G',VG G' v c/\Good ⟨G,fun _=>none⟩ (iB h) w ⟨G',fun _=>none⟩ (iB h') w'/\fP (h.next<=·) G G')
def PG(P:Program)(call:cJ):Prop:=∀y args h v h',call (aX+y) args h=some (v,h')->∀(G:Nat->Option Loc) (w:World) (aT:List Value) (L:Loc),HR ⟨G,fun _=>none⟩ (iB h) w->fQ G args aT->G y=some L->
 RM P L.b aT.toArray w (fun c w'=>∃G',VG G' v c/\Good ⟨G,fun _=>none⟩ (iB h) w ⟨G',fun _=>none⟩ (iB h') w'/\fP (h.next<=·) G G')
def gT(P:Program)(call:cJ):Prop:=dF P call/\PG P call
theorem HR.bare(h:HR J s w):HR ⟨J.g,fun _=>none⟩ (iB s.h) w:=
 { cV:=h.cV,dx:=h.dx,cN:=h.cN,dy:=h.dy,fv:=(fun t L h=>by cases h),fj:=(fun t L h=>by cases h),fw:=(fun t t' L L' h=>by cases h),sep:=(fun id t L L' _ h=>by cases h) }
theorem Good.call{G':Nat->Option Loc}{h':af}{w':World}(h:HR J s w)(k:Good ⟨J.g,fun _=>none⟩ (iB s.h) w ⟨G',fun _=>none⟩ (iB h') w'):Good J s w ⟨G',J.l⟩ { s with h:=h' } w':=by
 have hold:∀t L,J.l t=some L->w'.heap[L.b]?=w.heap[L.b]?:=fun t L hL=>
  k.frame L.b (h.Ls hL) (fun id L1 h1 e=>absurd e (h.sep _ _ _ _ h1 hL)) (fun t L h=>by cases h)
 refine { hr:=?_,mono:=k.mono,next:=k.next,low:=k.low,size:=k.size,os:=k.os,tape:=k.tape,output:=k.output,fresh:=k.fresh,cO:=fun t L hL=>.inr ⟨t,L,hL,rfl⟩,frame:=fun b hb hg _=>k.frame b hb hg (fun t L h=>by cases h) };refine { cV:=k.hr.cV,dx:=k.hr.dx,cN:=k.hr.cN,dy:=k.hr.dy,fv:=h.fv,fj:=?_,fw:=h.fw,sep:=?_ }
 ·intro t L hL
  obtain⟨cs,e,h1,h2⟩:=h.fj _ _ hL;exact⟨cs,e,by rw[hold _ _ hL];exact h1,fun c hc=>(h2 c hc).mono k.mono⟩
 ·intro id t L L' h1 h2 hb
  cases h0:J.g id with
  |some L0=>
   have:G' id=some L0:=k.mono id L0 h0;have tz:G' id=some L:=h1;rw[tz]at this;obtain rfl:=Option.some.inj this;exact h.sep _ _ _ _ h0 h2 hb
  |none=>
   rcases k.fresh id L h1 h0 with q|⟨FG,L0,x,y,_⟩
   ·have:=h.Ls h2;omega
   ·exact h.sep _ _ _ _ x h2 (y.trans hb)
def BQ(P:Program)(J:dS)(s:St)(w:World)(a:Act)(o:Oper)(v:Value)(s':St)(R Rl:Nat->Prop):Prop:=
 ∀(K:Act->World->Prop) (Q:Exit->Act->World->Prop),(∀c w' J',Good J s w J' s' w'->(∀t L,J.l t=some L->J'.l t=some L)->VR J' v c->s'.env=s.env->fP R J.g J'.g->fP Rl J.l J'.l->K (a.put o.dst c) w')->∀ro,o.wpIn (Wd ro) 0 P a w K Q
theorem DH.S7{a:Act}{o:Oper}{v:Value}{s':St}{R Rl:Nat->Prop}(YL:∀c,o.op≠.defer c)(h:DH P J s w (execOp a.eval o) v s' R Rl):BQ P J s w a o v s' R Rl:=by
 obtain⟨n,c,w',J',h1,h2,h3,h4,h5,h6,h7,h8⟩:=h;intro K Q hK ro;refine⟨fun _ _=>trivial,?_⟩;rw[Oper.semAt_eq _ _ _ YL,h1];rcases h2 with rfl|⟨rfl,rfl⟩
 ·exact hK c w' J' h3 h4 h5 h6 h7 h8
 ·exact hK undef w' J' h3 h4 h5 h6 h7 h8
theorem vJ{mk:lJ}{loc:Bool}{op:Op}{r:Value×St}(h:gF P mk loc op s=some r):∀c,op≠.defer c:=by
 intro c e;subst e;simp[gF]at h
theorem Gp{a:Act}{c:Call}{g:FuncId}{args:List Value}{o:Oper}(hc:o.op=.call c)(hE:pF J s a o.op.operands.toList)(h:kU s c=some (g,args)) :
  ∃aT:List Value,fQ J.g args aT/\((g<aX/\execOp a.eval o=callFunc g aT.toArray)\/∃y L,g=aX+y/\J.g y=some L/\execOp a.eval o=Instr.yield L.b aT.toArray):=by
 unfold kU at h;split at h
 ·rename_i x hx
  split at h
  ·rename_i f first captured l h1 h2
   cases mw:(l.all dD && Nat.blt f aX)with
   |false=>rw[mw]at h;simp at h
   |true=>
    rw[mw]at h;simp only[cond_true,oi,pj]at h;obtain⟨rfl,rfl⟩:=h;simp only[Bool.and_eq_true]at mw;obtain⟨hb,fg⟩:=mw;have Ao:o.op.operands.toList=x :: c.args.toList:=by simp[hc,Op.operands,Call.operands,hx]
    rw[Ao]at hE;obtain⟨x',y',hf,RN,S8⟩:=((hE x _ (by simp) h1).bg (fun a=>by simp)).Lp;have hl:=wM (jU c.args.toList (hE.sub (fun y hy=>List.mem_cons_of_mem _ hy)) _ h2) hb;refine⟨x'.toList++c.args.toList.map a.eval++y'.toList,(RN.append hl).append S8,.inl ⟨Nat.le_of_ble_eq_true fg,?_⟩⟩;have e1:execOp a.eval o=(do let d <-resolve a.eval c o.type;invoke d.target d.args):=by unfold execOp;rw[hc]
    rw[e1];simp only[resolve,hx,hf,Deferred.ofValue];show invoke (.fn (.func f) y') (x'++c.args.map a.eval)=_;have e2:invoke (.fn (.func f) y') (x'++c.args.map a.eval)=callFunc f (x'++c.args.map a.eval++y'):=rfl;rw[e2]
    congr 1
    apply Array.ext';simp
  ·rename_i y u1 u2 l h1 h2
   cases hb:l.all dD with
   |false=>rw[hb]at h;simp at h
   |true=>
    rw[hb]at h;simp only[cond_true,oi,pj]at h;obtain⟨rfl,rfl⟩:=h;have Ao:o.op.operands.toList=x :: c.args.toList:=by simp[hc,Op.operands,Call.operands,hx]
    rw[Ao]at hE;obtain⟨L,hL,hf,_,_⟩:=((hE x _ (by simp) h1).bg (fun a=>by simp)).SN;have hl:=wM (jU c.args.toList (hE.sub (fun y hy=>List.mem_cons_of_mem _ hy)) _ h2) hb;refine⟨c.args.toList.map a.eval,hl,.inr ⟨y,L,rfl,hL,?_⟩⟩;have e1:execOp a.eval o=(do let d <-resolve a.eval c o.type;invoke d.target d.args):=by unfold execOp;rw[hc]
    rw[e1];simp only[resolve,hx,hf,Deferred.ofValue];show invoke (.fn (.yield L.b) #[]) (#[]++c.args.map a.eval)=_;have e2:invoke (.fn (.yield L.b) #[]) (#[]++c.args.map a.eval)=Instr.yield L.b (#[]++c.args.map a.eval):=rfl;rw[e2]
    congr 1
    apply Array.ext';simp
  ·cases h
 ·cases h
theorem vK{call:cJ}(fO:gT P call){a:Act}{c:Call}{o:Oper}{v:Value}{s':St}(hR:HR J s w)(hc:o.op=.call c)(hE:pF J s a o.op.operands.toList)(h:jP call c s=some (v,s')):BQ P J s w a o v s' (s.h.next<=·) (fun _=>False):=by
 unfold jP at h;split at h
 ·rename_i g args hg
  split at h
  ·rename_i v' h' hr
   simp only[oi,pj]at h;obtain⟨rfl,rfl⟩:=h;obtain⟨aT,h1,h2⟩:=Gp hc hE hg;intro K Q hK ro;refine⟨fun _ _=>trivial,?_⟩;rw[Oper.semAt_eq _ _ _ (by rw[hc];intro c' e;cases e)];rcases h2 with ⟨fg,h2⟩|⟨y,L,rfl,hL,h2⟩
   ·have hd:=fO.1 g args s.h v' h' hr fg J.g w aT hR.bare h1
    rw[h2];rcases hd with ⟨e1,e2⟩|⟨c,w',e1,G',e2,e3,e4⟩
    ·rw[e1]
     simp only[Oper.uponIn_enter];refine⟨(fun q=>by simp[Wd,Fence.wide]at q),CallsIn.mono (F:=Wd ro) (n:=0-1) (R:=fun e w'=>∃c,e=.returned c/\∃G',VG G' v' c/\Good ⟨J.g,fun _=>none⟩ (iB s.h) w ⟨G',fun _=>none⟩ (iB h') w'/\fP (s.h.next<=·) J.g G') ?_ ?_⟩
     ·show CallsIn Fence.wide 0 P g aT.toArray w _
      exact callsIn_wide.2 e2
     ·rintro e w' ⟨c,rfl,G',hv,hG,hA⟩
      exact hK c w' ⟨G',J.l⟩ (Good.call hR hG) (fun _ _ h=>h) (.dc _ _ hv) rfl hA (.refl _ _)
    ·rw[e1]
     simp only[Oper.uponIn_value];exact hK c w' ⟨G',J.l⟩ (Good.call hR e3) (fun _ _ h=>h) (.dc _ _ e2) rfl e4 (.refl _ _)
   ·obtain⟨fn,tmps,assign,body,e1,e2⟩:=fO.2 y args s.h v' h' hr J.g w aT L hR.bare h1 hL
    rw[h2,e1];simp only[Oper.uponIn_round];refine⟨(fun q=>by simp[Wd,Fence.wide]at q),RoundIn.mono (F:=Wd ro) (n:=0-1) (R:=fun e w'=>∃c,e=.returned c/\∃G',VG G' v' c/\Good ⟨J.g,fun _=>none⟩ (iB s.h) w ⟨G',fun _=>none⟩ (iB h') w'/\fP (s.h.next<=·) J.g G') ?_ ?_⟩
    ·show RoundIn Fence.wide 0 P L.b fn tmps assign body w _
     exact e2
    ·rintro e w' ⟨c,rfl,G',hv,hG,hA⟩
     exact hK c w' ⟨G',J.l⟩ (Good.call hR hG) (fun _ _ h=>h) (.dc _ _ hv) rfl hA (.refl _ _)
  ·cases h
 ·cases h
theorem qe{op:Op}{c:Call}(h:eQ op=some c):op=.call c:=by
 unfold eQ at h;split at h
 ·split at h
  ·simp only[oi]at h;rw[h]
  ·cases h
 ·cases h
theorem S9{loc:Bool}{es:Nat}{cells:List Value}{r:Value×St}(h:s.new loc es cells=some r):cells.all aE=true:=by
 unfold St.new at h;cases hc:cells.all aE with
 |true=>rfl
 |false=>rw[hc]at h;simp at h
theorem LO{id tag:Nat}{loc:Bool}{es:Nat}{cells:List Value}{r:Value×St}(h:s.newAt id tag loc es cells=some r):cells.all aE=true:=by
 unfold St.newAt at h;cases hc:cells.all aE with
 |true=>rfl
 |false=>rw[hc]at h;simp at h
theorem AY{H:Hint}{call:cJ}(fO:gT P call){f:FuncId}{a:Act}{o:Oper}{v:Value}{s':St}(hR:HR J s w)(hE:pF J s a o.op.operands.toList)(h:sG P H call f o s=some (v,s')):BQ P J s w a o v s' (s.h.next<=·) (fun _=>True):=by
 unfold sG at h;split at h
 ·rename_i c hc
  intro K Q hK ro;exact vK fO hR (qe hc) hE h K Q (fun c w' J' a1 a2 a3 a4 a5 a6=>hK c w' J' a1 a2 a3 a4 a5 (a6.mono (fun _ _=>trivial))) ro
 ·intro K Q hK ro
  refine(H6 hR hR.VU hE S9 h).S7 (vJ h) K Q (ro:=ro) (fun c w' J' a1 a2 a3 a4 a5 a6=>hK c w' J' a1 a2 a3 a4 (a5.mono ?_) (a6.mono (fun _ _=>trivial)));rintro k (⟨_,es,cells,s9,h9⟩|⟨_,h9⟩)
  ·unfold St.new at h9
   simp only[Bool.cond_eq_ite]at h9;split at h9
   ·simp at h9;rw[h9.1];exact Nat.le_refl _
   ·cases h9
  ·exact h9
theorem Good.env {J' : dS} {s' : St} {w' : World} (h : Good J s w J' s' w') (e : cW Value) : Good J s w J' { s' with env := e } w' :=
  { hr := { cV := h.hr.cV, dx := h.hr.dx, cN := h.hr.cN, dy := h.hr.dy, fv := h.hr.fv, fj := h.hr.fj, fw := h.hr.fw, sep := h.hr.sep }
    mono := h.mono, next := h.next, low := h.low, size := h.size, os := h.os, tape := h.tape, output := h.output, fresh := h.fresh, cO := h.cO, frame := h.frame }
theorem HR.env(h:HR J s w)(e:cW Value):HR J { s with env:=e } w:=
 { cV:=h.cV,dx:=h.dx,cN:=h.cN,dy:=h.dy,fv:=h.fv,fj:=h.fj,fw:=h.fw,sep:=h.sep }
theorem ft(a:Act)(dst:Option Tmp)(v:Value):(a.put dst v).tmps.size=a.tmps.size:=by
 cases dst<;>simp[Act.put]
theorem put_defers(a:Act)(dst:Option Tmp)(v:Value):(a.put dst v).defers=a.defers:=by
 cases dst<;>simp[Act.put]
theorem nF{nt:Nat}{dst:Option Tmp}{v:Value}{s':St}(h:sF nt s dst v=some s'):(dst=none/\s'=s)\/∃d,dst=some d/\d<nt/\s' = { s with env:=s.env.set d v }:=by
 unfold sF at h;split at h
 ·simp only[oi]at h;exact .inl ⟨rfl,h.symm⟩
 ·rename_i d
  cases hb:Nat.blt d nt with
  |false=>rw[hb]at h;simp at h
  |true=>rw[hb]at h;simp only[cond_true,oi]at h;exact .inr ⟨d,rfl,Nat.le_of_ble_eq_true hb,h.symm⟩
theorem wN{nt:Nat}{dst:Option Tmp}{v c:Value}{s':St}{a:Act}(h:sF nt s dst v=some s')(hE:ER J s a)(hn:nt<=a.tmps.size)(hv:VR J v c):ER J s' (a.put dst c):=by
 rcases nF h with ⟨rfl,rfl⟩|⟨d,rfl,hd,rfl⟩
 ·exact hE
 ·intro t u hu
  simp only[cW.bP]at hu;rw[ft];by_cases e:d=t
  ·subst e
   simp only[if_true,oi]at hu;subst hu;have fg:d<a.tmps.size:=Nat.lt_of_lt_of_le hd hn;refine⟨fg,?_⟩;have:(a.put (some d) c).tmps.getD d undef=c:=by simp[Act.put,fg]
   rw[this];exact hv
  ·simp only[e,if_false]at hu
   obtain⟨h1,h2⟩:=hE t u hu;refine⟨h1,?_⟩;have:(a.put (some d) c).tmps.getD t undef=a.tmps.getD t undef:=by simp[Act.put,Array.getElem?_setIfInBounds_ne e]
   rw[this];exact h2
theorem cS{nt:Nat}{dst:Option Tmp}{v:Value}{s':St}(h:sF nt s dst v=some s'):s' = { s with env:=s'.env }:=by
 rcases nF h with ⟨_,rfl⟩|⟨d,_,_,rfl⟩<;>rfl
def Ta(J:dS)(s:St)(a:Act)(ops:Array Oper)(o:Oper):Prop:=
 ∀j want d v,o.guard=some (j,want)->(ops[j]?).bind (·.dst)=some d->s.env.get d=some v->d<a.tmps.size/\VR J v (a.tmps.getD d undef)
theorem jc{ops:Array Oper}{o:Oper}{b:Bool}{a:Act}(h:jq ops o s=some b)(hE:Ta J s a ops o):Region.wanted o (yielded ops a.tmps)=b:=by
 unfold jq at h;unfold Region.wanted;split at h
 ·rename_i hg
  simp only[oi]at h;rw[hg];exact h
 ·rename_i j want hg
  rw[hg];simp only[];split at h
  ·rename_i d hd
   have key:∀v,s.env.get d=some v->∃c,a.tmps[d]?=some c/\VR J v c:=by
    intro v hv;obtain⟨h1,h2⟩:=hE j want d v hg hd hv;exact⟨a.tmps[d],by simp[h1],by simpa[h1]using h2⟩
   split at h
   ·rename_i b' hv
    simp only[oi]at h;subst h;obtain⟨c,h1,h2⟩:=key _ hv;obtain rfl:=(h2.bg (fun a=>by simp)).bool;simp only[yielded,hd,Option.bind_some,h1];cases b'<;>cases want<;>rfl
   ·rename_i vs hv
    cases Tb:vs.toList.isEmpty with
    |false=>rw[Tb]at h;simp at h
    |true=>
    rw[Tb]at h;simp only[cond_true,oi]at h;subst h;obtain rfl:vs=#[]:=by simpa using Tb
    obtain⟨c,h1,h2⟩:=key _ hv;have:=(h2.bg (fun a=>by simp)).SP;subst this;simp only[yielded,hd,Option.bind_some,h1,undef];cases want<;>rfl
   ·cases h
  ·cases h
theorem ER.gu{a:Act}(h:ER J s a)(ops:Array Oper)(o:Oper):Ta J s a ops o:=fun _ _ d v _ _ hv=>h d v hv
def Gq(J:dS)(s:St)(w:World)(a:Act)(s':St)(a':Act)(w':World):Prop:=
 ∃J',Good J s w J' s' w'/\ER J' s' a'/\a'.tmps.size=a.tmps.size/\a'.defers=a.defers/\fP (s.h.next<=·) J.g J'.g
theorem rr{ro:Option Nat}{H:Hint}{call:cJ}(fO:gT P call){f:FuncId}{nt:Nat}{ops:Array Oper}{Q:Exit->Act->World->Prop}:∀(l:List Oper) (k:Nat) (s:St) (J:dS) (w:World) (a:Act) (s':St),
  (∀j,l[j]?=ops[k+j]?)->lO P H call f nt ops l s=some s'->HR J s w->ER J s a->nt<=a.tmps.size->(∀a' w',Gq J s w a s' a' w'->Q .normal a' w')->wpOpsIn (Wd ro) 0 P ops Q (List.range' k l.length) a w
 | [],k,s,J,w,a,s',_,h,hR,hE,_,hQ=>by
  simp only[lO,oi]at h;subst h;exact hQ a w ⟨J,.refl hR,hE,rfl,rfl,.refl _ _⟩
 |o :: l,k,s,J,w,a,s',hl,h,hR,hE,hn,hQ=>by
  have ho:ops[k]?=some o:=by have:=hl 0;simpa using this.symm
  have Lw:∀j,l[j]?=ops[k+1+j]?:=fun j=>by have:=hl (j+1);simpa[Nat.add_assoc,Nat.add_comm 1 j]using this
  simp only[List.length_cons,List.range'_succ];simp only[wpOpsIn,ho];simp only[lO]at h;split at h
  ·rename_i hw
   rw[jc hw (hE.gu ops o),if_pos rfl];split at h
   ·rename_i v s1 h1
    split at h
    ·rename_i s2 h2
     refine AY fO hR (hE.ev _) h1 _ Q ?_ ro;intro c w' J' hG PH hv Ap hA _;have LP:ER J' s1 a:=by
      have:=hE.mono (J':=J') hG.mono PH;intro t u hu;exact this t u (by rw[Ap]at hu;exact hu)
     have Tc:=wN h2 LP hn hv;have DI:Good J s w J' s2 w':=by rw[cS h2];exact hG.env _
     refine rr fO l (k+1) s2 J' w' (a.put o.dst c) s' Lw h DI.hr Tc (by rw[ft];exact hn) ?_;rintro a' w2 ⟨J2,q1,q2,q3,q4,q5⟩;exact hQ a' w2 ⟨J2,DI.trans q1,q2,by rw[q3,ft],by rw[q4,put_defers],hA.trans (q5.mono (fun k hk=>Nat.le_trans DI.next hk))⟩
    ·cases h
   ·cases h
  ·rename_i hw
   rw[jc hw (hE.gu ops o),if_neg (by simp)];split at h
   ·rename_i s1 h1
    have Tc:=wN h1 hE hn (c:=undef) (.dc _ _ (VG.of_flat rfl));have DI:Good J s w J s1 w:=by rw[cS h1];exact(Good.refl hR).env _
    refine⟨fun _ _=>trivial,?_⟩;refine rr fO l (k+1) s1 J w (a.put o.dst undef) s' Lw h DI.hr Tc (by rw[ft];exact hn) ?_;rintro a' w2 ⟨J2,q1,q2,q3,q4,q5⟩;exact hQ a' w2 ⟨J2,DI.trans q1,q2,by rw[q3,ft],by rw[q4,put_defers],q5.mono (fun k hk=>Nat.le_trans DI.next hk)⟩
   ·cases h
  ·cases h
theorem DJ{ro:Option Nat}{H:Hint}{call:cJ}(fO:gT P call){f:FuncId}{nt:Nat}{ops:Array Oper}{id:Nat}{a:Act}{s':St}(h:lO P H call f nt ops ops.toList s=some s')(hR:HR J s w)(hE:ER J s a)(hn:nt<=a.tmps.size) :
  (Code.region id ops false).wpIn (Wd ro) 0 P (fun e a' w'=>e=.normal/\Gq J s w a s' a' w') a w:=by
 refine wpIn_region ?_;have:=rr (ro:=ro) (Q:=fun e a' w'=>e=.normal/\Gq J s w a s' a' w') fO ops.toList 0 s J w a s' (fun j=>by simp) h hR hE hn (fun a' w' q=>⟨rfl,q⟩);rw[List.range_eq_range'];simpa using this
end Go.cY
namespace Go.cY
structure bL(B:Nat)(h h':af):Prop where
 next:h.next<=h'.next
 low:h'.low<=h.low
 get:∀id,id<B->id<h'.low->h'.m.get id=h.m.get id
 gone:∀id,id<B->h.m.get id=none->h'.m.get id=none
theorem bL.refl(B:Nat)(h:af):bL B h h:=⟨Nat.le_refl _,Nat.le_refl _,fun _ _ _=>rfl,fun _ _ h=>h⟩
theorem bL.trans{B:Nat}{a b c:af}(h:bL B a b)(k:bL B b c):bL B a c:=
 ⟨Nat.le_trans h.next k.next,Nat.le_trans k.low h.low,fun id h1 h2=>(k.get id h1 h2).trans (h.get id h1 (Nat.lt_of_lt_of_le h2 k.low)),fun id h1 h2=>k.gone id h1 (h.gone id h1 h2)⟩
theorem bL.mono{B B':Nat}{h h':af}(k:bL B h h')(hb:B'<=B):bL B' h h':=
 ⟨k.next,k.low,fun id h1 h2=>k.get id om h2,fun id h1 h2=>k.gone id om h2⟩
theorem bL.push{B:Nat}{h:af}(hb:B<=h.next)(es:Nat)(cs:List Value):bL B h (h.push es cs):=
 ⟨by simp[af.push],Nat.le_refl _,fun id h1 _=>by simp only[af.push];rw[cW.aR _ _ om],fun id h1 h2=>by simp only[af.push];rw[cW.aR _ _ om];exact h2⟩
theorem bL.write{B:Nat}{h h':af}{b off:Nat}{vs:List Value}(hw:h.write b off vs=some h'):bL B h h':=by
 unfold af.write at hw;split at hw
 ·rename_i es cs hm
  split at hw
  ·rename_i lr _
   simp only[oi]at hw;subst hw;refine⟨Nat.le_refl _,Nat.min_le_left _ _,fun id _ h2=>?_,fun id _ h2=>?_⟩
   ·have:Nat.min h.low b<=b:=Nat.min_le_right _ _
    simp only[]at h2 ⊢;rw[cW.aR _ _ om]
   ·simp only[]
    by_cases e:b=id
    ·subst e;rw[hm]at h2;cases h2
    ·rw[cW.aR _ _ e];exact h2
  ·cases hw
 ·cases hw
theorem bL.kill{B:Nat}{h:af}{b:Nat}(hb:h.m.get b≠none):bL B h (h.kill b):=by
 refine⟨Nat.le_refl _,Nat.min_le_left _ _,fun id _ h2=>?_,fun id _ h2=>?_⟩
 ·have:Nat.min h.low b<=b:=Nat.min_le_right _ _
  simp only[af.kill]at h2 ⊢;rw[cW.aR _ _ om]
 ·simp only[af.kill]
  by_cases e:b=id
  ·subst e;exact absurd h2 hb
  ·rw[cW.aR _ _ e];exact h2
theorem bL.gW{B:Nat}{h:af}(hb:B<=h.next)(b:Dk):bL B h (h.gW b):=
 ⟨by simp[af.gW],Nat.le_refl _,fun id h1 _=>by simp only[af.gW];rw[cW.aR _ _ om],fun id h1 h2=>by simp only[af.gW];rw[cW.aR _ _ om];exact h2⟩
theorem bL.jk{B:Nat}{h:af}{b:Nat}{x:Dk}(hb:h.m.get b≠none\/B<=b):bL B h (h.jk b x):=by
 refine⟨Nat.le_refl _,Nat.min_le_left _ _,fun id _ h2=>?_,fun id h1 h2=>?_⟩
 ·have:Nat.min h.low b<=b:=Nat.min_le_right _ _
  simp only[af.jk]at h2 ⊢;rw[cW.aR _ _ om]
 ·simp only[af.jk]
  by_cases e:b=id
  ·subst e
   rcases hb with hb|hb
   ·exact absurd h2 hb
   ·omega
  ·rw[cW.aR _ _ e];exact h2
theorem tA{P:Program}{B:Nat}{h h':af}{t:TypeId}{x k v:Value}{ok:Bool}(hh:kS P h t x k ok=some (v,h')):bL B h h':=by
 unfold kS at hh;simp only[Bool.cond_eq_ite]at hh;repeat' split at hh
 all_goals first
  |(cases hh;done)
  |(simp only[oi,pj]at hh;obtain⟨_,rfl⟩:=hh;exact .refl _ _)
theorem ou{P:Program}{B:Nat}{h h':af}{t:TypeId}{x k u v:Value}(hh:kT P h t x k u=some (v,h')):bL B h h':=by
 unfold kT at hh;simp only[Bool.cond_eq_ite]at hh;split at hh
 ·rename_i id _
  split at hh
  ·rename_i es _ hm
   repeat' split at hh
   all_goals first
    |(cases hh;done)
    |(simp only[oi,pj]at hh;obtain⟨_,rfl⟩:=hh;exact .jk (.inl (by rw[hm];simp)))
  ·cases hh
 ·cases hh
theorem Gr{B:Nat}{s s':St}{a:Addr}{vs:List Value}(h:s.write a vs=some s'):bL B s.h s'.h:=by
 unfold St.write at h;cases fD:vs.all aE with
 |false=>rw[fD]at h;simp at h
 |true=>
  rw[fD]at h;simp only[cond_true]at h;split at h
  ·split at h
   ·rename_i h' hw;simp only[oi]at h;subst h;exact .write hw
   ·cases h
  ·cases hb:Nat.blt a.block s.kn with
   |false=>rw[hb]at h;simp at h
   |true=>
    rw[hb]at h;simp only[cond_true]at h;split at h
    ·split at h
     ·simp only[oi]at h;subst h;exact .refl _ _
     ·cases h
    ·cases h
def Gs(B:Nat)(s:St)(mk:lJ):Prop:=∀loc es cells v s',mk loc es cells=some (v,s')->bL B s.h s'.h
theorem LQ{B:Nat}{s:St}(hb:B<=s.h.next):Gs B s s.new:=by
 intro loc es cells v s' h;unfold St.new at h;cases hc:cells.all aE with
 |false=>rw[hc]at h;simp at h
 |true=>
  rw[hc]at h;cases loc with
  |false=>simp only[cond_true,cond_false,oi,pj]at h;obtain⟨_,rfl⟩:=h;exact .push hb _ _
  |true=>simp only[cond_true,oi,pj]at h;obtain⟨_,rfl⟩:=h;exact .refl _ _
theorem Gu{B:Nat}{s:St}{id tag:Nat}(hb:B<=id):Gs B s (s.newAt id tag):=by
 intro loc es cells v s' h;unfold St.newAt at h;cases hc:cells.all aE with
 |false=>rw[hc]at h;simp at h
 |true=>
  rw[hc]at h;cases loc with
  |false=>
   simp only[cond_true,cond_false,oi,pj]at h;obtain⟨_,rfl⟩:=h;exact⟨Nat.le_refl _,Nat.le_refl _,fun k h1 _=>by simp only[];rw[cW.aR _ _ om],fun k h1 h2=>by simp only[];rw[cW.aR _ _ om];exact h2⟩
  |true=>simp only[cond_true,oi,pj]at h;obtain⟨_,rfl⟩:=h;exact .refl _ _
theorem qg{B:Nat}{h h':af}{a:Addr}{vs:List Value}(hw:h.gP a vs=some h'):bL B h h':=by
 unfold af.gP at hw;split at hw
 ·cases hc:vs.all aE with
  |false=>rw[hc]at hw;simp at hw
  |true=>rw[hc]at hw;simp only[cond_true]at hw;exact .write hw
 ·cases hw
theorem tB{P:Program}{B:Nat}{h h':af}{ts:List TypeId}{args:List Value}{v:Value}(hb:B<=h.next)(hh:cF P h ts args=some (v,h')):bL B h h':=by
 unfold cF at hh;simp only[Bool.cond_eq_ite]at hh;repeat' split at hh
 all_goals first
  |(cases hh;done)
  |(simp only[oi,pj]at hh;obtain⟨_,rfl⟩:=hh;exact .refl _ _)
  |(simp only[oi,pj]at hh;obtain⟨_,rfl⟩:=hh;exact .push hb _ _)
  |(simp only[oi,pj]at hh;obtain⟨_,rfl⟩:=hh;exact qg (by assumption))
  |(simp only[oi,pj]at hh;obtain⟨_,rfl⟩:=hh;rename_i hl _ _;exact(bL.kill (by rw[hl];simp)).trans (.push (by exact hb) _ _))
theorem yv{P:Program}{B:Nat}{h h':af}{ts:List TypeId}{args:List Value}{v:Value}(hh:te P h ts args=some (v,h')):bL B h h':=by
 unfold te at hh;simp only[Bool.cond_eq_ite]at hh;repeat' split at hh
 all_goals first
  |(cases hh;done)
  |(simp only[oi,pj]at hh;obtain⟨_,rfl⟩:=hh;exact .refl _ _)
  |(simp only[oi,pj]at hh;obtain⟨_,rfl⟩:=hh;exact qg (by assumption))
theorem vL{P:Program}{B:Nat}{h h':af}{ts:List TypeId}{args:List Value}{v:Value}(hh:sE P h ts args=some (v,h')):bL B h h':=by
 unfold sE at hh;simp only[Bool.cond_eq_ite]at hh;repeat' split at hh
 all_goals first
  |(cases hh;done)
  |(simp only[oi,pj]at hh;obtain⟨_,rfl⟩:=hh;exact .refl _ _)
  |(simp only[oi,pj]at hh;obtain⟨_,rfl⟩:=hh;exact qg (by assumption))
theorem DK{P:Program}{B:Nat}{s s':St}{t:TypeId}{a:Addr}{v:Value}(h:mT P s t a v=some s'):bL B s.h s'.h:=by
 unfold mT at h;simp only[Bool.cond_eq_ite]at h;repeat' split at h
 all_goals first
  |(cases h;done)
  |exact Gr h
theorem DL{P:Program}{B:Nat}{mk:lJ}{s s':St}{loc:Bool}{op:Op}{v:Value}(hb:B<=s.h.next)(hM:Gs B s mk)(h:gF P mk loc op s=some (v,s')):bL B s.h s'.h:=by
 unfold gF at h;split at h
 case h_7=>
  unfold fy at h
  (try simp only[Bool.cond_eq_ite]at h)
  repeat' split at h
  all_goals (try simp only[Bool.cond_eq_ite]at h)
  all_goals repeat' split at h
  all_goals first
   |(cases h;done)
   |(simp only[oi,pj]at h;obtain⟨_,rfl⟩:=h;exact hM _ _ _ _ _ (by assumption))
 case h_15=>
  unfold fW at h;repeat' split at h
  all_goals first
   |(cases h;done)
   |(simp only[oi,pj]at h;obtain⟨_,rfl⟩:=h;exact hM _ _ _ _ _ (by assumption))
 all_goals (try simp only[Bool.cond_eq_ite]at h)
 all_goals repeat' split at h
 all_goals first
  |(cases h;done)
  |(simp only[oi,pj]at h;obtain⟨_,rfl⟩:=h;exact .refl _ _)
  |exact hM _ _ _ _ _ h
  |(simp only[oi,pj]at h;obtain⟨_,rfl⟩:=h;exact DK (by assumption))
  |(obtain⟨h',h1,rfl⟩:=bm h;exact tB hb h1)
  |(obtain⟨h',h1,rfl⟩:=bm h;exact yv h1)
  |(obtain⟨h',h1,rfl⟩:=bm h;exact vL h1)
  |(obtain⟨h',h1,rfl⟩:=bm h;exact tA h1)
  |(obtain⟨h',h1,rfl⟩:=bm h;exact ou h1)
  |(obtain⟨h',h1,rfl⟩:=bm h;simp only[oi,pj]at h1;obtain⟨_,rfl⟩:=h1;exact .gW hb _)
def aY(call:cJ):Prop:=∀g args h v h',call g args h=some (v,h')->bL h.next h h'
theorem qh{call:cJ}(hc:aY call){B:Nat}{s s':St}{c:Call}{v:Value}(hb:B<=s.h.next)(h:jP call c s=some (v,s')):bL B s.h s'.h:=by
 unfold jP at h;split at h
 ·split at h
  ·rename_i hr
   simp only[oi,pj]at h;obtain⟨_,rfl⟩:=h;exact(hc _ _ _ _ _ hr).mono hb
  ·cases h
 ·cases h
theorem JE{P:Program}{H:Hint}{call:cJ}(hc:aY call){B:Nat}{f:FuncId}{o:Oper}{s s':St}{v:Value}(hb:B<=s.h.next)(h:sG P H call f o s=some (v,s')):bL B s.h s'.h:=by
 unfold sG at h;split at h
 ·exact qh hc hb h
 ·exact DL hb (LQ hb) h
theorem uY{P:Program}{H:Hint}{call:cJ}(hc:aY call){B id tag:Nat}{f:FuncId}{o:Oper}{s s':St}{v:Value}(hb:B<=s.h.next)(mu:B<=id)(h:jN P H call f id tag o s=some (v,s')):bL B s.h s'.h:=by
 unfold jN at h;split at h
 ·exact qh hc hb h
 ·exact DL hb (Gu mu) h
theorem jd{nt:Nat}{dst:Option Tmp}{s s':St}{v:Value}(h:sF nt s dst v=some s'):s'.h=s.h:=by
 rw[cS h]
theorem uZ{P:Program}{H:Hint}{call:cJ}(hc:aY call){f:FuncId}{nt:Nat}{ops:Array Oper}{B:Nat}:∀(l:List Oper) (s s':St),B<=s.h.next->lO P H call f nt ops l s=some s'->bL B s.h s'.h
 | [],s,s',_,h=>by simp only[lO,oi]at h;subst h;exact .refl _ _
 |o :: l,s,s',hb,h=>by
  simp only[lO]at h;split at h
  ·split at h
   ·rename_i v s1 h1
    split at h
    ·rename_i s2 h2
     have k1:=JE hc hb h1;have k2:=uZ hc l s2 s' (by rw[jd h2];exact Nat.le_trans hb k1.next) h;rw[jd h2]at k2;exact k1.trans k2
    ·cases h
   ·cases h
  ·split at h
   ·rename_i s2 h2
    have k2:=uZ hc l s2 s' (by rw[jd h2];exact hb) h;rw[jd h2]at k2;exact k2
   ·cases h
  ·cases h
theorem ju{B:Nat}{s s1:St}(k:bL B s.fresh.h s1.h):bL B s.h (s1.aw s.h.low).h:=
 ⟨k.next,Nat.min_le_left _ _,fun id h1 h2=>k.get id h1 (Nat.lt_of_lt_of_le h2 (Nat.min_le_right _ _)),fun id h1 h2=>k.gone id h1 h2⟩
theorem u5{P:Program}{H:Hint}{call:cJ}(hc:aY call){f:FuncId}{nt:Nat}{ops:Array Oper}{base aQ:Nat}:∀(l:List Nat) (i:Nat) (s s':St) (iA:List (Nat×FP×Bool)),base<=s.h.next->rT P H call f nt ops base aQ l i s=some (s',iA)->bL base s.h s'.h
 | [],i,s,s',iA,_,h=>by simp only[rT,oi,pj]at h;obtain⟨rfl,_⟩:=h;exact .refl _ _
 |p :: l,i,s,s',iA,hb,h=>by
  simp only[rT]at h;split at h
  ·cases h
  ·split at h
   ·split at h
    ·rename_i v s1 h1
     split at h
     ·rename_i s2 h2
      split at h
      ·rename_i r wA h3
       simp only[oi,pj]at h;obtain⟨rfl,_⟩:=h;have k1:=ju (uY hc (B:=base) (s:=s.fresh) hb om h1);have k2:=u5 hc l (i+1) s2 r wA (by rw[jd h2];exact Nat.le_trans hb k1.next) h3;rw[jd h2]at k2;exact k1.trans k2
      ·cases h
     ·cases h
    ·cases h
   ·split at h
    ·rename_i s2 h2
     split at h
     ·rename_i r wA h3
      simp only[oi,pj]at h;obtain⟨rfl,_⟩:=h;have k2:=u5 hc l (i+1) s2 r wA (by rw[jd h2];exact hb) h3;rw[jd h2]at k2;exact k2
     ·cases h
    ·cases h
   ·cases h
theorem Gv{P:Program}{H:Hint}{call:cJ}(hc:aY call){f:FuncId}{nt:Nat}{ops:Array Oper}{s s':St}(h:r8 P H call f nt ops s=some s'):bL s.h.next s.h s'.h:=by
 unfold r8 at h;simp only[Bool.cond_eq_ite]at h;split at h
 ·split at h
  ·split at h
   ·rename_i h1 _
    simp only[oi]at h;subst h;have k:=u5 hc (base:=s.h.next) _ _ _ _ _ (by simp[St.js]) h1;exact⟨by have:=k.next;simp only[St.js]at this;omega,k.low,k.get,k.gone⟩
   ·cases h
  ·cases h
 ·cases h
theorem JF{H:Hint}{f:FuncId}{c:Code}{kn:Nat}{s s':St}(h:norm H f c kn s=some s'):s'.h=s.h:=by
 unfold norm at h;split at h
 ·simp only[oi]at h;rw[h]
 ·simp only[Bool.cond_eq_ite]at h
  split at h
  ·simp only[oi]at h;rw[<-h]
  ·cases h
theorem DM{s s':St}{j:Option Code}{x:Exit}(h:uR s j=some (x,s')):s'=s:=by
 unfold uR at h;split at h
 all_goals first
  |(cases h;done)
  |(simp only[oi,pj]at h;exact h.2.symm)
theorem DN{P:Program}{call:cJ}(hc:aY call){f:FuncId}{nt:Nat}{x:Operand}{ps:Array Tmp}{assign body:Code}{s s':St}{e:Exit}(h:pO P call f nt x ps assign body s=some (e,s')):bL s.h.next s.h s'.h:=by
 unfold pO at h;simp only[Bool.cond_eq_ite]at h;split at h
 ·split at h
  ·split at h
   ·split at h
    ·rename_i h2 hr
     have k1:bL s.h.next s.h h2:=(bL.gW (Nat.le_refl _) _).trans ((hc _ _ _ _ _ hr).mono (by simp[af.gW]));split at h
     ·rw[DM h];exact k1.trans (.jk (.inr (Nat.le_refl _)))
     ·rw[DM h];exact k1.trans (.jk (.inr (Nat.le_refl _)))
     ·cases h
    ·cases h
   ·cases h
  ·cases h
 ·cases h
theorem mW{B y:Nat}{h h':af}{j:Option Code}{v:Value}(hh:kf y h j=some (v,h')):bL B h h':=by
 unfold kf at hh;split at hh
 ·rename_i hm
  simp only[oi,pj]at hh;obtain⟨_,rfl⟩:=hh;exact .jk (.inl (by rw[hm];simp))
 ·cases hh
theorem DO{run:FuncId->Nat->Code->St->Option (Exit×St)}(hr:∀f nt c s x s',run f nt c s=some (x,s')->bL s.h.next s.h s'.h){y:Nat}{args:List Value}{h h':af}{v:Value}(hh:pP run y args h=some (v,h')):bL h.next h h':=by
 unfold pP at hh;split at hh
 ·simp only[Bool.cond_eq_ite]at hh
  split at hh
  ·split at hh
   ·rename_i s1 h1
    have k1:=hr _ _ _ _ _ _ h1;simp only[]at k1;split at hh
    ·rename_i tm f1 O9 Ak Pa kV tn hm
     have k2:bL h.next h (s1.h.jk y (.loop .busy tm f1 O9 Ak Pa kV tn)):=k1.trans (.jk (.inl (by rw[hm];simp)));split at hh
     ·rename_i s2 h2
      exact k2.trans (((hr _ _ _ _ _ _ h2).mono k1.next).trans (mW hh))
     ·rename_i s2 h2
      exact k2.trans (((hr _ _ _ _ _ _ h2).mono k1.next).trans (mW hh))
     ·rename_i s2 h2
      exact k2.trans (((hr _ _ _ _ _ _ h2).mono k1.next).trans (mW hh))
     ·cases hh
    ·cases hh
   ·cases hh
  ·cases hh
 ·cases hh
theorem hO{P:Program}{H:Hint}{F:bk}(hF:aY F):∀n,(∀f nt c s x s',(cH P H F n).run f nt c s=some (x,s')->bL s.h.next s.h s'.h)/\(∀f nt c kn s x s',(cH P H F n).loop f nt c kn s=some (x,s')->bL s.h.next s.h s'.h)/\aY (cH P H F n).call
 |0=>⟨fun f nt c s x s' h=>by simp[cH]at h,fun f nt c kn s x s' h=>by simp[cH]at h,fun g args h v h' hh=>by simp[cH]at hh⟩
 |n+1=>by
  obtain⟨i1,i2,i3⟩:=hO (H:=H) hF n;refine⟨?_,?_,?_⟩
  ·intro f nt c s x s' h
   simp only[cH,og]at h;split at h
   ·simp only[oi,pj]at h;obtain⟨_,rfl⟩:=h;exact .refl _ _
   ·simp only[oi,pj]at h;obtain⟨_,rfl⟩:=h;exact .refl _ _
   ·simp only[oi,pj]at h;obtain⟨_,rfl⟩:=h;exact .refl _ _
   ·split at h
    ·rename_i s1 h1
     have k1:=i1 _ _ _ _ _ _ h1;have k2:=i1 _ _ _ _ _ _ h;exact k1.trans (k2.mono k1.next)
    ·exact i1 _ _ _ _ _ _ h
   ·split at h
    ·exact i1 _ _ _ _ _ _ h
    ·cases h
   ·split at h
    ·rename_i pQ s1 h1
     have k1:=i1 _ _ _ _ _ _ h1;simp only[Bool.cond_eq_ite]at h;split at h
     ·simp only[oi,pj]at h;obtain⟨_,rfl⟩:=h;exact k1
     ·simp only[oi,pj]at h;obtain⟨_,rfl⟩:=h;exact k1
    ·exact i1 _ _ _ _ _ _ h
   ·exact i2 _ _ _ _ _ _ _ h
   ·rename_i ops draw
    split at h
    ·rename_i s1 h1
     simp only[oi,pj]at h;obtain⟨_,rfl⟩:=h;cases draw with
     |true=>exact Gv i3 h1
     |false=>exact uZ i3 _ _ _ (Nat.le_refl _) h1
    ·cases h
   ·exact DN i3 h
   ·cases h
  ·intro f nt c kn s x s' h
   simp only[cH,pR]at h;split at h
   ·cases h
   ·rename_i s1 h0
    have e0:=JF h0;split at h
    ·rename_i s2 h1
     have k1:=i1 _ _ _ _ _ _ h1;have k2:=i2 _ _ _ _ _ _ _ h;rw[e0]at k1;exact k1.trans (k2.mono k1.next)
    ·have k1:=i1 _ _ _ _ _ _ h
     rw[e0]at k1;exact k1
  ·intro g args h v h' hh
   simp only[cH,o9]at hh;cases hy:Nat.ble aX g with
   |true=>rw[hy]at hh;exact DO i1 hh
   |false=>
   rw[hy]at hh;simp only[cond_false]at hh;split at hh
   ·rename_i r hr
    simp only[oi]at hh;subst hh;exact hF _ _ _ _ _ hr
   ·split at hh
    ·rename_i fn _
     split at hh
     ·have key:∀s,wm P fn s=some (v,h')->h'=s.h:=by
       intro s he;unfold wm at he;simp only[Bool.cond_eq_ite]at he;repeat' split at he
       all_goals first|(cases he;done)|(simp only[oi,pj]at he;exact he.2.symm)
      split at hh
      ·rename_i s1 h1
       have k1:=i1 _ _ _ _ _ _ h1;rw[key _ hh];exact k1
      ·rename_i s1 h1
       have k1:=i1 _ _ _ _ _ _ h1;rw[key _ hh];exact k1
      ·cases hh
     ·cases hh
    ·cases hh
end Go.cY
namespace Go.cY
theorem bX{s s2:St}(h:s2.env=s.env):bK s2=bK s:=by
 funext x;cases x<;>simp[bK,h]
theorem im{s s2:St}(h:s2.env=s.env):gX s2=gX s:=by
 funext l
 induction l with
 |nil=>rfl
 |cons x l ih=>simp only[gX,bX h,ih]
theorem pg{s s2:St}(h:s2.env=s.env):gA s2=gA s:=by
 funext l
 induction l with
 |nil=>rfl
 |cons x l ih=>obtain⟨i,x⟩:=x;simp only[gA,bX h,ih]
theorem Aq{s s2:St}(h:s2.env=s.env):jo s2=jo s:=by
 funext x;cases x<;>simp only[jo,bX h]
inductive BS where
 |idle
 |ow (b:Nat) (dh:Dk) (lw:Bool)
 |mX (t:Nat) (cs:List Value)
def BS.apply:BS->St->St
 | .idle,s=>s
 | .ow b dh lw,s=>{ s with h:={ next:=s.h.next,low:=bif lw then Nat.min s.h.low b else s.h.low,m:=s.h.m.set b dh } }
 | .mX t cs,s=>{ s with K:=s.K.set t cs }
def BS.fits:BS->FP->Bool->Prop
 | .idle,x,st=>(∀l b,x≠.new l b)/\st=false
 | .ow b dh lw,x,st=>(x=.block false b/\st=true/\lw=true/\∃es cs,dh=.live true es cs)\/(x=.new false b/\st=false/\lw=false/\∃es cs,dh=.live true es cs)
 | .mX t _,x,st=>(x=.block true t/\st=true)\/(x=.new true t/\st=false)
theorem rz{s s':St}{id tag:Nat}{loc:Bool}{es:Nat}{cells:List Value}{v:Value}(h:s.newAt id tag loc es cells=some (v,s')) :
  (loc=false/\s'=(BS.ow id (.live true es cells) false).apply s/\v=.pointer (some ⟨id,0,none⟩)/\∀s2:St,s2.newAt id tag loc es cells=some (v,(BS.ow id (.live true es cells) false).apply s2)) \/
  (loc=true/\s'=(BS.mX tag cells).apply s/\∀s2:St,s2.newAt id tag loc es cells=some (v,(BS.mX tag cells).apply s2)):=by
 unfold St.newAt at h;cases hc:cells.all aE with
 |false=>rw[hc]at h;simp at h
 |true=>
  rw[hc]at h;cases loc with
  |false=>
   simp only[cond_true,cond_false,oi,pj]at h;obtain⟨rfl,rfl⟩:=h;exact .inl ⟨rfl,rfl,rfl,fun s2=>by unfold St.newAt;rw[hc];rfl⟩
  |true=>
   simp only[cond_true,oi,pj]at h;obtain⟨rfl,rfl⟩:=h;exact .inr ⟨rfl,rfl,fun s2=>by unfold St.newAt;rw[hc];rfl⟩
theorem DP{P:Program}{s s2:St}{t:TypeId}{a:Addr}(h:s2.cells? a=s.cells? a):tc P s2 t a=tc P s t a:=by
 unfold tc St.read;rw[h]
theorem JG{s s':St}{a:Addr}{vs:List Value}(h:s.write a vs=some s') :
  (a.spot=none/\∃dh es cs,dh=.live true es cs/\s'=(BS.ow a.block dh true).apply s/\(∃S3 K6,s.h.m.get a.block=some (.live true S3 K6))/\∀s2:St,s2.h.m.get a.block=s.h.m.get a.block->s2.write a vs=some ((BS.ow a.block dh true).apply s2)) \/
  (a.spot.isSome=true/\∃cs,s'=(BS.mX a.block cs).apply s/\∀s2:St,s2.kn=s.kn->s2.K.get a.block=s.K.get a.block->s2.write a vs=some ((BS.mX a.block cs).apply s2)):=by
 unfold St.write at h;cases fD:vs.all aE with
 |false=>rw[fD]at h;simp at h
 |true=>
  rw[fD]at h;simp only[cond_true]at h;cases jM:a.spot with
  |none=>
   left;rw[jM]at h;simp only[]at h;split at h
   ·rename_i h' hw
    simp only[oi]at h;subst h;unfold af.write at hw;split at hw
    ·rename_i es cs hm
     split at hw
     ·rename_i lr Dd
      simp only[oi]at hw;subst hw;refine⟨rfl,.live true es lr,es,lr,rfl,rfl,⟨es,cs,hm⟩,fun s2 h2=>?_⟩;unfold St.write af.write;rw[fD,jM];simp only[cond_true,h2,hm,Dd];rfl
     ·cases hw
    ·cases hw
   ·cases h
  |some x=>
   right;rw[jM]at h;simp only[]at h;cases hb:Nat.blt a.block s.kn with
   |false=>rw[hb]at h;simp at h
   |true=>
    rw[hb]at h;simp only[cond_true]at h;split at h
    ·rename_i cs hK
     split at h
     ·rename_i lr Dd
      simp only[oi]at h;subst h;refine⟨rfl,lr,rfl,fun s2 h1 h2=>?_⟩;unfold St.write;rw[fD,jM];simp only[cond_true,h1,hb,h2,hK,Dd];simp only[BS.apply,h1]
     ·cases h
    ·cases h
theorem wO {P : Program} {s s' : St} {id tag : Nat} {loc : Bool} {op : Op} {v : Value} (hA : (eO op loc id tag s).fG = false) (h : gF P (s.newAt id tag) loc op s = some (v, s')) :
    ∃ E : BS, s' = E.apply s ∧ E.fits (eO op loc id tag s) (iO op) ∧
      ∀ s2 : St, s2.env = s.env → s2.kn = s.kn → (∀ b, eO op loc id tag s = .block false b → s2.h.m.get b = s.h.m.get b) → (∀ t, eO op loc id tag s = .block true t → s2.K.get t = s.K.get t) →
        gF P (s2.newAt id tag) loc op s2 = some (v, E.apply s2) := by
  by_cases hp : bN op = true
  · 
    have AZ : eO op loc id tag s = .none := by unfold eO; rw [hp]; rfl
    have key : s' = s ∧ ∀ s2 : St, s2.env = s.env → gF P (s2.newAt id tag) loc op s2 = some (v, s2) := by
      unfold gF at h
      split at h
      all_goals first | (exfalso; simp [bN] at hp; done) | skip
      all_goals repeat' split at h
      all_goals first
        | (cases h; done)
        | (simp only [oi, pj] at h
           obtain ⟨rfl, rfl⟩ := h
           exact ⟨rfl, fun s2 he => by simp_all [gF, bX he, im he, pg he, Aq he]⟩)
        | (simp only [Bool.cond_eq_ite] at h
           split at h
           · rename_i h1 h2 Wc
             simp only [oi, pj] at h
             obtain ⟨rfl, rfl⟩ := h
             exact ⟨rfl, fun s2 he => by simp only [gF, im he, h1, h2, Wc, cond_true]⟩
           · cases h)
        | (exfalso; simp [bN] at hp; done)
    refine ⟨.idle, key.1, ⟨fun l b => by rw [AZ]; simp, ?_⟩, fun s2 he _ _ _ => key.2 s2 he⟩
    cases op <;> first | rfl | simp [bN] at hp
  · have sZ : bN op = false := by simpa using hp
    unfold gF at h
    split at h
    all_goals first | (exfalso; simp [bN] at hp; done) | skip
    · 
      rename_i e
      split at h
      · rename_i z n hz hn
        have AZ : eO (.alloc e) loc id tag s = bif loc then .new true tag else .new false id := rfl
        rcases rz h with ⟨rfl, h1, _, h2⟩ | ⟨rfl, h1, h2⟩
        · exact ⟨_, h1, .inr ⟨AZ, rfl, rfl, _, _, rfl⟩, fun s2 _ _ _ _ => by simp only [gF, hz, hn]; exact h2 s2⟩
        · exact ⟨_, h1, .inr ⟨AZ, rfl⟩, fun s2 _ _ _ _ => by simp only [gF, hz, hn]; exact h2 s2⟩
      · cases h
    · 
      rename_i e x
      split at h
      · rename_i u n hu hn
        have AZ : eO (.box e x) loc id tag s = bif loc then .new true tag else .new false id := rfl
        rcases rz h with ⟨rfl, h1, _, h2⟩ | ⟨rfl, h1, h2⟩
        · exact ⟨_, h1, .inr ⟨AZ, rfl, rfl, _, _, rfl⟩, fun s2 he _ _ _ => by simp only [gF, bX he, hu, hn]; exact h2 s2⟩
        · exact ⟨_, h1, .inr ⟨AZ, rfl⟩, fun s2 he _ _ _ => by simp only [gF, bX he, hu, hn]; exact h2 s2⟩
      · cases h
    · 
      rename_i t len parts
      split at h
      · rename_i l hl
        have AZ : eO (.buildSlice t len parts) loc id tag s = .new false id := rfl
        have h9 := h
        unfold fy at h
        split at h
        · rename_i e hu
          split at h
          · rename_i n z hn hz
            cases hb : (Nat.ble (len * n) 16777216 && Nat.beq z.cells.toList.length n && Nat.ble len 16777216) with
            | false => rw [hb] at h; simp at h
            | true =>
              rw [hb] at h
              simp only [cond_true] at h
              split at h
              · rename_i cs wL
                split at h
                · rename_i a s1 pE
                  simp only [oi, pj] at h
                  obtain ⟨rfl, rfl⟩ := h
                  rcases rz pE with ⟨_, h1, h3, h2⟩ | ⟨q, _⟩
                  · exact ⟨_, h1, .inr ⟨AZ, rfl, rfl, _, _, rfl⟩, fun s2 he _ _ _ => by simp only [gF, pg he, hl, fy, hu, hn, hz, hb, cond_true, wL, h2 s2]⟩
                  · cases q
                · cases h
              · cases h
          · cases h
        · cases h
      · cases h
    · 
      rename_i t x
      split at h
      · rename_i a hu
        split at h
        · rename_i u hv
          simp only [oi, pj] at h
          obtain ⟨rfl, rfl⟩ := h
          have AZ : eO (.load t x) loc id tag s = .block a.spot.isSome a.block := by simp only [eO, bN, cond_false, hu]
          refine ⟨.idle, rfl, ⟨fun l b => by rw [AZ]; simp, rfl⟩, fun s2 he hk hb ht => ?_⟩
          have yh : s2.cells? a = s.cells? a := by
            unfold St.cells?
            cases jM : a.spot with
            | none =>
              simp only [af.cells?]
              rw [hb a.block (by rw [AZ, jM]; rfl)]
            | some y =>
              simp only [hk]
              rw [ht a.block (by rw [AZ, jM]; rfl)]
          simp only [gF, bX he, hu, DP yh, hv]
          rfl
        · cases h
      · cases h
    · 
      rename_i t x y
      split at h
      · rename_i a u hx hy
        split at h
        · rename_i s1 gm
          simp only [oi, pj] at h
          obtain ⟨rfl, rfl⟩ := h
          have AZ : eO (.store t x y) loc id tag s = .block a.spot.isSome a.block := by simp only [eO, bN, cond_false, hx]
          unfold mT at gm
          split at gm
          · rename_i n hn
            cases YM : Nat.beq u.cells.toList.length n with
            | false => rw [YM] at gm; simp at gm
            | true =>
              rw [YM] at gm
              simp only [cond_true] at gm
              rcases JG gm with ⟨jM, dh, es, cs, aaf, h1, _, h2⟩ | ⟨jM, cs, h1, h2⟩
              · refine ⟨_, h1, .inl ⟨by rw [AZ, jM]; rfl, rfl, rfl, es, cs, aaf⟩, fun s2 he hk hb ht => ?_⟩
                have := h2 s2 (hb a.block (by rw [AZ, jM]; rfl))
                simp only [gF, bX he, hx, hy, mT, hn, YM, cond_true, this]
              · refine ⟨_, h1, .inl ⟨by rw [AZ, jM], rfl⟩, fun s2 he hk hb ht => ?_⟩
                have := h2 s2 hk (ht a.block (by rw [AZ, jM]))
                simp only [gF, bX he, hx, hy, mT, hn, YM, cond_true, this]
          · cases gm
        · cases h
      · cases h
    · 
      rename_i src dst x
      split at h
      · rename_i a n c hu
        split at h
        · rename_i u hv
          simp only [oi, pj] at h
          obtain ⟨rfl, rfl⟩ := h
          refine ⟨.idle, rfl, ⟨fun l b => ?_, rfl⟩, fun s2 he hk hb ht => ?_⟩
          · simp only [eO, bN, cond_false, hu]
            cases a with
            | none => simp
            | some a =>
              intro q
              simp only [Bool.cond_eq_ite] at q
              split at q <;> cases q
          · have hcm : o8 P s2.h src dst a n = o8 P s.h src dst a n := by
              cases a with
              | none => rfl
              | some a =>
                cases jM : a.spot with
                | some y => unfold o8 af.aM; simp only [jM]
                | none =>
                  have hg := hb a.block (by simp [eO, bN, hu, jM])
                  unfold o8 af.aM af.cells?
                  simp only [jM, hg]
            simp only [gF, bX he, hu, hcm, hv]
            rfl
        · cases h
      · rename_i u1 ff hu
        split at h
        · rename_i u hv
          simp only [oi, pj] at h
          obtain ⟨rfl, rfl⟩ := h
          refine ⟨.idle, rfl, ⟨fun l b => ?_, rfl⟩, fun s2 he hk hb ht => ?_⟩
          · simp only [eO, bN, cond_false, hu]
            split
            · rename_i a9 n9 c9 e9
              simp only [oi] at e9
              exact absurd e9 (ff _ _ _)
            · simp
          · simp only [gF, bX he, hu]
            cases u1 <;> first | exact absurd rfl (ff _ _ _) | (simp only [hv]; rfl)
        · cases h
      · cases h
    · 
      rename_i t l c
      split at h
      · rename_i u1 u2 SY JH
        have AZ : eO (.makeSlice t l c) loc id tag s = .new false id := rfl
        unfold fW at h
        split at h
        · rename_i e k1 l' k2 c' hu
          split at h
          · rename_i n z by_ hn hz rj
            split at h
            · rename_i se
              split at h
              · rename_i a s1 pE
                simp only [oi, pj] at h
                obtain ⟨rfl, rfl⟩ := h
                rcases rz pE with ⟨_, h1, h3, h2⟩ | ⟨q, _⟩
                · exact ⟨_, h1, .inr ⟨AZ, rfl, rfl, _, _, rfl⟩, fun s2 he _ _ _ => by simp only [gF, bX he, SY, JH, fW, hu, hn, hz, rj]; rw [if_pos se]; simp only [h2 s2]⟩
                · cases q
              · cases h
            · cases h
          · cases h
        · cases h
      · cases h
    · 
      rename_i b args argTypes
      exfalso
      have : (eO (.call { callee := .builtin b, args, argTypes }) loc id tag s).fG = true := by
        cases b <;> first | (simp [bN] at sZ; done) | rfl
      rw [this] at hA
      cases hA
    · exact absurd (show (true : Bool) = false from hA) (by decide)
    · exact absurd (show (true : Bool) = false from hA) (by decide)
    · exact absurd (show (true : Bool) = false from hA) (by decide)
    · exact absurd (show (true : Bool) = false from hA) (by decide)
    · cases h
end Go.cY
namespace Go.cY
theorem yw(acc:Array Nat):∀(l:List Edge) (s0 p:Nat),(l.foldl (fun s e=>if Region.binds .any e then s ||| 2 ^ e.on ||| acc.getD e.on 0 else s) s0).testBit p=true->
  s0.testBit p=true\/∃e∈l,Region.binds .any e=true/\(p=e.on\/(acc.getD e.on 0).testBit p=true)
 | [],s0,p,h=>.inl h
 |e :: l,s0,p,h=>by
  simp only[List.foldl_cons]at h;rcases yw acc l _ p h with h1|⟨e',h1,h2,h3⟩
  ·by_cases hb:Region.binds .any e=true
   ·rw[if_pos hb]at h1
    simp only[Nat.testBit_or,Bool.or_eq_true,Nat.testBit_two_pow,decide_eq_true_eq]at h1;rcases h1 with (h1|h1)|h1
    ·exact .inl h1
    ·exact .inr ⟨e,by simp,hb,.inl h1.symm⟩
    ·exact .inr ⟨e,by simp,hb,.inr h1⟩
   ·rw[if_neg hb]at h1;exact .inl h1
  ·exact .inr ⟨e',by simp[h1],h2,h3⟩
def yx(ops:Array Oper)(E:Nat->Prop):Prop:=∀q o,E q->ops[q]?=some o->∀e∈o.after.toList,Region.binds .any e=true->E e.on
theorem si{ops:Array Oper}{E:Nat->Prop}(hE:yx ops E){p q:Nat}(h:prec (Region.before ops) p q=true)(hq:E q):E p:=by
 have key:∀(l:List Oper) (k:Nat) (acc:Array Nat),acc.size=k->(∀j,l[j]?=ops[k+j]?)->(∀q p,(acc.getD q 0).testBit p=true->E q->E p)->
   ∀q p,((l.foldl (fun(acc:Array Nat) o=>acc.push (o.after.foldl (fun s e=>if Region.binds .any e then s ||| 2 ^ e.on ||| acc.getD e.on 0 else s) 0)) acc).getD q 0).testBit p=true->E q->E p:=by
  intro l
  induction l with
  |nil=>intro k acc _ _ h q p hq;exact h q p hq
  |cons o l ih=>
   intro k acc hk hl h;simp only[List.foldl_cons];have ho:ops[k]?=some o:=by have:=hl 0;simpa using this.symm
   refine ih (k+1) _ (by simp[hk]) (fun j=>by have:=hl (j+1);simpa[Nat.add_assoc,Nat.add_comm 1 j]using this) ?_;intro q p hb hq;rcases Nat.lt_trichotomy q acc.size with fg|heq|hgt
   ·have:(acc.push (o.after.foldl (fun s e=>if Region.binds .any e then s ||| 2 ^ e.on ||| acc.getD e.on 0 else s) 0)).getD q 0=acc.getD q 0:=by
     simp[Array.getD,Array.getElem_push,fg,Nat.lt_succ_of_lt fg]
    rw[this]at hb;exact h q p hb hq
   ·subst heq
    have:(acc.push (o.after.foldl (fun s e=>if Region.binds .any e then s ||| 2 ^ e.on ||| acc.getD e.on 0 else s) 0)).getD acc.size 0=o.after.foldl (fun s e=>if Region.binds .any e then s ||| 2 ^ e.on ||| acc.getD e.on 0 else s) 0:=by
     simp[Array.getD]
    rw[this,<-Array.foldl_toList]at hb;rcases yw acc o.after.toList 0 p hb with h1|⟨e,h1,h2,h3⟩
    ·simp at h1
    ·have he:=hE acc.size o hq (by rw[hk];exact ho) e h1 h2
     rcases h3 with rfl|h3
     ·exact he
     ·exact h _ _ h3 he
   ·have:(acc.push (o.after.foldl (fun s e=>if Region.binds .any e then s ||| 2 ^ e.on ||| acc.getD e.on 0 else s) 0)).getD q 0=0:=by
     simp[Array.getD,show ¬q<acc.size+1 by omega]
    rw[this]at hb;simp at hb
 refine key ops.toList 0 #[] rfl (fun j=>by simp) (fun q p h=>by simp at h) q p ?_ hq;unfold prec Region.before at h;rw[<-Array.foldl_toList]at h;exact h
theorem sH{α:Type}{p:α->α->Bool}:∀(l:List α),AR p l=true->∀(i k:Nat) (x y:α),i<k->l[i]?=some x->l[k]?=some y->p x y=true
 | [],_,i,k,x,y,_,h1,_=>by simp at h1
 |z :: l,h,i,k,x,y,HV,h1,h2=>by
  simp only[AR,Bool.and_eq_true,List.all_eq_true]at h;obtain⟨k',rfl⟩:∃k',k=k'+1:=⟨k-1,om⟩;simp only[List.getElem?_cons_succ]at h2;cases i with
  |zero=>simp at h1;subst h1;exact h.1 y (List.mem_of_getElem? h2)
  |succ i=>simp only[List.getElem?_cons_succ]at h1;exact sH l h.2 i k' x y om h1 h2
section
variable(P:Program)(H:Hint)(call:cJ)(f:FuncId)(nt:Nat)(ops:Array Oper)(base aQ:Nat)
def mI(i:Nat)(o:Oper)(s:St)(v:Value)(x:FP)(wr:Bool)(s':St):Prop:=
 (jq ops o s=some true/\∃s1,jN P H call f (base+i) (aQ+i) o s.fresh=some (v,s1)/\sF nt (s1.aw s.h.low) o.dst v=some s'/\x=eO o.op (fz H f o) (base+i) (aQ+i) s/\wr=(iO o.op || Nat.blt s1.h.low s.h.next)) \/
 (jq ops o s=some false/\sF nt s o.dst undef=some s'/\v=undef/\x=.none/\wr=false)
theorem yy:∀(l:List Nat) (i:Nat) (s r:St) (iA:List (Nat×FP×Bool)),rT P H call f nt ops base aQ l i s=some (r,iA)->
  ∃(S:Nat->St) (V:Nat->Value) (X:Nat->FP) (W:Nat->Bool),S i=s/\S (i+l.length)=r/\iA.length=l.length /\
   ∀j p,l[j]?=some p->∃o,ops[p]?=some o/\iA[j]?=some (p,X (i+j),W (i+j))/\mI P H call f nt ops base aQ (i+j) o (S (i+j)) (V (i+j)) (X (i+j)) (W (i+j)) (S (i+j+1))
 | [],i,s,r,iA,h=>by
  simp only[rT,oi,pj]at h;obtain⟨rfl,rfl⟩:=h;exact⟨fun _=>s,fun _=>undef,fun _=>.none,fun _=>false,rfl,rfl,rfl,fun j p h=>by simp at h⟩
 |p :: l,i,s,r,iA,h=>by
  simp only[rT]at h;have comb:∀(o:Oper) (v:Value) (x:FP) (wr:Bool) (s2:St) (wA:List (Nat×FP×Bool)),ops[p]?=some o->mI P H call f nt ops base aQ i o s v x wr s2->rT P H call f nt ops base aQ l (i+1) s2=some (r,wA)->iA=(p,x,wr) :: wA->
    ∃(S:Nat->St) (V:Nat->Value) (X:Nat->FP) (W:Nat->Bool),S i=s/\S (i+(p :: l).length)=r/\iA.length=(p :: l).length /\
     ∀j q,(p :: l)[j]?=some q->∃o,ops[q]?=some o/\iA[j]?=some (q,X (i+j),W (i+j))/\mI P H call f nt ops base aQ (i+j) o (S (i+j)) (V (i+j)) (X (i+j)) (W (i+j)) (S (i+j+1)):=by
   intro o v x wr s2 wA ho hs hr hf;subst hf;obtain⟨S,V,X,W,e1,e2,e3,e4⟩:=yy l (i+1) s2 r wA hr;refine⟨fun k=>if k=i then s else S k,fun k=>if k=i then v else V k,fun k=>if k=i then x else X k,fun k=>if k=i then wr else W k,by simp,?_,by simp[e3],?_⟩
   ·have:¬i+(p :: l).length=i:=by simp
    simp only[this,if_false];rw[<-e2];congr 1;simp;omega
   ·intro j q hj
    cases j with
    |zero=>
     simp at hj;subst hj;refine⟨o,ho,by simp,?_⟩;simp only[Nat.add_zero,if_true,show ¬i+1=i by omega,if_false,e1];exact hs
    |succ j=>
     simp only[List.getElem?_cons_succ]at hj;obtain⟨o',f1,f2,f3⟩:=e4 j q hj;have e5:i+1+j=i+(j+1):=om
     rw[e5]at f2 f3;refine⟨o',f1,?_,?_⟩
     ·simp only[List.getElem?_cons_succ,show ¬i+(j+1)=i by omega,if_false];exact f2
     ·simp only[show ¬i+(j+1)=i by omega,show ¬i+(j+1)+1=i by omega,if_false];exact f3
  split at h
  ·cases h
  ·rename_i o ho
   split at h
   ·rename_i hw
    split at h
    ·rename_i v s1 h1
     split at h
     ·rename_i s2 h2
      split at h
      ·rename_i r' wA h3
       simp only[oi,pj]at h;obtain⟨rfl,h4⟩:=h;exact comb o v _ _ s2 wA ho (.inl ⟨hw,s1,h1,h2,rfl,rfl⟩) h3 h4.symm
      ·cases h
     ·cases h
    ·cases h
   ·rename_i hw
    split at h
    ·rename_i s2 h2
     split at h
     ·rename_i r' wA h3
      simp only[oi,pj]at h;obtain⟨rfl,h4⟩:=h;exact comb o undef .none false s2 wA ho (.inr ⟨hw,h2,rfl,rfl,rfl⟩) h3 h4.symm
     ·cases h
    ·cases h
   ·cases h
end
theorem tC{P:Program}{H:Hint}{call:cJ}{f:FuncId}{id tag:Nat}{o:Oper}{s s':St}{v:Value}(hx:(eO o.op (fz H f o) id tag s).fG=true)(h:jN P H call f id tag o s=some (v,s')) :
  s' = { s with h:=s'.h }/\(∀s3:St,s3.env=s.env->s3.h=s.h->jN P H call f id tag o s3=some (v,{ s3 with h:=s'.h }))/\(aY call->∀B,B<=s.h.next->bL B s.h s'.h):=by
 unfold jN at h;split at h
 ·rename_i c hc
  have h0:=h;unfold jP at h;split at h
  ·rename_i g args hg
   split at h
   ·rename_i u h' hr
    simp only[oi,pj]at h;obtain⟨rfl,rfl⟩:=h;refine⟨rfl,fun s3 he hh=>?_,fun hk B hB=>qh hk hB h0⟩;have e1:kU s3 c=kU s c:=by unfold kU;rw[bX he,im he]
    unfold jN;rw[hc];simp only[jP,e1,hg,hh,hr]
   ·cases h
  ·cases h
 ·rename_i hc
  have We:∀op,gF P (s.newAt id tag) (fz H f o) op s=some (v,s')->(eO op (fz H f o) id tag s).fG=true->
    s' = { s with h:=s'.h }/\(∀s3:St,s3.env=s.env->s3.h=s.h->gF P (s3.newAt id tag) (fz H f o) op s3=some (v,{ s3 with h:=s'.h }))/\(∀B,B<=s.h.next->bL B s.h s'.h):=by
   intro op h hx;unfold gF at h;split at h
   all_goals first|(exfalso;simp[eO,bN,FP.fG]at hx;done)|skip
   ·exfalso;revert hx;unfold eO;cases fz H f o<;>simp[bN,FP.fG]
   ·exfalso;revert hx;unfold eO;cases fz H f o<;>simp[bN,FP.fG]
   ·rename_i t x
    split at h
    ·rename_i a hu;exfalso;simp[eO,bN,hu,FP.fG]at hx
    ·cases h
   ·rename_i t x y
    split at h
    ·rename_i a u hu _;exfalso;simp[eO,bN,hu,FP.fG]at hx
    ·cases h
   ·exfalso
    revert hx
    simp only[eO,bN,cond_false];split
    ·rename_i a9 n9 c9 e9
     cases a9.spot.isNone<;>simp[FP.fG]
    ·simp[FP.fG]
   ·rename_i b args argTypes
    split at h
    ·rename_i l hl
     split at h
     ·exfalso;simp[eO,bN,FP.fG]at hx
     ·exfalso;simp[eO,bN,FP.fG]at hx
     ·exfalso;simp[eO,bN,FP.fG]at hx
     ·exfalso;simp[eO,bN,FP.fG]at hx
     ·obtain⟨h',h1,rfl⟩:=bm h
      refine⟨rfl,fun s3 he hh=>?_,fun B hB=>tB hB h1⟩;simp only[gF,im he,hl,hh,h1,bV]
     ·obtain⟨h',h1,rfl⟩:=bm h
      refine⟨rfl,fun s3 he hh=>?_,fun B hB=>yv h1⟩;simp only[gF,im he,hl,hh,h1,bV]
     ·obtain⟨h',h1,rfl⟩:=bm h
      refine⟨rfl,fun s3 he hh=>?_,fun B hB=>vL h1⟩;simp only[gF,im he,hl,hh,h1,bV]
     ·cases h
    ·cases h
   ·obtain⟨h',h1,rfl⟩:=bm h
    simp only[oi,pj]at h1;obtain⟨rfl,rfl⟩:=h1;exact⟨rfl,fun s3 he hh=>by simp only[gF,hh,bV],fun B hB=>.gW hB _⟩
   ·split at h
    ·rename_i u1 u2 g1 g2
     obtain⟨h',h1,rfl⟩:=bm h;refine⟨rfl,fun s3 he hh=>?_,fun B hB=>tA h1⟩;simp only[gF,bX he,g1,g2,hh,h1,bV]
    ·cases h
   ·split at h
    ·rename_i u1 u2 u3 g1 g2 g3
     obtain⟨h',h1,rfl⟩:=bm h;refine⟨rfl,fun s3 he hh=>?_,fun B hB=>ou h1⟩;simp only[gF,bX he,g1,g2,g3,hh,h1,bV]
    ·cases h
   ·split at h
    ·rename_i u1 u2 u3 g1 g2 g3
     obtain⟨h',h1,rfl⟩:=bm h;refine⟨rfl,fun s3 he hh=>?_,fun B hB=>ou h1⟩;simp only[gF,bX he,g1,g2,g3,hh,h1,bV]
    ·cases h
   ·cases h
  obtain⟨e1,e2,e3⟩:=We o.op h hx;refine⟨e1,fun s3 he hh=>?_,fun _=>e3⟩;unfold jN;rw[hc];exact e2 s3 he hh
theorem Ar{h:af}{b c es:Nat}{cs:List Value}(hb:b<h.next)(hc:b≠c):((h.kill c).push es cs).m.get b=h.m.get b:=by
 show((h.m.set c _).set h.next _).get b=_;rw[cW.aR _ _ om,cW.aR _ _ om]
theorem BT{P:Program}{h h':af}{ts:List TypeId}{x:Value}{r:List Value}{v:Value}(hh:cF P h ts (x :: r)=some (v,h')){b:Nat}(hb:b<h.next)(ff:b≠AS (some x)):h'.m.get b=h.m.get b:=by
 unfold cF at hh;split at hh
 ·rename_i t xt base len c' y heq
  simp only[List.cons.injEq]at heq;obtain⟨rfl,rfl⟩:=heq;have ps:∀(es:Nat) (cs:List Value),(h.push es cs).m.get b=h.m.get b:=fun es cs=>by
   show(h.m.set h.next _).get b=_;rw[cW.aR _ _ om]
  cases base with
  |none=>
   simp only[Bool.cond_eq_ite]at hh;repeat' split at hh
   all_goals first
    |(cases hh;done)
    |(simp only[oi,pj]at hh;obtain⟨_,rfl⟩:=hh;rfl)
    |(simp only[oi,pj]at hh;obtain⟨_,rfl⟩:=hh;exact ps _ _)
  |some a=>
   have ff:b≠a.block:=ff;have wr:∀{h1:af} {o:Nat} {vs:List Value},h.write a.block o vs=some h1->h1.m.get b=h.m.get b:=by
    intro h1 o vs hw;unfold af.write at hw;repeat' split at hw
    all_goals first
     |(cases hw;done)
     |(simp only[oi]at hw;subst hw;show(h.m.set _ _).get b=_;rw[cW.aR _ _ (fun e=>ff e.symm)])
   have wg:∀{h1:af} {n:Nat} {vs:List Value},h.gP (fV a n) vs=some h1->h1.m.get b=h.m.get b:=by
    intro h1 n vs hw;unfold af.gP at hw;simp only[fV,Bool.cond_eq_ite]at hw;repeat' split at hw
    all_goals first
     |(cases hw;done)
     |exact wr hw
   simp only[Bool.cond_eq_ite]at hh;repeat' split at hh
   all_goals first
    |(cases hh;done)
    |(simp only[oi,pj]at hh;obtain⟨_,rfl⟩:=hh;rfl)
    |(simp only[oi,pj]at hh;obtain⟨_,rfl⟩:=hh;exact Ar hb ff)
    |(simp only[oi,pj]at hh;obtain⟨_,rfl⟩:=hh;exact ps _ _)
    |(simp only[oi,pj]at hh;obtain⟨_,rfl⟩:=hh;exact wg (by assumption))
 ·cases hh
theorem JI{P:Program}{H:Hint}{call:cJ}{f:FuncId}{id tag:Nat}{o:Oper}{s s':St}{v:Value}{c:Nat}(hx:eO o.op (fz H f o) id tag s=.app c)(h:jN P H call f id tag o s=some (v,s')){b:Nat}(hb:b<s.h.next)(ff:b≠c):s'.h.m.get b=s.h.m.get b:=by
 have key:∀op,eO op (fz H f o) id tag s=.app c->∃args ts,op=.call { callee:=.builtin .append,args:=args,argTypes:=ts }/\AS (Dq s args.toList)=c:=by
  intro op hx;unfold eO at hx;cases hp:bN op with
  |true=>rw[hp]at hx;cases hx
  |false=>
   rw[hp]at hx;simp only[cond_false]at hx;split at hx
   ·cases hl:fz H f o<;>rw[hl]at hx<;>cases hx
   ·cases hl:fz H f o<;>rw[hl]at hx<;>cases hx
   ·cases hx
   ·cases hx
   ·split at hx<;>cases hx
   ·split at hx<;>cases hx
   ·split at hx
    ·rename_i a _ _ _
     cases hn:a.spot.isNone<;>rw[hn]at hx<;>cases hx
    ·cases hx
   ·rename_i args ts
    exact⟨args,ts,rfl,by simpa using hx⟩
   ·cases hx
 obtain⟨args,ts,ho,rfl⟩:=key o.op hx;unfold jN at h;rw[ho]at h;have hc:eQ (.call { callee:=.builtin .append,args:=args,argTypes:=ts })=none:=rfl;rw[hc]at h;have h:gF P (s.newAt id tag) (fz H f o) (.call { callee:=.builtin .append,args:=args,argTypes:=ts }) s=some (v,s'):=h;simp only[gF]at h;split at h
 ·rename_i l hl
  obtain⟨h',h1,rfl⟩:=bm h;cases ha:args.toList with
  |nil=>
   rw[ha]at hl;simp only[gX,oi]at hl;subst hl;unfold cF at h1;split at h1
   ·rename_i heq;cases heq
   ·cases h1
  |cons x r=>
   rw[ha]at ff hl;have:∃u l',l=u :: l'/\bK s x=some u:=by
    unfold gX at hl;split at hl
    ·rename_i u e1
     split at hl
     ·cases hl
      exact⟨u,_,rfl,e1⟩
     ·cases hl
    ·cases hl
   obtain⟨u,l',rfl,hu⟩:=this;refine BT h1 hb ?_;have e:Dq s (x :: r)=some u:=hu;rw[e]at ff;exact ff
 ·cases h
theorem A3{P:Program}{H:Hint}{call:cJ}(fO:gT P call){f:FuncId}{J:dS}{s s':St}{w:World}{a:Act}{id tag:Nat}{o:Oper}{v:Value}(hR:HR J s w)(hM:AV J s w (s.newAt id tag))(hE:pF J s a o.op.operands.toList)(h:jN P H call f id tag o s=some (v,s')) :
  BQ P J s w a o v s' (fun k=>(Dn o.op (fz H f o)=true/\k=id)\/s.h.next<=k) (fun t=>Dp o.op (fz H f o)=true/\t=tag):=by
 unfold jN at h;split at h
 ·rename_i c hc
  intro K Q hK ro;exact vK fO hR (qe hc) hE h K Q (fun c w' J' a1 a2 a3 a4 a5 a6=>hK c w' J' a1 a2 a3 a4 (a5.mono (fun _=>.inr)) (a6.mono (fun _ q=>q.elim))) ro
 ·intro K Q hK ro
  refine(H6 hR hM hE LO h).S7 (vJ h) K Q (ro:=ro) (fun c w' J' a1 a2 a3 a4 a5 a6=>hK c w' J' a1 a2 a3 a4 (a5.mono ?_) (a6.mono ?_))
  ·rintro k (⟨q,es,cells,s9,h9⟩|⟨_,h9⟩)
   ·left
    refine⟨q,?_⟩;unfold St.newAt at h9;simp only[Bool.cond_eq_ite]at h9;split at h9
    ·simp at h9;exact h9.1.symm
    ·cases h9
   ·exact .inr h9
  ·rintro t ⟨q,es,cells,s9,h9⟩
   refine⟨q,?_⟩;unfold St.newAt at h9;simp only[Bool.cond_eq_ite]at h9;split at h9
   ·simp at h9;exact h9.1.symm
   ·cases h9
end Go.cY
namespace Go.cY
structure Tr(P:Program)(H:Hint)(call:cJ)(f:FuncId)(nt:Nat)(ops:Array Oper)(base aQ:Nat)(l:List Nat)(S:Nat->St)(V:Nat->Value)(X:Nat->FP)(W:Nat->Bool):Prop where
 len:l.length=ops.size
 step:∀(i p:Nat),l[i]?=some p->∃o,ops[p]?=some o/\mI P H call f nt ops base aQ i o (S i) (V i) (X i) (W i) (S (i+1))
 PI:∀(i k p q:Nat),i<k->l[i]?=some p->l[k]?=some q->p≠q
 Td:∀(i k p q:Nat) (o o':Oper),i<k->l[i]?=some p->l[k]?=some q->ops[p]?=some o->ops[q]?=some o'->(shares ops o o'=true\/cD (base+ops.size) (X i) (W i) (X k) (W k)=true)->prec (Region.before ops) p q=true
 dI:base+ops.size<=(S 0).h.next
 kn:(S 0).kn=aQ+ops.size
 bj:aY call
def yz(S:Nat->St)(X:Nat->FP)(W:Nat->Bool)(j id:Nat):Prop:=(X j=.block false id/\W j=true)\/X j=.new false id\/((X j).fG=true/\((W j=true/\(X j).Ll id=true)\/(S j).h.next<=id))
def BU(X:Nat->FP)(W:Nat->Bool)(j t:Nat):Prop:=(X j=.block true t/\W j=true)\/X j=.new true t
section
variable{P:Program}{H:Hint}{call:cJ}{f:FuncId}{nt:Nat}{ops:Array Oper}{base aQ:Nat}{l:List Nat}{S:Nat->St}{V:Nat->Value}{X:Nat->FP}{W:Nat->Bool}
theorem oz{o:Oper}{c:Call}{loc:Bool}{id tag:Nat}{s:St}(h:eQ o.op=some c):eO o.op loc id tag s=.all:=by
 have hc:=qe h;unfold eQ at h;rw[hc]at h ⊢;simp only[]at h;cases hx:c.callee with
 |value x=>cases c;simp only at hx;subst hx;rfl
 |invoke _ _=>rw[hx]at h;simp at h
 |builtin _=>rw[hx]at h;simp at h
theorem gK{o:Op}{loc:Bool}{id tag:Nat}{s:St}:eO o loc id tag s.fresh=eO o loc id tag s:=by
 unfold eO;have e:∀l,Dq s.fresh l=Dq s l:=fun l=>by cases l<;>first|rfl|exact bX rfl
 simp only[bX (s:=s) (s2:=s.fresh) rfl,e]
structure PJ(i:Nat)(o:Oper)(s:St)(v:Value)(x:FP)(wr:Bool)(s':St):Prop where
 env:∀t,s'.env.get t=if o.dst=some t then some v else s.env.get t
 kn:s'.kn=s.kn
 next:s.h.next<=s'.h.next
 Te:x.fG=false->s'.h.next=s.h.next
 low:s'.h.low<=s.h.low
theorem mI.sum(hk:aY call){i:Nat}{o:Oper}{s s':St}{v:Value}{x:FP}{wr:Bool}(h:mI P H call f nt ops base aQ i o s v x wr s'):PJ i o s v x wr s':=by
 have Ap:∀(s0:St) (u:Value),sF nt s0 o.dst u=some s'->∀t,s'.env.get t=if o.dst=some t then some u else s0.env.get t:=by
  intro s0 u hp t;rcases nF hp with ⟨h1,rfl⟩|⟨d,h1,_,rfl⟩
  ·simp[h1]
  ·simp only[h1,cW.bP,oi]
 rcases h with ⟨_,s1,h1,h2,rfl,rfl⟩|⟨_,h2,rfl,rfl,rfl⟩
 ·by_cases hA:(eO o.op (fz H f o) (base+i) (aQ+i) s).fG=true
  ·obtain⟨e1,_,e3⟩:=tC (by rw[gK];exact hA) h1
   have k:=ju (e3 hk 0 (Nat.zero_le _));refine⟨fun t=>?_,?_,?_,fun q=>absurd (hA.symm.trans q) (by decide),?_⟩
   ·rw[Ap _ _ h2 t];rw[e1];rfl
   ·rw[cS h2,e1];rfl
   ·rw[cS h2];exact k.next
   ·rw[cS h2];exact k.low
  ·have hc:eQ o.op=none:=by
    cases hc:eQ o.op with
    |none=>rfl
    |some c=>exact absurd (by rw[oz hc];rfl) hA
   unfold jN at h1;rw[hc]at h1;obtain⟨E,e1,e2,_⟩:=wO (by rw[gK];simpa using hA) h1;have YN:s1.env=s.env/\s1.kn=s.kn/\s1.h.next=s.h.next:=by
    rw[e1];cases E<;>exact⟨rfl,rfl,rfl⟩
   refine⟨fun t=>?_,?_,?_,fun _=>?_,?_⟩
   ·rw[Ap _ _ h2 t];simp only[St.aw,YN.1]
   ·rw[cS h2];exact YN.2.1
   ·rw[cS h2];simp only[St.aw,YN.2.2];exact Nat.le_refl _
   ·rw[cS h2];exact YN.2.2
   ·rw[cS h2];exact Nat.min_le_left _ _
 ·refine⟨fun t=>Ap _ _ h2 t,?_,?_,fun _=>?_,?_⟩
  ·rw[cS h2]
  ·rw[cS h2];exact Nat.le_refl _
  ·rw[cS h2]
  ·rw[cS h2];exact Nat.le_refl _
theorem mI.Wf(hk:aY call){i:Nat}{o:Oper}(h:mI P H call f nt ops base aQ i o (S i) (V i) (X i) (W i) (S (i+1))){id:Nat}(hm:¬yz S X W i id):(S (i+1)).h.m.get id=(S i).h.m.get id:=by
 rcases h with ⟨_,s1,h1,h2,hx,hw⟩|⟨_,h2,_,hx,hw⟩
 ·rw[cS h2]
  show s1.h.m.get id=_;by_cases hA:(X i).fG=true
  ·obtain⟨e1,_,e3⟩:=tC (by rw[gK,<-hx];exact hA) h1
   have fg:id<(S i).h.next:=by
    rcases Nat.lt_or_ge id (S i).h.next with q|q
    ·exact q
    ·exact absurd (.inr (.inr ⟨hA,.inr q⟩)) hm
   cases hh:(X i).Ll id with
   |false=>
    cases hX:X i with
    |app c=>
     rw[hX]at hh;exact JI (by rw[gK,<-hx];exact hX) h1 fg (fun e=>by rw[e]at hh;simp[FP.Ll]at hh)
    |all=>rw[hX]at hh;cases hh
    |none=>rw[hX]at hh;cases hh
    |block _ _=>rw[hX]at hh;cases hh
    |new _ _=>rw[hX]at hh;cases hh
   |true=>
   have hwf:W i=false:=by
    cases hq:W i with
    |false=>rfl
    |true=>exact absurd (.inr (.inr ⟨hA,.inl ⟨hq,hh⟩⟩)) hm
   have aq:(S i).h.next<=s1.h.low:=by
    rw[hwf]at hw;have:=hw.symm;simp only[Bool.or_eq_false_iff]at this;rcases Nat.lt_or_ge s1.h.low (S i).h.next with q|q
    ·rw[dN q]at this;cases this.2
    ·exact q
   exact(e3 hk (S i).h.next (Nat.le_refl _)).get id fg om
  ·have hc:eQ o.op=none:=by
    cases hc:eQ o.op with
    |none=>rfl
    |some c=>exact absurd (by rw[hx,oz hc];rfl) hA
   unfold jN at h1;rw[hc]at h1;obtain⟨E,e1,e2,_⟩:=wO (by rw[gK,<-hx];simpa using hA) h1;rw[gK,<-hx]at e2;rw[e1];cases E with
   |idle=>rfl
   |mX t cs=>rfl
   |ow b dh lw=>
    have ff:b≠id:=by
     intro e;subst e;rcases e2 with ⟨q1,q2,_⟩|⟨q1,_⟩
     ·exact hm (.inl ⟨q1,by rw[hw,q2];rfl⟩)
     ·exact hm (.inr (.inl q1))
    show((S i).fresh.h.m.set b dh).get id=_;rw[cW.aR _ _ ff];rfl
 ·rw[cS h2]
theorem mI.aag{i:Nat}{o:Oper}(h:mI P H call f nt ops base aQ i o (S i) (V i) (X i) (W i) (S (i+1))){t:Nat}(hm:¬BU X W i t):(S (i+1)).K.get t=(S i).K.get t:=by
 rcases h with ⟨_,s1,h1,h2,hx,hw⟩|⟨_,h2,_,hx,hw⟩
 ·rw[cS h2]
  show s1.K.get t=_;by_cases hA:(X i).fG=true
  ·obtain⟨e1,_,_⟩:=tC (by rw[gK,<-hx];exact hA) h1
   rw[e1];rfl
  ·have hc:eQ o.op=none:=by
    cases hc:eQ o.op with
    |none=>rfl
    |some c=>exact absurd (by rw[hx,oz hc];rfl) hA
   unfold jN at h1;rw[hc]at h1;obtain⟨E,e1,e2,_⟩:=wO (by rw[gK,<-hx];simpa using hA) h1;rw[gK,<-hx]at e2;rw[e1];cases E with
   |idle=>rfl
   |ow b dh lw=>rfl
   |mX b cs=>
    have ff:b≠t:=by
     intro e;subst e;rcases e2 with ⟨q1,q2⟩|⟨q1,_⟩
     ·exact hm (.inl ⟨q1,by rw[hw,q2];rfl⟩)
     ·exact hm (.inr q1)
    show((S i).fresh.K.set b cs).get t=_;rw[cW.aR _ _ ff];rfl
 ·rw[cS h2]
variable(T:Tr P H call f nt ops base aQ l S V X W)
include T
theorem Tr.at{i:Nat}(h:i<ops.size):∃p o,l[i]?=some p/\ops[p]?=some o/\mI P H call f nt ops base aQ i o (S i) (V i) (X i) (W i) (S (i+1)):=by
 have hl:i<l.length:=by rw[T.len];exact h
 obtain⟨o,h1,h2⟩:=T.step i l[i] (by simp[hl]);exact⟨l[i],o,by simp[hl],h1,h2⟩
theorem Tr.Tf:∀i,i<=ops.size->(S i).kn=aQ+ops.size
 |0,_=>T.kn
 |i+1,h=>by
  obtain⟨p,o,_,_,hs⟩:=T.at (i:=i) om;rw[(hs.sum T.bj).kn,Tr.Tf i om]
theorem Tr.yA:∀i,i<=ops.size->base+ops.size<=(S i).h.next
 |0,_=>T.dI
 |i+1,h=>by
  obtain⟨p,o,_,_,hs⟩:=T.at (i:=i) om;exact Nat.le_trans (Tr.yA i om) (hs.sum T.bj).next
theorem Tr.H7:∀d i,i+d<=ops.size->(S (i+d)).h.low<=(S i).h.low
 |0,i,_=>Nat.le_refl _
 |d+1,i,h=>by
  obtain⟨p,o,_,_,hs⟩:=T.at (i:=i+d) om;exact Nat.le_trans (hs.sum T.bj).low (Tr.H7 d i om)
theorem Tr.wP{id:Nat}:∀d i,i+d<=ops.size->(∀j,i<=j->j<i+d->¬yz S X W j id)->(S (i+d)).h.m.get id=(S i).h.m.get id
 |0,i,_,_=>rfl
 |d+1,i,h,hm=>by
  obtain⟨p,o,_,_,hs⟩:=T.at (i:=i+d) om;have:=hs.Wf T.bj (hm (i+d) om om);rw[show i+(d+1)=i+d+1 by omega,this];exact Tr.wP d i om (fun j h1 h2=>hm j h1 om)
theorem Tr.BV{t:Nat}:∀d i,i+d<=ops.size->(∀j,i<=j->j<i+d->¬BU X W j t)->(S (i+d)).K.get t=(S i).K.get t
 |0,i,_,_=>rfl
 |d+1,i,h,hm=>by
  obtain⟨p,o,_,_,hs⟩:=T.at (i:=i+d) om;have:=hs.aag (hm (i+d) om om);rw[show i+(d+1)=i+d+1 by omega,this];exact Tr.BV d i om (fun j h1 h2=>hm j h1 om)
theorem Tr.BW{t:Nat}:∀d i,i+d<=ops.size->(∀j p o,i<=j->j<i+d->l[j]?=some p->ops[p]?=some o->o.dst≠some t)->(S (i+d)).env.get t=(S i).env.get t
 |0,i,_,_=>rfl
 |d+1,i,h,hm=>by
  obtain⟨p,o,hp,ho,hs⟩:=T.at (i:=i+d) om;have:=(hs.sum T.bj).env t;rw[if_neg (hm (i+d) p o om om hp ho)]at this;rw[show i+(d+1)=i+d+1 by omega,this];exact Tr.BW d i om (fun j p o h1 h2=>hm j p o h1 om)
theorem Tr.BX:∀d i,i+d<=ops.size->(∀j,i<=j->j<i+d->(X j).fG=false)->(S (i+d)).h.next=(S i).h.next
 |0,i,_,_=>rfl
 |d+1,i,h,hm=>by
  obtain⟨p,o,hp,ho,hs⟩:=T.at (i:=i+d) om;have:=(hs.sum T.bj).Te (hm (i+d) om om);rw[show i+(d+1)=i+d+1 by omega,this];exact Tr.BX d i om (fun j h1 h2=>hm j h1 om)
end
structure Inv(ops:Array Oper)(base aQ:Nat)(l:List Nat)(S:Nat->St)(X:Nat->FP)(W:Nat->Bool)(J0:dS)(s0:St)(w0:World)(a0:Act)(E:Nat->Prop)(a:Act)(w:World)(J:dS)(s2:St):Prop where
 kn:s2.kn=aQ+ops.size
 next:∀k,k<=ops.size->(∀(j p:Nat),l[j]?=some p->(X j).fG=true->(E p↔j<k))->s2.h.next=(S k).h.next
 dI:base+ops.size<=s2.h.next
 g:∀id L k,k<=ops.size->J.g id=some L->(∀(j p:Nat),l[j]?=some p->yz S X W j id->(E p↔j<k))->s2.h.m.get id=(S k).h.m.get id
 lk:∀t L k,k<=ops.size->J.l t=some L->(∀(j p:Nat),l[j]?=some p->BU X W j t->(E p↔j<k))->s2.K.get t=(S k).K.get t
 low:(S ops.size).h.low<=s2.h.low
 rU:Good J0 s0 w0 J s2 w
 DQ:fP (base<=·) J0.g J.g
 BY:∀(j p:Nat),l[j]?=some p->(J.g (base+j)).isSome=true->E p
 DR:∀(j p:Nat),l[j]?=some p->(J.l (aQ+j)).isSome=true->E p
 env:∀t v k,k<=ops.size->(∀(j p:Nat) (o:Oper),l[j]?=some p->ops[p]?=some o->o.dst=some t->(E p↔j<k))->(S k).env.get t=some v->t<a.tmps.size/\VR J v (a.tmps.getD t undef)
 size:a.tmps.size=a0.tmps.size
 defers:a.defers=a0.defers
theorem Good.PK{J J':dS}{s t s':St}{w w':World}(h:Good J s w J' s' w')(hn:t.h.next=s.h.next)(hl:s'.h.low<=t.h.low):Good J t w J' s' w':=
 { hr:=h.hr,mono:=h.mono,next:=by rw[hn];exact h.next,low:=hl,size:=h.size,os:=h.os,tape:=h.tape,output:=h.output,fresh:=h.fresh,cO:=h.cO,frame:=h.frame }
theorem Good.lower {J J' : dS} {s s' : St} {w w' : World} (h : Good J s w J' s' w') {lo : Nat} (hl : lo ≤ s'.h.low) : Good J s w J' { s' with h := { s'.h with low := lo } } w' :=
  { hr := { cV := h.hr.cV, dx := h.hr.dx, cN := h.hr.cN, dy := h.hr.dy, fv := h.hr.fv, fj := h.hr.fj, fw := h.hr.fw, sep := h.hr.sep }
    mono := h.mono, next := h.next, low := Nat.le_trans hl h.low, size := h.size, os := h.os, tape := h.tape, output := h.output
    fresh := fun id L h1 h2 => (h.fresh id L h1 h2).imp (fun q => q) (fun ⟨a, b, c, d, e⟩ => ⟨a, b, c, d, Nat.le_trans hl e⟩)
    cO := h.cO, frame := fun b hb hg YO => h.frame b hb (fun id L h1 h2 => Nat.lt_of_lt_of_le (hg id L h1 h2) hl) YO }
end Go.cY
namespace Go.cY
theorem HR.swap {J : dS} {s s' : St} {w : World} (h : HR J s w) (hn : s.h.next ≤ s'.h.next) (hk : s.kn ≤ s'.kn) (hg : ∀ id L, J.g id = some L → s'.h.m.get id = s.h.m.get id) (hl : ∀ t L, J.l t = some L → s'.K.get t = s.K.get t) : HR J s' w :=
  { cV := fun id L hL => Nat.lt_of_lt_of_le (h.cV id L hL) hn
    dx := h.dx
    cN := fun id L b hL hm => h.cN id L b hL (by rw [← hg id L hL]; exact hm)
    dy := fun id pQ L L' b b' h1 h2 h3 h4 => h.dy id pQ L L' b b' h1 h2 (by rw [← hg id L h1]; exact h3) (by rw [← hg pQ L' h2]; exact h4)
    fv := fun t L hL => Nat.lt_of_lt_of_le (h.fv t L hL) hk
    fj := fun t L hL => let ⟨cs, e, h1, h2⟩ := h.fj t L hL; ⟨cs, e, h1, fun cells hc => h2 cells (by rw [← hl t L hL]; exact hc)⟩
    fw := h.fw
    sep := h.sep }
theorem Good.swap {J0 J : dS} {s0 s s' : St} {w0 w : World} (h : Good J0 s0 w0 J s w) (hn : s.h.next ≤ s'.h.next) (hk : s.kn ≤ s'.kn) (hg : ∀ id L, J.g id = some L → s'.h.m.get id = s.h.m.get id) (hl : ∀ t L, J.l t = some L → s'.K.get t = s.K.get t) (aq : s'.h.low ≤ s.h.low) : Good J0 s0 w0 J s' w :=
  { hr := h.hr.swap hn hk hg hl, mono := h.mono, next := Nat.le_trans h.next hn, low := Nat.le_trans aq h.low, size := h.size, os := h.os, tape := h.tape, output := h.output
    fresh := fun id L h1 h2 => (h.fresh id L h1 h2).imp (fun q => q) (fun ⟨a, b, c, d, e⟩ => ⟨a, b, c, d, Nat.le_trans aq e⟩)
    cO := h.cO, frame := fun b hb hg YO => h.frame b hb (fun id L h1 h2 => Nat.lt_of_lt_of_le (hg id L h1 h2) aq) YO }
theorem LS{op:Op}{loc:Bool}{id tag:Nat}{s:St}{l:Bool}{b:Nat}(h:eO op loc id tag s=.block l b):∃x a,x∈op.operands.toList/\(bK s x=some (.pointer (some a))\/∃n c,bK s x=some (.slice (some a) n c)/\a.spot=none)/\a.spot.isSome=l/\a.block=b:=by
 unfold eO at h;cases hp:bN op with
 |true=>rw[hp]at h;simp at h
 |false=>
  rw[hp]at h;simp only[cond_false]at h;split at h
  ·cases loc<;>simp at h
  ·cases loc<;>simp at h
  ·cases h
  ·cases h
  ·rename_i t x
   split at h
   ·rename_i a ha
    simp only[FP.block.injEq]at h;exact⟨x,a,by simp[Op.operands],.inl ha,h.1,h.2⟩
   ·cases h
  ·rename_i t x y
   split at h
   ·rename_i a ha
    simp only[FP.block.injEq]at h;exact⟨x,a,by simp[Op.operands],.inl ha,h.1,h.2⟩
   ·cases h
  ·rename_i src dst x
   split at h
   ·rename_i a n c ha
    cases jM:a.spot with
    |some y=>simp[jM]at h
    |none=>
     simp only[jM,Option.isNone_none,cond_true,FP.block.injEq]at h;exact⟨x,a,by simp[Op.operands],.inr ⟨n,c,ha,jM⟩,by rw[jM];exact h.1,h.2⟩
   ·cases h
  ·cases h
  ·cases h
theorem H8{op:Op}{loc:Bool}{id tag:Nat}{s:St}(h:Dn op loc=true):eO op loc id tag s=.new false id:=by
 unfold Dn at h;split at h
 ·cases loc<;>simp at h;rfl
 ·cases loc<;>simp at h;rfl
 ·rfl
 ·rfl
 ·cases h
theorem H9{op:Op}{loc:Bool}{id tag:Nat}{s:St}(h:Dp op loc=true):eO op loc id tag s=.new true tag:=by
 unfold Dp at h;split at h
 ·subst h;rfl
 ·subst h;rfl
 ·cases h
theorem Tg{op:Op}{loc:Bool}{id tag:Nat}{s:St}{l:Bool}{b:Nat}(h:eO op loc id tag s=.new l b):b=bif l then tag else id:=by
 unfold eO at h;cases hp:bN op with
 |true=>rw[hp]at h;simp at h
 |false=>
  rw[hp]at h;simp only[cond_false]at h;split at h
  ·cases loc<;>simp at h<;>obtain⟨rfl,rfl⟩:=h<;>rfl
  ·cases loc<;>simp at h<;>obtain⟨rfl,rfl⟩:=h<;>rfl
  ·simp at h;obtain⟨rfl,rfl⟩:=h;rfl
  ·simp at h;obtain⟨rfl,rfl⟩:=h;rfl
  ·split at h<;>cases h
  ·split at h<;>cases h
  ·exfalso
   split at h
   ·simp only[Bool.cond_eq_ite]at h
    split at h<;>cases h
   ·cases h
  ·cases h
  ·cases h
theorem Ia{ops:Array Oper}{x y:Oper}{d:Tmp}(hx:x.dst=some d)(hy:d∈y.looksAt ops\/y.dst=some d):shares ops x y=true:=by
 unfold shares;rw[hx];simp only[Bool.or_eq_true];left;rcases hy with h|h
 ·left;simpa using h
 ·right;simp[h]
theorem PL{ops:Array Oper}{x y:Oper}{d:Tmp}(hy:y.dst=some d)(hx:d∈x.looksAt ops\/x.dst=some d):shares ops x y=true:=by
 rcases hx with h|h
 ·unfold shares
  rw[hy];simp only[Bool.or_eq_true];right;simpa using h
 ·exact Ia h (.inr hy)
theorem dV(l:Bool)(b:Nat):same l l b b=true:=by cases l<;>simp[same,Nat.beq_refl]
theorem de{dI:Nat}{x y:FP}{wx wy:Bool}(hx:x.fG=true)(hy:y≠.none):cD dI x wx y wy=true:=by
 cases x<;>cases y<;>first|rfl|(exact absurd rfl hy)|(cases hx)
theorem kh{dI b:Nat}{y:FP}{wx wy:Bool}(hy:y.fG=true)(h:wx=true\/(wy=true/\y.Ll b=true)\/dI<=b):cD dI (.block false b) wx y wy=true:=by
 cases y with
 |all=>
  rcases h with h|h|h
  ·simp[cD,h]
  ·simp[cD,h.1]
  ·simp only[cD,Bool.not_false,Bool.true_and];rw[cM h];simp
 |app c=>
  rcases h with h|⟨h1,h2⟩|h
  ·simp[cD,h]
  ·have e2:Nat.beq b c=true:=h2
   simp[cD,h1,e2]
  ·simp only[cD,Bool.not_false,Bool.true_and];rw[cM h];simp
 |none=>cases hy
 |block _ _=>cases hy
 |new _ _=>cases hy
theorem A4{dI b:Nat}{l:Bool}{y:FP}{wx wy:Bool}(hy:y.fG=true)(h:wy=true/\y.Ll b=true):cD dI (.new l b) wx y wy=true:=by
 cases y with
 |all=>simp[cD,h.1]
 |app c=>
  have e2:Nat.beq b c=true:=h.2;simp[cD,h.1,e2]
 |none=>cases hy
 |block _ _=>cases hy
 |new _ _=>cases hy
section
variable{P:Program}{H:Hint}{call:cJ}{f:FuncId}{nt:Nat}{ops:Array Oper}{base aQ:Nat}{l:List Nat}{S:Nat->St}{V:Nat->Value}{X:Nat->FP}{W:Nat->Bool}
structure Up(ops:Array Oper)(base:Nat)(l:List Nat)(X:Nat->FP)(W:Nat->Bool)(E:Nat->Prop)(i p:Nat)(o:Oper):Prop where
 hi:l[i]?=some p
 ho:ops[p]?=some o
 hp:¬E p
 lt:i<ops.size
 side:∀(j q:Nat) (o':Oper),l[j]?=some q->ops[q]?=some o'->(j<i->shares ops o' o=true\/cD (base+ops.size) (X j) (W j) (X i) (W i)=true)->(i<j->shares ops o o'=true\/cD (base+ops.size) (X i) (W i) (X j) (W j)=true)->(E q↔j<i)
 ne:∀(j q:Nat),l[j]?=some q->j≠i->q≠p
variable(T:Tr P H call f nt ops base aQ l S V X W)
include T
theorem Tr.up{E:Nat->Prop}{i p:Nat}{o:Oper}(hi:l[i]?=some p)(ho:ops[p]?=some o)(hp:¬E p)(hE:yx ops E)(LP:yx ops (fun q=>E q\/q=p)):Up ops base l X W E i p o where
 hi:=hi
 ho:=ho
 hp:=hp
 lt:=by rw[<-T.len];exact(List.getElem?_eq_some_iff.1 hi).1
 ne:=fun j q hj ff=>by
  rcases Nat.lt_or_gt_of_ne ff with h|h
  ·exact T.PI j i q p h hj hi
  ·exact fun e=>T.PI i j p q h hi hj e.symm
 side:=fun j q o' hj my h1 h2=>by
  rcases Nat.lt_trichotomy j i with h|h|h
  ·have hpr:=T.Td j i q p o' o h hj hi my ho (h1 h)
   have:=si LP hpr (.inr rfl);rcases this with q1|q1
   ·exact⟨fun _=>h,fun _=>q1⟩
   ·exact absurd q1 (T.PI j i q p h hj hi)
  ·subst h
   rw[hi]at hj;obtain rfl:=Option.some.inj hj;exact⟨fun q=>absurd q hp,fun q=>absurd q (Nat.lt_irrefl _)⟩
  ·have hpr:=T.Td i j p q o o' h hi hj ho my (h2 h)
   exact⟨fun q1=>absurd (si hE hpr q1) hp,fun q1=>om⟩
theorem Tr.op{j q:Nat}(hj:l[j]?=some q):∃o',ops[q]?=some o'/\j<ops.size:=by
 obtain⟨o',h,_⟩:=T.step j q hj;exact⟨o',h,by rw[<-T.len];exact(List.getElem?_eq_some_iff.1 hj).1⟩
theorem Tr.newAt{j q:Nat}{lc:Bool}{b:Nat}(hj:l[j]?=some q)(h:X j=.new lc b):b=bif lc then aQ+j else base+j:=by
 obtain⟨o',_,hs⟩:=T.step j q hj;rcases hs with ⟨_,s1,_,_,hx,_⟩|⟨_,_,_,hx,_⟩
 ·rw[hx]at h;exact Tg h
 ·rw[hx]at h;cases h
variable{E:Nat->Prop}{i p:Nat}{o:Oper}(U:Up ops base l X W E i p o)
include U
theorem Up.A5{j q:Nat}(hj:l[j]?=some q)(h1:j<i->cD (base+ops.size) (X j) (W j) (X i) (W i)=true)(h2:i<j->cD (base+ops.size) (X i) (W i) (X j) (W j)=true):E q↔j<i:=by
 obtain⟨o',my,_⟩:=T.op hj;exact U.side j q o' hj my (fun h=>.inr (h1 h)) (fun h=>.inr (h2 h))
theorem Up.RO{id:Nat}(hM:yz S X W i id){j q:Nat}(hj:l[j]?=some q)(Ab:yz S X W j id):E q↔j<i:=by
 obtain⟨o',_,RP⟩:=T.op hj;have l1:=T.yA i (Nat.le_of_lt U.lt);have l2:=T.yA j (Nat.le_of_lt RP);refine U.A5 T hj (fun fg=>?_) (fun fg=>?_)
 ·rcases hM with ⟨a1,a2⟩|a1|⟨a1,a2⟩<;>rcases Ab with ⟨b1,b2⟩|b1|⟨b1,b2⟩
  ·rw[a1,b1];simp[cD,a2,b2,dV]
  ·rw[a1,b1];simp[cD,dV]
  ·exact de b1 (by rw[a1];simp)
  ·rw[a1,b1];simp[cD,dV]
  ·rw[a1,b1];simp[cD,dV]
  ·exact de b1 (by rw[a1];simp)
  ·rw[b1];exact kh a1 (.inl b2)
  ·rw[b1]
   rcases a2 with a2|a2
   ·exact A4 a1 a2
   ·have:=T.newAt hj b1;simp only[cond_false]at this;omega
  ·exact de b1 (by intro e;rw[e]at a1;cases a1)
 ·rcases hM with ⟨a1,a2⟩|a1|⟨a1,a2⟩<;>rcases Ab with ⟨b1,b2⟩|b1|⟨b1,b2⟩
  ·rw[a1,b1];simp[cD,a2,b2,dV]
  ·rw[a1,b1];simp[cD,dV]
  ·rw[a1];exact kh b1 (.inl a2)
  ·rw[a1,b1];simp[cD,dV]
  ·rw[a1,b1];simp[cD,dV]
  ·rw[a1]
   rcases b2 with b2|b2
   ·exact A4 b1 b2
   ·have:=T.newAt U.hi a1;simp only[cond_false]at this;have:=U.lt;omega
  ·exact de a1 (by rw[b1];simp)
  ·exact de a1 (by rw[b1];simp)
  ·exact de a1 (by intro e;rw[e]at b1;cases b1)
theorem Up.Wg{id:Nat}(hX:X i=.block false id){j q:Nat}(hj:l[j]?=some q)(Ab:yz S X W j id):E q↔j<i:=by
 obtain⟨o',_,RP⟩:=T.op hj;have l2:=T.yA j (Nat.le_of_lt RP);refine U.A5 T hj (fun fg=>?_) (fun fg=>?_)
 ·rcases Ab with ⟨b1,b2⟩|b1|⟨b1,b2⟩
  ·rw[hX,b1];simp[cD,b2,dV]
  ·rw[hX,b1];simp[cD,dV]
  ·exact de b1 (by rw[hX];simp)
 ·rcases Ab with ⟨b1,b2⟩|b1|⟨b1,b2⟩
  ·rw[hX,b1];simp[cD,b2,dV]
  ·rw[hX,b1];simp[cD,dV]
  ·rw[hX]
   rcases b2 with b2|b2
   ·exact kh b1 (.inr (.inl b2))
   ·exact kh b1 (.inr (.inr om))
theorem Up.Wh{t:Nat}(hM:BU X W i t){j q:Nat}(hj:l[j]?=some q)(Ab:BU X W j t):E q↔j<i:=by
 refine U.A5 T hj (fun fg=>?_) (fun fg=>?_);all_goals rcases hM with ⟨a1,a2⟩|a1<;>rcases Ab with ⟨b1,b2⟩|b1<;>rw[a1,b1]
 all_goals simp[cD,dV, *]
theorem Up.Th{t:Nat}(hX:X i=.block true t){j q:Nat}(hj:l[j]?=some q)(Ab:BU X W j t):E q↔j<i:=by
 refine U.A5 T hj (fun fg=>?_) (fun fg=>?_);all_goals rcases Ab with ⟨b1,b2⟩|b1<;>rw[hX,b1]
 all_goals simp[cD,dV, *]
theorem Up.RQ(hX:(X i).fG=true){j q:Nat}(hj:l[j]?=some q)(hX':(X j).fG=true):E q↔j<i:=by
 refine U.A5 T hj (fun fg=>?_) (fun fg=>?_)
 ·exact de hX' (by intro e;rw[e]at hX;cases hX)
 ·exact de hX (by intro e;rw[e]at hX';cases hX')
theorem Up.Wi(hX:(X i).fG=true){id:Nat}(hd:∀j q:Nat,l[j]?=some q->id=base+j->E q){j q:Nat}(hj:l[j]?=some q)(Ab:yz S X W j id):E q↔j<i:=by
 by_cases hn:X j=.new false id
 ·have he:E q:=hd j q hj (by have:=T.newAt hj hn;simpa using this)
  refine⟨fun _=>?_,fun _=>he⟩;rcases Nat.lt_trichotomy j i with h|h|h
  ·exact h
  ·subst h;rw[U.hi]at hj;obtain rfl:=Option.some.inj hj;exact absurd he U.hp
  ·obtain⟨o',my,_⟩:=T.op hj
   have:=U.side j q o' hj my (fun q=>om) (fun _=>.inr (de hX (by rw[hn];simp)));exact this.1 he
 ·refine U.A5 T hj (fun fg=>?_) (fun fg=>?_)
  ·rcases Ab with ⟨b1,b2⟩|b1|⟨b1,b2⟩
   ·rw[b1];exact kh hX (.inl b2)
   ·exact absurd b1 hn
   ·exact de b1 (by intro e;rw[e]at hX;cases hX)
  ·rcases Ab with ⟨b1,b2⟩|b1|⟨b1,b2⟩
   ·exact de hX (by rw[b1];simp)
   ·exact absurd b1 hn
   ·exact de hX (by intro e;rw[e]at b1;cases b1)
end
section
variable{ops:Array Oper}{base:Nat}{l:List Nat}{X:Nat->FP}{W:Nat->Bool}{E:Nat->Prop}{i p:Nat}{o:Oper}(U:Up ops base l X W E i p o)
include U
theorem Up.RR{t:Tmp}(ht:t∈o.looksAt ops\/o.dst=some t){j q:Nat}{o':Oper}(hj:l[j]?=some q)(my:ops[q]?=some o')(hd:o'.dst=some t):E q↔j<i:=
 U.side j q o' hj my (fun _=>.inl (Ia hd ht)) (fun _=>.inl (PL hd ht))
theorem Up.next{j q k:Nat}(hj:l[j]?=some q)(ff:j≠i)(h:(E q\/q=p)↔j<k):E q↔j<k:=
 ⟨fun e=>h.1 (.inl e),fun e=>(h.2 e).resolve_right (U.ne j q hj ff)⟩
end
end Go.cY
namespace Go.cY
theorem PM{J:dS}{s:St}{a:Act}{l:List Operand}(h:∀t v,Operand.tmp t∈l->s.env.get t=some v->VR J v (a.tmps.getD t undef)):pF J s a l:=by
 intro x v hx he;have hE:ER J (iB s.h) a:=fun t v h=>by simp[iB,cW.get]at h
 cases x with
 |tmp t=>exact h t v hx he
 |const c=>exact hE.eval (x:=.const c) he
 |global g=>exact hE.eval (x:=.global g) he
 |func g=>exact hE.eval (x:=.func g) he
theorem LU{ops:Array Oper}{o:Oper}{t:Tmp}(h:Operand.tmp t∈o.op.operands.toList):t∈o.looksAt ops:=by
 unfold Oper.looksAt;rw[List.mem_append];left;rw[List.mem_filterMap];exact⟨.tmp t,h,rfl⟩
theorem DS{ops:Array Oper}{o:Oper}{j:Nat}{want:Bool}{d:Tmp}(hg:o.guard=some (j,want))(hd:(ops[j]?).bind (·.dst)=some d):d∈o.looksAt ops:=by
 unfold Oper.looksAt;rw[List.mem_append];right;rw[hg];simp only[hd];simp
section
variable{P:Program}{H:Hint}{call:cJ}{f:FuncId}{nt:Nat}{ops:Array Oper}{base aQ:Nat}{l:List Nat}{S:Nat->St}{V:Nat->Value}{X:Nat->FP}{W:Nat->Bool}
variable{J0:dS}{s0:St}{w0:World}{a0:Act}{E:Nat->Prop}{i p:Nat}{o:Oper}{a:Act}{w:World}{J:dS}{s2:St}
theorem Inv.tD(T:Tr P H call f nt ops base aQ l S V X W)(U:Up ops base l X W E i p o)(I:Inv ops base aQ l S X W J0 s0 w0 a0 E a w J s2)
  (hs:mI P H call f nt ops base aQ i o (S i) (V i) (X i) (W i) (S (i+1))) (hn:nt<=a.tmps.size) {J':dS} {c:Value} (hg:∀id L,J.g id=some L->J'.g id=some L) (hl:∀t L,J.l t=some L->J'.l t=some L) (hc:VR J' (V i) c)
  (YP:∀d,o.dst=some d->d<nt) :
  ∀t v k,k<=ops.size->(∀(j q:Nat) (o':Oper),l[j]?=some q->ops[q]?=some o'->o'.dst=some t->((E q\/q=p)↔j<k))->(S k).env.get t=some v->t<(a.put o.dst c).tmps.size/\VR J' v ((a.put o.dst c).tmps.getD t undef):=by
 intro t v k hk h hv;by_cases hd:o.dst=some t
 ·have HV:i<k:=(h i p o U.hi U.ho hd).1 (.inr rfl)
  have uW:=T.BW (t:=t) (k-(i+1)) (i+1) om (fun j q o' h1 h2 hj my wq=>by
   have e1:=U.next hj om (h j q o' hj my wq);have e2:=U.RR (.inr hd) hj my wq;have:=e2.1 (e1.2 om);omega)
  rw[show i+1+(k-(i+1))=k by omega]at uW;have e:=(hs.sum T.bj).env t;rw[if_pos hd]at e;rw[uW,e]at hv;obtain rfl:=Option.some.inj hv;have fg:t<a.tmps.size:=Nat.lt_of_lt_of_le (YP t hd) hn;rw[ft];refine⟨fg,?_⟩;rw[hd];have:(a.put (some t) c).tmps.getD t undef=c:=by simp[Act.put,fg]
  rw[this];exact hc
 ·obtain⟨h1,h2⟩:=I.env t v k hk (fun j q o' hj my wq=>U.next hj (by rintro rfl;rw[U.hi]at hj;obtain rfl:=Option.some.inj hj;rw[U.ho]at my;obtain rfl:=Option.some.inj my;exact hd wq) (h j q o' hj my wq)) hv
  rw[ft];refine⟨h1,?_⟩;have:(a.put o.dst c).tmps.getD t undef=a.tmps.getD t undef:=by
   cases Ti:o.dst with
   |none=>rfl
   |some d=>simp[Act.put,Array.getElem?_setIfInBounds_ne (show d≠t from fun e=>hd (by rw[Ti,e]))]
  rw[this];exact h2.mono hg hl
theorem mI.Wj{i:Nat}{o:Oper}{s s':St}{v:Value}{x:FP}{wr:Bool}(h:mI P H call f nt ops base aQ i o s v x wr s'):∀d,o.dst=some d->d<nt:=by
 intro d hd;rcases h with ⟨_,s1,_,h2,_,_⟩|⟨_,h2,_,_,_⟩
 ·rcases nF h2 with ⟨q,_⟩|⟨d',q,r,_⟩
  ·rw[q]at hd;cases hd
  ·rw[q]at hd;obtain rfl:=Option.some.inj hd;exact r
 ·rcases nF h2 with ⟨q,_⟩|⟨d',q,r,_⟩
  ·rw[q]at hd;cases hd
  ·rw[q]at hd;obtain rfl:=Option.some.inj hd;exact r
theorem Inv.step {ro : Option Nat} (fO : gT P call) (T : Tr P H call f nt ops base aQ l S V X W) (U : Up ops base l X W E i p o) (I : Inv ops base aQ l S X W J0 s0 w0 a0 E a w J s2) (xQ : nt ≤ a0.tmps.size) {Q : Exit → Act → World → Prop} {K : Act → World → Prop}
    (hK : ∀ a' w' J' PN, Inv ops base aQ l S X W J0 s0 w0 a0 (fun q => E q ∨ q = p) a' w' J' PN → K a' w') : wpOpIn (Wd ro) 0 P ops Q p K a w := by
  obtain ⟨o', my, hs⟩ := T.step i p U.hi
  rw [U.ho] at my
  obtain rfl := Option.some.inj my
  have hn : nt ≤ a.tmps.size := by rw [I.size]; exact xQ
  have DT : i ≤ ops.size := Nat.le_of_lt U.lt
  have RS : ∀ t v, t ∈ o.looksAt ops → (S i).env.get t = some v → t < a.tmps.size ∧ VR J v (a.tmps.getD t undef) :=
    fun t v ht hv => I.env t v i DT (fun j q o' hj my hd => U.RR (.inl ht) hj my hd) hv
  have YQ : ∀ s3 : St, s3.env = (S i).env → pF J s3 a o.op.operands.toList := fun s3 he => PM (fun t v ht hv => (RS t v (LU ht) (by rw [← he]; exact hv)).2)
  have hGu : Ta J (S i) a ops o := fun j want d v hg hd hv => RS d v (DS hg hd) hv
  have hJg : J.g (base + i) = none := by
    cases hx : J.g (base + i) with
    | none => rfl
    | some L => exact absurd (I.BY i p U.hi (by rw [hx]; rfl)) U.hp
  have hJl : J.l (aQ + i) = none := by
    cases hx : J.l (aQ + i) with
    | none => rfl
    | some L => exact absurd (I.DR i p U.hi (by rw [hx]; rfl)) U.hp
  have hlim := I.dI
  have hilt := U.lt
  have tD := fun (J' : dS) (c : Value) hg hl hc => I.tD T U hs hn (J' := J') (c := c) hg hl hc hs.Wj
  have aah := hs.sum T.bj
  have Wk := fun id => hs.Wf T.bj (id := id)
  unfold wpOpIn
  rw [U.ho]
  simp only []
  rcases hs with ⟨hw, s1, h1, h2, hx, YR⟩ | ⟨hw, h2, hv, hx, YR⟩
  · rw [jc hw hGu, if_pos rfl]
    by_cases hA : (X i).fG = true
    · 
      obtain ⟨e1, e2, e3⟩ := tC (by rw [gK, ← hx]; exact hA) h1
      have A6 : s2.h.next = (S i).h.next := I.next i DT (fun j q hj hq => U.RQ T hA hj hq)
      have JA : ∀ id L, J.g id = some L → s2.h.m.get id = (S i).h.m.get id := fun id L hL => I.g id L i DT hL (fun j q hj hm => U.Wi T hA (fun j q hj mu => I.BY j q hj (by rw [← mu, hL]; rfl)) hj hm)
      let s3 : St := { s2 with env := (S i).env, h := (S i).fresh.h }
      have h3 := e2 s3 rfl rfl
      have Wl : HR J s3 w := I.rU.hr.swap (s' := s3) (by show s2.h.next ≤ (S i).h.next; omega) (Nat.le_refl _) (fun id L hL => (JA id L hL).symm) (fun _ _ _ => rfl)
      have PO : (S (i + 1)).h.m = s1.h.m ∧ (S (i + 1)).h.next = s1.h.next ∧ (S (i + 1)).h.low = Nat.min (S i).h.low s1.h.low := by
        rw [cS h2]; exact ⟨rfl, rfl, rfl⟩
      refine A3 fO Wl (Wl.HT (by show base + i < (S i).h.next; omega) hJg (by show aQ + i < s2.kn; rw [I.kn]; omega) hJl) (YQ s3 rfl) h3 K Q ?_ ro
      intro c w' J' hG PH hv Ap hAd hAl
      have Wm : Dn o.op (fz H f o) = false := by
        cases hq : Dn o.op (fz H f o) with
        | false => rfl
        | true => rw [hx, H8 hq] at hA; cases hA
      have Wn : Dp o.op (fz H f o) = false := by
        cases hq : Dp o.op (fz H f o) with
        | false => rfl
        | true => rw [hx, H9 hq] at hA; cases hA
      have Gw : ∀ id L, J'.g id = some L → J.g id = some L ∨ (S i).h.next ≤ id := fun id L hL => (hAd id L hL).imp (fun q => q) (fun q => q.elim (fun q => by rw [Wm] at q; cases q.1) (fun q => q))
      have LV : ∀ t L, J'.l t = some L → J.l t = some L := fun t L hL => (hAl t L hL).elim (fun q => q) (fun q => by rw [Wn] at q; cases q.1)
      let PN : St := { s2 with h := { s1.h with low := Nat.min s2.h.low s1.h.low } }
      have DI : Good J s2 w J' PN w' := by
        have g1 := hG.lower (lo := Nat.min s2.h.low s1.h.low) (Nat.min_le_right _ _)
        have g2 := g1.PK (t := s2) (by rw [A6]; rfl) (Nat.min_le_left _ _)
        exact g2.env s2.env
      refine hK (a.put o.dst c) w' J' PN ?_
      refine { kn := I.kn, next := ?_, dI := ?_, g := ?_, lk := ?_, low := ?_, rU := I.rU.trans DI, DQ := ?_, BY := ?_, DR := ?_, env := tD J' c hG.mono PH hv, size := by rw [ft]; exact I.size, defers := by rw [put_defers]; exact I.defers }
      · intro k hk h
        have HV : i < k := (h i p U.hi hA).1 (.inr rfl)
        have := T.BX (k - (i + 1)) (i + 1) om (fun j q1 q2 => by
          cases hq : (X j).fG with
          | false => rfl
          | true =>
            exfalso
            obtain ⟨pj, oj, hj, _, _⟩ := T.at (i := j) om
            have := (U.RQ T hA hj hq).1 ((U.next hj om (h j pj hj hq)).2 om)
            omega)
        rw [show i + 1 + (k - (i + 1)) = k by omega] at this
        rw [this]; exact PO.2.1.symm
      · show base + ops.size ≤ s1.h.next
        rw [← PO.2.1]; exact T.yA (i + 1) om
      · intro id L k hk hL h
        show s1.h.m.get id = _
        by_cases hM : yz S X W i id
        · have HV : i < k := (h i p U.hi hM).1 (.inr rfl)
          have := T.wP (id := id) (k - (i + 1)) (i + 1) om (fun j q1 q2 hq => by
            obtain ⟨pj, oj, hj, _, _⟩ := T.at (i := j) om
            have := (U.RO T hM hj hq).1 ((U.next hj om (h j pj hj hq)).2 om)
            omega)
          rw [show i + 1 + (k - (i + 1)) = k by omega] at this
          rw [this, PO.1]
        · have fg : id < (S i).h.next := by
            rcases Nat.lt_or_ge id (S i).h.next with q | q
            · exact q
            · exact absurd (.inr (.inr ⟨hA, .inr q⟩)) hM
          have U9 : J.g id = some L := (Gw id L hL).resolve_right om
          rw [← PO.1, Wk id hM, ← JA id L U9]
          exact I.g id L k hk U9 (fun j q hj hq => U.next hj (by rintro rfl; exact hM hq) (h j q hj hq))
      · intro t L k hk hL h
        exact I.lk t L k hk (LV t L hL) (fun j q hj hq => U.next hj (by rintro rfl; rcases hq with ⟨q, _⟩ | q <;> rw [q] at hA <;> cases hA) (h j q hj hq))
      · show _ ≤ Nat.min s2.h.low s1.h.low
        have q1 := T.H7 (ops.size - (i + 1)) (i + 1) om
        rw [show i + 1 + (ops.size - (i + 1)) = ops.size by omega, PO.2.2] at q1
        exact Nat.le_min.2 ⟨I.low, Nat.le_trans q1 (Nat.min_le_right _ _)⟩
      · intro id L hL
        rcases Gw id L hL with q | q
        · exact I.DQ id L q
        · right; show base ≤ id; have := T.yA i DT; omega
      · intro j q hj qi
        cases hq : J'.g (base + j) with
        | none => rw [hq] at qi; cases qi
        | some L =>
          obtain ⟨_, _, RP⟩ := T.op hj
          rcases Gw _ L hq with r | r
          · exact .inl (I.BY j q hj (by rw [r]; rfl))
          · have := T.yA i DT; omega
      · intro j q hj qi
        cases hq : J'.l (aQ + j) with
        | none => rw [hq] at qi; cases qi
        | some L => exact .inl (I.DR j q hj (by rw [LV _ L hq]; rfl))
    · 
      have hc : eQ o.op = none := by
        cases hc : eQ o.op with
        | none => rfl
        | some c => exact absurd (by rw [hx, oz hc]; rfl) hA
      have tz := h1
      unfold jN at tz
      rw [hc] at tz
      obtain ⟨F, e1, e2, e3⟩ := wO (by rw [gK, ← hx]; simpa using hA) tz
      rw [gK, ← hx] at e2 e3
      let s3 : St := { s2 with env := (S i).env }
      have Wl : HR J s3 w := I.rU.hr.env _
      have LW : ∀ lc b, X i = .block lc b → ∃ ad : Addr, ad.spot.isSome = lc ∧ ad.block = b ∧ ∃ L, J.at ad = some L := by
        intro lc b hb
        rw [hx] at hb
        obtain ⟨x, ad, YS, Wo, q1, q2⟩ := LS hb
        rcases Wo with Wo | ⟨n9, c9, Wo, Wp⟩
        · have := YQ (S i) rfl x _ YS Wo
          obtain ⟨L, hL, _⟩ := this.pT
          exact ⟨ad, q1, q2, L, hL⟩
        · have := YQ (S i) rfl x _ YS Wo
          obtain ⟨_, L, _, hL, _⟩ := (this.bg (fun a => by simp)).pU Wp
          exact ⟨ad, q1, q2, L, by simp [dS.at, Wp, hL]⟩
      have h3 : jN P H call f (base + i) (aQ + i) o s3 = some (V i, F.apply s3) := by
        unfold jN
        rw [hc]
        refine e3 s3 rfl ?_ ?_ ?_
        · show s2.kn = (S i).kn
          rw [I.kn, T.Tf i DT]
        · intro b hb
          obtain ⟨ad, q1, q2, L, hL⟩ := LW false b hb
          have jM : ad.spot = none := by cases hq : ad.spot with | none => rfl | some y => rw [hq] at q1; cases q1
          simp only [dS.at, jM, q2] at hL
          exact I.g b L i DT hL (fun j q hj hm => U.Wg T hb hj hm)
        · intro t hb
          obtain ⟨ad, q1, q2, L, hL⟩ := LW true t hb
          obtain ⟨y, jM⟩ : ∃ y, ad.spot = some y := by cases hq : ad.spot with | none => rw [hq] at q1; cases q1 | some y => exact ⟨y, rfl⟩
          simp only [dS.at, jM, q2] at hL
          exact I.lk t L i DT hL (fun j q hj hm => U.Th T hb hj hm)
      have YT : (F.apply s3).h.next = s2.h.next ∧ (F.apply s3).kn = s2.kn := by cases F <;> exact ⟨rfl, rfl⟩
      have PO : (S (i + 1)).h.m = s1.h.m ∧ (S (i + 1)).K = s1.K ∧ (S (i + 1)).h.low = Nat.min (S i).h.low s1.h.low := by
        rw [cS h2]; exact ⟨rfl, rfl, rfl⟩
      have Wq : (∀ b dh lw, F ≠ .ow b dh lw) → (∀ t cs, F ≠ .mX t cs) → W i = false := by
        intro q1 q2
        cases F with
        | idle =>
          rw [YR, e2.2, e1]
          show Nat.blt (S i).h.next (S i).h.next = false
          exact cM (Nat.le_refl _)
        | ow b dh lw => exact absurd rfl (q1 b dh lw)
        | mX t cs => exact absurd rfl (q2 t cs)
      have Tj : ∀ id, yz S X W i id → ∃ dh lw, F = .ow id dh lw := by
        intro id hM
        rcases hM with ⟨q1, q2⟩ | q1 | ⟨q1, _⟩
        · cases F with
          | idle => rw [Wq (fun _ _ _ h => by cases h) (fun _ _ h => by cases h)] at q2; cases q2
          | ow b dh lw =>
            rcases e2 with ⟨r, _⟩ | ⟨r, _⟩
            · rw [q1] at r; simp only [FP.block.injEq, true_and] at r; subst r; exact ⟨_, _, rfl⟩
            · rw [q1] at r; cases r
          | mX t cs =>
            rcases e2 with ⟨r, _⟩ | ⟨r, _⟩
            · rw [q1] at r; simp at r
            · rw [q1] at r; cases r
        · cases F with
          | idle => exact absurd q1 (e2.1 _ _)
          | ow b dh lw =>
            rcases e2 with ⟨r, _⟩ | ⟨r, _⟩
            · rw [q1] at r; cases r
            · rw [q1] at r; simp only [FP.new.injEq, true_and] at r; subst r; exact ⟨_, _, rfl⟩
          | mX t cs =>
            rcases e2 with ⟨r, _⟩ | ⟨r, _⟩
            · rw [q1] at r; cases r
            · rw [q1] at r; simp at r
        · exact absurd q1 hA
      have Tk : ∀ t, BU X W i t → ∃ cs, F = .mX t cs := by
        intro t hM
        rcases hM with ⟨q1, q2⟩ | q1
        · cases F with
          | idle => rw [Wq (fun _ _ _ h => by cases h) (fun _ _ h => by cases h)] at q2; cases q2
          | ow b dh lw =>
            rcases e2 with ⟨r, _⟩ | ⟨r, _⟩
            · rw [q1] at r; simp at r
            · rw [q1] at r; cases r
          | mX b cs =>
            rcases e2 with ⟨r, _⟩ | ⟨r, _⟩
            · rw [q1] at r; simp only [FP.block.injEq, true_and] at r; subst r; exact ⟨_, rfl⟩
            · rw [q1] at r; cases r
        · cases F with
          | idle => exact absurd q1 (e2.1 _ _)
          | ow b dh lw =>
            rcases e2 with ⟨r, _⟩ | ⟨r, _⟩
            · rw [q1] at r; cases r
            · rw [q1] at r; simp at r
          | mX b cs =>
            rcases e2 with ⟨r, _⟩ | ⟨r, _⟩
            · rw [q1] at r; cases r
            · rw [q1] at r; simp only [FP.new.injEq, true_and] at r; subst r; exact ⟨_, rfl⟩
      have aai : ∀ b dh lw, F = .ow b dh lw → yz S X W i b := by
        intro b dh lw hF; subst hF
        rcases e2 with ⟨r, r2, _⟩ | ⟨r, _⟩
        · exact .inl ⟨r, by rw [YR, r2]; rfl⟩
        · exact .inr (.inl r)
      have aaj : ∀ t cs, F = .mX t cs → BU X W i t := by
        intro t cs hF; subst hF
        rcases e2 with ⟨r, r2⟩ | ⟨r, _⟩
        · exact .inl ⟨r, by rw [YR, r2]; rfl⟩
        · exact .inr r
      refine A3 fO Wl (Wl.HT (by show base + i < s2.h.next; omega) hJg (by show aQ + i < s2.kn; rw [I.kn]; omega) hJl) (YQ s3 rfl) h3 K Q ?_ ro
      intro c w' J' hG PH hv Ap hAd hAl
      have Gw : ∀ id L, J'.g id = some L → J.g id = some L ∨ (X i = .new false id ∧ id = base + i) := fun id L hL => by
        rcases hAd id L hL with q | ⟨q1, q2⟩ | q
        · exact .inl q
        · right; refine ⟨?_, q2⟩; rw [hx, H8 q1, q2]
        · have := hG.hr.cV id L hL
          rw [YT.1] at this
          have q' : s2.h.next ≤ id := q
          omega
      have LV : ∀ t L, J'.l t = some L → J.l t = some L ∨ (X i = .new true t ∧ t = aQ + i) := fun t L hL => by
        rcases hAl t L hL with q | ⟨q1, q2⟩
        · exact .inl q
        · right; refine ⟨?_, q2⟩; rw [hx, H9 q1, q2]
      refine hK (a.put o.dst c) w' J' (F.apply s3) ?_
      refine { kn := by rw [YT.2]; exact I.kn, next := ?_, dI := by rw [YT.1]; exact I.dI, g := ?_, lk := ?_, low := ?_, rU := (I.rU.env _).trans hG, DQ := ?_, BY := ?_, DR := ?_, env := tD J' c hG.mono PH hv, size := by rw [ft]; exact I.size, defers := by rw [put_defers]; exact I.defers }
      · intro k hk h
        rw [YT.1]
        exact I.next k hk (fun j q hj hq => U.next hj (by rintro rfl; exact hA hq) (h j q hj hq))
      · intro id L k hk hL h
        by_cases hM : yz S X W i id
        · obtain ⟨dh, lw, hF⟩ := Tj id hM
          have HV : i < k := (h i p U.hi hM).1 (.inr rfl)
          have := T.wP (id := id) (k - (i + 1)) (i + 1) om (fun j q1 q2 hq => by
            obtain ⟨pj, oj, hj, _, _⟩ := T.at (i := j) om
            have := (U.RO T hM hj hq).1 ((U.next hj om (h j pj hj hq)).2 om)
            omega)
          rw [show i + 1 + (k - (i + 1)) = k by omega] at this
          rw [this, PO.1, e1, hF]
          simp only [BS.apply, cW.gY]
        · have U9 : J.g id = some L := (Gw id L hL).resolve_right (fun q => hM (.inr (.inl q.1)))
          have e : (F.apply s3).h.m.get id = s2.h.m.get id := by
            cases hF : F with
            | idle => rfl
            | mX t cs => rfl
            | ow b dh lw =>
              have ff : b ≠ id := by rintro rfl; exact hM (aai _ _ _ hF)
              simp only [BS.apply]
              exact cW.aR _ _ ff
          rw [e]
          exact I.g id L k hk U9 (fun j q hj hq => U.next hj (by rintro rfl; exact hM hq) (h j q hj hq))
      · intro t L k hk hL h
        by_cases hM : BU X W i t
        · obtain ⟨cs, hF⟩ := Tk t hM
          have HV : i < k := (h i p U.hi hM).1 (.inr rfl)
          have := T.BV (t := t) (k - (i + 1)) (i + 1) om (fun j q1 q2 hq => by
            obtain ⟨pj, oj, hj, _, _⟩ := T.at (i := j) om
            have := (U.Wh T hM hj hq).1 ((U.next hj om (h j pj hj hq)).2 om)
            omega)
          rw [show i + 1 + (k - (i + 1)) = k by omega] at this
          rw [this, PO.2.1, e1, hF]
          simp only [BS.apply, cW.gY]
        · have U9 : J.l t = some L := (LV t L hL).resolve_right (fun q => hM (.inr q.1))
          have e : (F.apply s3).K.get t = s2.K.get t := by
            cases hF : F with
            | idle => rfl
            | ow b dh lw => rfl
            | mX b cs =>
              have ff : b ≠ t := by rintro rfl; exact hM (aaj _ _ hF)
              simp only [BS.apply]
              exact cW.aR _ _ ff
          rw [e]
          exact I.lk t L k hk U9 (fun j q hj hq => U.next hj (by rintro rfl; exact hM hq) (h j q hj hq))
      · have q1 := T.H7 (ops.size - (i + 1)) (i + 1) om
        rw [show i + 1 + (ops.size - (i + 1)) = ops.size by omega, PO.2.2] at q1
        have q2 := Nat.le_trans q1 (Nat.min_le_right _ _)
        rw [e1] at q2
        cases hF : F with
        | idle => exact I.low
        | mX t cs => exact I.low
        | ow b dh lw =>
          rw [hF] at q2
          simp only [BS.apply] at q2 ⊢
          cases lw with
          | false => exact I.low
          | true => exact Nat.le_min.2 ⟨I.low, Nat.le_trans q2 (Nat.min_le_right _ _)⟩
      · intro id L hL
        rcases Gw id L hL with q | q
        · exact I.DQ id L q
        · right; show base ≤ id; omega
      · intro j q hj qi
        cases hq : J'.g (base + j) with
        | none => rw [hq] at qi; cases qi
        | some L =>
          rcases Gw _ L hq with r | r
          · exact .inl (I.BY j q hj (by rw [r]; rfl))
          · have : j = i := by omega
            subst this
            rw [U.hi] at hj
            exact .inr (Option.some.inj hj).symm
      · intro j q hj qi
        cases hq : J'.l (aQ + j) with
        | none => rw [hq] at qi; cases qi
        | some L =>
          rcases LV _ L hq with r | r
          · exact .inl (I.DR j q hj (by rw [r]; rfl))
          · have : j = i := by omega
            subst this
            rw [U.hi] at hj
            exact .inr (Option.some.inj hj).symm
  · rw [jc hw hGu, if_neg (by simp)]
    refine ⟨fun _ _ => trivial, hK _ _ J s2 ?_⟩
    have ff : ∀ (j : Nat), X j ≠ .none → j ≠ i := fun j h e => h (by rw [e, hx])
    exact { kn := I.kn
            next := fun k hk h => I.next k hk (fun j q hj hq => U.next hj (ff j (by intro e; rw [e] at hq; cases hq)) (h j q hj hq))
            dI := I.dI
            g := fun id L k hk hJ h => I.g id L k hk hJ (fun j q hj hm => U.next hj (ff j (by rcases hm with ⟨r, _⟩ | r | ⟨r, _⟩ <;> intro e <;> rw [e] at r <;> cases r)) (h j q hj hm))
            lk := fun t L k hk hJ h => I.lk t L k hk hJ (fun j q hj hm => U.next hj (ff j (by rcases hm with ⟨r, _⟩ | r <;> rw [r] <;> simp)) (h j q hj hm))
            low := I.low, rU := I.rU, DQ := I.DQ
            BY := fun j q hj h => .inl (I.BY j q hj h)
            DR := fun j q hj h => .inl (I.DR j q hj h)
            env := tD J undef (fun _ _ h => h) (fun _ _ h => h) (by rw [hv]; exact .dc _ _ (VG.of_flat rfl))
            size := by rw [ft]; exact I.size
            defers := by rw [put_defers]; exact I.defers }
end
end Go.cY
namespace Go.cY
theorem filter_lt{α:Type}{p p':α->Bool}(hp:∀x,p' x=true->p x=true):∀(l:List α) (x:α),x∈l->p x=true->p' x=false->(l.filter p').length<(l.filter p).length
 |y :: l,x,hx,h1,h2=>by
  have mono:∀l:List α,(l.filter p').length<=(l.filter p).length:=by
   intro l
   induction l with
   |nil=>simp
   |cons z l ih=>
    simp only[List.filter_cons];by_cases hz:p' z=true
    ·simp[hz,hp z hz,ih]
    ·by_cases Tl:p z=true
     ·simp[hz,Tl];omega
     ·simp[hz,Tl,ih]
  rcases List.mem_cons.1 hx with rfl|RN
  ·simp only[List.filter_cons,h1,h2,if_true]
   have:=mono l;simp;omega
  ·have ih:=filter_lt hp l x RN h1 h2
   simp only[List.filter_cons];by_cases hz:p' y=true
   ·simp[hz,hp y hz,ih]
   ·by_cases Tl:p y=true
    ·simp[hz,Tl];omega
    ·simp[hz,Tl,ih]
 | [],x,hx,_,_=>by simp at hx
def wB(bS:Array Bool)(q:Nat):Prop:=bS.getD q false=true
theorem wB.set{bS:Array Bool}{p:Nat}(hp:p<bS.size):wB (bS.setIfInBounds p true)=fun q=>wB bS q\/q=p:=by
 funext q
 apply propext;unfold wB;by_cases e:q=p
 ·subst e;simp[Array.getD,hp]
 ·by_cases hq:q<bS.size
  ·simp[Array.getD,hq,e,Array.getElem_setIfInBounds,Ne.symm e]
  ·simp[Array.getD,hq,e]
section
variable{P:Program}{H:Hint}{call:cJ}{f:FuncId}{nt:Nat}{ops:Array Oper}{base aQ:Nat}{l:List Nat}{S:Nat->St}{V:Nat->Value}{X:Nat->FP}{W:Nat->Bool}
variable{J0:dS}{s0:St}{w0:World}{a0:Act}
theorem Inv.any{ro:Option Nat}(fO:gT P call)(T:Tr P H call f nt ops base aQ l S V X W)(xQ:nt<=a0.tmps.size)(Gx:∀q,q<ops.size->q∈l)
  (Wr:∀(q:Nat) (o:Oper),ops[q]?=some o->∀e∈o.after.toList,Region.binds .any e=true->e.on<q) {Q:Exit->Act->World->Prop}
  (hQ:∀a w J s2,Inv ops base aQ l S X W J0 s0 w0 a0 (fun q=>q<ops.size) a w J s2->Q .normal a w) :
  ∀(fuel:Nat) (bS:Array Bool) (a:Act) (w:World) (J:dS) (s2:St),bS.size=ops.size->((List.range ops.size).filter (fun q=>!bS.getD q false)).length<=fuel->yx ops (wB bS)->
   Inv ops base aQ l S X W J0 s0 w0 a0 (wB bS) a w J s2->wpAnyIn (Wd ro) 0 P .any ops Q fuel bS a w:=by
 have fI:∀(bS:Array Bool) (a:Act) (w:World) (J:dS) (s2:St),bS.size=ops.size->Region.ready .any ops bS=[]->Inv ops base aQ l S X W J0 s0 w0 a0 (wB bS) a w J s2->Q .normal a w:=by
  intro bS a w J s2 uT hr I;have key:∀q,q<ops.size->wB bS q:=by
   intro q
   induction q using Nat.strongRecOn with
   |_ q ih=>
    intro hq;by_cases hl:wB bS q
    ·exact hl
    ·exfalso
     have DU:q∈Region.ready .any ops bS:=by
      unfold Region.ready;rw[List.mem_filter];refine⟨List.mem_range.2 hq,?_⟩;have Ad:q<bS.size:=om
      have h1:bS.getD q true=false:=by
       unfold wB at hl;simp only[Array.getD,Ad,dif_pos]at hl ⊢;simpa using hl
      simp only[h1,Bool.not_false,Bool.true_and,hq,Array.getElem?_eq_getElem,Option.map_some,Option.getD_some];rw[Array.all_eq_true'];intro e he;by_cases hb:Region.binds .any e=true
      ·have fg:=Wr q ops[q] (by simp[hq]) e (by simpa using he) hb
       have:=ih e.on fg om;unfold wB at this;simp only[this,Bool.or_true]
      ·simp[hb]
     rw[hr]at DU;cases DU
  have hE:wB bS=fun q=>q<ops.size:=by
   funext q
   apply propext;refine⟨fun h=>?_,key q⟩;unfold wB at h;by_cases hq:q<bS.size
   ·omega
   ·simp[Array.getD,hq]at h
  rw[hE]at I;exact hQ a w J s2 I
 intro fuel
 induction fuel with
 |zero=>
  intro bS a w J s2 uT hc JJ I;have hr:Region.ready .any ops bS=[]:=by
   cases hx:Region.ready .any ops bS with
   |nil=>rfl
   |cons q r=>
    exfalso;have DU:q∈Region.ready .any ops bS:=by rw[hx];simp
    unfold Region.ready at DU;rw[List.mem_filter]at DU;obtain⟨h1,h2⟩:=DU;simp only[Bool.and_eq_true,Bool.not_eq_true']at h2;have hq:=List.mem_range.1 h1;have Ad:q<bS.size:=om
    have:q∈(List.range ops.size).filter (fun q=>!bS.getD q false):=by
     rw[List.mem_filter];refine⟨h1,?_⟩;have:=h2.1;simp only[Array.getD,Ad,dif_pos]at this ⊢;simp only[this,Bool.not_false]
    rw[List.length_eq_zero_iff.1 (Nat.le_zero.1 hc)]at this;cases this
  exact⟨hr,fI bS a w J s2 uT hr I⟩
 |succ fuel ih=>
  intro bS a w J s2 uT hc JJ I;refine⟨fun hr=>fI bS a w J s2 uT hr I,fun q hq=>?_⟩;unfold Region.ready at hq;rw[List.mem_filter]at hq;obtain⟨h1,h2⟩:=hq;simp only[Bool.and_eq_true,Bool.not_eq_true']at h2;have hql:=List.mem_range.1 h1;have Ad:q<bS.size:=om
  have sh:bS.getD q false=false:=by
   have:=h2.1;simp only[Array.getD,Ad,dif_pos]at this ⊢;exact this
  obtain⟨i,hi,hie⟩:=List.getElem_of_mem (Gx q hql);have FM:l[i]?=some q:=by rw[List.getElem?_eq_getElem hi,hie]
  have Tm:=wB.set (p:=q) Ad;have Tn:yx ops (fun r=>wB bS r\/r=q):=by
   intro r o hr ho e he hb;rcases hr with hr|rfl
   ·exact .inl (JJ r o hr ho e he hb)
   ·left
    have:=h2.2;rw[ho]at this;simp only[Option.map_some,Option.getD_some]at this;rw[Array.all_eq_true']at this;have:=this e (by simpa using he);unfold wB;simpa[hb]using this
  obtain⟨o,ho,_⟩:=T.op FM;have hnE:¬wB bS q:=by unfold wB;rw[sh];simp
  refine I.step fO T (T.up FM ho hnE JJ Tn) xQ ?_;intro a' w' J' PN I';rw[<-Tm]at I' Tn;refine ih (bS.setIfInBounds q true) a' w' J' PN (by simp[uT]) ?_ Tn I';have:((List.range ops.size).filter (fun r=>!(bS.setIfInBounds q true).getD r false)).length<((List.range ops.size).filter (fun r=>!bS.getD r false)).length:=by
   refine filter_lt (fun r hr=>?_) _ q h1 (by simp only[sh,Bool.not_false]) ?_
   ·by_cases hx:bS.getD r false=true
    ·have:wB (bS.setIfInBounds q true) r:=by rw[Tm];exact .inl hx
     unfold wB at this;rw[this]at hr;cases hr
    ·simpa using hx
   ·have:wB (bS.setIfInBounds q true) q:=by rw[Tm];exact .inr rfl
    unfold wB at this;rw[this];rfl
  omega
end
theorem Good.Ws {J J' : dS} {s s' : St} {w w' : World} (h : Good J s w J' s' w') (n : Nat) : Good J s w J' s' { w' with drawn := n } :=
  { hr := { cV := h.hr.cV, dx := h.hr.dx, cN := h.hr.cN, dy := h.hr.dy, fv := h.hr.fv, fj := h.hr.fj, fw := h.hr.fw, sep := h.hr.sep }
    mono := h.mono, next := h.next, low := h.low, size := h.size, os := h.os, tape := h.tape, output := h.output, fresh := h.fresh, cO := h.cO, frame := h.frame }
theorem DV{ops:Array Oper}{l:List Nat}(h:oe ops l=true):l.length=ops.size/\(∀q,q<ops.size->q∈l)/\(∀(q:Nat) (o:Oper),ops[q]?=some o->∀e∈o.after.toList,Region.binds .any e=true->e.on<q) /\
  (∀(i k p q:Nat),i<k->l[i]?=some p->l[k]?=some q->p≠q/\∀o o',ops[p]?=some o->ops[q]?=some o'->shares ops o o'=true->prec (Region.before ops) p q=true):=by
 unfold oe at h;simp only[Bool.and_eq_true]at h;obtain⟨⟨⟨h1,h2⟩,h3⟩,h4⟩:=h;refine⟨Nat.eq_of_beq_eq_true h1,fun q hq=>?_,fun q o ho e he hb=>?_,fun i k p q HV hp hq=>?_⟩
 ·rw[List.all_eq_true]at h2
  have:=h2 q (List.mem_range.2 hq);simpa using this
 ·rw[List.all_eq_true]at h3
  have fg:q<ops.size:=(Array.getElem?_eq_some_iff.1 ho).1;have DU:(o,q)∈ops.toList.zipIdx:=by
   rw[List.mem_zipIdx_iff_getElem?];simpa using ho
  have:=h3 (o,q) DU;simp only[List.all_eq_true]at this;have:=this e he;rw[hb]at this;simp only[Bool.not_true,Bool.false_or]at this;exact Nat.le_of_ble_eq_true this
 ·have:=sH l h4 i k p q HV hp hq
  simp only[Bool.and_eq_true,Bool.not_eq_true']at this;refine⟨Nat.ne_of_beq_eq_false this.1,fun o o' ho my hs=>?_⟩;have:=this.2;rw[ho,my]at this;simpa[hs]using this
theorem Gy {ro : Option Nat} {P : Program} {H : Hint} {call : cJ} {f : FuncId} {nt : Nat} {ops : Array Oper} {id : Nat} {J : dS} {s s' : St} {w : World} {a : Act} (hm : P.follows .mixedOrders = true) (fO : gT P call) (LX : aY call)
    (h : r8 P H call f nt ops s = some s') (hR : HR J s w) (hE : ER J s a) (hn : nt ≤ a.tmps.size) :
    (Code.region id ops true).wpIn (Wd ro) 0 P (fun e a' w' => e = .normal ∧ Gq J s w a s' a' w') a w := by
  unfold r8 at h
  cases hd : oe ops (gp ops) with
  | false => rw [hd] at h; simp at h
  | true =>
    rw [hd] at h
    simp only [cond_true] at h
    split at h
    · rename_i r iA hr
      cases hf : Dt ops (s.h.next + ops.size) iA with
      | false => rw [hf] at h; simp at h
      | true =>
        rw [hf] at h
        simp only [cond_true, oi] at h
        subst h
        obtain ⟨d1, d2, d3, d4⟩ := DV hd
        obtain ⟨S, V, X, W, t1, t2, t3, t4⟩ := yy P H call f nt ops s.h.next s.kn (gp ops) 0 (s.js ops.size) r iA hr
        simp only [Nat.zero_add] at t2 t4
        have T : Tr P H call f nt ops s.h.next s.kn (gp ops) S V X W :=
          { len := d1
            step := fun i p hp => let ⟨o, h1, _, h3⟩ := t4 i p hp; ⟨o, h1, h3⟩
            PI := fun i k p q HV hp hq => (d4 i k p q HV hp hq).1
            Td := fun i k p q o o' HV hp hq ho my hc => by
              rcases hc with hc | hc
              · exact (d4 i k p q HV hp hq).2 o o' ho my hc
              · obtain ⟨_, _, f1, _⟩ := t4 i p hp
                obtain ⟨_, _, f2, _⟩ := t4 k q hq
                have := sH iA hf i k _ _ HV f1 f2
                simpa [hc] using this
            dI := by rw [t1]; exact Nat.le_refl _
            kn := by rw [t1]; rfl
            bj := LX }
        rw [d1] at t2
        refine wpIn_region_any hm ?_
        refine Inv.any (J0 := J) (s0 := s) (w0 := w) (a0 := a) fO T hn d2 d3 ?_ ops.size _ a _ J (s.js ops.size) (by simp) ?_ ?_ ?_
        · intro a' w' J' s2 I
          refine ⟨rfl, J', ?_, ?_, I.size, I.defers, I.DQ⟩
          · have LY : ∀ (j p : Nat), (gp ops)[j]? = some p → (p < ops.size ↔ j < ops.size) := fun j p hj => by
              obtain ⟨o', my, RP⟩ := T.op hj
              exact ⟨fun _ => RP, fun _ => (Array.getElem?_eq_some_iff.1 my).1⟩
            rw [← t2]
            refine I.rU.swap ?_ ?_ (fun k L hL => ?_) (fun t L hL => ?_) I.low
            · rw [I.next ops.size (Nat.le_refl _) (fun j p hj _ => LY j p hj)]; exact Nat.le_refl _
            · rw [I.kn, T.Tf _ (Nat.le_refl _)]; exact Nat.le_refl _
            · exact (I.g k L ops.size (Nat.le_refl _) hL (fun j p hj _ => LY j p hj)).symm
            · exact (I.lk t L ops.size (Nat.le_refl _) hL (fun j p hj _ => LY j p hj)).symm
          · intro t v hv
            rw [← t2] at hv
            exact I.env t v ops.size (Nat.le_refl _) (fun j p o hj ho _ => by
              obtain ⟨o', my, RP⟩ := T.op hj
              exact ⟨fun _ => RP, fun _ => (Array.getElem?_eq_some_iff.1 my).1⟩) hv
        · exact Nat.le_trans (List.length_filter_le _ _) (by simp)
        · intro q o hq
          exfalso
          unfold wB at hq
          simp [Array.getD] at hq
        · have Gh : ∀ q, ¬ wB (Array.replicate ops.size false) q := fun q hq => by unfold wB at hq; simp [Array.getD] at hq
          have Wt := (Good.js hR ops.size ops.size).Ws (w.drawn + 1)
          refine { kn := rfl, next := ?_, dI := Nat.le_refl _, g := ?_, lk := ?_, low := ?_, rU := Wt, DQ := .refl _ _, BY := ?_, DR := ?_, env := ?_, size := rfl, defers := rfl }
          · intro k hk h
            have := T.BX k 0 om (fun j _ h2 => by
              cases hq : (X j).fG with
              | false => rfl
              | true =>
                exfalso
                obtain ⟨pj, oj, hj, _, _⟩ := T.at (i := j) om
                exact Gh _ ((h j pj hj hq).2 om))
            rw [Nat.zero_add] at this
            rw [this, t1]
          · intro id L k hk _ h
            have := T.wP (id := id) k 0 om (fun j _ h2 hq => by
              obtain ⟨pj, oj, hj, _, _⟩ := T.at (i := j) om
              exact Gh _ ((h j pj hj hq).2 om))
            rw [Nat.zero_add] at this
            rw [this, t1]
          · intro t L k hk _ h
            have := T.BV (t := t) k 0 om (fun j _ h2 hq => by
              obtain ⟨pj, oj, hj, _, _⟩ := T.at (i := j) om
              exact Gh _ ((h j pj hj hq).2 om))
            rw [Nat.zero_add] at this
            rw [this, t1]
          · have := T.H7 ops.size 0 om
            rw [t1, Nat.zero_add] at this
            exact this
          · intro j p hj hs
            exfalso
            cases hq : J.g (s.h.next + j) with
            | none => rw [hq] at hs; cases hs
            | some L => have := hR.cV _ _ hq; omega
          · intro j p hj hs
            exfalso
            cases hq : J.l (s.kn + j) with
            | none => rw [hq] at hs; cases hs
            | some L => have := hR.fv _ _ hq; omega
          · intro t v k hk h hv
            have := T.BW (t := t) k 0 om (fun j p o _ h2 hj ho hd => Gh _ ((h j p o hj ho hd).2 om))
            rw [Nat.zero_add] at this
            rw [this, t1] at hv
            exact hE t v hv
    · cases h
end Go.cY
namespace Go.cY
variable{P:Program}{w:World}{J:dS}{s:St}
theorem oA{env:cW Value}:∀(l:List Tmp) (acc:cW Value) (t:Tmp) (v:Value),(restrict env l acc).get t=some v->acc.get t=some v\/(t∈l/\env.get t=some v)
 | [],acc,t,v,h=>.inl h
 |u :: l,acc,t,v,h=>by
  simp only[restrict]at h;split at h
  ·rename_i x hx
   rcases oA l _ t v h with h1|⟨h1,h2⟩
   ·rw[cW.bP]at h1
    by_cases e:u=t
    ·subst e;rw[if_pos rfl]at h1;obtain rfl:=Option.some.inj h1;exact .inr ⟨by simp,hx⟩
    ·rw[if_neg e]at h1;exact .inl h1
   ·exact .inr ⟨by simp[h1],h2⟩
  ·rcases oA l _ t v h with h1|⟨h1,h2⟩
   ·exact .inl h1
   ·exact .inr ⟨by simp[h1],h2⟩
theorem DW {H : Hint} {f : FuncId} {c : Code} {kn : Nat} {s1 : St} {a : Act} (h : norm H f c kn s = some s1) (hR : HR J s w) (hE : ER J s a) : ∃ J1, Good J s w J1 s1 w ∧ ER J1 s1 a ∧ J1.g = J.g := by
  unfold norm at h
  split at h
  · simp only [oi] at h; subst h; exact ⟨J, .refl hR, hE, rfl⟩
  · rename_i l _
    simp only [] at h
    rw [Bool.cond_eq_ite] at h
    split at h
    · rename_i hb
      simp only [oi] at h
      subst h
      simp only [Bool.and_eq_true, List.all_eq_true] at hb
      have hk := Nat.le_of_ble_eq_true hb.1
      let J1 : dS := ⟨J.g, fun t => if t < kn then J.l t else none⟩
      have hl : ∀ t L, J1.l t = some L → t < kn ∧ J.l t = some L := by
        intro t L ht
        simp only [J1] at ht
        by_cases e : t < kn
        · rw [if_pos e] at ht; exact ⟨e, ht⟩
        · rw [if_neg e] at ht; cases ht
      refine ⟨J1, ?_, ?_, rfl⟩
      · exact { hr := { cV := hR.cV, dx := hR.dx, cN := hR.cN, dy := hR.dy, fv := fun t L h => (hl t L h).1, fj := fun t L h => hR.fj t L (hl t L h).2, fw := fun t t' L L' h h' => hR.fw t t' L L' (hl t L h).2 (hl t' L' h').2, sep := fun id t L L' h h' => hR.sep id t L L' h (hl t L' h').2 }
                mono := fun _ _ h => h, next := Nat.le_refl _, low := Nat.le_refl _, size := Nat.le_refl _, os := rfl, tape := rfl, output := rfl
                fresh := fun id L h1 h2 => absurd h1 (by rw [h2]; simp)
                cO := fun t L h1 => .inr ⟨t, L, (hl t L h1).2, rfl⟩
                frame := fun _ _ _ _ => rfl }
      · intro t v hv
        have Wu : (restrict s.env l .leaf).get t = some v := hv
        rcases oA l .leaf t v Wu with h1 | ⟨h1, h2⟩
        · simp [cW.get] at h1
        · obtain ⟨e1, e2⟩ := hE t v h2
          refine ⟨e1, ?_⟩
          have PQ := hb.2 t h1
          rw [Wu] at PQ
          simp only [] at PQ
          generalize a.tmps.getD t undef = cv at e2 ⊢
          cases e2 with
          | dc _ _ h => exact .dc _ _ h
          | loc ad x L hs h =>
            refine .loc ad x L hs ?_
            simp only [th, hs, Option.isNone_some, Bool.false_or] at PQ
            show (if ad.block < kn then J.l ad.block else none) = some L
            have fg : ad.block < kn := Nat.le_of_ble_eq_true PQ
            rw [if_pos fg]; exact h
    · cases h
theorem yB{a:Act}(hR:HR J s w)(hE:ER J s a)(g:ResultVar->Sem Value)(Va:∀t,g (.tmp t)=pure (a.tmps.getD t undef))(Vb:∀x t,g (.cell x t)=(do loadVar t (<-asAddr (a.tmps.getD x undef)))) :
  ∀(rs:List ResultVar) (l:List Value),wk P s rs=some l->l.all dD=true->∃cs,(rs.mapM g).run P w=.ok cs w/\fQ J.g l cs
 | [],l,h,_=>by
  simp only[wk,oi]at h;subst h;exact⟨[],by simp,.nil _⟩
 | .tmp t :: rs,l,h,hn=>by
  simp only[wk]at h;split at h
  ·rename_i v hv
   split at h
   ·rename_i l' hl
    simp only[oi]at h;subst h;simp only[List.all_cons,Bool.and_eq_true]at hn;obtain⟨cs,h1,h2⟩:=yB hR hE g Va Vb rs l' hl hn.2;refine⟨a.tmps.getD t undef :: cs,?_,.cons ((hE t v hv).2.pV hn.1) h2⟩;rw[List.mapM_cons,Va];simp only[Sem.run_bind,Sem.run_pure,Result.andThen_ok,h1]
   ·cases h
  ·cases h
 | .cell x t :: rs,l,h,hn=>by
  simp only[wk]at h;split at h
  ·rename_i ad hv
   split at h
   ·rename_i v YU
    split at h
    ·rename_i l' hl
     simp only[oi]at h;subst h;simp only[List.all_cons,Bool.and_eq_true]at hn;obtain⟨cs,h1,h2⟩:=yB hR hE g Va Vb rs l' hl hn.2;obtain⟨L,hL,hc⟩:=(hE x _ hv).2.pT;obtain⟨c,h3,h4⟩:=AU hR hL YU;refine⟨c :: cs,?_,.cons h4 h2⟩;rw[List.mapM_cons,Vb,hc];simp only[Sem.run_bind,Sem.run_pure,Result.andThen_ok,h1,asAddr,h3]
    ·cases h
   ·cases h
  ·cases h
theorem vM{fn:Func}{a:Act}{l:List Value}(hR:HR J s w)(hE:ER J s a)(h:wk P s fn.results.toList=some l)(hn:l.all dD=true):∃c,(results fn a.tmps).run P w=.ok c w/\VG J.g (jr l) c:=by
 let g:ResultVar->Sem Value:=fun r=>match r with | .tmp t=>pure (a.tmps.getD t undef) | .cell x t=>do loadVar t (<-asAddr (a.tmps.getD x undef))
 have At:results fn a.tmps=(do let vs <-fn.results.mapM g;pure (if h:vs.size=1 then vs[0] else .tuple vs)):=rfl;obtain⟨cs,h1,h2⟩:=yB (P:=P) hR hE g (fun t=>rfl) (fun x t=>rfl) fn.results.toList l h hn;rw[At,Array.mapM_eq_mapM_toList];simp only[Sem.run_bind,Sem.run_pure,Result.andThen_ok];rw[map_eq_pure_bind];simp only[Sem.run_bind,Sem.run_pure,Result.andThen_ok,h1];refine⟨_,rfl,?_⟩;by_cases e:cs.length=1
 ·rw[dif_pos (by simpa using e)]
  obtain⟨c,rfl⟩:=List.length_eq_one_iff.1 e;obtain⟨v,rfl⟩:=List.length_eq_one_iff.1 (h2.1.trans e);exact h2.2 0 v c rfl rfl
 ·rw[dif_neg (by simpa using e)]
  have:jr l=.tuple l.toArray:=by
   unfold jr;split
   ·exact absurd h2.1.symm (by simpa using e)
   ·rfl
  rw[this];exact h2.tuple
def LZ(D:Nat):Deferred:={ target:=.collected D,args:=#[] }
def Marks(J':dS)(w w':World)(ds ds':List Deferred):Prop:=
 ∃Ds:List Nat,ds'=Ds.map LZ++ds/\Ds.Nodup /\
  ∀D∈Ds,w.heap.size<=D/\w'.heap[D]?=some (.deferred (some []))/\(∀id L,J'.g id=some L->L.b≠D)/\(∀t L,J'.l t=some L->L.b≠D)
theorem Marks.none(J':dS)(w w':World)(ds:List Deferred):Marks J' w w' ds ds:=⟨[],rfl,.nil,fun D h=>by cases h⟩
theorem Good.apart{J1 J2:dS}{s1 s2:St}{w1 w2:World}(k:Good J1 s1 w1 J2 s2 w2){D:Nat}(hD:D<w1.heap.size)(hg:∀id L,J1.g id=some L->L.b≠D)(hl:∀t L,J1.l t=some L->L.b≠D) :
  w2.heap[D]?=w1.heap[D]?/\(∀id L,J2.g id=some L->L.b≠D)/\(∀t L,J2.l t=some L->L.b≠D):=by
 refine⟨k.frame D hD (fun id L h e=>absurd e (hg id L h)) hl,fun id L h e=>?_,fun t L h e=>?_⟩
 ·cases h1:J1.g id with
  |some L1=>
   have:=k.mono _ _ h1;rw[h]at this;obtain rfl:=Option.some.inj this;exact hg _ _ h1 e
  |none=>
   rcases k.fresh id L h h1 with q|⟨FG,L0,x,y,_⟩
   ·omega
   ·exact hg _ _ x (y.trans e)
 ·rcases k.cO t L h with q|⟨t0,L0,x,y⟩
  ·omega
  ·exact hl _ _ x (y.trans e)
theorem Marks.trans{J1 J2:dS}{s1 s2:St}{w1 w2:World}{ds ds1 ds2:List Deferred}(h:Marks J1 w w1 ds ds1)(uT:w.heap.size<=w1.heap.size)(k:Good J1 s1 w1 J2 s2 w2)(m:Marks J2 w1 w2 ds1 ds2):Marks J2 w w2 ds ds2:=by
 obtain⟨D1,rfl,n1,p1⟩:=h;obtain⟨D2,rfl,n2,p2⟩:=m;have fg:∀D∈D1,D<w1.heap.size:=fun D hD=>(Array.getElem?_eq_some_iff.1 (p1 D hD).2.1).1
 refine⟨D2++D1,by simp,?_,?_⟩
 ·rw[List.nodup_append]
  refine⟨n2,n1,fun a ha b hb e=>?_⟩;have:=(p2 a ha).1;have:=fg b hb;omega
 ·intro D hD
  rcases List.mem_append.1 hD with hD|hD
  ·obtain⟨q1,q2⟩:=p2 D hD
   exact⟨Nat.le_trans uT q1,q2⟩
  ·obtain⟨q1,q2,q3,q4⟩:=p1 D hD
   obtain⟨r1,r2,r3⟩:=k.apart (fg D hD) q3 q4;exact⟨q1,r1.trans q2,r2,r3⟩
def kN(J:dS)(s:St)(w:World)(a:Act)(s':St)(a':Act)(w':World):Prop:=
 ∃J',Good J s w J' s' w'/\ER J' s' a'/\a'.tmps.size=a.tmps.size/\Marks J' w w' a.defers a'.defers/\fP (s.h.next<=·) J.g J'.g
theorem Gq.toM{s':St}{w':World}{a a':Act}(h:Gq J s w a s' a' w'):kN J s w a s' a' w':=by
 obtain⟨J',q1,q2,q3,q4,q5⟩:=h;exact⟨J',q1,q2,q3,by rw[q4];exact .none _ _ _ _,q5⟩
theorem kN.trans{J1:dS}{s1 s2:St}{w1 w2:World}{a a1 a2:Act}(hG:Good J s w J1 s1 w1)(hs:a1.tmps.size=a.tmps.size)(hd:Marks J1 w w1 a.defers a1.defers)(hA:fP (s.h.next<=·) J.g J1.g)(h:kN J1 s1 w1 a1 s2 a2 w2):kN J s w a s2 a2 w2:=by
 obtain⟨J2,q1,q2,q3,q4,q5⟩:=h;exact⟨J2,hG.trans q1,q2,by rw[q3,hs],hd.trans hG.size q1 q4,hA.trans (q5.mono (fun k hk=>Nat.le_trans hG.next hk))⟩
theorem rA(w:World)(o:Obj){k:Nat}(hk:k<w.heap.size):(w.alloc o).heap[k]?=w.heap[k]?:=by
 show(w.heap.push _)[k]?=_;rw[Array.getElem?_push,if_neg om]
theorem Good.alloc(h:HR J s w)(o:Obj):Good J s w J s (w.alloc o) where
 hr:={ cV:=h.cV,dx:=(fun id L hL=>by rw[rA w o (h.lt hL)];exact h.dx id L hL),cN:=(fun id L b hL hm=>by rw[rA w o (h.lt hL)];exact h.cN id L b hL hm),dy:=h.dy,fv:=h.fv,fj:=(fun t L hL=>by rw[rA w o (h.Ls hL)];exact h.fj t L hL),fw:=h.fw,sep:=h.sep }
 mono:=fun _ _ h=>h
 next:=Nat.le_refl _
 low:=Nat.le_refl _
 size:=by simp
 os:=rfl
 tape:=rfl
 output:=rfl
 fresh:=(fun id L h1 h2=>by rw[h2]at h1;cases h1)
 cO:=fun t L h1=>.inr ⟨t,L,h1,rfl⟩
 frame:=fun b hb _ _=>rA w o hb
theorem Good.Wv{J':dS}{s':St}{w':World}(h:Good J s w J' s' w'){D:Nat}(hD:w.heap.size<=D)(hg:∀id L,J'.g id=some L->L.b≠D)(hl:∀t L,J'.l t=some L->L.b≠D)(o:Obj):Good J s w J' s' (w'.putObj D o) where
 hr:={ cV:=h.hr.cV,dx:=(fun id L hL=>by rw[World.putObj_heap_other (hg id L hL)];exact h.hr.dx id L hL),cN:=(fun id L b hL hm=>by rw[World.putObj_heap_other (hg id L hL)];exact h.hr.cN id L b hL hm),dy:=h.hr.dy,fv:=h.hr.fv,fj:=(fun t L hL=>by rw[World.putObj_heap_other (hl t L hL)];exact h.hr.fj t L hL),fw:=h.hr.fw,sep:=h.hr.sep }
 mono:=h.mono
 next:=h.next
 low:=h.low
 size:=by simp;exact h.size
 os:=h.os
 tape:=h.tape
 output:=h.output
 fresh:=h.fresh
 cO:=h.cO
 frame:=fun b hb q1 q2=>(World.putObj_heap_other om).trans (h.frame b hb q1 q2)
theorem oB{fn:Func}{tmps:Array Value}{R:Ending->World->Prop}(I:World->Prop)(At:∀w',I w'->∃v,(results fn tmps).run P w'=.ok v w'/\R (.returned v) w') :
  ∀(Ds:List Nat) (w:World),Ds.Nodup->(∀D∈Ds,w.heap[D]?=some (.deferred (some [])))->I w->(∀w' D,I w'->D∈Ds->I (w'.putObj D (.deferred none)))->LeavesInM Fence.wide 0 P fn tmps R (Ds.map LZ) .returning w
 | [],w,_,_,hI,_=>At w hI
 |D :: Ds,w,hn,hd,hI,hs=>by
  refine⟨by simp,.inl ⟨D,w.putObj D (.deferred none),rfl,run_takeDeferred (hd D (by simp)),?_⟩⟩;rw[List.nodup_cons]at hn;refine oB I At Ds _ hn.2 (fun E hE=>?_) (hs w D hI (by simp)) (fun w' E h1 h2=>hs w' E h1 (by simp[h2]));rw[World.putObj_heap_other (fun e=>hn.1 (by rw[<-e];exact hE))];exact hd E (by simp[hE])
def yC(P:Program)(run:FuncId->Nat->Code->St->Option (Exit×St)):Prop:=∀f nt c s x s',run f nt c s=some (x,s')->∀ro,(ro=none\/bE c=true)->∀J w a,HR J s w->ER J s a->nt<=a.tmps.size->c.wpIn (Wd ro) 0 P (fun e a' w'=>e=x/\kN J s w a s' a' w') a w
def BZ(P:Program)(loop:FuncId->Nat->Code->Nat->St->Option (Exit×St)):Prop:=∀f nt c kn s x s',loop f nt c kn s=some (x,s')->∀ro,(ro=none\/bE c=true)->∃n,∀J w a,HR J s w->ER J s a->nt<=a.tmps.size->∀Q:Exit->Act->World->Prop,(∀a' w',kN J s w a s' a' w'->Q x a' w')->Code.roundsIn (Wd ro) 0 P c Q n a w
theorem sI{next:Act->World->Prop}{Q:Exit->Act->World->Prop}{x:Exit}{a:Act}{w:World}(h:x≠.normal)(hq:Q x a w):Exit.then next Q x a w:=by
 cases x<;>first|exact absurd rfl h|exact hq
theorem ia{g : FuncId}{fn : Func}{args : Array Value}(hf : P.funcs[g]? = some fn)(hb : fn.body.isSome = true)(cK : (fn.name == "runtime.NumGoroutine") = false) : (callFunc g args).run P w = .ok (.enter g args) w := by
 unfold callFunc;have uX:fn.body≠none:=by cases h:fn.body<;>simp_all
 have Gn : fn.name ≠ "runtime.NumGoroutine" := by simpa using cK
 simp[hf,Gn,uX]
theorem DX{call : cJ}(fO : gT P call)(cK : ∀ (g : FuncId) (fn : Func), P.funcs[g]? = some fn → (fn.name == "runtime.NumGoroutine") = false){f : FuncId}{nt : Nat}{x : Operand}{ps : Array Tmp}{assign body : Code}{s' : St}{e : Exit}{a : Act}
  (h:pO P call f nt x ps assign body s=some (e,s')) (hR:HR J s w) (hE:ER J s a) (hn:nt<=a.tmps.size) :
  (Code.rangeFunc x ps assign body).wpIn (Wd none) 0 P (fun e' a' w'=>e'=e/\kN J s w a s' a' w') a w:=by
 unfold pO at h;cases To:(bE assign && bE body)with
 |false=>rw[To]at h;simp at h
 |true=>
 rw[To]at h;simp only[cond_true]at h;split at h
 ·rename_i g first captured RS
  cases hb:(Nat.blt g aX && wJ P g)with
  |false=>rw[hb]at h;simp at h
  |true=>
  rw[hb]at h;simp only[cond_true]at h;simp only[Bool.and_eq_true]at hb;obtain⟨aak,Ib⟩:=hb;have fg:g<aX:=Nat.le_of_ble_eq_true aak;obtain⟨Tp,De,hgb⟩:∃Tp,P.funcs[g]?=some Tp/\Tp.body.isSome=true:=by
   unfold wJ at Ib;split at Ib
   ·rename_i Tp De;exact⟨Tp,De,Ib⟩
   ·cases Ib
  split at h
  ·rename_i v h2 hr
   obtain⟨x',y',hf,RN,S8⟩:=((hE.eval RS).bg (fun a=>by simp)).Lp;refine wpIn_rangeFunc fun fn _=>?_
   obtain⟨rc,hrc⟩:∃rc:Loop,rc = { state:=.ready,pending:=none,fn:=fn,tmps:=a.tmps,params:=ps,assign:=assign,body:=body,defers:=w.heap.size }:=⟨_,rfl⟩;have g0:=Good.alloc hR (.deferred (some []));obtain⟨J1,g1,l1,gid,ad1⟩:=g0.hr.gW (b:=.loop .ready none f nt (s.env.bj dD) ps.toList assign body) (o:=.loop rc) (by simp) (fun g' wo=>⟨fn,a.tmps,ps,w.heap.size,by rw[hrc],rfl,hn,fun t u hu=>by
    obtain⟨q1,q2⟩:=cW.xR dD _ t u hu;exact⟨(hE t u q1).1,((hE t u q1).2.pV q2).mono wo⟩⟩)
   have uT:(w.alloc (.deferred (some []))).heap.size=w.heap.size+1:=by simp
   have Wb:fQ J1.g (first.toList++[.func (.yield s.h.next) #[] #[]]++captured.toList) (x'.toList++[.func (.yield (w.heap.size+1)) #[] #[]]++y'.toList):=by
    have hy:=VG.yield (g:=J1.g) s.h.next _ gid;simp only[uT]at hy;exact((RN.mono g1.mono).append (.cons hy (.nil _))).append (S8.mono g1.mono)
   have hd:=fO.1 g _ _ v h2 hr fg J1.g _ _ g1.hr.bare Wb;have Tq:=hd.S6 De hgb (cK g Tp De);refine⟨w.heap.size+1,[{ target:=.collected w.heap.size,args:=#[] }],(w.alloc (.deferred (some []))).alloc (.loop rc),{ target:=.fn (.func g) y',args:=x'++#[.func (.yield (w.heap.size+1)) #[] #[]] },(w.alloc (.deferred (some []))).alloc (.loop rc),g,(x'.toList++[Value.func (.yield (w.heap.size+1)) #[] #[]]++y'.toList).toArray,(w.alloc (.deferred (some []))).alloc (.loop rc),(by rw[hrc];exact run_enterLoop_outer fn a.tmps ps assign body),?_,fun _ _=>trivial,?_,(fun q=>by simp[Wd,Fence.wide]at q),?_⟩
   ·have Ly:a.eval x=.func (.func g) x' y':=hf
    simp only[resolve,rangeCall,Ly,Deferred.ofValue];simp[Act.eval]
   ·have e2:invoke (.fn (.func g) y') (x'++#[.func (.yield (w.heap.size+1)) #[] #[]])=callFunc g (x'++#[.func (.yield (w.heap.size+1)) #[] #[]]++y'):=rfl
    show(invoke (.fn (.func g) y') (x'++#[.func (.yield (w.heap.size+1)) #[] #[]])).run P _=_;rw[e2,ia De hgb (cK g Tp De)]
    congr 2
    apply Array.ext';simp
   ·refine CallsIn.mono (F:=Wd none) (n:=0-1) (callsIn_wide.2 Tq) ?_
    rintro e9 w3 ⟨c,rfl,G',hv,hG,hA⟩;have k:=Good.call g1.hr hG;have Ww:G' s.h.next=some ⟨(w.alloc (.deferred (some []))).heap.size,0,0,0⟩:=hG.mono _ _ gid;have fin:∀st od f1 O9 Ak Pa Wx Wy,h2.m.get s.h.next=some (.loop st od f1 O9 Ak Pa Wx Wy)->st≠.busy->uR { s with h:=h2.jk s.h.next .dead } od=some (e,s')->
      rangePost (Wd none) 0 P (w.heap.size+1) (fun e' a' w'=>e'=e/\kN J s w a s' a' w') { a with defers:=[{ target:=.collected w.heap.size,args:=#[] }]++a.defers } (.returned c) w3:=by
     intro st od f1 O9 Ak Pa Wx Wy hm uW hl;obtain⟨RH,L9,B3,D',ho,_⟩:=k.hr.cN _ _ _ Ww hm;have my:w3.heap[w.heap.size+1]?=some (.loop { state:=st,pending:=od,fn:=RH,tmps:=L9,params:=B3,assign:=Wx,body:=Wy,defers:=D' }):=by
      rw[<-uT];exact ho
     have k2:=k.hr.jk (b:=.dead) Ww hm rfl (o:=.loop { state:=.exhausted,pending:=od,fn:=RH,tmps:=L9,params:=B3,assign:=Wx,body:=Wy,defers:=D' }) (by simp) trivial;have kk:=g1.trans (k.trans k2);have AT:=g0.trans kk;obtain⟨r1,r2,r3⟩:=kk.apart (D:=w.heap.size) (by rw[uT];omega) (fun id L hL e=>by have:=hR.lt hL;omega) (fun t L hL e=>by have:=hR.Ls hL;omega);have hD:(w.alloc (.deferred (some []))).heap[w.heap.size]?=some (.deferred (some [])):=World.alloc_heap_new w _;have tE:kN J s w a { s with h:=h2.jk s.h.next .dead } { a with defers:=[{ target:=.collected w.heap.size,args:=#[] }]++a.defers } (w3.putObj (w.heap.size+1) (.loop { state:=.exhausted,pending:=od,fn:=RH,tmps:=L9,params:=B3,assign:=Wx,body:=Wy,defers:=D' })):=by
      rw[<-uT];refine⟨⟨G',J1.l⟩,AT,?_,rfl,⟨[w.heap.size],rfl,by simp,fun D Wz=>?_⟩,?_⟩
      ·intro t u hu
       refine⟨(hE t u hu).1,(hE t u hu).2.mono AT.mono (fun t L hL=>?_)⟩;show J1.l t=some L;rw[l1];exact hL
      ·simp only[List.mem_singleton]at Wz
       subst Wz;exact⟨Nat.le_refl _,r1.trans hD,r2,r3⟩
      ·exact ad1.trans (hA.mono (fun k hk=>by simp only[af.gW]at hk;omega))
     refine⟨od,_,run_endLoop my uW,?_⟩;unfold uR at hl;split at hl
     ·simp only[oi,pj]at hl;obtain⟨rfl,rfl⟩:=hl
      exact⟨rfl,tE⟩
     ·simp only[oi,pj]at hl;obtain⟨rfl,rfl⟩:=hl
      exact wpIn_ret ⟨rfl,tE⟩
     ·simp only[oi,pj]at hl;obtain⟨rfl,rfl⟩:=hl
      exact wpIn_exit ⟨rfl,tE⟩
     ·cases hl
    split at h
    ·rename_i hm;exact fin _ _ _ _ _ _ _ _ hm (by simp) h
    ·rename_i hm;exact fin _ _ _ _ _ _ _ _ hm (by simp) h
    ·cases h
  ·cases h
 ·cases h
theorem PR{H : Hint}{r : Rec}(hm : P.follows .mixedOrders = true)(cK : ∀ (g : FuncId) (fn : Func), P.funcs[g]? = some fn → (fn.name == "runtime.NumGoroutine") = false)(h1 : yC P r.run)(h2 : BZ P r.loop)(h3 : gT P r.call)(h4 : aY r.call) : yC P (og P H r) := by
 intro f nt c s x s' h ro Pc J w a hR hE hn;have Ma:kN J s w a s a w:=⟨J,.refl hR,hE,rfl,.none _ _ _ _,.refl _ _⟩;unfold og at h;split at h
 ·simp only[oi,pj]at h;obtain⟨rfl,rfl⟩:=h
  exact wpIn_skip ⟨rfl,Ma⟩
 ·simp only[oi,pj]at h;obtain⟨rfl,rfl⟩:=h
  exact wpIn_ret ⟨rfl,Ma⟩
 ·simp only[oi,pj]at h;obtain⟨rfl,rfl⟩:=h
  exact wpIn_exit ⟨rfl,Ma⟩
 ·rename_i ca cb
  have YV:ro=none\/bE ca=true:=Pc.imp id (fun q=>by simp only[bE,Bool.and_eq_true]at q;exact q.1);have YW:ro=none\/bE cb=true:=Pc.imp id (fun q=>by simp only[bE,Bool.and_eq_true]at q;exact q.2);split at h
  ·rename_i s1 ha
   refine wpIn_seq (wpIn_mono (h1 f nt ca s _ s1 ha ro YV J w a hR hE hn) ?_);rintro e a1 w1 ⟨rfl,J1,q1,q2,q3,q4,q5⟩;show cb.wpIn (Wd ro) 0 P _ a1 w1;refine wpIn_mono (h1 f nt cb s1 x s' h ro YW J1 w1 a1 q1.hr q2 (by rw[q3];exact hn)) ?_;rintro e a2 w2 ⟨rfl,hp⟩;exact⟨rfl,kN.trans q1 q3 q4 q5 hp⟩
  ·rename_i hx
   refine wpIn_seq (wpIn_mono (h1 f nt ca s x s' h ro YV J w a hR hE hn) ?_);rintro e a1 w1 ⟨rfl,hp⟩;exact sI (fun e=>by subst e;exact hx s' h) ⟨rfl,hp⟩
 ·rename_i y ca cb
  split at h
  ·rename_i t ht
   have:=((hE.eval ht).bg (fun a=>by simp)).bool;refine wpIn_cond this ?_;have:=h1 f nt _ s x s' h ro (Pc.imp id (fun q=>by simp only[bE,Bool.and_eq_true]at q;cases t<;>simp[q.1,q.2])) J w a hR hE hn;cases t<;>exact this
  ·cases h
 ·rename_i id cb
  have YW:ro=none\/bE cb=true:=Pc;split at h
  ·rename_i pQ s1 hb
   refine wpIn_block (wpIn_mono (h1 f nt cb s _ s1 hb ro YW J w a hR hE hn) ?_);rintro e a1 w1 ⟨rfl,hp⟩;cases mu:Nat.beq pQ id with
   |true=>
    rw[mu]at h;simp only[cond_true,oi,pj]at h;obtain⟨rfl,rfl⟩:=h;simp only[Exit.inBlock,if_pos (Nat.eq_of_beq_eq_true mu)];exact⟨trivial,hp⟩
   |false=>
    rw[mu]at h;simp only[cond_false,oi,pj]at h;obtain⟨rfl,rfl⟩:=h;simp only[Exit.inBlock,if_neg (Nat.ne_of_beq_eq_false mu)];exact⟨trivial,hp⟩
  ·rename_i hx
   refine wpIn_block (wpIn_mono (h1 f nt cb s x s' h ro YW J w a hR hE hn) ?_);rintro e a1 w1 ⟨rfl,hp⟩;cases e with
   |exit pQ=>exact absurd h (hx pQ s')
   |_=>exact⟨rfl,hp⟩
 ·rename_i cb
  obtain⟨n,hl⟩:=h2 f nt cb s.kn s x s' h ro Pc;exact wpIn_loop_rounds n (hl J w a hR hE hn _ (fun a' w' hp=>⟨rfl,hp⟩))
 ·rename_i id ops draw
  split at h
  ·rename_i s1 gm
   simp only[oi,pj]at h;obtain⟨rfl,rfl⟩:=h;cases draw with
   |true=>exact wpIn_mono (Gy hm h3 h4 gm hR hE hn) (fun e a w q=>⟨q.1,q.2.toM⟩)
   |false=>exact wpIn_mono (DJ h3 gm hR hE hn) (fun e a w q=>⟨q.1,q.2.toM⟩)
  ·cases h
 ·rcases Pc with rfl|q
  ·exact DX h3 cK h hR hE hn
  ·simp[bE]at q
 ·cases h
theorem Mb{H:Hint}{r:Rec}(h1:yC P r.run)(h2:BZ P r.loop):BZ P (pR H r):=by
 intro f nt c kn s x s' h ro Pc;unfold pR at h;split at h
 ·cases h
 ·rename_i s1 gm
  split at h
  ·rename_i s2 hb
   obtain⟨n,hl⟩:=h2 f nt c kn s2 x s' h ro Pc;refine⟨n+1,fun J w a hR hE hn Q hQ=>?_⟩;obtain⟨J1,g1,g2,g3⟩:=DW gm hR hE;refine wpIn_mono (h1 f nt c s1 _ s2 hb ro Pc J1 w a g1.hr g2 hn) ?_;rintro e a1 w1 ⟨rfl,J2,q1,q2,q3,q4,q5⟩;show Code.roundsIn (Wd ro) 0 P c Q n a1 w1;refine hl J2 w1 a1 q1.hr q2 (by rw[q3];exact hn) Q (fun a' w' hp=>hQ a' w' ?_);exact kN.trans g1 rfl (.none _ _ _ _) (by rw[g3];exact .refl _ _) (kN.trans q1 q3 q4 q5 hp)
  ·rename_i hx
   refine⟨1,fun J w a hR hE hn Q hQ=>?_⟩;obtain⟨J1,g1,g2,g3⟩:=DW gm hR hE;refine wpIn_mono (h1 f nt c s1 x s' h ro Pc J1 w a g1.hr g2 hn) ?_;rintro e a1 w1 ⟨rfl,hp⟩;exact sI (fun e=>by subst e;exact hx s' h) (hQ a1 w1 (kN.trans g1 rfl (.none _ _ _ _) (by rw[g3];exact .refl _ _) hp))
theorem qp:∀(l:List Value) (i:Nat) (acc:cW Value) (t:Nat),(fS l i acc).get t=if i<=t/\t<i+l.length then l[t-i]? else acc.get t
 | [],i,acc,t=>by simp[fS];intro h1 h2;omega
 |v :: l,i,acc,t=>by
  simp only[fS];rw[qp l (i+1) _ t,cW.bP];rcases Nat.lt_trichotomy t i with h|h|h
  ·rw[if_neg om,if_neg om,if_neg om]
  ·subst h;rw[if_neg om,if_pos rfl,if_pos (by simp)];simp
  ·by_cases h2:t<i+1+l.length
   ·rw[if_pos om,if_pos (by simp;omega)]
    rw[show t-i=(t-(i+1))+1 by omega];simp
   ·rw[if_neg om,if_neg om,if_neg (by simp;omega)]
theorem Good.bare{G:Nat->Option Loc}{J':dS}{s':St}{w':World}(h:Good ⟨G,fun _=>none⟩ s w J' s' w'):Good ⟨G,fun _=>none⟩ (iB s.h) w ⟨J'.g,fun _=>none⟩ (iB s'.h) w':=
 { hr:=h.hr.bare,mono:=h.mono,next:=h.next,low:=h.low,size:=h.size,os:=h.os,tape:=h.tape,output:=h.output,fresh:=h.fresh,cO:=(fun t L h=>by cases h),frame:=h.frame }
theorem Mc{F : bk}{r : Rec}(hF : dF P F)(cK : ∀ (g : FuncId) (fn : Func), P.funcs[g]? = some fn → (fn.name == "runtime.NumGoroutine") = false)(h1 : yC P r.run) : dF P (o9 P F r) := by
 intro g args h v h' hc fg G w aT hR hA;unfold o9 at hc;rw[show Nat.ble aX g=false from dU fg]at hc;simp only[cond_false]at hc;split at hc
 ·rename_i x hx
  simp only[oi]at hc;subst hc;exact hF g args h v h' hx fg G w aT hR hA
 ·split at hc
  ·rename_i fn Ae
   split at hc
   ·rename_i c hb
    left;refine⟨ia Ae (by rw[hb];rfl) (cK g fn Ae),(callsIn_wide (n:=0)).1 (callsIn_of_wp_marks Ae hb trivial ?_)⟩;have hR':HR ⟨G,fun _=>none⟩ { env:=fS args 0 .leaf,kn:=0,K:=.leaf,h:=h } w:=hR.env _;have LP:ER ⟨G,fun _=>none⟩ { env:=fS args 0 .leaf,kn:=0,K:=.leaf,h:=h } { tmps:=aT.toArray++Array.replicate (fn.ntmps-aT.toArray.size) undef,defers:=[] }:=by
     intro t u hu;simp only[qp,Nat.zero_le,true_and,Nat.zero_add,Nat.sub_zero]at hu;by_cases ht:t<args.length
     ·rw[if_pos ht]at hu
      have Gz:t<aT.length:=by rw[<-hA.1];exact ht
      refine⟨by simp;omega,?_⟩;have:(aT.toArray++Array.replicate (fn.ntmps-aT.toArray.size) undef).getD t undef=aT[t]:=by
       simp[Array.getD,Gz,Array.getElem_append,show t<aT.length+(fn.ntmps-aT.length) by omega]
      rw[this];exact .dc _ _ (hA.2 t u _ hu (by simp[Gz]))
     ·rw[if_neg ht]at hu;simp[cW.get]at hu
    have key:∀x s',r.run g fn.ntmps c { env:=fS args 0 .leaf,kn:=0,K:=.leaf,h:=h }=some (x,s')->wm P fn s'=some (v,h')->(x=.normal\/x=.ret)->
      c.wpIn Fence.wide 0 P (bodyPostM Fence.wide 0 P fn (fun e w'=>∃c,e=.returned c/\∃G',VG G' v c/\Good ⟨G,fun _=>none⟩ (iB h) w ⟨G',fun _=>none⟩ (iB h') w'/\fP (h.next<=·) G G')) { tmps:=aT.toArray++Array.replicate (fn.ntmps-aT.toArray.size) undef,defers:=[] } w:=by
     intro x s' nD fI hx;have Md:=h1 g fn.ntmps c _ x s' nD none (.inl rfl) _ w _ hR' LP (by simp;omega);refine wpIn_mono (F:=Fence.wide) Md ?_;rintro e a' w' ⟨rfl,J',q1,q2,q3,⟨Ds,q4,q6,q7⟩,q5⟩;simp only[List.append_nil]at q4;unfold wm at fI;split at fI
     ·rename_i l hl
      cases hn:l.all dD with
      |false=>rw[hn]at fI;simp at fI
      |true=>
       rw[hn]at fI;simp only[cond_true,oi,pj]at fI;obtain⟨rfl,rfl⟩:=fI;have tE:LeavesInM Fence.wide 0 P fn a'.tmps (fun e w'=>∃c,e=.returned c/\∃G',VG G' (jr l) c/\Good ⟨G,fun _=>none⟩ (iB h) w ⟨G',fun _=>none⟩ (iB s'.h) w'/\fP (h.next<=·) G G') a'.defers .returning w':=by
        rw[q4];refine oB (fun Ts=>Good ⟨G,fun _=>none⟩ { env:=fS args 0 .leaf,kn:=0,K:=.leaf,h:=h } w J' s' Ts) (fun Ts hG=>?_) Ds w' q6 (fun D hD=>(q7 D hD).2.1) q1 (fun Ts D hG hD=>hG.Wv (q7 D hD).1 (q7 D hD).2.2.1 (q7 D hD).2.2.2 _);obtain⟨cv,r1,r2⟩:=vM hG.hr q2 hl hn;exact⟨cv,r1,cv,rfl,J'.g,r2,hG.bare,q5⟩
       rcases hx with rfl|rfl<;>exact tE
     ·cases fI
    split at hc
    ·rename_i s' nD;exact key _ s' nD hc (.inl rfl)
    ·rename_i s' nD;exact key _ s' nD hc (.inr rfl)
    ·cases hc
   ·cases hc
  ·cases hc
theorem yD{g:Nat->Option Loc}:∀(ps:List Tmp) (vs cs:List Value) (env:cW Value) (tmps:Array Value),TR g env tmps->fQ g vs cs->(∀t∈ps,t<tmps.size)->
  TR g (ri env ps vs) ((ps.zip cs).foldl (fun tmps (t,a)=>tmps.setIfInBounds t a) tmps)/\((ps.zip cs).foldl (fun tmps (t,a)=>tmps.setIfInBounds t a) tmps).size=tmps.size
 | [],vs,cs,env,tmps,h,_,_=>by simp[ri,h]
 |p :: ps,[],cs,env,tmps,h,hv,_=>by
  obtain rfl:=hv.iX;simp[ri,h]
 |p :: ps,v :: vs,cs,env,tmps,h,hv,hp=>by
  obtain⟨c,lr,rfl,h1,h2⟩:=hv.head;have GA:=hp p (by simp);have step:TR g (env.set p v) (tmps.setIfInBounds p c):=by
   intro t u hu;rw[cW.bP]at hu;by_cases e:p=t
   ·subst e
    simp only[if_true,oi]at hu;subst hu;refine⟨by simpa using GA,?_⟩;simp[Array.getD,GA];exact h1
   ·simp only[e,if_false]at hu
    obtain⟨q1,q2⟩:=h t u hu;refine⟨by simpa using q1,?_⟩;simp only[Array.getD,Array.size_setIfInBounds,q1,dif_pos]at q2 ⊢;simp only[Array.getInternal_eq_getElem]at q2 ⊢;rw[Array.getElem_setIfInBounds];simp only[e,if_false];exact q2
  obtain⟨r1,r2⟩:=yD ps vs lr (env.set p v) (tmps.setIfInBounds p c) step h2 (fun t ht=>by simpa using hp t (by simp[ht]));simp only[ri,List.zip_cons_cons,List.foldl_cons];exact⟨r1,by rw[r2];simp⟩
theorem TR.er{G:Nat->Option Loc}{env:cW Value}{tmps:Array Value}{h:af}(ht:TR G env tmps)(ds:List Deferred):ER ⟨G,fun _=>none⟩ { env:=env,kn:=0,K:=.leaf,h:=h } { tmps:=tmps,defers:=ds }:=
 fun t v hv=>⟨(ht t v hv).1,.dc _ _ (ht t v hv).2⟩
theorem B4{G:Nat->Option Loc}{h h':af}{y:Nat}{L:Loc}{jump:Option Code}{v:Value}(hR:HR ⟨G,fun _=>none⟩ (iB h) w)(hL:G y=some L)(hh:kf y h jump=some (v,h')) :
  ∃c w',(Instr.endRound L.b jump).run P w=.ok c w'/\VG G v c/\Good ⟨G,fun _=>none⟩ (iB h) w ⟨G,fun _=>none⟩ (iB h') w':=by
 unfold kf at hh;split at hh
 ·rename_i st od f nt env ps assign body hm
  simp only[oi,pj]at hh;obtain⟨rfl,rfl⟩:=hh;obtain⟨fn,tmps,params,D,ho,h1,h2,h3⟩:=hR.cN _ _ _ hL hm;refine⟨_,_,run_endRound jump ho,.flat _ rfl,?_⟩;have:=hR.jk (b:=.loop (match jump with|none=>.ready|some _=>.done) jump f nt env ps assign body) hL hm rfl (o:=.loop { state:=if jump.isNone then .ready else .done,pending:=jump,fn:=fn,tmps:=tmps,params:=params,assign:=assign,body:=body,defers:=D }) (by simp)
   ⟨fn,tmps,params,D,by cases jump<;>rfl,h1,h2,h3⟩
  exact this
 ·cases hh
theorem JK{run:FuncId->Nat->Code->St->Option (Exit×St)}(h1:yC P run){y:Nat}{args:List Value}{h h':af}{v:Value}(hh:pP run y args h=some (v,h')){G:Nat->Option Loc}{aT:List Value}{L:Loc}(hR:HR ⟨G,fun _=>none⟩ (iB h) w)(hA:fQ G args aT)(hL:G y=some L) :
  RM P L.b aT.toArray w (fun c w'=>∃G',VG G' v c/\Good ⟨G,fun _=>none⟩ (iB h) w ⟨G',fun _=>none⟩ (iB h') w'/\fP (h.next<=·) G G'):=by
 unfold pP at hh;split at hh
 ·rename_i od f nt env ps assign body hm
  cases hb:(Nat.beq args.length ps.length && ps.all (fun t=>Nat.blt t nt) && bE assign && bE body)with
  |false=>rw[hb]at hh;simp at hh
  |true=>
  rw[hb]at hh;simp only[cond_true]at hh;simp only[Bool.and_eq_true,List.all_eq_true]at hb;obtain⟨⟨⟨b1,b2⟩,b3⟩,b4⟩:=hb;have hlen:=Nat.eq_of_beq_eq_true b1;obtain⟨fn,tmps,params,D,ho,c1,c2,c3⟩:=hR.cN _ _ _ hL hm;have uT:aT.toArray.size=params.size:=by
   have:=hA.1;simp only[List.size_toArray,<-Array.length_toList,c1];omega
  have uW:=yD ps args aT env tmps c3 hA (fun t ht=>Nat.lt_of_lt_of_le (Nat.le_of_ble_eq_true (b2 t ht)) c2);have YX:(params.zip aT.toArray).foldl (fun tmps (t,a)=>tmps.setIfInBounds t a) tmps=(ps.zip aT).foldl (fun tmps (t,a)=>tmps.setIfInBounds t a) tmps:=by
   rw[<-Array.foldl_toList];simp[c1]
  split at hh
  ·rename_i s1 B5
   split at hh
   ·rename_i tm f1 O9 Ak Pa kV tn hm1
    refine⟨fn,_,assign,body,run_yield ho uT,roundIn_of_wpIn trivial ?_⟩;rw[YX];have w1:=h1 f nt assign _ _ s1 B5 (some L.b) (.inr b3) ⟨G,fun _=>none⟩ w { tmps:=(ps.zip aT).foldl (fun tmps (t,a)=>tmps.setIfInBounds t a) tmps,defers:=[] } (hR.env _) (uW.1.er []) (by rw[uW.2];exact c2);refine wpIn_mono (F:=Fence.wide.inRound L.b) w1 ?_;rintro e a1 w1' ⟨rfl,J1,q1,q2,q3,q4,q5⟩;have K7:J1.g y=some L:=q1.mono _ _ hL;obtain⟨fn1,Me,params1,D1,ho1,d1,d2,d3⟩:=q1.hr.cN _ _ _ K7 hm1;refine⟨_,run_beginRound ho1 rfl,?_⟩;have k2:=q1.hr.jk (b:=.loop .busy tm f1 O9 Ak Pa kV tn) K7 hm1 rfl (o:=.loop { state:=.busy,pending:=tm,fn:=fn1,tmps:=Me,params:=params1,assign:=kV,body:=tn,defers:=D1 }) (by simp) ⟨fn1,Me,params1,D1,rfl,d1,d2,d3⟩;have aal:=q1.trans k2;have fin:∀x s2 jump,run f nt body { s1 with h:=s1.h.jk y (.loop .busy tm f1 O9 Ak Pa kV tn) }=some (x,s2)->kf y s2.h jump=some (v,h')->
      (∀(R:Ending->World->Prop) (a2:Act) (w2:World),(∃v w',(Instr.endRound L.b jump).run P w2=.ok v w'/\R (.returned v) w')->roundPost P L.b R x a2 w2)->
      body.wpIn (Fence.wide.inRound L.b) 0 P (roundPost P L.b (fun e w'=>∃c,e=.returned c/\∃G',VG G' v c/\Good ⟨G,fun _=>none⟩ (iB h) w ⟨G',fun _=>none⟩ (iB h') w'/\fP (h.next<=·) G G')) a1 (w1'.putObj L.b (.loop { state:=.busy,pending:=tm,fn:=fn1,tmps:=Me,params:=params1,assign:=kV,body:=tn,defers:=D1 })):=by
     intro x s2 jump JL fI tE;have w2:=h1 f nt body _ x s2 JL (some L.b) (.inr b4) J1 _ a1 k2.hr q2 (by rw[q3];show nt<=((ps.zip aT).foldl (fun tmps (t,a)=>tmps.setIfInBounds t a) tmps).size;rw[uW.2];exact c2);refine wpIn_mono (F:=Fence.wide.inRound L.b) w2 ?_;rintro e a2 w2' ⟨rfl,J2,r1,r2,r3,r4,r5⟩;have Ic:J2.g y=some L:=r1.mono _ _ K7;have AT:=(aal.trans r1).bare;obtain⟨cv,w3,e1,e2,e3⟩:=B4 (P:=P) r1.hr.bare Ic fI;refine tE _ a2 w2' ⟨cv,w3,e1,cv,rfl,J2.g,e2,AT.trans e3,?_⟩;have YY:h.next<=s1.h.next:=q1.next;exact q5.trans (r5.mono (fun k hk=>by simp only[af.jk]at hk;exact Nat.le_trans YY hk))
    split at hh
    ·rename_i s2 JL;exact fin _ s2 none JL hh (fun R a w q=>q)
    ·rename_i s2 JL;exact fin _ s2 (some .ret) JL hh (fun R a w q=>q)
    ·rename_i id s2 JL;exact fin _ s2 (some (.exit id)) JL hh (fun R a w q=>q)
    ·cases hh
   ·cases hh
  ·cases hh
 ·cases hh
theorem tF{H : Hint}{F : bk}(hm : P.follows .mixedOrders = true)(hF : dF P F)(RT : aY F)(cK : ∀ (g : FuncId) (fn : Func), P.funcs[g]? = some fn → (fn.name == "runtime.NumGoroutine") = false) :
  ∀n,yC P (cH P H F n).run/\BZ P (cH P H F n).loop/\gT P (cH P H F n).call
 |0=>⟨fun f nt c s x s' h=>(by cases h),fun f nt c kn s x s' h=>(by cases h),fun g args h v h' hc=>(by cases hc),fun g args h v h' hc=>(by cases hc)⟩
 |n+1=>by
  obtain⟨h1,h2,h3⟩:=tF hm hF RT cK n;refine⟨PR hm cK h1 h2 h3 (hO RT n).2.2,Mb h1 h2,Mc hF cK h1,?_⟩;intro y args h v h' hc G w aT L hR hA hL;have FH:o9 P F (cH P H F n) (aX+y) args h=some (v,h'):=hc;unfold o9 at FH;rw[show Nat.ble aX (aX+y)=true from bq (Nat.le_add_right _ _)]at FH;simp only[cond_true,Nat.add_sub_cancel_left]at FH;exact JK h1 FH hR hA hL
theorem GB:dF P tp:=fun g args h v h' hc=>(by cases hc)
theorem B6:aY tp:=fun g args h v h' hc=>(by cases hc)
