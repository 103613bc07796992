import Derived.Test.YtdpbiegfljmhmaaSimB
import Derived.LoopNIn
import Derived.OrdersIn
import Derived.RangeFuncLeaves
import Derived.Laws.Sem
set_option linter.unusedSimpArgs false
set_option linter.unusedVariables false
namespace Go.cL
variable{P:Program}{w:World}{J:dH}{s:St}
def iw(h:af):St:={ env:=.leaf,kn:=0,K:=.leaf,h:=h }
def s8(P:Program)(g:FuncId)(args:Array Value)(w:World)(R:Value->World->Prop):Prop:=
 ((callFunc g args).run P w=.ok (.enter g args) w/\Calls P g args w (fun e w'=>∃c,e=.returned c/\R c w'))\/∃c w',(callFunc g args).run P w=.ok (.value c) w'/\R c w'
theorem s8.mono{g:FuncId}{args:Array Value}{R R':Value->World->Prop}(h:s8 P g args w R)(hr:∀c w',R c w'->R' c w'):s8 P g args w R':=by
 rcases h with ⟨h1,h2⟩|⟨c,w',h1,h2⟩
 ·exact .inl ⟨h1,h2.mono fun e w' ⟨c,h3,h4⟩=>⟨c,h3,hr _ _ h4⟩⟩
 ·exact .inr ⟨c,w',h1,hr _ _ h2⟩
theorem s8.TA{g : FuncId}{fn : Func}{args : Array Value}{R : Value → World → Prop}(h : s8 P g args w R)(hf : P.funcs[g]? = some fn)(hb : fn.body.isSome = true)(cG : (fn.name == "runtime.NumGoroutine") = false) :
  Calls P g args w (fun e w'=>∃c,e=.returned c/\R c w'):=by
 rcases h with ⟨_,h⟩|⟨c,w',h,_⟩
 ·exact h
 ·exfalso
  have vl:fn.body≠none:=by cases h:fn.body<;>simp_all
  have Gz : fn.name ≠ "runtime.NumGoroutine" := by simpa using cG
  unfold callFunc at h;simp[hf,Gz,vl]at h
def Wd(ro:Option Nat):Fence:={ Fence.wide with round:=ro }
def Sc(P:Program)(l:Nat)(args:Array Value)(w:World)(R:Value->World->Prop):Prop:=
 ∃fn tmps assign body,(Instr.yield l args).run P w=.ok (.round l fn tmps assign body) w/\RoundIn Fence.wide 0 P l fn tmps assign body w (fun e w'=>∃c,e=.returned c/\R c w')
def dv(P:Program)(call:cF):Prop:=∀g args h v h',call g args h=some (v,h')->g<aU->∀(G:Nat->Option Loc) (w:World) (aP:List Value),HR ⟨G,fun _=>none⟩ (iw h) w->fG G args aP->
 s8 P g aP.toArray w (fun c w'=>∃G',VG G' v c/\Good ⟨G,fun _=>none⟩ (iw h) w ⟨G',fun _=>none⟩ (iw h') w'/\fD (h.next<=·) G G')
def PZ(P:Program)(call:cF):Prop:=∀y args h v h',call (aU+y) args h=some (v,h')->∀(G:Nat->Option Loc) (w:World) (aP:List Value) (L:Loc),HR ⟨G,fun _=>none⟩ (iw h) w->fG G args aP->G y=some L->
 Sc P L.b aP.toArray w (fun c w'=>∃G',VG G' v c/\Good ⟨G,fun _=>none⟩ (iw h) w ⟨G',fun _=>none⟩ (iw h') w'/\fD (h.next<=·) G G')
def gQ(P:Program)(call:cF):Prop:=dv P call/\PZ P call
theorem HR.bare(h:HR J s w):HR ⟨J.g,fun _=>none⟩ (iw s.h) w:=
 { cS:=h.cS,di:=h.di,cH:=h.cH,dj:=h.dj,dX:=(fun t L h=>by cases h),dP:=(fun t L h=>by cases h),dZ:=(fun t t' L L' h=>by cases h),sep:=(fun id t L L' _ h=>by cases h) }
theorem Good.call{G':Nat->Option Loc}{h':af}{w':World}(h:HR J s w)(k:Good ⟨J.g,fun _=>none⟩ (iw s.h) w ⟨G',fun _=>none⟩ (iw h') w'):Good J s w ⟨G',J.l⟩ { s with h:=h' } w':=by
 have hold:∀t L,J.l t=some L->w'.heap[L.b]?=w.heap[L.b]?:=fun t L hL=>
  k.frame L.b (h.Mb hL) (fun id L1 h1 e=>absurd e (h.sep _ _ _ _ h1 hL)) (fun t L h=>by cases h)
 refine { hr:=?_,mono:=k.mono,next:=k.next,low:=k.low,size:=k.size,os:=k.os,tape:=k.tape,output:=k.output,fresh:=k.fresh,cI:=fun t L hL=>.inr ⟨t,L,hL,rfl⟩,frame:=fun b hb hg _=>k.frame b hb hg (fun t L h=>by cases h) };refine { cS:=k.hr.cS,di:=k.hr.di,cH:=k.hr.cH,dj:=k.hr.dj,dX:=h.dX,dP:=?_,dZ:=h.dZ,sep:=?_ }
 ·intro t L hL
  obtain⟨cs,e,h1,h2⟩:=h.dP _ _ hL;exact⟨cs,e,by rw[hold _ _ hL];exact h1,fun c hc=>(h2 c hc).mono k.mono⟩
 ·intro id t L L' h1 h2 hb
  cases h0:J.g id with
  |some L0=>
   have:G' id=some L0:=k.mono id L0 h0;have sK:G' id=some L:=h1;rw[sK]at this;obtain rfl:=Option.some.inj this;exact h.sep _ _ _ _ h0 h2 hb
  |none=>
   rcases k.fresh id L h1 h0 with q|⟨FT,L0,x,y,_⟩
   ·have:=h.Mb h2;omega
   ·exact h.sep _ _ _ _ x h2 (y.trans hb)
def BG(P:Program)(J:dH)(s:St)(w:World)(a:Act)(o:Oper)(v:Value)(s':St)(R Rl:Nat->Prop):Prop:=
 ∀(K:Act->World->Prop) (Q:Exit->Act->World->Prop),(∀c w' J',Good J s w J' s' w'->(∀t L,J.l t=some L->J'.l t=some L)->VR J' v c->s'.env=s.env->fD R J.g J'.g->fD Rl J.l J'.l->K (a.put o.dst c) w')->∀ro,o.wpIn (Wd ro) 0 P a w K Q
theorem D3.TB{a:Act}{o:Oper}{v:Value}{s':St}{R Rl:Nat->Prop}(Zj:∀c,o.op≠.defer c)(h:D3 P J s w (execOp a.eval o) v s' R Rl):BG P J s w a o v s' R Rl:=by
 obtain⟨n,c,w',J',h1,h2,h3,h4,h5,h6,h7,h8⟩:=h;intro K Q hK ro;refine⟨fun _ _=>trivial,?_⟩;rw[Oper.semAt_eq _ _ _ Zj,h1];rcases h2 with rfl|⟨rfl,rfl⟩
 ·exact hK c w' J' h3 h4 h5 h6 h7 h8
 ·exact hK undef w' J' h3 h4 h5 h6 h7 h8
theorem vm{mk:lr}{loc:Bool}{op:Op}{r:Value×St}(h:gp P mk loc op s=some r):∀c,op≠.defer c:=by
 intro c e;subst e;simp[gp]at h
theorem GA{a:Act}{c:Call}{g:FuncId}{args:List Value}{o:Oper}(hc:o.op=.call c)(hE:oU J s a o.op.operands.toList)(h:kR s c=some (g,args)) :
  ∃aP:List Value,fG J.g args aP/\((g<aU/\execOp a.eval o=callFunc g aP.toArray)\/∃y L,g=aU+y/\J.g y=some L/\execOp a.eval o=Instr.yield L.b aP.toArray):=by
 unfold kR at h;split at h
 ·rename_i x hx
  split at h
  ·rename_i f first captured l h1 h2
   cases nE:(l.all dn && Nat.blt f aU)with
   |false=>rw[nE]at h;simp at h
   |true=>
    rw[nE]at h;simp only[cond_true,oi,pj]at h;obtain⟨rfl,rfl⟩:=h;simp only[Bool.and_eq_true]at nE;obtain⟨hb,dV⟩:=nE;have zU:o.op.operands.toList=x :: c.args.toList:=by simp[hc,Op.operands,Call.operands,hx]
    rw[zU]at hE;obtain⟨x',y',hf,Sd,TC⟩:=((hE x _ (by simp) h1).aZ (fun a=>by simp)).L9;have hl:=v7 (jL c.args.toList (hE.sub (fun y hy=>List.mem_cons_of_mem _ hy)) _ h2) hb;refine⟨x'.toList++c.args.toList.map a.eval++y'.toList,(Sd.append hl).append TC,.inl ⟨Nat.le_of_ble_eq_true dV,?_⟩⟩;have e1:execOp a.eval o=(do let d <-resolve a.eval c o.type;invoke d.target d.args):=by unfold execOp;rw[hc]
    rw[e1];simp only[resolve,hx,hf,Deferred.ofValue];show invoke (.fn (.func f) y') (x'++c.args.map a.eval)=_;have e2:invoke (.fn (.func f) y') (x'++c.args.map a.eval)=callFunc f (x'++c.args.map a.eval++y'):=rfl;rw[e2]
    congr 1
    apply Array.ext';simp
  ·rename_i y u1 u2 l h1 h2
   cases hb:l.all dn with
   |false=>rw[hb]at h;simp at h
   |true=>
    rw[hb]at h;simp only[cond_true,oi,pj]at h;obtain⟨rfl,rfl⟩:=h;have zU:o.op.operands.toList=x :: c.args.toList:=by simp[hc,Op.operands,Call.operands,hx]
    rw[zU]at hE;obtain⟨L,hL,hf,_,_⟩:=((hE x _ (by simp) h1).aZ (fun a=>by simp)).Tk;have hl:=v7 (jL c.args.toList (hE.sub (fun y hy=>List.mem_cons_of_mem _ hy)) _ h2) hb;refine⟨c.args.toList.map a.eval,hl,.inr ⟨y,L,rfl,hL,?_⟩⟩;have e1:execOp a.eval o=(do let d <-resolve a.eval c o.type;invoke d.target d.args):=by unfold execOp;rw[hc]
    rw[e1];simp only[resolve,hx,hf,Deferred.ofValue];show invoke (.fn (.yield L.b) #[]) (#[]++c.args.map a.eval)=_;have e2:invoke (.fn (.yield L.b) #[]) (#[]++c.args.map a.eval)=Instr.yield L.b (#[]++c.args.map a.eval):=rfl;rw[e2]
    congr 1
    apply Array.ext';simp
  ·cases h
 ·cases h
theorem vo{call:cF}(fy:gQ P call){a:Act}{c:Call}{o:Oper}{v:Value}{s':St}(hR:HR J s w)(hc:o.op=.call c)(hE:oU J s a o.op.operands.toList)(h:jF call c s=some (v,s')):BG P J s w a o v s' (s.h.next<=·) (fun _=>False):=by
 unfold jF at h;split at h
 ·rename_i g args hg
  split at h
  ·rename_i v' h' hr
   simp only[oi,pj]at h;obtain⟨rfl,rfl⟩:=h;obtain⟨aP,h1,h2⟩:=GA hc hE hg;intro K Q hK ro;refine⟨fun _ _=>trivial,?_⟩;rw[Oper.semAt_eq _ _ _ (by rw[hc];intro c' e;cases e)];rcases h2 with ⟨dV,h2⟩|⟨y,L,rfl,hL,h2⟩
   ·have hd:=fy.1 g args s.h v' h' hr dV J.g w aP hR.bare h1
    rw[h2];rcases hd with ⟨e1,e2⟩|⟨c,w',e1,G',e2,e3,e4⟩
    ·rw[e1]
     simp only[Oper.uponIn_enter];refine⟨(fun q=>by simp[Wd,Fence.wide]at q),CallsIn.mono (F:=Wd ro) (n:=0-1) (R:=fun e w'=>∃c,e=.returned c/\∃G',VG G' v' c/\Good ⟨J.g,fun _=>none⟩ (iw s.h) w ⟨G',fun _=>none⟩ (iw h') w'/\fD (s.h.next<=·) J.g G') ?_ ?_⟩
     ·show CallsIn Fence.wide 0 P g aP.toArray w _
      exact callsIn_wide.2 e2
     ·rintro e w' ⟨c,rfl,G',hv,hG,hA⟩
      exact hK c w' ⟨G',J.l⟩ (Good.call hR hG) (fun _ _ h=>h) (.cX _ _ hv) rfl hA (.refl _ _)
    ·rw[e1]
     simp only[Oper.uponIn_value];exact hK c w' ⟨G',J.l⟩ (Good.call hR e3) (fun _ _ h=>h) (.cX _ _ e2) rfl e4 (.refl _ _)
   ·obtain⟨fn,tmps,assign,body,e1,e2⟩:=fy.2 y args s.h v' h' hr J.g w aP L hR.bare h1 hL
    rw[h2,e1];simp only[Oper.uponIn_round];refine⟨(fun q=>by simp[Wd,Fence.wide]at q),RoundIn.mono (F:=Wd ro) (n:=0-1) (R:=fun e w'=>∃c,e=.returned c/\∃G',VG G' v' c/\Good ⟨J.g,fun _=>none⟩ (iw s.h) w ⟨G',fun _=>none⟩ (iw h') w'/\fD (s.h.next<=·) J.g G') ?_ ?_⟩
    ·show RoundIn Fence.wide 0 P L.b fn tmps assign body w _
     exact e2
    ·rintro e w' ⟨c,rfl,G',hv,hG,hA⟩
     exact hK c w' ⟨G',J.l⟩ (Good.call hR hG) (fun _ _ h=>h) (.cX _ _ hv) rfl hA (.refl _ _)
  ·cases h
 ·cases h
theorem pM{op:Op}{c:Call}(h:dN op=some c):op=.call c:=by
 unfold dN at h;split at h
 ·split at h
  ·simp only[oi]at h;rw[h]
  ·cases h
 ·cases h
theorem TD{loc:Bool}{es:Nat}{cells:List Value}{r:Value×St}(h:s.new loc es cells=some r):cells.all aD=true:=by
 unfold St.new at h;cases hc:cells.all aD with
 |true=>rfl
 |false=>rw[hc]at h;simp at h
theorem Mw{id tag:Nat}{loc:Bool}{es:Nat}{cells:List Value}{r:Value×St}(h:s.newAt id tag loc es cells=some r):cells.all aD=true:=by
 unfold St.newAt at h;cases hc:cells.all aD with
 |true=>rfl
 |false=>rw[hc]at h;simp at h
theorem AN{H:Hint}{call:cF}(fy:gQ P call){f:FuncId}{a:Act}{o:Oper}{v:Value}{s':St}(hR:HR J s w)(hE:oU J s a o.op.operands.toList)(h:rY P H call f o s=some (v,s')):BG P J s w a o v s' (s.h.next<=·) (fun _=>True):=by
 unfold rY at h;split at h
 ·rename_i c hc
  intro K Q hK ro;exact vo fy hR (pM hc) hE h K Q (fun c w' J' a1 a2 a3 a4 a5 a6=>hK c w' J' a1 a2 a3 a4 a5 (a6.mono (fun _ _=>trivial))) ro
 ·intro K Q hK ro
  refine(Ik hR hR.Ws hE TD h).TB (vm h) K Q (ro:=ro) (fun c w' J' a1 a2 a3 a4 a5 a6=>hK c w' J' a1 a2 a3 a4 (a5.mono ?_) (a6.mono (fun _ _=>trivial)));rintro k (⟨_,es,cells,s9,h9⟩|⟨_,h9⟩)
  ·unfold St.new at h9
   simp only[Bool.cond_eq_ite]at h9;split at h9
   ·simp at h9;rw[h9.1];exact Nat.le_refl _
   ·cases h9
  ·exact h9
theorem Good.env {J' : dH} {s' : St} {w' : World} (h : Good J s w J' s' w') (e : cQ Value) : Good J s w J' { s' with env := e } w' :=
  { hr := { cS := h.hr.cS, di := h.hr.di, cH := h.hr.cH, dj := h.hr.dj, dX := h.hr.dX, dP := h.hr.dP, dZ := h.hr.dZ, sep := h.hr.sep }
    mono := h.mono, next := h.next, low := h.low, size := h.size, os := h.os, tape := h.tape, output := h.output, fresh := h.fresh, cI := h.cI, frame := h.frame }
theorem HR.env(h:HR J s w)(e:cQ Value):HR J { s with env:=e } w:=
 { cS:=h.cS,di:=h.di,cH:=h.cH,dj:=h.dj,dX:=h.dX,dP:=h.dP,dZ:=h.dZ,sep:=h.sep }
theorem dW(a:Act)(dst:Option Tmp)(v:Value):(a.put dst v).tmps.size=a.tmps.size:=by
 cases dst<;>simp[Act.put]
theorem put_defers(a:Act)(dst:Option Tmp)(v:Value):(a.put dst v).defers=a.defers:=by
 cases dst<;>simp[Act.put]
theorem mX{nt:Nat}{dst:Option Tmp}{v:Value}{s':St}(h:rX nt s dst v=some s'):(dst=none/\s'=s)\/∃d,dst=some d/\d<nt/\s' = { s with env:=s.env.set d v }:=by
 unfold rX at h;split at h
 ·simp only[oi]at h;exact .inl ⟨rfl,h.symm⟩
 ·rename_i d
  cases hb:Nat.blt d nt with
  |false=>rw[hb]at h;simp at h
  |true=>rw[hb]at h;simp only[cond_true,oi]at h;exact .inr ⟨d,rfl,Nat.le_of_ble_eq_true hb,h.symm⟩
theorem v8{nt:Nat}{dst:Option Tmp}{v c:Value}{s':St}{a:Act}(h:rX nt s dst v=some s')(hE:ER J s a)(hn:nt<=a.tmps.size)(hv:VR J v c):ER J s' (a.put dst c):=by
 rcases mX h with ⟨rfl,rfl⟩|⟨d,rfl,hd,rfl⟩
 ·exact hE
 ·intro t u hu
  simp only[cQ.bO]at hu;rw[dW];by_cases e:d=t
  ·subst e
   simp only[if_true,oi]at hu;subst hu;have dV:d<a.tmps.size:=Nat.lt_of_lt_of_le hd hn;refine⟨dV,?_⟩;have:(a.put (some d) c).tmps.getD d undef=c:=by simp[Act.put,dV]
   rw[this];exact hv
  ·simp only[e,if_false]at hu
   obtain⟨h1,h2⟩:=hE t u hu;refine⟨h1,?_⟩;have:(a.put (some d) c).tmps.getD t undef=a.tmps.getD t undef:=by simp[Act.put,Array.getElem?_setIfInBounds_ne e]
   rw[this];exact h2
theorem cK{nt:Nat}{dst:Option Tmp}{v:Value}{s':St}(h:rX nt s dst v=some s'):s' = { s with env:=s'.env }:=by
 rcases mX h with ⟨_,rfl⟩|⟨d,_,_,rfl⟩<;>rfl
def TE(J:dH)(s:St)(a:Act)(ops:Array Oper)(o:Oper):Prop:=
 ∀j want d v,o.guard=some (j,want)->(ops[j]?).bind (·.dst)=some d->s.env.get d=some v->d<a.tmps.size/\VR J v (a.tmps.getD d undef)
theorem iV{ops:Array Oper}{o:Oper}{b:Bool}{a:Act}(h:jm ops o s=some b)(hE:TE J s a ops o):Region.wanted o (yielded ops a.tmps)=b:=by
 unfold jm at h;unfold Region.wanted;split at h
 ·rename_i hg
  simp only[oi]at h;rw[hg];exact h
 ·rename_i j want hg
  rw[hg];simp only[];split at h
  ·rename_i d hd
   have key:∀v,s.env.get d=some v->∃c,a.tmps[d]?=some c/\VR J v c:=by
    intro v hv;obtain⟨h1,h2⟩:=hE j want d v hg hd hv;exact⟨a.tmps[d],by simp[h1],by simpa[h1]using h2⟩
   split at h
   ·rename_i b' hv
    simp only[oi]at h;subst h;obtain⟨c,h1,h2⟩:=key _ hv;obtain rfl:=(h2.aZ (fun a=>by simp)).bool;simp only[yielded,hd,Option.bind_some,h1];cases b'<;>cases want<;>rfl
   ·rename_i vs hv
    cases TF:vs.toList.isEmpty with
    |false=>rw[TF]at h;simp at h
    |true=>
    rw[TF]at h;simp only[cond_true,oi]at h;subst h;obtain rfl:vs=#[]:=by simpa using TF
    obtain⟨c,h1,h2⟩:=key _ hv;have:=(h2.aZ (fun a=>by simp)).Tm;subst this;simp only[yielded,hd,Option.bind_some,h1,undef];cases want<;>rfl
   ·cases h
  ·cases h
theorem ER.gu{a:Act}(h:ER J s a)(ops:Array Oper)(o:Oper):TE J s a ops o:=fun _ _ d v _ _ hv=>h d v hv
def GB(J:dH)(s:St)(w:World)(a:Act)(s':St)(a':Act)(w':World):Prop:=
 ∃J',Good J s w J' s' w'/\ER J' s' a'/\a'.tmps.size=a.tmps.size/\a'.defers=a.defers/\fD (s.h.next<=·) J.g J'.g
theorem qM{ro:Option Nat}{H:Hint}{call:cF}(fy:gQ P call){f:FuncId}{nt:Nat}{ops:Array Oper}{Q:Exit->Act->World->Prop}:∀(l:List Oper) (k:Nat) (s:St) (J:dH) (w:World) (a:Act) (s':St),
  (∀j,l[j]?=ops[k+j]?)->lF P H call f nt ops l s=some s'->HR J s w->ER J s a->nt<=a.tmps.size->(∀a' w',GB J s w a s' a' w'->Q .normal a' w')->wpOpsIn (Wd ro) 0 P ops Q (List.range' k l.length) a w
 | [],k,s,J,w,a,s',_,h,hR,hE,_,hQ=>by
  simp only[lF,oi]at h;subst h;exact hQ a w ⟨J,.refl hR,hE,rfl,rfl,.refl _ _⟩
 |o :: l,k,s,J,w,a,s',hl,h,hR,hE,hn,hQ=>by
  have ho:ops[k]?=some o:=by have:=hl 0;simpa using this.symm
  have Mf:∀j,l[j]?=ops[k+1+j]?:=fun j=>by have:=hl (j+1);simpa[Nat.add_assoc,Nat.add_comm 1 j]using this
  simp only[List.length_cons,List.range'_succ];simp only[wpOpsIn,ho];simp only[lF]at h;split at h
  ·rename_i hw
   rw[iV hw (hE.gu ops o),if_pos rfl];split at h
   ·rename_i v s1 h1
    split at h
    ·rename_i s2 h2
     refine AN fy hR (hE.ev _) h1 _ Q ?_ ro;intro c w' J' hG P2 hv zV hA _;have Mx:ER J' s1 a:=by
      have:=hE.mono (J':=J') hG.mono P2;intro t u hu;exact this t u (by rw[zV]at hu;exact hu)
     have TG:=v8 h2 Mx hn hv;have D4:Good J s w J' s2 w':=by rw[cK h2];exact hG.env _
     refine qM fy l (k+1) s2 J' w' (a.put o.dst c) s' Mf h D4.hr TG (by rw[dW];exact hn) ?_;rintro a' w2 ⟨J2,q1,q2,q3,q4,q5⟩;exact hQ a' w2 ⟨J2,D4.trans q1,q2,by rw[q3,dW],by rw[q4,put_defers],hA.trans (q5.mono (fun k hk=>Nat.le_trans D4.next hk))⟩
    ·cases h
   ·cases h
  ·rename_i hw
   rw[iV hw (hE.gu ops o),if_neg (by simp)];split at h
   ·rename_i s1 h1
    have TG:=v8 h1 hE hn (c:=undef) (.cX _ _ (VG.of_flat rfl));have D4:Good J s w J s1 w:=by rw[cK h1];exact(Good.refl hR).env _
    refine⟨fun _ _=>trivial,?_⟩;refine qM fy l (k+1) s1 J w (a.put o.dst undef) s' Mf h D4.hr TG (by rw[dW];exact hn) ?_;rintro a' w2 ⟨J2,q1,q2,q3,q4,q5⟩;exact hQ a' w2 ⟨J2,D4.trans q1,q2,by rw[q3,dW],by rw[q4,put_defers],q5.mono (fun k hk=>Nat.le_trans D4.next hk)⟩
   ·cases h
  ·cases h
theorem D5{ro:Option Nat}{H:Hint}{call:cF}(fy:gQ P call){f:FuncId}{nt:Nat}{ops:Array Oper}{id:Nat}{a:Act}{s':St}(h:lF P H call f nt ops ops.toList s=some s')(hR:HR J s w)(hE:ER J s a)(hn:nt<=a.tmps.size) :
  (Code.region id ops false).wpIn (Wd ro) 0 P (fun e a' w'=>e=.normal/\GB J s w a s' a' w') a w:=by
 refine wpIn_region ?_;have:=qM (ro:=ro) (Q:=fun e a' w'=>e=.normal/\GB J s w a s' a' w') fy ops.toList 0 s J w a s' (fun j=>by simp) h hR hE hn (fun a' w' q=>⟨rfl,q⟩);rw[List.range_eq_range'];simpa using this
end Go.cL
namespace Go.cL
structure bM(B:Nat)(h h':af):Prop where
 next:h.next<=h'.next
 low:h'.low<=h.low
 get:∀id,id<B->id<h'.low->h'.m.get id=h.m.get id
 gone:∀id,id<B->h.m.get id=none->h'.m.get id=none
theorem bM.refl(B:Nat)(h:af):bM B h h:=⟨Nat.le_refl _,Nat.le_refl _,fun _ _ _=>rfl,fun _ _ h=>h⟩
theorem bM.trans{B:Nat}{a b c:af}(h:bM B a b)(k:bM B b c):bM B a c:=
 ⟨Nat.le_trans h.next k.next,Nat.le_trans k.low h.low,fun id h1 h2=>(k.get id h1 h2).trans (h.get id h1 (Nat.lt_of_lt_of_le h2 k.low)),fun id h1 h2=>k.gone id h1 (h.gone id h1 h2)⟩
theorem bM.mono{B B':Nat}{h h':af}(k:bM B h h')(hb:B'<=B):bM B' h h':=
 ⟨k.next,k.low,fun id h1 h2=>k.get id om h2,fun id h1 h2=>k.gone id om h2⟩
theorem bM.push{B:Nat}{h:af}(hb:B<=h.next)(es:Nat)(cs:List Value):bM B h (h.push es cs):=
 ⟨by simp[af.push],Nat.le_refl _,fun id h1 _=>by simp only[af.push];rw[cQ.aK _ _ om],fun id h1 h2=>by simp only[af.push];rw[cQ.aK _ _ om];exact h2⟩
theorem bM.write{B:Nat}{h h':af}{b off:Nat}{vs:List Value}(hw:h.write b off vs=some h'):bM B h h':=by
 unfold af.write at hw;split at hw
 ·rename_i es cs hm
  split at hw
  ·rename_i j6 _
   simp only[oi]at hw;subst hw;refine⟨Nat.le_refl _,Nat.min_le_left _ _,fun id _ h2=>?_,fun id _ h2=>?_⟩
   ·have:Nat.min h.low b<=b:=Nat.min_le_right _ _
    simp only[]at h2 ⊢;rw[cQ.aK _ _ om]
   ·simp only[]
    by_cases e:b=id
    ·subst e;rw[hm]at h2;cases h2
    ·rw[cQ.aK _ _ e];exact h2
  ·cases hw
 ·cases hw
theorem bM.kill{B:Nat}{h:af}{b:Nat}(hb:h.m.get b≠none):bM B h (h.kill b):=by
 refine⟨Nat.le_refl _,Nat.min_le_left _ _,fun id _ h2=>?_,fun id _ h2=>?_⟩
 ·have:Nat.min h.low b<=b:=Nat.min_le_right _ _
  simp only[af.kill]at h2 ⊢;rw[cQ.aK _ _ om]
 ·simp only[af.kill]
  by_cases e:b=id
  ·subst e;exact absurd h2 hb
  ·rw[cQ.aK _ _ e];exact h2
theorem bM.gT{B:Nat}{h:af}(hb:B<=h.next)(b:DE):bM B h (h.gT b):=
 ⟨by simp[af.gT],Nat.le_refl _,fun id h1 _=>by simp only[af.gT];rw[cQ.aK _ _ om],fun id h1 h2=>by simp only[af.gT];rw[cQ.aK _ _ om];exact h2⟩
theorem bM.jc{B:Nat}{h:af}{b:Nat}{x:DE}(hb:h.m.get b≠none\/B<=b):bM B h (h.jc b x):=by
 refine⟨Nat.le_refl _,Nat.min_le_left _ _,fun id _ h2=>?_,fun id h1 h2=>?_⟩
 ·have:Nat.min h.low b<=b:=Nat.min_le_right _ _
  simp only[af.jc]at h2 ⊢;rw[cQ.aK _ _ om]
 ·simp only[af.jc]
  by_cases e:b=id
  ·subst e
   rcases hb with hb|hb
   ·exact absurd h2 hb
   ·omega
  ·rw[cQ.aK _ _ e];exact h2
theorem ta{P:Program}{B:Nat}{h h':af}{t:TypeId}{x k v:Value}{ok:Bool}(hh:kP P h t x k ok=some (v,h')):bM B h h':=by
 unfold kP at hh;simp only[Bool.cond_eq_ite]at hh;repeat' split at hh
 all_goals first
  |(cases hh;done)
  |(simp only[oi,pj]at hh;obtain⟨_,rfl⟩:=hh;exact .refl _ _)
theorem nS{P:Program}{B:Nat}{h h':af}{t:TypeId}{x k u v:Value}(hh:kQ P h t x k u=some (v,h')):bM B h h':=by
 unfold kQ at hh;simp only[Bool.cond_eq_ite]at hh;split at hh
 ·rename_i id _
  split at hh
  ·rename_i es _ hm
   repeat' split at hh
   all_goals first
    |(cases hh;done)
    |(simp only[oi,pj]at hh;obtain⟨_,rfl⟩:=hh;exact .jc (.inl (by rw[hm];simp)))
  ·cases hh
 ·cases hh
theorem GC{B:Nat}{s s':St}{a:Addr}{vs:List Value}(h:s.write a vs=some s'):bM B s.h s'.h:=by
 unfold St.write at h;cases fz:vs.all aD with
 |false=>rw[fz]at h;simp at h
 |true=>
  rw[fz]at h;simp only[cond_true]at h;split at h
  ·split at h
   ·rename_i h' hw;simp only[oi]at h;subst h;exact .write hw
   ·cases h
  ·cases hb:Nat.blt a.block s.kn with
   |false=>rw[hb]at h;simp at h
   |true=>
    rw[hb]at h;simp only[cond_true]at h;split at h
    ·split at h
     ·simp only[oi]at h;subst h;exact .refl _ _
     ·cases h
    ·cases h
def GD(B:Nat)(s:St)(mk:lr):Prop:=∀loc es cells v s',mk loc es cells=some (v,s')->bM B s.h s'.h
theorem My{B:Nat}{s:St}(hb:B<=s.h.next):GD B s s.new:=by
 intro loc es cells v s' h;unfold St.new at h;cases hc:cells.all aD with
 |false=>rw[hc]at h;simp at h
 |true=>
  rw[hc]at h;cases loc with
  |false=>simp only[cond_true,cond_false,oi,pj]at h;obtain⟨_,rfl⟩:=h;exact .push hb _ _
  |true=>simp only[cond_true,oi,pj]at h;obtain⟨_,rfl⟩:=h;exact .refl _ _
theorem GF{B:Nat}{s:St}{id tag:Nat}(hb:B<=id):GD B s (s.newAt id tag):=by
 intro loc es cells v s' h;unfold St.newAt at h;cases hc:cells.all aD with
 |false=>rw[hc]at h;simp at h
 |true=>
  rw[hc]at h;cases loc with
  |false=>
   simp only[cond_true,cond_false,oi,pj]at h;obtain⟨_,rfl⟩:=h;exact⟨Nat.le_refl _,Nat.le_refl _,fun k h1 _=>by simp only[];rw[cQ.aK _ _ om],fun k h1 h2=>by simp only[];rw[cQ.aK _ _ om];exact h2⟩
  |true=>simp only[cond_true,oi,pj]at h;obtain⟨_,rfl⟩:=h;exact .refl _ _
theorem pN{B:Nat}{h h':af}{a:Addr}{vs:List Value}(hw:h.iu a vs=some h'):bM B h h':=by
 unfold af.iu at hw;split at hw
 ·cases hc:vs.all aD with
  |false=>rw[hc]at hw;simp at hw
  |true=>rw[hc]at hw;simp only[cond_true]at hw;exact .write hw
 ·cases hw
theorem tc{P:Program}{B:Nat}{h h':af}{ts:List TypeId}{args:List Value}{v:Value}(hb:B<=h.next)(hh:cO P h ts args=some (v,h')):bM B h h':=by
 unfold cO at hh;simp only[Bool.cond_eq_ite]at hh;repeat' split at hh
 all_goals first
  |(cases hh;done)
  |(simp only[oi,pj]at hh;obtain⟨_,rfl⟩:=hh;exact .refl _ _)
  |(simp only[oi,pj]at hh;obtain⟨_,rfl⟩:=hh;exact .push hb _ _)
  |(simp only[oi,pj]at hh;obtain⟨_,rfl⟩:=hh;exact pN (by assumption))
  |(simp only[oi,pj]at hh;obtain⟨_,rfl⟩:=hh;rename_i hl _ _;exact(bM.kill (by rw[hl];simp)).trans (.push (by exact hb) _ _))
theorem xV{P:Program}{B:Nat}{h h':af}{ts:List TypeId}{args:List Value}{v:Value}(hh:sO P h ts args=some (v,h')):bM B h h':=by
 unfold sO at hh;simp only[Bool.cond_eq_ite]at hh;repeat' split at hh
 all_goals first
  |(cases hh;done)
  |(simp only[oi,pj]at hh;obtain⟨_,rfl⟩:=hh;exact .refl _ _)
  |(simp only[oi,pj]at hh;obtain⟨_,rfl⟩:=hh;exact pN (by assumption))
theorem vp{P:Program}{B:Nat}{h h':af}{ts:List TypeId}{args:List Value}{v:Value}(hh:rW P h ts args=some (v,h')):bM B h h':=by
 unfold rW at hh;simp only[Bool.cond_eq_ite]at hh;repeat' split at hh
 all_goals first
  |(cases hh;done)
  |(simp only[oi,pj]at hh;obtain⟨_,rfl⟩:=hh;exact .refl _ _)
  |(simp only[oi,pj]at hh;obtain⟨_,rfl⟩:=hh;exact pN (by assumption))
theorem D6{P:Program}{B:Nat}{s s':St}{t:TypeId}{a:Addr}{v:Value}(h:mG P s t a v=some s'):bM B s.h s'.h:=by
 unfold mG at h;simp only[Bool.cond_eq_ite]at h;repeat' split at h
 all_goals first
  |(cases h;done)
  |exact GC h
theorem D7{P:Program}{B:Nat}{mk:lr}{s s':St}{loc:Bool}{op:Op}{v:Value}(hb:B<=s.h.next)(hM:GD B s mk)(h:gp P mk loc op s=some (v,s')):bM B s.h s'.h:=by
 unfold gp at h;split at h
 case h_7=>
  unfold eE at h
  (try simp only[Bool.cond_eq_ite]at h)
  repeat' split at h
  all_goals (try simp only[Bool.cond_eq_ite]at h)
  all_goals repeat' split at h
  all_goals first
   |(cases h;done)
   |(simp only[oi,pj]at h;obtain⟨_,rfl⟩:=h;exact hM _ _ _ _ _ (by assumption))
 case h_15=>
  unfold fL at h;repeat' split at h
  all_goals first
   |(cases h;done)
   |(simp only[oi,pj]at h;obtain⟨_,rfl⟩:=h;exact hM _ _ _ _ _ (by assumption))
 all_goals (try simp only[Bool.cond_eq_ite]at h)
 all_goals repeat' split at h
 all_goals first
  |(cases h;done)
  |(simp only[oi,pj]at h;obtain⟨_,rfl⟩:=h;exact .refl _ _)
  |exact hM _ _ _ _ _ h
  |(simp only[oi,pj]at h;obtain⟨_,rfl⟩:=h;exact D6 (by assumption))
  |(obtain⟨h',h1,rfl⟩:=bj h;exact tc hb h1)
  |(obtain⟨h',h1,rfl⟩:=bj h;exact xV h1)
  |(obtain⟨h',h1,rfl⟩:=bj h;exact vp h1)
  |(obtain⟨h',h1,rfl⟩:=bj h;exact ta h1)
  |(obtain⟨h',h1,rfl⟩:=bj h;exact nS h1)
  |(obtain⟨h',h1,rfl⟩:=bj h;simp only[oi,pj]at h1;obtain⟨_,rfl⟩:=h1;exact .gT hb _)
def aY(call:cF):Prop:=∀g args h v h',call g args h=some (v,h')->bM h.next h h'
theorem pO{call:cF}(hc:aY call){B:Nat}{s s':St}{c:Call}{v:Value}(hb:B<=s.h.next)(h:jF call c s=some (v,s')):bM B s.h s'.h:=by
 unfold jF at h;split at h
 ·split at h
  ·rename_i hr
   simp only[oi,pj]at h;obtain⟨_,rfl⟩:=h;exact(hc _ _ _ _ _ hr).mono hb
  ·cases h
 ·cases h
theorem JT{P:Program}{H:Hint}{call:cF}(hc:aY call){B:Nat}{f:FuncId}{o:Oper}{s s':St}{v:Value}(hb:B<=s.h.next)(h:rY P H call f o s=some (v,s')):bM B s.h s'.h:=by
 unfold rY at h;split at h
 ·exact pO hc hb h
 ·exact D7 hb (My hb) h
theorem uA{P:Program}{H:Hint}{call:cF}(hc:aY call){B id tag:Nat}{f:FuncId}{o:Oper}{s s':St}{v:Value}(hb:B<=s.h.next)(me:B<=id)(h:jA P H call f id tag o s=some (v,s')):bM B s.h s'.h:=by
 unfold jA at h;split at h
 ·exact pO hc hb h
 ·exact D7 hb (GF me) h
theorem iW{nt:Nat}{dst:Option Tmp}{s s':St}{v:Value}(h:rX nt s dst v=some s'):s'.h=s.h:=by
 rw[cK h]
theorem uB{P:Program}{H:Hint}{call:cF}(hc:aY call){f:FuncId}{nt:Nat}{ops:Array Oper}{B:Nat}:∀(l:List Oper) (s s':St),B<=s.h.next->lF P H call f nt ops l s=some s'->bM B s.h s'.h
 | [],s,s',_,h=>by simp only[lF,oi]at h;subst h;exact .refl _ _
 |o :: l,s,s',hb,h=>by
  simp only[lF]at h;split at h
  ·split at h
   ·rename_i v s1 h1
    split at h
    ·rename_i s2 h2
     have k1:=JT hc hb h1;have k2:=uB hc l s2 s' (by rw[iW h2];exact Nat.le_trans hb k1.next) h;rw[iW h2]at k2;exact k1.trans k2
    ·cases h
   ·cases h
  ·split at h
   ·rename_i s2 h2
    have k2:=uB hc l s2 s' (by rw[iW h2];exact hb) h;rw[iW h2]at k2;exact k2
   ·cases h
  ·cases h
theorem jr{B:Nat}{s s1:St}(k:bM B s.fresh.h s1.h):bM B s.h (s1.aw s.h.low).h:=
 ⟨k.next,Nat.min_le_left _ _,fun id h1 h2=>k.get id h1 (Nat.lt_of_lt_of_le h2 (Nat.min_le_right _ _)),fun id h1 h2=>k.gone id h1 h2⟩
theorem uC{P:Program}{H:Hint}{call:cF}(hc:aY call){f:FuncId}{nt:Nat}{ops:Array Oper}{base aM:Nat}:∀(l:List Nat) (i:Nat) (s s':St) (iv:List (Nat×FP×Bool)),base<=s.h.next->rr P H call f nt ops base aM l i s=some (s',iv)->bM base s.h s'.h
 | [],i,s,s',iv,_,h=>by simp only[rr,oi,pj]at h;obtain⟨rfl,_⟩:=h;exact .refl _ _
 |p :: l,i,s,s',iv,hb,h=>by
  simp only[rr]at h;split at h
  ·cases h
  ·split at h
   ·split at h
    ·rename_i v s1 h1
     split at h
     ·rename_i s2 h2
      split at h
      ·rename_i r vT h3
       simp only[oi,pj]at h;obtain⟨rfl,_⟩:=h;have k1:=jr (uA hc (B:=base) (s:=s.fresh) hb om h1);have k2:=uC hc l (i+1) s2 r vT (by rw[iW h2];exact Nat.le_trans hb k1.next) h3;rw[iW h2]at k2;exact k1.trans k2
      ·cases h
     ·cases h
    ·cases h
   ·split at h
    ·rename_i s2 h2
     split at h
     ·rename_i r vT h3
      simp only[oi,pj]at h;obtain⟨rfl,_⟩:=h;have k2:=uC hc l (i+1) s2 r vT (by rw[iW h2];exact hb) h3;rw[iW h2]at k2;exact k2
     ·cases h
    ·cases h
   ·cases h
theorem GG{P:Program}{H:Hint}{call:cF}(hc:aY call){f:FuncId}{nt:Nat}{ops:Array Oper}{s s':St}(h:rI P H call f nt ops s=some s'):bM s.h.next s.h s'.h:=by
 unfold rI at h;simp only[Bool.cond_eq_ite]at h;split at h
 ·split at h
  ·split at h
   ·rename_i h1 _
    simp only[oi]at h;subst h;have k:=uC hc (base:=s.h.next) _ _ _ _ _ (by simp[St.jo]) h1;exact⟨by have:=k.next;simp only[St.jo]at this;omega,k.low,k.get,k.gone⟩
   ·cases h
  ·cases h
 ·cases h
theorem JU{H:Hint}{f:FuncId}{c:Code}{kn:Nat}{s s':St}(h:norm H f c kn s=some s'):s'.h=s.h:=by
 unfold norm at h;split at h
 ·simp only[oi]at h;rw[h]
 ·simp only[Bool.cond_eq_ite]at h
  split at h
  ·simp only[oi]at h;rw[<-h]
  ·cases h
theorem D8{s s':St}{j:Option Code}{x:Exit}(h:uy s j=some (x,s')):s'=s:=by
 unfold uy at h;split at h
 all_goals first
  |(cases h;done)
  |(simp only[oi,pj]at h;exact h.2.symm)
theorem D9{P:Program}{call:cF}(hc:aY call){f:FuncId}{nt:Nat}{x:Operand}{ps:Array Tmp}{assign body:Code}{s s':St}{e:Exit}(h:pB P call f nt x ps assign body s=some (e,s')):bM s.h.next s.h s'.h:=by
 unfold pB at h;simp only[Bool.cond_eq_ite]at h;split at h
 ·split at h
  ·split at h
   ·split at h
    ·rename_i h2 hr
     have k1:bM s.h.next s.h h2:=(bM.gT (Nat.le_refl _) _).trans ((hc _ _ _ _ _ hr).mono (by simp[af.gT]));split at h
     ·rw[D8 h];exact k1.trans (.jc (.inr (Nat.le_refl _)))
     ·rw[D8 h];exact k1.trans (.jc (.inr (Nat.le_refl _)))
     ·cases h
    ·cases h
   ·cases h
  ·cases h
 ·cases h
theorem mI{B y:Nat}{h h':af}{j:Option Code}{v:Value}(hh:j7 y h j=some (v,h')):bM B h h':=by
 unfold j7 at hh;split at hh
 ·rename_i hm
  simp only[oi,pj]at hh;obtain⟨_,rfl⟩:=hh;exact .jc (.inl (by rw[hm];simp))
 ·cases hh
theorem Ea{run:FuncId->Nat->Code->St->Option (Exit×St)}(hr:∀f nt c s x s',run f nt c s=some (x,s')->bM s.h.next s.h s'.h){y:Nat}{args:List Value}{h h':af}{v:Value}(hh:pC run y args h=some (v,h')):bM h.next h h':=by
 unfold pC at hh;split at hh
 ·simp only[Bool.cond_eq_ite]at hh
  split at hh
  ·split at hh
   ·rename_i s1 h1
    have k1:=hr _ _ _ _ _ _ h1;simp only[]at k1;split at hh
    ·rename_i sU f1 Po zQ Pp kS sV hm
     have k2:bM h.next h (s1.h.jc y (.loop .busy sU f1 Po zQ Pp kS sV)):=k1.trans (.jc (.inl (by rw[hm];simp)));split at hh
     ·rename_i s2 h2
      exact k2.trans (((hr _ _ _ _ _ _ h2).mono k1.next).trans (mI hh))
     ·rename_i s2 h2
      exact k2.trans (((hr _ _ _ _ _ _ h2).mono k1.next).trans (mI hh))
     ·rename_i s2 h2
      exact k2.trans (((hr _ _ _ _ _ _ h2).mono k1.next).trans (mI hh))
     ·cases hh
    ·cases hh
   ·cases hh
  ·cases hh
 ·cases hh
theorem gY{P:Program}{H:Hint}{F:bg}(hF:aY F):∀n,(∀f nt c s x s',(cE P H F n).run f nt c s=some (x,s')->bM s.h.next s.h s'.h)/\(∀f nt c kn s x s',(cE P H F n).loop f nt c kn s=some (x,s')->bM s.h.next s.h s'.h)/\aY (cE P H F n).call
 |0=>⟨fun f nt c s x s' h=>by simp[cE]at h,fun f nt c kn s x s' h=>by simp[cE]at h,fun g args h v h' hh=>by simp[cE]at hh⟩
 |n+1=>by
  obtain⟨i1,i2,i3⟩:=gY (H:=H) hF n;refine⟨?_,?_,?_⟩
  ·intro f nt c s x s' h
   simp only[cE,nN]at h;split at h
   ·simp only[oi,pj]at h;obtain⟨_,rfl⟩:=h;exact .refl _ _
   ·simp only[oi,pj]at h;obtain⟨_,rfl⟩:=h;exact .refl _ _
   ·simp only[oi,pj]at h;obtain⟨_,rfl⟩:=h;exact .refl _ _
   ·split at h
    ·rename_i s1 h1
     have k1:=i1 _ _ _ _ _ _ h1;have k2:=i1 _ _ _ _ _ _ h;exact k1.trans (k2.mono k1.next)
    ·exact i1 _ _ _ _ _ _ h
   ·split at h
    ·exact i1 _ _ _ _ _ _ h
    ·cases h
   ·split at h
    ·rename_i pD s1 h1
     have k1:=i1 _ _ _ _ _ _ h1;simp only[Bool.cond_eq_ite]at h;split at h
     ·simp only[oi,pj]at h;obtain⟨_,rfl⟩:=h;exact k1
     ·simp only[oi,pj]at h;obtain⟨_,rfl⟩:=h;exact k1
    ·exact i1 _ _ _ _ _ _ h
   ·exact i2 _ _ _ _ _ _ _ h
   ·rename_i ops draw
    split at h
    ·rename_i s1 h1
     simp only[oi,pj]at h;obtain⟨_,rfl⟩:=h;cases draw with
     |true=>exact GG i3 h1
     |false=>exact uB i3 _ _ _ (Nat.le_refl _) h1
    ·cases h
   ·exact D9 i3 h
   ·cases h
  ·intro f nt c kn s x s' h
   simp only[cE,pE]at h;split at h
   ·cases h
   ·rename_i s1 h0
    have e0:=JU h0;split at h
    ·rename_i s2 h1
     have k1:=i1 _ _ _ _ _ _ h1;have k2:=i2 _ _ _ _ _ _ _ h;rw[e0]at k1;exact k1.trans (k2.mono k1.next)
    ·have k1:=i1 _ _ _ _ _ _ h
     rw[e0]at k1;exact k1
  ·intro g args h v h' hh
   simp only[cE,oK]at hh;cases hy:Nat.ble aU g with
   |true=>rw[hy]at hh;exact Ea i1 hh
   |false=>
   rw[hy]at hh;simp only[cond_false]at hh;split at hh
   ·rename_i r hr
    simp only[oi]at hh;subst hh;exact hF _ _ _ _ _ hr
   ·split at hh
    ·rename_i fn _
     split at hh
     ·have key:∀s,vP P fn s=some (v,h')->h'=s.h:=by
       intro s he;unfold vP at he;simp only[Bool.cond_eq_ite]at he;repeat' split at he
       all_goals first|(cases he;done)|(simp only[oi,pj]at he;exact he.2.symm)
      split at hh
      ·rename_i s1 h1
       have k1:=i1 _ _ _ _ _ _ h1;rw[key _ hh];exact k1
      ·rename_i s1 h1
       have k1:=i1 _ _ _ _ _ _ h1;rw[key _ hh];exact k1
      ·cases hh
     ·cases hh
    ·cases hh
end Go.cL
namespace Go.cL
theorem bW{s s2:St}(h:s2.env=s.env):bL s2=bL s:=by
 funext x;cases x<;>simp[bL,h]
theorem ig{s s2:St}(h:s2.env=s.env):gU s2=gU s:=by
 funext l
 induction l with
 |nil=>rfl
 |cons x l ih=>simp only[gU,bW h,ih]
theorem oM{s s2:St}(h:s2.env=s.env):fY s2=fY s:=by
 funext l
 induction l with
 |nil=>rfl
 |cons x l ih=>obtain⟨i,x⟩:=x;simp only[fY,bW h,ih]
theorem zW{s s2:St}(h:s2.env=s.env):jl s2=jl s:=by
 funext x;cases x<;>simp only[jl,bW h]
inductive BH where
 |idle
 |nT (b:Nat) (dx:DE) (lw:Bool)
 |mJ (t:Nat) (cs:List Value)
def BH.apply:BH->St->St
 | .idle,s=>s
 | .nT b dx lw,s=>{ s with h:={ next:=s.h.next,low:=bif lw then Nat.min s.h.low b else s.h.low,m:=s.h.m.set b dx } }
 | .mJ t cs,s=>{ s with K:=s.K.set t cs }
def BH.fits:BH->FP->Bool->Prop
 | .idle,x,st=>(∀l b,x≠.new l b)/\st=false
 | .nT b dx lw,x,st=>(x=.block false b/\st=true/\lw=true/\∃es cs,dx=.live true es cs)\/(x=.new false b/\st=false/\lw=false/\∃es cs,dx=.live true es cs)
 | .mJ t _,x,st=>(x=.block true t/\st=true)\/(x=.new true t/\st=false)
theorem qN{s s':St}{id tag:Nat}{loc:Bool}{es:Nat}{cells:List Value}{v:Value}(h:s.newAt id tag loc es cells=some (v,s')) :
  (loc=false/\s'=(BH.nT id (.live true es cells) false).apply s/\v=.pointer (some ⟨id,0,none⟩)/\∀s2:St,s2.newAt id tag loc es cells=some (v,(BH.nT id (.live true es cells) false).apply s2)) \/
  (loc=true/\s'=(BH.mJ tag cells).apply s/\∀s2:St,s2.newAt id tag loc es cells=some (v,(BH.mJ tag cells).apply s2)):=by
 unfold St.newAt at h;cases hc:cells.all aD with
 |false=>rw[hc]at h;simp at h
 |true=>
  rw[hc]at h;cases loc with
  |false=>
   simp only[cond_true,cond_false,oi,pj]at h;obtain⟨rfl,rfl⟩:=h;exact .inl ⟨rfl,rfl,rfl,fun s2=>by unfold St.newAt;rw[hc];rfl⟩
  |true=>
   simp only[cond_true,oi,pj]at h;obtain⟨rfl,rfl⟩:=h;exact .inr ⟨rfl,rfl,fun s2=>by unfold St.newAt;rw[hc];rfl⟩
theorem Eb{P:Program}{s s2:St}{t:TypeId}{a:Addr}(h:s2.cells? a=s.cells? a):sS P s2 t a=sS P s t a:=by
 unfold sS St.read;rw[h]
theorem JV{s s':St}{a:Addr}{vs:List Value}(h:s.write a vs=some s') :
  (a.spot=none/\∃dx es cs,dx=.live true es cs/\s'=(BH.nT a.block dx true).apply s/\(∃Tx Lj,s.h.m.get a.block=some (.live true Tx Lj))/\∀s2:St,s2.h.m.get a.block=s.h.m.get a.block->s2.write a vs=some ((BH.nT a.block dx true).apply s2)) \/
  (a.spot.isSome=true/\∃cs,s'=(BH.mJ a.block cs).apply s/\∀s2:St,s2.kn=s.kn->s2.K.get a.block=s.K.get a.block->s2.write a vs=some ((BH.mJ a.block cs).apply s2)):=by
 unfold St.write at h;cases fz:vs.all aD with
 |false=>rw[fz]at h;simp at h
 |true=>
  rw[fz]at h;simp only[cond_true]at h;cases jI:a.spot with
  |none=>
   left;rw[jI]at h;simp only[]at h;split at h
   ·rename_i h' hw
    simp only[oi]at h;subst h;unfold af.write at hw;split at hw
    ·rename_i es cs hm
     split at hw
     ·rename_i j6 FR
      simp only[oi]at hw;subst hw;refine⟨rfl,.live true es j6,es,j6,rfl,rfl,⟨es,cs,hm⟩,fun s2 h2=>?_⟩;unfold St.write af.write;rw[fz,jI];simp only[cond_true,h2,hm,FR];rfl
     ·cases hw
    ·cases hw
   ·cases h
  |some x=>
   right;rw[jI]at h;simp only[]at h;cases hb:Nat.blt a.block s.kn with
   |false=>rw[hb]at h;simp at h
   |true=>
    rw[hb]at h;simp only[cond_true]at h;split at h
    ·rename_i cs hK
     split at h
     ·rename_i j6 FR
      simp only[oi]at h;subst h;refine⟨rfl,j6,rfl,fun s2 h1 h2=>?_⟩;unfold St.write;rw[fz,jI];simp only[cond_true,h1,hb,h2,hK,FR];simp only[BH.apply,h1]
     ·cases h
    ·cases h
theorem v9 {P : Program} {s s' : St} {id tag : Nat} {loc : Bool} {op : Op} {v : Value} (hA : (dM op loc id tag s).fj = false) (h : gp P (s.newAt id tag) loc op s = some (v, s')) :
    ∃ E : BH, s' = E.apply s ∧ E.fits (dM op loc id tag s) (iH op) ∧
      ∀ s2 : St, s2.env = s.env → s2.kn = s.kn → (∀ b, dM op loc id tag s = .block false b → s2.h.m.get b = s.h.m.get b) → (∀ t, dM op loc id tag s = .block true t → s2.K.get t = s.K.get t) →
        gp P (s2.newAt id tag) loc op s2 = some (v, E.apply s2) := by
  by_cases hp : bN op = true
  · 
    have AO : dM op loc id tag s = .none := by unfold dM; rw [hp]; rfl
    have key : s' = s ∧ ∀ s2 : St, s2.env = s.env → gp P (s2.newAt id tag) loc op s2 = some (v, s2) := by
      unfold gp at h
      split at h
      all_goals first | (exfalso; simp [bN] at hp; done) | skip
      all_goals repeat' split at h
      all_goals first
        | (cases h; done)
        | (simp only [oi, pj] at h
           obtain ⟨rfl, rfl⟩ := h
           exact ⟨rfl, fun s2 he => by simp_all [gp, bW he, ig he, oM he, zW he]⟩)
        | (simp only [Bool.cond_eq_ite] at h
           split at h
           · rename_i h1 h2 WJ
             simp only [oi, pj] at h
             obtain ⟨rfl, rfl⟩ := h
             exact ⟨rfl, fun s2 he => by simp only [gp, ig he, h1, h2, WJ, cond_true]⟩
           · cases h)
        | (exfalso; simp [bN] at hp; done)
    refine ⟨.idle, key.1, ⟨fun l b => by rw [AO]; simp, ?_⟩, fun s2 he _ _ _ => key.2 s2 he⟩
    cases op <;> first | rfl | simp [bN] at hp
  · have sI : bN op = false := by simpa using hp
    unfold gp at h
    split at h
    all_goals first | (exfalso; simp [bN] at hp; done) | skip
    · 
      rename_i e
      split at h
      · rename_i z n hz hn
        have AO : dM (.alloc e) loc id tag s = bif loc then .new true tag else .new false id := rfl
        rcases qN h with ⟨rfl, h1, _, h2⟩ | ⟨rfl, h1, h2⟩
        · exact ⟨_, h1, .inr ⟨AO, rfl, rfl, _, _, rfl⟩, fun s2 _ _ _ _ => by simp only [gp, hz, hn]; exact h2 s2⟩
        · exact ⟨_, h1, .inr ⟨AO, rfl⟩, fun s2 _ _ _ _ => by simp only [gp, hz, hn]; exact h2 s2⟩
      · cases h
    · 
      rename_i e x
      split at h
      · rename_i u n hu hn
        have AO : dM (.box e x) loc id tag s = bif loc then .new true tag else .new false id := rfl
        rcases qN h with ⟨rfl, h1, _, h2⟩ | ⟨rfl, h1, h2⟩
        · exact ⟨_, h1, .inr ⟨AO, rfl, rfl, _, _, rfl⟩, fun s2 he _ _ _ => by simp only [gp, bW he, hu, hn]; exact h2 s2⟩
        · exact ⟨_, h1, .inr ⟨AO, rfl⟩, fun s2 he _ _ _ => by simp only [gp, bW he, hu, hn]; exact h2 s2⟩
      · cases h
    · 
      rename_i t len parts
      split at h
      · rename_i l hl
        have AO : dM (.buildSlice t len parts) loc id tag s = .new false id := rfl
        have h9 := h
        unfold eE at h
        split at h
        · rename_i e hu
          split at h
          · rename_i n z hn hz
            cases hb : (Nat.ble (len * n) 16777216 && Nat.beq z.cells.toList.length n && Nat.ble len 16777216) with
            | false => rw [hb] at h; simp at h
            | true =>
              rw [hb] at h
              simp only [cond_true] at h
              split at h
              · rename_i cs Bs
                split at h
                · rename_i a s1 oT
                  simp only [oi, pj] at h
                  obtain ⟨rfl, rfl⟩ := h
                  rcases qN oT with ⟨_, h1, h3, h2⟩ | ⟨q, _⟩
                  · exact ⟨_, h1, .inr ⟨AO, rfl, rfl, _, _, rfl⟩, fun s2 he _ _ _ => by simp only [gp, oM he, hl, eE, hu, hn, hz, hb, cond_true, Bs, h2 s2]⟩
                  · cases q
                · cases h
              · cases h
          · cases h
        · cases h
      · cases h
    · 
      rename_i t x
      split at h
      · rename_i a hu
        split at h
        · rename_i u hv
          simp only [oi, pj] at h
          obtain ⟨rfl, rfl⟩ := h
          have AO : dM (.load t x) loc id tag s = .block a.spot.isSome a.block := by simp only [dM, bN, cond_false, hu]
          refine ⟨.idle, rfl, ⟨fun l b => by rw [AO]; simp, rfl⟩, fun s2 he hk hb ht => ?_⟩
          have xN : s2.cells? a = s.cells? a := by
            unfold St.cells?
            cases jI : a.spot with
            | none =>
              simp only [af.cells?]
              rw [hb a.block (by rw [AO, jI]; rfl)]
            | some y =>
              simp only [hk]
              rw [ht a.block (by rw [AO, jI]; rfl)]
          simp only [gp, bW he, hu, Eb xN, hv]
          rfl
        · cases h
      · cases h
    · 
      rename_i t x y
      split at h
      · rename_i a u hx hy
        split at h
        · rename_i s1 gi
          simp only [oi, pj] at h
          obtain ⟨rfl, rfl⟩ := h
          have AO : dM (.store t x y) loc id tag s = .block a.spot.isSome a.block := by simp only [dM, bN, cond_false, hx]
          unfold mG at gi
          split at gi
          · rename_i n hn
            cases Zk : Nat.beq u.cells.toList.length n with
            | false => rw [Zk] at gi; simp at gi
            | true =>
              rw [Zk] at gi
              simp only [cond_true] at gi
              rcases JV gi with ⟨jI, dx, es, cs, aao, h1, _, h2⟩ | ⟨jI, cs, h1, h2⟩
              · refine ⟨_, h1, .inl ⟨by rw [AO, jI]; rfl, rfl, rfl, es, cs, aao⟩, fun s2 he hk hb ht => ?_⟩
                have := h2 s2 (hb a.block (by rw [AO, jI]; rfl))
                simp only [gp, bW he, hx, hy, mG, hn, Zk, cond_true, this]
              · refine ⟨_, h1, .inl ⟨by rw [AO, jI], rfl⟩, fun s2 he hk hb ht => ?_⟩
                have := h2 s2 hk (ht a.block (by rw [AO, jI]))
                simp only [gp, bW he, hx, hy, mG, hn, Zk, cond_true, this]
          · cases gi
        · cases h
      · cases h
    · 
      rename_i src dst x
      split at h
      · rename_i a n c hu
        split at h
        · rename_i u hv
          simp only [oi, pj] at h
          obtain ⟨rfl, rfl⟩ := h
          refine ⟨.idle, rfl, ⟨fun l b => ?_, rfl⟩, fun s2 he hk hb ht => ?_⟩
          · simp only [dM, bN, cond_false, hu]
            cases a with
            | none => simp
            | some a =>
              intro q
              simp only [Bool.cond_eq_ite] at q
              split at q <;> cases q
          · have hcm : oJ P s2.h src dst a n = oJ P s.h src dst a n := by
              cases a with
              | none => rfl
              | some a =>
                cases jI : a.spot with
                | some y => unfold oJ af.aL; simp only [jI]
                | none =>
                  have hg := hb a.block (by simp [dM, bN, hu, jI])
                  unfold oJ af.aL af.cells?
                  simp only [jI, hg]
            simp only [gp, bW he, hu, hcm, hv]
            rfl
        · cases h
      · rename_i u1 dS hu
        split at h
        · rename_i u hv
          simp only [oi, pj] at h
          obtain ⟨rfl, rfl⟩ := h
          refine ⟨.idle, rfl, ⟨fun l b => ?_, rfl⟩, fun s2 he hk hb ht => ?_⟩
          · simp only [dM, bN, cond_false, hu]
            split
            · rename_i a9 n9 c9 e9
              simp only [oi] at e9
              exact absurd e9 (dS _ _ _)
            · simp
          · simp only [gp, bW he, hu]
            cases u1 <;> first | exact absurd rfl (dS _ _ _) | (simp only [hv]; rfl)
        · cases h
      · cases h
    · 
      rename_i t l c
      split at h
      · rename_i u1 u2 Wu Mz
        have AO : dM (.makeSlice t l c) loc id tag s = .new false id := rfl
        unfold fL at h
        split at h
        · rename_i e k1 l' k2 c' hu
          split at h
          · rename_i n z by_ hn hz rF
            split at h
            · rename_i rK
              split at h
              · rename_i a s1 oT
                simp only [oi, pj] at h
                obtain ⟨rfl, rfl⟩ := h
                rcases qN oT with ⟨_, h1, h3, h2⟩ | ⟨q, _⟩
                · exact ⟨_, h1, .inr ⟨AO, rfl, rfl, _, _, rfl⟩, fun s2 he _ _ _ => by simp only [gp, bW he, Wu, Mz, fL, hu, hn, hz, rF]; rw [if_pos rK]; simp only [h2 s2]⟩
                · cases q
              · cases h
            · cases h
          · cases h
        · cases h
      · cases h
    · 
      rename_i b args argTypes
      exfalso
      have : (dM (.call { callee := .builtin b, args, argTypes }) loc id tag s).fj = true := by
        cases b <;> first | (simp [bN] at sI; done) | rfl
      rw [this] at hA
      cases hA
    · exact absurd (show (true : Bool) = false from hA) (by decide)
    · exact absurd (show (true : Bool) = false from hA) (by decide)
    · exact absurd (show (true : Bool) = false from hA) (by decide)
    · exact absurd (show (true : Bool) = false from hA) (by decide)
    · cases h
end Go.cL
namespace Go.cL
theorem xW(acc:Array Nat):∀(l:List Edge) (s0 p:Nat),(l.foldl (fun s e=>if Region.binds .any e then s ||| 2 ^ e.on ||| acc.getD e.on 0 else s) s0).testBit p=true->
  s0.testBit p=true\/∃e∈l,Region.binds .any e=true/\(p=e.on\/(acc.getD e.on 0).testBit p=true)
 | [],s0,p,h=>.inl h
 |e :: l,s0,p,h=>by
  simp only[List.foldl_cons]at h;rcases xW acc l _ p h with h1|⟨e',h1,h2,h3⟩
  ·by_cases hb:Region.binds .any e=true
   ·rw[if_pos hb]at h1
    simp only[Nat.testBit_or,Bool.or_eq_true,Nat.testBit_two_pow,decide_eq_true_eq]at h1;rcases h1 with (h1|h1)|h1
    ·exact .inl h1
    ·exact .inr ⟨e,by simp,hb,.inl h1.symm⟩
    ·exact .inr ⟨e,by simp,hb,.inr h1⟩
   ·rw[if_neg hb]at h1;exact .inl h1
  ·exact .inr ⟨e',by simp[h1],h2,h3⟩
def xY(ops:Array Oper)(E:Nat->Prop):Prop:=∀q o,E q->ops[q]?=some o->∀e∈o.after.toList,Region.binds .any e=true->E e.on
theorem rM{ops:Array Oper}{E:Nat->Prop}(hE:xY ops E){p q:Nat}(h:prec (Region.before ops) p q=true)(hq:E q):E p:=by
 have key:∀(l:List Oper) (k:Nat) (acc:Array Nat),acc.size=k->(∀j,l[j]?=ops[k+j]?)->(∀q p,(acc.getD q 0).testBit p=true->E q->E p)->
   ∀q p,((l.foldl (fun(acc:Array Nat) o=>acc.push (o.after.foldl (fun s e=>if Region.binds .any e then s ||| 2 ^ e.on ||| acc.getD e.on 0 else s) 0)) acc).getD q 0).testBit p=true->E q->E p:=by
  intro l
  induction l with
  |nil=>intro k acc _ _ h q p hq;exact h q p hq
  |cons o l ih=>
   intro k acc hk hl h;simp only[List.foldl_cons];have ho:ops[k]?=some o:=by have:=hl 0;simpa using this.symm
   refine ih (k+1) _ (by simp[hk]) (fun j=>by have:=hl (j+1);simpa[Nat.add_assoc,Nat.add_comm 1 j]using this) ?_;intro q p hb hq;rcases Nat.lt_trichotomy q acc.size with dV|heq|hgt
   ·have:(acc.push (o.after.foldl (fun s e=>if Region.binds .any e then s ||| 2 ^ e.on ||| acc.getD e.on 0 else s) 0)).getD q 0=acc.getD q 0:=by
     simp[Array.getD,Array.getElem_push,dV,Nat.lt_succ_of_lt dV]
    rw[this]at hb;exact h q p hb hq
   ·subst heq
    have:(acc.push (o.after.foldl (fun s e=>if Region.binds .any e then s ||| 2 ^ e.on ||| acc.getD e.on 0 else s) 0)).getD acc.size 0=o.after.foldl (fun s e=>if Region.binds .any e then s ||| 2 ^ e.on ||| acc.getD e.on 0 else s) 0:=by
     simp[Array.getD]
    rw[this,<-Array.foldl_toList]at hb;rcases xW acc o.after.toList 0 p hb with h1|⟨e,h1,h2,h3⟩
    ·simp at h1
    ·have he:=hE acc.size o hq (by rw[hk];exact ho) e h1 h2
     rcases h3 with rfl|h3
     ·exact he
     ·exact h _ _ h3 he
   ·have:(acc.push (o.after.foldl (fun s e=>if Region.binds .any e then s ||| 2 ^ e.on ||| acc.getD e.on 0 else s) 0)).getD q 0=0:=by
     simp[Array.getD,show ¬q<acc.size+1 by omega]
    rw[this]at hb;simp at hb
 refine key ops.toList 0 #[] rfl (fun j=>by simp) (fun q p h=>by simp at h) q p ?_ hq;unfold prec Region.before at h;rw[<-Array.foldl_toList]at h;exact h
theorem rZ{α:Type}{p:α->α->Bool}:∀(l:List α),AI p l=true->∀(i k:Nat) (x y:α),i<k->l[i]?=some x->l[k]?=some y->p x y=true
 | [],_,i,k,x,y,_,h1,_=>by simp at h1
 |z :: l,h,i,k,x,y,Ic,h1,h2=>by
  simp only[AI,Bool.and_eq_true,List.all_eq_true]at h;obtain⟨k',rfl⟩:∃k',k=k'+1:=⟨k-1,om⟩;simp only[List.getElem?_cons_succ]at h2;cases i with
  |zero=>simp at h1;subst h1;exact h.1 y (List.mem_of_getElem? h2)
  |succ i=>simp only[List.getElem?_cons_succ]at h1;exact rZ l h.2 i k' x y om h1 h2
section
variable(P:Program)(H:Hint)(call:cF)(f:FuncId)(nt:Nat)(ops:Array Oper)(base aM:Nat)
def mr(i:Nat)(o:Oper)(s:St)(v:Value)(x:FP)(wr:Bool)(s':St):Prop:=
 (jm ops o s=some true/\∃s1,jA P H call f (base+i) (aM+i) o s.fresh=some (v,s1)/\rX nt (s1.aw s.h.low) o.dst v=some s'/\x=dM o.op (eO H f o) (base+i) (aM+i) s/\wr=(iH o.op || Nat.blt s1.h.low s.h.next)) \/
 (jm ops o s=some false/\rX nt s o.dst undef=some s'/\v=undef/\x=.none/\wr=false)
theorem xZ:∀(l:List Nat) (i:Nat) (s r:St) (iv:List (Nat×FP×Bool)),rr P H call f nt ops base aM l i s=some (r,iv)->
  ∃(S:Nat->St) (V:Nat->Value) (X:Nat->FP) (W:Nat->Bool),S i=s/\S (i+l.length)=r/\iv.length=l.length /\
   ∀j p,l[j]?=some p->∃o,ops[p]?=some o/\iv[j]?=some (p,X (i+j),W (i+j))/\mr P H call f nt ops base aM (i+j) o (S (i+j)) (V (i+j)) (X (i+j)) (W (i+j)) (S (i+j+1))
 | [],i,s,r,iv,h=>by
  simp only[rr,oi,pj]at h;obtain⟨rfl,rfl⟩:=h;exact⟨fun _=>s,fun _=>undef,fun _=>.none,fun _=>false,rfl,rfl,rfl,fun j p h=>by simp at h⟩
 |p :: l,i,s,r,iv,h=>by
  simp only[rr]at h;have comb:∀(o:Oper) (v:Value) (x:FP) (wr:Bool) (s2:St) (vT:List (Nat×FP×Bool)),ops[p]?=some o->mr P H call f nt ops base aM i o s v x wr s2->rr P H call f nt ops base aM l (i+1) s2=some (r,vT)->iv=(p,x,wr) :: vT->
    ∃(S:Nat->St) (V:Nat->Value) (X:Nat->FP) (W:Nat->Bool),S i=s/\S (i+(p :: l).length)=r/\iv.length=(p :: l).length /\
     ∀j q,(p :: l)[j]?=some q->∃o,ops[q]?=some o/\iv[j]?=some (q,X (i+j),W (i+j))/\mr P H call f nt ops base aM (i+j) o (S (i+j)) (V (i+j)) (X (i+j)) (W (i+j)) (S (i+j+1)):=by
   intro o v x wr s2 vT ho hs hr hf;subst hf;obtain⟨S,V,X,W,e1,e2,e3,e4⟩:=xZ l (i+1) s2 r vT hr;refine⟨fun k=>if k=i then s else S k,fun k=>if k=i then v else V k,fun k=>if k=i then x else X k,fun k=>if k=i then wr else W k,by simp,?_,by simp[e3],?_⟩
   ·have:¬i+(p :: l).length=i:=by simp
    simp only[this,if_false];rw[<-e2];congr 1;simp;omega
   ·intro j q hj
    cases j with
    |zero=>
     simp at hj;subst hj;refine⟨o,ho,by simp,?_⟩;simp only[Nat.add_zero,if_true,show ¬i+1=i by omega,if_false,e1];exact hs
    |succ j=>
     simp only[List.getElem?_cons_succ]at hj;obtain⟨o',f1,f2,f3⟩:=e4 j q hj;have e5:i+1+j=i+(j+1):=om
     rw[e5]at f2 f3;refine⟨o',f1,?_,?_⟩
     ·simp only[List.getElem?_cons_succ,show ¬i+(j+1)=i by omega,if_false];exact f2
     ·simp only[show ¬i+(j+1)=i by omega,show ¬i+(j+1)+1=i by omega,if_false];exact f3
  split at h
  ·cases h
  ·rename_i o ho
   split at h
   ·rename_i hw
    split at h
    ·rename_i v s1 h1
     split at h
     ·rename_i s2 h2
      split at h
      ·rename_i r' vT h3
       simp only[oi,pj]at h;obtain⟨rfl,h4⟩:=h;exact comb o v _ _ s2 vT ho (.inl ⟨hw,s1,h1,h2,rfl,rfl⟩) h3 h4.symm
      ·cases h
     ·cases h
    ·cases h
   ·rename_i hw
    split at h
    ·rename_i s2 h2
     split at h
     ·rename_i r' vT h3
      simp only[oi,pj]at h;obtain⟨rfl,h4⟩:=h;exact comb o undef .none false s2 vT ho (.inr ⟨hw,h2,rfl,rfl,rfl⟩) h3 h4.symm
     ·cases h
    ·cases h
   ·cases h
end
theorem te{P:Program}{H:Hint}{call:cF}{f:FuncId}{id tag:Nat}{o:Oper}{s s':St}{v:Value}(hx:(dM o.op (eO H f o) id tag s).fj=true)(h:jA P H call f id tag o s=some (v,s')) :
  s' = { s with h:=s'.h }/\(∀s3:St,s3.env=s.env->s3.h=s.h->jA P H call f id tag o s3=some (v,{ s3 with h:=s'.h }))/\(aY call->∀B,B<=s.h.next->bM B s.h s'.h):=by
 unfold jA at h;split at h
 ·rename_i c hc
  have h0:=h;unfold jF at h;split at h
  ·rename_i g args hg
   split at h
   ·rename_i u h' hr
    simp only[oi,pj]at h;obtain⟨rfl,rfl⟩:=h;refine⟨rfl,fun s3 he hh=>?_,fun hk B hB=>pO hk hB h0⟩;have e1:kR s3 c=kR s c:=by unfold kR;rw[bW he,ig he]
    unfold jA;rw[hc];simp only[jF,e1,hg,hh,hr]
   ·cases h
  ·cases h
 ·rename_i hc
  have WK:∀op,gp P (s.newAt id tag) (eO H f o) op s=some (v,s')->(dM op (eO H f o) id tag s).fj=true->
    s' = { s with h:=s'.h }/\(∀s3:St,s3.env=s.env->s3.h=s.h->gp P (s3.newAt id tag) (eO H f o) op s3=some (v,{ s3 with h:=s'.h }))/\(∀B,B<=s.h.next->bM B s.h s'.h):=by
   intro op h hx;unfold gp at h;split at h
   all_goals first|(exfalso;simp[dM,bN,FP.fj]at hx;done)|skip
   ·exfalso;revert hx;unfold dM;cases eO H f o<;>simp[bN,FP.fj]
   ·exfalso;revert hx;unfold dM;cases eO H f o<;>simp[bN,FP.fj]
   ·rename_i t x
    split at h
    ·rename_i a hu;exfalso;simp[dM,bN,hu,FP.fj]at hx
    ·cases h
   ·rename_i t x y
    split at h
    ·rename_i a u hu _;exfalso;simp[dM,bN,hu,FP.fj]at hx
    ·cases h
   ·exfalso
    revert hx
    simp only[dM,bN,cond_false];split
    ·rename_i a9 n9 c9 e9
     cases a9.spot.isNone<;>simp[FP.fj]
    ·simp[FP.fj]
   ·rename_i b args argTypes
    split at h
    ·rename_i l hl
     split at h
     ·exfalso;simp[dM,bN,FP.fj]at hx
     ·exfalso;simp[dM,bN,FP.fj]at hx
     ·exfalso;simp[dM,bN,FP.fj]at hx
     ·exfalso;simp[dM,bN,FP.fj]at hx
     ·obtain⟨h',h1,rfl⟩:=bj h
      refine⟨rfl,fun s3 he hh=>?_,fun B hB=>tc hB h1⟩;simp only[gp,ig he,hl,hh,h1,bT]
     ·obtain⟨h',h1,rfl⟩:=bj h
      refine⟨rfl,fun s3 he hh=>?_,fun B hB=>xV h1⟩;simp only[gp,ig he,hl,hh,h1,bT]
     ·obtain⟨h',h1,rfl⟩:=bj h
      refine⟨rfl,fun s3 he hh=>?_,fun B hB=>vp h1⟩;simp only[gp,ig he,hl,hh,h1,bT]
     ·cases h
    ·cases h
   ·obtain⟨h',h1,rfl⟩:=bj h
    simp only[oi,pj]at h1;obtain⟨rfl,rfl⟩:=h1;exact⟨rfl,fun s3 he hh=>by simp only[gp,hh,bT],fun B hB=>.gT hB _⟩
   ·split at h
    ·rename_i u1 u2 g1 g2
     obtain⟨h',h1,rfl⟩:=bj h;refine⟨rfl,fun s3 he hh=>?_,fun B hB=>ta h1⟩;simp only[gp,bW he,g1,g2,hh,h1,bT]
    ·cases h
   ·split at h
    ·rename_i u1 u2 u3 g1 g2 g3
     obtain⟨h',h1,rfl⟩:=bj h;refine⟨rfl,fun s3 he hh=>?_,fun B hB=>nS h1⟩;simp only[gp,bW he,g1,g2,g3,hh,h1,bT]
    ·cases h
   ·split at h
    ·rename_i u1 u2 u3 g1 g2 g3
     obtain⟨h',h1,rfl⟩:=bj h;refine⟨rfl,fun s3 he hh=>?_,fun B hB=>nS h1⟩;simp only[gp,bW he,g1,g2,g3,hh,h1,bT]
    ·cases h
   ·cases h
  obtain⟨e1,e2,e3⟩:=WK o.op h hx;refine⟨e1,fun s3 he hh=>?_,fun _=>e3⟩;unfold jA;rw[hc];exact e2 s3 he hh
theorem zX{h:af}{b c es:Nat}{cs:List Value}(hb:b<h.next)(hc:b≠c):((h.kill c).push es cs).m.get b=h.m.get b:=by
 show((h.m.set c _).set h.next _).get b=_;rw[cQ.aK _ _ om,cQ.aK _ _ om]
theorem BI{P:Program}{h h':af}{ts:List TypeId}{x:Value}{r:List Value}{v:Value}(hh:cO P h ts (x :: r)=some (v,h')){b:Nat}(hb:b<h.next)(dS:b≠DJ (some x)):h'.m.get b=h.m.get b:=by
 unfold cO at hh;split at hh
 ·rename_i t xt base len c' y heq
  simp only[List.cons.injEq]at heq;obtain⟨rfl,rfl⟩:=heq;have ps:∀(es:Nat) (cs:List Value),(h.push es cs).m.get b=h.m.get b:=fun es cs=>by
   show(h.m.set h.next _).get b=_;rw[cQ.aK _ _ om]
  cases base with
  |none=>
   simp only[Bool.cond_eq_ite]at hh;repeat' split at hh
   all_goals first
    |(cases hh;done)
    |(simp only[oi,pj]at hh;obtain⟨_,rfl⟩:=hh;rfl)
    |(simp only[oi,pj]at hh;obtain⟨_,rfl⟩:=hh;exact ps _ _)
  |some a=>
   have dS:b≠a.block:=dS;have wr:∀{h1:af} {o:Nat} {vs:List Value},h.write a.block o vs=some h1->h1.m.get b=h.m.get b:=by
    intro h1 o vs hw;unfold af.write at hw;repeat' split at hw
    all_goals first
     |(cases hw;done)
     |(simp only[oi]at hw;subst hw;show(h.m.set _ _).get b=_;rw[cQ.aK _ _ (fun e=>dS e.symm)])
   have wg:∀{h1:af} {n:Nat} {vs:List Value},h.iu (fV a n) vs=some h1->h1.m.get b=h.m.get b:=by
    intro h1 n vs hw;unfold af.iu at hw;simp only[fV,Bool.cond_eq_ite]at hw;repeat' split at hw
    all_goals first
     |(cases hw;done)
     |exact wr hw
   simp only[Bool.cond_eq_ite]at hh;repeat' split at hh
   all_goals first
    |(cases hh;done)
    |(simp only[oi,pj]at hh;obtain⟨_,rfl⟩:=hh;rfl)
    |(simp only[oi,pj]at hh;obtain⟨_,rfl⟩:=hh;exact zX hb dS)
    |(simp only[oi,pj]at hh;obtain⟨_,rfl⟩:=hh;exact ps _ _)
    |(simp only[oi,pj]at hh;obtain⟨_,rfl⟩:=hh;exact wg (by assumption))
 ·cases hh
theorem JW{P:Program}{H:Hint}{call:cF}{f:FuncId}{id tag:Nat}{o:Oper}{s s':St}{v:Value}{c:Nat}(hx:dM o.op (eO H f o) id tag s=.app c)(h:jA P H call f id tag o s=some (v,s')){b:Nat}(hb:b<s.h.next)(dS:b≠c):s'.h.m.get b=s.h.m.get b:=by
 have key:∀op,dM op (eO H f o) id tag s=.app c->∃args ts,op=.call { callee:=.builtin .append,args:=args,argTypes:=ts }/\DJ (DK s args.toList)=c:=by
  intro op hx;unfold dM at hx;cases hp:bN op with
  |true=>rw[hp]at hx;cases hx
  |false=>
   rw[hp]at hx;simp only[cond_false]at hx;split at hx
   ·cases hl:eO H f o<;>rw[hl]at hx<;>cases hx
   ·cases hl:eO H f o<;>rw[hl]at hx<;>cases hx
   ·cases hx
   ·cases hx
   ·split at hx<;>cases hx
   ·split at hx<;>cases hx
   ·split at hx
    ·rename_i a _ _ _
     cases hn:a.spot.isNone<;>rw[hn]at hx<;>cases hx
    ·cases hx
   ·rename_i args ts
    exact⟨args,ts,rfl,by simpa using hx⟩
   ·cases hx
 obtain⟨args,ts,ho,rfl⟩:=key o.op hx;unfold jA at h;rw[ho]at h;have hc:dN (.call { callee:=.builtin .append,args:=args,argTypes:=ts })=none:=rfl;rw[hc]at h;have h:gp P (s.newAt id tag) (eO H f o) (.call { callee:=.builtin .append,args:=args,argTypes:=ts }) s=some (v,s'):=h;simp only[gp]at h;split at h
 ·rename_i l hl
  obtain⟨h',h1,rfl⟩:=bj h;cases ha:args.toList with
  |nil=>
   rw[ha]at hl;simp only[gU,oi]at hl;subst hl;unfold cO at h1;split at h1
   ·rename_i heq;cases heq
   ·cases h1
  |cons x r=>
   rw[ha]at dS hl;have:∃u l',l=u :: l'/\bL s x=some u:=by
    unfold gU at hl;split at hl
    ·rename_i u e1
     split at hl
     ·cases hl
      exact⟨u,_,rfl,e1⟩
     ·cases hl
    ·cases hl
   obtain⟨u,l',rfl,hu⟩:=this;refine BI h1 hb ?_;have e:DK s (x :: r)=some u:=hu;rw[e]at dS;exact dS
 ·cases h
theorem AQ{P:Program}{H:Hint}{call:cF}(fy:gQ P call){f:FuncId}{J:dH}{s s':St}{w:World}{a:Act}{id tag:Nat}{o:Oper}{v:Value}(hR:HR J s w)(hM:AL J s w (s.newAt id tag))(hE:oU J s a o.op.operands.toList)(h:jA P H call f id tag o s=some (v,s')) :
  BG P J s w a o v s' (fun k=>(DH o.op (eO H f o)=true/\k=id)\/s.h.next<=k) (fun t=>DI o.op (eO H f o)=true/\t=tag):=by
 unfold jA at h;split at h
 ·rename_i c hc
  intro K Q hK ro;exact vo fy hR (pM hc) hE h K Q (fun c w' J' a1 a2 a3 a4 a5 a6=>hK c w' J' a1 a2 a3 a4 (a5.mono (fun _=>.inr)) (a6.mono (fun _ q=>q.elim))) ro
 ·intro K Q hK ro
  refine(Ik hR hM hE Mw h).TB (vm h) K Q (ro:=ro) (fun c w' J' a1 a2 a3 a4 a5 a6=>hK c w' J' a1 a2 a3 a4 (a5.mono ?_) (a6.mono ?_))
  ·rintro k (⟨q,es,cells,s9,h9⟩|⟨_,h9⟩)
   ·left
    refine⟨q,?_⟩;unfold St.newAt at h9;simp only[Bool.cond_eq_ite]at h9;split at h9
    ·simp at h9;exact h9.1.symm
    ·cases h9
   ·exact .inr h9
  ·rintro t ⟨q,es,cells,s9,h9⟩
   refine⟨q,?_⟩;unfold St.newAt at h9;simp only[Bool.cond_eq_ite]at h9;split at h9
   ·simp at h9;exact h9.1.symm
   ·cases h9
end Go.cL
namespace Go.cL
structure Tr(P:Program)(H:Hint)(call:cF)(f:FuncId)(nt:Nat)(ops:Array Oper)(base aM:Nat)(l:List Nat)(S:Nat->St)(V:Nat->Value)(X:Nat->FP)(W:Nat->Bool):Prop where
 len:l.length=ops.size
 step:∀(i p:Nat),l[i]?=some p->∃o,ops[p]?=some o/\mr P H call f nt ops base aM i o (S i) (V i) (X i) (W i) (S (i+1))
 P3:∀(i k p q:Nat),i<k->l[i]?=some p->l[k]?=some q->p≠q
 TH:∀(i k p q:Nat) (o o':Oper),i<k->l[i]?=some p->l[k]?=some q->ops[p]?=some o->ops[q]?=some o'->(shares ops o o'=true\/cB (base+ops.size) (X i) (W i) (X k) (W k)=true)->prec (Region.before ops) p q=true
 dR:base+ops.size<=(S 0).h.next
 kn:(S 0).kn=aM+ops.size
 dF:aY call
def ya(S:Nat->St)(X:Nat->FP)(W:Nat->Bool)(j id:Nat):Prop:=(X j=.block false id/\W j=true)\/X j=.new false id\/((X j).fj=true/\((W j=true/\(X j).LX id=true)\/(S j).h.next<=id))
def BJ(X:Nat->FP)(W:Nat->Bool)(j t:Nat):Prop:=(X j=.block true t/\W j=true)\/X j=.new true t
section
variable{P:Program}{H:Hint}{call:cF}{f:FuncId}{nt:Nat}{ops:Array Oper}{base aM:Nat}{l:List Nat}{S:Nat->St}{V:Nat->Value}{X:Nat->FP}{W:Nat->Bool}
theorem nU{o:Oper}{c:Call}{loc:Bool}{id tag:Nat}{s:St}(h:dN o.op=some c):dM o.op loc id tag s=.all:=by
 have hc:=pM h;unfold dN at h;rw[hc]at h ⊢;simp only[]at h;cases hx:c.callee with
 |value x=>cases c;simp only at hx;subst hx;rfl
 |invoke _ _=>rw[hx]at h;simp at h
 |builtin _=>rw[hx]at h;simp at h
theorem gI{o:Op}{loc:Bool}{id tag:Nat}{s:St}:dM o loc id tag s.fresh=dM o loc id tag s:=by
 unfold dM;have e:∀l,DK s.fresh l=DK s l:=fun l=>by cases l<;>first|rfl|exact bW rfl
 simp only[bW (s:=s) (s2:=s.fresh) rfl,e]
structure P4(i:Nat)(o:Oper)(s:St)(v:Value)(x:FP)(wr:Bool)(s':St):Prop where
 env:∀t,s'.env.get t=if o.dst=some t then some v else s.env.get t
 kn:s'.kn=s.kn
 next:s.h.next<=s'.h.next
 TI:x.fj=false->s'.h.next=s.h.next
 low:s'.h.low<=s.h.low
theorem mr.sum(hk:aY call){i:Nat}{o:Oper}{s s':St}{v:Value}{x:FP}{wr:Bool}(h:mr P H call f nt ops base aM i o s v x wr s'):P4 i o s v x wr s':=by
 have zV:∀(s0:St) (u:Value),rX nt s0 o.dst u=some s'->∀t,s'.env.get t=if o.dst=some t then some u else s0.env.get t:=by
  intro s0 u hp t;rcases mX hp with ⟨h1,rfl⟩|⟨d,h1,_,rfl⟩
  ·simp[h1]
  ·simp only[h1,cQ.bO,oi]
 rcases h with ⟨_,s1,h1,h2,rfl,rfl⟩|⟨_,h2,rfl,rfl,rfl⟩
 ·by_cases hA:(dM o.op (eO H f o) (base+i) (aM+i) s).fj=true
  ·obtain⟨e1,_,e3⟩:=te (by rw[gI];exact hA) h1
   have k:=jr (e3 hk 0 (Nat.zero_le _));refine⟨fun t=>?_,?_,?_,fun q=>absurd (hA.symm.trans q) (by decide),?_⟩
   ·rw[zV _ _ h2 t];rw[e1];rfl
   ·rw[cK h2,e1];rfl
   ·rw[cK h2];exact k.next
   ·rw[cK h2];exact k.low
  ·have hc:dN o.op=none:=by
    cases hc:dN o.op with
    |none=>rfl
    |some c=>exact absurd (by rw[nU hc];rfl) hA
   unfold jA at h1;rw[hc]at h1;obtain⟨E,e1,e2,_⟩:=v9 (by rw[gI];simpa using hA) h1;have Zl:s1.env=s.env/\s1.kn=s.kn/\s1.h.next=s.h.next:=by
    rw[e1];cases E<;>exact⟨rfl,rfl,rfl⟩
   refine⟨fun t=>?_,?_,?_,fun _=>?_,?_⟩
   ·rw[zV _ _ h2 t];simp only[St.aw,Zl.1]
   ·rw[cK h2];exact Zl.2.1
   ·rw[cK h2];simp only[St.aw,Zl.2.2];exact Nat.le_refl _
   ·rw[cK h2];exact Zl.2.2
   ·rw[cK h2];exact Nat.min_le_left _ _
 ·refine⟨fun t=>zV _ _ h2 t,?_,?_,fun _=>?_,?_⟩
  ·rw[cK h2]
  ·rw[cK h2];exact Nat.le_refl _
  ·rw[cK h2]
  ·rw[cK h2];exact Nat.le_refl _
theorem mr.WL(hk:aY call){i:Nat}{o:Oper}(h:mr P H call f nt ops base aM i o (S i) (V i) (X i) (W i) (S (i+1))){id:Nat}(hm:¬ya S X W i id):(S (i+1)).h.m.get id=(S i).h.m.get id:=by
 rcases h with ⟨_,s1,h1,h2,hx,hw⟩|⟨_,h2,_,hx,hw⟩
 ·rw[cK h2]
  show s1.h.m.get id=_;by_cases hA:(X i).fj=true
  ·obtain⟨e1,_,e3⟩:=te (by rw[gI,<-hx];exact hA) h1
   have dV:id<(S i).h.next:=by
    rcases Nat.lt_or_ge id (S i).h.next with q|q
    ·exact q
    ·exact absurd (.inr (.inr ⟨hA,.inr q⟩)) hm
   cases hh:(X i).LX id with
   |false=>
    cases hX:X i with
    |app c=>
     rw[hX]at hh;exact JW (by rw[gI,<-hx];exact hX) h1 dV (fun e=>by rw[e]at hh;simp[FP.LX]at hh)
    |all=>rw[hX]at hh;cases hh
    |none=>rw[hX]at hh;cases hh
    |block _ _=>rw[hX]at hh;cases hh
    |new _ _=>rw[hX]at hh;cases hh
   |true=>
   have hwf:W i=false:=by
    cases hq:W i with
    |false=>rfl
    |true=>exact absurd (.inr (.inr ⟨hA,.inl ⟨hq,hh⟩⟩)) hm
   have aq:(S i).h.next<=s1.h.low:=by
    rw[hwf]at hw;have:=hw.symm;simp only[Bool.or_eq_false_iff]at this;rcases Nat.lt_or_ge s1.h.low (S i).h.next with q|q
    ·rw[dU q]at this;cases this.2
    ·exact q
   exact(e3 hk (S i).h.next (Nat.le_refl _)).get id dV om
  ·have hc:dN o.op=none:=by
    cases hc:dN o.op with
    |none=>rfl
    |some c=>exact absurd (by rw[hx,nU hc];rfl) hA
   unfold jA at h1;rw[hc]at h1;obtain⟨E,e1,e2,_⟩:=v9 (by rw[gI,<-hx];simpa using hA) h1;rw[gI,<-hx]at e2;rw[e1];cases E with
   |idle=>rfl
   |mJ t cs=>rfl
   |nT b dx lw=>
    have dS:b≠id:=by
     intro e;subst e;rcases e2 with ⟨q1,q2,_⟩|⟨q1,_⟩
     ·exact hm (.inl ⟨q1,by rw[hw,q2];rfl⟩)
     ·exact hm (.inr (.inl q1))
    show((S i).fresh.h.m.set b dx).get id=_;rw[cQ.aK _ _ dS];rfl
 ·rw[cK h2]
theorem mr.aap{i:Nat}{o:Oper}(h:mr P H call f nt ops base aM i o (S i) (V i) (X i) (W i) (S (i+1))){t:Nat}(hm:¬BJ X W i t):(S (i+1)).K.get t=(S i).K.get t:=by
 rcases h with ⟨_,s1,h1,h2,hx,hw⟩|⟨_,h2,_,hx,hw⟩
 ·rw[cK h2]
  show s1.K.get t=_;by_cases hA:(X i).fj=true
  ·obtain⟨e1,_,_⟩:=te (by rw[gI,<-hx];exact hA) h1
   rw[e1];rfl
  ·have hc:dN o.op=none:=by
    cases hc:dN o.op with
    |none=>rfl
    |some c=>exact absurd (by rw[hx,nU hc];rfl) hA
   unfold jA at h1;rw[hc]at h1;obtain⟨E,e1,e2,_⟩:=v9 (by rw[gI,<-hx];simpa using hA) h1;rw[gI,<-hx]at e2;rw[e1];cases E with
   |idle=>rfl
   |nT b dx lw=>rfl
   |mJ b cs=>
    have dS:b≠t:=by
     intro e;subst e;rcases e2 with ⟨q1,q2⟩|⟨q1,_⟩
     ·exact hm (.inl ⟨q1,by rw[hw,q2];rfl⟩)
     ·exact hm (.inr q1)
    show((S i).fresh.K.set b cs).get t=_;rw[cQ.aK _ _ dS];rfl
 ·rw[cK h2]
variable(T:Tr P H call f nt ops base aM l S V X W)
include T
theorem Tr.at{i:Nat}(h:i<ops.size):∃p o,l[i]?=some p/\ops[p]?=some o/\mr P H call f nt ops base aM i o (S i) (V i) (X i) (W i) (S (i+1)):=by
 have hl:i<l.length:=by rw[T.len];exact h
 obtain⟨o,h1,h2⟩:=T.step i l[i] (by simp[hl]);exact⟨l[i],o,by simp[hl],h1,h2⟩
theorem Tr.TJ:∀i,i<=ops.size->(S i).kn=aM+ops.size
 |0,_=>T.kn
 |i+1,h=>by
  obtain⟨p,o,_,_,hs⟩:=T.at (i:=i) om;rw[(hs.sum T.dF).kn,Tr.TJ i om]
theorem Tr.yb:∀i,i<=ops.size->base+ops.size<=(S i).h.next
 |0,_=>T.dR
 |i+1,h=>by
  obtain⟨p,o,_,_,hs⟩:=T.at (i:=i) om;exact Nat.le_trans (Tr.yb i om) (hs.sum T.dF).next
theorem Tr.Il:∀d i,i+d<=ops.size->(S (i+d)).h.low<=(S i).h.low
 |0,i,_=>Nat.le_refl _
 |d+1,i,h=>by
  obtain⟨p,o,_,_,hs⟩:=T.at (i:=i+d) om;exact Nat.le_trans (hs.sum T.dF).low (Tr.Il d i om)
theorem Tr.wa{id:Nat}:∀d i,i+d<=ops.size->(∀j,i<=j->j<i+d->¬ya S X W j id)->(S (i+d)).h.m.get id=(S i).h.m.get id
 |0,i,_,_=>rfl
 |d+1,i,h,hm=>by
  obtain⟨p,o,_,_,hs⟩:=T.at (i:=i+d) om;have:=hs.WL T.dF (hm (i+d) om om);rw[show i+(d+1)=i+d+1 by omega,this];exact Tr.wa d i om (fun j h1 h2=>hm j h1 om)
theorem Tr.BK{t:Nat}:∀d i,i+d<=ops.size->(∀j,i<=j->j<i+d->¬BJ X W j t)->(S (i+d)).K.get t=(S i).K.get t
 |0,i,_,_=>rfl
 |d+1,i,h,hm=>by
  obtain⟨p,o,_,_,hs⟩:=T.at (i:=i+d) om;have:=hs.aap (hm (i+d) om om);rw[show i+(d+1)=i+d+1 by omega,this];exact Tr.BK d i om (fun j h1 h2=>hm j h1 om)
theorem Tr.BL{t:Nat}:∀d i,i+d<=ops.size->(∀j p o,i<=j->j<i+d->l[j]?=some p->ops[p]?=some o->o.dst≠some t)->(S (i+d)).env.get t=(S i).env.get t
 |0,i,_,_=>rfl
 |d+1,i,h,hm=>by
  obtain⟨p,o,hp,ho,hs⟩:=T.at (i:=i+d) om;have:=(hs.sum T.dF).env t;rw[if_neg (hm (i+d) p o om om hp ho)]at this;rw[show i+(d+1)=i+d+1 by omega,this];exact Tr.BL d i om (fun j p o h1 h2=>hm j p o h1 om)
theorem Tr.BM:∀d i,i+d<=ops.size->(∀j,i<=j->j<i+d->(X j).fj=false)->(S (i+d)).h.next=(S i).h.next
 |0,i,_,_=>rfl
 |d+1,i,h,hm=>by
  obtain⟨p,o,hp,ho,hs⟩:=T.at (i:=i+d) om;have:=(hs.sum T.dF).TI (hm (i+d) om om);rw[show i+(d+1)=i+d+1 by omega,this];exact Tr.BM d i om (fun j h1 h2=>hm j h1 om)
end
structure Inv(ops:Array Oper)(base aM:Nat)(l:List Nat)(S:Nat->St)(X:Nat->FP)(W:Nat->Bool)(J0:dH)(s0:St)(w0:World)(a0:Act)(E:Nat->Prop)(a:Act)(w:World)(J:dH)(s2:St):Prop where
 kn:s2.kn=aM+ops.size
 next:∀k,k<=ops.size->(∀(j p:Nat),l[j]?=some p->(X j).fj=true->(E p↔j<k))->s2.h.next=(S k).h.next
 dR:base+ops.size<=s2.h.next
 g:∀id L k,k<=ops.size->J.g id=some L->(∀(j p:Nat),l[j]?=some p->ya S X W j id->(E p↔j<k))->s2.h.m.get id=(S k).h.m.get id
 lk:∀t L k,k<=ops.size->J.l t=some L->(∀(j p:Nat),l[j]?=some p->BJ X W j t->(E p↔j<k))->s2.K.get t=(S k).K.get t
 low:(S ops.size).h.low<=s2.h.low
 rz:Good J0 s0 w0 J s2 w
 Ec:fD (base<=·) J0.g J.g
 BN:∀(j p:Nat),l[j]?=some p->(J.g (base+j)).isSome=true->E p
 Ed:∀(j p:Nat),l[j]?=some p->(J.l (aM+j)).isSome=true->E p
 env:∀t v k,k<=ops.size->(∀(j p:Nat) (o:Oper),l[j]?=some p->ops[p]?=some o->o.dst=some t->(E p↔j<k))->(S k).env.get t=some v->t<a.tmps.size/\VR J v (a.tmps.getD t undef)
 size:a.tmps.size=a0.tmps.size
 defers:a.defers=a0.defers
theorem Good.P5{J J':dH}{s t s':St}{w w':World}(h:Good J s w J' s' w')(hn:t.h.next=s.h.next)(hl:s'.h.low<=t.h.low):Good J t w J' s' w':=
 { hr:=h.hr,mono:=h.mono,next:=by rw[hn];exact h.next,low:=hl,size:=h.size,os:=h.os,tape:=h.tape,output:=h.output,fresh:=h.fresh,cI:=h.cI,frame:=h.frame }
theorem Good.lower {J J' : dH} {s s' : St} {w w' : World} (h : Good J s w J' s' w') {lo : Nat} (hl : lo ≤ s'.h.low) : Good J s w J' { s' with h := { s'.h with low := lo } } w' :=
  { hr := { cS := h.hr.cS, di := h.hr.di, cH := h.hr.cH, dj := h.hr.dj, dX := h.hr.dX, dP := h.hr.dP, dZ := h.hr.dZ, sep := h.hr.sep }
    mono := h.mono, next := h.next, low := Nat.le_trans hl h.low, size := h.size, os := h.os, tape := h.tape, output := h.output
    fresh := fun id L h1 h2 => (h.fresh id L h1 h2).imp (fun q => q) (fun ⟨a, b, c, d, e⟩ => ⟨a, b, c, d, Nat.le_trans hl e⟩)
    cI := h.cI, frame := fun b hb hg hll => h.frame b hb (fun id L h1 h2 => Nat.lt_of_lt_of_le (hg id L h1 h2) hl) hll }
end Go.cL
namespace Go.cL
theorem HR.swap {J : dH} {s s' : St} {w : World} (h : HR J s w) (hn : s.h.next ≤ s'.h.next) (hk : s.kn ≤ s'.kn) (hg : ∀ id L, J.g id = some L → s'.h.m.get id = s.h.m.get id) (hl : ∀ t L, J.l t = some L → s'.K.get t = s.K.get t) : HR J s' w :=
  { cS := fun id L hL => Nat.lt_of_lt_of_le (h.cS id L hL) hn
    di := h.di
    cH := fun id L b hL hm => h.cH id L b hL (by rw [← hg id L hL]; exact hm)
    dj := fun id pD L L' b b' h1 h2 h3 h4 => h.dj id pD L L' b b' h1 h2 (by rw [← hg id L h1]; exact h3) (by rw [← hg pD L' h2]; exact h4)
    dX := fun t L hL => Nat.lt_of_lt_of_le (h.dX t L hL) hk
    dP := fun t L hL => let ⟨cs, e, h1, h2⟩ := h.dP t L hL; ⟨cs, e, h1, fun cells hc => h2 cells (by rw [← hl t L hL]; exact hc)⟩
    dZ := h.dZ
    sep := h.sep }
theorem Good.swap {J0 J : dH} {s0 s s' : St} {w0 w : World} (h : Good J0 s0 w0 J s w) (hn : s.h.next ≤ s'.h.next) (hk : s.kn ≤ s'.kn) (hg : ∀ id L, J.g id = some L → s'.h.m.get id = s.h.m.get id) (hl : ∀ t L, J.l t = some L → s'.K.get t = s.K.get t) (aq : s'.h.low ≤ s.h.low) : Good J0 s0 w0 J s' w :=
  { hr := h.hr.swap hn hk hg hl, mono := h.mono, next := Nat.le_trans h.next hn, low := Nat.le_trans aq h.low, size := h.size, os := h.os, tape := h.tape, output := h.output
    fresh := fun id L h1 h2 => (h.fresh id L h1 h2).imp (fun q => q) (fun ⟨a, b, c, d, e⟩ => ⟨a, b, c, d, Nat.le_trans aq e⟩)
    cI := h.cI, frame := fun b hb hg hll => h.frame b hb (fun id L h1 h2 => Nat.lt_of_lt_of_le (hg id L h1 h2) aq) hll }
theorem MA{op:Op}{loc:Bool}{id tag:Nat}{s:St}{l:Bool}{b:Nat}(h:dM op loc id tag s=.block l b):∃x a,x∈op.operands.toList/\(bL s x=some (.pointer (some a))\/∃n c,bL s x=some (.slice (some a) n c)/\a.spot=none)/\a.spot.isSome=l/\a.block=b:=by
 unfold dM at h;cases hp:bN op with
 |true=>rw[hp]at h;simp at h
 |false=>
  rw[hp]at h;simp only[cond_false]at h;split at h
  ·cases loc<;>simp at h
  ·cases loc<;>simp at h
  ·cases h
  ·cases h
  ·rename_i t x
   split at h
   ·rename_i a ha
    simp only[FP.block.injEq]at h;exact⟨x,a,by simp[Op.operands],.inl ha,h.1,h.2⟩
   ·cases h
  ·rename_i t x y
   split at h
   ·rename_i a ha
    simp only[FP.block.injEq]at h;exact⟨x,a,by simp[Op.operands],.inl ha,h.1,h.2⟩
   ·cases h
  ·rename_i src dst x
   split at h
   ·rename_i a n c ha
    cases jI:a.spot with
    |some y=>simp[jI]at h
    |none=>
     simp only[jI,Option.isNone_none,cond_true,FP.block.injEq]at h;exact⟨x,a,by simp[Op.operands],.inr ⟨n,c,ha,jI⟩,by rw[jI];exact h.1,h.2⟩
   ·cases h
  ·cases h
  ·cases h
theorem Im{op:Op}{loc:Bool}{id tag:Nat}{s:St}(h:DH op loc=true):dM op loc id tag s=.new false id:=by
 unfold DH at h;split at h
 ·cases loc<;>simp at h;rfl
 ·cases loc<;>simp at h;rfl
 ·rfl
 ·rfl
 ·cases h
theorem Io{op:Op}{loc:Bool}{id tag:Nat}{s:St}(h:DI op loc=true):dM op loc id tag s=.new true tag:=by
 unfold DI at h;split at h
 ·subst h;rfl
 ·subst h;rfl
 ·cases h
theorem TK{op:Op}{loc:Bool}{id tag:Nat}{s:St}{l:Bool}{b:Nat}(h:dM op loc id tag s=.new l b):b=bif l then tag else id:=by
 unfold dM at h;cases hp:bN op with
 |true=>rw[hp]at h;simp at h
 |false=>
  rw[hp]at h;simp only[cond_false]at h;split at h
  ·cases loc<;>simp at h<;>obtain⟨rfl,rfl⟩:=h<;>rfl
  ·cases loc<;>simp at h<;>obtain⟨rfl,rfl⟩:=h<;>rfl
  ·simp at h;obtain⟨rfl,rfl⟩:=h;rfl
  ·simp at h;obtain⟨rfl,rfl⟩:=h;rfl
  ·split at h<;>cases h
  ·split at h<;>cases h
  ·exfalso
   split at h
   ·simp only[Bool.cond_eq_ite]at h
    split at h<;>cases h
   ·cases h
  ·cases h
  ·cases h
theorem Ip{ops:Array Oper}{x y:Oper}{d:Tmp}(hx:x.dst=some d)(hy:d∈y.looksAt ops\/y.dst=some d):shares ops x y=true:=by
 unfold shares;rw[hx];simp only[Bool.or_eq_true];left;rcases hy with h|h
 ·left;simpa using h
 ·right;simp[h]
theorem P6{ops:Array Oper}{x y:Oper}{d:Tmp}(hy:y.dst=some d)(hx:d∈x.looksAt ops\/x.dst=some d):shares ops x y=true:=by
 rcases hx with h|h
 ·unfold shares
  rw[hy];simp only[Bool.or_eq_true];right;simpa using h
 ·exact Ip h (.inr hy)
theorem dI(l:Bool)(b:Nat):same l l b b=true:=by cases l<;>simp[same,Nat.beq_refl]
theorem cY{dR:Nat}{x y:FP}{wx wy:Bool}(hx:x.fj=true)(hy:y≠.none):cB dR x wx y wy=true:=by
 cases x<;>cases y<;>first|rfl|(exact absurd rfl hy)|(cases hx)
theorem j9{dR b:Nat}{y:FP}{wx wy:Bool}(hy:y.fj=true)(h:wx=true\/(wy=true/\y.LX b=true)\/dR<=b):cB dR (.block false b) wx y wy=true:=by
 cases y with
 |all=>
  rcases h with h|h|h
  ·simp[cB,h]
  ·simp[cB,h.1]
  ·simp only[cB,Bool.not_false,Bool.true_and];rw[cT h];simp
 |app c=>
  rcases h with h|⟨h1,h2⟩|h
  ·simp[cB,h]
  ·have e2:Nat.beq b c=true:=h2
   simp[cB,h1,e2]
  ·simp only[cB,Bool.not_false,Bool.true_and];rw[cT h];simp
 |none=>cases hy
 |block _ _=>cases hy
 |new _ _=>cases hy
theorem AR{dR b:Nat}{l:Bool}{y:FP}{wx wy:Bool}(hy:y.fj=true)(h:wy=true/\y.LX b=true):cB dR (.new l b) wx y wy=true:=by
 cases y with
 |all=>simp[cB,h.1]
 |app c=>
  have e2:Nat.beq b c=true:=h.2;simp[cB,h.1,e2]
 |none=>cases hy
 |block _ _=>cases hy
 |new _ _=>cases hy
section
variable{P:Program}{H:Hint}{call:cF}{f:FuncId}{nt:Nat}{ops:Array Oper}{base aM:Nat}{l:List Nat}{S:Nat->St}{V:Nat->Value}{X:Nat->FP}{W:Nat->Bool}
structure Up(ops:Array Oper)(base:Nat)(l:List Nat)(X:Nat->FP)(W:Nat->Bool)(E:Nat->Prop)(i p:Nat)(o:Oper):Prop where
 hi:l[i]?=some p
 ho:ops[p]?=some o
 hp:¬E p
 lt:i<ops.size
 side:∀(j q:Nat) (o':Oper),l[j]?=some q->ops[q]?=some o'->(j<i->shares ops o' o=true\/cB (base+ops.size) (X j) (W j) (X i) (W i)=true)->(i<j->shares ops o o'=true\/cB (base+ops.size) (X i) (W i) (X j) (W j)=true)->(E q↔j<i)
 ne:∀(j q:Nat),l[j]?=some q->j≠i->q≠p
variable(T:Tr P H call f nt ops base aM l S V X W)
include T
theorem Tr.up{E:Nat->Prop}{i p:Nat}{o:Oper}(hi:l[i]?=some p)(ho:ops[p]?=some o)(hp:¬E p)(hE:xY ops E)(Mx:xY ops (fun q=>E q\/q=p)):Up ops base l X W E i p o where
 hi:=hi
 ho:=ho
 hp:=hp
 lt:=by rw[<-T.len];exact(List.getElem?_eq_some_iff.1 hi).1
 ne:=fun j q hj dS=>by
  rcases Nat.lt_or_gt_of_ne dS with h|h
  ·exact T.P3 j i q p h hj hi
  ·exact fun e=>T.P3 i j p q h hi hj e.symm
 side:=fun j q o' hj mD h1 h2=>by
  rcases Nat.lt_trichotomy j i with h|h|h
  ·have hpr:=T.TH j i q p o' o h hj hi mD ho (h1 h)
   have:=rM Mx hpr (.inr rfl);rcases this with q1|q1
   ·exact⟨fun _=>h,fun _=>q1⟩
   ·exact absurd q1 (T.P3 j i q p h hj hi)
  ·subst h
   rw[hi]at hj;obtain rfl:=Option.some.inj hj;exact⟨fun q=>absurd q hp,fun q=>absurd q (Nat.lt_irrefl _)⟩
  ·have hpr:=T.TH i j p q o o' h hi hj ho mD (h2 h)
   exact⟨fun q1=>absurd (rM hE hpr q1) hp,fun q1=>om⟩
theorem Tr.op{j q:Nat}(hj:l[j]?=some q):∃o',ops[q]?=some o'/\j<ops.size:=by
 obtain⟨o',h,_⟩:=T.step j q hj;exact⟨o',h,by rw[<-T.len];exact(List.getElem?_eq_some_iff.1 hj).1⟩
theorem Tr.newAt{j q:Nat}{lc:Bool}{b:Nat}(hj:l[j]?=some q)(h:X j=.new lc b):b=bif lc then aM+j else base+j:=by
 obtain⟨o',_,hs⟩:=T.step j q hj;rcases hs with ⟨_,s1,_,_,hx,_⟩|⟨_,_,_,hx,_⟩
 ·rw[hx]at h;exact TK h
 ·rw[hx]at h;cases h
variable{E:Nat->Prop}{i p:Nat}{o:Oper}(U:Up ops base l X W E i p o)
include U
theorem Up.AS{j q:Nat}(hj:l[j]?=some q)(h1:j<i->cB (base+ops.size) (X j) (W j) (X i) (W i)=true)(h2:i<j->cB (base+ops.size) (X i) (W i) (X j) (W j)=true):E q↔j<i:=by
 obtain⟨o',mD,_⟩:=T.op hj;exact U.side j q o' hj mD (fun h=>.inr (h1 h)) (fun h=>.inr (h2 h))
theorem Up.Se{id:Nat}(hM:ya S X W i id){j q:Nat}(hj:l[j]?=some q)(m7:ya S X W j id):E q↔j<i:=by
 obtain⟨o',_,Sf⟩:=T.op hj;have l1:=T.yb i (Nat.le_of_lt U.lt);have l2:=T.yb j (Nat.le_of_lt Sf);refine U.AS T hj (fun dV=>?_) (fun dV=>?_)
 ·rcases hM with ⟨a1,a2⟩|a1|⟨a1,a2⟩<;>rcases m7 with ⟨b1,b2⟩|b1|⟨b1,b2⟩
  ·rw[a1,b1];simp[cB,a2,b2,dI]
  ·rw[a1,b1];simp[cB,dI]
  ·exact cY b1 (by rw[a1];simp)
  ·rw[a1,b1];simp[cB,dI]
  ·rw[a1,b1];simp[cB,dI]
  ·exact cY b1 (by rw[a1];simp)
  ·rw[b1];exact j9 a1 (.inl b2)
  ·rw[b1]
   rcases a2 with a2|a2
   ·exact AR a1 a2
   ·have:=T.newAt hj b1;simp only[cond_false]at this;omega
  ·exact cY b1 (by intro e;rw[e]at a1;cases a1)
 ·rcases hM with ⟨a1,a2⟩|a1|⟨a1,a2⟩<;>rcases m7 with ⟨b1,b2⟩|b1|⟨b1,b2⟩
  ·rw[a1,b1];simp[cB,a2,b2,dI]
  ·rw[a1,b1];simp[cB,dI]
  ·rw[a1];exact j9 b1 (.inl a2)
  ·rw[a1,b1];simp[cB,dI]
  ·rw[a1,b1];simp[cB,dI]
  ·rw[a1]
   rcases b2 with b2|b2
   ·exact AR b1 b2
   ·have:=T.newAt U.hi a1;simp only[cond_false]at this;have:=U.lt;omega
  ·exact cY a1 (by rw[b1];simp)
  ·exact cY a1 (by rw[b1];simp)
  ·exact cY a1 (by intro e;rw[e]at b1;cases b1)
theorem Up.WM{id:Nat}(hX:X i=.block false id){j q:Nat}(hj:l[j]?=some q)(m7:ya S X W j id):E q↔j<i:=by
 obtain⟨o',_,Sf⟩:=T.op hj;have l2:=T.yb j (Nat.le_of_lt Sf);refine U.AS T hj (fun dV=>?_) (fun dV=>?_)
 ·rcases m7 with ⟨b1,b2⟩|b1|⟨b1,b2⟩
  ·rw[hX,b1];simp[cB,b2,dI]
  ·rw[hX,b1];simp[cB,dI]
  ·exact cY b1 (by rw[hX];simp)
 ·rcases m7 with ⟨b1,b2⟩|b1|⟨b1,b2⟩
  ·rw[hX,b1];simp[cB,b2,dI]
  ·rw[hX,b1];simp[cB,dI]
  ·rw[hX]
   rcases b2 with b2|b2
   ·exact j9 b1 (.inr (.inl b2))
   ·exact j9 b1 (.inr (.inr om))
theorem Up.WO{t:Nat}(hM:BJ X W i t){j q:Nat}(hj:l[j]?=some q)(m7:BJ X W j t):E q↔j<i:=by
 refine U.AS T hj (fun dV=>?_) (fun dV=>?_);all_goals rcases hM with ⟨a1,a2⟩|a1<;>rcases m7 with ⟨b1,b2⟩|b1<;>rw[a1,b1]
 all_goals simp[cB,dI, *]
theorem Up.TL{t:Nat}(hX:X i=.block true t){j q:Nat}(hj:l[j]?=some q)(m7:BJ X W j t):E q↔j<i:=by
 refine U.AS T hj (fun dV=>?_) (fun dV=>?_);all_goals rcases m7 with ⟨b1,b2⟩|b1<;>rw[hX,b1]
 all_goals simp[cB,dI, *]
theorem Up.Sg(hX:(X i).fj=true){j q:Nat}(hj:l[j]?=some q)(hX':(X j).fj=true):E q↔j<i:=by
 refine U.AS T hj (fun dV=>?_) (fun dV=>?_)
 ·exact cY hX' (by intro e;rw[e]at hX;cases hX)
 ·exact cY hX (by intro e;rw[e]at hX';cases hX')
theorem Up.WQ(hX:(X i).fj=true){id:Nat}(hd:∀j q:Nat,l[j]?=some q->id=base+j->E q){j q:Nat}(hj:l[j]?=some q)(m7:ya S X W j id):E q↔j<i:=by
 by_cases hn:X j=.new false id
 ·have he:E q:=hd j q hj (by have:=T.newAt hj hn;simpa using this)
  refine⟨fun _=>?_,fun _=>he⟩;rcases Nat.lt_trichotomy j i with h|h|h
  ·exact h
  ·subst h;rw[U.hi]at hj;obtain rfl:=Option.some.inj hj;exact absurd he U.hp
  ·obtain⟨o',mD,_⟩:=T.op hj
   have:=U.side j q o' hj mD (fun q=>om) (fun _=>.inr (cY hX (by rw[hn];simp)));exact this.1 he
 ·refine U.AS T hj (fun dV=>?_) (fun dV=>?_)
  ·rcases m7 with ⟨b1,b2⟩|b1|⟨b1,b2⟩
   ·rw[b1];exact j9 hX (.inl b2)
   ·exact absurd b1 hn
   ·exact cY b1 (by intro e;rw[e]at hX;cases hX)
  ·rcases m7 with ⟨b1,b2⟩|b1|⟨b1,b2⟩
   ·exact cY hX (by rw[b1];simp)
   ·exact absurd b1 hn
   ·exact cY hX (by intro e;rw[e]at b1;cases b1)
end
section
variable{ops:Array Oper}{base:Nat}{l:List Nat}{X:Nat->FP}{W:Nat->Bool}{E:Nat->Prop}{i p:Nat}{o:Oper}(U:Up ops base l X W E i p o)
include U
theorem Up.Sh{t:Tmp}(ht:t∈o.looksAt ops\/o.dst=some t){j q:Nat}{o':Oper}(hj:l[j]?=some q)(mD:ops[q]?=some o')(hd:o'.dst=some t):E q↔j<i:=
 U.side j q o' hj mD (fun _=>.inl (Ip hd ht)) (fun _=>.inl (P6 hd ht))
theorem Up.next{j q k:Nat}(hj:l[j]?=some q)(dS:j≠i)(h:(E q\/q=p)↔j<k):E q↔j<k:=
 ⟨fun e=>h.1 (.inl e),fun e=>(h.2 e).resolve_right (U.ne j q hj dS)⟩
end
end Go.cL
namespace Go.cL
theorem P7{J:dH}{s:St}{a:Act}{l:List Operand}(h:∀t v,Operand.tmp t∈l->s.env.get t=some v->VR J v (a.tmps.getD t undef)):oU J s a l:=by
 intro x v hx he;have hE:ER J (iw s.h) a:=fun t v h=>by simp[iw,cQ.get]at h
 cases x with
 |tmp t=>exact h t v hx he
 |const c=>exact hE.eval (x:=.const c) he
 |global g=>exact hE.eval (x:=.global g) he
 |func g=>exact hE.eval (x:=.func g) he
theorem MB{ops:Array Oper}{o:Oper}{t:Tmp}(h:Operand.tmp t∈o.op.operands.toList):t∈o.looksAt ops:=by
 unfold Oper.looksAt;rw[List.mem_append];left;rw[List.mem_filterMap];exact⟨.tmp t,h,rfl⟩
theorem Ee{ops:Array Oper}{o:Oper}{j:Nat}{want:Bool}{d:Tmp}(hg:o.guard=some (j,want))(hd:(ops[j]?).bind (·.dst)=some d):d∈o.looksAt ops:=by
 unfold Oper.looksAt;rw[List.mem_append];right;rw[hg];simp only[hd];simp
section
variable{P:Program}{H:Hint}{call:cF}{f:FuncId}{nt:Nat}{ops:Array Oper}{base aM:Nat}{l:List Nat}{S:Nat->St}{V:Nat->Value}{X:Nat->FP}{W:Nat->Bool}
variable{J0:dH}{s0:St}{w0:World}{a0:Act}{E:Nat->Prop}{i p:Nat}{o:Oper}{a:Act}{w:World}{J:dH}{s2:St}
theorem Inv.th(T:Tr P H call f nt ops base aM l S V X W)(U:Up ops base l X W E i p o)(I:Inv ops base aM l S X W J0 s0 w0 a0 E a w J s2)
  (hs:mr P H call f nt ops base aM i o (S i) (V i) (X i) (W i) (S (i+1))) (hn:nt<=a.tmps.size) {J':dH} {c:Value} (hg:∀id L,J.g id=some L->J'.g id=some L) (hl:∀t L,J.l t=some L->J'.l t=some L) (hc:VR J' (V i) c)
  (Zm:∀d,o.dst=some d->d<nt) :
  ∀t v k,k<=ops.size->(∀(j q:Nat) (o':Oper),l[j]?=some q->ops[q]?=some o'->o'.dst=some t->((E q\/q=p)↔j<k))->(S k).env.get t=some v->t<(a.put o.dst c).tmps.size/\VR J' v ((a.put o.dst c).tmps.getD t undef):=by
 intro t v k hk h hv;by_cases hd:o.dst=some t
 ·have Ic:i<k:=(h i p o U.hi U.ho hd).1 (.inr rfl)
  have uj:=T.BL (t:=t) (k-(i+1)) (i+1) om (fun j q o' h1 h2 hj mD xG=>by
   have e1:=U.next hj om (h j q o' hj mD xG);have e2:=U.Sh (.inr hd) hj mD xG;have:=e2.1 (e1.2 om);omega)
  rw[show i+1+(k-(i+1))=k by omega]at uj;have e:=(hs.sum T.dF).env t;rw[if_pos hd]at e;rw[uj,e]at hv;obtain rfl:=Option.some.inj hv;have dV:t<a.tmps.size:=Nat.lt_of_lt_of_le (Zm t hd) hn;rw[dW];refine⟨dV,?_⟩;rw[hd];have:(a.put (some t) c).tmps.getD t undef=c:=by simp[Act.put,dV]
  rw[this];exact hc
 ·obtain⟨h1,h2⟩:=I.env t v k hk (fun j q o' hj mD xG=>U.next hj (by rintro rfl;rw[U.hi]at hj;obtain rfl:=Option.some.inj hj;rw[U.ho]at mD;obtain rfl:=Option.some.inj mD;exact hd xG) (h j q o' hj mD xG)) hv
  rw[dW];refine⟨h1,?_⟩;have:(a.put o.dst c).tmps.getD t undef=a.tmps.getD t undef:=by
   cases TM:o.dst with
   |none=>rfl
   |some d=>simp[Act.put,Array.getElem?_setIfInBounds_ne (show d≠t from fun e=>hd (by rw[TM,e]))]
  rw[this];exact h2.mono hg hl
theorem mr.WS{i:Nat}{o:Oper}{s s':St}{v:Value}{x:FP}{wr:Bool}(h:mr P H call f nt ops base aM i o s v x wr s'):∀d,o.dst=some d->d<nt:=by
 intro d hd;rcases h with ⟨_,s1,_,h2,_,_⟩|⟨_,h2,_,_,_⟩
 ·rcases mX h2 with ⟨q,_⟩|⟨d',q,r,_⟩
  ·rw[q]at hd;cases hd
  ·rw[q]at hd;obtain rfl:=Option.some.inj hd;exact r
 ·rcases mX h2 with ⟨q,_⟩|⟨d',q,r,_⟩
  ·rw[q]at hd;cases hd
  ·rw[q]at hd;obtain rfl:=Option.some.inj hd;exact r
theorem Inv.step {ro : Option Nat} (fy : gQ P call) (T : Tr P H call f nt ops base aM l S V X W) (U : Up ops base l X W E i p o) (I : Inv ops base aM l S X W J0 s0 w0 a0 E a w J s2) (xq : nt ≤ a0.tmps.size) {Q : Exit → Act → World → Prop} {K : Act → World → Prop}
    (hK : ∀ a' w' J' P8, Inv ops base aM l S X W J0 s0 w0 a0 (fun q => E q ∨ q = p) a' w' J' P8 → K a' w') : wpOpIn (Wd ro) 0 P ops Q p K a w := by
  obtain ⟨o', mD, hs⟩ := T.step i p U.hi
  rw [U.ho] at mD
  obtain rfl := Option.some.inj mD
  have hn : nt ≤ a.tmps.size := by rw [I.size]; exact xq
  have Ef : i ≤ ops.size := Nat.le_of_lt U.lt
  have Si : ∀ t v, t ∈ o.looksAt ops → (S i).env.get t = some v → t < a.tmps.size ∧ VR J v (a.tmps.getD t undef) :=
    fun t v ht hv => I.env t v i Ef (fun j q o' hj mD hd => U.Sh (.inl ht) hj mD hd) hv
  have Zn : ∀ s3 : St, s3.env = (S i).env → oU J s3 a o.op.operands.toList := fun s3 he => P7 (fun t v ht hv => (Si t v (MB ht) (by rw [← he]; exact hv)).2)
  have hGu : TE J (S i) a ops o := fun j want d v hg hd hv => Si d v (Ee hg hd) hv
  have hJg : J.g (base + i) = none := by
    cases hx : J.g (base + i) with
    | none => rfl
    | some L => exact absurd (I.BN i p U.hi (by rw [hx]; rfl)) U.hp
  have hJl : J.l (aM + i) = none := by
    cases hx : J.l (aM + i) with
    | none => rfl
    | some L => exact absurd (I.Ed i p U.hi (by rw [hx]; rfl)) U.hp
  have hlim := I.dR
  have hilt := U.lt
  have th := fun (J' : dH) (c : Value) hg hl hc => I.th T U hs hn (J' := J') (c := c) hg hl hc hs.WS
  have aaq := hs.sum T.dF
  have WT := fun id => hs.WL T.dF (id := id)
  unfold wpOpIn
  rw [U.ho]
  simp only []
  rcases hs with ⟨hw, s1, h1, h2, hx, Zo⟩ | ⟨hw, h2, hv, hx, Zo⟩
  · rw [iV hw hGu, if_pos rfl]
    by_cases hA : (X i).fj = true
    · 
      obtain ⟨e1, e2, e3⟩ := te (by rw [gI, ← hx]; exact hA) h1
      have Eg : s2.h.next = (S i).h.next := I.next i Ef (fun j q hj hq => U.Sg T hA hj hq)
      have JP : ∀ id L, J.g id = some L → s2.h.m.get id = (S i).h.m.get id := fun id L hL => I.g id L i Ef hL (fun j q hj hm => U.WQ T hA (fun j q hj me => I.BN j q hj (by rw [← me, hL]; rfl)) hj hm)
      let s3 : St := { s2 with env := (S i).env, h := (S i).fresh.h }
      have h3 := e2 s3 rfl rfl
      have WU : HR J s3 w := I.rz.hr.swap (s' := s3) (by show s2.h.next ≤ (S i).h.next; omega) (Nat.le_refl _) (fun id L hL => (JP id L hL).symm) (fun _ _ _ => rfl)
      have P9 : (S (i + 1)).h.m = s1.h.m ∧ (S (i + 1)).h.next = s1.h.next ∧ (S (i + 1)).h.low = Nat.min (S i).h.low s1.h.low := by
        rw [cK h2]; exact ⟨rfl, rfl, rfl⟩
      refine AQ fy WU (WU.Ia (by show base + i < (S i).h.next; omega) hJg (by show aM + i < s2.kn; rw [I.kn]; omega) hJl) (Zn s3 rfl) h3 K Q ?_ ro
      intro c w' J' hG P2 hv zV hAd hAl
      have WV : DH o.op (eO H f o) = false := by
        cases hq : DH o.op (eO H f o) with
        | false => rfl
        | true => rw [hx, Im hq] at hA; cases hA
      have WW : DI o.op (eO H f o) = false := by
        cases hq : DI o.op (eO H f o) with
        | false => rfl
        | true => rw [hx, Io hq] at hA; cases hA
      have GH : ∀ id L, J'.g id = some L → J.g id = some L ∨ (S i).h.next ≤ id := fun id L hL => (hAd id L hL).imp (fun q => q) (fun q => q.elim (fun q => by rw [WV] at q; cases q.1) (fun q => q))
      have MC : ∀ t L, J'.l t = some L → J.l t = some L := fun t L hL => (hAl t L hL).elim (fun q => q) (fun q => by rw [WW] at q; cases q.1)
      let P8 : St := { s2 with h := { s1.h with low := Nat.min s2.h.low s1.h.low } }
      have D4 : Good J s2 w J' P8 w' := by
        have g1 := hG.lower (lo := Nat.min s2.h.low s1.h.low) (Nat.min_le_right _ _)
        have g2 := g1.P5 (t := s2) (by rw [Eg]; rfl) (Nat.min_le_left _ _)
        exact g2.env s2.env
      refine hK (a.put o.dst c) w' J' P8 ?_
      refine { kn := I.kn, next := ?_, dR := ?_, g := ?_, lk := ?_, low := ?_, rz := I.rz.trans D4, Ec := ?_, BN := ?_, Ed := ?_, env := th J' c hG.mono P2 hv, size := by rw [dW]; exact I.size, defers := by rw [put_defers]; exact I.defers }
      · intro k hk h
        have Ic : i < k := (h i p U.hi hA).1 (.inr rfl)
        have := T.BM (k - (i + 1)) (i + 1) om (fun j q1 q2 => by
          cases hq : (X j).fj with
          | false => rfl
          | true =>
            exfalso
            obtain ⟨pj, oj, hj, _, _⟩ := T.at (i := j) om
            have := (U.Sg T hA hj hq).1 ((U.next hj om (h j pj hj hq)).2 om)
            omega)
        rw [show i + 1 + (k - (i + 1)) = k by omega] at this
        rw [this]; exact P9.2.1.symm
      · show base + ops.size ≤ s1.h.next
        rw [← P9.2.1]; exact T.yb (i + 1) om
      · intro id L k hk hL h
        show s1.h.m.get id = _
        by_cases hM : ya S X W i id
        · have Ic : i < k := (h i p U.hi hM).1 (.inr rfl)
          have := T.wa (id := id) (k - (i + 1)) (i + 1) om (fun j q1 q2 hq => by
            obtain ⟨pj, oj, hj, _, _⟩ := T.at (i := j) om
            have := (U.Se T hM hj hq).1 ((U.next hj om (h j pj hj hq)).2 om)
            omega)
          rw [show i + 1 + (k - (i + 1)) = k by omega] at this
          rw [this, P9.1]
        · have dV : id < (S i).h.next := by
            rcases Nat.lt_or_ge id (S i).h.next with q | q
            · exact q
            · exact absurd (.inr (.inr ⟨hA, .inr q⟩)) hM
          have Vu : J.g id = some L := (GH id L hL).resolve_right om
          rw [← P9.1, WT id hM, ← JP id L Vu]
          exact I.g id L k hk Vu (fun j q hj hq => U.next hj (by rintro rfl; exact hM hq) (h j q hj hq))
      · intro t L k hk hL h
        exact I.lk t L k hk (MC t L hL) (fun j q hj hq => U.next hj (by rintro rfl; rcases hq with ⟨q, _⟩ | q <;> rw [q] at hA <;> cases hA) (h j q hj hq))
      · show _ ≤ Nat.min s2.h.low s1.h.low
        have q1 := T.Il (ops.size - (i + 1)) (i + 1) om
        rw [show i + 1 + (ops.size - (i + 1)) = ops.size by omega, P9.2.2] at q1
        exact Nat.le_min.2 ⟨I.low, Nat.le_trans q1 (Nat.min_le_right _ _)⟩
      · intro id L hL
        rcases GH id L hL with q | q
        · exact I.Ec id L q
        · right; show base ≤ id; have := T.yb i Ef; omega
      · intro j q hj pP
        cases hq : J'.g (base + j) with
        | none => rw [hq] at pP; cases pP
        | some L =>
          obtain ⟨_, _, Sf⟩ := T.op hj
          rcases GH _ L hq with r | r
          · exact .inl (I.BN j q hj (by rw [r]; rfl))
          · have := T.yb i Ef; omega
      · intro j q hj pP
        cases hq : J'.l (aM + j) with
        | none => rw [hq] at pP; cases pP
        | some L => exact .inl (I.Ed j q hj (by rw [MC _ L hq]; rfl))
    · 
      have hc : dN o.op = none := by
        cases hc : dN o.op with
        | none => rfl
        | some c => exact absurd (by rw [hx, nU hc]; rfl) hA
      have sK := h1
      unfold jA at sK
      rw [hc] at sK
      obtain ⟨F, e1, e2, e3⟩ := v9 (by rw [gI, ← hx]; simpa using hA) sK
      rw [gI, ← hx] at e2 e3
      let s3 : St := { s2 with env := (S i).env }
      have WU : HR J s3 w := I.rz.hr.env _
      have MD : ∀ lc b, X i = .block lc b → ∃ ad : Addr, ad.spot.isSome = lc ∧ ad.block = b ∧ ∃ L, J.at ad = some L := by
        intro lc b hb
        rw [hx] at hb
        obtain ⟨x, ad, Zp, WX, q1, q2⟩ := MA hb
        rcases WX with WX | ⟨n9, c9, WX, WY⟩
        · have := Zn (S i) rfl x _ Zp WX
          obtain ⟨L, hL, _⟩ := this.pG
          exact ⟨ad, q1, q2, L, hL⟩
        · have := Zn (S i) rfl x _ Zp WX
          obtain ⟨_, L, _, hL, _⟩ := (this.aZ (fun a => by simp)).pH WY
          exact ⟨ad, q1, q2, L, by simp [dH.at, WY, hL]⟩
      have h3 : jA P H call f (base + i) (aM + i) o s3 = some (V i, F.apply s3) := by
        unfold jA
        rw [hc]
        refine e3 s3 rfl ?_ ?_ ?_
        · show s2.kn = (S i).kn
          rw [I.kn, T.TJ i Ef]
        · intro b hb
          obtain ⟨ad, q1, q2, L, hL⟩ := MD false b hb
          have jI : ad.spot = none := by cases hq : ad.spot with | none => rfl | some y => rw [hq] at q1; cases q1
          simp only [dH.at, jI, q2] at hL
          exact I.g b L i Ef hL (fun j q hj hm => U.WM T hb hj hm)
        · intro t hb
          obtain ⟨ad, q1, q2, L, hL⟩ := MD true t hb
          obtain ⟨y, jI⟩ : ∃ y, ad.spot = some y := by cases hq : ad.spot with | none => rw [hq] at q1; cases q1 | some y => exact ⟨y, rfl⟩
          simp only [dH.at, jI, q2] at hL
          exact I.lk t L i Ef hL (fun j q hj hm => U.TL T hb hj hm)
      have Zq : (F.apply s3).h.next = s2.h.next ∧ (F.apply s3).kn = s2.kn := by cases F <;> exact ⟨rfl, rfl⟩
      have P9 : (S (i + 1)).h.m = s1.h.m ∧ (S (i + 1)).K = s1.K ∧ (S (i + 1)).h.low = Nat.min (S i).h.low s1.h.low := by
        rw [cK h2]; exact ⟨rfl, rfl, rfl⟩
      have WZ : (∀ b dx lw, F ≠ .nT b dx lw) → (∀ t cs, F ≠ .mJ t cs) → W i = false := by
        intro q1 q2
        cases F with
        | idle =>
          rw [Zo, e2.2, e1]
          show Nat.blt (S i).h.next (S i).h.next = false
          exact cT (Nat.le_refl _)
        | nT b dx lw => exact absurd rfl (q1 b dx lw)
        | mJ t cs => exact absurd rfl (q2 t cs)
      have TN : ∀ id, ya S X W i id → ∃ dx lw, F = .nT id dx lw := by
        intro id hM
        rcases hM with ⟨q1, q2⟩ | q1 | ⟨q1, _⟩
        · cases F with
          | idle => rw [WZ (fun _ _ _ h => by cases h) (fun _ _ h => by cases h)] at q2; cases q2
          | nT b dx lw =>
            rcases e2 with ⟨r, _⟩ | ⟨r, _⟩
            · rw [q1] at r; simp only [FP.block.injEq, true_and] at r; subst r; exact ⟨_, _, rfl⟩
            · rw [q1] at r; cases r
          | mJ t cs =>
            rcases e2 with ⟨r, _⟩ | ⟨r, _⟩
            · rw [q1] at r; simp at r
            · rw [q1] at r; cases r
        · cases F with
          | idle => exact absurd q1 (e2.1 _ _)
          | nT b dx lw =>
            rcases e2 with ⟨r, _⟩ | ⟨r, _⟩
            · rw [q1] at r; cases r
            · rw [q1] at r; simp only [FP.new.injEq, true_and] at r; subst r; exact ⟨_, _, rfl⟩
          | mJ t cs =>
            rcases e2 with ⟨r, _⟩ | ⟨r, _⟩
            · rw [q1] at r; cases r
            · rw [q1] at r; simp at r
        · exact absurd q1 hA
      have TO : ∀ t, BJ X W i t → ∃ cs, F = .mJ t cs := by
        intro t hM
        rcases hM with ⟨q1, q2⟩ | q1
        · cases F with
          | idle => rw [WZ (fun _ _ _ h => by cases h) (fun _ _ h => by cases h)] at q2; cases q2
          | nT b dx lw =>
            rcases e2 with ⟨r, _⟩ | ⟨r, _⟩
            · rw [q1] at r; simp at r
            · rw [q1] at r; cases r
          | mJ b cs =>
            rcases e2 with ⟨r, _⟩ | ⟨r, _⟩
            · rw [q1] at r; simp only [FP.block.injEq, true_and] at r; subst r; exact ⟨_, rfl⟩
            · rw [q1] at r; cases r
        · cases F with
          | idle => exact absurd q1 (e2.1 _ _)
          | nT b dx lw =>
            rcases e2 with ⟨r, _⟩ | ⟨r, _⟩
            · rw [q1] at r; cases r
            · rw [q1] at r; simp at r
          | mJ b cs =>
            rcases e2 with ⟨r, _⟩ | ⟨r, _⟩
            · rw [q1] at r; cases r
            · rw [q1] at r; simp only [FP.new.injEq, true_and] at r; subst r; exact ⟨_, rfl⟩
      have aar : ∀ b dx lw, F = .nT b dx lw → ya S X W i b := by
        intro b dx lw hF; subst hF
        rcases e2 with ⟨r, r2, _⟩ | ⟨r, _⟩
        · exact .inl ⟨r, by rw [Zo, r2]; rfl⟩
        · exact .inr (.inl r)
      have aas : ∀ t cs, F = .mJ t cs → BJ X W i t := by
        intro t cs hF; subst hF
        rcases e2 with ⟨r, r2⟩ | ⟨r, _⟩
        · exact .inl ⟨r, by rw [Zo, r2]; rfl⟩
        · exact .inr r
      refine AQ fy WU (WU.Ia (by show base + i < s2.h.next; omega) hJg (by show aM + i < s2.kn; rw [I.kn]; omega) hJl) (Zn s3 rfl) h3 K Q ?_ ro
      intro c w' J' hG P2 hv zV hAd hAl
      have GH : ∀ id L, J'.g id = some L → J.g id = some L ∨ (X i = .new false id ∧ id = base + i) := fun id L hL => by
        rcases hAd id L hL with q | ⟨q1, q2⟩ | q
        · exact .inl q
        · right; refine ⟨?_, q2⟩; rw [hx, Im q1, q2]
        · have := hG.hr.cS id L hL
          rw [Zq.1] at this
          have q' : s2.h.next ≤ id := q
          omega
      have MC : ∀ t L, J'.l t = some L → J.l t = some L ∨ (X i = .new true t ∧ t = aM + i) := fun t L hL => by
        rcases hAl t L hL with q | ⟨q1, q2⟩
        · exact .inl q
        · right; refine ⟨?_, q2⟩; rw [hx, Io q1, q2]
      refine hK (a.put o.dst c) w' J' (F.apply s3) ?_
      refine { kn := by rw [Zq.2]; exact I.kn, next := ?_, dR := by rw [Zq.1]; exact I.dR, g := ?_, lk := ?_, low := ?_, rz := (I.rz.env _).trans hG, Ec := ?_, BN := ?_, Ed := ?_, env := th J' c hG.mono P2 hv, size := by rw [dW]; exact I.size, defers := by rw [put_defers]; exact I.defers }
      · intro k hk h
        rw [Zq.1]
        exact I.next k hk (fun j q hj hq => U.next hj (by rintro rfl; exact hA hq) (h j q hj hq))
      · intro id L k hk hL h
        by_cases hM : ya S X W i id
        · obtain ⟨dx, lw, hF⟩ := TN id hM
          have Ic : i < k := (h i p U.hi hM).1 (.inr rfl)
          have := T.wa (id := id) (k - (i + 1)) (i + 1) om (fun j q1 q2 hq => by
            obtain ⟨pj, oj, hj, _, _⟩ := T.at (i := j) om
            have := (U.Se T hM hj hq).1 ((U.next hj om (h j pj hj hq)).2 om)
            omega)
          rw [show i + 1 + (k - (i + 1)) = k by omega] at this
          rw [this, P9.1, e1, hF]
          simp only [BH.apply, cQ.gV]
        · have Vu : J.g id = some L := (GH id L hL).resolve_right (fun q => hM (.inr (.inl q.1)))
          have e : (F.apply s3).h.m.get id = s2.h.m.get id := by
            cases hF : F with
            | idle => rfl
            | mJ t cs => rfl
            | nT b dx lw =>
              have dS : b ≠ id := by rintro rfl; exact hM (aar _ _ _ hF)
              simp only [BH.apply]
              exact cQ.aK _ _ dS
          rw [e]
          exact I.g id L k hk Vu (fun j q hj hq => U.next hj (by rintro rfl; exact hM hq) (h j q hj hq))
      · intro t L k hk hL h
        by_cases hM : BJ X W i t
        · obtain ⟨cs, hF⟩ := TO t hM
          have Ic : i < k := (h i p U.hi hM).1 (.inr rfl)
          have := T.BK (t := t) (k - (i + 1)) (i + 1) om (fun j q1 q2 hq => by
            obtain ⟨pj, oj, hj, _, _⟩ := T.at (i := j) om
            have := (U.WO T hM hj hq).1 ((U.next hj om (h j pj hj hq)).2 om)
            omega)
          rw [show i + 1 + (k - (i + 1)) = k by omega] at this
          rw [this, P9.2.1, e1, hF]
          simp only [BH.apply, cQ.gV]
        · have Vu : J.l t = some L := (MC t L hL).resolve_right (fun q => hM (.inr q.1))
          have e : (F.apply s3).K.get t = s2.K.get t := by
            cases hF : F with
            | idle => rfl
            | nT b dx lw => rfl
            | mJ b cs =>
              have dS : b ≠ t := by rintro rfl; exact hM (aas _ _ hF)
              simp only [BH.apply]
              exact cQ.aK _ _ dS
          rw [e]
          exact I.lk t L k hk Vu (fun j q hj hq => U.next hj (by rintro rfl; exact hM hq) (h j q hj hq))
      · have q1 := T.Il (ops.size - (i + 1)) (i + 1) om
        rw [show i + 1 + (ops.size - (i + 1)) = ops.size by omega, P9.2.2] at q1
        have q2 := Nat.le_trans q1 (Nat.min_le_right _ _)
        rw [e1] at q2
        cases hF : F with
        | idle => exact I.low
        | mJ t cs => exact I.low
        | nT b dx lw =>
          rw [hF] at q2
          simp only [BH.apply] at q2 ⊢
          cases lw with
          | false => exact I.low
          | true => exact Nat.le_min.2 ⟨I.low, Nat.le_trans q2 (Nat.min_le_right _ _)⟩
      · intro id L hL
        rcases GH id L hL with q | q
        · exact I.Ec id L q
        · right; show base ≤ id; omega
      · intro j q hj pP
        cases hq : J'.g (base + j) with
        | none => rw [hq] at pP; cases pP
        | some L =>
          rcases GH _ L hq with r | r
          · exact .inl (I.BN j q hj (by rw [r]; rfl))
          · have : j = i := by omega
            subst this
            rw [U.hi] at hj
            exact .inr (Option.some.inj hj).symm
      · intro j q hj pP
        cases hq : J'.l (aM + j) with
        | none => rw [hq] at pP; cases pP
        | some L =>
          rcases MC _ L hq with r | r
          · exact .inl (I.Ed j q hj (by rw [r]; rfl))
          · have : j = i := by omega
            subst this
            rw [U.hi] at hj
            exact .inr (Option.some.inj hj).symm
  · rw [iV hw hGu, if_neg (by simp)]
    refine ⟨fun _ _ => trivial, hK _ _ J s2 ?_⟩
    have dS : ∀ (j : Nat), X j ≠ .none → j ≠ i := fun j h e => h (by rw [e, hx])
    exact { kn := I.kn
            next := fun k hk h => I.next k hk (fun j q hj hq => U.next hj (dS j (by intro e; rw [e] at hq; cases hq)) (h j q hj hq))
            dR := I.dR
            g := fun id L k hk hJ h => I.g id L k hk hJ (fun j q hj hm => U.next hj (dS j (by rcases hm with ⟨r, _⟩ | r | ⟨r, _⟩ <;> intro e <;> rw [e] at r <;> cases r)) (h j q hj hm))
            lk := fun t L k hk hJ h => I.lk t L k hk hJ (fun j q hj hm => U.next hj (dS j (by rcases hm with ⟨r, _⟩ | r <;> rw [r] <;> simp)) (h j q hj hm))
            low := I.low, rz := I.rz, Ec := I.Ec
            BN := fun j q hj h => .inl (I.BN j q hj h)
            Ed := fun j q hj h => .inl (I.Ed j q hj h)
            env := th J undef (fun _ _ h => h) (fun _ _ h => h) (by rw [hv]; exact .cX _ _ (VG.of_flat rfl))
            size := by rw [dW]; exact I.size
            defers := by rw [put_defers]; exact I.defers }
end
end Go.cL
namespace Go.cL
theorem filter_lt{α:Type}{p p':α->Bool}(hp:∀x,p' x=true->p x=true):∀(l:List α) (x:α),x∈l->p x=true->p' x=false->(l.filter p').length<(l.filter p).length
 |y :: l,x,hx,h1,h2=>by
  have mono:∀l:List α,(l.filter p').length<=(l.filter p).length:=by
   intro l
   induction l with
   |nil=>simp
   |cons z l ih=>
    simp only[List.filter_cons];by_cases hz:p' z=true
    ·simp[hz,hp z hz,ih]
    ·by_cases TP:p z=true
     ·simp[hz,TP];omega
     ·simp[hz,TP,ih]
  rcases List.mem_cons.1 hx with rfl|Sd
  ·simp only[List.filter_cons,h1,h2,if_true]
   have:=mono l;simp;omega
  ·have ih:=filter_lt hp l x Sd h1 h2
   simp only[List.filter_cons];by_cases hz:p' y=true
   ·simp[hz,hp y hz,ih]
   ·by_cases TP:p y=true
    ·simp[hz,TP];omega
    ·simp[hz,TP,ih]
 | [],x,hx,_,_=>by simp at hx
def vU(bQ:Array Bool)(q:Nat):Prop:=bQ.getD q false=true
theorem vU.set{bQ:Array Bool}{p:Nat}(hp:p<bQ.size):vU (bQ.setIfInBounds p true)=fun q=>vU bQ q\/q=p:=by
 funext q
 apply propext;unfold vU;by_cases e:q=p
 ·subst e;simp[Array.getD,hp]
 ·by_cases hq:q<bQ.size
  ·simp[Array.getD,hq,e,Array.getElem_setIfInBounds,Ne.symm e]
  ·simp[Array.getD,hq,e]
section
variable{P:Program}{H:Hint}{call:cF}{f:FuncId}{nt:Nat}{ops:Array Oper}{base aM:Nat}{l:List Nat}{S:Nat->St}{V:Nat->Value}{X:Nat->FP}{W:Nat->Bool}
variable{J0:dH}{s0:St}{w0:World}{a0:Act}
theorem Inv.any{ro:Option Nat}(fy:gQ P call)(T:Tr P H call f nt ops base aM l S V X W)(xq:nt<=a0.tmps.size)(Gh:∀q,q<ops.size->q∈l)
  (W3:∀(q:Nat) (o:Oper),ops[q]?=some o->∀e∈o.after.toList,Region.binds .any e=true->e.on<q) {Q:Exit->Act->World->Prop}
  (hQ:∀a w J s2,Inv ops base aM l S X W J0 s0 w0 a0 (fun q=>q<ops.size) a w J s2->Q .normal a w) :
  ∀(fuel:Nat) (bQ:Array Bool) (a:Act) (w:World) (J:dH) (s2:St),bQ.size=ops.size->((List.range ops.size).filter (fun q=>!bQ.getD q false)).length<=fuel->xY ops (vU bQ)->
   Inv ops base aM l S X W J0 s0 w0 a0 (vU bQ) a w J s2->wpAnyIn (Wd ro) 0 P .any ops Q fuel bQ a w:=by
 have fQ:∀(bQ:Array Bool) (a:Act) (w:World) (J:dH) (s2:St),bQ.size=ops.size->Region.ready .any ops bQ=[]->Inv ops base aM l S X W J0 s0 w0 a0 (vU bQ) a w J s2->Q .normal a w:=by
  intro bQ a w J s2 v5 hr I;have key:∀q,q<ops.size->vU bQ q:=by
   intro q
   induction q using Nat.strongRecOn with
   |_ q ih=>
    intro hq;by_cases hl:vU bQ q
    ·exact hl
    ·exfalso
     have Eh:q∈Region.ready .any ops bQ:=by
      unfold Region.ready;rw[List.mem_filter];refine⟨List.mem_range.2 hq,?_⟩;have zJ:q<bQ.size:=om
      have h1:bQ.getD q true=false:=by
       unfold vU at hl;simp only[Array.getD,zJ,dif_pos]at hl ⊢;simpa using hl
      simp only[h1,Bool.not_false,Bool.true_and,hq,Array.getElem?_eq_getElem,Option.map_some,Option.getD_some];rw[Array.all_eq_true'];intro e he;by_cases hb:Region.binds .any e=true
      ·have dV:=W3 q ops[q] (by simp[hq]) e (by simpa using he) hb
       have:=ih e.on dV om;unfold vU at this;simp only[this,Bool.or_true]
      ·simp[hb]
     rw[hr]at Eh;cases Eh
  have hE:vU bQ=fun q=>q<ops.size:=by
   funext q
   apply propext;refine⟨fun h=>?_,key q⟩;unfold vU at h;by_cases hq:q<bQ.size
   ·omega
   ·simp[Array.getD,hq]at h
  rw[hE]at I;exact hQ a w J s2 I
 intro fuel
 induction fuel with
 |zero=>
  intro bQ a w J s2 v5 hc Jy I;have hr:Region.ready .any ops bQ=[]:=by
   cases hx:Region.ready .any ops bQ with
   |nil=>rfl
   |cons q r=>
    exfalso;have Eh:q∈Region.ready .any ops bQ:=by rw[hx];simp
    unfold Region.ready at Eh;rw[List.mem_filter]at Eh;obtain⟨h1,h2⟩:=Eh;simp only[Bool.and_eq_true,Bool.not_eq_true']at h2;have hq:=List.mem_range.1 h1;have zJ:q<bQ.size:=om
    have:q∈(List.range ops.size).filter (fun q=>!bQ.getD q false):=by
     rw[List.mem_filter];refine⟨h1,?_⟩;have:=h2.1;simp only[Array.getD,zJ,dif_pos]at this ⊢;simp only[this,Bool.not_false]
    rw[List.length_eq_zero_iff.1 (Nat.le_zero.1 hc)]at this;cases this
  exact⟨hr,fQ bQ a w J s2 v5 hr I⟩
 |succ fuel ih=>
  intro bQ a w J s2 v5 hc Jy I;refine⟨fun hr=>fQ bQ a w J s2 v5 hr I,fun q hq=>?_⟩;unfold Region.ready at hq;rw[List.mem_filter]at hq;obtain⟨h1,h2⟩:=hq;simp only[Bool.and_eq_true,Bool.not_eq_true']at h2;have hql:=List.mem_range.1 h1;have zJ:q<bQ.size:=om
  have sM:bQ.getD q false=false:=by
   have:=h2.1;simp only[Array.getD,zJ,dif_pos]at this ⊢;exact this
  obtain⟨i,hi,hie⟩:=List.getElem_of_mem (Gh q hql);have Ei:l[i]?=some q:=by rw[List.getElem?_eq_getElem hi,hie]
  have TQ:=vU.set (p:=q) zJ;have TS:xY ops (fun r=>vU bQ r\/r=q):=by
   intro r o hr ho e he hb;rcases hr with hr|rfl
   ·exact .inl (Jy r o hr ho e he hb)
   ·left
    have:=h2.2;rw[ho]at this;simp only[Option.map_some,Option.getD_some]at this;rw[Array.all_eq_true']at this;have:=this e (by simpa using he);unfold vU;simpa[hb]using this
  obtain⟨o,ho,_⟩:=T.op Ei;have hnE:¬vU bQ q:=by unfold vU;rw[sM];simp
  refine I.step fy T (T.up Ei ho hnE Jy TS) xq ?_;intro a' w' J' P8 I';rw[<-TQ]at I' TS;refine ih (bQ.setIfInBounds q true) a' w' J' P8 (by simp[v5]) ?_ TS I';have:((List.range ops.size).filter (fun r=>!(bQ.setIfInBounds q true).getD r false)).length<((List.range ops.size).filter (fun r=>!bQ.getD r false)).length:=by
   refine filter_lt (fun r hr=>?_) _ q h1 (by simp only[sM,Bool.not_false]) ?_
   ·by_cases hx:bQ.getD r false=true
    ·have:vU (bQ.setIfInBounds q true) r:=by rw[TQ];exact .inl hx
     unfold vU at this;rw[this]at hr;cases hr
    ·simpa using hx
   ·have:vU (bQ.setIfInBounds q true) q:=by rw[TQ];exact .inr rfl
    unfold vU at this;rw[this];rfl
  omega
end
theorem Good.W4 {J J' : dH} {s s' : St} {w w' : World} (h : Good J s w J' s' w') (n : Nat) : Good J s w J' s' { w' with drawn := n } :=
  { hr := { cS := h.hr.cS, di := h.hr.di, cH := h.hr.cH, dj := h.hr.dj, dX := h.hr.dX, dP := h.hr.dP, dZ := h.hr.dZ, sep := h.hr.sep }
    mono := h.mono, next := h.next, low := h.low, size := h.size, os := h.os, tape := h.tape, output := h.output, fresh := h.fresh, cI := h.cI, frame := h.frame }
theorem Ej{ops:Array Oper}{l:List Nat}(h:nM ops l=true):l.length=ops.size/\(∀q,q<ops.size->q∈l)/\(∀(q:Nat) (o:Oper),ops[q]?=some o->∀e∈o.after.toList,Region.binds .any e=true->e.on<q) /\
  (∀(i k p q:Nat),i<k->l[i]?=some p->l[k]?=some q->p≠q/\∀o o',ops[p]?=some o->ops[q]?=some o'->shares ops o o'=true->prec (Region.before ops) p q=true):=by
 unfold nM at h;simp only[Bool.and_eq_true]at h;obtain⟨⟨⟨h1,h2⟩,h3⟩,h4⟩:=h;refine⟨Nat.eq_of_beq_eq_true h1,fun q hq=>?_,fun q o ho e he hb=>?_,fun i k p q Ic hp hq=>?_⟩
 ·rw[List.all_eq_true]at h2
  have:=h2 q (List.mem_range.2 hq);simpa using this
 ·rw[List.all_eq_true]at h3
  have dV:q<ops.size:=(Array.getElem?_eq_some_iff.1 ho).1;have Eh:(o,q)∈ops.toList.zipIdx:=by
   rw[List.mem_zipIdx_iff_getElem?];simpa using ho
  have:=h3 (o,q) Eh;simp only[List.all_eq_true]at this;have:=this e he;rw[hb]at this;simp only[Bool.not_true,Bool.false_or]at this;exact Nat.le_of_ble_eq_true this
 ·have:=rZ l h4 i k p q Ic hp hq
  simp only[Bool.and_eq_true,Bool.not_eq_true']at this;refine⟨Nat.ne_of_beq_eq_false this.1,fun o o' ho mD hs=>?_⟩;have:=this.2;rw[ho,mD]at this;simpa[hs]using this
theorem GI {ro : Option Nat} {P : Program} {H : Hint} {call : cF} {f : FuncId} {nt : Nat} {ops : Array Oper} {id : Nat} {J : dH} {s s' : St} {w : World} {a : Act} (hm : P.follows .mixedOrders = true) (fy : gQ P call) (ME : aY call)
    (h : rI P H call f nt ops s = some s') (hR : HR J s w) (hE : ER J s a) (hn : nt ≤ a.tmps.size) :
    (Code.region id ops true).wpIn (Wd ro) 0 P (fun e a' w' => e = .normal ∧ GB J s w a s' a' w') a w := by
  unfold rI at h
  cases hd : nM ops (fS ops) with
  | false => rw [hd] at h; simp at h
  | true =>
    rw [hd] at h
    simp only [cond_true] at h
    split at h
    · rename_i r iv hr
      cases hf : DL ops (s.h.next + ops.size) iv with
      | false => rw [hf] at h; simp at h
      | true =>
        rw [hf] at h
        simp only [cond_true, oi] at h
        subst h
        obtain ⟨d1, d2, d3, d4⟩ := Ej hd
        obtain ⟨S, V, X, W, t1, t2, t3, t4⟩ := xZ P H call f nt ops s.h.next s.kn (fS ops) 0 (s.jo ops.size) r iv hr
        simp only [Nat.zero_add] at t2 t4
        have T : Tr P H call f nt ops s.h.next s.kn (fS ops) S V X W :=
          { len := d1
            step := fun i p hp => let ⟨o, h1, _, h3⟩ := t4 i p hp; ⟨o, h1, h3⟩
            P3 := fun i k p q Ic hp hq => (d4 i k p q Ic hp hq).1
            TH := fun i k p q o o' Ic hp hq ho mD hc => by
              rcases hc with hc | hc
              · exact (d4 i k p q Ic hp hq).2 o o' ho mD hc
              · obtain ⟨_, _, f1, _⟩ := t4 i p hp
                obtain ⟨_, _, f2, _⟩ := t4 k q hq
                have := rZ iv hf i k _ _ Ic f1 f2
                simpa [hc] using this
            dR := by rw [t1]; exact Nat.le_refl _
            kn := by rw [t1]; rfl
            dF := ME }
        rw [d1] at t2
        refine wpIn_region_any hm ?_
        refine Inv.any (J0 := J) (s0 := s) (w0 := w) (a0 := a) fy T hn d2 d3 ?_ ops.size _ a _ J (s.jo ops.size) (by simp) ?_ ?_ ?_
        · intro a' w' J' s2 I
          refine ⟨rfl, J', ?_, ?_, I.size, I.defers, I.Ec⟩
          · have MF : ∀ (j p : Nat), (fS ops)[j]? = some p → (p < ops.size ↔ j < ops.size) := fun j p hj => by
              obtain ⟨o', mD, Sf⟩ := T.op hj
              exact ⟨fun _ => Sf, fun _ => (Array.getElem?_eq_some_iff.1 mD).1⟩
            rw [← t2]
            refine I.rz.swap ?_ ?_ (fun k L hL => ?_) (fun t L hL => ?_) I.low
            · rw [I.next ops.size (Nat.le_refl _) (fun j p hj _ => MF j p hj)]; exact Nat.le_refl _
            · rw [I.kn, T.TJ _ (Nat.le_refl _)]; exact Nat.le_refl _
            · exact (I.g k L ops.size (Nat.le_refl _) hL (fun j p hj _ => MF j p hj)).symm
            · exact (I.lk t L ops.size (Nat.le_refl _) hL (fun j p hj _ => MF j p hj)).symm
          · intro t v hv
            rw [← t2] at hv
            exact I.env t v ops.size (Nat.le_refl _) (fun j p o hj ho _ => by
              obtain ⟨o', mD, Sf⟩ := T.op hj
              exact ⟨fun _ => Sf, fun _ => (Array.getElem?_eq_some_iff.1 mD).1⟩) hv
        · exact Nat.le_trans (List.length_filter_le _ _) (by simp)
        · intro q o hq
          exfalso
          unfold vU at hq
          simp [Array.getD] at hq
        · have Gs : ∀ q, ¬ vU (Array.replicate ops.size false) q := fun q hq => by unfold vU at hq; simp [Array.getD] at hq
          have W5 := (Good.jo hR ops.size ops.size).W4 (w.drawn + 1)
          refine { kn := rfl, next := ?_, dR := Nat.le_refl _, g := ?_, lk := ?_, low := ?_, rz := W5, Ec := .refl _ _, BN := ?_, Ed := ?_, env := ?_, size := rfl, defers := rfl }
          · intro k hk h
            have := T.BM k 0 om (fun j _ h2 => by
              cases hq : (X j).fj with
              | false => rfl
              | true =>
                exfalso
                obtain ⟨pj, oj, hj, _, _⟩ := T.at (i := j) om
                exact Gs _ ((h j pj hj hq).2 om))
            rw [Nat.zero_add] at this
            rw [this, t1]
          · intro id L k hk _ h
            have := T.wa (id := id) k 0 om (fun j _ h2 hq => by
              obtain ⟨pj, oj, hj, _, _⟩ := T.at (i := j) om
              exact Gs _ ((h j pj hj hq).2 om))
            rw [Nat.zero_add] at this
            rw [this, t1]
          · intro t L k hk _ h
            have := T.BK (t := t) k 0 om (fun j _ h2 hq => by
              obtain ⟨pj, oj, hj, _, _⟩ := T.at (i := j) om
              exact Gs _ ((h j pj hj hq).2 om))
            rw [Nat.zero_add] at this
            rw [this, t1]
          · have := T.Il ops.size 0 om
            rw [t1, Nat.zero_add] at this
            exact this
          · intro j p hj hs
            exfalso
            cases hq : J.g (s.h.next + j) with
            | none => rw [hq] at hs; cases hs
            | some L => have := hR.cS _ _ hq; omega
          · intro j p hj hs
            exfalso
            cases hq : J.l (s.kn + j) with
            | none => rw [hq] at hs; cases hs
            | some L => have := hR.dX _ _ hq; omega
          · intro t v k hk h hv
            have := T.BL (t := t) k 0 om (fun j p o _ h2 hj ho hd => Gs _ ((h j p o hj ho hd).2 om))
            rw [Nat.zero_add] at this
            rw [this, t1] at hv
            exact hE t v hv
    · cases h
end Go.cL
namespace Go.cL
variable{P:Program}{w:World}{J:dH}{s:St}
theorem nV{env:cQ Value}:∀(l:List Tmp) (acc:cQ Value) (t:Tmp) (v:Value),(restrict env l acc).get t=some v->acc.get t=some v\/(t∈l/\env.get t=some v)
 | [],acc,t,v,h=>.inl h
 |u :: l,acc,t,v,h=>by
  simp only[restrict]at h;split at h
  ·rename_i x hx
   rcases nV l _ t v h with h1|⟨h1,h2⟩
   ·rw[cQ.bO]at h1
    by_cases e:u=t
    ·subst e;rw[if_pos rfl]at h1;obtain rfl:=Option.some.inj h1;exact .inr ⟨by simp,hx⟩
    ·rw[if_neg e]at h1;exact .inl h1
   ·exact .inr ⟨by simp[h1],h2⟩
  ·rcases nV l _ t v h with h1|⟨h1,h2⟩
   ·exact .inl h1
   ·exact .inr ⟨by simp[h1],h2⟩
theorem Ek {H : Hint} {f : FuncId} {c : Code} {kn : Nat} {s1 : St} {a : Act} (h : norm H f c kn s = some s1) (hR : HR J s w) (hE : ER J s a) : ∃ J1, Good J s w J1 s1 w ∧ ER J1 s1 a ∧ J1.g = J.g := by
  unfold norm at h
  split at h
  · simp only [oi] at h; subst h; exact ⟨J, .refl hR, hE, rfl⟩
  · rename_i l _
    simp only [] at h
    rw [Bool.cond_eq_ite] at h
    split at h
    · rename_i hb
      simp only [oi] at h
      subst h
      simp only [Bool.and_eq_true, List.all_eq_true] at hb
      have hk := Nat.le_of_ble_eq_true hb.1
      let J1 : dH := ⟨J.g, fun t => if t < kn then J.l t else none⟩
      have hl : ∀ t L, J1.l t = some L → t < kn ∧ J.l t = some L := by
        intro t L ht
        simp only [J1] at ht
        by_cases e : t < kn
        · rw [if_pos e] at ht; exact ⟨e, ht⟩
        · rw [if_neg e] at ht; cases ht
      refine ⟨J1, ?_, ?_, rfl⟩
      · exact { hr := { cS := hR.cS, di := hR.di, cH := hR.cH, dj := hR.dj, dX := fun t L h => (hl t L h).1, dP := fun t L h => hR.dP t L (hl t L h).2, dZ := fun t t' L L' h h' => hR.dZ t t' L L' (hl t L h).2 (hl t' L' h').2, sep := fun id t L L' h h' => hR.sep id t L L' h (hl t L' h').2 }
                mono := fun _ _ h => h, next := Nat.le_refl _, low := Nat.le_refl _, size := Nat.le_refl _, os := rfl, tape := rfl, output := rfl
                fresh := fun id L h1 h2 => absurd h1 (by rw [h2]; simp)
                cI := fun t L h1 => .inr ⟨t, L, (hl t L h1).2, rfl⟩
                frame := fun _ _ _ _ => rfl }
      · intro t v hv
        have W6 : (restrict s.env l .leaf).get t = some v := hv
        rcases nV l .leaf t v W6 with h1 | ⟨h1, h2⟩
        · simp [cQ.get] at h1
        · obtain ⟨e1, e2⟩ := hE t v h2
          refine ⟨e1, ?_⟩
          have Qa := hb.2 t h1
          rw [W6] at Qa
          simp only [] at Qa
          generalize a.tmps.getD t undef = cv at e2 ⊢
          cases e2 with
          | cX _ _ h => exact .cX _ _ h
          | loc ad x L hs h =>
            refine .loc ad x L hs ?_
            simp only [sT, hs, Option.isNone_some, Bool.false_or] at Qa
            show (if ad.block < kn then J.l ad.block else none) = some L
            have dV : ad.block < kn := Nat.le_of_ble_eq_true Qa
            rw [if_pos dV]; exact h
    · cases h
theorem yc{a:Act}(hR:HR J s w)(hE:ER J s a)(g:ResultVar->Sem Value)(Vv:∀t,g (.tmp t)=pure (a.tmps.getD t undef))(Vw:∀x t,g (.cell x t)=(do loadVar t (<-asAddr (a.tmps.getD x undef)))) :
  ∀(rs:List ResultVar) (l:List Value),vO P s rs=some l->l.all dn=true->∃cs,(rs.mapM g).run P w=.ok cs w/\fG J.g l cs
 | [],l,h,_=>by
  simp only[vO,oi]at h;subst h;exact⟨[],by simp,.nil _⟩
 | .tmp t :: rs,l,h,hn=>by
  simp only[vO]at h;split at h
  ·rename_i v hv
   split at h
   ·rename_i l' hl
    simp only[oi]at h;subst h;simp only[List.all_cons,Bool.and_eq_true]at hn;obtain⟨cs,h1,h2⟩:=yc hR hE g Vv Vw rs l' hl hn.2;refine⟨a.tmps.getD t undef :: cs,?_,.cons ((hE t v hv).2.pI hn.1) h2⟩;rw[List.mapM_cons,Vv];simp only[Sem.run_bind,Sem.run_pure,Result.andThen_ok,h1]
   ·cases h
  ·cases h
 | .cell x t :: rs,l,h,hn=>by
  simp only[vO]at h;split at h
  ·rename_i ad hv
   split at h
   ·rename_i v Zr
    split at h
    ·rename_i l' hl
     simp only[oi]at h;subst h;simp only[List.all_cons,Bool.and_eq_true]at hn;obtain⟨cs,h1,h2⟩:=yc hR hE g Vv Vw rs l' hl hn.2;obtain⟨L,hL,hc⟩:=(hE x _ hv).2.pG;obtain⟨c,h3,h4⟩:=AK hR hL Zr;refine⟨c :: cs,?_,.cons h4 h2⟩;rw[List.mapM_cons,Vw,hc];simp only[Sem.run_bind,Sem.run_pure,Result.andThen_ok,h1,asAddr,h3]
    ·cases h
   ·cases h
  ·cases h
theorem vr{fn:Func}{a:Act}{l:List Value}(hR:HR J s w)(hE:ER J s a)(h:vO P s fn.results.toList=some l)(hn:l.all dn=true):∃c,(results fn a.tmps).run P w=.ok c w/\VG J.g (jn l) c:=by
 let g:ResultVar->Sem Value:=fun r=>match r with | .tmp t=>pure (a.tmps.getD t undef) | .cell x t=>do loadVar t (<-asAddr (a.tmps.getD x undef))
 have zY:results fn a.tmps=(do let vs <-fn.results.mapM g;pure (if h:vs.size=1 then vs[0] else .tuple vs)):=rfl;obtain⟨cs,h1,h2⟩:=yc (P:=P) hR hE g (fun t=>rfl) (fun x t=>rfl) fn.results.toList l h hn;rw[zY,Array.mapM_eq_mapM_toList];simp only[Sem.run_bind,Sem.run_pure,Result.andThen_ok];rw[map_eq_pure_bind];simp only[Sem.run_bind,Sem.run_pure,Result.andThen_ok,h1];refine⟨_,rfl,?_⟩;by_cases e:cs.length=1
 ·rw[dif_pos (by simpa using e)]
  obtain⟨c,rfl⟩:=List.length_eq_one_iff.1 e;obtain⟨v,rfl⟩:=List.length_eq_one_iff.1 (h2.1.trans e);exact h2.2 0 v c rfl rfl
 ·rw[dif_neg (by simpa using e)]
  have:jn l=.tuple l.toArray:=by
   unfold jn;split
   ·exact absurd h2.1.symm (by simpa using e)
   ·rfl
  rw[this];exact h2.tuple
def MG(D:Nat):Deferred:={ target:=.collected D,args:=#[] }
def Marks(J':dH)(w w':World)(ds ds':List Deferred):Prop:=
 ∃Ds:List Nat,ds'=Ds.map MG++ds/\Ds.Nodup /\
  ∀D∈Ds,w.heap.size<=D/\w'.heap[D]?=some (.deferred (some []))/\(∀id L,J'.g id=some L->L.b≠D)/\(∀t L,J'.l t=some L->L.b≠D)
theorem Marks.none(J':dH)(w w':World)(ds:List Deferred):Marks J' w w' ds ds:=⟨[],rfl,.nil,fun D h=>by cases h⟩
theorem Good.apart{J1 J2:dH}{s1 s2:St}{w1 w2:World}(k:Good J1 s1 w1 J2 s2 w2){D:Nat}(hD:D<w1.heap.size)(hg:∀id L,J1.g id=some L->L.b≠D)(hl:∀t L,J1.l t=some L->L.b≠D) :
  w2.heap[D]?=w1.heap[D]?/\(∀id L,J2.g id=some L->L.b≠D)/\(∀t L,J2.l t=some L->L.b≠D):=by
 refine⟨k.frame D hD (fun id L h e=>absurd e (hg id L h)) hl,fun id L h e=>?_,fun t L h e=>?_⟩
 ·cases h1:J1.g id with
  |some L1=>
   have:=k.mono _ _ h1;rw[h]at this;obtain rfl:=Option.some.inj this;exact hg _ _ h1 e
  |none=>
   rcases k.fresh id L h h1 with q|⟨FT,L0,x,y,_⟩
   ·omega
   ·exact hg _ _ x (y.trans e)
 ·rcases k.cI t L h with q|⟨t0,L0,x,y⟩
  ·omega
  ·exact hl _ _ x (y.trans e)
theorem Marks.trans{J1 J2:dH}{s1 s2:St}{w1 w2:World}{ds ds1 ds2:List Deferred}(h:Marks J1 w w1 ds ds1)(v5:w.heap.size<=w1.heap.size)(k:Good J1 s1 w1 J2 s2 w2)(m:Marks J2 w1 w2 ds1 ds2):Marks J2 w w2 ds ds2:=by
 obtain⟨D1,rfl,n1,p1⟩:=h;obtain⟨D2,rfl,n2,p2⟩:=m;have dV:∀D∈D1,D<w1.heap.size:=fun D hD=>(Array.getElem?_eq_some_iff.1 (p1 D hD).2.1).1
 refine⟨D2++D1,by simp,?_,?_⟩
 ·rw[List.nodup_append]
  refine⟨n2,n1,fun a ha b hb e=>?_⟩;have:=(p2 a ha).1;have:=dV b hb;omega
 ·intro D hD
  rcases List.mem_append.1 hD with hD|hD
  ·obtain⟨q1,q2⟩:=p2 D hD
   exact⟨Nat.le_trans v5 q1,q2⟩
  ·obtain⟨q1,q2,q3,q4⟩:=p1 D hD
   obtain⟨r1,r2,r3⟩:=k.apart (dV D hD) q3 q4;exact⟨q1,r1.trans q2,r2,r3⟩
def kJ(J:dH)(s:St)(w:World)(a:Act)(s':St)(a':Act)(w':World):Prop:=
 ∃J',Good J s w J' s' w'/\ER J' s' a'/\a'.tmps.size=a.tmps.size/\Marks J' w w' a.defers a'.defers/\fD (s.h.next<=·) J.g J'.g
theorem GB.toM{s':St}{w':World}{a a':Act}(h:GB J s w a s' a' w'):kJ J s w a s' a' w':=by
 obtain⟨J',q1,q2,q3,q4,q5⟩:=h;exact⟨J',q1,q2,q3,by rw[q4];exact .none _ _ _ _,q5⟩
theorem kJ.trans{J1:dH}{s1 s2:St}{w1 w2:World}{a a1 a2:Act}(hG:Good J s w J1 s1 w1)(hs:a1.tmps.size=a.tmps.size)(hd:Marks J1 w w1 a.defers a1.defers)(hA:fD (s.h.next<=·) J.g J1.g)(h:kJ J1 s1 w1 a1 s2 a2 w2):kJ J s w a s2 a2 w2:=by
 obtain⟨J2,q1,q2,q3,q4,q5⟩:=h;exact⟨J2,hG.trans q1,q2,by rw[q3,hs],hd.trans hG.size q1 q4,hA.trans (q5.mono (fun k hk=>Nat.le_trans hG.next hk))⟩
theorem qO(w:World)(o:Obj){k:Nat}(hk:k<w.heap.size):(w.alloc o).heap[k]?=w.heap[k]?:=by
 show(w.heap.push _)[k]?=_;rw[Array.getElem?_push,if_neg om]
theorem Good.alloc(h:HR J s w)(o:Obj):Good J s w J s (w.alloc o) where
 hr:={ cS:=h.cS,di:=(fun id L hL=>by rw[qO w o (h.lt hL)];exact h.di id L hL),cH:=(fun id L b hL hm=>by rw[qO w o (h.lt hL)];exact h.cH id L b hL hm),dj:=h.dj,dX:=h.dX,dP:=(fun t L hL=>by rw[qO w o (h.Mb hL)];exact h.dP t L hL),dZ:=h.dZ,sep:=h.sep }
 mono:=fun _ _ h=>h
 next:=Nat.le_refl _
 low:=Nat.le_refl _
 size:=by simp
 os:=rfl
 tape:=rfl
 output:=rfl
 fresh:=(fun id L h1 h2=>by rw[h2]at h1;cases h1)
 cI:=fun t L h1=>.inr ⟨t,L,h1,rfl⟩
 frame:=fun b hb _ _=>qO w o hb
theorem Good.W7{J':dH}{s':St}{w':World}(h:Good J s w J' s' w'){D:Nat}(hD:w.heap.size<=D)(hg:∀id L,J'.g id=some L->L.b≠D)(hl:∀t L,J'.l t=some L->L.b≠D)(o:Obj):Good J s w J' s' (w'.putObj D o) where
 hr:={ cS:=h.hr.cS,di:=(fun id L hL=>by rw[World.putObj_heap_other (hg id L hL)];exact h.hr.di id L hL),cH:=(fun id L b hL hm=>by rw[World.putObj_heap_other (hg id L hL)];exact h.hr.cH id L b hL hm),dj:=h.hr.dj,dX:=h.hr.dX,dP:=(fun t L hL=>by rw[World.putObj_heap_other (hl t L hL)];exact h.hr.dP t L hL),dZ:=h.hr.dZ,sep:=h.hr.sep }
 mono:=h.mono
 next:=h.next
 low:=h.low
 size:=by simp;exact h.size
 os:=h.os
 tape:=h.tape
 output:=h.output
 fresh:=h.fresh
 cI:=h.cI
 frame:=fun b hb q1 q2=>(World.putObj_heap_other om).trans (h.frame b hb q1 q2)
theorem nW{fn:Func}{tmps:Array Value}{R:Ending->World->Prop}(I:World->Prop)(zY:∀w',I w'->∃v,(results fn tmps).run P w'=.ok v w'/\R (.returned v) w') :
  ∀(Ds:List Nat) (w:World),Ds.Nodup->(∀D∈Ds,w.heap[D]?=some (.deferred (some [])))->I w->(∀w' D,I w'->D∈Ds->I (w'.putObj D (.deferred none)))->LeavesInM Fence.wide 0 P fn tmps R (Ds.map MG) .returning w
 | [],w,_,_,hI,_=>zY w hI
 |D :: Ds,w,hn,hd,hI,hs=>by
  refine⟨by simp,.inl ⟨D,w.putObj D (.deferred none),rfl,run_takeDeferred (hd D (by simp)),?_⟩⟩;rw[List.nodup_cons]at hn;refine nW I zY Ds _ hn.2 (fun E hE=>?_) (hs w D hI (by simp)) (fun w' E h1 h2=>hs w' E h1 (by simp[h2]));rw[World.putObj_heap_other (fun e=>hn.1 (by rw[<-e];exact hE))];exact hd E (by simp[hE])
def ye(P:Program)(run:FuncId->Nat->Code->St->Option (Exit×St)):Prop:=∀f nt c s x s',run f nt c s=some (x,s')->∀ro,(ro=none\/bE c=true)->∀J w a,HR J s w->ER J s a->nt<=a.tmps.size->c.wpIn (Wd ro) 0 P (fun e a' w'=>e=x/\kJ J s w a s' a' w') a w
def BO(P:Program)(loop:FuncId->Nat->Code->Nat->St->Option (Exit×St)):Prop:=∀f nt c kn s x s',loop f nt c kn s=some (x,s')->∀ro,(ro=none\/bE c=true)->∃n,∀J w a,HR J s w->ER J s a->nt<=a.tmps.size->∀Q:Exit->Act->World->Prop,(∀a' w',kJ J s w a s' a' w'->Q x a' w')->Code.roundsIn (Wd ro) 0 P c Q n a w
theorem r8{next:Act->World->Prop}{Q:Exit->Act->World->Prop}{x:Exit}{a:Act}{w:World}(h:x≠.normal)(hq:Q x a w):Exit.then next Q x a w:=by
 cases x<;>first|exact absurd rfl h|exact hq
theorem gZ{g : FuncId}{fn : Func}{args : Array Value}(hf : P.funcs[g]? = some fn)(hb : fn.body.isSome = true)(cG : (fn.name == "runtime.NumGoroutine") = false) : (callFunc g args).run P w = .ok (.enter g args) w := by
 unfold callFunc;have vl:fn.body≠none:=by cases h:fn.body<;>simp_all
 have Gz : fn.name ≠ "runtime.NumGoroutine" := by simpa using cG
 simp[hf,Gz,vl]
theorem El{call : cF}(fy : gQ P call)(cG : ∀ (g : FuncId) (fn : Func), P.funcs[g]? = some fn → (fn.name == "runtime.NumGoroutine") = false){f : FuncId}{nt : Nat}{x : Operand}{ps : Array Tmp}{assign body : Code}{s' : St}{e : Exit}{a : Act}
  (h:pB P call f nt x ps assign body s=some (e,s')) (hR:HR J s w) (hE:ER J s a) (hn:nt<=a.tmps.size) :
  (Code.rangeFunc x ps assign body).wpIn (Wd none) 0 P (fun e' a' w'=>e'=e/\kJ J s w a s' a' w') a w:=by
 unfold pB at h;cases TT:(bE assign && bE body)with
 |false=>rw[TT]at h;simp at h
 |true=>
 rw[TT]at h;simp only[cond_true]at h;split at h
 ·rename_i g first captured Si
  cases hb:(Nat.blt g aU && vY P g)with
  |false=>rw[hb]at h;simp at h
  |true=>
  rw[hb]at h;simp only[cond_true]at h;simp only[Bool.and_eq_true]at hb;obtain⟨aat,Iq⟩:=hb;have dV:g<aU:=Nat.le_of_ble_eq_true aat;obtain⟨TU,GJ,hgb⟩:∃TU,P.funcs[g]?=some TU/\TU.body.isSome=true:=by
   unfold vY at Iq;split at Iq
   ·rename_i TU GJ;exact⟨TU,GJ,Iq⟩
   ·cases Iq
  split at h
  ·rename_i v h2 hr
   obtain⟨x',y',hf,Sd,TC⟩:=((hE.eval Si).aZ (fun a=>by simp)).L9;refine wpIn_rangeFunc fun fn _=>?_
   obtain⟨rc,hrc⟩:∃rc:Loop,rc = { state:=.ready,pending:=none,fn:=fn,tmps:=a.tmps,params:=ps,assign:=assign,body:=body,defers:=w.heap.size }:=⟨_,rfl⟩;have g0:=Good.alloc hR (.deferred (some []));obtain⟨J1,g1,l1,gid,ad1⟩:=g0.hr.gT (b:=.loop .ready none f nt (s.env.dF dn) ps.toList assign body) (o:=.loop rc) (by simp) (fun g' vQ=>⟨fn,a.tmps,ps,w.heap.size,by rw[hrc],rfl,hn,fun t u hu=>by
    obtain⟨q1,q2⟩:=cQ.xz dn _ t u hu;exact⟨(hE t u q1).1,((hE t u q1).2.pI q2).mono vQ⟩⟩)
   have v5:(w.alloc (.deferred (some []))).heap.size=w.heap.size+1:=by simp
   have WI:fG J1.g (first.toList++[.func (.yield s.h.next) #[] #[]]++captured.toList) (x'.toList++[.func (.yield (w.heap.size+1)) #[] #[]]++y'.toList):=by
    have hy:=VG.yield (g:=J1.g) s.h.next _ gid;simp only[v5]at hy;exact((Sd.mono g1.mono).append (.cons hy (.nil _))).append (TC.mono g1.mono)
   have hd:=fy.1 g _ _ v h2 hr dV J1.g _ _ g1.hr.bare WI;have TV:=hd.TA GJ hgb (cG g TU GJ);refine⟨w.heap.size+1,[{ target:=.collected w.heap.size,args:=#[] }],(w.alloc (.deferred (some []))).alloc (.loop rc),{ target:=.fn (.func g) y',args:=x'++#[.func (.yield (w.heap.size+1)) #[] #[]] },(w.alloc (.deferred (some []))).alloc (.loop rc),g,(x'.toList++[Value.func (.yield (w.heap.size+1)) #[] #[]]++y'.toList).toArray,(w.alloc (.deferred (some []))).alloc (.loop rc),(by rw[hrc];exact run_enterLoop_outer fn a.tmps ps assign body),?_,fun _ _=>trivial,?_,(fun q=>by simp[Wd,Fence.wide]at q),?_⟩
   ·have Mh:a.eval x=.func (.func g) x' y':=hf
    simp only[resolve,rangeCall,Mh,Deferred.ofValue];simp[Act.eval]
   ·have e2:invoke (.fn (.func g) y') (x'++#[.func (.yield (w.heap.size+1)) #[] #[]])=callFunc g (x'++#[.func (.yield (w.heap.size+1)) #[] #[]]++y'):=rfl
    show(invoke (.fn (.func g) y') (x'++#[.func (.yield (w.heap.size+1)) #[] #[]])).run P _=_;rw[e2,gZ GJ hgb (cG g TU GJ)]
    congr 2
    apply Array.ext';simp
   ·refine CallsIn.mono (F:=Wd none) (n:=0-1) (callsIn_wide.2 TV) ?_
    rintro e9 w3 ⟨c,rfl,G',hv,hG,hA⟩;have k:=Good.call g1.hr hG;have W8:G' s.h.next=some ⟨(w.alloc (.deferred (some []))).heap.size,0,0,0⟩:=hG.mono _ _ gid;have fin:∀st nL f1 Po zQ Pp W9 Xa,h2.m.get s.h.next=some (.loop st nL f1 Po zQ Pp W9 Xa)->st≠.busy->uy { s with h:=h2.jc s.h.next .dead } nL=some (e,s')->
      rangePost (Wd none) 0 P (w.heap.size+1) (fun e' a' w'=>e'=e/\kJ J s w a s' a' w') { a with defers:=[{ target:=.collected w.heap.size,args:=#[] }]++a.defers } (.returned c) w3:=by
     intro st nL f1 Po zQ Pp W9 Xa hm uj hl;obtain⟨R7,MH,BP,D',ho,_⟩:=k.hr.cH _ _ _ W8 hm;have mD:w3.heap[w.heap.size+1]?=some (.loop { state:=st,pending:=nL,fn:=R7,tmps:=MH,params:=BP,assign:=W9,body:=Xa,defers:=D' }):=by
      rw[<-v5];exact ho
     have k2:=k.hr.jc (b:=.dead) W8 hm rfl (o:=.loop { state:=.exhausted,pending:=nL,fn:=R7,tmps:=MH,params:=BP,assign:=W9,body:=Xa,defers:=D' }) (by simp) trivial;have kk:=g1.trans (k.trans k2);have AJ:=g0.trans kk;obtain⟨r1,r2,r3⟩:=kk.apart (D:=w.heap.size) (by rw[v5];omega) (fun id L hL e=>by have:=hR.lt hL;omega) (fun t L hL e=>by have:=hR.Mb hL;omega);have hD:(w.alloc (.deferred (some []))).heap[w.heap.size]?=some (.deferred (some [])):=World.alloc_heap_new w _;have tm:kJ J s w a { s with h:=h2.jc s.h.next .dead } { a with defers:=[{ target:=.collected w.heap.size,args:=#[] }]++a.defers } (w3.putObj (w.heap.size+1) (.loop { state:=.exhausted,pending:=nL,fn:=R7,tmps:=MH,params:=BP,assign:=W9,body:=Xa,defers:=D' })):=by
      rw[<-v5];refine⟨⟨G',J1.l⟩,AJ,?_,rfl,⟨[w.heap.size],rfl,by simp,fun D Xb=>?_⟩,?_⟩
      ·intro t u hu
       refine⟨(hE t u hu).1,(hE t u hu).2.mono AJ.mono (fun t L hL=>?_)⟩;show J1.l t=some L;rw[l1];exact hL
      ·simp only[List.mem_singleton]at Xb
       subst Xb;exact⟨Nat.le_refl _,r1.trans hD,r2,r3⟩
      ·exact ad1.trans (hA.mono (fun k hk=>by simp only[af.gT]at hk;omega))
     refine⟨nL,_,run_endLoop mD uj,?_⟩;unfold uy at hl;split at hl
     ·simp only[oi,pj]at hl;obtain⟨rfl,rfl⟩:=hl
      exact⟨rfl,tm⟩
     ·simp only[oi,pj]at hl;obtain⟨rfl,rfl⟩:=hl
      exact wpIn_ret ⟨rfl,tm⟩
     ·simp only[oi,pj]at hl;obtain⟨rfl,rfl⟩:=hl
      exact wpIn_exit ⟨rfl,tm⟩
     ·cases hl
    split at h
    ·rename_i hm;exact fin _ _ _ _ _ _ _ _ hm (by simp) h
    ·rename_i hm;exact fin _ _ _ _ _ _ _ _ hm (by simp) h
    ·cases h
  ·cases h
 ·cases h
theorem Qb{H : Hint}{r : Rec}(hm : P.follows .mixedOrders = true)(cG : ∀ (g : FuncId) (fn : Func), P.funcs[g]? = some fn → (fn.name == "runtime.NumGoroutine") = false)(h1 : ye P r.run)(h2 : BO P r.loop)(h3 : gQ P r.call)(h4 : aY r.call) : ye P (nN P H r) := by
 intro f nt c s x s' h ro Ps J w a hR hE hn;have MJ:kJ J s w a s a w:=⟨J,.refl hR,hE,rfl,.none _ _ _ _,.refl _ _⟩;unfold nN at h;split at h
 ·simp only[oi,pj]at h;obtain⟨rfl,rfl⟩:=h
  exact wpIn_skip ⟨rfl,MJ⟩
 ·simp only[oi,pj]at h;obtain⟨rfl,rfl⟩:=h
  exact wpIn_ret ⟨rfl,MJ⟩
 ·simp only[oi,pj]at h;obtain⟨rfl,rfl⟩:=h
  exact wpIn_exit ⟨rfl,MJ⟩
 ·rename_i ca cb
  have Zs:ro=none\/bE ca=true:=Ps.imp id (fun q=>by simp only[bE,Bool.and_eq_true]at q;exact q.1);have Zt:ro=none\/bE cb=true:=Ps.imp id (fun q=>by simp only[bE,Bool.and_eq_true]at q;exact q.2);split at h
  ·rename_i s1 ha
   refine wpIn_seq (wpIn_mono (h1 f nt ca s _ s1 ha ro Zs J w a hR hE hn) ?_);rintro e a1 w1 ⟨rfl,J1,q1,q2,q3,q4,q5⟩;show cb.wpIn (Wd ro) 0 P _ a1 w1;refine wpIn_mono (h1 f nt cb s1 x s' h ro Zt J1 w1 a1 q1.hr q2 (by rw[q3];exact hn)) ?_;rintro e a2 w2 ⟨rfl,hp⟩;exact⟨rfl,kJ.trans q1 q3 q4 q5 hp⟩
  ·rename_i hx
   refine wpIn_seq (wpIn_mono (h1 f nt ca s x s' h ro Zs J w a hR hE hn) ?_);rintro e a1 w1 ⟨rfl,hp⟩;exact r8 (fun e=>by subst e;exact hx s' h) ⟨rfl,hp⟩
 ·rename_i y ca cb
  split at h
  ·rename_i t ht
   have:=((hE.eval ht).aZ (fun a=>by simp)).bool;refine wpIn_cond this ?_;have:=h1 f nt _ s x s' h ro (Ps.imp id (fun q=>by simp only[bE,Bool.and_eq_true]at q;cases t<;>simp[q.1,q.2])) J w a hR hE hn;cases t<;>exact this
  ·cases h
 ·rename_i id cb
  have Zt:ro=none\/bE cb=true:=Ps;split at h
  ·rename_i pD s1 hb
   refine wpIn_block (wpIn_mono (h1 f nt cb s _ s1 hb ro Zt J w a hR hE hn) ?_);rintro e a1 w1 ⟨rfl,hp⟩;cases me:Nat.beq pD id with
   |true=>
    rw[me]at h;simp only[cond_true,oi,pj]at h;obtain⟨rfl,rfl⟩:=h;simp only[Exit.inBlock,if_pos (Nat.eq_of_beq_eq_true me)];exact⟨trivial,hp⟩
   |false=>
    rw[me]at h;simp only[cond_false,oi,pj]at h;obtain⟨rfl,rfl⟩:=h;simp only[Exit.inBlock,if_neg (Nat.ne_of_beq_eq_false me)];exact⟨trivial,hp⟩
  ·rename_i hx
   refine wpIn_block (wpIn_mono (h1 f nt cb s x s' h ro Zt J w a hR hE hn) ?_);rintro e a1 w1 ⟨rfl,hp⟩;cases e with
   |exit pD=>exact absurd h (hx pD s')
   |_=>exact⟨rfl,hp⟩
 ·rename_i cb
  obtain⟨n,hl⟩:=h2 f nt cb s.kn s x s' h ro Ps;exact wpIn_loop_rounds n (hl J w a hR hE hn _ (fun a' w' hp=>⟨rfl,hp⟩))
 ·rename_i id ops draw
  split at h
  ·rename_i s1 gi
   simp only[oi,pj]at h;obtain⟨rfl,rfl⟩:=h;cases draw with
   |true=>exact wpIn_mono (GI hm h3 h4 gi hR hE hn) (fun e a w q=>⟨q.1,q.2.toM⟩)
   |false=>exact wpIn_mono (D5 h3 gi hR hE hn) (fun e a w q=>⟨q.1,q.2.toM⟩)
  ·cases h
 ·rcases Ps with rfl|q
  ·exact El h3 cG h hR hE hn
  ·simp[bE]at q
 ·cases h
theorem MK{H:Hint}{r:Rec}(h1:ye P r.run)(h2:BO P r.loop):BO P (pE H r):=by
 intro f nt c kn s x s' h ro Ps;unfold pE at h;split at h
 ·cases h
 ·rename_i s1 gi
  split at h
  ·rename_i s2 hb
   obtain⟨n,hl⟩:=h2 f nt c kn s2 x s' h ro Ps;refine⟨n+1,fun J w a hR hE hn Q hQ=>?_⟩;obtain⟨J1,g1,g2,g3⟩:=Ek gi hR hE;refine wpIn_mono (h1 f nt c s1 _ s2 hb ro Ps J1 w a g1.hr g2 hn) ?_;rintro e a1 w1 ⟨rfl,J2,q1,q2,q3,q4,q5⟩;show Code.roundsIn (Wd ro) 0 P c Q n a1 w1;refine hl J2 w1 a1 q1.hr q2 (by rw[q3];exact hn) Q (fun a' w' hp=>hQ a' w' ?_);exact kJ.trans g1 rfl (.none _ _ _ _) (by rw[g3];exact .refl _ _) (kJ.trans q1 q3 q4 q5 hp)
  ·rename_i hx
   refine⟨1,fun J w a hR hE hn Q hQ=>?_⟩;obtain⟨J1,g1,g2,g3⟩:=Ek gi hR hE;refine wpIn_mono (h1 f nt c s1 x s' h ro Ps J1 w a g1.hr g2 hn) ?_;rintro e a1 w1 ⟨rfl,hp⟩;exact r8 (fun e=>by subst e;exact hx s' h) (hQ a1 w1 (kJ.trans g1 rfl (.none _ _ _ _) (by rw[g3];exact .refl _ _) hp))
theorem pQ:∀(l:List Value) (i:Nat) (acc:cQ Value) (t:Nat),(fI l i acc).get t=if i<=t/\t<i+l.length then l[t-i]? else acc.get t
 | [],i,acc,t=>by simp[fI];intro h1 h2;omega
 |v :: l,i,acc,t=>by
  simp only[fI];rw[pQ l (i+1) _ t,cQ.bO];rcases Nat.lt_trichotomy t i with h|h|h
  ·rw[if_neg om,if_neg om,if_neg om]
  ·subst h;rw[if_neg om,if_pos rfl,if_pos (by simp)];simp
  ·by_cases h2:t<i+1+l.length
   ·rw[if_pos om,if_pos (by simp;omega)]
    rw[show t-i=(t-(i+1))+1 by omega];simp
   ·rw[if_neg om,if_neg om,if_neg (by simp;omega)]
theorem Good.bare{G:Nat->Option Loc}{J':dH}{s':St}{w':World}(h:Good ⟨G,fun _=>none⟩ s w J' s' w'):Good ⟨G,fun _=>none⟩ (iw s.h) w ⟨J'.g,fun _=>none⟩ (iw s'.h) w':=
 { hr:=h.hr.bare,mono:=h.mono,next:=h.next,low:=h.low,size:=h.size,os:=h.os,tape:=h.tape,output:=h.output,fresh:=h.fresh,cI:=(fun t L h=>by cases h),frame:=h.frame }
theorem ML{F : bg}{r : Rec}(hF : dv P F)(cG : ∀ (g : FuncId) (fn : Func), P.funcs[g]? = some fn → (fn.name == "runtime.NumGoroutine") = false)(h1 : ye P r.run) : dv P (oK P F r) := by
 intro g args h v h' hc dV G w aP hR hA;unfold oK at hc;rw[show Nat.ble aU g=false from eQ dV]at hc;simp only[cond_false]at hc;split at hc
 ·rename_i x hx
  simp only[oi]at hc;subst hc;exact hF g args h v h' hx dV G w aP hR hA
 ·split at hc
  ·rename_i fn zK
   split at hc
   ·rename_i c hb
    left;refine⟨gZ zK (by rw[hb];rfl) (cG g fn zK),(callsIn_wide (n:=0)).1 (callsIn_of_wp_marks zK hb trivial ?_)⟩;have hR':HR ⟨G,fun _=>none⟩ { env:=fI args 0 .leaf,kn:=0,K:=.leaf,h:=h } w:=hR.env _;have Mx:ER ⟨G,fun _=>none⟩ { env:=fI args 0 .leaf,kn:=0,K:=.leaf,h:=h } { tmps:=aP.toArray++Array.replicate (fn.ntmps-aP.toArray.size) undef,defers:=[] }:=by
     intro t u hu;simp only[pQ,Nat.zero_le,true_and,Nat.zero_add,Nat.sub_zero]at hu;by_cases ht:t<args.length
     ·rw[if_pos ht]at hu
      have Xc:t<aP.length:=by rw[<-hA.1];exact ht
      refine⟨by simp;omega,?_⟩;have:(aP.toArray++Array.replicate (fn.ntmps-aP.toArray.size) undef).getD t undef=aP[t]:=by
       simp[Array.getD,Xc,Array.getElem_append,show t<aP.length+(fn.ntmps-aP.length) by omega]
      rw[this];exact .cX _ _ (hA.2 t u _ hu (by simp[Xc]))
     ·rw[if_neg ht]at hu;simp[cQ.get]at hu
    have key:∀x s',r.run g fn.ntmps c { env:=fI args 0 .leaf,kn:=0,K:=.leaf,h:=h }=some (x,s')->vP P fn s'=some (v,h')->(x=.normal\/x=.ret)->
      c.wpIn Fence.wide 0 P (bodyPostM Fence.wide 0 P fn (fun e w'=>∃c,e=.returned c/\∃G',VG G' v c/\Good ⟨G,fun _=>none⟩ (iw h) w ⟨G',fun _=>none⟩ (iw h') w'/\fD (h.next<=·) G G')) { tmps:=aP.toArray++Array.replicate (fn.ntmps-aP.toArray.size) undef,defers:=[] } w:=by
     intro x s' mV fQ hx;have MN:=h1 g fn.ntmps c _ x s' mV none (.inl rfl) _ w _ hR' Mx (by simp;omega);refine wpIn_mono (F:=Fence.wide) MN ?_;rintro e a' w' ⟨rfl,J',q1,q2,q3,⟨Ds,q4,q6,q7⟩,q5⟩;simp only[List.append_nil]at q4;unfold vP at fQ;split at fQ
     ·rename_i l hl
      cases hn:l.all dn with
      |false=>rw[hn]at fQ;simp at fQ
      |true=>
       rw[hn]at fQ;simp only[cond_true,oi,pj]at fQ;obtain⟨rfl,rfl⟩:=fQ;have tm:LeavesInM Fence.wide 0 P fn a'.tmps (fun e w'=>∃c,e=.returned c/\∃G',VG G' (jn l) c/\Good ⟨G,fun _=>none⟩ (iw h) w ⟨G',fun _=>none⟩ (iw s'.h) w'/\fD (h.next<=·) G G') a'.defers .returning w':=by
        rw[q4];refine nW (fun TW=>Good ⟨G,fun _=>none⟩ { env:=fI args 0 .leaf,kn:=0,K:=.leaf,h:=h } w J' s' TW) (fun TW hG=>?_) Ds w' q6 (fun D hD=>(q7 D hD).2.1) q1 (fun TW D hG hD=>hG.W7 (q7 D hD).1 (q7 D hD).2.2.1 (q7 D hD).2.2.2 _);obtain⟨cv,r1,r2⟩:=vr hG.hr q2 hl hn;exact⟨cv,r1,cv,rfl,J'.g,r2,hG.bare,q5⟩
       rcases hx with rfl|rfl<;>exact tm
     ·cases fQ
    split at hc
    ·rename_i s' mV;exact key _ s' mV hc (.inl rfl)
    ·rename_i s' mV;exact key _ s' mV hc (.inr rfl)
    ·cases hc
   ·cases hc
  ·cases hc
theorem yf{g:Nat->Option Loc}:∀(ps:List Tmp) (vs cs:List Value) (env:cQ Value) (tmps:Array Value),TR g env tmps->fG g vs cs->(∀t∈ps,t<tmps.size)->
  TR g (qH env ps vs) ((ps.zip cs).foldl (fun tmps (t,a)=>tmps.setIfInBounds t a) tmps)/\((ps.zip cs).foldl (fun tmps (t,a)=>tmps.setIfInBounds t a) tmps).size=tmps.size
 | [],vs,cs,env,tmps,h,_,_=>by simp[qH,h]
 |p :: ps,[],cs,env,tmps,h,hv,_=>by
  obtain rfl:=hv.iS;simp[qH,h]
 |p :: ps,v :: vs,cs,env,tmps,h,hv,hp=>by
  obtain⟨c,j6,rfl,h1,h2⟩:=hv.head;have LQ:=hp p (by simp);have step:TR g (env.set p v) (tmps.setIfInBounds p c):=by
   intro t u hu;rw[cQ.bO]at hu;by_cases e:p=t
   ·subst e
    simp only[if_true,oi]at hu;subst hu;refine⟨by simpa using LQ,?_⟩;simp[Array.getD,LQ];exact h1
   ·simp only[e,if_false]at hu
    obtain⟨q1,q2⟩:=h t u hu;refine⟨by simpa using q1,?_⟩;simp only[Array.getD,Array.size_setIfInBounds,q1,dif_pos]at q2 ⊢;simp only[Array.getInternal_eq_getElem]at q2 ⊢;rw[Array.getElem_setIfInBounds];simp only[e,if_false];exact q2
  obtain⟨r1,r2⟩:=yf ps vs j6 (env.set p v) (tmps.setIfInBounds p c) step h2 (fun t ht=>by simpa using hp t (by simp[ht]));simp only[qH,List.zip_cons_cons,List.foldl_cons];exact⟨r1,by rw[r2];simp⟩
theorem TR.er{G:Nat->Option Loc}{env:cQ Value}{tmps:Array Value}{h:af}(ht:TR G env tmps)(ds:List Deferred):ER ⟨G,fun _=>none⟩ { env:=env,kn:=0,K:=.leaf,h:=h } { tmps:=tmps,defers:=ds }:=
 fun t v hv=>⟨(ht t v hv).1,.cX _ _ (ht t v hv).2⟩
theorem BQ{G:Nat->Option Loc}{h h':af}{y:Nat}{L:Loc}{jump:Option Code}{v:Value}(hR:HR ⟨G,fun _=>none⟩ (iw h) w)(hL:G y=some L)(hh:j7 y h jump=some (v,h')) :
  ∃c w',(Instr.endRound L.b jump).run P w=.ok c w'/\VG G v c/\Good ⟨G,fun _=>none⟩ (iw h) w ⟨G,fun _=>none⟩ (iw h') w':=by
 unfold j7 at hh;split at hh
 ·rename_i st nL f nt env ps assign body hm
  simp only[oi,pj]at hh;obtain⟨rfl,rfl⟩:=hh;obtain⟨fn,tmps,params,D,ho,h1,h2,h3⟩:=hR.cH _ _ _ hL hm;refine⟨_,_,run_endRound jump ho,.flat _ rfl,?_⟩;have:=hR.jc (b:=.loop (match jump with|none=>.ready|some _=>.done) jump f nt env ps assign body) hL hm rfl (o:=.loop { state:=if jump.isNone then .ready else .done,pending:=jump,fn:=fn,tmps:=tmps,params:=params,assign:=assign,body:=body,defers:=D }) (by simp)
   ⟨fn,tmps,params,D,by cases jump<;>rfl,h1,h2,h3⟩
  exact this
 ·cases hh
theorem JX{run:FuncId->Nat->Code->St->Option (Exit×St)}(h1:ye P run){y:Nat}{args:List Value}{h h':af}{v:Value}(hh:pC run y args h=some (v,h')){G:Nat->Option Loc}{aP:List Value}{L:Loc}(hR:HR ⟨G,fun _=>none⟩ (iw h) w)(hA:fG G args aP)(hL:G y=some L) :
  Sc P L.b aP.toArray w (fun c w'=>∃G',VG G' v c/\Good ⟨G,fun _=>none⟩ (iw h) w ⟨G',fun _=>none⟩ (iw h') w'/\fD (h.next<=·) G G'):=by
 unfold pC at hh;split at hh
 ·rename_i nL f nt env ps assign body hm
  cases hb:(Nat.beq args.length ps.length && ps.all (fun t=>Nat.blt t nt) && bE assign && bE body)with
  |false=>rw[hb]at hh;simp at hh
  |true=>
  rw[hb]at hh;simp only[cond_true]at hh;simp only[Bool.and_eq_true,List.all_eq_true]at hb;obtain⟨⟨⟨b1,b2⟩,b3⟩,b4⟩:=hb;have hlen:=Nat.eq_of_beq_eq_true b1;obtain⟨fn,tmps,params,D,ho,c1,c2,c3⟩:=hR.cH _ _ _ hL hm;have v5:aP.toArray.size=params.size:=by
   have:=hA.1;simp only[List.size_toArray,<-Array.length_toList,c1];omega
  have uj:=yf ps args aP env tmps c3 hA (fun t ht=>Nat.lt_of_lt_of_le (Nat.le_of_ble_eq_true (b2 t ht)) c2);have Zu:(params.zip aP.toArray).foldl (fun tmps (t,a)=>tmps.setIfInBounds t a) tmps=(ps.zip aP).foldl (fun tmps (t,a)=>tmps.setIfInBounds t a) tmps:=by
   rw[<-Array.foldl_toList];simp[c1]
  split at hh
  ·rename_i s1 BS
   split at hh
   ·rename_i sU f1 Po zQ Pp kS sV hm1
    refine⟨fn,_,assign,body,run_yield ho v5,roundIn_of_wpIn trivial ?_⟩;rw[Zu];have w1:=h1 f nt assign _ _ s1 BS (some L.b) (.inr b3) ⟨G,fun _=>none⟩ w { tmps:=(ps.zip aP).foldl (fun tmps (t,a)=>tmps.setIfInBounds t a) tmps,defers:=[] } (hR.env _) (uj.1.er []) (by rw[uj.2];exact c2);refine wpIn_mono (F:=Fence.wide.inRound L.b) w1 ?_;rintro e a1 w1' ⟨rfl,J1,q1,q2,q3,q4,q5⟩;have Lk:J1.g y=some L:=q1.mono _ _ hL;obtain⟨fn1,MO,params1,D1,ho1,d1,d2,d3⟩:=q1.hr.cH _ _ _ Lk hm1;refine⟨_,run_beginRound ho1 rfl,?_⟩;have k2:=q1.hr.jc (b:=.loop .busy sU f1 Po zQ Pp kS sV) Lk hm1 rfl (o:=.loop { state:=.busy,pending:=sU,fn:=fn1,tmps:=MO,params:=params1,assign:=kS,body:=sV,defers:=D1 }) (by simp) ⟨fn1,MO,params1,D1,rfl,d1,d2,d3⟩;have aau:=q1.trans k2;have fin:∀x s2 jump,run f nt body { s1 with h:=s1.h.jc y (.loop .busy sU f1 Po zQ Pp kS sV) }=some (x,s2)->j7 y s2.h jump=some (v,h')->
      (∀(R:Ending->World->Prop) (a2:Act) (w2:World),(∃v w',(Instr.endRound L.b jump).run P w2=.ok v w'/\R (.returned v) w')->roundPost P L.b R x a2 w2)->
      body.wpIn (Fence.wide.inRound L.b) 0 P (roundPost P L.b (fun e w'=>∃c,e=.returned c/\∃G',VG G' v c/\Good ⟨G,fun _=>none⟩ (iw h) w ⟨G',fun _=>none⟩ (iw h') w'/\fD (h.next<=·) G G')) a1 (w1'.putObj L.b (.loop { state:=.busy,pending:=sU,fn:=fn1,tmps:=MO,params:=params1,assign:=kS,body:=sV,defers:=D1 })):=by
     intro x s2 jump JY fQ tm;have w2:=h1 f nt body _ x s2 JY (some L.b) (.inr b4) J1 _ a1 k2.hr q2 (by rw[q3];show nt<=((ps.zip aP).foldl (fun tmps (t,a)=>tmps.setIfInBounds t a) tmps).size;rw[uj.2];exact c2);refine wpIn_mono (F:=Fence.wide.inRound L.b) w2 ?_;rintro e a2 w2' ⟨rfl,J2,r1,r2,r3,r4,r5⟩;have Ir:J2.g y=some L:=r1.mono _ _ Lk;have AJ:=(aau.trans r1).bare;obtain⟨cv,w3,e1,e2,e3⟩:=BQ (P:=P) r1.hr.bare Ir fQ;refine tm _ a2 w2' ⟨cv,w3,e1,cv,rfl,J2.g,e2,AJ.trans e3,?_⟩;have hn1:h.next<=s1.h.next:=q1.next;exact q5.trans (r5.mono (fun k hk=>by simp only[af.jc]at hk;exact Nat.le_trans hn1 hk))
    split at hh
    ·rename_i s2 JY;exact fin _ s2 none JY hh (fun R a w q=>q)
    ·rename_i s2 JY;exact fin _ s2 (some .ret) JY hh (fun R a w q=>q)
    ·rename_i id s2 JY;exact fin _ s2 (some (.exit id)) JY hh (fun R a w q=>q)
    ·cases hh
   ·cases hh
  ·cases hh
 ·cases hh
theorem tn{H : Hint}{F : bg}(hm : P.follows .mixedOrders = true)(hF : dv P F)(Sj : aY F)(cG : ∀ (g : FuncId) (fn : Func), P.funcs[g]? = some fn → (fn.name == "runtime.NumGoroutine") = false) :
  ∀n,ye P (cE P H F n).run/\BO P (cE P H F n).loop/\gQ P (cE P H F n).call
 |0=>⟨fun f nt c s x s' h=>(by cases h),fun f nt c kn s x s' h=>(by cases h),fun g args h v h' hc=>(by cases hc),fun g args h v h' hc=>(by cases hc)⟩
 |n+1=>by
  obtain⟨h1,h2,h3⟩:=tn hm hF Sj cG n;refine⟨Qb hm cG h1 h2 h3 (gY Sj n).2.2,MK h1 h2,ML hF cG h1,?_⟩;intro y args h v h' hc G w aP L hR hA hL;have FV:oK P F (cE P H F n) (aU+y) args h=some (v,h'):=hc;unfold oK at FV;rw[show Nat.ble aU (aU+y)=true from bz (Nat.le_add_right _ _)]at FV;simp only[cond_true,Nat.add_sub_cancel_left]at FV;exact JX h1 FV hR hA hL
theorem GK:dv P sW:=fun g args h v h' hc=>(by cases hc)
theorem BT:aY sW:=fun g args h v h' hc=>(by cases hc)
