import Derived.Test.YtdpbiegfljmhmaaSimD
import Derived.Test.YtdpbiegfljmhmaaFracM
import Derived.DataReads
import Derived.ChangeShapes
import Derived.WideShapes
import Derived.Lib.Overlaps
set_option linter.unusedSimpArgs false
set_option linter.unusedVariables false
namespace Go.cL
open Go.RowKit
def mL:Value->Bool
 | .agg cs=>cs.toList.all bA
 |v=>bA v
def se:Value->Bool
 | .tuple cs=>cs.toList.all mL
 |v=>mL v
theorem fG.B7{g:Nat->Option Loc}{P:Value->Bool}(hP:∀v c,VG g v c->P v=true->c=v):∀{l l':List Value},fG g l l'->l.all P=true->l'=l
 | [],l',h,_=>h.iS
 |u :: l,l',h,hf=>by
  obtain⟨v,l2,rfl,hv,hl⟩:=h.head;simp only[List.all_cons,Bool.and_eq_true]at hf;rw[fG.B7 hP hl hf.2,hP u v hv hf.1]
theorem VG.yH{g:Nat->Option Loc}{u v:Value}(hv:VG g u v)(hu:bA u=true):v=u:=by
 cases hv with
 |flat _ _=>rfl
 |zR=>simp[bA]at hu
 |ptr=>simp[bA]at hu
 |gN=>simp[bA]at hu
 |gW=>simp[bA]at hu
 |ky=>simp[bA]at hu
 |jG=>simp[bA]at hu
 |xD=>simp[bA]at hu
 |yield=>simp[bA]at hu
 |func=>simp[bA]at hu
 |agg=>simp[bA]at hu
 |tuple=>simp[bA]at hu
theorem VG.uH{g:Nat->Option Loc}{u v:Value}(hv:VG g u v)(hu:mL u=true):v=u:=by
 unfold mL at hu;split at hu
 ·rename_i cs
  cases hv with
  |flat _ _=>rfl
  |agg _ x' hx h1=>
   have:=fG.B7 (P:=bA) (fun _ _=>VG.yH) (l:=cs.toList) (l':=x'.toList) ⟨hx,h1⟩ hu;rw[Array.toList_inj.1 this]
 ·exact hv.yH hu
theorem VG.Kf{g:Nat->Option Loc}{u v:Value}(hv:VG g u v)(hu:se u=true):v=u:=by
 unfold se at hu;split at hu
 ·rename_i cs
  cases hv with
  |flat _ _=>rfl
  |tuple _ x' hx h1=>
   have:=fG.B7 (P:=mL) (fun _ _=>VG.uH) (l:=cs.toList) (l':=x'.toList) ⟨hx,h1⟩ hu;rw[Array.toList_inj.1 this]
 ·exact hv.uH hu
theorem VG.uJ{g:Nat->Option Loc}{v:Value}(h:mL v=true):VG g v v:=by
 unfold mL at h;split at h
 ·exact .agg _ _ rfl (fG.flat h).2
 ·exact .flat _ h
theorem VG.Kg{g:Nat->Option Loc}{v:Value}(h:se v=true):VG g v v:=by
 unfold se at h;split at h
 ·refine .tuple _ _ rfl (fun i u w h1 h2=>?_)
  rw[h1]at h2;cases h2;exact .uJ (List.all_eq_true.1 h u (List.mem_of_getElem? h1))
 ·exact .uJ h
def pY(f:FuncId->List Value->Option Value)(F:bg):bg:=fun g args h=>
 match f g args with
 |some v=>some (v,h)
 |none=>F g args h
theorem EA{P : Program}{H : Hint}{F0 F : bg}{f : FuncId → List Value → Option Value}(hm : P.follows .mixedOrders = true)(hF0 : dv P F0)(aaA : aY F0)(cG : ∀ (g : FuncId) (fn : Func), P.funcs[g]? = some fn → (fn.name == "runtime.NumGoroutine") = false)
  (hf:∀(g:FuncId) (args:List Value) (v:Value),f g args=some v->args.all mL=true/\se v=true/\(∃fn,P.funcs[g]?=some fn/\fn.body.isSome=true)/\∃h',Pu P H F0 g args kA v h') (hF:dv P F):dv P (pY f F):=by
 intro g args h v h' hc hg G w aP hR hA;unfold pY at hc;split at hc
 ·rename_i u hu
  simp only[oi,pj]at hc;obtain⟨rfl,rfl⟩:=hc;obtain⟨h1,h2,⟨fn,zK,hb⟩,h3,hr⟩:=hf g args u hu;have ha:=fG.B7 (P:=mL) (fun _ _=>VG.uH) hA h1;subst ha;have hR0:HR ⟨fun _=>none,fun _=>none⟩ (iw kA) w:=
   { cS:=(fun id L h=>by cases h),di:=(fun id L h=>by cases h),cH:=(fun id L b h=>by cases h),dj:=(fun id pD L L' b b' h=>by cases h),dX:=(fun t L h=>by cases h),dP:=(fun t L h=>by cases h),dZ:=(fun t t' L L' h=>by cases h),sep:=(fun id t L L' h=>by cases h) }
  have self:fG (fun _=>none) aP aP:=⟨rfl,fun i u v sK Kh=>by
   rw[sK]at Kh;cases Kh;exact .uJ (List.all_eq_true.1 h1 u (List.mem_of_getElem? sK))⟩
  have hd:=hr.ok hm hF0 aaA cG hg hR0 self;refine hd.mono (fun c w' ⟨G',hv,hG,_⟩=>?_);have Ll:Below w.heap.size w w':=⟨hG.os,hG.tape,hG.output,hG.size,fun k hk=>hG.frame k hk (fun id L h=>by cases h) (fun t L h=>by cases h)⟩;rw[hv.Kf h2];exact⟨G,.Kg h2,.grown hR Ll,.refl _ _⟩
 ·exact hF g args h v h' hc hg G w aP hR hA
theorem Ae{f:FuncId->List Value->Option Value}{F:bg}(hF:aY F):aY (pY f F):=by
 intro g args h v h' hc;unfold pY at hc;split at hc
 ·simp only[oi,pj]at hc
  obtain⟨_,rfl⟩:=hc;exact .refl _ _
 ·exact hF g args h v h' hc
end Go.cL
namespace Go.cL
open Go.RowKit
def af.M5(h:af):af:={ h with low:=h.next }
theorem M6{G:Nat->Option Loc}{h:af}{w:World}(hR:HR ⟨G,fun _=>none⟩ (iw h) w):HR ⟨G,fun _=>none⟩ (iw h.M5) w:=
 { cS:=hR.cS,di:=hR.di,cH:=hR.cH,dj:=hR.dj,dX:=hR.dX,dP:=hR.dP,dZ:=hR.dZ,sep:=hR.sep }
end Go.cL
namespace Go.cL
open Go.RowKit
variable{P:Program}
def WN(P:Program)(nt:Nat)(c:Code)(s:St)(Q:Exit->St->Prop):Prop:=
 ∀(J:dH) (w:World) (a:Act),HR J s w->ER J s a->nt<=a.tmps.size->c.wpIn (Wd none) 0 P (fun e a' w'=>∃s',Q e s'/\kJ J s w a s' a' w') a w
theorem WN.mono{nt:Nat}{c:Code}{s:St}{Q Q':Exit->St->Prop}(h:WN P nt c s Q)(hq:∀e s',Q e s'->Q' e s'):WN P nt c s Q':=
 fun J w a hR hE hn=>wpIn_mono (h J w a hR hE hn) (fun e a' w' ⟨s',q,p⟩=>⟨s',hq e s' q,p⟩)
theorem WN.det{run:FuncId->Nat->Code->St->Option (Exit×St)}(hr:ye P run){f:FuncId}{nt:Nat}{c:Code}{s s':St}{x:Exit}{Q:Exit->St->Prop}(h:run f nt c s=some (x,s'))(hq:Q x s'):WN P nt c s Q:=
 fun J w a hR hE hn=>wpIn_mono (hr f nt c s x s' h none (.inl rfl) J w a hR hE hn) (fun e a' w' ⟨he,p⟩=>⟨s',by rw[he];exact hq,p⟩)
theorem WN.seq{nt:Nat}{c d:Code}{s:St}{Q:Exit->St->Prop}(h:WN P nt c s (fun e s1=>match e with | .normal=>WN P nt d s1 Q|e=>Q e s1)):WN P nt (.seq c d) s Q:=by
 intro J w a hR hE hn;refine wpIn_seq (wpIn_mono (h J w a hR hE hn) ?_);rintro e a1 w1 ⟨s1,q,J1,q1,q2,q3,q4,q5⟩;cases e with
 |normal=>
  show d.wpIn (Wd none) 0 P _ a1 w1;refine wpIn_mono (q J1 w1 a1 q1.hr q2 (by rw[q3];exact hn)) ?_;rintro e a2 w2 ⟨s2,r,p⟩;exact⟨s2,r,kJ.trans q1 q3 q4 q5 p⟩
 |_=>exact r8 (by simp) ⟨s1,q,J1,q1,q2,q3,q4,q5⟩
theorem WN.Qm{g : FuncId}{fn : Func}{c : Code}(zK : P.funcs[g]? = some fn)(hb : fn.body = some c)(cG : (fn.name == "runtime.NumGoroutine") = false){args : List Value}{h : af}{R : Value → af → Prop}
  (hw:WN P fn.ntmps c { env:=fI args 0 .leaf,kn:=0,K:=.leaf,h:=h } (fun e s'=>(e=.normal\/e=.ret)/\∃v h',vP P fn s'=some (v,h')/\R v h'))
  {G:Nat->Option Loc} {w:World} {aP:List Value} (hR:HR ⟨G,fun _=>none⟩ (iw h) w) (hA:fG G args aP) :
  s8 P g aP.toArray w (fun c w'=>∃v h' G',R v h'/\VG G' v c/\Good ⟨G,fun _=>none⟩ (iw h) w ⟨G',fun _=>none⟩ (iw h') w'/\fD (h.next<=·) G G'):=by
 left;refine⟨gZ zK (by rw[hb];rfl) cG,(callsIn_wide (n:=0)).1 (callsIn_of_wp_marks zK hb trivial ?_)⟩;have hR':HR ⟨G,fun _=>none⟩ { env:=fI args 0 .leaf,kn:=0,K:=.leaf,h:=h } w:=hR.env _;have Mx:ER ⟨G,fun _=>none⟩ { env:=fI args 0 .leaf,kn:=0,K:=.leaf,h:=h } { tmps:=aP.toArray++Array.replicate (fn.ntmps-aP.toArray.size) undef,defers:=[] }:=by
  intro t u hu;simp only[pQ,Nat.zero_le,true_and,Nat.zero_add,Nat.sub_zero]at hu;by_cases ht:t<args.length
  ·rw[if_pos ht]at hu
   have Xc:t<aP.length:=by rw[<-hA.1];exact ht
   refine⟨by simp;omega,?_⟩;have:(aP.toArray++Array.replicate (fn.ntmps-aP.toArray.size) undef).getD t undef=aP[t]:=by
    simp[Array.getD,Xc,Array.getElem_append,show t<aP.length+(fn.ntmps-aP.length) by omega]
   rw[this];exact .cX _ _ (hA.2 t u _ hu (by simp[Xc]))
  ·rw[if_neg ht]at hu;simp[cQ.get]at hu
 have MN:=hw _ w _ hR' Mx (by simp;omega);refine wpIn_mono (F:=Fence.wide) MN ?_;rintro e a' w' ⟨s',⟨hx,v,h',fQ,hRv⟩,J',q1,q2,q3,⟨Ds,q4,q6,q7⟩,q5⟩;simp only[List.append_nil]at q4;unfold vP at fQ;split at fQ
 ·rename_i l hl
  cases hn:l.all dn with
  |false=>rw[hn]at fQ;simp at fQ
  |true=>
   rw[hn]at fQ;simp only[cond_true,oi,pj]at fQ;obtain⟨rfl,rfl⟩:=fQ;have tm:LeavesInM Fence.wide 0 P fn a'.tmps (fun e w'=>∃c,e=.returned c/\∃v h' G',R v h'/\VG G' v c/\Good ⟨G,fun _=>none⟩ (iw h) w ⟨G',fun _=>none⟩ (iw h') w'/\fD (h.next<=·) G G') a'.defers .returning w':=by
    rw[q4];refine nW (fun TW=>Good ⟨G,fun _=>none⟩ { env:=fI args 0 .leaf,kn:=0,K:=.leaf,h:=h } w J' s' TW) (fun TW hG=>?_) Ds w' q6 (fun D hD=>(q7 D hD).2.1) q1 (fun TW D hG hD=>hG.W7 (q7 D hD).1 (q7 D hD).2.2.1 (q7 D hD).2.2.2 _);obtain⟨cv,r1,r2⟩:=vr hG.hr q2 hl hn;exact⟨cv,r1,cv,rfl,_,_,J'.g,hRv,r2,hG.bare,q5⟩
   rcases hx with rfl|rfl<;>exact tm
 ·cases fQ
structure rA(P:Unit->Program)(nt:Nat)(c:Code)(s:SS)(Q:Exit->SS->Prop):Prop where
 go:∀t,Le s t->t.h.low<=t.h.next->WN (P ()) nt c t (fun e t'=>∃s',Le s' t'/\t'.h.low<=t'.h.next/\Q e s')
variable{P:Unit->Program}
theorem rA.run{H : Hint}{F : bg}{A : bI}(hA : AOK P H F A)(V : Live)(hm : (P ()).follows .mixedOrders = true)(hF : dv (P ()) F)(cG : ∀ (g : FuncId) (fn : Func), (P ()).funcs[g]? = some fn → (fn.name == "runtime.NumGoroutine") = false)
  {f:FuncId} {fn:Func} {c0:Code} (zK:(P ()).funcs[f]?=some fn) (vj:fn.body=some c0) {c:Code} (hl:bG c=[]) (hr:bJ c=[]) {s:SS} {Q:Exit->SS->Prop} (h:wpS P H A V f fn.ntmps c s Q):rA P fn.ntmps c s Q:=by
 refine⟨?_⟩;intro t hs aq;have e:=hA.eq;subst e;obtain⟨x,t',s',⟨n,mV⟩,qL,hq⟩:=GZ hA.dF zK vj c s t Q ⟨(fun b hb=>by rw[hl]at hb;simp at hb),(fun b hb=>by rw[hr]at hb;simp at hb)⟩ hs aq h;have hk:=(gY hA.dF n).1 _ _ _ _ _ _ mV;exact WN.det (tn hm hF hA.dF cG n).1 mV ⟨s',qL,by have h1:=hk.next;have h2:=hk.low;omega,hq⟩
theorem rA.seq{nt:Nat}{c d:Code}{s:SS}{Q:Exit->SS->Prop}(h:rA P nt c s (fun e s1=>match e with | .normal=>rA P nt d s1 Q|e=>Q e s1)):rA P nt (.seq c d) s Q:=by
 refine⟨?_⟩;intro t hs aq;refine WN.seq ((h.go t hs aq).mono ?_);rintro e t1 ⟨s1,q1,q2,q3⟩;cases e with
 |normal=>exact q3.go t1 q1 q2
 |_=>exact⟨s1,q1,q2,q3⟩
theorem rA.less{nt:Nat}{c:Code}{s s0:SS}{Q:Exit->SS->Prop}(he:∀i v,lk s0.env i=some v->lk s.env i=some v)(hK:∀i v,lk s0.K i=some v->lk s.K i=some v)(hk:s0.kn=s.kn)(hh:s0.h=s.h)(h:rA P nt c s0 Q):rA P nt c s Q:=
 ⟨fun t hs aq=>h.go t ⟨fun i v hi=>hs.env i v (he i v hi),fun i v hi=>hs.K i v (hK i v hi),by rw[hk];exact hs.kn,by rw[hh];exact hs.h⟩ aq⟩
theorem G1{α:Type}:∀{l:List (Nat×α)} {i:Nat} {v:α},lk l i=some v->(i,v)∈l
 | [],i,v,h=>by simp[lk]at h
 |p :: l,i,v,h=>by
  rw[kV]at h;by_cases e:p.1=i
  ·rw[if_pos e]at h
   obtain rfl:=Option.some.inj h;subst e;exact List.mem_cons_self
  ·rw[if_neg e]at h
   exact List.mem_cons_of_mem _ (G1 h)
theorem rA.Xh{nt:Nat}{c:Code}{env env0:List (Nat×Value)}{kn:Nat}{K:List (Nat×List Value)}{h:af}{Q:Exit->SS->Prop}(he:∀p∈env0,lk env p.1=some p.2)(hw:rA P nt c ⟨env0,kn,K,h⟩ Q):rA P nt c ⟨env,kn,K,h⟩ Q:=
 rA.less (s0:=⟨env0,kn,K,h⟩) (fun i v hi=>he _ (G1 hi)) (fun i v hi=>hi) rfl rfl hw
theorem rA.Qm{g : FuncId}{fn : Func}{c : Code}(zK : (P ()).funcs[g]? = some fn)(hb : fn.body = some c)(cG : (fn.name == "runtime.NumGoroutine") = false){args : List Value}{h : af}{i : Tmp}(zY : fn.results.toList = [.tmp i]){R : Value → af → Prop}(hl : h.low ≤ h.next)
  (hw:rA P fn.ntmps c ⟨rO args 0 [],0,[],h⟩ (fun e s'=>(e=.normal\/e=.ret)/\∃v,lk s'.env i=some v/\dn v=true/\R v s'.h))
  {G:Nat->Option Loc} {w:World} {aP:List Value} (hR:HR ⟨G,fun _=>none⟩ (iw h) w) (hA:fG G args aP) :
  s8 (P ()) g aP.toArray w (fun c w'=>∃v h' G',R v h'/\VG G' v c/\Good ⟨G,fun _=>none⟩ (iw h) w ⟨G',fun _=>none⟩ (iw h') w'/\fD (h.next<=·) G G'):=by
 refine WN.Qm zK hb cG ?_ hR hA;have e:=B6 args 0 [];simp only[E]at e;rw[e];refine(hw.go _ (Iy ⟨rO args 0 [],0,[],h⟩) hl).mono ?_;rintro x t' ⟨s',q1,q2,hx,v,q3,q4,q5⟩;refine⟨hx,v,s'.h,?_,q5⟩;unfold vP;rw[zY];simp only[vO,q1.env _ _ q3];simp only[List.all_cons,q4,List.all_nil,Bool.and_true,cond_true,jn,q1.h]
end Go.cL
namespace Go.cL
def Ro(a:Nat)(o:Vy):fJ:=⟨some a,none,.op false o⟩
def Ol(a:Nat)(o:Op):fJ:=⟨some a,none,.op false (.cJ o)⟩
def Mv(a b:Nat):fJ:=⟨some a,none,.op false (.cJ (.move (.tmp b)))⟩
def As(a b:Nat):fJ:=⟨some a,none,.op false (.cJ (.assign (.tmp b)))⟩
def Ac(a:Nat)(i:Int):fJ:=⟨some a,none,.op false (.cJ (.assign (.const (.int .i64 i))))⟩
def Ld(a b:Nat):fJ:=⟨some a,none,.op false (.load 2 [.int .i64,.int .i64] (.tmp b))⟩
def L1(a b:Nat):fJ:=⟨some a,none,.op false (.bq (.int .i64) (.tmp b))⟩
def Fa(a k b:Nat):fJ:=⟨some a,none,.op false (.fieldAddr k (.tmp b))⟩
def Ix(a k b c:Nat):fJ:=⟨some a,none,.op false (.yI k (.tmp b) (.tmp c))⟩
def Ex(a b k:Nat):fJ:=⟨some a,none,.op false (.cJ (.extract (.tmp b) k))⟩
def Bt(a:Nat)(o:BinOp)(t b c:Nat):fJ:=⟨some a,none,.op false (.cJ (.binOp o t (.tmp b) (.tmp c) t))⟩
def Bc(a:Nat)(o:BinOp)(t b:Nat)(k:IntKind)(i:Int):fJ:=⟨some a,none,.op false (.cJ (.binOp o t (.tmp b) (.const (.int k i)) t))⟩
def Ca(a f:Nat)(l:List Operand)(v:Option yJ):fJ:=⟨some a,none,.call (.func f) l v⟩
def Dr(o:fJ)(p:Nat)(l:List Nat):yK:=⟨o,p,.none,l,false,true⟩
def Db(o:fJ)(p b:Nat)(l:List Nat):yK:=⟨o,p,.dx (.tmp b),l,false,true⟩
end Go.cL
namespace Go.cL
open Go.RowKit
def wk(w:World)(b:Nat):Bool:=
 match w.heap[b]? with
 |some (.cells _ _ _)=>true
 |_=>false
def Ki(w:World):Value->Bool
 | .slice (some a) _ c=>a.spot.isNone && decide (c<aS) && wk w a.block
 | .pointer (some a)=>a.spot.isNone && wk w a.block
 |v=>bA v
def aaB:Value:=.slice (some ⟨0,0,some 0⟩) 0 0
def T3(w:World)(v:Value):Value:=
 if Ki w v then v else
 match v with
 | .slice (some _) 0 0=>aaB
 |_=>.chan none
def iz(w:World)(b:Nat):Option Loc:=
 match w.heap[b]? with
 |some (.cells cs _ _)=>some ⟨b,0,cs.size,1⟩
 |_=>none
def T4(w:World)(b:Nat):Option DE:=
 match w.heap[b]? with
 |some (.cells cs _ _)=>some (.live false 1 (cs.toList.map (T3 w)))
 |_=>none
theorem AX{w:World}{b:Nat}(h:wk w b=true):∃n,iz w b=some ⟨b,0,n,1⟩:=by
 unfold wk at h;split at h
 ·rename_i cs e fr hb;exact⟨cs.size,by unfold iz;rw[hb]⟩
 ·cases h
theorem wm{w:World}{v:Value}(h:Ki w v=true):VG (iz w) v v:=by
 unfold Ki at h;split at h
 ·rename_i a len c
  simp only[Bool.and_eq_true,decide_eq_true_eq,Option.isNone_iff_eq_none]at h;obtain⟨⟨hs,hc⟩,hb⟩:=h;obtain⟨n,hg⟩:=AX hb;have:=VG.gN (g:=iz w) a _ len c hs hg hc;obtain⟨b,o,sp⟩:=a;simp only at hs;subst hs;simpa using this
 ·rename_i a
  simp only[Bool.and_eq_true,Option.isNone_iff_eq_none]at h;obtain⟨hs,hb⟩:=h;obtain⟨n,hg⟩:=AX hb;have:=VG.ptr (g:=iz w) a _ hs hg;obtain⟨b,o,sp⟩:=a;simp only at hs;subst hs;simpa using this
 ·exact .flat _ h
theorem Qn(w:World)(v:Value):VG (iz w) (T3 w v) v:=by
 unfold T3;split
 ·rename_i h;exact wm h
 ·split
  ·exact .ky _ _ 0 rfl
  ·exact .zR _
theorem M7 (w : World) : ∃ h : af, HR ⟨iz w, fun _ => none⟩ (iw h) w ∧ h.low = h.next ∧ h.next = w.heap.size ∧ ∀ b, b < w.heap.size → h.m.get b = T4 w b := by
  obtain ⟨t, ht⟩ := cQ.xC (T4 w) w.heap.size
  have hb : ∀ id L, iz w id = some L → ∃ cs e fr, w.heap[id]? = some (.cells cs e fr) ∧ L = ⟨id, 0, cs.size, 1⟩ := by
    intro id L h
    unfold iz at h
    split at h
    · rename_i cs e fr hb; exact ⟨cs, e, fr, hb, by simpa using h.symm⟩
    · cases h
  have dV : ∀ id L, iz w id = some L → id < w.heap.size := fun id L h => by
    obtain ⟨cs, e, fr, h1, _⟩ := hb id L h
    exact (Array.getElem?_eq_some_iff.1 h1).1
  refine ⟨{ next := w.heap.size, low := w.heap.size, m := t }, ?_, rfl, rfl, fun b h => by simp only []; rw [ht, if_pos h]⟩
  exact
    { cS := fun id L h => dV id L h
      di := fun id L h => by
        obtain ⟨cs, e, fr, h1, rfl⟩ := hb id L h
        exact ⟨_, h1, fun j6 e' fr' q => by cases q; rfl⟩
      cH := fun id L b h hm => by
        obtain ⟨cs, e, fr, h1, rfl⟩ := hb id L h
        have h2 : t.get id = some b := hm
        rw [ht, if_pos (dV id _ h)] at h2
        unfold T4 at h2
        rw [h1] at h2
        simp only [oi] at h2
        subst h2
        refine ⟨rfl, cs, e, fr, h1, ?_, fun hw => by cases hw⟩
        intro i v hv
        rw [List.getElem?_map] at hv
        cases hc : cs.toList[i]? with
        | none => rw [hc] at hv; cases hv
        | some c =>
          rw [hc] at hv
          simp only [Option.map_some, oi] at hv
          subst hv
          exact ⟨c, by simpa using hc, Qn w c⟩
      dj := fun id pD L L' b b' h h' _ _ _ _ e => by
        obtain ⟨cs, e1, fr, h1, rfl⟩ := hb id L h
        obtain ⟨j6, PW, fr', sK, rfl⟩ := hb pD L' h'
        exact e
      dX := (fun t L h => by cases h), dP := (fun t L h => by cases h), dZ := (fun t t' L L' h => by cases h), sep := (fun id t L L' _ h => by cases h) }
theorem Vz{P : Program}{H : Hint}{F : bg}(hm : P.follows .mixedOrders = true)(hF : dv P F)(Sj : aY F)(cG : ∀ (g : FuncId) (fn : Func), P.funcs[g]? = some fn → (fn.name == "runtime.NumGoroutine") = false){g : FuncId}{fn : Func}(hf : P.funcs[g]? = some fn)(hb : fn.body.isSome = true)(hg : g < aU)
  {w:World} {h:af} (hR:HR ⟨iz w,fun _=>none⟩ (iw h) w) (aq:h.low=h.next) (Eg:h.next=w.heap.size) {args:List Value} (iU:∀v∈args,Ki w v=true)
  (hw:(bm P H F).call g args h (fun v h'=>v=.bool true/\Ext h h')) :
  Calls P g args.toArray w fun e w'=>e=.returned (.bool true)/\Below w.heap.size w w':=by
 obtain⟨v,h',hr,rfl,hE⟩:=hw.ex;have hA:fG (iz w) args args:=⟨rfl,fun i u v hu hv=>by
  rw[hu]at hv;cases hv;exact wm (iU u (List.mem_of_getElem? hu))⟩
 have hd:=hr.ok hm hF Sj cG hg hR hA;refine(hd.calls hf hb (cG g fn hf)).mono ?_;rintro e w' ⟨c,rfl,G',hv,hG,_⟩;rw[hv.bool];refine⟨rfl,hG.os,hG.tape,hG.output,hG.size,fun k hk=>hG.frame k hk (fun id L me hLb=>?_) (fun t L h=>by cases h)⟩;have h1:=hE.vK;have h2:h.next<=h'.low:=by
  rw[aq]at h1;have:Nat.min h.next h.next=h.next:=Nat.min_self _;omega
 have h3:id<h.next:=hR.cS id L me;show id<h'.low;omega
end Go.cL
namespace Go.cL
open Go.RowKit
def T5(w:World):Value->Bool
 | .agg cs=>cs.toList.all (Ki w)
 |v=>Ki w v
theorem Qo{w:World}{v:Value}(h:T5 w v=true):VG (iz w) v v:=by
 unfold T5 at h;split at h
 ·refine .agg _ _ rfl (fun i u v hu hv=>?_)
  rw[hu]at hv;obtain rfl:=Option.some.inj hv;exact wm (List.all_eq_true.1 h u (List.mem_of_getElem? hu))
 ·exact wm h
theorem Xi{w:World}{args:List Value}(h:args.all (T5 w)=true):fG (iz w) args args:=⟨rfl,fun i u v hu hv=>by
 rw[hu]at hv;obtain rfl:=Option.some.inj hv;exact Qo (List.all_eq_true.1 h u (List.mem_of_getElem? hu))⟩
theorem G3{P : Program}{H : Hint}{F : bg}(hm : P.follows .mixedOrders = true)(hF : dv P F)(Sj : aY F)(cG : ∀ (g : FuncId) (fn : Func), P.funcs[g]? = some fn → (fn.name == "runtime.NumGoroutine") = false){g : FuncId}{fn : Func}(hf : P.funcs[g]? = some fn)(hb : fn.body.isSome = true)(hg : g < aU)
  {w:World} {h:af} (hR:HR ⟨iz w,fun _=>none⟩ (iw h) w) (aq:h.low=h.next) (Eg:h.next=w.heap.size) {args:List Value} (hA:fG (iz w) args args)
  (hw:(bm P H F).call g args h (fun v h'=>v=.bool true/\Ext h h')) :
  Calls P g args.toArray w fun e w'=>e=.returned (.bool true)/\Below w.heap.size w w':=by
 obtain⟨v,h',hr,rfl,hE⟩:=hw.ex;have hd:=hr.ok hm hF Sj cG hg hR hA;refine(hd.calls hf hb (cG g fn hf)).mono ?_;rintro e w' ⟨c,rfl,G',hv,hG,_⟩;rw[hv.bool];refine⟨rfl,hG.os,hG.tape,hG.output,hG.size,fun k hk=>hG.frame k hk (fun id L me hLb=>?_) (fun t L h=>by cases h)⟩;have h1:=hE.vK;have h2:h.next<=h'.low:=by
  rw[aq]at h1;have:Nat.min h.next h.next=h.next:=Nat.min_self _;omega
 have h3:id<h.next:=hR.cS id L me;show id<h'.low;omega
end Go.cL
namespace Go.cL
open Go.RowKit
variable{P:Program}
theorem yL{ro:Option Nat}{H:Hint}{call:cF}(fy:gQ P call){f:FuncId}{nt:Nat}{ops:Array Oper}{Q:Exit->Act->World->Prop}(more:Nat):∀(l:List Oper) (k:Nat) (s:St) (J:dH) (w:World) (a:Act) (s':St),
  (∀j,j<l.length->l[j]?=ops[k+j]?)->lF P H call f nt ops l s=some s'->HR J s w->ER J s a->nt<=a.tmps.size->(∀a' w',GB J s w a s' a' w'->wpOpsIn (Wd ro) 0 P ops Q (List.range' (k+l.length) more) a' w')->wpOpsIn (Wd ro) 0 P ops Q (List.range' k (l.length+more)) a w
 | [],k,s,J,w,a,s',_,h,hR,hE,_,hQ=>by
  simp only[lF,oi]at h;subst h;have:=hQ a w ⟨J,.refl hR,hE,rfl,rfl,.refl _ _⟩;simpa using this
 |o :: l,k,s,J,w,a,s',hl,h,hR,hE,hn,hQ=>by
  have ho:ops[k]?=some o:=by have:=hl 0 (by simp);simpa using this.symm
  have Mf:∀j,j<l.length->l[j]?=ops[k+1+j]?:=fun j hj=>by have:=hl (j+1) (by simpa using hj);simpa[Nat.add_assoc,Nat.add_comm 1 j]using this
  rw[List.length_cons,show l.length+1+more=(l.length+more)+1 by omega,List.range'_succ];simp only[wpOpsIn,ho];simp only[lF]at h;split at h
  ·rename_i hw
   rw[iV hw (hE.gu ops o),if_pos rfl];split at h
   ·rename_i v s1 h1
    split at h
    ·rename_i s2 h2
     refine AN fy hR (hE.ev _) h1 _ Q ?_ ro;intro c w' J' hG P2 hv zV hA _;have Mx:ER J' s1 a:=by
      have:=hE.mono (J':=J') hG.mono P2;intro t u hu;exact this t u (by rw[zV]at hu;exact hu)
     have TG:=v8 h2 Mx hn hv;have D4:Good J s w J' s2 w':=by rw[cK h2];exact hG.env _
     refine yL fy more l (k+1) s2 J' w' (a.put o.dst c) s' Mf h D4.hr TG (by rw[dW];exact hn) ?_;rintro a' w2 ⟨J2,q1,q2,q3,q4,q5⟩;rw[show k+1+l.length=k+(l.length+1) by omega];exact hQ a' w2 ⟨J2,D4.trans q1,q2,by rw[q3,dW],by rw[q4,put_defers],hA.trans (q5.mono (fun k hk=>Nat.le_trans D4.next hk))⟩
    ·cases h
   ·cases h
  ·rename_i hw
   rw[iV hw (hE.gu ops o),if_neg (by simp)];split at h
   ·rename_i s1 h1
    have TG:=v8 h1 hE hn (c:=undef) (.cX _ _ (VG.of_flat rfl));have D4:Good J s w J s1 w:=by rw[cK h1];exact(Good.refl hR).env _
    refine⟨fun _ _=>trivial,?_⟩;refine yL fy more l (k+1) s1 J w (a.put o.dst undef) s' Mf h D4.hr TG (by rw[dW];exact hn) ?_;rintro a' w2 ⟨J2,q1,q2,q3,q4,q5⟩;rw[show k+1+l.length=k+(l.length+1) by omega];exact hQ a' w2 ⟨J2,D4.trans q1,q2,by rw[q3,dW],by rw[q4,put_defers],q5.mono (fun k hk=>Nat.le_trans D4.next hk)⟩
   ·cases h
  ·cases h
theorem WN.cap{H:Hint}{call:cF}(fy:gQ P call){f:FuncId}{nt id d:Nat}{x:Operand}{t e:TypeId}{o:Oper}{pre rest:List Oper}{ops:Array Oper}(zU:ops.toList=pre++o :: rest)
  (ho:o.op=.call { callee:=.builtin .cap,args:=#[x],argTypes:=#[t] }) (hd:o.dst=some d) (Zm:d<nt) (hg:o.guard=none) (ht:P.underlying t=some (.slice e))
  {s s1:St} (aaC:lF P H call f nt ops pre s=some s1) {b:Nat} {off n k:Nat} (hx:bL s1 x=some (.slice (some ⟨b,off,none⟩) n k)) {Q:Exit->St->Prop}
  (h:∀c:Nat,cM k<=c->∃s2,lF P H call f nt ops rest { s1 with env:=s1.env.set d (.int .i64 c) }=some s2/\Q .normal s2):WN P nt (.region id ops false) s Q:=by
 intro J w a hR hE hn;refine wpIn_region ?_;have v5:ops.size=pre.length+(1+rest.length):=by have:=congrArg List.length zU;simp at this;omega
 have h0:∀j,j<pre.length->pre[j]?=ops[0+j]?:=fun j hj=>by rw[Nat.zero_add,<-Array.getElem?_toList,zU,List.getElem?_append_left hj]
 have h1:ops[pre.length]?=some o:=by rw[<-Array.getElem?_toList,zU,List.getElem?_append_right (Nat.le_refl _)];simp
 have Xj:∀j,rest[j]?=ops[pre.length+1+j]?:=fun j=>by rw[<-Array.getElem?_toList,zU,List.getElem?_append_right om,show pre.length+1+j-pre.length=j+1 by omega];rfl
 rw[List.range_eq_range',v5];refine yL fy (1+rest.length) pre 0 s J w a s1 h0 aaC hR hE hn ?_;rintro a1 w1 ⟨J1,g1,g2,g3,g4,g5⟩;rw[Nat.zero_add,Nat.add_comm 1,List.range'_succ];have hw:Region.wanted o (yielded ops a1.tmps)=true:=by unfold Region.wanted;rw[hg]
 simp only[wpOpsIn,h1,hw,if_true];obtain⟨a',c',Si,hc⟩:=((g2.eval hx).pI rfl).iE;have Zj:∀c,o.op≠.defer c:=fun c e=>by rw[ho]at e;cases e
 have hex:execOp a1.eval o=((Builtin.cap_ #[t] o.type #[.slice a' n c']) >>= fun u=>pure (Next.value u)):=by
  unfold execOp;simp only[ho,resolve,invoke,builtin];simp[Si]
 obtain⟨s2,k1,k2⟩:=h c' hc;have mV:(Builtin.cap_ #[t] o.type #[.slice a' n c']).run P w1=.ok (.int .i64 c') w1:=by simp[Builtin.cap_,aI ht,goInt]
 have Zx:=dD.op (dD.still (R:=(s1.h.next<=·)) (Rl:=fun _=>False) g1.hr mV (.cX _ _ (VG.of_flat (v:=.int .i64 c') rfl)));rw[<-hex]at Zx;refine D3.TB Zj Zx _ _ ?_ none;intro c w' J' hG P2 hv zV hA _;have Mx:ER J' { s1 with env:=s1.env.set d (.int .i64 c') } (a1.put o.dst c):=by
  rw[hd];intro t u hu;have Tt:(s1.env.set d (.int .i64 c')).get t=some u:=hu;rw[cQ.bO]at Tt;show t<(a1.tmps.setIfInBounds d c).size/\VR J' u ((a1.tmps.setIfInBounds d c).getD t undef);by_cases e:d=t
  ·rw[if_pos e]at Tt
   subst e;obtain rfl:=Option.some.inj Tt;refine⟨by simp;omega,?_⟩;rw[show(a1.tmps.setIfInBounds d c).getD d undef=c by simp[Array.getD,show d<a1.tmps.size by omega]];exact hv
  ·rw[if_neg e]at Tt
   obtain⟨k1,k2⟩:=g2 t u Tt;refine⟨by simpa using k1,?_⟩;rw[show(a1.tmps.setIfInBounds d c).getD t undef=a1.tmps.getD t undef by simp[Array.getD,k1,e]];exact k2.mono hG.mono P2
 refine qM fy rest (pre.length+1) _ J' w' _ s2 Xj k1 (hG.env _).hr Mx (by rw[dW,g3];exact hn) ?_;rintro a2 w2 ⟨J2,q1,q2,q3,q4,q5⟩;refine⟨s2,k2,J2,g1.trans ((hG.env (s1.env.set d (.int .i64 c'))).trans q1),q2,by rw[q3,dW,g3],by rw[q4,put_defers,g4];exact .none _ _ _ _,g5.trans (fD.mono (hA.trans (q5.mono (fun k hk=>Nat.le_trans hG.next hk))) (fun k hk=>Nat.le_trans g1.next hk))⟩
end Go.cL
namespace Go.cL
open Go.RowKit
def Ai:Value->Bool
 | .slice (some ⟨_,_,none⟩) _ _=>true
 |_=>false
def jt(args:List Value)(h:af):Option (Value×af):=
 match args with
 | [.slice (some ⟨b,0,none⟩) n k,.int .i64 i,.slice (some ⟨vb,0,none⟩) 1 1]=>
  match h.m.get b,h.m.get vb with
  |some (.live true 1 cs),some (.live true 1 [v])=>
   bif Nat.beq k (au 1 n) && Nat.beq cs.length n && decide (0<=i/\i<n) && cs.all Ai && Ai v && !(Nat.beq b vb) && Nat.ble n 1000 then
    some (.slice (some ⟨h.next,0,none⟩) (n+1) (au 1 (n+1)),(h.kill b).push 1 (cs.take i.toNat++v :: cs.drop i.toNat))else none
  |_,_=>none
 |_=>none
def jM(args:List Value)(h:af):Option (Value×af):=
 match args with
 | [.slice (some ⟨a,_,none⟩) _ _,.slice (some ⟨b,_,none⟩) _ _]=>
  match h.m.get a,h.m.get b with
  |some (.live true 1 (_ :: _)),some (.live true 1 (_ :: _))=>bif Nat.beq a b then none else some (.bool false,h)
  |_,_=>none
 |_=>none
def pZ(g0:FuncId)(f:List Value->af->Option (Value×af))(F:bg):bg:=fun g args h=>bif Nat.beq g g0 then(match f args h with|some r=>some r|none=>F g args h)else F g args h
theorem od{args:List Value}{h h':af}{r:Value}(hc:jt args h=some (r,h')):∃b n i vb cs v,args=[.slice (some ⟨b,0,none⟩) n (au 1 n),.int .i64 (Int.ofNat i),.slice (some ⟨vb,0,none⟩) 1 1]/\h.m.get b=some (.live true 1 cs)/\h.m.get vb=some (.live true 1 [v])/\cs.length=n/\i<n/\cs.all Ai=true/\Ai v=true/\b≠vb/\n<=1000 /\
  r=.slice (some ⟨h.next,0,none⟩) (n+1) (au 1 (n+1))/\h'=(h.kill b).push 1 (cs.take i++v :: cs.drop i):=by
 unfold jt at hc;split at hc
 ·rename_i b n k i vb
  split at hc
  ·rename_i cs v h1 h2
   obtain⟨hb,hc⟩:=lK hc;simp only[Bool.and_eq_true,decide_eq_true_eq,Bool.not_eq_true']at hb;obtain⟨⟨⟨⟨⟨⟨k1,k2⟩,k3,k4⟩,k5⟩,k6⟩,k7⟩,k8⟩:=hb;have k1:=Nat.eq_of_beq_eq_true k1;have k2:=Nat.eq_of_beq_eq_true k2;have k8:=Nat.le_of_ble_eq_true k8;obtain⟨rfl,rfl⟩:=Prod.mk.inj hc;obtain⟨j,rfl⟩:∃j:Nat,i=j:=⟨i.toNat,om⟩;subst k1;exact⟨b,n,j,vb,cs,v,rfl,h1,h2,k2,om,k5,k6,(fun e=>by rw[e,Nat.beq_refl]at k7;cases k7),k8,rfl,rfl⟩
  ·cases hc
 ·cases hc
end Go.cL
namespace Go.cL
open Go.RowKit
theorem AY{v:Value}(h:Ai v=true):∃b o n k,v=.slice (some ⟨b,o,none⟩) n k:=by
 unfold Ai at h;split at h
 ·exact⟨_,_,_,_,rfl⟩
 ·cases h
theorem EB{P:Program}{g0:FuncId}{f:List Value->af->Option (Value×af)}{F:bg}(hF:dv P F)
  (hf:∀args h v h',f args h=some (v,h')->∀(G:Nat->Option Loc) (w:World) (aP:List Value),HR ⟨G,fun _=>none⟩ (iw h) w->fG G args aP->s8 P g0 aP.toArray w (fun c w'=>∃G',VG G' v c/\Good ⟨G,fun _=>none⟩ (iw h) w ⟨G',fun _=>none⟩ (iw h') w'/\fD (h.next<=·) G G')):dv P (pZ g0 f F):=by
 intro g args h v h' hc hg G w aP hR hA;unfold pZ at hc;cases hb:Nat.beq g g0 with
 |false=>rw[hb]at hc;exact hF g args h v h' hc hg G w aP hR hA
 |true=>
  obtain rfl:=Nat.eq_of_beq_eq_true hb;rw[hb]at hc;simp only[cond_true]at hc;split at hc
  ·rename_i r hr
   simp only[oi]at hc;subst hc;exact hf args h v h' hr G w aP hR hA
  ·exact hF g args h v h' hc hg G w aP hR hA
theorem yM{g0:FuncId}{f:List Value->af->Option (Value×af)}{F:bg}(hf:∀args h v h',f args h=some (v,h')->bM h.next h h')(hF:aY F):aY (pZ g0 f F):=by
 intro g args h v h' hc;unfold pZ at hc;cases hb:Nat.beq g g0 with
 |false=>rw[hb]at hc;exact hF g args h v h' hc
 |true=>
  rw[hb]at hc;simp only[cond_true]at hc;split at hc
  ·rename_i r hr
   simp only[oi]at hc;subst hc;exact hf args h v h' hr
  ·exact hF g args h v h' hc
theorem B8(args:List Value)(h:af)(v:Value)(h':af)(hc:jt args h=some (v,h')):bM h.next h h':=by
 obtain⟨b,n,i,vb,cs,v,rfl,h1,_,_,_,_,_,_,_,rfl,rfl⟩:=od hc;have k1:bM h.next h (h.kill b):=bM.kill (by rw[h1];simp);exact k1.trans (bM.push (h:=h.kill b) (by show h.next<=h.next;omega) _ _)
theorem yN(args:List Value)(h:af)(v:Value)(h':af)(hc:jM args h=some (v,h')):bM h.next h h':=by
 unfold jM at hc;split at hc
 ·split at hc
  ·rename_i a _ _ _ b _ _ _ _ _ _ _ _ _ _
   revert hc
   cases Nat.beq _ _ with
   |true=>intro hc;cases hc
   |false=>
    intro hc;simp only[cond_false,oi,pj]at hc;rw[hc.2];exact .refl _ _
  ·cases hc
 ·cases hc
theorem VG.M8{G G':Nat->Option Loc}(hm:∀id L,G id=some L->G' id=some L){a:Addr}{len k:Nat}{c:Value}(hs:a.spot=none){L1:Loc}(h1:G a.block=some L1)(h:VG G' (.slice (some a) len k) c):VG G (.slice (some a) len k) c:=by
 have e:=hm _ _ h1;cases h with
 |flat _ h=>simp[bA]at h
 |gN _ L _ _ _ h hc=>
  rw[e]at h;obtain rfl:=Option.some.inj h;exact .gN _ _ _ _ hs h1 hc
 |gW _ L _ m c _ h hm R6 ht=>
  rw[e]at h;obtain rfl:=Option.some.inj h;exact .gW _ _ _ _ _ hs h1 hm R6 ht
 |ky _ a' x h=>rw[hs]at h;cases h
 |jG _ a' x c h=>rw[hs]at h;cases h
theorem HR.room{G:Nat->Option Loc}{h:af}{w:World}{b es:Nat}{cs:List Value}{L:Loc}(hR:HR ⟨G,fun _=>none⟩ (iw h) w)(hb:G b=some L)(hm:h.m.get b=some (.live true es cs))(hk:L.o+cs.length+1<=L.AJ) :
  HR ⟨G,fun _=>none⟩ (iw { h with m:=h.m.set b (.live true es (cs++[.chan none])) }) w:=by
 have get:∀k,(h.m.set b (.live true es (cs++[.chan none]))).get k=if b=k then some (.live true es (cs++[.chan none]))else h.m.get k:=fun k=>by rw[cQ.bO]
 refine { cS:=hR.cS,di:=hR.di,cH:=?_,dj:=?_,dX:=hR.dX,dP:=hR.dP,dZ:=hR.dZ,sep:=hR.sep }
 ·intro k L1 dx h1 h2
  have Kh:(h.m.set b (.live true es (cs++[.chan none]))).get k=some dx:=h2;rw[get]at Kh;by_cases e:b=k
  ·subst e
   rw[if_pos rfl]at Kh;obtain rfl:=Option.some.inj Kh;have sK:G b=some L1:=h1;rw[hb]at sK;obtain rfl:=Option.some.inj sK;obtain⟨q1,cv,e,fr,q2,q3,q4⟩:=hR.cH b L _ hb hm;refine⟨q1,cv,e,fr,q2,?_,q4⟩;intro i v hi;by_cases c:i<cs.length
   ·rw[List.getElem?_append_left c]at hi
    exact q3 i v hi
   ·have EC:=(List.getElem?_eq_some_iff.1 hi).1
    rw[List.length_append,List.length_singleton]at EC;obtain rfl:i=cs.length:=om
    rw[List.getElem?_append_right (Nat.le_refl _)]at hi;simp at hi;subst hi;obtain⟨o,r1,r2⟩:=hR.di b L hb;have:=r2 cv e fr (by rw[q2]at r1;exact(Option.some.inj r1).symm);exact⟨cv[L.o+cs.length]'om,Array.getElem?_eq_getElem _,.zR _⟩
  ·rw[if_neg e]at Kh
   exact hR.cH k L1 dx h1 Kh
 ·intro k k' L1 L2 b1 b2 h1 h2 h3 h4 a1 a2 he
  have alv:∀k b1,(h.m.set b (.live true es (cs++[.chan none]))).get k=some b1->b1.alive=true->∃b2,h.m.get k=some b2/\b2.alive=true:=fun k b1 q1 q2=>by
   rw[get]at q1;by_cases e:b=k
   ·subst e;exact⟨_,hm,rfl⟩
   ·rw[if_neg e]at q1;exact⟨_,q1,q2⟩
  obtain⟨c1,d1,d2⟩:=alv k b1 h3 a1;obtain⟨c2,d3,d4⟩:=alv k' b2 h4 a2;exact hR.dj k k' L1 L2 c1 c2 h1 h2 d1 d3 d2 d4 he
theorem Good.Ss{G G':Nat->Option Loc}{h h2 h':af}{w w':World}{b b2:Nat}{L:Loc}{cells:List Value}(hR:HR ⟨G,fun _=>none⟩ (iw h) w)(hb:b<h.next)(hG:Good ⟨G,fun _=>none⟩ (iw h2) w ⟨G',fun _=>none⟩ (iw h') w')
  (hL:G' b2=some L) (hc:h'.m.get b2=some (.live true 1 cells)) (ME:∀k L1 dx,k≠b->G k=some L1->h.m.get k=some dx->BR G dx L1 w'.heap[L1.b]?) (Xk:∀k L1 dx,k≠b->G k=some L1->h.m.get k=some dx->dx.alive=true->L1.b≠L.b)
  (ve:w.heap.size<=L.b\/G b=some L) (aq:Nat.min h.low b<=h'.low) (Zy:∀v∈cells,∃a len k L1,v=.slice (some a) len k/\a.spot=none/\G a.block=some L1) :
  ∃G2,G2 h.next=some L/\(∀id L,G id=some L->G2 id=some L)/\Good ⟨G,fun _=>none⟩ (iw h) w ⟨G2,fun _=>none⟩ (iw ((h.kill b).push 1 cells)) w'/\fD (h.next<=·) G G2:=by
 let G2:Nat->Option Loc:=fun k=>if k=h.next then some L else G k
 have split:∀k L1,G2 k=some L1->(k=h.next/\L1=L)\/(k≠h.next/\G k=some L1):=fun k L1 h1=>by
  by_cases e:k=h.next
  ·left;simp only[G2,e,if_true,oi]at h1;exact⟨e,h1.symm⟩
  ·right;simp only[G2,e,if_false]at h1;exact⟨e,h1⟩
 have up:∀k L1,G k=some L1->G2 k=some L1:=fun k L1 h1=>by
  have:k<h.next:=hR.cS k L1 h1;simp only[G2,show ¬k=h.next by omega,if_false,h1]
 have get:∀k,((h.kill b).push 1 cells).m.get k=if h.next=k then some (.live true 1 cells)else if b=k then some .dead else h.m.get k:=fun k=>by
  show((h.m.set b .dead).set h.next _).get k=_;rw[cQ.bO,cQ.bO]
 have ED:∀k dx,k≠h.next->((h.kill b).push 1 cells).m.get k=some dx->dx=.dead\/(k≠b/\h.m.get k=some dx):=fun k dx hk q=>by
  rw[get,if_neg (fun e=>hk e.symm)]at q;by_cases e:b=k
  ·rw[if_pos e]at q;exact .inl (Option.some.inj q).symm
  ·rw[if_neg e]at q;exact .inr ⟨fun e'=>e e'.symm,q⟩
 refine⟨G2,by simp[G2],up,?_,fun k L1 h1=>?_⟩
 ·refine { hr:=?_,mono:=up,next:=by show h.next<=h.next+1;omega,low:=Nat.min_le_left _ _,size:=hG.size,os:=hG.os,tape:=hG.tape,output:=hG.output,fresh:=?_,cI:=(fun t L h=>by cases h),frame:=fun k hk me hl=>hG.frame k hk (fun id L1 h0 he=>Nat.lt_of_lt_of_le (me id L1 h0 he) aq) hl }
  ·refine { cS:=?_,di:=?_,cH:=?_,dj:=?_,dX:=(fun t L h=>by cases h),dP:=(fun t L h=>by cases h),dZ:=(fun t t' L L' h=>by cases h),sep:=(fun id t L L' _ h=>by cases h) }
   ·intro k L1 h1
    show k<h.next+1;rcases split k L1 h1 with ⟨e,_⟩|⟨_,h2⟩
    ·omega
    ·have:k<h.next:=hR.cS k L1 h2;omega
   ·intro k L1 h1
    rcases split k L1 h1 with ⟨_,rfl⟩|⟨_,h2⟩
    ·exact hG.hr.di b2 _ hL
    ·exact hG.hr.di k L1 (hG.mono k L1 h2)
   ·intro k L1 b1 h1 h2
    rcases split k L1 h1 with ⟨rfl,rfl⟩|⟨hk,h3⟩
    ·have Kh:((h.kill b).push 1 cells).m.get h.next=some b1:=h2
     rw[get,if_pos rfl]at Kh;obtain rfl:=Option.some.inj Kh;obtain⟨k1,cs,e,fr,k2,k3,k4⟩:=hG.hr.cH b2 _ _ hL hc;refine⟨k1,cs,e,fr,k2,fun i v hi=>?_,k4⟩;obtain⟨cv,q1,q2⟩:=k3 i v hi;obtain⟨a,len,kk,L1,rfl,g1,g2⟩:=Zy v (List.mem_of_getElem? hi);exact⟨cv,q1,(VG.M8 hG.mono g1 g2 q2).mono up⟩
    ·rcases ED k b1 hk h2 with rfl|⟨VA,q⟩
     ·trivial
     ·exact(ME k L1 b1 VA h3 q).mono up
   ·intro k k' L1 L2 b1 AZ h1 h2 h3 h4 a1 a2 he
    rcases split k L1 h1 with ⟨e1,rfl⟩|⟨e1,g1⟩<;>rcases split k' L2 h2 with ⟨e2,rfl⟩|⟨e2,g2⟩
    ·rw[e1,e2]
    ·rcases ED k' AZ e2 h4 with rfl|⟨VA,q⟩
     ·cases a2
     ·exact absurd he.symm (Xk k' L2 AZ VA g2 q a2)
    ·rcases ED k b1 e1 h3 with rfl|⟨VA,q⟩
     ·cases a1
     ·exact absurd he (Xk k L1 b1 VA g1 q a1)
    ·rcases ED k b1 e1 h3 with rfl|⟨VA,q⟩
     ·cases a1
     rcases ED k' AZ e2 h4 with rfl|⟨hkb2,q2⟩
     ·cases a2
     exact hR.dj k k' L1 L2 b1 AZ g1 g2 q q2 a1 a2 he
  ·intro k L1 h1 h2
   rcases split k L1 h1 with ⟨_,rfl⟩|⟨_,h3⟩
   ·rcases ve with q|q
    ·exact .inl q
    ·exact .inr ⟨b,_,q,rfl,Nat.min_le_right _ _⟩
   ·have Kh:G k=none:=h2
    rw[Kh]at h3;cases h3
 ·rcases split k L1 h1 with ⟨e,_⟩|⟨_,h2⟩
  ·right;show h.next<=k;omega
  ·exact .inl h2
end Go.cL
namespace Go.cL
open Go.RowKit
theorem Aj{P : Program}{g : FuncId}{fn : Func}{tS tR e : TypeId}(hf : P.funcs[g]? = some fn)(cG : (fn.name == "runtime.NumGoroutine") = false)(hb : fn.body.isNone = true)(hn : Extern.findNext fn = none)
  (he:Extern.find fn=some (Extern.SlicesOverlaps.overlaps #[tS,tS] #[tR])) (ht:P.underlying tS=some (.slice e)) (hz:∀w,(Go.sizeOf e).run P w=.ok 1 w) (args:List Value) (h:af) (v:Value) (h':af) (hc:jM args h=some (v,h'))
  (G:Nat->Option Loc) (w:World) (aP:List Value) (hR:HR ⟨G,fun _=>none⟩ (iw h) w) (hA:fG G args aP):s8 P g aP.toArray w (fun c w'=>∃G',VG G' v c/\Good ⟨G,fun _=>none⟩ (iw h) w ⟨G',fun _=>none⟩ (iw h') w'/\fD (h.next<=·) G G'):=by
 unfold jM at hc;split at hc
 ·rename_i a oa la ca b ob lb cb
  split at hc
  ·rename_i v1 r1 v2 r2 h1 h2
   revert hc
   cases Su:Nat.beq a b with
   |true=>intro hc;cases hc
   |false=>
    intro hc;simp only[cond_false,oi,pj]at hc;obtain⟨rfl,rfl⟩:=hc;obtain⟨x1,l1,rfl,g1,hA⟩:=hA.head;obtain⟨x2,l2,rfl,g2,hA⟩:=hA.head;obtain rfl:l2=[]:=List.eq_nil_of_length_eq_zero hA.1.symm;rcases g1.dO with ⟨_,L1,c1,Lk,rfl,_⟩|⟨_,⟨x,hx⟩,_⟩
    rotate_left
    ·cases hx
    rcases g2.dO with ⟨_,L2,c2,Ir,rfl,_⟩|⟨_,⟨x,hx⟩,_⟩
    rotate_left
    ·cases hx
    obtain⟨_,vf,e1,f1,k1,k2,k3⟩:=hR.cH _ _ _ Lk h1;obtain⟨_,cs2,e2,f2,q1,q2,q3⟩:=hR.cH _ _ _ Ir h2;obtain rfl:=k3 rfl;obtain rfl:=q3 rfl;have dS:L1.b≠L2.b:=fun q=>by
     have:=hR.dj a b L1 L2 _ _ Lk Ir h1 h2 rfl rfl q;rw[this,Nat.beq_refl]at Su;cases Su
    obtain⟨cv,z1,_⟩:=q2 0 v2 rfl;have Li:cs2.size≠0:=by have:=(Array.getElem?_eq_some_iff.1 z1).1;omega
    refine .inr ⟨.bool false,w,?_,G,.of_flat rfl,.refl hR,.refl _ _⟩;show(callFunc g #[.slice (some ⟨L1.b,L1.o+oa,none⟩) la c1,.slice (some ⟨L2.b,L2.o+ob,none⟩) lb c2]).run P w=_;rw[run_callFunc_extern hf cG hb hn he,Lib.run_overlaps_apart w tS tR e ht 1 hz ⟨L1.b,L1.o+oa,none⟩ ⟨L2.b,L2.o+ob,none⟩ la c1 lb c2 dS e1 e2 vf.size cs2.size (by unfold World.shape?;simp only[k1]) (by unfold World.shape?;simp only[q1]) Li (by unfold World.frozen?;simp only[k1];simp) (by unfold World.frozen?;simp only[k1];simp)];rfl
  ·cases hc
 ·cases hc
end Go.cL
namespace Go.cL
open Go.RowKit
theorem p8{P:Program}{H:Hint}{call:cF}{f:FuncId}{nt:Nat}{ops:Array Oper}{o:Oper}{rest:List Oper}{s s':St}{v:Value}{d:Tmp}(hg:o.guard=none)(hd:o.dst=some d)(Zm:d<nt)(h1:rY P H call f o s=some (v,s))(h:lF P H call f nt ops rest { s with env:=s.env.set d v }=some s') :
  lF P H call f nt ops (o :: rest) s=some s':=by
 have hw:jm ops o s=some true:=by unfold jm;rw[hg]
 have hbl:Nat.blt d nt=true:=bz Zm;simp only[lF,hw,h1,hd,rX,hbl,cond_true];exact h
theorem rA.room{P:Unit->Program}{nt id:Nat}(VB:32<=nt){ti tj tk tl e:TypeId}{o1 o2 o3 o4 o5 o6:Oper}{ops:Array Oper}(zU:ops.toList=[o1,o2,o3,o4,o5,o6])
  (p1:o1.op=.move (.tmp 8)) (p2:o2.op=.move (.tmp 7)) (p3:o3.op=.binOp .add ti (.tmp 26) (.tmp 27) tj) (p4:o4.op=.move (.tmp 0)) (p5:o5.op=.call { callee:=.builtin .cap,args:=#[.tmp 29],argTypes:=#[tl] }) (p6:o6.op=.binOp .gtr ti (.tmp 28) (.tmp 30) tk)
  (d1:o1.dst=some 26) (d2:o2.dst=some 27) (d3:o3.dst=some 28) (d4:o4.dst=some 29) (d5:o5.dst=some 30) (d6:o6.dst=some 31) (g1:o1.guard=none) (g2:o2.guard=none) (g3:o3.guard=none) (g4:o4.guard=none) (g5:o5.guard=none) (g6:o6.guard=none)
  (ht:(P ()).underlying tl=some (.slice e)) {s:SS} {n b off k:Nat} (e8:lk s.env 8=some (.int .i64 n)) (e7:lk s.env 7=some (.int .i64 1)) (e0:lk s.env 0=some (.slice (some ⟨b,off,none⟩) n k)) (aq:∀p∈s.env,p.1<26) (hn:n<=1000) (hk:n+1<=cM k) {Q:Exit->SS->Prop}
  (h:Q .normal { s with env:=(31,.bool false) :: s.env }):rA P nt (.region id ops false) s Q:=by
 refine⟨?_⟩;intro t hs hl;have fy:gQ (P ()) (fun _ _ _=>none):=⟨fun g args h v h' hc=>(by cases hc),fun g args h v h' hc=>(by cases hc)⟩;have t8:t.env.get 8=some (.int .i64 n):=hs.env _ _ e8;have t7:t.env.get 7=some (.int .i64 1):=hs.env _ _ e7;have t0:t.env.get 0=some (.slice (some ⟨b,off,none⟩) n k):=hs.env _ _ e0;have Xl:∀{o:Oper} {s:St} {v:Value},dN o.op=none->gp (P ()) s.new (eO Bz 0 o) o.op s=some (v,s)->rY (P ()) Bz (fun _ _ _=>none) 0 o s=some (v,s):=fun h1 h2=>by unfold rY;rw[h1];exact h2
 have w1:IntKind.wrap .i64 ((n:Int)+1)=(n:Int)+1:=wrap64 om om;refine WN.cap (H:=Bz) (f:=0) fy (pre:=[o1,o2,o3,o4]) (rest:=[o6]) zU p5 d5 (Nat.lt_of_lt_of_le (by decide) VB) g5 ht (s1:={ t with env:=(((t.env.set 26 (.int .i64 n)).set 27 (.int .i64 1)).set 28 (.int .i64 ((n:Int)+1))).set 29 (.slice (some ⟨b,off,none⟩) n k) }) ?_ (b:=b) (off:=off) (n:=n) (k:=k) ?_ (fun c hc=>?_)
 ·refine p8 g1 d1 (Nat.lt_of_lt_of_le (by decide) VB) (Xl (by rw[p1];rfl) (v:=.int .i64 n) (by rw[p1];simp only[gp,bL,t8])) ?_
  refine p8 g2 d2 (Nat.lt_of_lt_of_le (by decide) VB) (Xl (by rw[p2];rfl) (v:=.int .i64 1) (by rw[p2];simp only[gp,bL,cQ.bO];simp[t7])) ?_;refine p8 g3 d3 (Nat.lt_of_lt_of_le (by decide) VB) (Xl (by rw[p3];rfl) (v:=.int .i64 ((n:Int)+1)) (by rw[p3];simp only[gp,bL,cQ.bO];simp[w8,vd,w1])) ?_;refine p8 g4 d4 (Nat.lt_of_lt_of_le (by decide) VB) (Xl (by rw[p4];rfl) (v:=.slice (some ⟨b,off,none⟩) n k) (by rw[p4];simp only[gp,bL,cQ.bO];simp[t0])) ?_;rfl
 ·simp only[bL,cQ.bO];simp
 ·have dV:(decide ((c:Int)<(n:Int)+1))=false:=by simp;omega
  refine⟨_,p8 g6 d6 (Nat.lt_of_lt_of_le (by decide) VB) (Xl (by rw[p6];rfl) (v:=.bool false) (by rw[p6];simp only[gp,bL,cQ.bO];simp[w8,vd];omega)) rfl,{ s with env:=(31,.bool false) :: s.env },⟨fun i v hv=>?_,hs.K,hs.kn,hs.h⟩,hl,h⟩;show((((((t.env.set 26 _).set 27 _).set 28 _).set 29 _).set 30 _).set 31 _).get i=some v;simp only[kV]at hv;rw[cQ.bO];by_cases c1:31=i
  ·rw[if_pos c1]at hv ⊢;exact hv
  ·rw[if_neg c1]at hv ⊢
   have hi:i<26:=aq _ (G1 hv);simp only[cQ.bO];rw[if_neg om,if_neg om,if_neg om,if_neg om,if_neg om];exact hs.env i v hv
end Go.cL
namespace Go.cL
open Go.RowKit
theorem VG.back{G G':Nat->Option Loc}(hm:∀id L,G id=some L->G' id=some L){v c0:Value}(h0:VG G v c0):∀c,VG G' v c->VG G v c:=by
 induction h0 with
 |flat v h=>intro c hc;rw[VG.yH hc h];exact .flat v h
 |zR _=>intro c _;exact .zR c
 |ptr a L hs h=>
  intro c hc;have e:=hm _ _ h;cases hc with
  |flat _ h'=>simp[bA]at h'
  |ptr _ L' _ h'=>rw[e]at h';obtain rfl:=Option.some.inj h';exact .ptr a L hs h
 |gN a L len k hs h vj=>intro c hc;exact VG.M8 hm hs h hc
 |gW a L len m c' hs h _ _ _=>intro c hc;exact VG.M8 hm hs h hc
 |ky a a' x hs=>
  intro c hc;rcases hc.dO with ⟨qL,_⟩|⟨_,⟨x2,h2⟩,a2,c2,rfl,q⟩
  ·rw[hs]at qL;cases qL
  ·rcases q with ⟨_,rfl⟩|q
   ·exact .ky a a2 x hs
   ·unfold aS at q;omega
 |jG a a' x c1 hs=>
  intro c hc;rcases hc.dO with ⟨qL,_⟩|⟨_,⟨x2,h2⟩,a2,c2,rfl,q⟩
  ·rw[hs]at qL;cases qL
  ·exact .jG a a2 x c2 hs
 |xD id L h=>
  intro c hc;have e:=hm _ _ h;cases hc with
  |flat _ h'=>simp[bA]at h'
  |xD _ L' h'=>rw[e]at h';obtain rfl:=Option.some.inj h';exact .xD id L h
 |yield y L h=>
  intro c hc;have e:=hm _ _ h;cases hc with
  |flat _ h'=>simp[bA]at h'
  |yield _ L' h'=>rw[e]at h';obtain rfl:=Option.some.inj h';exact .yield y L h
 |func f x y x' y' hx hy h1 h2 ih1 ih2=>
  intro c hc;cases hc with
  |flat _ h'=>simp[bA]at h'
  |func _ _ _ x2 y2 Pq hy2 k1 k2=>
   refine .func f x y x2 y2 Pq hy2 (fun i u v hu hv=>?_) (fun i u v hu hv=>?_)
   ·have:=(List.getElem?_eq_some_iff.1 hu).1
    exact ih1 i u _ hu (List.getElem?_eq_getElem om) v (k1 i u v hu hv)
   ·have:=(List.getElem?_eq_some_iff.1 hu).1
    exact ih2 i u _ hu (List.getElem?_eq_getElem om) v (k2 i u v hu hv)
 |agg x x' hx h1 ih=>
  intro c hc;cases hc with
  |flat _ h'=>simp[bA]at h'
  |agg _ x2 Pq k1=>
   refine .agg x x2 Pq (fun i u v hu hv=>?_);have:=(List.getElem?_eq_some_iff.1 hu).1;exact ih i u _ hu (List.getElem?_eq_getElem om) v (k1 i u v hu hv)
 |tuple x x' hx h1 ih=>
  intro c hc;cases hc with
  |flat _ h'=>simp[bA]at h'
  |tuple _ x2 Pq k1=>
   refine .tuple x x2 Pq (fun i u v hu hv=>?_);have:=(List.getElem?_eq_some_iff.1 hu).1;exact ih i u _ hu (List.getElem?_eq_getElem om) v (k1 i u v hu hv)
theorem BR.back{G G':Nat->Option Loc}(hm:∀id L,G id=some L->G' id=some L){b:DE}{L:Loc}{o0 o:Option Obj}(h0:BR G b L o0)(h:BR G' b L o):BR G b L o:=by
 cases b with
 |dead=>trivial
 |live wr es cells=>
  obtain⟨_,Lj,e0,f0,_,q3,_⟩:=h0;obtain⟨h1,cs,e,fr,h2,h3,h4⟩:=h;refine⟨h1,cs,e,fr,h2,fun i v hi=>?_,h4⟩;obtain⟨c0,_,k2⟩:=q3 i v hi;obtain⟨c,r1,r2⟩:=h3 i v hi;exact⟨c,r1,k2.back hm c r2⟩
 |map es=>
  obtain⟨ces0,_,_,q2⟩:=h0;obtain⟨mn,clock,h1,h2⟩:=h;refine⟨mn,clock,h1,h2.1,fun i e c he hc=>⟨(h2.2 i e c he hc).1,?_⟩⟩;have:=(List.getElem?_eq_some_iff.1 he).1;exact(q2.2 i e _ he (List.getElem?_eq_getElem (by rw[<-q2.1];exact this))).2.back hm _ (h2.2 i e c he hc).2
 |loop st nL f nt env ps assign body=>
  obtain⟨_,_,_,_,_,_,_,q4⟩:=h0;obtain⟨fn,tmps,params,D,h1,h2,h3,h4⟩:=h;refine⟨fn,tmps,params,D,h1,h2,h3,fun t v hv=>⟨(h4 t v hv).1,(q4 t v hv).2.back hm _ (h4 t v hv).2⟩⟩
