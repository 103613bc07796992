import Derived.Test.YtdpbiegfljmhmaaGreatSymI
import Derived.DataReads
import Derived.ChangeShapes
import Derived.WideShapes
import Derived.Test.YtdpbiegfljmhmaaGreatSmG
import Derived.Test.YtdpbiegfljmhmaaGreatSlA
import Derived.Test.YtdpbiegfljmhmaaGreatSymBits
import Derived.Test.YtdpbiegfljmhmaaGreatFracA
import Derived.KernelRfl
import Derived.Test.YtdpbiegfljmhmaaGreatSlPi
set_option linter.unusedSimpArgs false
set_option linter.unusedVariables false
namespace Go.cS
open Go.RowKit
def dn(w:World)(b:Nat):Bool:=
 match w.heap[b]? with
 |some (.cells _ _ _)=>true
 |_=>false
def yv(w:World):Value->Bool
 | .slice (some a) _ c=>a.spot.isNone && decide (c<aR) && dn w a.block
 | .pointer (some a)=>a.spot.isNone && dn w a.block
 |v=>bk v
def YV:Value:=.slice (some ⟨0,0,some 0⟩) 0 0
def tc(w:World)(v:Value):Value:=
 if yv w v then v else
 match v with
 | .slice (some _) 0 0=>YV
 |_=>.chan none
def iu(w:World)(b:Nat):Option Loc:=
 match w.heap[b]? with
 |some (.cells cs _ _)=>some ⟨b,0,cs.size,1⟩
 |_=>none
def BE(w:World)(b:Nat):Option Cq:=
 match w.heap[b]? with
 |some (.cells cs _ _)=>some (.live false 1 (cs.toList.map (tc w)))
 |_=>none
theorem Ao{w:World}{b:Nat}(h:dn w b=true):∃n,iu w b=some ⟨b,0,n,1⟩:=by
 unfold dn at h;split at h
 ·rename_i cs e fr hb;exact⟨cs.size,by unfold iu;rw[hb]⟩
 ·cases h
theorem v5{w:World}{v:Value}(h:yv w v=true):VG (iu w) v v:=by
 unfold yv at h;split at h
 ·rename_i a len c
  simp only[Bool.and_eq_true,decide_eq_true_eq,Option.isNone_iff_eq_none]at h;obtain⟨⟨hs,hc⟩,hb⟩:=h;obtain⟨n,hg⟩:=Ao hb;have:=VG.gG (g:=iu w) a _ len c hs hg hc;obtain⟨b,o,sp⟩:=a;simp only at hs;subst hs;simpa using this
 ·rename_i a
  simp only[Bool.and_eq_true,Option.isNone_iff_eq_none]at h;obtain⟨hs,hb⟩:=h;obtain⟨n,hg⟩:=Ao hb;have:=VG.ptr (g:=iu w) a _ hs hg;obtain⟨b,o,sp⟩:=a;simp only at hs;subst hs;simpa using this
 ·exact .flat _ h
theorem O8(w:World)(v:Value):VG (iu w) (tc w v) v:=by
 unfold tc;split
 ·rename_i h;exact v5 h
 ·split
  ·exact .ko _ _ 0 rfl
  ·exact .zf _
theorem LP (w : World) : ∃ h : af, HR ⟨iu w, fun _ => none⟩ (im h) w ∧ h.low = h.next ∧ h.next = w.heap.size ∧ ∀ b, b < w.heap.size → h.m.get b = BE w b := by
  obtain ⟨t, ht⟩ := cQ.wG (BE w) w.heap.size
  have hb : ∀ id L, iu w id = some L → ∃ cs e fr, w.heap[id]? = some (.cells cs e fr) ∧ L = ⟨id, 0, cs.size, 1⟩ := by
    intro id L h
    unfold iu at h
    split at h
    · rename_i cs e fr hb; exact ⟨cs, e, fr, hb, by simpa using h.symm⟩
    · cases h
  have dR : ∀ id L, iu w id = some L → id < w.heap.size := fun id L h => by
    obtain ⟨cs, e, fr, h1, _⟩ := hb id L h
    exact (Array.getElem?_eq_some_iff.1 h1).1
  refine ⟨{ next := w.heap.size, low := w.heap.size, m := t }, ?_, rfl, rfl, fun b h => by simp only []; rw [ht, if_pos h]⟩
  exact
    { cP := fun id L h => dR id L h
      dg := fun id L h => by
        obtain ⟨cs, e, fr, h1, rfl⟩ := hb id L h
        exact ⟨_, h1, fun kR e' fr' q => by cases q; rfl⟩
      cG := fun id L b h hm => by
        obtain ⟨cs, e, fr, h1, rfl⟩ := hb id L h
        have h2 : t.get id = some b := hm
        rw [ht, if_pos (dR id _ h)] at h2
        unfold BE at h2
        rw [h1] at h2
        simp only [oi] at h2
        subst h2
        refine ⟨rfl, cs, e, fr, h1, ?_, fun hw => by cases hw⟩
        intro i v hv
        rw [List.getElem?_map] at hv
        cases hc : cs.toList[i]? with
        | none => rw [hc] at hv; cases hv
        | some c =>
          rw [hc] at hv
          simp only [Option.map_some, oi] at hv
          subst hv
          exact ⟨c, by simpa using hc, O8 w c⟩
      dh := fun id oS L L' b b' h h' _ _ _ _ e => by
        obtain ⟨cs, e1, fr, h1, rfl⟩ := hb id L h
        obtain ⟨kR, Of, fr', sI, rfl⟩ := hb oS L' h'
        exact e
      eE := (fun t L h => by cases h), dS := (fun t L h => by cases h), eO := (fun t t' L L' h => by cases h), sep := (fun id t L L' _ h => by cases h) }
theorem TI{P : Program}{H : Hint}{F : aZ}(hm : P.follows .mixedOrders = true)(hF : dx P F)(Qr : aW F)(cE : ∀ (g : FuncId) (fn : Func), P.funcs[g]? = some fn → (fn.name == "runtime.NumGoroutine") = false){g : FuncId}{fn : Func}(hf : P.funcs[g]? = some fn)(hb : fn.body.isSome = true)(hg : g < aV)
  {w:World} {h:af} (hR:HR ⟨iu w,fun _=>none⟩ (im h) w) (aq:h.low=h.next) (w9:h.next=w.heap.size) {args:List Value} (iN:∀v∈args,yv w v=true)
  (hw:(bj P H F).call g args h (fun v h'=>v=.bool true/\Ext h h')) :
  Calls P g args.toArray w fun e w'=>e=.returned (.bool true)/\Below w.heap.size w w':=by
 obtain⟨v,h',hr,rfl,hE⟩:=hw.ex;have hA:fF (iu w) args args:=⟨rfl,fun i u v hu hv=>by
  rw[hu]at hv;cases hv;exact v5 (iN u (List.mem_of_getElem? hu))⟩
 have hd:=hr.ok hm hF Qr cE hg hR hA;refine(hd.calls hf hb (cE g fn hf)).mono ?_;rintro e w' ⟨c,rfl,G',hv,hG,_⟩;rw[hv.bool];refine⟨rfl,hG.os,hG.tape,hG.output,hG.size,fun k hk=>hG.frame k hk (fun id L lP Yc=>?_) (fun t L h=>by cases h)⟩;have h1:=hE.vD;have h2:h.next<=h'.low:=by
  rw[aq]at h1;have:Nat.min h.next h.next=h.next:=Nat.min_self _;omega
 have h3:id<h.next:=hR.cP id L lP;show id<h'.low;omega
theorem yw{w:World}{h:af}(hn:h.next=w.heap.size)(hm:∀b,b<w.heap.size->h.m.get b=BE w b){b o n:Nat}{cells:List Value}(hb:dn w b=true)(hl:cells.length=n)
  (hc:∀i v,cells[i]?=some v->∃c,w.cell? ⟨b,o+i,none⟩=some c/\tc w c=v):Cells h (some ⟨b,o,none⟩) n 1 cells:=by
 unfold dn at hb;split at hb
 ·rename_i cs e fr vN
  have dR:b<w.heap.size:=(Array.getElem?_eq_some_iff.1 vN).1;refine⟨rfl,by rw[hn];exact dR,?_⟩;unfold af.aM af.cells?;simp only[];rw[hm b dR];unfold BE;rw[vN];simp only[Nat.mul_one];refine nS ?_ hl;apply List.ext_getElem?;intro i;rw[List.getElem?_take];by_cases hi:i<n
  ·rw[if_pos hi,List.getElem?_drop,List.getElem?_map]
   have hv:cells[i]?=some cells[i]:=List.getElem?_eq_getElem om;obtain⟨c,h1,h2⟩:=hc i _ hv;unfold World.cell? at h1;simp only[vN]at h1;rw[hv,<-h2];have:cs.toList[o+i]?=some c:=by simpa using h1
   rw[this];rfl
  ·rw[if_neg hi]
   exact(List.getElem?_eq_none om).symm
 ·cases hb
theorem yx{P:Program}{w:World}{r:Reach}{base:Nat}{t e:TypeId}{a:Option Addr}{len cap:Nat}(ht:P.underlying t=some (.slice e))(h:Value.okWide P w r base t (.slice a len cap)) :
  yv w (.slice a len cap)=true/\(a=none->len=0/\cap=0)/\∀x,a=some x->x.spot=none/\dn w x.block=true:=by
 simp only[Value.okWide,ht,Cell.okWide,Cell.ok]at h;cases a with
 |none=>
  have:len=0/\cap=0:=by
   cases len<;>cases cap<;>simp_all
  obtain⟨rfl,rfl⟩:=this;exact⟨rfl,fun _=>⟨rfl,rfl⟩,fun x hx=>by cases hx⟩
 |some x=>
  obtain⟨h1,h2,_,hs,row,cells,YW,_⟩:=h;have hc:dn w x.block=true:=by
   unfold dn;unfold World.shape? at YW;split at YW
   ·rename_i hb;rw[hb]
   ·cases YW
  refine⟨?_,(fun hx=>by cases hx),(fun y hy=>by cases hy;exact⟨hs,hc⟩)⟩;unfold yv;simp only[Bool.and_eq_true,decide_eq_true_eq,Option.isNone_iff_eq_none];refine⟨⟨hs,?_⟩,hc⟩;have:IntKind.i64.max=9223372036854775807:=rfl;unfold aR;omega
def TS(P:Program)(w:World)(base:Nat):Nat->TypeId->List Value->Prop
 |0,_,_=>False
 |d+1,t,cs=>
  match P.underlying t with
  |some .bool=>∃b,cs=[.bool b]
  |some (.int k)=>∃n,cs=[.int k n]/\(Lit.int k n).wf=true
  |some .string=>∃s,cs=[.string s]/\s.size<=maxLen
  |some (.slice e)=>cs=[.slice none 0 0]\/∃a len cap,cs=[.slice (some a) len cap]/\len<=cap/\cap<=maxLen/\(∀i,i<len->∃l,w.cells? base (a.add (i*P.cellsOf e)) (P.cellsOf e)=some l/\TS P w base d e l)/\(0<cap->0<P.cellsOf e->a.spot=none/\dn w a.block=true)
  |some (.struct fs)=>cs.length=P.cellsOf t/\∀f∈fs.toList,TS P w base d f.type ((cs.drop f.offset).take (P.cellsOf f.type))
  |some (.array n e)=>cs.length=P.cellsOf t/\∀i,i<n->TS P w base d e ((cs.drop (i*P.cellsOf e)).take (P.cellsOf e))
  |_=>True
theorem mapM_each{α β:Type}{f:α->Option β}{l:List α}{r:List β}(h:l.mapM f=some r){x:α}(hx:x∈l):∃y,f x=some y:=by
 obtain⟨i,hi,rfl⟩:=List.getElem_of_mem hx;have h1:=mapM_some_get h i l[i] (by simp[hi]);have h2:=mapM_some_length h;rw[h1];exact⟨r[i]'om,by simp[h2,hi]⟩
theorem vh{w:World}{base n:Nat}{a:Addr}{l:List Value}(h:w.cells? base a n=some l)(hn:0<n):a.spot=none/\dn w a.block=true:=by
 obtain⟨_,hl,hc⟩:=World.cells?_some h;have h1:=hc 0 hn;rw[List.getElem?_eq_getElem om]at h1;obtain⟨b,o,s⟩:=a;cases s with
 |some s=>simp[World.cell?,Addr.add]at h1;split at h1<;>simp_all
 |none=>
  refine⟨rfl,?_⟩;rw[show(⟨b,o,none⟩:Addr).add 0=⟨b,o,none⟩from rfl]at h1;simp only[World.cell?]at h1;unfold dn;simp only;split at h1
  ·rename_i heq;rw[heq]
  ·cases h1
theorem rS{H:Type}{enc:TypeId×Value->H}{P:Program}{w:World}{base:Nat}{sp:Nat->Bool}{held:Bool}(iY:∀b,sp b=true:=by intro _;rfl):∀(fuel:Nat) (t:TypeId) (cs:List Value) (x:DataW H×List MemPlace),DataW.trod enc P w base sp held fuel t cs=some x->TS P w base fuel t cs
 |0,t,cs,x,h=>by simp[DataW.trod]at h
 |n+1,t,cs,x,h=>by
  have ih:=rS (enc:=enc) (P:=P) (w:=w) (base:=base) (sp:=sp) (held:=held) iY n;unfold DataW.trod at h;unfold TS;split at h
  ·rename_i b hu;rw[hu];exact⟨b,rfl⟩
  ·rename_i k k' m hu
   rw[hu];split at h
   ·rename_i hc;obtain⟨rfl,hw⟩:=hc;exact⟨m,rfl,hw⟩
   ·cases h
  ·rename_i hu;rw[hu];trivial
  ·rename_i s hu
   rw[hu];split at h
   ·rename_i hc;exact⟨s,rfl,hc⟩
   ·cases h
  ·rename_i hu;rw[hu];trivial
  ·rename_i hu;rw[hu];trivial
  ·rename_i hu;rw[hu];exact .inl rfl
  ·rename_i e a len cap hu
   rw[hu];split at h
   ·rename_i hc
    simp only[Option.bind_eq_some_iff]at h;obtain⟨es,h1,h2⟩:=h;refine .inr ⟨a,len,cap,rfl,hc.2.1,hc.2.2,fun i hi=>?_,fun mJ Xg=>?_⟩
    ·obtain⟨y,hy⟩:=mapM_each h1 (List.mem_range.2 hi)
     rw[Option.bind_eq_some_iff]at hy;obtain⟨l,hl,hy⟩:=hy;exact⟨l,hl,ih _ _ _ hy⟩
    ·have hz:(a.add (0*P.cellsOf e))=a:=by rw[Nat.zero_mul];rfl
     by_cases hlen:0<len
     ·obtain⟨y,hy⟩:=mapM_each h1 (List.mem_range.2 hlen)
      rw[Option.bind_eq_some_iff]at hy;obtain⟨l,hl,hy⟩:=hy;rw[hz]at hl;exact vh hl Xg
     ·have fw:len=0:=om
      subst fw;rw[iY,if_pos rfl,Option.map_eq_some_iff]at h2;obtain⟨rs,h3,_⟩:=h2;obtain⟨y,hy⟩:=mapM_each h3 (List.mem_range.2 (show 0<cap-0 by omega));rw[Option.bind_eq_some_iff]at hy;obtain⟨l,hl,hy⟩:=hy;rw[Nat.zero_add,hz]at hl;exact vh hl Xg
   ·cases h
  ·rename_i fs hu
   rw[hu];split at h
   ·rename_i hc
    refine⟨hc,fun f hf=>?_⟩;rw[Option.map_eq_some_iff]at h;obtain⟨xs,h1,h2⟩:=h;obtain⟨y,hy⟩:=mapM_each h1 hf;exact ih _ _ _ hy
   ·cases h
  ·rename_i m e hu
   rw[hu];split at h
   ·rename_i hc
    refine⟨hc,fun i hi=>?_⟩;rw[Option.map_eq_some_iff]at h;obtain⟨xs,h1,h2⟩:=h;obtain⟨y,hy⟩:=mapM_each h1 (List.mem_range.2 hi);exact ih _ _ _ hy
   ·cases h
  all_goals first|(rename_i hu;rw[hu];trivial)|cases h
theorem Ap(b o i:Nat):(⟨b,o,none⟩:Addr).add i=⟨b,o+i,none⟩:=by
 unfold Addr.add;split
 ·rename_i h0;subst h0;rfl
 ·rfl
theorem DG{α:Type}(enc:α->List Value){es:Nat}(tO:∀x,(enc x).length=es):∀(xs:List α) (i j:Nat),j<es->(xs.flatMap enc)[i*es+j]?=(xs[i]?).bind fun x=>(enc x)[j]?
 | [],i,j,_=>by simp
 |x :: xs,0,j,hj=>by
  rw[List.flatMap_cons,Nat.zero_mul,Nat.zero_add,List.getElem?_append_left (by rw[tO];exact hj)];rfl
 |x :: xs,i+1,j,hj=>by
  rw[List.flatMap_cons,List.getElem?_append_right (by rw[tO,Nat.add_mul];omega),tO];rw[show(i+1)*es+j-es=i*es+j by rw[Nat.add_mul];omega];rw[DG enc tO xs i j hj];rfl
theorem DH{α:Type}(enc:α->List Value){es:Nat}(tO:∀x,(enc x).length=es)(xs:List α):(xs.flatMap enc).length=xs.length*es:=by
 induction xs with
 |nil=>simp
 |cons x xs ih=>rw[List.flatMap_cons,List.length_append,tO,ih,List.length_cons,Nat.add_mul];omega
theorem te{P:Program}{w:World}{h:af}(hn:h.next=w.heap.size)(hm:∀b,b<w.heap.size->h.m.get b=BE w b){base d:Nat}{t e:TypeId}{a:Option Addr}{len cap:Nat}(hu:P.underlying t=some (.slice e))
  (Cl:TS P w base (d+1) t [.slice a len cap]) (LQ:(a=none->len=0/\cap=0)/\∀x,a=some x->x.spot=none/\dn w x.block=true)
  {α:Type} (enc:α->List Value) {es:Nat} (Xg:P.cellsOf e=es) (YX:0<es) (tO:∀x,(enc x).length=es) (G:α->Prop) (YY:∀l,TS P w base d e l->∃x,l.map (tc w)=enc x/\G x) :
  ∃xs:List α,xs.length=len/\len<=cap/\cap<=maxLen/\Cells h a len es (xs.flatMap enc)/\∀x∈xs,G x:=by
 unfold TS at Cl;rw[hu]at Cl;rcases Cl with h1|⟨ad,len',cap',h1,h2,h3,h4,_⟩
 ·simp only[List.cons.injEq,Value.slice.injEq,and_true]at h1
  obtain⟨rfl,rfl,rfl⟩:=h1;exact⟨[],rfl,om,by unfold maxLen;omega,⟨rfl,rfl⟩,fun x hx=>by cases hx⟩
 ·simp only[List.cons.injEq,Value.slice.injEq,and_true]at h1
  obtain⟨rfl,rfl,rfl⟩:=h1;obtain⟨hs,hb⟩:=LQ.2 ad rfl;obtain⟨b,o,spt⟩:=ad;simp only at hs hb;subst hs;rw[Xg]at h4;have key:∀n,n<=len->∃xs:List α,xs.length=n/\∀i,i<n->∃x,xs[i]?=some x/\G x/\∀j,j<es->∃c v,w.cell? ⟨b,o+(i*es+j),none⟩=some c/\(enc x)[j]?=some v/\tc w c=v:=by
   intro n
   induction n with
   |zero=>intro _;exact⟨[],rfl,fun i hi=>om⟩
   |succ n ih=>
    intro hle;obtain⟨xs,zS,E0⟩:=ih om;obtain⟨l,y8,AN⟩:=h4 n om;obtain⟨x,he,hg⟩:=YY l AN;obtain⟨_,WW,hlc⟩:=World.cells?_some y8;refine⟨xs++[x],by simp[zS],fun i hi=>?_⟩;by_cases tH:i<n
    ·obtain⟨y,Lp,TC⟩:=E0 i tH
     exact⟨y,by rw[List.getElem?_append_left om];exact Lp,TC⟩
    ·have:i=n:=om
     subst this;refine⟨x,by rw[List.getElem?_append_right om,zS];simp,hg,fun j hj=>?_⟩;have h5:=hlc j hj;rw[Ap,Ap]at h5;have hj2:j<l.length:=om
     rw[List.getElem?_eq_getElem hj2]at h5;refine⟨l[j],tc w l[j],by rw[<-h5,Nat.add_assoc],?_,rfl⟩;rw[<-he,List.getElem?_map,List.getElem?_eq_getElem hj2];rfl
  obtain⟨xs,zS,E0⟩:=key len (Nat.le_refl _);refine⟨xs,zS,h2,h3,?_,fun x hx=>?_⟩
  ·have hc:=yw hn hm (b:=b) (o:=o) (n:=len*es) (cells:=xs.flatMap enc) hb (by rw[DH enc tO,zS]) (fun k v hv=>?_)
   ·obtain⟨c1,c2,c3⟩:=hc
    exact⟨c1,c2,by rw[Nat.mul_one]at c3;exact c3⟩
   ·have hk:k<len*es:=by
     have:=(List.getElem?_eq_some_iff.1 hv).1;rw[DH enc tO,zS]at this;exact this
    have hdm:=Nat.div_add_mod k es;have Vh:=Nat.mod_lt k YX;have hdiv:k / es<len:=Nat.div_lt_of_lt_mul (by rw[Nat.mul_comm];exact hk);obtain⟨x,Lp,TC,hy3⟩:=E0 (k / es) hdiv;obtain⟨c,v',h6,h7,h8⟩:=hy3 (k % es) Vh;have e1:k / es*es+k % es=k:=by rw[Nat.mul_comm];exact hdm
    rw[<-e1,DG enc tO xs _ _ Vh,Lp]at hv;simp only[Option.bind_some]at hv;rw[h7]at hv;obtain rfl:=Option.some.inj hv;rw[e1]at h6;exact⟨c,h6,h8⟩
  ·obtain⟨i,hi,rfl⟩:=List.getElem_of_mem hx
   obtain⟨y,Lp,TC,_⟩:=E0 i om;rw[List.getElem?_eq_getElem hi]at Lp;obtain rfl:=Option.some.inj Lp;exact TC
theorem F5{P:Program}{w:World}{base d:Nat}{t:TypeId}{k:IntKind}{cs:List Value}(hu:P.underlying t=some (.int k))(h:TS P w base (d+1) t cs):∃n,cs=[.int k n]/\(Lit.int k n).wf=true:=by
 unfold TS at h;rw[hu]at h;exact h
theorem Aq{P:Program}{w:World}{base d:Nat}{t:TypeId}{fs:Array Field}{cs:List Value}(hu:P.underlying t=some (.struct fs))(h:TS P w base (d+1) t cs):cs.length=P.cellsOf t/\∀f∈fs.toList,TS P w base d f.type ((cs.drop f.offset).take (P.cellsOf f.type)):=by
 unfold TS at h;rw[hu]at h;exact h
theorem DI{P:Program}{w:World}{r:Reach}{base:Nat}{t u:TypeId}{cs:Array Value}{ts:List TypeId}(h:Row.okWide P w r base t cs)(Cl:P.cellTypes P.depth t=some ts){i:Nat}{v:Value}(hi:cs[i]?=some v)(hu:ts[i % ts.length]?=some u):Cell.okWide P w r base u v:=by
 obtain⟨ts',h1,_,h2⟩:=h;rw[Cl]at h1;obtain rfl:=Option.some.inj h1;obtain⟨u',h3,h4⟩:=h2 i v hi;rw[hu]at h3;obtain rfl:=Option.some.inj h3;exact h4
theorem yy{P:Program}{w:World}{r:Reach}{base:Nat}{t e:TypeId}{v:Value}(ht:P.underlying t=some (.slice e))(h:Cell.okWide P w r base t v) :
  ∃a len cap,v=.slice a len cap/\yv w (.slice a len cap)=true/\(a=none->len=0/\cap=0)/\∀x,a=some x->x.spot=none/\dn w x.block=true:=by
 have h':Value.okWide P w r base t v:=by unfold Value.okWide;rw[ht];exact h
 obtain⟨a,len,cap,rfl⟩:=WideShapes.okWide_slice ht h';obtain⟨h1,h2⟩:=yx ht h';exact⟨a,len,cap,rfl,h1,h2⟩
def DJ(w:World):Value->Bool
 | .agg cs=>cs.toList.all (yv w)
 |v=>yv w v
theorem O9{w:World}{v:Value}(h:DJ w v=true):VG (iu w) v v:=by
 unfold DJ at h;split at h
 ·refine .agg _ _ rfl (fun i u v hu hv=>?_)
  rw[hu]at hv;obtain rfl:=Option.some.inj hv;exact v5 (List.all_eq_true.1 h u (List.mem_of_getElem? hu))
 ·exact v5 h
theorem Vi{w:World}{args:List Value}(h:args.all (DJ w)=true):fF (iu w) args args:=⟨rfl,fun i u v hu hv=>by
 rw[hu]at hv;obtain rfl:=Option.some.inj hv;exact O9 (List.all_eq_true.1 h u (List.mem_of_getElem? hu))⟩
theorem F6{P : Program}{H : Hint}{F : aZ}(hm : P.follows .mixedOrders = true)(hF : dx P F)(Qr : aW F)(cE : ∀ (g : FuncId) (fn : Func), P.funcs[g]? = some fn → (fn.name == "runtime.NumGoroutine") = false){g : FuncId}{fn : Func}(hf : P.funcs[g]? = some fn)(hb : fn.body.isSome = true)(hg : g < aV)
  {w:World} {h:af} (hR:HR ⟨iu w,fun _=>none⟩ (im h) w) (aq:h.low=h.next) (w9:h.next=w.heap.size) {args:List Value} (hA:fF (iu w) args args)
  (hw:(bj P H F).call g args h (fun v h'=>v=.bool true/\Ext h h')) :
  Calls P g args.toArray w fun e w'=>e=.returned (.bool true)/\Below w.heap.size w w':=by
 obtain⟨v,h',hr,rfl,hE⟩:=hw.ex;have hd:=hr.ok hm hF Qr cE hg hR hA;refine(hd.calls hf hb (cE g fn hf)).mono ?_;rintro e w' ⟨c,rfl,G',hv,hG,_⟩;rw[hv.bool];refine⟨rfl,hG.os,hG.tape,hG.output,hG.size,fun k hk=>hG.frame k hk (fun id L lP Yc=>?_) (fun t L h=>by cases h)⟩;have h1:=hE.vD;have h2:h.next<=h'.low:=by
  rw[aq]at h1;have:Nat.min h.next h.next=h.next:=Nat.min_self _;omega
 have h3:id<h.next:=hR.cP id L lP;show id<h'.low;omega
theorem DK{P:Program}{w:World}{r:Reach}{base b0 fuel:Nat}{t e:TypeId}{v:Value}{H:Type}{enc:TypeId×Value->H}{sp:Nat->Bool}{held:Bool}{x:DataW H×List MemPlace}(ht:P.underlying t=some (.slice e))(h:Value.okWide P w r base t v)(hf:DataW.trod enc P w b0 sp held fuel t v.cells.toList=some x)(iY:∀b,sp b=true:=by intro _;rfl) :
  ∃a len cap d,v=.slice a len cap/\DJ w (.slice a len cap)=true/\((a=none->len=0/\cap=0)/\∀x,a=some x->x.spot=none/\dn w x.block=true)/\fuel=d+1/\TS P w b0 (d+1) t [.slice a len cap]:=by
 obtain⟨a,len,cap,rfl⟩:=WideShapes.okWide_slice ht h;obtain⟨h1,h2⟩:=yx ht h;have Cl:TS P w b0 fuel t [.slice a len cap]:=rS iY _ _ _ _ hf;cases fuel with
 |zero=>exact Cl.elim
 |succ d=>exact⟨a,len,cap,d,rfl,h1,h2,rfl,Cl⟩
end Go.cS
namespace Go.Proofs.YtdpbiegfljmhmaaGreat
open Go.cS
set_option maxRecDepth 100000
def nC(x:Int):List Value:=[.int .i64 x]
theorem gV(x:Int):(nC x).length=1:=rfl
theorem Hu(x:Int):(nC x).all aE=true:=rfl
structure dM(h0 h:af)(n w:Nat)(bs:Nat->Nat)(F:Nat->Ext.aQ):Prop where
 ext:Ext h0 h
 row:∀y,y<n->bW h (bs y) 1 ((kW (F y) w).flatMap nC)
 cJ:∀y,y<n->h0.next<=bs y
 lt:∀y,y<n->bs y<h.next
 inj:∀y z,y<n->z<n->bs y=bs z->y=z
section
variable{h0 h:af}{n w:Nat}{bs:Nat->Nat}{F:Nat->Ext.aQ}
theorem dM.more{h':af}(t:dM h0 h n w bs F)(e:Ext h h'):dM h0 h' n w bs F:=
 ⟨t.ext.trans e,fun y hy=>(t.row y hy).ext e (t.lt y hy),t.cJ,fun y hy=>Nat.lt_of_lt_of_le (t.lt y hy) e.next,t.inj⟩
theorem dM.dG{h':af}(t:dM h0 h n w bs F)(e:Ext h0 h')(hn:h.next<=h'.next)(hk:∀y,y<n->h'.m.get (bs y)=h.m.get (bs y)):dM h0 h' n w bs F:=
 ⟨e,fun y hy=>(t.row y hy).gH (hk y hy),t.cJ,fun y hy=>Nat.lt_of_lt_of_le (t.lt y hy) hn,t.inj⟩
theorem dM.congr{G:Nat->Ext.aQ}(t:dM h0 h n w bs F)(e:∀y x,y<n->x<w->F y x=G y x):dM h0 h n w bs G:=
 ⟨t.ext,fun y hy=>by rw[<-hO (fun x hx=>e y x hy hx)];exact t.row y hy,t.cJ,t.lt,t.inj⟩
theorem dM.jJ(t:dM h0 h n w bs F){y:Nat}(hy:y<n):Rows nC 1 h (some ⟨bs y,0,none⟩) w (kW (F y) w):=by
 have r:=bW.rows (t.row y hy) gV om (t.lt y hy);rw[bN]at r;exact r
theorem dM.el(t:dM h0 h n w bs F){y x:Nat}(hy:y<n)(hx:x<w):h.aM ⟨bs y,0+x*1,none⟩ 1=some [.int .i64 (F y x)]:=by
 obtain⟨b,o,e,_,r⟩:=(t.jJ hy).at (i:=(x:Int)) om om;cases e;have:=r 0 1 om om;rw[jq _ hx,List.drop_zero,List.take_of_length_le (by rw[gV];omega)]at this;exact this
def th(F:Nat->Ext.aQ)(y x:Nat)(v:Int):Nat->Ext.aQ:=fun a b=>if a=y/\b=x then v else F a b
theorem dM.set(t:dM h0 h n w bs F){y x:Nat}(hy:y<n)(hx:x<w)(v:Int) :
  ∃h',h.write (bs y) (0+x*1) [.int .i64 v]=some h'/\dM h0 h' n w bs (th F y x v)/\j7 h h' (bs y):=by
 obtain⟨h',w1,w2,w3⟩:=bW.setRow (t.row y hy) gV (i:=x) (by rw[bN];exact hx) v;refine⟨h',by rw[Nat.zero_add];exact w1,⟨w3.ext t.ext (t.cJ y hy),fun z hz=>?_,t.cJ,fun z hz=>by rw[w3.next];exact t.lt z hz,t.inj⟩,w3⟩;by_cases e:z=y
 ·subst e
  rw[v7]at w2;have:kW (th F z x v z) w=kW (fun j=>if j=x then v else F z j) w:=hO (fun i hi=>by unfold th;simp);rw[this];exact w2
 ·have:kW (th F y x v z) w=kW (F z) w:=hO (fun i hi=>by unfold th;rw[if_neg (fun q=>e q.1)])
  rw[this];exact(t.row z hz).gH (w3.get _ (fun q=>e (t.inj z y hz hy q)))
end
structure ke(h h':af)(b:Nat):Prop where
 next:h.next<=h'.next
 get:∀c,c<h.next->c≠b->h'.m.get c=h.m.get c
theorem ke.refl(h:af)(b:Nat):ke h h b:=⟨Nat.le_refl _,fun _ _ _=>rfl⟩
theorem ke.wrote{h h' h2:af}{b:Nat}(t:ke h h' b)(w:j7 h' h2 b):ke h h2 b:=
 ⟨by rw[w.next];exact t.next,fun c hc ne=>by rw[w.get c ne];exact t.get c hc ne⟩
theorem ke.ext{h h' h2:af}{b:Nat}(t:ke h h' b)(w:Ext h' h2):ke h h2 b:=
 ⟨Nat.le_trans t.next w.next,fun c hc ne=>by rw[w.get c (Nat.lt_of_lt_of_le hc t.next)];exact t.get c hc ne⟩
theorem ke.trans{h h' h2:af}{b:Nat}(t:ke h h' b)(w:ke h' h2 b):ke h h2 b:=
 ⟨Nat.le_trans t.next w.next,fun c hc ne=>by rw[w.get c (Nat.lt_of_lt_of_le hc t.next) ne];exact t.get c hc ne⟩
def BF(F:Nat->Ext.aQ)(r j:Nat)(g:Ext.aQ):Nat->Ext.aQ:=fun y x=>if y=r/\x<j then g x else F y x
theorem Hv{n:Int}(h:(Lit.int .i64 n).wf=true):i64 n:=by
 unfold i64;simp[Lit.wf,IntKind.min,IntKind.max,IntKind.signed,IntKind.bits]at h;omega
theorem Sl:Tryz.prog.cellsOf 2=1:=by kernel_rfl
theorem F7:Tryz.prog.cellsOf 43=2:=by kernel_rfl
theorem Vj{l:List Value}(h:l.length=2):∃a b,l=[a,b]:=by
 match l,h with
 | [a,b],_=>exact⟨a,b,rfl⟩
theorem DL{w:World}{base d:Nat}{l:List Value}(h:TS Tryz.prog w base d 43 l):∃x y,l=[.int .i64 x,.int .i64 y]/\i64 x/\i64 y:=by
 cases d with
 |zero=>exact h.elim
 |succ d=>
  obtain⟨h1,h2⟩:=Aq Tryz.underlying43 h;rw[F7]at h1;obtain⟨a,b,rfl⟩:=Vj h1;simp only[List.forall_mem_cons,List.not_mem_nil,false_imp_iff,implies_true,and_true,Sl,List.drop,List.take]at h2;obtain⟨g0,g1⟩:=h2;cases d with
  |zero=>exact g0.elim
  |succ d=>
   obtain⟨x,e1,w1⟩:=F5 Tryz.underlying2 g0;obtain⟨y,e2,w2⟩:=F5 Tryz.underlying2 g1;simp only[List.cons.injEq,and_true]at e1 e2;subst e1 e2;exact⟨x,y,rfl,Hv w1,Hv w2⟩
theorem LS:Tryz.prog.cellsOf 28=1:=by kernel_rfl
theorem DM:Tryz.prog.cellsOf 3=1:=by kernel_rfl
theorem LU:Tryz.prog.cellsOf 22=1:=by kernel_rfl
theorem Pa:Tryz.prog.cellsOf 23=1:=by kernel_rfl
theorem Pb:Tryz.prog.cellsOf 25=2:=by kernel_rfl
theorem Hw:Tryz.prog.cellTypes Tryz.prog.depth 25=some [22,23]:=by kernel_rfl
theorem Jc{w:World}{a:Addr}{len cap:Nat}(h1:a.spot=none)(h2:dn w a.block=true)(h3:cap<=maxLen):tc w (.slice (some a) len cap)=.slice (some a) len cap:=by
 unfold tc;have h4:cap<aR:=by unfold maxLen at h3;unfold aR;omega
 rw[if_pos];show(a.spot.isNone && decide (cap<aR) && dn w a.block)=true;rw[h1,h2];simp[h4]
def LV(h:af)(p:Hd×List Int):Prop:=p.2.length=p.1.n/\(0<p.1.n->Rows nC 1 h p.1.a p.1.n p.2)
theorem Pc{w:World}{h:af}(hn:h.next=w.heap.size)(hm:∀b,b<w.heap.size->h.m.get b=BE w b){base d:Nat}{l:List Value}(hl:TS Tryz.prog w base d 28 l):∃p:Hd×List Int,l.map (tc w)=p.1.cells/\LV h p:=by
 cases d with
 |zero=>exact hl.elim
 |succ d=>
  have Cl:=hl;unfold TS at hl;rw[Tryz.underlying28]at hl;have go:∀(a:Addr) (len cap:Nat),a.spot=none->dn w a.block=true->cap<=maxLen->TS Tryz.prog w base (d+1) 28 [.slice (some a) len cap]->∃p:Hd×List Int,[Value.slice (some a) len cap].map (tc w)=p.1.cells/\LV h p:=by
   intro a len cap h1 h2 h3 ht;obtain⟨xs,k1,k2,k3,k4,k5⟩:=te hn hm Tryz.underlying28 ht ⟨(fun q=>by cases q),fun x hx=>by cases hx;exact⟨h1,h2⟩⟩ nC DM om (fun _=>rfl) (fun _=>True) (fun l hl=>by
    cases d with
    |zero=>exact hl.elim
    |succ d=>
     obtain⟨y,rfl,_⟩:=F5 Tryz.underlying3 hl;exact⟨y,rfl,trivial⟩)
   refine⟨(⟨some a,len,cap⟩,xs),?_,k1,fun _=>⟨k4,fun _=>rfl,om⟩⟩;show [tc w (.slice (some a) len cap)]=_;rw[Jc h1 h2 h3];rfl
  rcases hl with rfl|⟨a,len,cap,rfl,h2,h3,h4,h5⟩
  ·exact⟨(⟨none,0,0⟩,[]),rfl,rfl,fun q=>absurd q (Nat.lt_irrefl _)⟩
  ·by_cases hc:0<cap
   ·obtain⟨s1,s2⟩:=h5 hc (by rw[DM];omega)
    exact go a len cap s1 s2 h3 Cl
   ·have tJ:cap=0:=om
    have fw:len=0:=om
    subst tJ fw;by_cases hr:a.spot=none/\dn w a.block=true
    ·exact go a 0 0 hr.1 hr.2 h3 Cl
    ·refine⟨(⟨some ⟨0,0,some 0⟩,0,0⟩,[]),?_,rfl,fun q=>absurd q (Nat.lt_irrefl _)⟩
     show [tc w (.slice (some a) 0 0)]=_;have:yv w (.slice (some a) 0 0)=false:=by
      show(a.spot.isNone && decide (0<aR) && dn w a.block)=false;cases hs:a.spot with
      |some s=>rfl
      |none=>
       have:dn w a.block=false:=by
        cases hi:dn w a.block with
        |false=>rfl
        |true=>exact absurd ⟨hs,hi⟩ hr
       rw[this];simp
     unfold tc;rw[this];rfl
theorem Jd{w:World}{h:af}(hn:h.next=w.heap.size)(hm:∀b,b<w.heap.size->h.m.get b=BE w b){H:Type}{enc:TypeId×Value->H}{base fuel b0:Nat}{held:Bool}{r:Reach}{v:Value}{x:DataW H×List MemPlace}
  (BG:Value.okWide Tryz.prog w r b0 25 v) (hf:DataW.trod enc Tryz.prog w base (fun _=>true) held fuel 25 v.cells.toList=some x) :
  ∃a n c a' n' c' dA g B,v=.agg #[.slice a n c,.slice a' n' c']/\DJ w v=true/\n<=maxLen/\n'<=maxLen/\zb nC 1 h a n dA g/\Rows fC 2 h a' n' B/\∀i:Int,0<=i->i<n'->i64 (gt B i).n/\i64 (gt B i).d:=by
 obtain⟨cs,rfl,tP,Vk⟩:∃cs,v=.agg cs/\cs.size=Tryz.prog.cellsOf 25/\Row.okWide Tryz.prog w r b0 25 cs:=by
  unfold Value.okWide at BG;rw[Tryz.underlying25]at BG;exact BG
 have Cl:=rS (fun _=>rfl) _ _ _ _ hf;rw[Pb]at tP;obtain⟨v0,v1,vN⟩:=Vj (l:=cs.toList) (by simpa using tP);obtain rfl:cs=#[v0,v1]:=by cases cs;simp_all
 have Cl:TS Tryz.prog w base fuel 25 [v0,v1]:=Cl;cases fuel with
 |zero=>exact Cl.elim
 |succ d=>
  obtain⟨_,h2⟩:=Aq Tryz.underlying25 Cl;simp only[List.forall_mem_cons,List.not_mem_nil,false_imp_iff,implies_true,and_true,LU,Pa,List.drop,List.take]at h2;obtain⟨g0,g1⟩:=h2;cases d with
  |zero=>exact g0.elim
  |succ d=>
   obtain⟨a,n,c,rfl,hr,LQ⟩:=yy Tryz.underlying22 (DI Vk Hw (i:=0) (u:=22) rfl rfl);obtain⟨a',n',c',rfl,vC,Vl⟩:=yy Tryz.underlying23 (DI Vk Hw (i:=1) (u:=23) rfl rfl);obtain⟨xs,k1,k2,k3,k4,k5⟩:=te hn hm Tryz.underlying22 g0 LQ (fun p:Hd×List Int=>p.1.cells) LS om (fun _=>rfl) (fun p=>LV h p) (fun l hl=>Pc hn hm hl);obtain⟨ys,j1,j2,j3,j4,j5⟩:=te hn hm Tryz.underlying23 g1 Vl fC F7 om (fun _=>rfl) (fun x=>i64 x.n/\i64 x.d) (fun l hl=>by
    obtain⟨x,y,rfl,h1,h2⟩:=DL hl;exact⟨⟨x,y⟩,rfl,h1,h2⟩)
   refine⟨a,n,c,a',n',c',xs.map (·.1),xs.map (·.2),ys,rfl,?_,om,om,⟨⟨?_,fun _=>rfl,om⟩,by simp[k1],fun y y0 y1=>?_⟩,⟨j4,fun _=>rfl,om⟩,fun i i0 i1=>j5 _ (BH ys i0 om)⟩
   ·simp only[DJ,List.all_cons,List.all_nil,hr,vC];rfl
   ·rw[List.flatMap_map];exact k4
   ·have hy:y.toNat<xs.length:=om
    have e1:gt (xs.map (·.1)) y=(xs[y.toNat]).1:=by unfold gt;rw[List.getD_eq_getElem?_getD,List.getElem?_map,List.getElem?_eq_getElem hy];rfl
    have e2:gt (xs.map (·.2)) y=(xs[y.toNat]).2:=by unfold gt;rw[List.getD_eq_getElem?_getD,List.getElem?_map,List.getElem?_eq_getElem hy];rfl
    rw[e1,e2];exact k5 _ (List.getElem_mem hy)
theorem LW{w:World}{h:af}(hn:h.next=w.heap.size)(hm:∀b,b<w.heap.size->h.m.get b=BE w b){H:Type}{enc:TypeId×Value->H}{base fuel b0:Nat}{held:Bool}{r:Reach}{v:Value}{x:DataW H×List MemPlace}
  (BG:Value.okWide Tryz.prog w r b0 23 v) (hf:DataW.trod enc Tryz.prog w base (fun _=>true) held fuel 23 v.cells.toList=some x) :
  ∃a n c l,v=.slice a n c/\DJ w v=true/\n<=maxLen/\Rows fC 2 h a n l/\∀i:Int,0<=i->i<n->i64 (gt l i).n/\i64 (gt l i).d:=by
 obtain⟨a,n,c,d,rfl,hr,LQ,rfl,Cl⟩:=DK Tryz.underlying23 BG hf;obtain⟨xs,k1,k2,k3,k4,k5⟩:=te hn hm Tryz.underlying23 Cl LQ fC F7 om (fun _=>rfl) (fun x=>i64 x.n/\i64 x.d) (fun l hl=>by
  obtain⟨x,y,rfl,h1,h2⟩:=DL hl;exact⟨⟨x,y⟩,rfl,h1,h2⟩)
 exact⟨a,n,c,xs,rfl,hr,om,⟨k4,fun _=>rfl,om⟩,fun i i0 i1=>k5 _ (BH xs i0 om)⟩
def kG(bs:Nat->Nat)(w k:Nat):List Hd:=kW (fun y=>(⟨some ⟨bs y,0,none⟩,w,aw 1 w⟩:Hd)) k
structure nZ(h0 h:af)(sb k n w:Nat)(ra:Option Addr)(rc:Nat)(bs:Nat->Nat)(F:Nat->Ext.aQ):Prop where
 rows:dM h0 h n w bs F
 own:bW h sb 1 [.slice ra k rc]
 pQ:oD h 1 ra k rc ((kG bs w k).flatMap Hd.cells)
 kn:k<=n
 s0:h0.next<=sb
 s1:sb<h.next
 fr:ky h0.next ra
 QH:∀y,y<n->bs y≠sb
 EI:∀ad,ra=some ad->ad.block≠sb/\∀y,y<n->ad.block≠bs y
section
variable{h0 h:af}{sb k n w rc:Nat}{ra:Option Addr}{bs:Nat->Nat}{F:Nat->Ext.aQ}
theorem nZ.head(t:nZ h0 h sb k n w ra rc bs F){y:Nat}(hy:y<k):∃b,ra=some ⟨b,0,none⟩/\b<h.next/\h.aM ⟨b,0+y*1,none⟩ 1=some [.slice (some ⟨bs y,0,none⟩) w (aw 1 w)]:=by
 rcases t.pQ with ⟨_,q,_⟩|⟨b,e,_,hb,hl,ho⟩
 ·omega
 refine⟨b,e,hb,?_⟩;have r:=bW.rows ho gJ om hb;rw[show(kG bs w k).length=k from bN _ _]at r;obtain⟨b',o,e',_,q⟩:=r.at (i:=(y:Int)) om om;cases e';have:=q 0 1 om om;unfold kG at this;rw[jq _ hy]at this;exact this
theorem nZ.more{h':af}(t:nZ h0 h sb k n w ra rc bs F)(e:Ext h h'):nZ h0 h' sb k n w ra rc bs F:=
 ⟨t.rows.more e,t.own.ext e t.s1,t.pQ.ext e,t.kn,t.s0,Nat.lt_of_lt_of_le t.s1 e.next,t.fr,t.QH,t.EI⟩
theorem nZ.put{h':af}{G:Nat->Ext.aQ}{r:Nat}(t:nZ h0 h sb k n w ra rc bs F)(hr:r<n)(m:dM h0 h' n w bs G)(o:ke h h' (bs r)):nZ h0 h' sb k n w ra rc bs G:=
 ⟨m,t.own.gH (o.get sb t.s1 (fun e=>t.QH r hr e.symm)),t.pQ.gH o.next (fun ad cX hl=>o.get _ hl ((t.EI ad cX).2 r hr)),t.kn,t.s0,Nat.lt_of_lt_of_le t.s1 o.next,t.fr,t.QH,t.EI⟩
theorem nZ.congr{G:Nat->Ext.aQ}(t:nZ h0 h sb k n w ra rc bs F)(e:∀y x,y<n->x<w->F y x=G y x):nZ h0 h sb k n w ra rc bs G:=
 ⟨t.rows.congr e,t.own,t.pQ,t.kn,t.s0,t.s1,t.fr,t.QH,t.EI⟩
end
theorem Ext.qC{w:Nat}{F:Nat->Ext.aQ}{c:Nat}{v:Ext.aQ}:∀y,∀j,j<=c->Ext.bG w F c y v j=v j
 |0,j,_=>rfl
 |y+1,j,hj=>by
  show(if c<Ext.aj w (F y)then(fun j=>Ext.bG w F c y v j-Ext.bG w F c y v (Ext.aj w (F y)) / F y (Ext.aj w (F y))*F y j)else Ext.bG w F c y v) j=v j;split
  ·rename_i q
   show Ext.bG w F c y v j-Ext.bG w F c y v (Ext.aj w (F y)) / F y (Ext.aj w (F y))*F y j=v j;rw[Ext.bz (w:=w) (v:=F y) (j:=j) om,Int.mul_zero,Int.sub_zero];exact Ext.qC y j hj
  ·exact Ext.qC y j hj
theorem Ext.DN{w:Nat}{F:Nat->Ext.aQ}{v:Ext.aQ}(y:Nat):Ext.aj w (Ext.bG w F (Ext.aj w v) y v)=Ext.aj w v:=
 Ext.iz (Ext.mP _ _) (fun j hj=>by rw[Ext.qC y j om];exact Ext.bz hj) (fun q=>by rw[Ext.qC y _ (Nat.le_refl _)];exact Ext.lD q)
theorem dM.perm{h0 h:af}{n w:Nat}{bs:Nat->Nat}{F:Nat->Ext.aQ}(t:dM h0 h n w bs F){σ:Nat->Nat}(hs:∀y,y<n->σ y<n)(hi:∀y z,y<n->z<n->σ y=σ z->y=z):dM h0 h n w (fun y=>bs (σ y)) (fun y=>F (σ y)):=
 ⟨t.ext,fun y hy=>t.row _ (hs y hy),fun y hy=>t.cJ _ (hs y hy),fun y hy=>t.lt _ (hs y hy),fun y z hy hz e=>hi y z hy hz (t.inj _ _ (hs y hy) (hs z hz) e)⟩
theorem BI{a b n:Nat}(ha:a<n)(hb:b<n):∀y,y<n->Hx a b y<n:=fun y hy=>by unfold Hx;split<;>(try split)<;>omega
theorem Pd{a b:Nat}(y z:Nat)(q:Hx a b y=Hx a b z):y=z:=by unfold Hx at q;split at q<;>(try split at q)<;>(try split at q)<;>(try split at q)<;>omega
theorem nZ.swap{h0 h:af}{sb k w rc:Nat}{ra:Option Addr}{bs:Nat->Nat}{F:Nat->Ext.aQ}(t:nZ h0 h sb k (k+1) w ra rc bs F){a:Nat}(ha:a<k) :
  ∃b h2,ra=some ⟨b,0,none⟩/\h.write b (0+a*1) [.slice (some ⟨bs k,0,none⟩) w (aw 1 w)]=some h2/\nZ h0 h2 sb k (k+1) w ra rc (fun y=>bs (Hx a k y)) (fun y=>F (Hx a k y)):=by
 rcases t.pQ with ⟨_,q,_⟩|⟨b,rfl,ec,hb,hl,ho⟩
 ·omega
 have hlen:(kG bs w k).length=k:=bN _ _;obtain⟨h2,w1,w2,w3⟩:=bW.setRow ho gJ (i:=a) (by rw[hlen];exact ha) (⟨some ⟨bs k,0,none⟩,w,aw 1 w⟩:Hd);have RU:=t.EI ⟨b,0,none⟩ rfl;have e:(kG bs w k).set a ⟨some ⟨bs k,0,none⟩,w,aw 1 w⟩=kG (fun y=>bs (Hx a k y)) w k:=by
  unfold kG;rw[v7];refine hO (fun y hy=>?_);by_cases c:y=a
  ·simp only[Hx,if_pos c]
  ·simp only[Hx,if_neg c,if_neg (show ¬y=k by omega)]
 rw[e]at w2;have hp:=t.rows.perm (BI (a:=a) (b:=k) (n:=k+1) om om) (fun y z _ _ q=>Pd y z q);have xe:Ext h0 h2:=w3.ext t.rows.ext (t.fr _ rfl);refine⟨b,h2,rfl,by rw[Nat.zero_add];exact w1,⟨hp.dG xe (by rw[w3.next];exact Nat.le_refl _) (fun y hy=>w3.get _ (fun q=>RU.2 _ (BI (a:=a) (b:=k) (n:=k+1) om om y hy) q.symm)),t.own.gH (w3.get _ (fun q=>RU.1 q.symm)),?_,t.kn,t.s0,by rw[w3.next];exact t.s1,t.fr,fun y hy=>t.QH _ (BI om om y hy),fun ad cX=>?_⟩⟩
 ·refine .inr ⟨b,rfl,ec,by rw[w3.next];exact hb,?_,w2⟩
  rw[gi gJ];unfold kG;rw[bN]
 ·cases cX
  exact⟨RU.1,fun y hy=>RU.2 _ (BI om om y hy)⟩
def qS(a k:Nat):Nat->Nat:=fun y=>if y<a then y else if y=a then k else y-1
theorem v8{a k:Nat}(ha:a<=k):∀y,y<k+1->qS a k y<k+1:=fun y hy=>by unfold qS;split<;>(try split)<;>omega
theorem LX{a k:Nat}(ha:a<=k)(y z:Nat)(hy:y<k+1)(hz:z<k+1)(q:qS a k y=qS a k z):y=z:=by unfold qS at q;split at q<;>(try split at q)<;>(try split at q)<;>(try split at q)<;>omega
theorem Sm{bs:Nat->Nat}{w k a:Nat}(ha:a<=k):(kG bs w k).take a++(⟨some ⟨bs k,0,none⟩,w,aw 1 w⟩:Hd) :: (kG bs w k).drop a=kG (fun y=>bs (qS a k y)) w (k+1):=by
 have hlen:(kG bs w k).length=k:=bN _ _;apply List.ext_getElem?;intro j;have ht:((kG bs w k).take a).length=a:=by rw[List.length_take,hlen,Nat.min_eq_left ha]
 by_cases c:j<k+1
 ·rw[show(kG (fun y=>bs (qS a k y)) w (k+1))[j]?=_ from jK _ c]
  rcases Nat.lt_trichotomy j a with q|q|q
  ·rw[List.getElem?_append_left om,List.getElem?_take,if_pos q]
   unfold kG;rw[jK _ om];simp only[qS,if_pos q]
  ·rw[List.getElem?_append_right om,ht,q,Nat.sub_self]
   simp only[qS,if_neg (show ¬a<a by omega),if_true];rfl
  ·rw[List.getElem?_append_right om,ht,show j-a=(j-a-1)+1 by omega,List.getElem?_cons_succ,List.getElem?_drop,show a+(j-a-1)=j-1 by omega]
   unfold kG;rw[jK _ om];simp only[qS,if_neg (show ¬j<a by omega),if_neg (show ¬j=a by omega)]
 ·rw[List.getElem?_eq_none (by rw[List.length_append,List.length_cons,ht,List.length_drop,hlen];omega),List.getElem?_eq_none (by unfold kG;rw[bN];omega)]
theorem Je{F:Nat->Ext.aQ}{a k:Nat}(ha:a<=k):∀y,y<k+1->F (qS a k y)=Ext.jI F a (F k) y:=fun y hy=>by
 unfold qS Ext.jI;by_cases c:y<a
 ·rw[if_pos c,if_pos c]
 ·rw[if_neg c,if_neg c]
  by_cases c2:y=a
  ·rw[if_pos c2,if_pos c2]
  ·rw[if_neg c2,if_neg c2]
theorem nZ.ins{h0 h h2:af}{sb k w rc:Nat}{ra:Option Addr}{bs:Nat->Nat}{F:Nat->Ext.aQ}(t:nZ h0 h sb k (k+1) w ra rc bs F){a:Nat}(ha:a<=k){b:Nat}(hx:Ext h0 h2)(hn:h.next<=h2.next)(hg:∀i,i<h.next->(∀ad,ra=some ad->ad.block≠i)->h2.m.get i=h.m.get i)(hb:h.next<=b)(vw:b<h2.next)
  (ho:bW h2 b 1 (((kG bs w k).take a++(⟨some ⟨bs k,0,none⟩,w,aw 1 w⟩:Hd) :: (kG bs w k).drop a).flatMap Hd.cells)) :
  ∃h3,h2.write sb 0 [.slice (some ⟨b,0,none⟩) (k+1) (aw 1 (k+1))]=some h3/\nZ h0 h3 sb (k+1) (k+1) w (some ⟨b,0,none⟩) (aw 1 (k+1)) (fun y=>bs (qS a k y)) (fun y=>F (qS a k y)):=by
 rw[Sm ha]at ho;have os:bW h2 sb 1 [.slice ra k rc]:=t.own.gH (hg sb t.s1 (fun ad cX=>(t.EI ad cX).1));obtain⟨h3,w1,w2,w3⟩:=os.write (o:=0) (vs:=[.slice (some ⟨b,0,none⟩) (k+1) (aw 1 (k+1))]) (Nat.le_refl _);have s0:=t.s0;have s1:=t.s1;have hp:=t.rows.perm (v8 ha) (LX ha);have x3:Ext h0 h3:=w3.ext hx s0;refine⟨h3,w1,hp.dG x3 (by rw[w3.next];exact hn) (fun y hy=>?_),w2,.inr ⟨b,rfl,rfl,by rw[w3.next];exact vw,?_,ho.gH (w3.get _ om)⟩,Nat.le_refl _,s0,by rw[w3.next];omega,?_,fun y hy=>t.QH _ (v8 ha y hy),fun ad cX=>?_⟩
 ·have RD:=v8 ha y hy
  rw[w3.get _ (t.QH _ RD),hg _ (t.rows.lt _ RD) (fun ad cX=>(t.EI ad cX).2 _ RD)]
 ·rw[gi gJ];unfold kG;rw[bN]
 ·intro ad cX;cases cX;have:=t.rows.ext.next;show h0.next<=b;omega
 ·cases cX
  exact⟨by show b≠sb;omega,fun y hy=>by have:=t.rows.lt _ (v8 ha y hy);show b≠_;omega⟩
structure rT(F:aZ):Prop where
 ins:∀a h r,jm a h=some r->F 90 a h=some r
 non:∀a h,jm a h=none->F 90 a h=none
theorem yz:rT gI:=⟨fun a h r q=>by unfold gI pK;rw[Nat.beq_refl];simp only[cond_true,q],fun a h q=>by unfold gI pK;rw[Nat.beq_refl];simp only[cond_true,q];rfl⟩
theorem tm(l:List Hd):l.flatMap Hd.cells=l.map (fun d=>.slice d.a d.n d.c):=by
 induction l with
 |nil=>rfl
 |cons d l ih=>rw[List.flatMap_cons,ih];rfl
theorem DO{ra:Option Addr}{k rc vb:Nat}(h:af):jm [.slice ra k rc,.int .i64 (k:Int),.slice (some ⟨vb,0,none⟩) 1 1] h=none:=by
 cases hc:jm [.slice ra k rc,.int .i64 (k:Int),.slice (some ⟨vb,0,none⟩) 1 1] h with
 |none=>rfl
 |some p=>
  exfalso;obtain⟨b,n,i,vb2,cs,v,e,_,_,_,hi,_⟩:=nT (r:=p.1) (h':=p.2) hc;simp only[List.cons.injEq,Value.slice.injEq,Value.int.injEq]at e;obtain⟨⟨_,e1,_⟩,⟨_,e2⟩,_⟩:=e;have:(k:Int)=(i:Int):=e2;omega
theorem Sn(bs:Nat->Nat)(w k:Nat):((kG bs w k).flatMap Hd.cells).all aE=true:=by
 rw[tm,List.all_eq_true];intro v hv;obtain⟨d,hd,rfl⟩:=List.mem_map.1 hv;unfold kG kW at hd;obtain⟨y,_,rfl⟩:=List.mem_map.1 hd;rfl
theorem LY:pz ((cB Tryz.prog AJ F8 10000).call 5 [] kq)=true:=by kernel_rfl
theorem LZ:dx Tryz.prog u9:=C9 (sO mixed Jf DP named 10000).2.2.1 Tryz.func5 (by kernel_rfl) (named 5 _ Tryz.func5) LY uw
theorem DQ(g:FuncId)(args:List Value)(h:af)(hg:own g=false):u9 g args h=rM g args h:=by
 rw[<-vi g args h hg];unfold own at hg;simp only[Bool.or_eq_false_iff]at hg;unfold u9 mR;rw[hg.1.1];rfl
theorem F9(h:af):u9 5 [] h=some (.bool true,h):=rfl
theorem Jg:rT u9:=⟨fun a h r q=>yz.ins a h r q,fun a h q=>yz.non a h q⟩
theorem zjh{P:Prop}{G:af->Prop}(ok:af->Prop)(h1:Bx (∀v,ok v->G v)->P)(h2:∀v,ok v->G v):P:=h1 ⟨h2⟩
theorem zjp{P G:Prop}(C:Prop)(h1:Bx (C->G)->P)(h2:C->G):P:=h1 ⟨h2⟩
open Go.RowKit
variable{F:aZ}{call head arith a0 d0 e0 f0 j0 k0 l0 m0 ofNat n0 place o0 nz p0 rd wr push next r0 t0 u0 w0 x0 z0 d1 f1 l1 u1 a2 d2 f2 fresh az aG wrote bX lt ne jX i2 l2 yn a3 d3 e3 f3 g3 i3:_}(hA:AP F ⟨call,head,arith,a0,d0,e0,f0,j0,k0,l0,m0,ofNat,n0,place,o0,nz,p0,rd,wr,push,next,r0,t0,u0,w0,x0,z0,d1,f1,l1,u1,a2,d2,f2,fresh,az,aG,wrote,bX,lt,ne,jX,i2,l2,yn,a3,d3,e3,f3,g3,i3⟩)
include hA
theorem Jh{b w c:Nat}{v:Ext.aQ}{h:af}(hw:w<=1000)(hr:∀x,x<w->h.aM ⟨b,0+x*1,none⟩ 1=some [.int .i64 (v x)]){W:Int}(eW:W=w){Q:Exit->SS->Prop}
  (fO:∀L,L=(Ext.aj w v:Int)->Ext.aj w v<w->Q .ret ⟨[(2,.int .i64 L),(14,.int .i64 L),(3,.int .i64 L)],0,[],h⟩)
  (cW:∀(kn:Nat) (T:List (Nat×List Value)),Ext.aj w v=w->Q (.exit 0) ⟨[(0,.slice (some ⟨b,0,none⟩) w c)],kn,T,h⟩) :
  ∀(d j:Nat) (J:Int),w-j<=d->j<=w->J=j->(∀i,i<j->v i=0)->
   head 47 2 0 ⟨[(0,.slice (some ⟨b,0,none⟩) w c),(5,.slice (some ⟨b,0,none⟩) w c),(6,.int .i64 W),(7,.int .i64 J)],0,[],h⟩ Q:=by
 refine oG (fun d ih=>?_);intro j J hd hj eJ hz;by_cases cj:j<w
 rotate_left
 ·refine hA.ar Tryz.func47 x47.2 (zc ?_)
  refine br (J<W) (by rw[aA hA]) (fun q=>om) (fun _=>?_)<;>refine zc ?_;exact cW _ _ (Ext.iz (Nat.le_refl _) (fun i hi=>hz i om) (fun q=>om))
 obtain⟨d,rfl⟩:∃k,d=k+1:=⟨d-1,om⟩
 replace ih:=ih d rfl
 obtain⟨x,hx⟩:∃z,z=v j:=⟨_,rfl⟩;have r1:rd h b (place 0 J 1) 1 [.int .i64 x]:=aD hA (by rw[eJ,hx];exact hr j cj);refine hA.ar Tryz.func47 x47.2 (zc ?_);refine br (J<W) (by rw[aA hA]) (fun _=>?_) (fun q=>om)<;>refine zc ?_;refine zq ?_;refine br (x≠0) (by rw[bT hA]) (fun e=>?_) (fun e=>?_)<;>refine zc ?_
 ·have hl:Ext.aj w v=j:=Ext.iz om hz (fun _=>by rw[<-hx];exact e)
  exact fO J om om
 ·rw[aF hA om om]
  refine ih (j+1) (J+1) om om om (fun i hi=>?_);by_cases ei:i=j
  ·rw[ei,<-hx];omega
  ·exact hz i om
theorem qD{b w c:Nat}{v:Ext.aQ}{h:af}(aq:h.low<=h.next)(hw:w<=1000)(hr:∀x,x<w->h.aM ⟨b,0+x*1,none⟩ 1=some [.int .i64 (v x)]){Q:Value->af->Prop}(hQ:∀L:Int,L=Ext.aj w v->Q (.int .i64 L) h) :
  call 47 [.slice (some ⟨b,0,none⟩) w c] h Q:=by
 obtain⟨W,eW⟩:∃z:Int,z=w:=⟨_,rfl⟩;have e1:ofNat w=W:=by rw[eW];exact aI hA w
 refine hA.aN Tryz.func47 x47.2 (hA.alike _ _ _ rfl) aq (zc ?_)
 (refine zq ?_;repeat ((first|rw[e1]);refine zq ?_))
 refine Jh hA hw hr eW (fun L eL _=>?_) (fun kn T e=>?_) w 0 0 om om rfl (fun i hi=>om)
 ·refine zc ?_
  exact hQ L eL
 ·(refine zq ?_;repeat ((first|rw[e1]);refine zq ?_))
  exact hQ W om
theorem qE{a b:Int}(hb:0<b)(h1:-9000000000000000000<=a)(h2:a<=9000000000000000000){h:af}(aq:h.low<=h.next){Q:Value->af->Prop}(hQ:∀q,q=a / b->Q (.int .i64 q) h):call 49 [.int .i64 a,.int .i64 b] h Q:=by
 have q0:=Int.natAbs_tdiv_le_natAbs a b;obtain⟨t,et⟩:∃z,z=a.tdiv b:=⟨_,rfl⟩;obtain⟨r,er⟩:∃z,z=a.tmod b:=⟨_,rfl⟩;have k1:arith .quo .i64 a b=t:=by rw[et,Al hA];exact wrap64 om om
 have k2:arith .rem .i64 a b=r:=by rw[er,DD hA]
 have key:=Int.mul_tdiv_add_tmod a b;rw[<-et,<-er]at key;have zo:r<b:=by
  rw[er];have:=Int.tmod_lt_of_pos a hb;exact this
 have EF:-b<r:=by
  have h:=Int.neg_tmod a b;have:=Int.tmod_lt_of_pos (-a) hb;omega
 refine hA.aN Tryz.func49 x49.2 (hA.alike _ _ _ rfl) aq (zc ?_);refine⟨dy hA om,?_⟩;refine zc ?_;rw[k1];refine zc ?_;refine⟨dy hA om,?_⟩;refine zc ?_;rw[k2];refine zc ?_;have hd:∀q:Int,(q*b<=a/\a<q*b+b)->q=a / b:=fun q ⟨z1,z2⟩=>by
  have y1:=Int.emod_nonneg a (show b≠0 by omega);have y2:=Int.emod_lt_of_pos a hb;have y3:=Int.emod_add_mul_ediv a b;rw[Int.mul_comm]at y3;rcases Int.lt_trichotomy q (a / b)with c|c|c
  ·have:=Int.mul_le_mul_of_nonneg_right (show q+1<=a / b by omega) (Int.le_of_lt hb)
   rw[Int.add_mul]at this;omega
  ·exact c
  ·have:=Int.mul_le_mul_of_nonneg_right (show a / b+1<=q by omega) (Int.le_of_lt hb)
   rw[Int.add_mul]at this;omega
 rw[Int.mul_comm]at key;refine br (r<0) (by rw[aA hA]) (fun c=>?_) (fun c=>?_)<;>refine zc ?_
 ·rw[bP hA om om]
  exact hQ _ (hd _ (by rw[Int.sub_mul];omega))
 ·exact hQ _ (hd _ om)
theorem Ji{h0 hs:af}{n w r y c1 c2:Nat}{bs:Nat->Nat}{F:Nat->Ext.aQ}{t:Int}(hr:r<n)(hy:y<n)(hw:w<=1000)(hb:∀x,x<w->(F r x).natAbs<=9000000000000000000/\(t*F y x).natAbs<=9000000000000000000/\(F r x-t*F y x).natAbs<=9000000000000000000){W:Int}(eW:W=w){Q:Exit->SS->Prop}
  (hQ:∀(h':af) (kn:Nat) (T:List (Nat×List Value)),dM h0 h' n w bs (BF F r w (fun x=>F r x-t*F y x))->ke hs h' (bs r)->Q (.exit 0) ⟨[],kn,T,h'⟩) :
  ∀(d j:Nat) (J:Int) (h:af),w-j<=d->j<=w->J=j->dM h0 h n w bs (BF F r j (fun x=>F r x-t*F y x))->ke hs h (bs r)->
   head 89 1 0 ⟨[(0,.slice (some ⟨bs r,0,none⟩) w c1),(1,.slice (some ⟨bs y,0,none⟩) w c2),(2,.int .i64 t),(8,.int .i64 W),(9,.int .i64 J)],0,[],h⟩ Q:=by
 refine oG (fun d ih=>?_);intro j J h hd hj eJ m st;by_cases cj:j<w
 rotate_left
 ·refine hA.ar Tryz.func89 x89.2 (zc ?_)
  refine br (J<W) (by rw[aA hA]) (fun q=>om) (fun _=>?_)<;>refine zc ?_;obtain rfl:j=w:=om
  exact hQ h _ _ m st
 obtain⟨d,rfl⟩:∃k,d=k+1:=⟨d-1,om⟩
 replace ih:=ih d rfl
 have x9:Ext h (aG h 13):=au hA _ _;have m9:=m.more x9;obtain⟨a,ha⟩:∃z,z=F r j:=⟨_,rfl⟩;obtain⟨b,uP⟩:∃z,z=F y j:=⟨_,rfl⟩;have r1:rd (aG h 13) (bs r) (place 0 J 1) 1 [.int .i64 a]:=aD hA (by
  have:=m9.el hr cj;rw[show BF F r j (fun x=>F r x-t*F y x) r j=a by unfold BF;rw[if_neg om,ha]]at this;rw[eJ];exact this)
 have r2:rd (aG h 13) (bs y) (place 0 J 1) 1 [.int .i64 b]:=aD hA (by
  have:=m9.el hy cj;rw[show BF F r j (fun x=>F r x-t*F y x) y j=b by unfold BF;rw[if_neg om,uP]]at this;rw[eJ];exact this)
 obtain⟨b1,b2,b3⟩:=hb j cj;rw[<-ha]at b1 b3;rw[<-uP]at b2 b3;obtain⟨u,hu⟩:∃z,z=t*b:=⟨_,rfl⟩;rw[<-hu]at b2 b3;have m1:arith .mul .i64 t b=u:=by rw[hu];exact jn hA om om
 obtain⟨g,hg⟩:∃z,z=a-u:=⟨_,rfl⟩;have m2:arith .sub .i64 a u=g:=by rw[hg];exact bP hA om om
 obtain⟨h2,w1,t2,wr2⟩:=m9.set hr cj g;have w1:wr (aG h 13) (bs r) (place 0 J 1) [.int .i64 g] h2:=yk hA (by rw[eJ];exact w1);refine hA.ar Tryz.func89 x89.2 (zc ?_);refine br (J<W) (by rw[aA hA]) (fun _=>?_) (fun q=>om)<;>refine zc ?_
 (refine zq ?_;repeat ((first|rw[m1]|rw[m2]);refine zq ?_))
 rw[aF hA om om];refine ih (j+1) (J+1) h2 om om om (t2.congr (fun z x hz hx=>?_)) ((st.ext x9).wrote wr2);unfold th BF;by_cases c:z=r/\x=j
 ·rw[if_pos c,if_pos ⟨c.1,om⟩,c.2,hg,hu,ha,uP]
 ·rw[if_neg c]
  by_cases c2:z=r/\x<j
  ·rw[if_pos c2,if_pos ⟨c2.1,om⟩]
  ·rw[if_neg c2,if_neg (fun q=>c ⟨q.1,by
    by_cases e:x=j
    ·exact e
    ·exact absurd ⟨q.1,om⟩ c2⟩)]
theorem BJ{h0 h:af}(aq:h.low<=h.next){n w r y c1 c2:Nat}{bs:Nat->Nat}{F:Nat->Ext.aQ}{t:Int}(hr:r<n)(hy:y<n)(hw:w<=1000)(hb:∀x,x<w->(F r x).natAbs<=9000000000000000000/\(t*F y x).natAbs<=9000000000000000000/\(F r x-t*F y x).natAbs<=9000000000000000000)
  (m:dM h0 h n w bs F) {Q:Value->af->Prop} (hQ:∀h',dM h0 h' n w bs (Ext.put F r (fun x=>F r x-t*F y x))->ke h h' (bs r)->Q (.tuple #[]) h') :
  call 89 [.slice (some ⟨bs r,0,none⟩) w c1,.slice (some ⟨bs y,0,none⟩) w c2,.int .i64 t] h Q:=by
 obtain⟨W,eW⟩:∃z:Int,z=w:=⟨_,rfl⟩;have e1:ofNat w=W:=by rw[eW];exact aI hA w
 refine hA.aN Tryz.func89 x89.2 (hA.alike _ _ _ rfl) aq (zc ?_)
 (refine zq ?_;repeat ((first|rw[e1]);refine zq ?_))
 refine Ji hA hr hy hw hb eW (fun h' kn T m2 st=>?_) w 0 0 h om om rfl (m.congr (fun z x hz hx=>by unfold BF;rw[if_neg om])) (.refl _ _);refine zc ?_;refine hQ h' (m2.congr (fun z x hz hx=>?_)) st;unfold BF Ext.put;by_cases c:z=r
 ·rw[if_pos ⟨c,hx⟩,if_pos c]
 ·rw[if_neg (fun q=>c q.1),if_neg c]
theorem Ga{h0 hs:af}(aq:h0.low<=h0.next){sb k n w rc r c:Nat}{ra:Option Addr}{bs:Nat->Nat}{F:Nat->Ext.aQ}(hk:k<=10)(hr:r<n)(hw:w<=1000)(ec:c=Ext.aj w (F r))(hp:∀y,y<k->c<Ext.aj w (F y)->Ext.aj w (F y)<w/\0<F y (Ext.aj w (F y)))(fz:Ext.lJ w F c k (F r)){C K:Int}(eC:C=c)(eK:K=k){cw:Nat}(pR:cw=aw 1 w){Q:Exit->SS->Prop}
  (hQ:∀(h':af) (kn:Nat) (T:List (Nat×List Value)),nZ h0 h' sb k n w ra rc bs (Ext.put F r (Ext.bG w F c k (F r)))->ke hs h' (bs r)->Q (.exit 0) ⟨[],kn,T,h'⟩) :
  ∀(d j:Nat) (J:Int) (h:af),k-j<=d->j<=k->J=j->nZ h0 h sb k n w ra rc bs (Ext.put F r (Ext.bG w F c j (F r)))->ke hs h (bs r)->
   head 88 2 0 ⟨[(1,.slice (some ⟨bs r,0,none⟩) w cw),(4,.int .i64 C),(13,.slice ra k rc),(14,.int .i64 K),(15,.int .i64 J)],0,[],h⟩ Q:=by
 refine oG (fun d ih=>?_);intro j J h hd hj eJ m st;by_cases cj:j<k
 rotate_left
 ·refine hA.ar Tryz.func88 x88.2 (zc ?_)
  refine br (J<K) (by rw[aA hA]) (fun q=>om) (fun _=>?_)<;>refine zc ?_;obtain rfl:j=k:=om
  exact hQ h _ _ m st
 obtain⟨d,rfl⟩:∃k,d=k+1:=⟨d-1,om⟩
 replace ih:=ih d rfl
 obtain⟨b,rfl,hb,q1⟩:=m.head cj;rw[<-pR]at q1;have r1:rd h b (place 0 J 1) 1 [.slice (some ⟨bs j,0,none⟩) w cw]:=aD hA (by rw[eJ];exact q1);have y8:h.low<=h.next:=m.rows.ext.aC aq;refine hA.ar Tryz.func88 x88.2 (zc ?_);refine br (J<K) (by rw[aA hA]) (fun _=>?_) (fun q=>om)<;>refine zc ?_;refine zq ?_;have YZ:j<n:=by have:=m.kn;omega
 refine qD hA y8 hw (fun x hx=>m.rows.el YZ hx) (fun L eL=>?_);refine⟨L,rfl,?_⟩;refine zq ?_;obtain⟨G,eG⟩:∃z,z=Ext.put F r (Ext.bG w F c j (F r)):=⟨_,rfl⟩;have TJ:G r=Ext.bG w F c j (F r):=by rw[eG];exact Ext.gf _
 have Vm:∀y,y≠r->G y=F y:=fun y hy=>by rw[eG];exact Ext.fN _ hy
 rw[<-eG]at m eL;refine br (C<L) (by rw[dc hA]) (fun cq=>?_) (fun cq=>?_)<;>refine zc ?_
 rotate_left
 ·rw[aF hA om om]
  refine ih (j+1) (J+1) h om om om ?_ st;have e:Ext.bG w F c (j+1) (F r)=Ext.bG w F c j (F r):=by
   show(if c<Ext.aj w (F j)then _ else _)=_;rw[if_neg];by_cases ej:j=r
   ·rw[ej,<-ec];omega
   ·rw[Vm j ej]at eL;omega
  rw[e,<-eG];exact m
 have Xh:j≠r:=fun e=>by
  rw[e,TJ,ec,Ext.DN]at eL;omega
 rw[Vm j Xh]at eL;obtain⟨l,el⟩:∃z,z=Ext.aj w (F j):=⟨_,rfl⟩;rw[<-el]at eL;obtain⟨p1,p2⟩:=hp j cj om;rw[<-el]at p1 p2;have x9:Ext h (aG h 12):=au hA _ _;have m9:=m.more x9;obtain⟨a,ha⟩:∃z,z=G r l:=⟨_,rfl⟩;obtain⟨b',uP⟩:∃z,z=F j l:=⟨_,rfl⟩;rw[<-uP]at p2;have r2:rd (aG h 12) (bs r) (place 0 L 1) 1 [.int .i64 a]:=aD hA (by rw[eL,ha];exact m9.rows.el hr p1);have r3:rd (aG h 12) (bs j) (place 0 L 1) 1 [.int .i64 b']:=aD hA (by
  rw[eL,uP,<-Vm j Xh];exact m9.rows.el YZ p1)
 refine zq ?_;have ho:=fz j cj om;refine qE hA p2 (by have:=(ho l).1;rw[ha,TJ];omega) (by have:=(ho l).1;rw[ha,TJ];omega) (aB hA _) (fun q eq=>⟨q,rfl,?_⟩);refine zq ?_;obtain⟨X,hX⟩:∃z,z=az (aG h 12) (fresh (aG h 12)):=⟨_,rfl⟩;have xX:Ext h X:=by rw[hX];exact cI hA y8 x9 (.refl _)
 rw[<-hX];have eq2:q=Ext.bG w F c j (F r) l / F j l:=by rw[eq,ha,TJ,uP]
 refine BJ hA (aB hA X) hr YZ hw (fun x hx=>?_) (m.rows.more (xX.trans (hH hA X))) (fun h' m' Xi=>?_)
 ·have:=ho x
  rw[TJ,Vm j Xh,eq2];rw[show Ext.bG w F c (j+1) (F r) x=Ext.bG w F c j (F r) x-Ext.bG w F c j (F r) l / F j l*F j x by
   show(if c<Ext.aj w (F j)then(fun x=>Ext.bG w F c j (F r) x-Ext.bG w F c j (F r) (Ext.aj w (F j)) / F j (Ext.aj w (F j))*F j x)else _) x=_;rw[if_pos om,el]]at this
  rw[<-el]at this;exact this
 refine zq ?_;rw[aF hA om om];have TK:=(st.ext (xX.trans (hH hA X))).trans Xi;have st3:ke hs (az X h') (bs r):=by rw[fg hA];exact⟨TK.next,TK.get⟩
 have st4:ke h (az X h') (bs r):=by
  have:=((ke.refl h (bs r)).ext (xX.trans (hH hA X))).trans Xi;rw[fg hA];exact⟨this.next,this.get⟩
 have m2:dM h0 (az X h') n w bs (Ext.put G r (fun x=>G r x-q*G j x)):=by
  rw[fg hA];exact⟨Ext.Bu m'.ext (m.rows.ext.trans xX) aq,m'.row,m'.cJ,m'.lt,m'.inj⟩
 refine ih (j+1) (J+1) _ om om om ?_ st3;have e:Ext.put G r (fun x=>G r x-q*G j x)=Ext.put F r (Ext.bG w F c (j+1) (F r)):=by
  rw[eG,Ext.jk,<-eG,TJ,Vm j Xh,eq2]
  congr 1
  show _=(if c<Ext.aj w (F j)then(fun x=>Ext.bG w F c j (F r) x-Ext.bG w F c j (F r) (Ext.aj w (F j)) / F j (Ext.aj w (F j))*F j x)else _);rw[if_pos om,el]
 rw[<-e];exact m.put hr m2 st4
theorem tn{h0 h:af}(fw:h0.low<=h0.next){sb k n w rc r:Nat}{ra:Option Addr}{bs:Nat->Nat}{F:Nat->Ext.aQ}(hk:k<=10)(hr:r<n)(hw:w<=1000)(hp:∀y,y<k->Ext.aj w (F r)<Ext.aj w (F y)->Ext.aj w (F y)<w/\0<F y (Ext.aj w (F y)))(fz:Ext.lJ w F (Ext.aj w (F r)) k (F r))(m:nZ h0 h sb k n w ra rc bs F){cw:Nat}(pR:cw=aw 1 w){Q:Value->af->Prop}
  (hQ:∀h',nZ h0 h' sb k n w ra rc bs (Ext.put F r (Ext.bG w F (Ext.aj w (F r)) k (F r)))->ke h h' (bs r)->Q (.tuple #[]) h') :
  call 88 [.pointer (some ⟨sb,0,none⟩),.slice (some ⟨bs r,0,none⟩) w cw] h Q:=by
 obtain⟨K,eK⟩:∃z:Int,z=k:=⟨_,rfl⟩;have e1:ofNat k=K:=by rw[eK];exact aI hA k
 have aq:h.low<=h.next:=m.rows.ext.aC fw;have r1:rd h sb (bX 0 0) 1 [.slice ra k rc]:=by rw[dj hA];exact iS hA (m.own.aM (o:=0) (n:=1) (Nat.le_refl _))
 refine hA.aN Tryz.func88 x88.2 (hA.alike _ _ _ rfl) aq (zc ?_);refine zq ?_;refine qD hA aq hw (fun x hx=>m.rows.el hr hx) (fun L eL=>?_);refine⟨L,rfl,?_⟩
 (refine zq ?_;repeat ((first|rw[e1]);refine zq ?_))
 refine Ga hA (sb:=sb) fw hk hr hw rfl hp fz eL eK pR (fun h' kn T m2 st=>?_) k 0 0 h om om rfl ?_ (.refl _ _)
 ·refine zc ?_
  exact hQ h' m2 st
 ·have:Ext.put F r (Ext.bG w F (Ext.aj w (F r)) 0 (F r))=F:=Ext.jj
  rw[this];exact m
theorem Jj{h0 h:af}(fw:h0.low<=h0.next){sb k n w rc c r:Nat}{ra:Option Addr}{bs:Nat->Nat}{F:Nat->Ext.aQ}(hk:k<=10)(hr:r<n)(hw:w<=1000)(m:nZ h0 h sb k n w ra rc bs F){C:Int}(eC:C=c){cw:Nat}(pR:cw=aw 1 w){Q:Exit->SS->Prop}
  (hQ:∀(kn:Nat) (T:List (Nat×List Value)) (a:Nat) (I:Int),I=a->a<=k->(∀y,y<a->Ext.aj w (F y)<c)->(a<k->c<=Ext.aj w (F a))->Q (.exit 2) ⟨[(0,.pointer (some ⟨sb,0,none⟩)),(1,.slice (some ⟨bs r,0,none⟩) w cw),(4,.func (.func 88) #[.pointer (some ⟨sb,0,none⟩)] #[]),(5,.int .i64 C),(6,.int .i64 I)],kn,T,h⟩) :
  ∀(d j:Nat) (J:Int),k-j<=d->j<=k->J=j->(∀y,y<j->Ext.aj w (F y)<c)->
   head 73 5 0 ⟨[(0,.pointer (some ⟨sb,0,none⟩)),(1,.slice (some ⟨bs r,0,none⟩) w cw),(4,.func (.func 88) #[.pointer (some ⟨sb,0,none⟩)] #[]),(5,.int .i64 C),(6,.int .i64 J)],0,[],h⟩ Q:=by
 intro d;have aq:h.low<=h.next:=m.rows.ext.aC fw;obtain⟨K,eK⟩:∃z:Int,z=k:=⟨_,rfl⟩;have e1:ofNat k=K:=by rw[eK];exact aI hA k
 have r1:rd h sb (bX 0 0) 1 [.slice ra k rc]:=by rw[dj hA];exact iS hA (m.own.aM (o:=0) (n:=1) (Nat.le_refl _))
 have hkn:=m.kn
 induction d with
 |zero=>
  intro j J hd hj eJ hz;refine hA.ar Tryz.func73 uv (zc ?_)
  (refine zq ?_;repeat ((first|rw[e1]);refine zq ?_))
  refine br (J<K) (by rw[aA hA]) (fun q=>om) (fun _=>?_)<;>refine zc ?_;refine zq ?_;exact hQ _ _ j J eJ hj hz (fun q=>om)
 |succ d ih=>
 intro j J hd hj eJ hz;refine hA.ar Tryz.func73 uv (zc ?_)
 (refine zq ?_;repeat ((first|rw[e1]);refine zq ?_))
 refine br (J<K) (by rw[aA hA]) (fun cj=>?_) (fun cj=>?_)<;>refine zc ?_
 rotate_left
 ·refine zq ?_
  exact hQ _ _ j J eJ hj hz (fun q=>om)
 obtain⟨b,rfl,hb,q1⟩:=m.head (y:=j) om;rw[<-pR]at q1;have r2:rd h b (place 0 J 1) 1 [.slice (some ⟨bs j,0,none⟩) w cw]:=aD hA (by rw[eJ];exact q1);refine zq ?_;refine qD hA aq hw (fun x hx=>m.rows.el (show j<n by omega) hx) (fun L eL=>⟨L,rfl,?_⟩);refine zq ?_;refine br (L<C) (by rw[aA hA]) (fun cl=>?_) (fun cl=>?_)<;>refine zc ?_
 ·refine zq ?_
  rw[aF hA om om];exact ih (j+1) (J+1) om om om (fun y hy=>by
   by_cases e:y=j
   ·rw[e];omega
   ·exact hz y om)
 ·refine zq ?_
  exact hQ _ _ j J eJ hj hz (fun _=>om)
theorem L9(hI:rT F){h0 h:af}(fw:h0.low<=h0.next){k w rc vb a:Nat}{ra:Option Addr}{bs:Nat->Nat}(hx:Ext h0 h)(hk:k<=10)(hp:oD h 1 ra k rc ((kG bs w k).flatMap Hd.cells))(fr:ky h0.next ra)(ha:a<=k){I:Int}(eI:I=a)(hv:bW h vb 1 (Hd.cells ⟨some ⟨bs k,0,none⟩,w,aw 1 w⟩))(TL:vb<h.next)(dX:∀ad,ra=some ad->ad.block≠vb){Q:Value->af->Prop}
  (hQ:∀b h2,Ext h0 h2->h.next<=h2.next->(∀i,i<h.next->(∀ad,ra=some ad->ad.block≠i)->h2.m.get i=h.m.get i)->h.next<=b->b<h2.next->
   bW h2 b 1 (((kG bs w k).take a++(⟨some ⟨bs k,0,none⟩,w,aw 1 w⟩:Hd) :: (kG bs w k).drop a).flatMap Hd.cells)->Q (.slice (some ⟨b,0,none⟩) (k+1) (aw 1 (k+1))) h2) :
  call 90 [.slice ra k rc,.int .i64 I,.slice (some ⟨vb,0,none⟩) 1 1] h Q:=by
 have aq:h.low<=h.next:=hx.aC fw;have hlen:(kG bs w k).length=k:=bN _ _;by_cases c:a<k
 ·rcases hp with ⟨_,q,_⟩|⟨b0,rfl,ec,hb,hl,ho⟩
  ·omega
  have mL:h0.next<=b0:=fr _ rfl;have e:(((kG bs w k).take a++(⟨some ⟨bs k,0,none⟩,w,aw 1 w⟩:Hd) :: (kG bs w k).drop a).flatMap Hd.cells)=((kG bs w k).flatMap Hd.cells).take a++(.slice (some ⟨bs k,0,none⟩) w (aw 1 w)) :: ((kG bs w k).flatMap Hd.cells).drop a:=by
   rw[tm,tm,List.map_append,List.map_cons,List.map_take,List.map_drop]
  have key:jm [.slice (some ⟨b0,0,none⟩) k rc,.int .i64 I,.slice (some ⟨vb,0,none⟩) 1 1] h=some (.slice (some ⟨h.next,0,none⟩) (k+1) (aw 1 (k+1)),(h.kill b0).push 1 (((kG bs w k).flatMap Hd.cells).take a++(.slice (some ⟨bs k,0,none⟩) w (aw 1 w)) :: ((kG bs w k).flatMap Hd.cells).drop a)):=by
   unfold jm;have q1:h.m.get b0=some (.live true 1 ((kG bs w k).flatMap Hd.cells)):=ho;have q2:h.m.get vb=some (.live true 1 [.slice (some ⟨bs k,0,none⟩) w (aw 1 w)]):=hv;simp only[q1,q2];have z1:Nat.beq rc (aw 1 k)=true:=by rw[ec];exact Nat.beq_refl _
   have z2:Nat.beq ((kG bs w k).flatMap Hd.cells).length k=true:=by rw[hl,Nat.mul_one];exact Nat.beq_refl _
   have z3:decide (0<=I/\I<k)=true:=by simp;omega
   have z4:((kG bs w k).flatMap Hd.cells).all zB=true:=by
    rw[tm,List.all_eq_true];intro v hv;obtain⟨d,hd,rfl⟩:=List.mem_map.1 hv;unfold kG kW at hd;obtain⟨y,_,rfl⟩:=List.mem_map.1 hd;rfl
   have z5:Nat.beq b0 vb=false:=Jk (dX _ rfl);have z6:Nat.ble k 1000=true:=bm om;simp only[z1,z2,z3,z4,z5,z6,zB,Bool.and_self,Bool.not_false,cond_true];rw[show I.toNat=a by omega]
  refine hA.K9 (hI.ins _ _ _ key) ?_;have x1:Ext h0 ((h.kill b0).push 1 (((kG bs w k).flatMap Hd.cells).take a++(.slice (some ⟨bs k,0,none⟩) w (aw 1 w)) :: ((kG bs w k).flatMap Hd.cells).drop a)):=(hx.kill mL).trans (.push _ _ _);refine hQ h.next _ x1 (Nat.le_succ _) (fun i hi Y2=>?_) (Nat.le_refl _) (Nat.lt_succ_self _) ?_
  ·show((h.m.set b0 .dead).set h.next _).get i=_
   rw[cQ.aS _ _ om,cQ.aS _ _ (Y2 _ rfl)]
  ·rw[e];exact bW.push (h.kill b0) 1 _
 ·obtain rfl:a=k:=om
  have Vn:F 90 [.slice ra a rc,.int .i64 I,.slice (some ⟨vb,0,none⟩) 1 1] h=none:=by rw[eI];exact hI.non _ _ (DO h)
  have e1:ofNat 1=1:=aI hA 1;have e2:ofNat a=I:=by rw[eI];exact aI hA a
  have mJ:rc=aw 1 a\/(a=0/\ra=none/\rc=0):=by
   rcases hp with ⟨q1,q2,q3,_⟩|⟨b0,_,ec,_⟩
   ·exact .inr ⟨q2,q1,q3⟩
   ·exact .inl ec
  refine hA.aN Tryz.func90 x90.2 Vn aq (zc ?_);rw[eI];refine Ma hA Ar om mJ hp.cells (Nat.le_refl a) (fun a' c' _=>?_);rw[<-eI]
  (refine zq ?_;repeat ((first|rw[e1]);refine zq ?_))
  refine br ((1:Int)=0) (by rw[de hA]) (fun q=>om) (fun _=>?_)<;>refine zc ?_
  (refine zq ?_;repeat ((first|rw[e2]);refine zq ?_))
  refine br (I=I) (by rw[de hA]) (fun _=>?_) (fun q=>absurd rfl q)<;>refine zc ?_;refine zq ?_;rw[vd hA];have hs:Cells h (some ⟨vb,0,none⟩) 1 1 (Hd.cells ⟨some ⟨bs a,0,none⟩,w,aw 1 w⟩):=⟨rfl,TL,hv.aM (o:=0) (n:=1) (Nat.le_refl _)⟩;obtain⟨a',c',h',q1,q2,q3,q4,q5,q6⟩:=u7 Ar Ar.ye (c2:=1) hp hs (Sn bs w a) rfl om om;obtain⟨x1,_⟩:=q3 h0 hx fr;rcases q2 with ⟨_,w',_⟩|⟨b',rfl,rfl,w1,w2,w3⟩
  ·omega
  refine⟨_,_,_,h',q1,?_⟩;have hq:=hQ b' h' x1 q4 (fun i hi Y2=>q6 i hi Y2) (q5 _ rfl) w1 (by
   rw[List.take_of_length_le om,List.drop_eq_nil_of_le om,List.flatMap_append];simpa using w3)
  generalize aw 1 (a+1)=cc at *;generalize a+1=a1 at *;refine zq ?_;exact hq
set_option maxHeartbeats 1000000 in
theorem Mb(hI:rT F){h0:af}(fw:h0.low<=h0.next){sb k w cw:Nat}{F0:Nat->Ext.aQ}(hw:w<=1000)(pR:cw=aw 1 w)(hM:∀i,i<k+1->∀j,(F0 i j).natAbs<=9){Q:Exit->SS->Prop}
  (hQ:∀(h':af) (kn:Nat) (T:List (Nat×List Value)) ra rc bs A,nZ h0 h' sb (k+1) (k+1) w ra rc bs A->Ext.rR w (k+1) (k+1) A F0->Q (.exit 0) ⟨[(0,.pointer (some ⟨sb,0,none⟩)),(4,.func (.func 88) #[.pointer (some ⟨sb,0,none⟩)] #[])],kn,T,h'⟩) :
  ∀(D M:Nat) (h:af) (ra:Option Addr) (rc:Nat) (bs:Nat->Nat) (A:Nat->Ext.aQ),nZ h0 h sb k (k+1) w ra rc bs A->Ext.EH w k A F0 D M->
   head 73 1 0 ⟨[(0,.pointer (some ⟨sb,0,none⟩)),(1,.slice (some ⟨bs k,0,none⟩) w cw),(4,.func (.func 88) #[.pointer (some ⟨sb,0,none⟩)] #[])],0,[],h⟩ Q:=by
 intro D
 induction D using Nat.strongRecOn with
 |_ D ihD=>
 intro M
 induction M using Nat.strongRecOn with
 |_ M ihM=>
 intro h ra rc bs A m r;have k3:=r.base.k3;have aq:h.low<=h.next:=m.rows.ext.aC fw;obtain⟨lo1,b1⟩:=r.low;have J3:=r.base.lead;refine hA.ar Tryz.func73 uv (zc ?_);refine tn hA (sb:=sb) (r:=k) fw om om hw (fun y hy _=>⟨r.base.gv.lt y hy,r.base.gv.pos y hy⟩) lo1 m pR (fun h1 m1 _=>?_);have Hy:h1.low<=h1.next:=m1.rows.ext.aC fw;obtain⟨u,eu⟩:∃z,z=Ext.bG w A (Ext.aj w (A k)) k (A k):=⟨_,rfl⟩;rw[<-eu]at m1 b1;obtain⟨A1,eA⟩:∃z,z=Ext.put A k u:=⟨_,rfl⟩;have QI:A1 k=u:=by rw[eA];exact Ext.gf u
 have So:∀y,y<k->A1 y=A y:=fun y hy=>by rw[eA];exact Ext.fN u om
 rw[<-eA]at m1;have Vg:Ext.aj w u=Ext.aj w (A k):=by rw[eu];exact Ext.DN k
 refine zq ?_;refine qD hA Hy hw (fun x hx=>m1.rows.el (show k<k+1 by omega) hx) (fun C eC=>⟨C,rfl,?_⟩);rw[QI,Vg]at eC;obtain⟨W,eW⟩:∃z:Int,z=w:=⟨_,rfl⟩;have e1:ofNat w=W:=by rw[eW];exact aI hA w
 (refine zq ?_;repeat ((first|rw[e1]);refine zq ?_))
 refine br (C=W) (by rw[de hA]) (fun q=>om) (fun _=>?_)<;>refine zc ?_;refine zq ?_;refine Jj hA (sb:=sb) (r:=k) fw om om hw m1 eC pR (fun kn T a I eI ak lo hi=>?_) k 0 0 om om rfl (fun y hy=>om);obtain⟨K,eK⟩:∃z:Int,z=k:=⟨_,rfl⟩;have e2:ofNat k=K:=by rw[eK];exact aI hA k
 have r1:rd h1 sb (bX 0 0) 1 [.slice ra k rc]:=by rw[dj hA];exact iS hA (m1.own.aM (o:=0) (n:=1) (Nat.le_refl _))
 (refine zq ?_;repeat ((first|rw[e2]);refine zq ?_))
 apply zjp (∀z,a<=z->z<k->Ext.aj w (A k)<Ext.aj w (A z))
 ·intro bx
  refine br (I=K) (by rw[de hA]) (fun ca=>?_) (fun ca=>?_)<;>refine zc ?_
  ·refine zq ?_
   exact bx.o (fun z h1 h2=>om)
  have ha:a<k:=om
  obtain⟨b,rfl,hb,q1⟩:=m1.head ha;rw[<-pR]at q1;have r2:rd h1 b (place 0 I 1) 1 [.slice (some ⟨bs a,0,none⟩) w cw]:=aD hA (by rw[eI];exact q1);refine zq ?_;refine qD hA Hy hw (fun x hx=>m1.rows.el (show a<k+1 by omega) hx) (fun L eL=>⟨L,rfl,?_⟩);rw[So a ha]at eL;refine zq ?_;refine br (C<L) (by rw[dc hA]) (fun cl=>?_) (fun cl=>?_)<;>refine zc ?_
  ·refine zq ?_
   exact bx.o (fun z h1 h2=>by
    by_cases e:z=a
    ·rw[e];omega
    ·have:=r.base.gv.inc a z om h2;omega)
  ·have he:Ext.aj w (A a)=Ext.aj w (A k):=by have:=hi ha;rw[So a ha]at this;omega
   obtain⟨q,eq⟩:∃z,z=u (Ext.aj w (A k)) / A a (Ext.aj w (A k)):=⟨_,rfl⟩;obtain⟨u2,eu2⟩:∃z,z=fun j=>u j-q*A a j:=⟨_,rfl⟩
   obtain⟨sr,sn⟩:=r.step ha he eu eq eu2;obtain⟨x,ex⟩:∃z,z=u (Ext.aj w (A k)):=⟨_,rfl⟩;obtain⟨y,ey⟩:∃z,z=A a (Ext.aj w (A k)):=⟨_,rfl⟩;have hy:0<y:=by rw[ey,<-he];exact r.base.gv.pos a ha
   have x9:Ext h1 (aG h1 24):=au hA _ _;have m9:=m1.more x9;have s1:rd (aG h1 24) sb (bX 0 0) 1 [.slice (some ⟨b,0,none⟩) k rc]:=by rw[dj hA];exact iS hA (m9.own.aM (o:=0) (n:=1) (Nat.le_refl _))
   have s2:rd (aG h1 24) b (place 0 I 1) 1 [.slice (some ⟨bs a,0,none⟩) w cw]:=aD hA (by
    rw[eI];obtain⟨b',e',_,q2⟩:=m9.head ha;cases e';rw[<-pR]at q2;exact q2)
   have s3:rd (aG h1 24) (bs k) (place 0 C 1) 1 [.int .i64 x]:=aD hA (by
    rw[eC,ex,<-QI];exact m9.rows.el (show k<k+1 by omega) J3)
   have s4:rd (aG h1 24) (bs a) (place 0 C 1) 1 [.int .i64 y]:=aD hA (by
    rw[eC,ey,<-So a ha];exact m9.rows.el (show a<k+1 by omega) J3)
   refine zq ?_;have hx:=(sr (Ext.aj w (A k))).1;rw[<-ex]at hx;refine qE hA hy om om (aB hA _) (fun q' Vo=>⟨q',rfl,?_⟩);obtain rfl:q'=q:=by rw[Vo,eq,ex,ey]
   refine zq ?_;obtain⟨X,hX⟩:∃z,z=az (aG h1 24) (fresh (aG h1 24)):=⟨_,rfl⟩;have xX:Ext h1 X:=by rw[hX];exact cI hA Hy x9 (.refl _)
   rw[<-hX];refine BJ hA (aB hA X) (show k<k+1 by omega) (show a<k+1 by omega) hw (fun j hj=>by rw[QI,So a ha];exact sr j) (m1.rows.more (xX.trans (hH hA X))) (fun h' m' Xi=>?_);rw[QI,So a ha,<-eu2,eA,Ext.jk]at m';obtain⟨h2,Hz⟩:∃z,z=az X h':=⟨_,rfl⟩;have m2:dM h0 h2 (k+1) w bs (Ext.put A k u2):=by
    rw[Hz,fg hA];exact⟨Ext.Bu m'.ext (m1.rows.ext.trans xX) fw,m'.row,m'.cJ,m'.lt,m'.inj⟩
   have TK:ke h1 h2 (bs k):=by
    have:=((ke.refl h1 (bs k)).ext (xX.trans (hH hA X))).trans Xi;rw[Hz,fg hA];exact⟨this.next,this.get⟩
   have M2:=m1.put (show k<k+1 by omega) m2 TK;have aad:h2.low<=h2.next:=M2.rows.ext.aC fw;obtain⟨x2,NW⟩:∃z,z=u2 (Ext.aj w (A k)):=⟨_,rfl⟩;have t1:rd h2 (bs k) (place 0 C 1) 1 [.int .i64 x2]:=aD hA (by
    have:=m2.el (show k<k+1 by omega) J3;rw[Ext.gf]at this;rw[eC,NW];exact this)
   have fp:∀b0,b0<h1.next->jX false (wrote (aG h1 24) (fresh (aG h1 24))) false b0 (bX (next h1) 24):=fun b0 mL=>Sj hA (by rw[jQ hA,nW hA]) (by rw[dj hA,cM hA];omega)
   refine zq ?_;refine⟨fp sb m1.s1,fp b hb,?_⟩;refine zc ?_;rw[<-Hz];refine zq ?_;refine br (x2≠0) (by rw[bT hA]) (fun c0=>?_) (fun c0=>?_)<;>refine zc ?_
   rotate_left
   ·rcases sn with ⟨_,D',M',UP,rn⟩|⟨n1,_⟩
    ·exact ihD D' UP M' h2 _ rc bs _ M2 rn
    ·exfalso;rw[he,<-NW]at n1;exact c0 n1
   rcases sn with ⟨n1,_⟩|⟨n1,n2,n3,n4,M',zY,rn⟩
   ·exfalso;rw[he,<-NW]at n1;exact c0 n1
   have p2k:Ext.put A k u2 k=u2:=Ext.gf u2;have Y3:∀z,z<k->Ext.put A k u2 z=A z:=fun z hz=>Ext.fN u2 om
   refine tn hA (sb:=sb) (r:=k) fw om om hw (fun z hz _=>by rw[Y3 z hz];exact⟨r.base.gv.lt z hz,r.base.gv.pos z hz⟩) (by rw[p2k,n2];exact n3.congr Y3) M2 pR (fun h3 m3 _=>?_);rw[p2k,n2,Ext.lK Y3 k (Nat.le_refl _),Ext.jk]at m3;obtain⟨u3,eu3⟩:∃z,z=Ext.bG w A (Ext.aj w (A a)) k u2:=⟨_,rfl⟩;rw[<-eu3]at m3 rn;have aae:h3.low<=h3.next:=m3.rows.ext.aC fw;have x16:Ext h3 (aG h3 16):=au hA _ _;have Y4:=m3.more x16;have y1:rd (aG h3 16) sb (bX 0 0) 1 [.slice (some ⟨b,0,none⟩) k rc]:=by rw[dj hA];exact iS hA (Y4.own.aM (o:=0) (n:=1) (Nat.le_refl _))
   have y2:rd (aG h3 16) b (place 0 I 1) 1 [.slice (some ⟨bs a,0,none⟩) w cw]:=aD hA (by
    rw[eI];obtain⟨b',e',_,q2⟩:=Y4.head ha;cases e';rw[<-pR]at q2;exact q2)
   obtain⟨b4,h4,e4,w4,m4⟩:=Y4.swap ha;cases e4;have y3:wr (aG h3 16) b (place 0 I 1) [.slice (some ⟨bs k,0,none⟩) w cw] h4:=yk hA (by rw[eI,pR];exact w4);refine zq ?_;have fin:=ihM M' zY h4 _ rc (fun y=>bs (Hx a k y)) (Ext.put (Ext.put A a u3) k (A a)) (m4.congr (fun y x hy hx=>?_)) rn
   ·rw[show Hx a k k=a by unfold Hx;rw[if_neg om,if_pos rfl]]at fin
    exact fin
   ·unfold Hx
    by_cases c1:y=a
    ·rw[if_pos c1,c1,Ext.gf,Ext.fN _ om,Ext.gf]
    ·rw[if_neg c1]
     by_cases c2:y=k
     ·rw[if_pos c2,c2,Ext.gf,Ext.fN _ om]
     ·rw[if_neg c2,Ext.fN _ c2,Ext.fN _ c2,Ext.fN _ c1]
 ·intro zZ
  have Xf:∀y,y<a->Ext.aj w (A y)<Ext.aj w (A k):=fun y hy=>by have:=lo y hy;rw[So y om]at this;exact this
  obtain⟨o1,o2,o3,o4⟩:=r.own hM ak Xf zZ eu;obtain⟨x,ex⟩:∃z,z=u (Ext.aj w (A k)):=⟨_,rfl⟩;have r3:rd h1 (bs k) (place 0 C 1) 1 [.int .i64 x]:=aD hA (by
   rw[eC,ex,<-QI];exact m1.rows.el (show k<k+1 by omega) J3)
  have hu0:u (Ext.aj w (A k))≠0:=by
   have:=Ext.lD (w:=w) (v:=u) (by rw[Vg];exact J3);rw[Vg]at this;exact this
  refine zq ?_;apply zjh (fun hh=>∃A',nZ h0 hh sb k (k+1) w ra rc bs A'/\(∀z,z<k->A' z=A z)/\Ext.rR w (k+1) (k+1) (Ext.jI A a (A' k)) F0)
  ·intro bx
   refine br (x<0) (by rw[aA hA]) (fun c0=>?_) (fun c0=>?_)<;>refine zc ?_
   rotate_left
   ·refine zq ?_
    obtain⟨g,eg⟩:∃g,g=h1:=⟨_,rfl⟩;rw[<-eg];exact bx.o g ⟨A1,by rw[eg];exact m1,So,by rw[QI];exact o3 om⟩
   obtain⟨v,ev⟩:∃z,z=fun j=>u j-2*u j:=⟨_,rfl⟩
   obtain⟨v1,v2,v3⟩:=o4 om v ev;refine zq ?_;refine BJ hA Hy (show k<k+1 by omega) (show k<k+1 by omega) hw (fun j hj=>by rw[QI];have:=o2 j;omega) m1.rows (fun h2 m2 TK=>?_);rw[QI,<-ev,eA,Ext.jk]at m2;have M2:=m1.put (show k<k+1 by omega) m2 TK;have pk:Ext.put A k v k=v:=Ext.gf v;have pn:∀z,z<k->Ext.put A k v z=A z:=fun z hz=>Ext.fN v om
   refine zq ?_;refine tn hA (sb:=sb) (r:=k) fw om om hw (fun z hz _=>by rw[pn z hz];exact⟨r.base.gv.lt z hz,r.base.gv.pos z hz⟩) (by rw[pk,v1];exact v2.congr pn) M2 pR (fun h3 m3 _=>?_);rw[pk,v1,Ext.lK pn k (Nat.le_refl _),Ext.jk]at m3;have r5:rd h3 sb (bX 0 0) 1 [.slice ra k rc]:=by rw[dj hA];exact iS hA (m3.own.aM (o:=0) (n:=1) (Nat.le_refl _))
   refine zq ?_;exact bx.o h3 ⟨_,m3,fun z hz=>Ext.fN _ om,by rw[Ext.gf];exact v3⟩
  rintro hh ⟨A',m2,a2n,sk⟩;have aaf:hh.low<=hh.next:=m2.rows.ext.aC fw;have xp:Ext hh (push hh 1 [.slice (some ⟨bs k,0,none⟩) w cw]):=by rw[df hA];exact .push _ _ _
  have mp:=m2.more xp;have ov:bW (push hh 1 [.slice (some ⟨bs k,0,none⟩) w cw]) (next hh) 1 [.slice (some ⟨bs k,0,none⟩) w cw]:=by rw[df hA,cM hA];exact bW.push _ _ _
  have np:(push hh 1 [.slice (some ⟨bs k,0,none⟩) w cw]).next=hh.next+1:=by rw[df hA];rfl
  have nv:next hh=hh.next:=cM hA hh;have dR:=m2.pQ.lt;generalize push hh 1 [.slice (some ⟨bs k,0,none⟩) w cw]=hp at *;rw[nv]at ov ⊢;generalize hh.next=vb at *;refine L9 hA hI fw mp.rows.ext om mp.pQ mp.fr ak eI (by rw[pR]at ov;exact ov) om (fun ad cX=>by have:=dR ad cX;omega) (fun b h2 x2 n2 g2 b1 b2 o2=>?_);obtain⟨h3,w3,m3⟩:=mp.ins ak x2 n2 g2 b1 b2 o2;have m4:nZ h0 h3 sb (k+1) (k+1) w (some ⟨b,0,none⟩) (aw 1 (k+1)) (fun y=>bs (qS a k y)) (Ext.jI A a (A' k)):=m3.congr (fun y x hy hx=>by
   show A' (qS a k y) x=Ext.jI A a (A' k) y x;rw[Je (F:=A') (k:=k) ak y hy];unfold Ext.jI;by_cases c1:y<a
   ·rw[if_pos c1,if_pos c1,a2n y om]
   ·rw[if_neg c1,if_neg c1]
    by_cases c2:y=a
    ·rw[if_pos c2,if_pos c2]
    ·rw[if_neg c2,if_neg c2,a2n _ om])
  have hq:=fun kn T=>hQ h3 kn T _ _ _ _ m4 sk
  generalize aw 1 (k+1)=cc at *;generalize k+1=k1 at *;have w3:wr h2 sb (bX 0 0) [.slice (some ⟨b,0,none⟩) k1 cc] h3:=by rw[dj hA];exact kF hA w3
  refine⟨_,_,_,rfl,?_⟩;refine zq ?_;exact hq _ _
theorem Jl{h0:af}(fw:h0.low<=h0.next){sb K w:Nat}{ra:Option Addr}{rc kn:Nat}{T:List (Nat×List Value)}{bs:Nat->Nat}{F0:Nat->Ext.aQ}(hw:w<=1000){Q:Exit->SS->Prop}
  (hQ:∀(h':af) A,nZ h0 h' sb K K w ra rc bs A->Ext.rR w K 0 A F0->Q (.exit 4) ⟨[],kn,T,h'⟩) :
  ∀(i:Nat) (I:Int) (h:af) (A:Nat->Ext.aQ),i<=K->I=(i:Int)-1->nZ h0 h sb K K w ra rc bs A->Ext.rR w K i A F0->
   head 73 17 kn ⟨[(0,.pointer (some ⟨sb,0,none⟩)),(4,.func (.func 88) #[.pointer (some ⟨sb,0,none⟩)] #[]),(7,.int .i64 I)],kn,T,h⟩ Q:=by
 intro i
 induction i with
 |zero=>
  intro I h A hi eI m sk;refine hA.ar Tryz.func73 uv (zc ?_);refine br (0<=I) (by rw[bY hA]) (fun q=>om) (fun _=>?_)<;>refine zc ?_;exact hQ h A m sk
 |succ i ih=>
 intro I h A hi eI m sk;have k4:=sk.k4;have aq:h.low<=h.next:=m.rows.ext.aC fw;obtain⟨lo,Y5⟩:=sk.step om;obtain⟨b,rfl,hb,q1⟩:=m.head (y:=i) om;obtain⟨cw,pR⟩:∃z,z=aw 1 w:=⟨_,rfl⟩;rw[<-pR]at q1;have r1:rd h sb (bX 0 0) 1 [.slice (some ⟨b,0,none⟩) K rc]:=by rw[dj hA];exact iS hA (m.own.aM (o:=0) (n:=1) (Nat.le_refl _))
 have r2:rd h b (place 0 I 1) 1 [.slice (some ⟨bs i,0,none⟩) w cw]:=aD hA (by rw[show I.toNat=i by omega];exact q1);refine hA.ar Tryz.func73 uv (zc ?_);refine br (0<=I) (by rw[bY hA]) (fun _=>?_) (fun q=>om)<;>refine zc ?_;refine zq ?_;refine tn hA (sb:=sb) (r:=i) fw om om hw (fun y hy _=>⟨sk.gv.lt y hy,sk.gv.pos y hy⟩) lo m pR (fun h1 m1 _=>?_);refine zq ?_;rw[bP hA om om];exact ih (I-1) h1 _ om om m1 Y5
theorem Ss(hI:rT F){h0 h:af}(fw:h0.low<=h0.next){sb k w cw rc D M:Nat}{ra:Option Addr}{bs:Nat->Nat}{A F0:Nat->Ext.aQ}(hw:w<=1000)(pR:cw=aw 1 w)(hM:∀i,i<k+1->∀j,(F0 i j).natAbs<=9)(m:nZ h0 h sb k (k+1) w ra rc bs A)(r:Ext.EH w k A F0 D M){Q:Value->af->Prop}
  (hQ:∀h' TM TN Vp A',nZ h0 h' sb (k+1) (k+1) w TM TN Vp A'->Ext.rR w (k+1) 0 A' F0->Q (.tuple #[]) h') :
  call 73 [.pointer (some ⟨sb,0,none⟩),.slice (some ⟨bs k,0,none⟩) w cw] h Q:=by
 have aq:h.low<=h.next:=m.rows.ext.aC fw;refine hA.aN Tryz.func73 uv (hA.alike _ _ _ rfl) aq (zc ?_);refine zq ?_;refine Mb hA hI (sb:=sb) fw hw pR hM (fun h1 kn T TM TN Vp A1 m1 sk=>?_) D M h ra rc bs A m r;obtain⟨K,eK⟩:∃z:Int,z=((k+1:Nat):Int):=⟨_,rfl⟩;have e1:ofNat (k+1)=K:=by rw[eK];exact aI hA _
 have r1:rd h1 sb (bX 0 0) 1 [.slice TM (k+1) TN]:=by rw[dj hA];exact iS hA (m1.own.aM (o:=0) (n:=1) (Nat.le_refl _))
 have k3:=sk.k4;generalize ED:k+1=k1 at *
 (refine zq ?_;repeat ((first|rw[e1]);refine zq ?_))
 rw[bP hA om om];refine Jl hA (sb:=sb) fw hw (fun h2 A2 m2 Y5=>?_) k1 (K-1) h1 A1 (Nat.le_refl _) om m1 sk;refine zc ?_;exact hQ h2 TM TN Vp A2 m2 Y5
