import Derived.Test.YtdpbiegfljmhmaaGreatSymI
import Derived.DataReads
import Derived.ChangeShapes
import Derived.WideShapes
import Derived.Test.YtdpbiegfljmhmaaGreatSmG
import Derived.Test.YtdpbiegfljmhmaaGreatSlA
import Derived.Test.YtdpbiegfljmhmaaGreatSymBits
import Derived.Test.YtdpbiegfljmhmaaGreatFracA
import Derived.KernelRfl
import Derived.Test.YtdpbiegfljmhmaaGreatSlPi
set_option linter.unusedSimpArgs false
set_option linter.unusedVariables false
namespace Go.cV
open Go.RowKit
def dI(w:World)(b:Nat):Bool:=
 match w.heap[b]? with
 |some (.cells _ _ _)=>true
 |_=>false
def zg(w:World):Value->Bool
 | .slice (some a) _ c=>a.spot.isNone && decide (c<aS) && dI w a.block
 | .pointer (some a)=>a.spot.isNone && dI w a.block
 |v=>bm v
def aag:Value:=.slice (some ⟨0,0,some 0⟩) 0 0
def tN(w:World)(v:Value):Value:=
 if zg w v then v else
 match v with
 | .slice (some _) 0 0=>aag
 |_=>.chan none
def iE(w:World)(b:Nat):Option Loc:=
 match w.heap[b]? with
 |some (.cells cs _ _)=>some ⟨b,0,cs.size,1⟩
 |_=>none
def ED(w:World)(b:Nat):Option C7:=
 match w.heap[b]? with
 |some (.cells cs _ _)=>some (.live false 1 (cs.toList.map (tN w)))
 |_=>none
theorem A9{w:World}{b:Nat}(h:dI w b=true):∃n,iE w b=some ⟨b,0,n,1⟩:=by
 unfold dI at h;split at h
 ·rename_i cs e fr hb;exact⟨cs.size,by unfold iE;rw[hb]⟩
 ·cases h
theorem wM{w:World}{v:Value}(h:zg w v=true):VG (iE w) v v:=by
 unfold zg at h;split at h
 ·rename_i a len c
  simp only[Bool.and_eq_true,decide_eq_true_eq,Option.isNone_iff_eq_none]at h;obtain⟨⟨hs,hc⟩,hb⟩:=h;obtain⟨n,hg⟩:=A9 hb;have:=VG.gP (g:=iE w) a _ len c hs hg hc;obtain⟨b,o,sp⟩:=a;simp only at hs;subst hs;simpa using this
 ·rename_i a
  simp only[Bool.and_eq_true,Option.isNone_iff_eq_none]at h;obtain⟨hs,hb⟩:=h;obtain⟨n,hg⟩:=A9 hb;have:=VG.ptr (g:=iE w) a _ hs hg;obtain⟨b,o,sp⟩:=a;simp only at hs;subst hs;simpa using this
 ·exact .flat _ h
theorem Qa(w:World)(v:Value):VG (iE w) (tN w v) v:=by
 unfold tN;split
 ·rename_i h;exact wM h
 ·split
  ·exact .kC _ _ 0 rfl
  ·exact .zS _
theorem Nh (w : World) : ∃ h : af, HR ⟨iE w, fun _ => none⟩ (iC h) w ∧ h.low = h.next ∧ h.next = w.heap.size ∧ ∀ b, b < w.heap.size → h.m.get b = ED w b := by
  obtain ⟨t, ht⟩ := cW.xj (ED w) w.heap.size
  have hb : ∀ id L, iE w id = some L → ∃ cs e fr, w.heap[id]? = some (.cells cs e fr) ∧ L = ⟨id, 0, cs.size, 1⟩ := by
    intro id L h
    unfold iE at h
    split at h
    · rename_i cs e fr hb; exact ⟨cs, e, fr, hb, by simpa using h.symm⟩
    · cases h
  have dW : ∀ id L, iE w id = some L → id < w.heap.size := fun id L h => by
    obtain ⟨cs, e, fr, h1, _⟩ := hb id L h
    exact (Array.getElem?_eq_some_iff.1 h1).1
  refine ⟨{ next := w.heap.size, low := w.heap.size, m := t }, ?_, rfl, rfl, fun b h => by simp only []; rw [ht, if_pos h]⟩
  exact
    { cU := fun id L h => dW id L h
      dm := fun id L h => by
        obtain ⟨cs, e, fr, h1, rfl⟩ := hb id L h
        exact ⟨_, h1, fun lE e' fr' q => by cases q; rfl⟩
      cK := fun id L b h hm => by
        obtain ⟨cs, e, fr, h1, rfl⟩ := hb id L h
        have h2 : t.get id = some b := hm
        rw [ht, if_pos (dW id _ h)] at h2
        unfold ED at h2
        rw [h1] at h2
        simp only [oi] at h2
        subst h2
        refine ⟨rfl, cs, e, fr, h1, ?_, fun hw => by cases hw⟩
        intro i v hv
        rw [List.getElem?_map] at hv
        cases hc : cs.toList[i]? with
        | none => rw [hc] at hv; cases hv
        | some c =>
          rw [hc] at hv
          simp only [Option.map_some, oi] at hv
          subst hv
          exact ⟨c, by simpa using hc, Qa w c⟩
      dn := fun id pF L L' b b' h h' _ _ _ _ e => by
        obtain ⟨cs, e1, fr, h1, rfl⟩ := hb id L h
        obtain ⟨lE, Pd, fr', th, rfl⟩ := hb pF L' h'
        exact e
      fe := (fun t L h => by cases h), dX := (fun t L h => by cases h), ff := (fun t t' L L' h => by cases h), sep := (fun id t L L' _ h => by cases h) }
theorem UO{P : Program}{H : Hint}{F : bg}(hm : P.follows .mixedOrders = true)(hF : dC P F)(Re : aX F)(cG : ∀ (g : FuncId) (fn : Func), P.funcs[g]? = some fn → (fn.name == "runtime.NumGoroutine") = false){g : FuncId}{fn : Func}(hf : P.funcs[g]? = some fn)(hb : fn.body.isSome = true)(hg : g < aW)
  {w:World} {h:af} (hR:HR ⟨iE w,fun _=>none⟩ (iC h) w) (ar:h.low=h.next) (AN:h.next=w.heap.size) {args:List Value} (iZ:∀v∈args,zg w v=true)
  (hw:(bk P H F).call g args h (fun v h'=>v=.bool true/\Ext h h')) :
  Calls P g args.toArray w fun e w'=>e=.returned (.bool true)/\Below w.heap.size w w':=by
 obtain⟨v,h',hr,rfl,hE⟩:=hw.ex;have hA:fJ (iE w) args args:=⟨rfl,fun i u v hu hv=>by
  rw[hu]at hv;cases hv;exact wM (iZ u (List.mem_of_getElem? hu))⟩
 have hd:=hr.ok hm hF Re cG hg hR hA;refine(hd.calls hf hb (cG g fn hf)).mono ?_;rintro e w' ⟨c,rfl,G',hv,hG,_⟩;rw[hv.bool];refine⟨rfl,hG.os,hG.tape,hG.output,hG.size,fun k hk=>hG.frame k hk (fun id L mq Zh=>?_) (fun t L h=>by cases h)⟩;have h1:=hE.wh;have h2:h.next<=h'.low:=by
  rw[ar]at h1;have:Nat.min h.next h.next=h.next:=Nat.min_self _;omega
 have h3:id<h.next:=hR.cU id L mq;show id<h'.low;omega
theorem zh{w:World}{h:af}(hn:h.next=w.heap.size)(hm:∀b,b<w.heap.size->h.m.get b=ED w b){b o n:Nat}{cells:List Value}(hb:dI w b=true)(hl:cells.length=n)
  (hc:∀i v,cells[i]?=some v->∃c,w.cell? ⟨b,o+i,none⟩=some c/\tN w c=v):Cells h (some ⟨b,o,none⟩) n 1 cells:=by
 unfold dI at hb;split at hb
 ·rename_i cs e fr wv
  have dW:b<w.heap.size:=(Array.getElem?_eq_some_iff.1 wv).1;refine⟨rfl,by rw[hn];exact dW,?_⟩;unfold af.aN af.cells?;simp only[];rw[hm b dW];unfold ED;rw[wv];simp only[Nat.mul_one];refine ot ?_ hl;apply List.ext_getElem?;intro i;rw[List.getElem?_take];by_cases hi:i<n
  ·rw[if_pos hi,List.getElem?_drop,List.getElem?_map]
   have hv:cells[i]?=some cells[i]:=List.getElem?_eq_getElem om;obtain⟨c,h1,h2⟩:=hc i _ hv;unfold World.cell? at h1;simp only[wv]at h1;rw[hv,<-h2];have:cs.toList[o+i]?=some c:=by simpa using h1
   rw[this];rfl
  ·rw[if_neg hi]
   exact(List.getElem?_eq_none om).symm
 ·cases hb
theorem GS{P:Program}{w:World}{r:Reach}{base:Nat}{t e:TypeId}{a:Option Addr}{len cap:Nat}(ht:P.underlying t=some (.slice e))(h:Value.okWide P w r base t (.slice a len cap)) :
  zg w (.slice a len cap)=true/\(a=none->len=0/\cap=0)/\∀x,a=some x->x.spot=none/\dI w x.block=true:=by
 simp only[Value.okWide,ht,Cell.okWide,Cell.ok]at h;cases a with
 |none=>
  have:len=0/\cap=0:=by
   cases len<;>cases cap<;>simp_all
  obtain⟨rfl,rfl⟩:=this;exact⟨rfl,fun _=>⟨rfl,rfl⟩,fun x hx=>by cases hx⟩
 |some x=>
  obtain⟨h1,h2,_,hs,row,cells,hsh,_⟩:=h;have hc:dI w x.block=true:=by
   unfold dI;unfold World.shape? at hsh;split at hsh
   ·rename_i hb;rw[hb]
   ·cases hsh
  refine⟨?_,(fun hx=>by cases hx),(fun y hy=>by cases hy;exact⟨hs,hc⟩)⟩;unfold zg;simp only[Bool.and_eq_true,decide_eq_true_eq,Option.isNone_iff_eq_none];refine⟨⟨hs,?_⟩,hc⟩;have:IntKind.i64.max=9223372036854775807:=rfl;unfold aS;omega
def TS(P:Program)(w:World)(base:Nat):Nat->TypeId->List Value->Prop
 |0,_,_=>False
 |d+1,t,cs=>
  match P.underlying t with
  |some .bool=>∃b,cs=[.bool b]
  |some (.int k)=>∃n,cs=[.int k n]/\(Lit.int k n).wf=true
  |some .string=>∃s,cs=[.string s]/\s.size<=maxLen
  |some (.slice e)=>cs=[.slice none 0 0]\/∃a len cap,cs=[.slice (some a) len cap]/\len<=cap/\cap<=maxLen/\(∀i,i<len->∃l,w.cells? base (a.add (i*P.cellsOf e)) (P.cellsOf e)=some l/\TS P w base d e l)/\(0<cap->0<P.cellsOf e->a.spot=none/\dI w a.block=true)
  |some (.struct fs)=>cs.length=P.cellsOf t/\∀f∈fs.toList,TS P w base d f.type ((cs.drop f.offset).take (P.cellsOf f.type))
  |some (.array n e)=>cs.length=P.cellsOf t/\∀i,i<n->TS P w base d e ((cs.drop (i*P.cellsOf e)).take (P.cellsOf e))
  |_=>True
theorem mapM_each{α β:Type}{f:α->Option β}{l:List α}{r:List β}(h:l.mapM f=some r){x:α}(hx:x∈l):∃y,f x=some y:=by
 obtain⟨i,hi,rfl⟩:=List.getElem_of_mem hx;have h1:=mapM_some_get h i l[i] (by simp[hi]);have h2:=mapM_some_length h;rw[h1];exact⟨r[i]'om,by simp[h2,hi]⟩
theorem vO{w:World}{base n:Nat}{a:Addr}{l:List Value}(h:w.cells? base a n=some l)(hn:0<n):a.spot=none/\dI w a.block=true:=by
 obtain⟨_,hl,hc⟩:=World.cells?_some h;have h1:=hc 0 hn;rw[List.getElem?_eq_getElem om]at h1;obtain⟨b,o,s⟩:=a;cases s with
 |some s=>simp[World.cell?,Addr.add]at h1;split at h1<;>simp_all
 |none=>
  refine⟨rfl,?_⟩;rw[show(⟨b,o,none⟩:Addr).add 0=⟨b,o,none⟩from rfl]at h1;simp only[World.cell?]at h1;unfold dI;simp only;split at h1
  ·rename_i heq;rw[heq]
  ·cases h1
theorem zi{H:Type}{enc:TypeId×Value->H}{P:Program}{w:World}{base:Nat}{sp:Nat->Bool}{held:Bool}(jH:∀b,sp b=true:=by intro _;rfl):∀(fuel:Nat) (t:TypeId) (cs:List Value) (x:DataW H×List MemPlace),DataW.trod enc P w base sp held fuel t cs=some x->TS P w base fuel t cs
 |0,t,cs,x,h=>by simp[DataW.trod]at h
 |n+1,t,cs,x,h=>by
  have ih:=zi (enc:=enc) (P:=P) (w:=w) (base:=base) (sp:=sp) (held:=held) jH n;unfold DataW.trod at h;unfold TS;split at h
  ·rename_i b hu;rw[hu];exact⟨b,rfl⟩
  ·rename_i k k' m hu
   rw[hu];split at h
   ·rename_i hc;obtain⟨rfl,hw⟩:=hc;exact⟨m,rfl,hw⟩
   ·cases h
  ·rename_i hu;rw[hu];trivial
  ·rename_i s hu
   rw[hu];split at h
   ·rename_i hc;exact⟨s,rfl,hc⟩
   ·cases h
  ·rename_i hu;rw[hu];trivial
  ·rename_i hu;rw[hu];trivial
  ·rename_i hu;rw[hu];exact .inl rfl
  ·rename_i e a len cap hu
   rw[hu];split at h
   ·rename_i hc
    simp only[Option.bind_eq_some_iff]at h;obtain⟨es,h1,h2⟩:=h;refine .inr ⟨a,len,cap,rfl,hc.2.1,hc.2.2,fun i hi=>?_,fun na Yw=>?_⟩
    ·obtain⟨y,hy⟩:=mapM_each h1 (List.mem_range.2 hi)
     rw[Option.bind_eq_some_iff]at hy;obtain⟨l,hl,hy⟩:=hy;exact⟨l,hl,ih _ _ _ hy⟩
    ·have hz:(a.add (0*P.cellsOf e))=a:=by rw[Nat.zero_mul];rfl
     by_cases hlen:0<len
     ·obtain⟨y,hy⟩:=mapM_each h1 (List.mem_range.2 hlen)
      rw[Option.bind_eq_some_iff]at hy;obtain⟨l,hl,hy⟩:=hy;rw[hz]at hl;exact vO hl Yw
     ·have dE:len=0:=om
      subst dE;rw[jH,if_pos rfl,Option.map_eq_some_iff]at h2;obtain⟨rs,h3,_⟩:=h2;obtain⟨y,hy⟩:=mapM_each h3 (List.mem_range.2 (show 0<cap-0 by omega));rw[Option.bind_eq_some_iff]at hy;obtain⟨l,hl,hy⟩:=hy;rw[Nat.zero_add,hz]at hl;exact vO hl Yw
   ·cases h
  ·rename_i fs hu
   rw[hu];split at h
   ·rename_i hc
    refine⟨hc,fun f hf=>?_⟩;rw[Option.map_eq_some_iff]at h;obtain⟨xs,h1,h2⟩:=h;obtain⟨y,hy⟩:=mapM_each h1 hf;exact ih _ _ _ hy
   ·cases h
  ·rename_i m e hu
   rw[hu];split at h
   ·rename_i hc
    refine⟨hc,fun i hi=>?_⟩;rw[Option.map_eq_some_iff]at h;obtain⟨xs,h1,h2⟩:=h;obtain⟨y,hy⟩:=mapM_each h1 (List.mem_range.2 hi);exact ih _ _ _ hy
   ·cases h
  all_goals first|(rename_i hu;rw[hu];trivial)|cases h
theorem Ba(b o i:Nat):(⟨b,o,none⟩:Addr).add i=⟨b,o+i,none⟩:=by
 unfold Addr.add;split
 ·rename_i h0;subst h0;rfl
 ·rfl
theorem EE{α:Type}(enc:α->List Value){es:Nat}(uA:∀x,(enc x).length=es):∀(xs:List α) (i j:Nat),j<es->(xs.flatMap enc)[i*es+j]?=(xs[i]?).bind fun x=>(enc x)[j]?
 | [],i,j,_=>by simp
 |x :: xs,0,j,hj=>by
  rw[List.flatMap_cons,Nat.zero_mul,Nat.zero_add,List.getElem?_append_left (by rw[uA];exact hj)];rfl
 |x :: xs,i+1,j,hj=>by
  rw[List.flatMap_cons,List.getElem?_append_right (by rw[uA,Nat.add_mul];omega),uA];rw[show(i+1)*es+j-es=i*es+j by rw[Nat.add_mul];omega];rw[EE enc uA xs i j hj];rfl
theorem EF{α:Type}(enc:α->List Value){es:Nat}(uA:∀x,(enc x).length=es)(xs:List α):(xs.flatMap enc).length=xs.length*es:=by
 induction xs with
 |nil=>simp
 |cons x xs ih=>rw[List.flatMap_cons,List.length_append,uA,ih,List.length_cons,Nat.add_mul];omega
theorem zj{P:Program}{w:World}{h:af}(hn:h.next=w.heap.size)(hm:∀b,b<w.heap.size->h.m.get b=ED w b){base d:Nat}{t e:TypeId}{a:Option Addr}{len cap:Nat}(hu:P.underlying t=some (.slice e))
  (J4:TS P w base (d+1) t [.slice a len cap]) (Tt:(a=none->len=0/\cap=0)/\∀x,a=some x->x.spot=none/\dI w x.block=true)
  {α:Type} (enc:α->List Value) {es:Nat} (Yw:P.cellsOf e=es) (aah:0<es) (uA:∀x,(enc x).length=es) (G:α->Prop) (aai:∀l,TS P w base d e l->∃x,l.map (tN w)=enc x/\G x) :
  ∃xs:List α,xs.length=len/\len<=cap/\cap<=maxLen/\Cells h a len es (xs.flatMap enc)/\∀x∈xs,G x:=by
 unfold TS at J4;rw[hu]at J4;rcases J4 with h1|⟨ad,len',cap',h1,h2,h3,h4,_⟩
 ·simp only[List.cons.injEq,Value.slice.injEq,and_true]at h1
  obtain⟨rfl,rfl,rfl⟩:=h1;exact⟨[],rfl,om,by unfold maxLen;omega,⟨rfl,rfl⟩,fun x hx=>by cases hx⟩
 ·simp only[List.cons.injEq,Value.slice.injEq,and_true]at h1
  obtain⟨rfl,rfl,rfl⟩:=h1;obtain⟨hs,hb⟩:=Tt.2 ad rfl;obtain⟨b,o,spt⟩:=ad;simp only at hs hb;subst hs;rw[Yw]at h4;have key:∀n,n<=len->∃xs:List α,xs.length=n/\∀i,i<n->∃x,xs[i]?=some x/\G x/\∀j,j<es->∃c v,w.cell? ⟨b,o+(i*es+j),none⟩=some c/\(enc x)[j]?=some v/\tN w c=v:=by
   intro n
   induction n with
   |zero=>intro _;exact⟨[],rfl,fun i hi=>om⟩
   |succ n ih=>
    intro hle;obtain⟨xs,AH,FM⟩:=ih om;obtain⟨l,zN,By⟩:=h4 n om;obtain⟨x,he,hg⟩:=aai l By;obtain⟨_,XX,hlc⟩:=World.cells?_some zN;refine⟨xs++[x],by simp[AH],fun i hi=>?_⟩;by_cases um:i<n
    ·obtain⟨y,Mm,Uz⟩:=FM i um
     exact⟨y,by rw[List.getElem?_append_left om];exact Mm,Uz⟩
    ·have:i=n:=om
     subst this;refine⟨x,by rw[List.getElem?_append_right om,AH];simp,hg,fun j hj=>?_⟩;have h5:=hlc j hj;rw[Ba,Ba]at h5;have hj2:j<l.length:=om
     rw[List.getElem?_eq_getElem hj2]at h5;refine⟨l[j],tN w l[j],by rw[<-h5,Nat.add_assoc],?_,rfl⟩;rw[<-he,List.getElem?_map,List.getElem?_eq_getElem hj2];rfl
  obtain⟨xs,AH,FM⟩:=key len (Nat.le_refl _);refine⟨xs,AH,h2,h3,?_,fun x hx=>?_⟩
  ·have hc:=zh hn hm (b:=b) (o:=o) (n:=len*es) (cells:=xs.flatMap enc) hb (by rw[EF enc uA,AH]) (fun k v hv=>?_)
   ·obtain⟨c1,c2,c3⟩:=hc
    exact⟨c1,c2,by rw[Nat.mul_one]at c3;exact c3⟩
   ·have hk:k<len*es:=by
     have:=(List.getElem?_eq_some_iff.1 hv).1;rw[EF enc uA,AH]at this;exact this
    have hdm:=Nat.div_add_mod k es;have WB:=Nat.mod_lt k aah;have hdiv:k / es<len:=Nat.div_lt_of_lt_mul (by rw[Nat.mul_comm];exact hk);obtain⟨x,Mm,Uz,hy3⟩:=FM (k / es) hdiv;obtain⟨c,v',h6,h7,h8⟩:=hy3 (k % es) WB;have e1:k / es*es+k % es=k:=by rw[Nat.mul_comm];exact hdm
    rw[<-e1,EE enc uA xs _ _ WB,Mm]at hv;simp only[Option.bind_some]at hv;rw[h7]at hv;obtain rfl:=Option.some.inj hv;rw[e1]at h6;exact⟨c,h6,h8⟩
  ·obtain⟨i,hi,rfl⟩:=List.getElem_of_mem hx
   obtain⟨y,Mm,Uz,_⟩:=FM i om;rw[List.getElem?_eq_getElem hi]at Mm;obtain rfl:=Option.some.inj Mm;exact Uz
theorem GU{P:Program}{w:World}{base d:Nat}{t:TypeId}{k:IntKind}{cs:List Value}(hu:P.underlying t=some (.int k))(h:TS P w base (d+1) t cs):∃n,cs=[.int k n]/\(Lit.int k n).wf=true:=by
 unfold TS at h;rw[hu]at h;exact h
theorem Bb{P:Program}{w:World}{base d:Nat}{t:TypeId}{fs:Array Field}{cs:List Value}(hu:P.underlying t=some (.struct fs))(h:TS P w base (d+1) t cs):cs.length=P.cellsOf t/\∀f∈fs.toList,TS P w base d f.type ((cs.drop f.offset).take (P.cellsOf f.type)):=by
 unfold TS at h;rw[hu]at h;exact h
theorem EG{P:Program}{w:World}{r:Reach}{base:Nat}{t u:TypeId}{cs:Array Value}{ts:List TypeId}(h:Row.okWide P w r base t cs)(J4:P.cellTypes P.depth t=some ts){i:Nat}{v:Value}(hi:cs[i]?=some v)(hu:ts[i % ts.length]?=some u):Cell.okWide P w r base u v:=by
 obtain⟨ts',h1,_,h2⟩:=h;rw[J4]at h1;obtain rfl:=Option.some.inj h1;obtain⟨u',h3,h4⟩:=h2 i v hi;rw[hu]at h3;obtain rfl:=Option.some.inj h3;exact h4
theorem zl{P:Program}{w:World}{r:Reach}{base:Nat}{t e:TypeId}{v:Value}(ht:P.underlying t=some (.slice e))(h:Cell.okWide P w r base t v) :
  ∃a len cap,v=.slice a len cap/\zg w (.slice a len cap)=true/\(a=none->len=0/\cap=0)/\∀x,a=some x->x.spot=none/\dI w x.block=true:=by
 have h':Value.okWide P w r base t v:=by unfold Value.okWide;rw[ht];exact h
 obtain⟨a,len,cap,rfl⟩:=WideShapes.okWide_slice ht h';obtain⟨h1,h2⟩:=GS ht h';exact⟨a,len,cap,rfl,h1,h2⟩
def J5(w:World):Value->Bool
 | .agg cs=>cs.toList.all (zg w)
 |v=>zg w v
theorem Qb{w:World}{v:Value}(h:J5 w v=true):VG (iE w) v v:=by
 unfold J5 at h;split at h
 ·refine .agg _ _ rfl (fun i u v hu hv=>?_)
  rw[hu]at hv;obtain rfl:=Option.some.inj hv;exact wM (List.all_eq_true.1 h u (List.mem_of_getElem? hu))
 ·exact wM h
theorem WD{w:World}{args:List Value}(h:args.all (J5 w)=true):fJ (iE w) args args:=⟨rfl,fun i u v hu hv=>by
 rw[hu]at hv;obtain rfl:=Option.some.inj hv;exact Qb (List.all_eq_true.1 h u (List.mem_of_getElem? hu))⟩
theorem GV{P : Program}{H : Hint}{F : bg}(hm : P.follows .mixedOrders = true)(hF : dC P F)(Re : aX F)(cG : ∀ (g : FuncId) (fn : Func), P.funcs[g]? = some fn → (fn.name == "runtime.NumGoroutine") = false){g : FuncId}{fn : Func}(hf : P.funcs[g]? = some fn)(hb : fn.body.isSome = true)(hg : g < aW)
  {w:World} {h:af} (hR:HR ⟨iE w,fun _=>none⟩ (iC h) w) (ar:h.low=h.next) (AN:h.next=w.heap.size) {args:List Value} (hA:fJ (iE w) args args)
  (hw:(bk P H F).call g args h (fun v h'=>v=.bool true/\Ext h h')) :
  Calls P g args.toArray w fun e w'=>e=.returned (.bool true)/\Below w.heap.size w w':=by
 obtain⟨v,h',hr,rfl,hE⟩:=hw.ex;have hd:=hr.ok hm hF Re cG hg hR hA;refine(hd.calls hf hb (cG g fn hf)).mono ?_;rintro e w' ⟨c,rfl,G',hv,hG,_⟩;rw[hv.bool];refine⟨rfl,hG.os,hG.tape,hG.output,hG.size,fun k hk=>hG.frame k hk (fun id L mq Zh=>?_) (fun t L h=>by cases h)⟩;have h1:=hE.wh;have h2:h.next<=h'.low:=by
  rw[ar]at h1;have:Nat.min h.next h.next=h.next:=Nat.min_self _;omega
 have h3:id<h.next:=hR.cU id L mq;show id<h'.low;omega
end Go.cV
namespace Go.Proofs.YtdpbiegfljmhmaaGreat
open Go.cV
set_option maxRecDepth 100000
def nC(x:Int):List Value:=[.int .i64 x]
theorem gC(x:Int):(nC x).length=1:=rfl
theorem EH(x:Int):(nC x).all aF=true:=rfl
structure dQ(h0 h:af)(n w:Nat)(bs:Nat->Nat)(F:Nat->Ext.aR):Prop where
 ext:Ext h0 h
 row:∀y,y<n->ct h (bs y) 1 ((kR (F y) w).flatMap nC)
 cI:∀y,y<n->h0.next<=bs y
 lt:∀y,y<n->bs y<h.next
 inj:∀y z,y<n->z<n->bs y=bs z->y=z
section
variable{h0 h:af}{n w:Nat}{bs:Nat->Nat}{F:Nat->Ext.aR}
theorem dQ.more{h':af}(t:dQ h0 h n w bs F)(e:Ext h h'):dQ h0 h' n w bs F:=
 ⟨t.ext.trans e,fun y hy=>(t.row y hy).ext e (t.lt y hy),t.cI,fun y hy=>Nat.lt_of_lt_of_le (t.lt y hy) e.next,t.inj⟩
theorem dQ.dL{h':af}(t:dQ h0 h n w bs F)(e:Ext h0 h')(hn:h.next<=h'.next)(hk:∀y,y<n->h'.m.get (bs y)=h.m.get (bs y)):dQ h0 h' n w bs F:=
 ⟨e,fun y hy=>(t.row y hy).gQ (hk y hy),t.cI,fun y hy=>Nat.lt_of_lt_of_le (t.lt y hy) hn,t.inj⟩
theorem dQ.congr{G:Nat->Ext.aR}(t:dQ h0 h n w bs F)(e:∀y x,y<n->x<w->F y x=G y x):dQ h0 h n w bs G:=
 ⟨t.ext,fun y hy=>by rw[<-iq (fun x hx=>e y x hy hx)];exact t.row y hy,t.cI,t.lt,t.inj⟩
theorem dQ.jU(t:dQ h0 h n w bs F){y:Nat}(hy:y<n):Rows nC 1 h (some ⟨bs y,0,none⟩) w (kR (F y) w):=by
 have r:=ct.rows (t.row y hy) gC om (t.lt y hy);rw[bP]at r;exact r
theorem dQ.el(t:dQ h0 h n w bs F){y x:Nat}(hy:y<n)(hx:x<w):h.aN ⟨bs y,0+x*1,none⟩ 1=some [.int .i64 (F y x)]:=by
 obtain⟨b,o,e,_,r⟩:=(t.jU hy).at (i:=(x:Int)) om om;cases e;have:=r 0 1 om om;rw[fU _ hx,List.drop_zero,List.take_of_length_le (by rw[gC];omega)]at this;exact this
def tO(F:Nat->Ext.aR)(y x:Nat)(v:Int):Nat->Ext.aR:=fun a b=>if a=y/\b=x then v else F a b
theorem dQ.set(t:dQ h0 h n w bs F){y x:Nat}(hy:y<n)(hx:x<w)(v:Int) :
  ∃h',h.write (bs y) (0+x*1) [.int .i64 v]=some h'/\dQ h0 h' n w bs (tO F y x v)/\ku h h' (bs y):=by
 obtain⟨h',w1,w2,w3⟩:=ct.setRow (t.row y hy) gC (i:=x) (by rw[bP];exact hx) v;refine⟨h',by rw[Nat.zero_add];exact w1,⟨w3.ext t.ext (t.cI y hy),fun z hz=>?_,t.cI,fun z hz=>by rw[w3.next];exact t.lt z hz,t.inj⟩,w3⟩;by_cases e:z=y
 ·subst e
  rw[wN]at w2;have:kR (tO F z x v z) w=kR (fun j=>if j=x then v else F z j) w:=iq (fun i hi=>by unfold tO;simp);rw[this];exact w2
 ·have:kR (tO F y x v z) w=kR (F z) w:=iq (fun i hi=>by unfold tO;rw[if_neg (fun q=>e q.1)])
  rw[this];exact(t.row z hz).gQ (w3.get _ (fun q=>e (t.inj z y hz hy q)))
end
structure kA(h h':af)(b:Nat):Prop where
 next:h.next<=h'.next
 get:∀c,c<h.next->c≠b->h'.m.get c=h.m.get c
theorem kA.refl(h:af)(b:Nat):kA h h b:=⟨Nat.le_refl _,fun _ _ _=>rfl⟩
theorem kA.wrote{h h' h2:af}{b:Nat}(t:kA h h' b)(w:ku h' h2 b):kA h h2 b:=
 ⟨by rw[w.next];exact t.next,fun c hc ne=>by rw[w.get c ne];exact t.get c hc ne⟩
theorem kA.ext{h h' h2:af}{b:Nat}(t:kA h h' b)(w:Ext h' h2):kA h h2 b:=
 ⟨Nat.le_trans t.next w.next,fun c hc ne=>by rw[w.get c (Nat.lt_of_lt_of_le hc t.next)];exact t.get c hc ne⟩
theorem kA.trans{h h' h2:af}{b:Nat}(t:kA h h' b)(w:kA h' h2 b):kA h h2 b:=
 ⟨Nat.le_trans t.next w.next,fun c hc ne=>by rw[w.get c (Nat.lt_of_lt_of_le hc t.next) ne];exact t.get c hc ne⟩
def Cx(F:Nat->Ext.aR)(r j:Nat)(g:Ext.aR):Nat->Ext.aR:=fun y x=>if y=r/\x<j then g x else F y x
theorem It{n:Int}(h:(Lit.int .i64 n).wf=true):i64 n:=by
 unfold i64;simp[Lit.wf,IntKind.min,IntKind.max,IntKind.signed,IntKind.bits]at h;omega
theorem Tu:Tryz.prog.cellsOf 2=1:=by kernel_rfl
theorem Ni:Tryz.prog.cellsOf 43=2:=by kernel_rfl
theorem WE{l:List Value}(h:l.length=2):∃a b,l=[a,b]:=by
 match l,h with
 | [a,b],_=>exact⟨a,b,rfl⟩
theorem Nj{w:World}{base d:Nat}{l:List Value}(h:TS Tryz.prog w base d 43 l):∃x y,l=[.int .i64 x,.int .i64 y]/\i64 x/\i64 y:=by
 cases d with
 |zero=>exact h.elim
 |succ d=>
  obtain⟨h1,h2⟩:=Bb Tryz.underlying43 h;rw[Ni]at h1;obtain⟨a,b,rfl⟩:=WE h1;simp only[List.forall_mem_cons,List.not_mem_nil,false_imp_iff,implies_true,and_true,Tu,List.drop,List.take]at h2;obtain⟨g0,g1⟩:=h2;cases d with
  |zero=>exact g0.elim
  |succ d=>
   obtain⟨x,e1,w1⟩:=GU Tryz.underlying2 g0;obtain⟨y,e2,w2⟩:=GU Tryz.underlying2 g1;simp only[List.cons.injEq,and_true]at e1 e2;subst e1 e2;exact⟨x,y,rfl,It w1,It w2⟩
theorem Nk:Tryz.prog.cellsOf 28=1:=by kernel_rfl
theorem EI:Tryz.prog.cellsOf 3=1:=by kernel_rfl
theorem Nl:Tryz.prog.cellsOf 22=1:=by kernel_rfl
theorem Qc:Tryz.prog.cellsOf 23=1:=by kernel_rfl
theorem Qd:Tryz.prog.cellsOf 25=2:=by kernel_rfl
theorem Iu:Tryz.prog.cellTypes Tryz.prog.depth 25=some [22,23]:=by kernel_rfl
theorem J6{w:World}{a:Addr}{len cap:Nat}(h1:a.spot=none)(h2:dI w a.block=true)(h3:cap<=maxLen):tN w (.slice (some a) len cap)=.slice (some a) len cap:=by
 unfold tN;have h4:cap<aS:=by unfold maxLen at h3;unfold aS;omega
 rw[if_pos];show(a.spot.isNone && decide (cap<aS) && dI w a.block)=true;rw[h1,h2];simp[h4]
def Nm(h:af)(p:Hd×List Int):Prop:=p.2.length=p.1.n/\(0<p.1.n->Rows nC 1 h p.1.a p.1.n p.2)
theorem Qe{w:World}{h:af}(hn:h.next=w.heap.size)(hm:∀b,b<w.heap.size->h.m.get b=ED w b){base d:Nat}{l:List Value}(hl:TS Tryz.prog w base d 28 l):∃p:Hd×List Int,l.map (tN w)=p.1.cells/\Nm h p:=by
 cases d with
 |zero=>exact hl.elim
 |succ d=>
  have J4:=hl;unfold TS at hl;rw[Tryz.underlying28]at hl;have go:∀(a:Addr) (len cap:Nat),a.spot=none->dI w a.block=true->cap<=maxLen->TS Tryz.prog w base (d+1) 28 [.slice (some a) len cap]->∃p:Hd×List Int,[Value.slice (some a) len cap].map (tN w)=p.1.cells/\Nm h p:=by
   intro a len cap h1 h2 h3 ht;obtain⟨xs,k1,k2,k3,k4,k5⟩:=zj hn hm Tryz.underlying28 ht ⟨(fun q=>by cases q),fun x hx=>by cases hx;exact⟨h1,h2⟩⟩ nC EI om (fun _=>rfl) (fun _=>True) (fun l hl=>by
    cases d with
    |zero=>exact hl.elim
    |succ d=>
     obtain⟨y,rfl,_⟩:=GU Tryz.underlying3 hl;exact⟨y,rfl,trivial⟩)
   refine⟨(⟨some a,len,cap⟩,xs),?_,k1,fun _=>⟨k4,fun _=>rfl,om⟩⟩;show [tN w (.slice (some a) len cap)]=_;rw[J6 h1 h2 h3];rfl
  rcases hl with rfl|⟨a,len,cap,rfl,h2,h3,h4,h5⟩
  ·exact⟨(⟨none,0,0⟩,[]),rfl,rfl,fun q=>absurd q (Nat.lt_irrefl _)⟩
  ·by_cases hc:0<cap
   ·obtain⟨s1,s2⟩:=h5 hc (by rw[EI];omega)
    exact go a len cap s1 s2 h3 J4
   ·have uu:cap=0:=om
    have dE:len=0:=om
    subst uu dE;by_cases hr:a.spot=none/\dI w a.block=true
    ·exact go a 0 0 hr.1 hr.2 h3 J4
    ·refine⟨(⟨some ⟨0,0,some 0⟩,0,0⟩,[]),?_,rfl,fun q=>absurd q (Nat.lt_irrefl _)⟩
     show [tN w (.slice (some a) 0 0)]=_;have:zg w (.slice (some a) 0 0)=false:=by
      show(a.spot.isNone && decide (0<aS) && dI w a.block)=false;cases hs:a.spot with
      |some s=>rfl
      |none=>
       have:dI w a.block=false:=by
        cases hi:dI w a.block with
        |false=>rfl
        |true=>exact absurd ⟨hs,hi⟩ hr
       rw[this];simp
     unfold tN;rw[this];rfl
theorem J7{w:World}{h:af}(hn:h.next=w.heap.size)(hm:∀b,b<w.heap.size->h.m.get b=ED w b){H:Type}{enc:TypeId×Value->H}{base fuel b0:Nat}{held:Bool}{r:Reach}{v:Value}{x:DataW H×List MemPlace}
  (EJ:Value.okWide Tryz.prog w r b0 25 v) (hf:DataW.trod enc Tryz.prog w base (fun _=>true) held fuel 25 v.cells.toList=some x) :
  ∃a n c a' n' c' dk g B,v=.agg #[.slice a n c,.slice a' n' c']/\J5 w v=true/\n<=maxLen/\n'<=maxLen/\zm nC 1 h a n dk g/\Rows fC 2 h a' n' B/\∀i:Int,0<=i->i<n'->i64 (gt B i).n/\i64 (gt B i).d:=by
 obtain⟨cs,rfl,uB,WG⟩:∃cs,v=.agg cs/\cs.size=Tryz.prog.cellsOf 25/\Row.okWide Tryz.prog w r b0 25 cs:=by
  unfold Value.okWide at EJ;rw[Tryz.underlying25]at EJ;exact EJ
 have J4:=zi (fun _=>rfl) _ _ _ _ hf;rw[Qd]at uB;obtain⟨v0,v1,wv⟩:=WE (l:=cs.toList) (by simpa using uB);obtain rfl:cs=#[v0,v1]:=by cases cs;simp_all
 have J4:TS Tryz.prog w base fuel 25 [v0,v1]:=J4;cases fuel with
 |zero=>exact J4.elim
 |succ d=>
  obtain⟨_,h2⟩:=Bb Tryz.underlying25 J4;simp only[List.forall_mem_cons,List.not_mem_nil,false_imp_iff,implies_true,and_true,Nl,Qc,List.drop,List.take]at h2;obtain⟨g0,g1⟩:=h2;cases d with
  |zero=>exact g0.elim
  |succ d=>
   obtain⟨a,n,c,rfl,hr,Tt⟩:=zl Tryz.underlying22 (EG WG Iu (i:=0) (u:=22) rfl rfl);obtain⟨a',n',c',rfl,we,WI⟩:=zl Tryz.underlying23 (EG WG Iu (i:=1) (u:=23) rfl rfl);obtain⟨xs,k1,k2,k3,k4,k5⟩:=zj hn hm Tryz.underlying22 g0 Tt (fun p:Hd×List Int=>p.1.cells) Nk om (fun _=>rfl) (fun p=>Nm h p) (fun l hl=>Qe hn hm hl);obtain⟨ys,j1,j2,j3,j4,j5⟩:=zj hn hm Tryz.underlying23 g1 WI fC Ni om (fun _=>rfl) (fun x=>i64 x.n/\i64 x.d) (fun l hl=>by
    obtain⟨x,y,rfl,h1,h2⟩:=Nj hl;exact⟨⟨x,y⟩,rfl,h1,h2⟩)
   refine⟨a,n,c,a',n',c',xs.map (·.1),xs.map (·.2),ys,rfl,?_,om,om,⟨⟨?_,fun _=>rfl,om⟩,by simp[k1],fun y y0 y1=>?_⟩,⟨j4,fun _=>rfl,om⟩,fun i i0 i1=>j5 _ (uY ys i0 om)⟩
   ·simp only[J5,List.all_cons,List.all_nil,hr,we];rfl
   ·rw[List.flatMap_map];exact k4
   ·have hy:y.toNat<xs.length:=om
    have e1:gt (xs.map (·.1)) y=(xs[y.toNat]).1:=by unfold gt;rw[List.getD_eq_getElem?_getD,List.getElem?_map,List.getElem?_eq_getElem hy];rfl
    have e2:gt (xs.map (·.2)) y=(xs[y.toNat]).2:=by unfold gt;rw[List.getD_eq_getElem?_getD,List.getElem?_map,List.getElem?_eq_getElem hy];rfl
    rw[e1,e2];exact k5 _ (List.getElem_mem hy)
def kS(bs:Nat->Nat)(w k:Nat):List Hd:=kR (fun y=>(⟨some ⟨bs y,0,none⟩,w,az 1 w⟩:Hd)) k
structure oK(h0 h:af)(sb k n w:Nat)(ra:Option Addr)(rc:Nat)(bs:Nat->Nat)(F:Nat->Ext.aR):Prop where
 rows:dQ h0 h n w bs F
 own:ct h sb 1 [.slice ra k rc]
 qD:mT h 1 ra k rc ((kS bs w k).flatMap Hd.cells)
 kn:k<=n
 s0:h0.next<=sb
 s1:sb<h.next
 fr:jm h0.next ra
 RT:∀y,y<n->bs y≠sb
 Fw:∀ad,ra=some ad->ad.block≠sb/\∀y,y<n->ad.block≠bs y
section
variable{h0 h:af}{sb k n w rc:Nat}{ra:Option Addr}{bs:Nat->Nat}{F:Nat->Ext.aR}
theorem oK.head(t:oK h0 h sb k n w ra rc bs F){y:Nat}(hy:y<k):∃b,ra=some ⟨b,0,none⟩/\b<h.next/\h.aN ⟨b,0+y*1,none⟩ 1=some [.slice (some ⟨bs y,0,none⟩) w (az 1 w)]:=by
 rcases t.qD with ⟨_,q,_⟩|⟨b,e,_,hb,hl,ho⟩
 ·omega
 refine⟨b,e,hb,?_⟩;have r:=ct.rows ho iF om hb;rw[show(kS bs w k).length=k from bP _ _]at r;obtain⟨b',o,e',_,q⟩:=r.at (i:=(y:Int)) om om;cases e';have:=q 0 1 om om;unfold kS at this;rw[fU _ hy]at this;exact this
theorem oK.more{h':af}(t:oK h0 h sb k n w ra rc bs F)(e:Ext h h'):oK h0 h' sb k n w ra rc bs F:=
 ⟨t.rows.more e,t.own.ext e t.s1,t.qD.ext e,t.kn,t.s0,Nat.lt_of_lt_of_le t.s1 e.next,t.fr,t.RT,t.Fw⟩
theorem oK.put{h':af}{G:Nat->Ext.aR}{r:Nat}(t:oK h0 h sb k n w ra rc bs F)(hr:r<n)(m:dQ h0 h' n w bs G)(o:kA h h' (bs r)):oK h0 h' sb k n w ra rc bs G:=
 ⟨m,t.own.gQ (o.get sb t.s1 (fun e=>t.RT r hr e.symm)),t.qD.gQ o.next (fun ad dc hl=>o.get _ hl ((t.Fw ad dc).2 r hr)),t.kn,t.s0,Nat.lt_of_lt_of_le t.s1 o.next,t.fr,t.RT,t.Fw⟩
theorem oK.congr{G:Nat->Ext.aR}(t:oK h0 h sb k n w ra rc bs F)(e:∀y x,y<n->x<w->F y x=G y x):oK h0 h sb k n w ra rc bs G:=
 ⟨t.rows.congr e,t.own,t.qD,t.kn,t.s0,t.s1,t.fr,t.RT,t.Fw⟩
end
theorem Ext.rB{w:Nat}{F:Nat->Ext.aR}{c:Nat}{v:Ext.aR}:∀y,∀j,j<=c->Ext.bI w F c y v j=v j
 |0,j,_=>rfl
 |y+1,j,hj=>by
  show(if c<Ext.aj w (F y)then(fun j=>Ext.bI w F c y v j-Ext.bI w F c y v (Ext.aj w (F y)) / F y (Ext.aj w (F y))*F y j)else Ext.bI w F c y v) j=v j;split
  ·rename_i q
   show Ext.bI w F c y v j-Ext.bI w F c y v (Ext.aj w (F y)) / F y (Ext.aj w (F y))*F y j=v j;rw[Ext.bB (w:=w) (v:=F y) (j:=j) om,Int.mul_zero,Int.sub_zero];exact Ext.rB y j hj
  ·exact Ext.rB y j hj
theorem Ext.EK{w:Nat}{F:Nat->Ext.aR}{v:Ext.aR}(y:Nat):Ext.aj w (Ext.bI w F (Ext.aj w v) y v)=Ext.aj w v:=
 Ext.iK (Ext.nk _ _) (fun j hj=>by rw[Ext.rB y j om];exact Ext.bB hj) (fun q=>by rw[Ext.rB y _ (Nat.le_refl _)];exact Ext.lV q)
theorem dQ.perm{h0 h:af}{n w:Nat}{bs:Nat->Nat}{F:Nat->Ext.aR}(t:dQ h0 h n w bs F){σ:Nat->Nat}(hs:∀y,y<n->σ y<n)(hi:∀y z,y<n->z<n->σ y=σ z->y=z):dQ h0 h n w (fun y=>bs (σ y)) (fun y=>F (σ y)):=
 ⟨t.ext,fun y hy=>t.row _ (hs y hy),fun y hy=>t.cI _ (hs y hy),fun y hy=>t.lt _ (hs y hy),fun y z hy hz e=>hi y z hy hz (t.inj _ _ (hs y hy) (hs z hz) e)⟩
theorem Cy{a b n:Nat}(ha:a<n)(hb:b<n):∀y,y<n->Iv a b y<n:=fun y hy=>by unfold Iv;split<;>(try split)<;>omega
theorem Qf{a b:Nat}(y z:Nat)(q:Iv a b y=Iv a b z):y=z:=by unfold Iv at q;split at q<;>(try split at q)<;>(try split at q)<;>(try split at q)<;>omega
theorem oK.swap{h0 h:af}{sb k w rc:Nat}{ra:Option Addr}{bs:Nat->Nat}{F:Nat->Ext.aR}(t:oK h0 h sb k (k+1) w ra rc bs F){a:Nat}(ha:a<k) :
  ∃b h2,ra=some ⟨b,0,none⟩/\h.write b (0+a*1) [.slice (some ⟨bs k,0,none⟩) w (az 1 w)]=some h2/\oK h0 h2 sb k (k+1) w ra rc (fun y=>bs (Iv a k y)) (fun y=>F (Iv a k y)):=by
 rcases t.qD with ⟨_,q,_⟩|⟨b,rfl,ec,hb,hl,ho⟩
 ·omega
 have hlen:(kS bs w k).length=k:=bP _ _;obtain⟨h2,w1,w2,w3⟩:=ct.setRow ho iF (i:=a) (by rw[hlen];exact ha) (⟨some ⟨bs k,0,none⟩,w,az 1 w⟩:Hd);have SP:=t.Fw ⟨b,0,none⟩ rfl;have e:(kS bs w k).set a ⟨some ⟨bs k,0,none⟩,w,az 1 w⟩=kS (fun y=>bs (Iv a k y)) w k:=by
  unfold kS;rw[wN];refine iq (fun y hy=>?_);by_cases c:y=a
  ·simp only[Iv,if_pos c]
  ·simp only[Iv,if_neg c,if_neg (show ¬y=k by omega)]
 rw[e]at w2;have hp:=t.rows.perm (Cy (a:=a) (b:=k) (n:=k+1) om om) (fun y z _ _ q=>Qf y z q);have xe:Ext h0 h2:=w3.ext t.rows.ext (t.fr _ rfl);refine⟨b,h2,rfl,by rw[Nat.zero_add];exact w1,⟨hp.dL xe (by rw[w3.next];exact Nat.le_refl _) (fun y hy=>w3.get _ (fun q=>SP.2 _ (Cy (a:=a) (b:=k) (n:=k+1) om om y hy) q.symm)),t.own.gQ (w3.get _ (fun q=>SP.1 q.symm)),?_,t.kn,t.s0,by rw[w3.next];exact t.s1,t.fr,fun y hy=>t.RT _ (Cy om om y hy),fun ad dc=>?_⟩⟩
 ·refine .inr ⟨b,rfl,ec,by rw[w3.next];exact hb,?_,w2⟩
  rw[gD iF];unfold kS;rw[bP]
 ·cases dc
  exact⟨SP.1,fun y hy=>SP.2 _ (Cy om om y hy)⟩
def rJ(a k:Nat):Nat->Nat:=fun y=>if y<a then y else if y=a then k else y-1
theorem wO{a k:Nat}(ha:a<=k):∀y,y<k+1->rJ a k y<k+1:=fun y hy=>by unfold rJ;split<;>(try split)<;>omega
theorem No{a k:Nat}(ha:a<=k)(y z:Nat)(hy:y<k+1)(hz:z<k+1)(q:rJ a k y=rJ a k z):y=z:=by unfold rJ at q;split at q<;>(try split at q)<;>(try split at q)<;>(try split at q)<;>omega
theorem Tv{bs:Nat->Nat}{w k a:Nat}(ha:a<=k):(kS bs w k).take a++(⟨some ⟨bs k,0,none⟩,w,az 1 w⟩:Hd) :: (kS bs w k).drop a=kS (fun y=>bs (rJ a k y)) w (k+1):=by
 have hlen:(kS bs w k).length=k:=bP _ _;apply List.ext_getElem?;intro j;have ht:((kS bs w k).take a).length=a:=by rw[List.length_take,hlen,Nat.min_eq_left ha]
 by_cases c:j<k+1
 ·rw[show(kS (fun y=>bs (rJ a k y)) w (k+1))[j]?=_ from jV _ c]
  rcases Nat.lt_trichotomy j a with q|q|q
  ·rw[List.getElem?_append_left om,List.getElem?_take,if_pos q]
   unfold kS;rw[jV _ om];simp only[rJ,if_pos q]
  ·rw[List.getElem?_append_right om,ht,q,Nat.sub_self]
   simp only[rJ,if_neg (show ¬a<a by omega),if_true];rfl
  ·rw[List.getElem?_append_right om,ht,show j-a=(j-a-1)+1 by omega,List.getElem?_cons_succ,List.getElem?_drop,show a+(j-a-1)=j-1 by omega]
   unfold kS;rw[jV _ om];simp only[rJ,if_neg (show ¬j<a by omega),if_neg (show ¬j=a by omega)]
 ·rw[List.getElem?_eq_none (by rw[List.length_append,List.length_cons,ht,List.length_drop,hlen];omega),List.getElem?_eq_none (by unfold kS;rw[bP];omega)]
theorem J8{F:Nat->Ext.aR}{a k:Nat}(ha:a<=k):∀y,y<k+1->F (rJ a k y)=Ext.jT F a (F k) y:=fun y hy=>by
 unfold rJ Ext.jT;by_cases c:y<a
 ·rw[if_pos c,if_pos c]
 ·rw[if_neg c,if_neg c]
  by_cases c2:y=a
  ·rw[if_pos c2,if_pos c2]
  ·rw[if_neg c2,if_neg c2]
theorem oK.ins{h0 h h2:af}{sb k w rc:Nat}{ra:Option Addr}{bs:Nat->Nat}{F:Nat->Ext.aR}(t:oK h0 h sb k (k+1) w ra rc bs F){a:Nat}(ha:a<=k){b:Nat}(hx:Ext h0 h2)(hn:h.next<=h2.next)(hg:∀i,i<h.next->(∀ad,ra=some ad->ad.block≠i)->h2.m.get i=h.m.get i)(hb:h.next<=b)(vZ:b<h2.next)
  (ho:ct h2 b 1 (((kS bs w k).take a++(⟨some ⟨bs k,0,none⟩,w,az 1 w⟩:Hd) :: (kS bs w k).drop a).flatMap Hd.cells)) :
  ∃h3,h2.write sb 0 [.slice (some ⟨b,0,none⟩) (k+1) (az 1 (k+1))]=some h3/\oK h0 h3 sb (k+1) (k+1) w (some ⟨b,0,none⟩) (az 1 (k+1)) (fun y=>bs (rJ a k y)) (fun y=>F (rJ a k y)):=by
 rw[Tv ha]at ho;have os:ct h2 sb 1 [.slice ra k rc]:=t.own.gQ (hg sb t.s1 (fun ad dc=>(t.Fw ad dc).1));obtain⟨h3,w1,w2,w3⟩:=os.write (o:=0) (vs:=[.slice (some ⟨b,0,none⟩) (k+1) (az 1 (k+1))]) (Nat.le_refl _);have s0:=t.s0;have s1:=t.s1;have hp:=t.rows.perm (wO ha) (No ha);have x3:Ext h0 h3:=w3.ext hx s0;refine⟨h3,w1,hp.dL x3 (by rw[w3.next];exact hn) (fun y hy=>?_),w2,.inr ⟨b,rfl,rfl,by rw[w3.next];exact vZ,?_,ho.gQ (w3.get _ om)⟩,Nat.le_refl _,s0,by rw[w3.next];omega,?_,fun y hy=>t.RT _ (wO ha y hy),fun ad dc=>?_⟩
 ·have Sz:=wO ha y hy
  rw[w3.get _ (t.RT _ Sz),hg _ (t.rows.lt _ Sz) (fun ad dc=>(t.Fw ad dc).2 _ Sz)]
 ·rw[gD iF];unfold kS;rw[bP]
 ·intro ad dc;cases dc;have:=t.rows.ext.next;show h0.next<=b;omega
 ·cases dc
  exact⟨by show b≠sb;omega,fun y hy=>by have:=t.rows.lt _ (wO ha y hy);show b≠_;omega⟩
structure sH(F:bg):Prop where
 ins:∀a h r,jA a h=some r->F 90 a h=some r
 non:∀a h,jA a h=none->F 90 a h=none
theorem zn:sH gR:=⟨fun a h r q=>by unfold gR ql;rw[Nat.beq_refl];simp only[cond_true,q],fun a h q=>by unfold gR ql;rw[Nat.beq_refl];simp only[cond_true,q];rfl⟩
theorem tP(l:List Hd):l.flatMap Hd.cells=l.map (fun d=>.slice d.a d.n d.c):=by
 induction l with
 |nil=>rfl
 |cons d l ih=>rw[List.flatMap_cons,ih];rfl
theorem EL{ra:Option Addr}{k rc vb:Nat}(h:af):jA [.slice ra k rc,.int .i64 (k:Int),.slice (some ⟨vb,0,none⟩) 1 1] h=none:=by
 cases hc:jA [.slice ra k rc,.int .i64 (k:Int),.slice (some ⟨vb,0,none⟩) 1 1] h with
 |none=>rfl
 |some p=>
  exfalso;obtain⟨b,n,i,vb2,cs,v,e,_,_,_,hi,_⟩:=ou (r:=p.1) (h':=p.2) hc;simp only[List.cons.injEq,Value.slice.injEq,Value.int.injEq]at e;obtain⟨⟨_,e1,_⟩,⟨_,e2⟩,_⟩:=e;have:(k:Int)=(i:Int):=e2;omega
theorem Tw(bs:Nat->Nat)(w k:Nat):((kS bs w k).flatMap Hd.cells).all aF=true:=by
 rw[tP,List.all_eq_true];intro v hv;obtain⟨d,hd,rfl⟩:=List.mem_map.1 hv;unfold kS kR at hd;obtain⟨y,_,rfl⟩:=List.mem_map.1 hd;rfl
theorem Np:pX ((cE Tryz.prog Bs GW 10000).call 5 [] kE)=true:=by kernel_rfl
theorem Nq:dC Tryz.prog vD:=DU (tu mixed J9 EM named 10000).2.2.1 Tryz.func5 (by kernel_rfl) (named 5 _ Tryz.func5) Np uZ
theorem EN(g:FuncId)(args:List Value)(h:af)(hg:own g=false):vD g args h=ss g args h:=by
 rw[<-vP g args h hg];unfold own at hg;simp only[Bool.or_eq_false_iff]at hg;unfold vD nA;rw[hg.1.1];rfl
theorem GX(h:af):vD 5 [] h=some (.bool true,h):=rfl
theorem Ka:sH vD:=⟨fun a h r q=>zn.ins a h r q,fun a h q=>zn.non a h q⟩
theorem zjh{P:Prop}{G:af->Prop}(ok:af->Prop)(h1:Bx (∀v,ok v->G v)->P)(h2:∀v,ok v->G v):P:=h1 ⟨h2⟩
theorem zjp{P G:Prop}(C:Prop)(h1:Bx (C->G)->P)(h2:C->G):P:=h1 ⟨h2⟩
open Go.RowKit
variable{F:bg}{call head arith a0 d0 e0 f0 j0 k0 l0 m0 ofNat n0 place o0 nz p0 rd wr push next r0 t0 u0 w0 x0 z0 d1 f1 l1 u1 a2 d2 f2 fresh aB aH wrote bZ lt ne kp i2 l2 yn a3 d3 e3 f3 g3 i3:_}(hA:AP F ⟨call,head,arith,a0,d0,e0,f0,j0,k0,l0,m0,ofNat,n0,place,o0,nz,p0,rd,wr,push,next,r0,t0,u0,w0,x0,z0,d1,f1,l1,u1,a2,d2,f2,fresh,aB,aH,wrote,bZ,lt,ne,kp,i2,l2,yn,a3,d3,e3,f3,g3,i3⟩)
include hA
theorem Kb{b w c:Nat}{v:Ext.aR}{h:af}(hw:w<=1000)(hr:∀x,x<w->h.aN ⟨b,0+x*1,none⟩ 1=some [.int .i64 (v x)]){W:Int}(eW:W=w){Q:Exit->SS->Prop}
  (iu:∀L,L=(Ext.aj w v:Int)->Ext.aj w v<w->Q .ret ⟨[(2,.int .i64 L),(14,.int .i64 L),(3,.int .i64 L)],0,[],h⟩)
  (dr:∀(kn:Nat) (T:List (Nat×List Value)),Ext.aj w v=w->Q (.exit 0) ⟨[(0,.slice (some ⟨b,0,none⟩) w c)],kn,T,h⟩) :
  ∀(d j:Nat) (J:Int),w-j<=d->j<=w->J=j->(∀i,i<j->v i=0)->
   head 47 2 0 ⟨[(0,.slice (some ⟨b,0,none⟩) w c),(5,.slice (some ⟨b,0,none⟩) w c),(6,.int .i64 W),(7,.int .i64 J)],0,[],h⟩ Q:=by
 refine o8 (fun d ih=>?_);intro j J hd hj eJ hz;by_cases cj:j<w
 rotate_left
 ·refine hA.au Tryz.func47 x47.2 (zc ?_)
  refine br (J<W) (by rw[aA hA]) (fun q=>om) (fun _=>?_)<;>refine zc ?_;exact dr _ _ (Ext.iK (Nat.le_refl _) (fun i hi=>hz i om) (fun q=>om))
 obtain⟨d,rfl⟩:∃k,d=k+1:=⟨d-1,om⟩
 replace ih:=ih d rfl
 obtain⟨x,hx⟩:∃z,z=v j:=⟨_,rfl⟩;have r1:rd h b (place 0 J 1) 1 [.int .i64 x]:=aE hA (by rw[eJ,hx];exact hr j cj);refine hA.au Tryz.func47 x47.2 (zc ?_);refine br (J<W) (by rw[aA hA]) (fun _=>?_) (fun q=>om)<;>refine zc ?_;refine zq ?_;refine br (x≠0) (by rw[bR hA]) (fun e=>?_) (fun e=>?_)<;>refine zc ?_
 ·have hl:Ext.aj w v=j:=Ext.iK om hz (fun _=>by rw[<-hx];exact e)
  exact iu J om om
 ·rw[aG hA om om]
  refine ih (j+1) (J+1) om om om (fun i hi=>?_);by_cases ei:i=j
  ·rw[ei,<-hx];omega
  ·exact hz i om
theorem rC{b w c:Nat}{v:Ext.aR}{h:af}(ar:h.low<=h.next)(hw:w<=1000)(hr:∀x,x<w->h.aN ⟨b,0+x*1,none⟩ 1=some [.int .i64 (v x)]){Q:Value->af->Prop}(hQ:∀L:Int,L=Ext.aj w v->Q (.int .i64 L) h) :
  call 47 [.slice (some ⟨b,0,none⟩) w c] h Q:=by
 obtain⟨W,eW⟩:∃z:Int,z=w:=⟨_,rfl⟩;have e1:ofNat w=W:=by rw[eW];exact aJ hA w
 refine hA.aO Tryz.func47 x47.2 (hA.alike _ _ _ rfl) ar (zc ?_)
 (refine zq ?_;repeat ((first|rw[e1]);refine zq ?_))
 refine Kb hA hw hr eW (fun L eL _=>?_) (fun kn T e=>?_) w 0 0 om om rfl (fun i hi=>om)
 ·refine zc ?_
  exact hQ L eL
 ·(refine zq ?_;repeat ((first|rw[e1]);refine zq ?_))
  exact hQ W om
theorem rD{a b:Int}(hb:0<b)(h1:-9000000000000000000<=a)(h2:a<=9000000000000000000){h:af}(ar:h.low<=h.next){Q:Value->af->Prop}(hQ:∀q,q=a / b->Q (.int .i64 q) h):call 49 [.int .i64 a,.int .i64 b] h Q:=by
 have q0:=Int.natAbs_tdiv_le_natAbs a b;obtain⟨t,et⟩:∃z,z=a.tdiv b:=⟨_,rfl⟩;obtain⟨r,er⟩:∃z,z=a.tmod b:=⟨_,rfl⟩;have k1:arith .quo .i64 a b=t:=by rw[et,A3 hA];exact wrap64 om om
 have k2:arith .rem .i64 a b=r:=by rw[er,A4 hA]
 have key:=Int.mul_tdiv_add_tmod a b;rw[<-et,<-er]at key;have v8:r<b:=by
  rw[er];have:=Int.tmod_lt_of_pos a hb;exact this
 have BN:-b<r:=by
  have h:=Int.neg_tmod a b;have:=Int.tmod_lt_of_pos (-a) hb;omega
 refine hA.aO Tryz.func49 x49.2 (hA.alike _ _ _ rfl) ar (zc ?_);refine⟨dF hA om,?_⟩;refine zc ?_;rw[k1];refine zc ?_;refine⟨dF hA om,?_⟩;refine zc ?_;rw[k2];refine zc ?_;have hd:∀q:Int,(q*b<=a/\a<q*b+b)->q=a / b:=fun q ⟨z1,z2⟩=>by
  have y1:=Int.emod_nonneg a (show b≠0 by omega);have y2:=Int.emod_lt_of_pos a hb;have y3:=Int.emod_add_mul_ediv a b;rw[Int.mul_comm]at y3;rcases Int.lt_trichotomy q (a / b)with c|c|c
  ·have:=Int.mul_le_mul_of_nonneg_right (show q+1<=a / b by omega) (Int.le_of_lt hb)
   rw[Int.add_mul]at this;omega
  ·exact c
  ·have:=Int.mul_le_mul_of_nonneg_right (show a / b+1<=q by omega) (Int.le_of_lt hb)
   rw[Int.add_mul]at this;omega
 rw[Int.mul_comm]at key;refine br (r<0) (by rw[aA hA]) (fun c=>?_) (fun c=>?_)<;>refine zc ?_
 ·rw[bN hA om om]
  exact hQ _ (hd _ (by rw[Int.sub_mul];omega))
 ·exact hQ _ (hd _ om)
theorem Kc{h0 hs:af}{n w r y c1 c2:Nat}{bs:Nat->Nat}{F:Nat->Ext.aR}{t:Int}(hr:r<n)(hy:y<n)(hw:w<=1000)(hb:∀x,x<w->(F r x).natAbs<=9000000000000000000/\(t*F y x).natAbs<=9000000000000000000/\(F r x-t*F y x).natAbs<=9000000000000000000){W:Int}(eW:W=w){Q:Exit->SS->Prop}
  (hQ:∀(h':af) (kn:Nat) (T:List (Nat×List Value)),dQ h0 h' n w bs (Cx F r w (fun x=>F r x-t*F y x))->kA hs h' (bs r)->Q (.exit 0) ⟨[],kn,T,h'⟩) :
  ∀(d j:Nat) (J:Int) (h:af),w-j<=d->j<=w->J=j->dQ h0 h n w bs (Cx F r j (fun x=>F r x-t*F y x))->kA hs h (bs r)->
   head 89 1 0 ⟨[(0,.slice (some ⟨bs r,0,none⟩) w c1),(1,.slice (some ⟨bs y,0,none⟩) w c2),(2,.int .i64 t),(8,.int .i64 W),(9,.int .i64 J)],0,[],h⟩ Q:=by
 refine o8 (fun d ih=>?_);intro j J h hd hj eJ m st;by_cases cj:j<w
 rotate_left
 ·refine hA.au Tryz.func89 x89.2 (zc ?_)
  refine br (J<W) (by rw[aA hA]) (fun q=>om) (fun _=>?_)<;>refine zc ?_;obtain rfl:j=w:=om
  exact hQ h _ _ m st
 obtain⟨d,rfl⟩:∃k,d=k+1:=⟨d-1,om⟩
 replace ih:=ih d rfl
 have x9:Ext h (aH h 13):=aw hA _ _;have m9:=m.more x9;obtain⟨a,ha⟩:∃z,z=F r j:=⟨_,rfl⟩;obtain⟨b,vr⟩:∃z,z=F y j:=⟨_,rfl⟩;have r1:rd (aH h 13) (bs r) (place 0 J 1) 1 [.int .i64 a]:=aE hA (by
  have:=m9.el hr cj;rw[show Cx F r j (fun x=>F r x-t*F y x) r j=a by unfold Cx;rw[if_neg om,ha]]at this;rw[eJ];exact this)
 have r2:rd (aH h 13) (bs y) (place 0 J 1) 1 [.int .i64 b]:=aE hA (by
  have:=m9.el hy cj;rw[show Cx F r j (fun x=>F r x-t*F y x) y j=b by unfold Cx;rw[if_neg om,vr]]at this;rw[eJ];exact this)
 obtain⟨b1,b2,b3⟩:=hb j cj;rw[<-ha]at b1 b3;rw[<-vr]at b2 b3;obtain⟨u,hu⟩:∃z,z=t*b:=⟨_,rfl⟩;rw[<-hu]at b2 b3;have m1:arith .mul .i64 t b=u:=by rw[hu];exact jg hA om om
 obtain⟨g,hg⟩:∃z,z=a-u:=⟨_,rfl⟩;have m2:arith .sub .i64 a u=g:=by rw[hg];exact bN hA om om
 obtain⟨h2,w1,t2,wr2⟩:=m9.set hr cj g;have w1:wr (aH h 13) (bs r) (place 0 J 1) [.int .i64 g] h2:=yL hA (by rw[eJ];exact w1);refine hA.au Tryz.func89 x89.2 (zc ?_);refine br (J<W) (by rw[aA hA]) (fun _=>?_) (fun q=>om)<;>refine zc ?_
 (refine zq ?_;repeat ((first|rw[m1]|rw[m2]);refine zq ?_))
 rw[aG hA om om];refine ih (j+1) (J+1) h2 om om om (t2.congr (fun z x hz hx=>?_)) ((st.ext x9).wrote wr2);unfold tO Cx;by_cases c:z=r/\x=j
 ·rw[if_pos c,if_pos ⟨c.1,om⟩,c.2,hg,hu,ha,vr]
 ·rw[if_neg c]
  by_cases c2:z=r/\x<j
  ·rw[if_pos c2,if_pos ⟨c2.1,om⟩]
  ·rw[if_neg c2,if_neg (fun q=>c ⟨q.1,by
    by_cases e:x=j
    ·exact e
    ·exact absurd ⟨q.1,om⟩ c2⟩)]
theorem Cz{h0 h:af}(ar:h.low<=h.next){n w r y c1 c2:Nat}{bs:Nat->Nat}{F:Nat->Ext.aR}{t:Int}(hr:r<n)(hy:y<n)(hw:w<=1000)(hb:∀x,x<w->(F r x).natAbs<=9000000000000000000/\(t*F y x).natAbs<=9000000000000000000/\(F r x-t*F y x).natAbs<=9000000000000000000)
  (m:dQ h0 h n w bs F) {Q:Value->af->Prop} (hQ:∀h',dQ h0 h' n w bs (Ext.put F r (fun x=>F r x-t*F y x))->kA h h' (bs r)->Q (.tuple #[]) h') :
  call 89 [.slice (some ⟨bs r,0,none⟩) w c1,.slice (some ⟨bs y,0,none⟩) w c2,.int .i64 t] h Q:=by
 obtain⟨W,eW⟩:∃z:Int,z=w:=⟨_,rfl⟩;have e1:ofNat w=W:=by rw[eW];exact aJ hA w
 refine hA.aO Tryz.func89 x89.2 (hA.alike _ _ _ rfl) ar (zc ?_)
 (refine zq ?_;repeat ((first|rw[e1]);refine zq ?_))
 refine Kc hA hr hy hw hb eW (fun h' kn T m2 st=>?_) w 0 0 h om om rfl (m.congr (fun z x hz hx=>by unfold Cx;rw[if_neg om])) (.refl _ _);refine zc ?_;refine hQ h' (m2.congr (fun z x hz hx=>?_)) st;unfold Cx Ext.put;by_cases c:z=r
 ·rw[if_pos ⟨c,hx⟩,if_pos c]
 ·rw[if_neg (fun q=>c q.1),if_neg c]
theorem GY{h0 hs:af}(ar:h0.low<=h0.next){sb k n w rc r c:Nat}{ra:Option Addr}{bs:Nat->Nat}{F:Nat->Ext.aR}(hk:k<=10)(hr:r<n)(hw:w<=1000)(ec:c=Ext.aj w (F r))(hp:∀y,y<k->c<Ext.aj w (F y)->Ext.aj w (F y)<w/\0<F y (Ext.aj w (F y)))(fF:Ext.mj w F c k (F r)){C K:Int}(eC:C=c)(eK:K=k){cw:Nat}(qE:cw=az 1 w){Q:Exit->SS->Prop}
  (hQ:∀(h':af) (kn:Nat) (T:List (Nat×List Value)),oK h0 h' sb k n w ra rc bs (Ext.put F r (Ext.bI w F c k (F r)))->kA hs h' (bs r)->Q (.exit 0) ⟨[],kn,T,h'⟩) :
  ∀(d j:Nat) (J:Int) (h:af),k-j<=d->j<=k->J=j->oK h0 h sb k n w ra rc bs (Ext.put F r (Ext.bI w F c j (F r)))->kA hs h (bs r)->
   head 88 2 0 ⟨[(1,.slice (some ⟨bs r,0,none⟩) w cw),(4,.int .i64 C),(13,.slice ra k rc),(14,.int .i64 K),(15,.int .i64 J)],0,[],h⟩ Q:=by
 refine o8 (fun d ih=>?_);intro j J h hd hj eJ m st;by_cases cj:j<k
 rotate_left
 ·refine hA.au Tryz.func88 x88.2 (zc ?_)
  refine br (J<K) (by rw[aA hA]) (fun q=>om) (fun _=>?_)<;>refine zc ?_;obtain rfl:j=k:=om
  exact hQ h _ _ m st
 obtain⟨d,rfl⟩:∃k,d=k+1:=⟨d-1,om⟩
 replace ih:=ih d rfl
 obtain⟨b,rfl,hb,q1⟩:=m.head cj;rw[<-qE]at q1;have r1:rd h b (place 0 J 1) 1 [.slice (some ⟨bs j,0,none⟩) w cw]:=aE hA (by rw[eJ];exact q1);have zN:h.low<=h.next:=m.rows.ext.aD ar;refine hA.au Tryz.func88 x88.2 (zc ?_);refine br (J<K) (by rw[aA hA]) (fun _=>?_) (fun q=>om)<;>refine zc ?_;refine zq ?_;have hjn:j<n:=by have:=m.kn;omega
 refine rC hA zN hw (fun x hx=>m.rows.el hjn hx) (fun L eL=>?_);refine⟨L,rfl,?_⟩;refine zq ?_;obtain⟨G,eG⟩:∃z,z=Ext.put F r (Ext.bI w F c j (F r)):=⟨_,rfl⟩;have UP:G r=Ext.bI w F c j (F r):=by rw[eG];exact Ext.gB _
 have WJ:∀y,y≠r->G y=F y:=fun y hy=>by rw[eG];exact Ext.fT _ hy
 rw[<-eG]at m eL;refine br (C<L) (by rw[cS hA]) (fun cq=>?_) (fun cq=>?_)<;>refine zc ?_
 rotate_left
 ·rw[aG hA om om]
  refine ih (j+1) (J+1) h om om om ?_ st;have e:Ext.bI w F c (j+1) (F r)=Ext.bI w F c j (F r):=by
   show(if c<Ext.aj w (F j)then _ else _)=_;rw[if_neg];by_cases ej:j=r
   ·rw[ej,<-ec];omega
   ·rw[WJ j ej]at eL;omega
  rw[e,<-eG];exact m
 have Yx:j≠r:=fun e=>by
  rw[e,UP,ec,Ext.EK]at eL;omega
 rw[WJ j Yx]at eL;obtain⟨l,el⟩:∃z,z=Ext.aj w (F j):=⟨_,rfl⟩;rw[<-el]at eL;obtain⟨p1,p2⟩:=hp j cj om;rw[<-el]at p1 p2;have x9:Ext h (aH h 12):=aw hA _ _;have m9:=m.more x9;obtain⟨a,ha⟩:∃z,z=G r l:=⟨_,rfl⟩;obtain⟨b',vr⟩:∃z,z=F j l:=⟨_,rfl⟩;rw[<-vr]at p2;have r2:rd (aH h 12) (bs r) (place 0 L 1) 1 [.int .i64 a]:=aE hA (by rw[eL,ha];exact m9.rows.el hr p1);have r3:rd (aH h 12) (bs j) (place 0 L 1) 1 [.int .i64 b']:=aE hA (by
  rw[eL,vr,<-WJ j Yx];exact m9.rows.el hjn p1)
 refine zq ?_;have ho:=fF j cj om;refine rD hA p2 (by have:=(ho l).1;rw[ha,UP];omega) (by have:=(ho l).1;rw[ha,UP];omega) (aC hA _) (fun q eq=>⟨q,rfl,?_⟩);refine zq ?_;obtain⟨X,hX⟩:∃z,z=aB (aH h 12) (fresh (aH h 12)):=⟨_,rfl⟩;have xX:Ext h X:=by rw[hX];exact bW hA zN x9 (.refl _)
 rw[<-hX];have Yy:q=Ext.bI w F c j (F r) l / F j l:=by rw[eq,ha,UP,vr]
 refine Cz hA (aC hA X) hr hjn hw (fun x hx=>?_) (m.rows.more (xX.trans (fL hA X))) (fun h' m' Yz=>?_)
 ·have:=ho x
  rw[UP,WJ j Yx,Yy];rw[show Ext.bI w F c (j+1) (F r) x=Ext.bI w F c j (F r) x-Ext.bI w F c j (F r) l / F j l*F j x by
   show(if c<Ext.aj w (F j)then(fun x=>Ext.bI w F c j (F r) x-Ext.bI w F c j (F r) (Ext.aj w (F j)) / F j (Ext.aj w (F j))*F j x)else _) x=_;rw[if_pos om,el]]at this
  rw[<-el]at this;exact this
 refine zq ?_;rw[aG hA om om];have UQ:=(st.ext (xX.trans (fL hA X))).trans Yz;have st3:kA hs (aB X h') (bs r):=by rw[fv hA];exact⟨UQ.next,UQ.get⟩
 have st4:kA h (aB X h') (bs r):=by
  have:=((kA.refl h (bs r)).ext (xX.trans (fL hA X))).trans Yz;rw[fv hA];exact⟨this.next,this.get⟩
 have m2:dQ h0 (aB X h') n w bs (Ext.put G r (fun x=>G r x-q*G j x)):=by
  rw[fv hA];exact⟨Ext.Cd m'.ext (m.rows.ext.trans xX) ar,m'.row,m'.cI,m'.lt,m'.inj⟩
 refine ih (j+1) (J+1) _ om om om ?_ st3;have e:Ext.put G r (fun x=>G r x-q*G j x)=Ext.put F r (Ext.bI w F c (j+1) (F r)):=by
  rw[eG,Ext.jy,<-eG,UP,WJ j Yx,Yy]
  congr 1
  show _=(if c<Ext.aj w (F j)then(fun x=>Ext.bI w F c j (F r) x-Ext.bI w F c j (F r) (Ext.aj w (F j)) / F j (Ext.aj w (F j))*F j x)else _);rw[if_pos om,el]
 rw[<-e];exact m.put hr m2 st4
theorem tQ{h0 h:af}(dE:h0.low<=h0.next){sb k n w rc r:Nat}{ra:Option Addr}{bs:Nat->Nat}{F:Nat->Ext.aR}(hk:k<=10)(hr:r<n)(hw:w<=1000)(hp:∀y,y<k->Ext.aj w (F r)<Ext.aj w (F y)->Ext.aj w (F y)<w/\0<F y (Ext.aj w (F y)))(fF:Ext.mj w F (Ext.aj w (F r)) k (F r))(m:oK h0 h sb k n w ra rc bs F){cw:Nat}(qE:cw=az 1 w){Q:Value->af->Prop}
  (hQ:∀h',oK h0 h' sb k n w ra rc bs (Ext.put F r (Ext.bI w F (Ext.aj w (F r)) k (F r)))->kA h h' (bs r)->Q (.tuple #[]) h') :
  call 88 [.pointer (some ⟨sb,0,none⟩),.slice (some ⟨bs r,0,none⟩) w cw] h Q:=by
 obtain⟨K,eK⟩:∃z:Int,z=k:=⟨_,rfl⟩;have e1:ofNat k=K:=by rw[eK];exact aJ hA k
 have ar:h.low<=h.next:=m.rows.ext.aD dE;have r1:rd h sb (bZ 0 0) 1 [.slice ra k rc]:=by rw[dj hA];exact jf hA (m.own.aN (o:=0) (n:=1) (Nat.le_refl _))
 refine hA.aO Tryz.func88 x88.2 (hA.alike _ _ _ rfl) ar (zc ?_);refine zq ?_;refine rC hA ar hw (fun x hx=>m.rows.el hr hx) (fun L eL=>?_);refine⟨L,rfl,?_⟩
 (refine zq ?_;repeat ((first|rw[e1]);refine zq ?_))
 refine GY hA (sb:=sb) dE hk hr hw rfl hp fF eL eK qE (fun h' kn T m2 st=>?_) k 0 0 h om om rfl ?_ (.refl _ _)
 ·refine zc ?_
  exact hQ h' m2 st
 ·have:Ext.put F r (Ext.bI w F (Ext.aj w (F r)) 0 (F r))=F:=Ext.jx
  rw[this];exact m
theorem Kd{h0 h:af}(dE:h0.low<=h0.next){sb k n w rc c r:Nat}{ra:Option Addr}{bs:Nat->Nat}{F:Nat->Ext.aR}(hk:k<=10)(hr:r<n)(hw:w<=1000)(m:oK h0 h sb k n w ra rc bs F){C:Int}(eC:C=c){cw:Nat}(qE:cw=az 1 w){Q:Exit->SS->Prop}
  (hQ:∀(kn:Nat) (T:List (Nat×List Value)) (a:Nat) (I:Int),I=a->a<=k->(∀y,y<a->Ext.aj w (F y)<c)->(a<k->c<=Ext.aj w (F a))->Q (.exit 2) ⟨[(0,.pointer (some ⟨sb,0,none⟩)),(1,.slice (some ⟨bs r,0,none⟩) w cw),(4,.func (.func 88) #[.pointer (some ⟨sb,0,none⟩)] #[]),(5,.int .i64 C),(6,.int .i64 I)],kn,T,h⟩) :
  ∀(d j:Nat) (J:Int),k-j<=d->j<=k->J=j->(∀y,y<j->Ext.aj w (F y)<c)->
   head 73 5 0 ⟨[(0,.pointer (some ⟨sb,0,none⟩)),(1,.slice (some ⟨bs r,0,none⟩) w cw),(4,.func (.func 88) #[.pointer (some ⟨sb,0,none⟩)] #[]),(5,.int .i64 C),(6,.int .i64 J)],0,[],h⟩ Q:=by
 intro d;have ar:h.low<=h.next:=m.rows.ext.aD dE;obtain⟨K,eK⟩:∃z:Int,z=k:=⟨_,rfl⟩;have e1:ofNat k=K:=by rw[eK];exact aJ hA k
 have r1:rd h sb (bZ 0 0) 1 [.slice ra k rc]:=by rw[dj hA];exact jf hA (m.own.aN (o:=0) (n:=1) (Nat.le_refl _))
 have hkn:=m.kn
 induction d with
 |zero=>
  intro j J hd hj eJ hz;refine hA.au Tryz.func73 uT (zc ?_)
  (refine zq ?_;repeat ((first|rw[e1]);refine zq ?_))
  refine br (J<K) (by rw[aA hA]) (fun q=>om) (fun _=>?_)<;>refine zc ?_;refine zq ?_;exact hQ _ _ j J eJ hj hz (fun q=>om)
 |succ d ih=>
 intro j J hd hj eJ hz;refine hA.au Tryz.func73 uT (zc ?_)
 (refine zq ?_;repeat ((first|rw[e1]);refine zq ?_))
 refine br (J<K) (by rw[aA hA]) (fun cj=>?_) (fun cj=>?_)<;>refine zc ?_
 rotate_left
 ·refine zq ?_
  exact hQ _ _ j J eJ hj hz (fun q=>om)
 obtain⟨b,rfl,hb,q1⟩:=m.head (y:=j) om;rw[<-qE]at q1;have r2:rd h b (place 0 J 1) 1 [.slice (some ⟨bs j,0,none⟩) w cw]:=aE hA (by rw[eJ];exact q1);refine zq ?_;refine rC hA ar hw (fun x hx=>m.rows.el (show j<n by omega) hx) (fun L eL=>⟨L,rfl,?_⟩);refine zq ?_;refine br (L<C) (by rw[aA hA]) (fun cl=>?_) (fun cl=>?_)<;>refine zc ?_
 ·refine zq ?_
  rw[aG hA om om];exact ih (j+1) (J+1) om om om (fun y hy=>by
   by_cases e:y=j
   ·rw[e];omega
   ·exact hz y om)
 ·refine zq ?_
  exact hQ _ _ j J eJ hj hz (fun _=>om)
theorem Nr(hI:sH F){h0 h:af}(dE:h0.low<=h0.next){k w rc vb a:Nat}{ra:Option Addr}{bs:Nat->Nat}(hx:Ext h0 h)(hk:k<=10)(hp:mT h 1 ra k rc ((kS bs w k).flatMap Hd.cells))(fr:jm h0.next ra)(ha:a<=k){I:Int}(eI:I=a)(hv:ct h vb 1 (Hd.cells ⟨some ⟨bs k,0,none⟩,w,az 1 w⟩))(UR:vb<h.next)(eO:∀ad,ra=some ad->ad.block≠vb){Q:Value->af->Prop}
  (hQ:∀b h2,Ext h0 h2->h.next<=h2.next->(∀i,i<h.next->(∀ad,ra=some ad->ad.block≠i)->h2.m.get i=h.m.get i)->h.next<=b->b<h2.next->
   ct h2 b 1 (((kS bs w k).take a++(⟨some ⟨bs k,0,none⟩,w,az 1 w⟩:Hd) :: (kS bs w k).drop a).flatMap Hd.cells)->Q (.slice (some ⟨b,0,none⟩) (k+1) (az 1 (k+1))) h2) :
  call 90 [.slice ra k rc,.int .i64 I,.slice (some ⟨vb,0,none⟩) 1 1] h Q:=by
 have ar:h.low<=h.next:=hx.aD dE;have hlen:(kS bs w k).length=k:=bP _ _;by_cases c:a<k
 ·rcases hp with ⟨_,q,_⟩|⟨b0,rfl,ec,hb,hl,ho⟩
  ·omega
  have ng:h0.next<=b0:=fr _ rfl;have e:(((kS bs w k).take a++(⟨some ⟨bs k,0,none⟩,w,az 1 w⟩:Hd) :: (kS bs w k).drop a).flatMap Hd.cells)=((kS bs w k).flatMap Hd.cells).take a++(.slice (some ⟨bs k,0,none⟩) w (az 1 w)) :: ((kS bs w k).flatMap Hd.cells).drop a:=by
   rw[tP,tP,List.map_append,List.map_cons,List.map_take,List.map_drop]
  have key:jA [.slice (some ⟨b0,0,none⟩) k rc,.int .i64 I,.slice (some ⟨vb,0,none⟩) 1 1] h=some (.slice (some ⟨h.next,0,none⟩) (k+1) (az 1 (k+1)),(h.kill b0).push 1 (((kS bs w k).flatMap Hd.cells).take a++(.slice (some ⟨bs k,0,none⟩) w (az 1 w)) :: ((kS bs w k).flatMap Hd.cells).drop a)):=by
   unfold jA;have q1:h.m.get b0=some (.live true 1 ((kS bs w k).flatMap Hd.cells)):=ho;have q2:h.m.get vb=some (.live true 1 [.slice (some ⟨bs k,0,none⟩) w (az 1 w)]):=hv;simp only[q1,q2];have z1:Nat.beq rc (az 1 k)=true:=by rw[ec];exact Nat.beq_refl _
   have z2:Nat.beq ((kS bs w k).flatMap Hd.cells).length k=true:=by rw[hl,Nat.mul_one];exact Nat.beq_refl _
   have z3:decide (0<=I/\I<k)=true:=by simp;omega
   have z4:((kS bs w k).flatMap Hd.cells).all Aj=true:=by
    rw[tP,List.all_eq_true];intro v hv;obtain⟨d,hd,rfl⟩:=List.mem_map.1 hv;unfold kS kR at hd;obtain⟨y,_,rfl⟩:=List.mem_map.1 hd;rfl
   have z5:Nat.beq b0 vb=false:=Ke (eO _ rfl);have z6:Nat.ble k 1000=true:=bz om;simp only[z1,z2,z3,z4,z5,z6,Aj,Bool.and_self,Bool.not_false,cond_true];rw[show I.toNat=a by omega]
  refine hA.Mf (hI.ins _ _ _ key) ?_;have x1:Ext h0 ((h.kill b0).push 1 (((kS bs w k).flatMap Hd.cells).take a++(.slice (some ⟨bs k,0,none⟩) w (az 1 w)) :: ((kS bs w k).flatMap Hd.cells).drop a)):=(hx.kill ng).trans (.push _ _ _);refine hQ h.next _ x1 (Nat.le_succ _) (fun i hi hni=>?_) (Nat.le_refl _) (Nat.lt_succ_self _) ?_
  ·show((h.m.set b0 .dead).set h.next _).get i=_
   rw[cW.aT _ _ om,cW.aT _ _ (hni _ rfl)]
  ·rw[e];exact ct.push (h.kill b0) 1 _
 ·obtain rfl:a=k:=om
  have WK:F 90 [.slice ra a rc,.int .i64 I,.slice (some ⟨vb,0,none⟩) 1 1] h=none:=by rw[eI];exact hI.non _ _ (EL h)
  have e1:ofNat 1=1:=aJ hA 1;have e2:ofNat a=I:=by rw[eI];exact aJ hA a
  have na:rc=az 1 a\/(a=0/\ra=none/\rc=0):=by
   rcases hp with ⟨q1,q2,q3,_⟩|⟨b0,_,ec,_⟩
   ·exact .inr ⟨q2,q1,q3⟩
   ·exact .inl ec
  refine hA.aO Tryz.func90 x90.2 WK ar (zc ?_);rw[eI];refine Nt hA Bd om na hp.cells (Nat.le_refl a) (fun a' c' _=>?_);rw[<-eI]
  (refine zq ?_;repeat ((first|rw[e1]);refine zq ?_))
  refine br ((1:Int)=0) (by rw[cY hA]) (fun q=>om) (fun _=>?_)<;>refine zc ?_
  (refine zq ?_;repeat ((first|rw[e2]);refine zq ?_))
  refine br (I=I) (by rw[cY hA]) (fun _=>?_) (fun q=>absurd rfl q)<;>refine zc ?_;refine zq ?_;rw[vF hA];have hs:Cells h (some ⟨vb,0,none⟩) 1 1 (Hd.cells ⟨some ⟨bs a,0,none⟩,w,az 1 w⟩):=⟨rfl,UR,hv.aN (o:=0) (n:=1) (Nat.le_refl _)⟩;obtain⟨a',c',h',q1,q2,q3,q4,q5,q6⟩:=vC Bd Bd.yE (c2:=1) hp hs (Tw bs w a) rfl om om;obtain⟨x1,_⟩:=q3 h0 hx fr;rcases q2 with ⟨_,w',_⟩|⟨b',rfl,rfl,w1,w2,w3⟩
  ·omega
  refine⟨_,_,_,h',q1,?_⟩;have hq:=hQ b' h' x1 q4 (fun i hi hni=>q6 i hi hni) (q5 _ rfl) w1 (by
   rw[List.take_of_length_le om,List.drop_eq_nil_of_le om,List.flatMap_append];simpa using w3)
  generalize az 1 (a+1)=cc at *;generalize a+1=a1 at *;refine zq ?_;exact hq
set_option maxHeartbeats 1000000 in
theorem Nu(hI:sH F){h0:af}(dE:h0.low<=h0.next){sb k w cw:Nat}{F0:Nat->Ext.aR}(hw:w<=1000)(qE:cw=az 1 w)(hM:∀i,i<k+1->∀j,(F0 i j).natAbs<=9){Q:Exit->SS->Prop}
  (hQ:∀(h':af) (kn:Nat) (T:List (Nat×List Value)) ra rc bs A,oK h0 h' sb (k+1) (k+1) w ra rc bs A->Ext.sG w (k+1) (k+1) A F0->Q (.exit 0) ⟨[(0,.pointer (some ⟨sb,0,none⟩)),(4,.func (.func 88) #[.pointer (some ⟨sb,0,none⟩)] #[])],kn,T,h'⟩) :
  ∀(D M:Nat) (h:af) (ra:Option Addr) (rc:Nat) (bs:Nat->Nat) (A:Nat->Ext.aR),oK h0 h sb k (k+1) w ra rc bs A->Ext.Fv w k A F0 D M->
   head 73 1 0 ⟨[(0,.pointer (some ⟨sb,0,none⟩)),(1,.slice (some ⟨bs k,0,none⟩) w cw),(4,.func (.func 88) #[.pointer (some ⟨sb,0,none⟩)] #[])],0,[],h⟩ Q:=by
 intro D
 induction D using Nat.strongRecOn with
 |_ D ihD=>
 intro M
 induction M using Nat.strongRecOn with
 |_ M ihM=>
 intro h ra rc bs A m r;have k3:=r.base.k3;have ar:h.low<=h.next:=m.rows.ext.aD dE;obtain⟨lo1,b1⟩:=r.low;have KO:=r.base.lead;refine hA.au Tryz.func73 uT (zc ?_);refine tQ hA (sb:=sb) (r:=k) dE om om hw (fun y hy _=>⟨r.base.gI.lt y hy,r.base.gI.pos y hy⟩) lo1 m qE (fun h1 m1 _=>?_);have Iw:h1.low<=h1.next:=m1.rows.ext.aD dE;obtain⟨u,eu⟩:∃z,z=Ext.bI w A (Ext.aj w (A k)) k (A k):=⟨_,rfl⟩;rw[<-eu]at m1 b1;obtain⟨A1,eA⟩:∃z,z=Ext.put A k u:=⟨_,rfl⟩;have RU:A1 k=u:=by rw[eA];exact Ext.gB u
 have Tx:∀y,y<k->A1 y=A y:=fun y hy=>by rw[eA];exact Ext.fT u om
 rw[<-eA]at m1;have WA:Ext.aj w u=Ext.aj w (A k):=by rw[eu];exact Ext.EK k
 refine zq ?_;refine rC hA Iw hw (fun x hx=>m1.rows.el (show k<k+1 by omega) hx) (fun C eC=>⟨C,rfl,?_⟩);rw[RU,WA]at eC;obtain⟨W,eW⟩:∃z:Int,z=w:=⟨_,rfl⟩;have e1:ofNat w=W:=by rw[eW];exact aJ hA w
 (refine zq ?_;repeat ((first|rw[e1]);refine zq ?_))
 refine br (C=W) (by rw[cY hA]) (fun q=>om) (fun _=>?_)<;>refine zc ?_;refine zq ?_;refine Kd hA (sb:=sb) (r:=k) dE om om hw m1 eC qE (fun kn T a I eI ak lo hi=>?_) k 0 0 om om rfl (fun y hy=>om);obtain⟨K,eK⟩:∃z:Int,z=k:=⟨_,rfl⟩;have e2:ofNat k=K:=by rw[eK];exact aJ hA k
 have r1:rd h1 sb (bZ 0 0) 1 [.slice ra k rc]:=by rw[dj hA];exact jf hA (m1.own.aN (o:=0) (n:=1) (Nat.le_refl _))
 (refine zq ?_;repeat ((first|rw[e2]);refine zq ?_))
 apply zjp (∀z,a<=z->z<k->Ext.aj w (A k)<Ext.aj w (A z))
 ·intro bx
  refine br (I=K) (by rw[cY hA]) (fun ca=>?_) (fun ca=>?_)<;>refine zc ?_
  ·refine zq ?_
   exact bx.o (fun z h1 h2=>om)
  have ha:a<k:=om
  obtain⟨b,rfl,hb,q1⟩:=m1.head ha;rw[<-qE]at q1;have r2:rd h1 b (place 0 I 1) 1 [.slice (some ⟨bs a,0,none⟩) w cw]:=aE hA (by rw[eI];exact q1);refine zq ?_;refine rC hA Iw hw (fun x hx=>m1.rows.el (show a<k+1 by omega) hx) (fun L eL=>⟨L,rfl,?_⟩);rw[Tx a ha]at eL;refine zq ?_;refine br (C<L) (by rw[cS hA]) (fun cl=>?_) (fun cl=>?_)<;>refine zc ?_
  ·refine zq ?_
   exact bx.o (fun z h1 h2=>by
    by_cases e:z=a
    ·rw[e];omega
    ·have:=r.base.gI.inc a z om h2;omega)
  ·have he:Ext.aj w (A a)=Ext.aj w (A k):=by have:=hi ha;rw[Tx a ha]at this;omega
   obtain⟨q,eq⟩:∃z,z=u (Ext.aj w (A k)) / A a (Ext.aj w (A k)):=⟨_,rfl⟩;obtain⟨u2,eu2⟩:∃z,z=fun j=>u j-q*A a j:=⟨_,rfl⟩
   obtain⟨sr,sn⟩:=r.step ha he eu eq eu2;obtain⟨x,ex⟩:∃z,z=u (Ext.aj w (A k)):=⟨_,rfl⟩;obtain⟨y,ey⟩:∃z,z=A a (Ext.aj w (A k)):=⟨_,rfl⟩;have hy:0<y:=by rw[ey,<-he];exact r.base.gI.pos a ha
   have x9:Ext h1 (aH h1 24):=aw hA _ _;have m9:=m1.more x9;have s1:rd (aH h1 24) sb (bZ 0 0) 1 [.slice (some ⟨b,0,none⟩) k rc]:=by rw[dj hA];exact jf hA (m9.own.aN (o:=0) (n:=1) (Nat.le_refl _))
   have s2:rd (aH h1 24) b (place 0 I 1) 1 [.slice (some ⟨bs a,0,none⟩) w cw]:=aE hA (by
    rw[eI];obtain⟨b',e',_,q2⟩:=m9.head ha;cases e';rw[<-qE]at q2;exact q2)
   have s3:rd (aH h1 24) (bs k) (place 0 C 1) 1 [.int .i64 x]:=aE hA (by
    rw[eC,ex,<-RU];exact m9.rows.el (show k<k+1 by omega) KO)
   have s4:rd (aH h1 24) (bs a) (place 0 C 1) 1 [.int .i64 y]:=aE hA (by
    rw[eC,ey,<-Tx a ha];exact m9.rows.el (show a<k+1 by omega) KO)
   refine zq ?_;have hx:=(sr (Ext.aj w (A k))).1;rw[<-ex]at hx;refine rD hA hy om om (aC hA _) (fun q' WL=>⟨q',rfl,?_⟩);obtain rfl:q'=q:=by rw[WL,eq,ex,ey]
   refine zq ?_;obtain⟨X,hX⟩:∃z,z=aB (aH h1 24) (fresh (aH h1 24)):=⟨_,rfl⟩;have xX:Ext h1 X:=by rw[hX];exact bW hA Iw x9 (.refl _)
   rw[<-hX];refine Cz hA (aC hA X) (show k<k+1 by omega) (show a<k+1 by omega) hw (fun j hj=>by rw[RU,Tx a ha];exact sr j) (m1.rows.more (xX.trans (fL hA X))) (fun h' m' Yz=>?_);rw[RU,Tx a ha,<-eu2,eA,Ext.jy]at m';obtain⟨h2,Iy⟩:∃z,z=aB X h':=⟨_,rfl⟩;have m2:dQ h0 h2 (k+1) w bs (Ext.put A k u2):=by
    rw[Iy,fv hA];exact⟨Ext.Cd m'.ext (m1.rows.ext.trans xX) dE,m'.row,m'.cI,m'.lt,m'.inj⟩
   have UQ:kA h1 h2 (bs k):=by
    have:=((kA.refl h1 (bs k)).ext (xX.trans (fL hA X))).trans Yz;rw[Iy,fv hA];exact⟨this.next,this.get⟩
   have M2:=m1.put (show k<k+1 by omega) m2 UQ;have aaF:h2.low<=h2.next:=M2.rows.ext.aD dE;obtain⟨x2,OX⟩:∃z,z=u2 (Ext.aj w (A k)):=⟨_,rfl⟩;have t1:rd h2 (bs k) (place 0 C 1) 1 [.int .i64 x2]:=aE hA (by
    have:=m2.el (show k<k+1 by omega) KO;rw[Ext.gB]at this;rw[eC,OX];exact this)
   have fp:∀b0,b0<h1.next->kp false (wrote (aH h1 24) (fresh (aH h1 24))) false b0 (bZ (next h1) 24):=fun b0 ng=>Tc hA (by rw[j7 hA,mV hA]) (by rw[dj hA,cX hA];omega)
   refine zq ?_;refine⟨fp sb m1.s1,fp b hb,?_⟩;refine zc ?_;rw[<-Iy];refine zq ?_;refine br (x2≠0) (by rw[bR hA]) (fun c0=>?_) (fun c0=>?_)<;>refine zc ?_
   rotate_left
   ·rcases sn with ⟨_,D',M',VL,rn⟩|⟨n1,_⟩
    ·exact ihD D' VL M' h2 _ rc bs _ M2 rn
    ·exfalso;rw[he,<-OX]at n1;exact c0 n1
   rcases sn with ⟨n1,_⟩|⟨n1,n2,n3,n4,M',uv,rn⟩
   ·exfalso;rw[he,<-OX]at n1;exact c0 n1
   have p2k:Ext.put A k u2 k=u2:=Ext.gB u2;have p2n:∀z,z<k->Ext.put A k u2 z=A z:=fun z hz=>Ext.fT u2 om
   refine tQ hA (sb:=sb) (r:=k) dE om om hw (fun z hz _=>by rw[p2n z hz];exact⟨r.base.gI.lt z hz,r.base.gI.pos z hz⟩) (by rw[p2k,n2];exact n3.congr p2n) M2 qE (fun h3 m3 _=>?_);rw[p2k,n2,Ext.ml p2n k (Nat.le_refl _),Ext.jy]at m3;obtain⟨u3,eu3⟩:∃z,z=Ext.bI w A (Ext.aj w (A a)) k u2:=⟨_,rfl⟩;rw[<-eu3]at m3 rn;have aaG:h3.low<=h3.next:=m3.rows.ext.aD dE;have x16:Ext h3 (aH h3 16):=aw hA _ _;have m16:=m3.more x16;have y1:rd (aH h3 16) sb (bZ 0 0) 1 [.slice (some ⟨b,0,none⟩) k rc]:=by rw[dj hA];exact jf hA (m16.own.aN (o:=0) (n:=1) (Nat.le_refl _))
   have y2:rd (aH h3 16) b (place 0 I 1) 1 [.slice (some ⟨bs a,0,none⟩) w cw]:=aE hA (by
    rw[eI];obtain⟨b',e',_,q2⟩:=m16.head ha;cases e';rw[<-qE]at q2;exact q2)
   obtain⟨b4,h4,e4,w4,m4⟩:=m16.swap ha;cases e4;have y3:wr (aH h3 16) b (place 0 I 1) [.slice (some ⟨bs k,0,none⟩) w cw] h4:=yL hA (by rw[eI,qE];exact w4);refine zq ?_;have fin:=ihM M' uv h4 _ rc (fun y=>bs (Iv a k y)) (Ext.put (Ext.put A a u3) k (A a)) (m4.congr (fun y x hy hx=>?_)) rn
   ·rw[show Iv a k k=a by unfold Iv;rw[if_neg om,if_pos rfl]]at fin
    exact fin
   ·unfold Iv
    by_cases c1:y=a
    ·rw[if_pos c1,c1,Ext.gB,Ext.fT _ om,Ext.gB]
    ·rw[if_neg c1]
     by_cases c2:y=k
     ·rw[if_pos c2,c2,Ext.gB,Ext.fT _ om]
     ·rw[if_neg c2,Ext.fT _ c2,Ext.fT _ c2,Ext.fT _ c1]
 ·intro zZ
  have Yv:∀y,y<a->Ext.aj w (A y)<Ext.aj w (A k):=fun y hy=>by have:=lo y hy;rw[Tx y om]at this;exact this
  obtain⟨o1,o2,o3,o4⟩:=r.own hM ak Yv zZ eu;obtain⟨x,ex⟩:∃z,z=u (Ext.aj w (A k)):=⟨_,rfl⟩;have r3:rd h1 (bs k) (place 0 C 1) 1 [.int .i64 x]:=aE hA (by
   rw[eC,ex,<-RU];exact m1.rows.el (show k<k+1 by omega) KO)
  have hu0:u (Ext.aj w (A k))≠0:=by
   have:=Ext.lV (w:=w) (v:=u) (by rw[WA];exact KO);rw[WA]at this;exact this
  refine zq ?_;apply zjh (fun hh=>∃A',oK h0 hh sb k (k+1) w ra rc bs A'/\(∀z,z<k->A' z=A z)/\Ext.sG w (k+1) (k+1) (Ext.jT A a (A' k)) F0)
  ·intro bx
   refine br (x<0) (by rw[aA hA]) (fun c0=>?_) (fun c0=>?_)<;>refine zc ?_
   rotate_left
   ·refine zq ?_
    obtain⟨g,eg⟩:∃g,g=h1:=⟨_,rfl⟩;rw[<-eg];exact bx.o g ⟨A1,by rw[eg];exact m1,Tx,by rw[RU];exact o3 om⟩
   obtain⟨v,ev⟩:∃z,z=fun j=>u j-2*u j:=⟨_,rfl⟩
   obtain⟨v1,v2,v3⟩:=o4 om v ev;refine zq ?_;refine Cz hA Iw (show k<k+1 by omega) (show k<k+1 by omega) hw (fun j hj=>by rw[RU];have:=o2 j;omega) m1.rows (fun h2 m2 UQ=>?_);rw[RU,<-ev,eA,Ext.jy]at m2;have M2:=m1.put (show k<k+1 by omega) m2 UQ;have pk:Ext.put A k v k=v:=Ext.gB v;have pn:∀z,z<k->Ext.put A k v z=A z:=fun z hz=>Ext.fT v om
   refine zq ?_;refine tQ hA (sb:=sb) (r:=k) dE om om hw (fun z hz _=>by rw[pn z hz];exact⟨r.base.gI.lt z hz,r.base.gI.pos z hz⟩) (by rw[pk,v1];exact v2.congr pn) M2 qE (fun h3 m3 _=>?_);rw[pk,v1,Ext.ml pn k (Nat.le_refl _),Ext.jy]at m3;have r5:rd h3 sb (bZ 0 0) 1 [.slice ra k rc]:=by rw[dj hA];exact jf hA (m3.own.aN (o:=0) (n:=1) (Nat.le_refl _))
   refine zq ?_;exact bx.o h3 ⟨_,m3,fun z hz=>Ext.fT _ om,by rw[Ext.gB];exact v3⟩
  rintro hh ⟨A',m2,a2n,sk⟩;have aaH:hh.low<=hh.next:=m2.rows.ext.aD dE;have xp:Ext hh (push hh 1 [.slice (some ⟨bs k,0,none⟩) w cw]):=by rw[dy hA];exact .push _ _ _
  have mp:=m2.more xp;have ov:ct (push hh 1 [.slice (some ⟨bs k,0,none⟩) w cw]) (next hh) 1 [.slice (some ⟨bs k,0,none⟩) w cw]:=by rw[dy hA,cX hA];exact ct.push _ _ _
  have np:(push hh 1 [.slice (some ⟨bs k,0,none⟩) w cw]).next=hh.next+1:=by rw[dy hA];rfl
  have nv:next hh=hh.next:=cX hA hh;have dW:=m2.qD.lt;generalize push hh 1 [.slice (some ⟨bs k,0,none⟩) w cw]=hp at *;rw[nv]at ov ⊢;generalize hh.next=vb at *;refine Nr hA hI dE mp.rows.ext om mp.qD mp.fr ak eI (by rw[qE]at ov;exact ov) om (fun ad dc=>by have:=dW ad dc;omega) (fun b h2 x2 n2 g2 b1 b2 o2=>?_);obtain⟨h3,w3,m3⟩:=mp.ins ak x2 n2 g2 b1 b2 o2;have m4:oK h0 h3 sb (k+1) (k+1) w (some ⟨b,0,none⟩) (az 1 (k+1)) (fun y=>bs (rJ a k y)) (Ext.jT A a (A' k)):=m3.congr (fun y x hy hx=>by
   show A' (rJ a k y) x=Ext.jT A a (A' k) y x;rw[J8 (F:=A') (k:=k) ak y hy];unfold Ext.jT;by_cases c1:y<a
   ·rw[if_pos c1,if_pos c1,a2n y om]
   ·rw[if_neg c1,if_neg c1]
    by_cases c2:y=a
    ·rw[if_pos c2,if_pos c2]
    ·rw[if_neg c2,if_neg c2,a2n _ om])
  have hq:=fun kn T=>hQ h3 kn T _ _ _ _ m4 sk
  generalize az 1 (k+1)=cc at *;generalize k+1=k1 at *;have w3:wr h2 sb (bZ 0 0) [.slice (some ⟨b,0,none⟩) k1 cc] h3:=by rw[dj hA];exact kP hA w3
  refine⟨_,_,_,rfl,?_⟩;refine zq ?_;exact hq _ _
theorem Kf{h0:af}(dE:h0.low<=h0.next){sb K w:Nat}{ra:Option Addr}{rc kn:Nat}{T:List (Nat×List Value)}{bs:Nat->Nat}{F0:Nat->Ext.aR}(hw:w<=1000){Q:Exit->SS->Prop}
  (hQ:∀(h':af) A,oK h0 h' sb K K w ra rc bs A->Ext.sG w K 0 A F0->Q (.exit 4) ⟨[],kn,T,h'⟩) :
  ∀(i:Nat) (I:Int) (h:af) (A:Nat->Ext.aR),i<=K->I=(i:Int)-1->oK h0 h sb K K w ra rc bs A->Ext.sG w K i A F0->
   head 73 17 kn ⟨[(0,.pointer (some ⟨sb,0,none⟩)),(4,.func (.func 88) #[.pointer (some ⟨sb,0,none⟩)] #[]),(7,.int .i64 I)],kn,T,h⟩ Q:=by
 intro i
 induction i with
 |zero=>
  intro I h A hi eI m sk;refine hA.au Tryz.func73 uT (zc ?_);refine br (0<=I) (by rw[bX hA]) (fun q=>om) (fun _=>?_)<;>refine zc ?_;exact hQ h A m sk
 |succ i ih=>
 intro I h A hi eI m sk;have k4:=sk.k4;have ar:h.low<=h.next:=m.rows.ext.aD dE;obtain⟨lo,sk2⟩:=sk.step om;obtain⟨b,rfl,hb,q1⟩:=m.head (y:=i) om;obtain⟨cw,qE⟩:∃z,z=az 1 w:=⟨_,rfl⟩;rw[<-qE]at q1;have r1:rd h sb (bZ 0 0) 1 [.slice (some ⟨b,0,none⟩) K rc]:=by rw[dj hA];exact jf hA (m.own.aN (o:=0) (n:=1) (Nat.le_refl _))
 have r2:rd h b (place 0 I 1) 1 [.slice (some ⟨bs i,0,none⟩) w cw]:=aE hA (by rw[show I.toNat=i by omega];exact q1);refine hA.au Tryz.func73 uT (zc ?_);refine br (0<=I) (by rw[bX hA]) (fun _=>?_) (fun q=>om)<;>refine zc ?_;refine zq ?_;refine tQ hA (sb:=sb) (r:=i) dE om om hw (fun y hy _=>⟨sk.gI.lt y hy,sk.gI.pos y hy⟩) lo m qE (fun h1 m1 _=>?_);refine zq ?_;rw[bN hA om om];exact ih (I-1) h1 _ om om m1 sk2
theorem Ty(hI:sH F){h0 h:af}(dE:h0.low<=h0.next){sb k w cw rc D M:Nat}{ra:Option Addr}{bs:Nat->Nat}{A F0:Nat->Ext.aR}(hw:w<=1000)(qE:cw=az 1 w)(hM:∀i,i<k+1->∀j,(F0 i j).natAbs<=9)(m:oK h0 h sb k (k+1) w ra rc bs A)(r:Ext.Fv w k A F0 D M){Q:Value->af->Prop}
  (hQ:∀h' US UT WM A',oK h0 h' sb (k+1) (k+1) w US UT WM A'->Ext.sG w (k+1) 0 A' F0->Q (.tuple #[]) h') :
  call 73 [.pointer (some ⟨sb,0,none⟩),.slice (some ⟨bs k,0,none⟩) w cw] h Q:=by
 have ar:h.low<=h.next:=m.rows.ext.aD dE;refine hA.aO Tryz.func73 uT (hA.alike _ _ _ rfl) ar (zc ?_);refine zq ?_;refine Nu hA hI (sb:=sb) dE hw qE hM (fun h1 kn T US UT WM A1 m1 sk=>?_) D M h ra rc bs A m r;obtain⟨K,eK⟩:∃z:Int,z=((k+1:Nat):Int):=⟨_,rfl⟩;have e1:ofNat (k+1)=K:=by rw[eK];exact aJ hA _
 have r1:rd h1 sb (bZ 0 0) 1 [.slice US (k+1) UT]:=by rw[dj hA];exact jf hA (m1.own.aN (o:=0) (n:=1) (Nat.le_refl _))
 have k3:=sk.k4;generalize Fp:k+1=k1 at *
 (refine zq ?_;repeat ((first|rw[e1]);refine zq ?_))
 rw[bN hA om om];refine Kf hA (sb:=sb) dE hw (fun h2 A2 m2 sk2=>?_) k1 (K-1) h1 A1 (Nat.le_refl _) om m1 sk;refine zc ?_;exact hQ h2 US UT WM A2 m2 sk2
