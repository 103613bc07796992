import Derived.Test.YtdpbiegfljmhmaaSymI
import Derived.DataReads
import Derived.ChangeShapes
import Derived.WideShapes
import Derived.Test.YtdpbiegfljmhmaaSmG
import Derived.Test.YtdpbiegfljmhmaaFracPure
import Derived.Test.YtdpbiegfljmhmaaFracT
import Derived.Test.YtdpbiegfljmhmaaFracA
import Derived.KernelRfl
import Derived.Test.YtdpbiegfljmhmaaSimD
set_option linter.unusedSimpArgs false
set_option linter.unusedVariables false
namespace Go.cY
open Go.RowKit
def dM(w:World)(b:Nat):Bool:=
 match w.heap[b]? with
 |some (.cells _ _ _)=>true
 |_=>false
def zg(w:World):Value->Bool
 | .slice (some a) _ c=>a.spot.isNone && decide (c<aP) && dM w a.block
 | .pointer (some a)=>a.spot.isNone && dM w a.block
 |v=>bA v
def aaA:Value:=.slice (some ⟨0,0,some 0⟩) 0 0
def tU(w:World)(v:Value):Value:=
 if zg w v then v else
 match v with
 | .slice (some _) 0 0=>aaA
 |_=>.chan none
def iD(w:World)(b:Nat):Option Loc:=
 match w.heap[b]? with
 |some (.cells cs _ _)=>some ⟨b,0,cs.size,1⟩
 |_=>none
def Et(w:World)(b:Nat):Option Dk:=
 match w.heap[b]? with
 |some (.cells cs _ _)=>some (.live false 1 (cs.toList.map (tU w)))
 |_=>none
theorem Bi{w:World}{b:Nat}(h:dM w b=true):∃n,iD w b=some ⟨b,0,n,1⟩:=by
 unfold dM at h;split at h
 ·rename_i cs e fr hb;exact⟨cs.size,by unfold iD;rw[hb]⟩
 ·cases h
theorem wY{w:World}{v:Value}(h:zg w v=true):VG (iD w) v v:=by
 unfold zg at h;split at h
 ·rename_i a len c
  simp only[Bool.and_eq_true,decide_eq_true_eq,Option.isNone_iff_eq_none]at h;obtain⟨⟨hs,hc⟩,hb⟩:=h;obtain⟨n,hg⟩:=Bi hb;have:=VG.gR (g:=iD w) a _ len c hs hg hc;obtain⟨b,o,sp⟩:=a;simp only at hs;subst hs;simpa using this
 ·rename_i a
  simp only[Bool.and_eq_true,Option.isNone_iff_eq_none]at h;obtain⟨hs,hb⟩:=h;obtain⟨n,hg⟩:=Bi hb;have:=VG.ptr (g:=iD w) a _ hs hg;obtain⟨b,o,sp⟩:=a;simp only at hs;subst hs;simpa using this
 ·exact .flat _ h
theorem P9(w:World)(v:Value):VG (iD w) (tU w v) v:=by
 unfold tU;split
 ·rename_i h;exact wY h
 ·split
  ·exact .kC _ _ 0 rfl
  ·exact .Al _
theorem MN (w : World) : ∃ h : af, HR ⟨iD w, fun _ => none⟩ (iB h) w ∧ h.low = h.next ∧ h.next = w.heap.size ∧ ∀ b, b < w.heap.size → h.m.get b = Et w b := by
  obtain ⟨t, ht⟩ := cW.xS (Et w) w.heap.size
  have hb : ∀ id L, iD w id = some L → ∃ cs e fr, w.heap[id]? = some (.cells cs e fr) ∧ L = ⟨id, 0, cs.size, 1⟩ := by
    intro id L h
    unfold iD at h
    split at h
    · rename_i cs e fr hb; exact ⟨cs, e, fr, hb, by simpa using h.symm⟩
    · cases h
  have fg : ∀ id L, iD w id = some L → id < w.heap.size := fun id L h => by
    obtain ⟨cs, e, fr, h1, _⟩ := hb id L h
    exact (Array.getElem?_eq_some_iff.1 h1).1
  refine ⟨{ next := w.heap.size, low := w.heap.size, m := t }, ?_, rfl, rfl, fun b h => by simp only []; rw [ht, if_pos h]⟩
  exact
    { cV := fun id L h => fg id L h
      dx := fun id L h => by
        obtain ⟨cs, e, fr, h1, rfl⟩ := hb id L h
        exact ⟨_, h1, fun lr e' fr' q => by cases q; rfl⟩
      cN := fun id L b h hm => by
        obtain ⟨cs, e, fr, h1, rfl⟩ := hb id L h
        have h2 : t.get id = some b := hm
        rw [ht, if_pos (fg id _ h)] at h2
        unfold Et at h2
        rw [h1] at h2
        simp only [oi] at h2
        subst h2
        refine ⟨rfl, cs, e, fr, h1, ?_, fun hw => by cases hw⟩
        intro i v hv
        rw [List.getElem?_map] at hv
        cases hc : cs.toList[i]? with
        | none => rw [hc] at hv; cases hv
        | some c =>
          rw [hc] at hv
          simp only [Option.map_some, oi] at hv
          subst hv
          exact ⟨c, by simpa using hc, P9 w c⟩
      dy := fun id pQ L L' b b' h h' _ _ _ _ e => by
        obtain ⟨cs, e1, fr, h1, rfl⟩ := hb id L h
        obtain ⟨lr, PD, fr', tz, rfl⟩ := hb pQ L' h'
        exact e
      fv := (fun t L h => by cases h), fj := (fun t L h => by cases h), fw := (fun t t' L L' h => by cases h), sep := (fun id t L L' _ h => by cases h) }
theorem Vi{P : Program}{H : Hint}{F : bk}(hm : P.follows .mixedOrders = true)(hF : dF P F)(RT : aY F)(cK : ∀ (g : FuncId) (fn : Func), P.funcs[g]? = some fn → (fn.name == "runtime.NumGoroutine") = false){g : FuncId}{fn : Func}(hf : P.funcs[g]? = some fn)(hb : fn.body.isSome = true)(hg : g < aX)
  {w:World} {h:af} (hR:HR ⟨iD w,fun _=>none⟩ (iB h) w) (aq:h.low=h.next) (A6:h.next=w.heap.size) {args:List Value} (iZ:∀v∈args,zg w v=true)
  (hw:(bz P H F).call g args h (fun v h'=>v=.bool true/\Ext h h')) :
  Calls P g args.toArray w fun e w'=>e=.returned (.bool true)/\Below w.heap.size w w':=by
 obtain⟨v,h',hr,rfl,hE⟩:=hw.ex;have hA:fQ (iD w) args args:=⟨rfl,fun i u v hu hv=>by
  rw[hu]at hv;cases hv;exact wY (iZ u (List.mem_of_getElem? hu))⟩
 have hd:=hr.ok hm hF RT cK hg hR hA;refine(hd.calls hf hb (cK g fn hf)).mono ?_;rintro e w' ⟨c,rfl,G',hv,hG,_⟩;rw[hv.bool];refine⟨rfl,hG.os,hG.tape,hG.output,hG.size,fun k hk=>hG.frame k hk (fun id L mu hLb=>?_) (fun t L h=>by cases h)⟩;have h1:=hE.vf;have h2:h.next<=h'.low:=by
  rw[aq]at h1;have:Nat.min h.next h.next=h.next:=Nat.min_self _;omega
 have h3:id<h.next:=hR.cV id L mu;show id<h'.low;omega
theorem zh{w:World}{h:af}(hn:h.next=w.heap.size)(hm:∀b,b<w.heap.size->h.m.get b=Et w b){b o n:Nat}{cells:List Value}(hb:dM w b=true)(hl:cells.length=n)
  (hc:∀i v,cells[i]?=some v->∃c,w.cell? ⟨b,o+i,none⟩=some c/\tU w c=v):Cells h (some ⟨b,o,none⟩) n 1 cells:=by
 unfold dM at hb;split at hb
 ·rename_i cs e fr wL
  have fg:b<w.heap.size:=(Array.getElem?_eq_some_iff.1 wL).1;refine⟨rfl,by rw[hn];exact fg,?_⟩;unfold af.aM af.cells?;simp only[];rw[hm b fg];unfold Et;rw[wL];simp only[Nat.mul_one];refine oH ?_ hl;apply List.ext_getElem?;intro i;rw[List.getElem?_take];by_cases hi:i<n
  ·rw[if_pos hi,List.getElem?_drop,List.getElem?_map]
   have hv:cells[i]?=some cells[i]:=List.getElem?_eq_getElem om;obtain⟨c,h1,h2⟩:=hc i _ hv;unfold World.cell? at h1;simp only[wL]at h1;rw[hv,<-h2];have:cs.toList[o+i]?=some c:=by simpa using h1
   rw[this];rfl
  ·rw[if_neg hi]
   exact(List.getElem?_eq_none om).symm
 ·cases hb
theorem G3{P:Program}{w:World}{r:Reach}{base:Nat}{t e:TypeId}{a:Option Addr}{len cap:Nat}(ht:P.underlying t=some (.slice e))(h:Value.okWide P w r base t (.slice a len cap)) :
  zg w (.slice a len cap)=true/\(a=none->len=0/\cap=0)/\∀x,a=some x->x.spot=none/\dM w x.block=true:=by
 simp only[Value.okWide,ht,Cell.okWide,Cell.ok]at h;cases a with
 |none=>
  have:len=0/\cap=0:=by
   cases len<;>cases cap<;>simp_all
  obtain⟨rfl,rfl⟩:=this;exact⟨rfl,fun _=>⟨rfl,rfl⟩,fun x hx=>by cases hx⟩
 |some x=>
  obtain⟨h1,h2,_,hs,row,cells,hsh,_⟩:=h;have hc:dM w x.block=true:=by
   unfold dM;unfold World.shape? at hsh;split at hsh
   ·rename_i hb;rw[hb]
   ·cases hsh
  refine⟨?_,(fun hx=>by cases hx),(fun y hy=>by cases hy;exact⟨hs,hc⟩)⟩;unfold zg;simp only[Bool.and_eq_true,decide_eq_true_eq,Option.isNone_iff_eq_none];refine⟨⟨hs,?_⟩,hc⟩;have:IntKind.i64.max=9223372036854775807:=rfl;unfold aP;omega
def TS(P:Program)(w:World)(base:Nat):Nat->TypeId->List Value->Prop
 |0,_,_=>False
 |d+1,t,cs=>
  match P.underlying t with
  |some .bool=>∃b,cs=[.bool b]
  |some (.int k)=>∃n,cs=[.int k n]/\(Lit.int k n).wf=true
  |some .string=>∃s,cs=[.string s]/\s.size<=maxLen
  |some (.slice e)=>cs=[.slice none 0 0]\/∃a len cap,cs=[.slice (some a) len cap]/\len<=cap/\cap<=maxLen/\(∀i,i<len->∃l,w.cells? base (a.add (i*P.cellsOf e)) (P.cellsOf e)=some l/\TS P w base d e l)/\(0<cap->0<P.cellsOf e->a.spot=none/\dM w a.block=true)
  |some (.struct fs)=>cs.length=P.cellsOf t/\∀f∈fs.toList,TS P w base d f.type ((cs.drop f.offset).take (P.cellsOf f.type))
  |some (.array n e)=>cs.length=P.cellsOf t/\∀i,i<n->TS P w base d e ((cs.drop (i*P.cellsOf e)).take (P.cellsOf e))
  |_=>True
theorem mapM_each{α β:Type}{f:α->Option β}{l:List α}{r:List β}(h:l.mapM f=some r){x:α}(hx:x∈l):∃y,f x=some y:=by
 obtain⟨i,hi,rfl⟩:=List.getElem_of_mem hx;have h1:=mapM_some_get h i l[i] (by simp[hi]);have h2:=mapM_some_length h;rw[h1];exact⟨r[i]'om,by simp[h2,hi]⟩
theorem vT{w:World}{base n:Nat}{a:Addr}{l:List Value}(h:w.cells? base a n=some l)(hn:0<n):a.spot=none/\dM w a.block=true:=by
 obtain⟨_,hl,hc⟩:=World.cells?_some h;have h1:=hc 0 hn;rw[List.getElem?_eq_getElem om]at h1;obtain⟨b,o,s⟩:=a;cases s with
 |some s=>simp[World.cell?,Addr.add]at h1;split at h1<;>simp_all
 |none=>
  refine⟨rfl,?_⟩;rw[show(⟨b,o,none⟩:Addr).add 0=⟨b,o,none⟩from rfl]at h1;simp only[World.cell?]at h1;unfold dM;simp only;split at h1
  ·rename_i heq;rw[heq]
  ·cases h1
theorem zi{H:Type}{enc:TypeId×Value->H}{P:Program}{w:World}{base:Nat}{sp:Nat->Bool}{held:Bool}(jM:∀b,sp b=true:=by intro _;rfl):∀(fuel:Nat) (t:TypeId) (cs:List Value) (x:DataW H×List MemPlace),DataW.trod enc P w base sp held fuel t cs=some x->TS P w base fuel t cs
 |0,t,cs,x,h=>by simp[DataW.trod]at h
 |n+1,t,cs,x,h=>by
  have ih:=zi (enc:=enc) (P:=P) (w:=w) (base:=base) (sp:=sp) (held:=held) jM n;unfold DataW.trod at h;unfold TS;split at h
  ·rename_i b hu;rw[hu];exact⟨b,rfl⟩
  ·rename_i k k' m hu
   rw[hu];split at h
   ·rename_i hc;obtain⟨rfl,hw⟩:=hc;exact⟨m,rfl,hw⟩
   ·cases h
  ·rename_i hu;rw[hu];trivial
  ·rename_i s hu
   rw[hu];split at h
   ·rename_i hc;exact⟨s,rfl,hc⟩
   ·cases h
  ·rename_i hu;rw[hu];trivial
  ·rename_i hu;rw[hu];trivial
  ·rename_i hu;rw[hu];exact .inl rfl
  ·rename_i e a len cap hu
   rw[hu];split at h
   ·rename_i hc
    simp only[Option.bind_eq_some_iff]at h;obtain⟨es,h1,h2⟩:=h;refine .inr ⟨a,len,cap,rfl,hc.2.1,hc.2.2,fun i hi=>?_,fun nB Zd=>?_⟩
    ·obtain⟨y,hy⟩:=mapM_each h1 (List.mem_range.2 hi)
     rw[Option.bind_eq_some_iff]at hy;obtain⟨l,hl,hy⟩:=hy;exact⟨l,hl,ih _ _ _ hy⟩
    ·have hz:(a.add (0*P.cellsOf e))=a:=by rw[Nat.zero_mul];rfl
     by_cases hlen:0<len
     ·obtain⟨y,hy⟩:=mapM_each h1 (List.mem_range.2 hlen)
      rw[Option.bind_eq_some_iff]at hy;obtain⟨l,hl,hy⟩:=hy;rw[hz]at hl;exact vT hl Zd
     ·have fF:len=0:=om
      subst fF;rw[jM,if_pos rfl,Option.map_eq_some_iff]at h2;obtain⟨rs,h3,_⟩:=h2;obtain⟨y,hy⟩:=mapM_each h3 (List.mem_range.2 (show 0<cap-0 by omega));rw[Option.bind_eq_some_iff]at hy;obtain⟨l,hl,hy⟩:=hy;rw[Nat.zero_add,hz]at hl;exact vT hl Zd
   ·cases h
  ·rename_i fs hu
   rw[hu];split at h
   ·rename_i hc
    refine⟨hc,fun f hf=>?_⟩;rw[Option.map_eq_some_iff]at h;obtain⟨xs,h1,h2⟩:=h;obtain⟨y,hy⟩:=mapM_each h1 hf;exact ih _ _ _ hy
   ·cases h
  ·rename_i m e hu
   rw[hu];split at h
   ·rename_i hc
    refine⟨hc,fun i hi=>?_⟩;rw[Option.map_eq_some_iff]at h;obtain⟨xs,h1,h2⟩:=h;obtain⟨y,hy⟩:=mapM_each h1 (List.mem_range.2 hi);exact ih _ _ _ hy
   ·cases h
  all_goals first|(rename_i hu;rw[hu];trivial)|cases h
theorem Bj(b o i:Nat):(⟨b,o,none⟩:Addr).add i=⟨b,o+i,none⟩:=by
 unfold Addr.add;split
 ·rename_i h0;subst h0;rfl
 ·rfl
theorem Eu{α:Type}(enc:α->List Value){es:Nat}(uS:∀x,(enc x).length=es):∀(xs:List α) (i j:Nat),j<es->(xs.flatMap enc)[i*es+j]?=(xs[i]?).bind fun x=>(enc x)[j]?
 | [],i,j,_=>by simp
 |x :: xs,0,j,hj=>by
  rw[List.flatMap_cons,Nat.zero_mul,Nat.zero_add,List.getElem?_append_left (by rw[uS];exact hj)];rfl
 |x :: xs,i+1,j,hj=>by
  rw[List.flatMap_cons,List.getElem?_append_right (by rw[uS,Nat.add_mul];omega),uS];rw[show(i+1)*es+j-es=i*es+j by rw[Nat.add_mul];omega];rw[Eu enc uS xs i j hj];rfl
theorem Ev{α:Type}(enc:α->List Value){es:Nat}(uS:∀x,(enc x).length=es)(xs:List α):(xs.flatMap enc).length=xs.length*es:=by
 induction xs with
 |nil=>simp
 |cons x xs ih=>rw[List.flatMap_cons,List.length_append,uS,ih,List.length_cons,Nat.add_mul];omega
theorem zj{P:Program}{w:World}{h:af}(hn:h.next=w.heap.size)(hm:∀b,b<w.heap.size->h.m.get b=Et w b){base d:Nat}{t e:TypeId}{a:Option Addr}{len cap:Nat}(hu:P.underlying t=some (.slice e))
  (J9:TS P w base (d+1) t [.slice a len cap]) (TO:(a=none->len=0/\cap=0)/\∀x,a=some x->x.spot=none/\dM w x.block=true)
  {α:Type} (enc:α->List Value) {es:Nat} (Zd:P.cellsOf e=es) (aaB:0<es) (uS:∀x,(enc x).length=es) (G:α->Prop) (aaC:∀l,TS P w base d e l->∃x,l.map (tU w)=enc x/\G x) :
  ∃xs:List α,xs.length=len/\len<=cap/\cap<=maxLen/\Cells h a len es (xs.flatMap enc)/\∀x∈xs,G x:=by
 unfold TS at J9;rw[hu]at J9;rcases J9 with h1|⟨ad,len',cap',h1,h2,h3,h4,_⟩
 ·simp only[List.cons.injEq,Value.slice.injEq,and_true]at h1
  obtain⟨rfl,rfl,rfl⟩:=h1;exact⟨[],rfl,om,by unfold maxLen;omega,⟨rfl,rfl⟩,fun x hx=>by cases hx⟩
 ·simp only[List.cons.injEq,Value.slice.injEq,and_true]at h1
  obtain⟨rfl,rfl,rfl⟩:=h1;obtain⟨hs,hb⟩:=TO.2 ad rfl;obtain⟨b,o,spt⟩:=ad;simp only at hs hb;subst hs;rw[Zd]at h4;have key:∀n,n<=len->∃xs:List α,xs.length=n/\∀i,i<n->∃x,xs[i]?=some x/\G x/\∀j,j<es->∃c v,w.cell? ⟨b,o+(i*es+j),none⟩=some c/\(enc x)[j]?=some v/\tU w c=v:=by
   intro n
   induction n with
   |zero=>intro _;exact⟨[],rfl,fun i hi=>om⟩
   |succ n ih=>
    intro hle;obtain⟨xs,AX,Gd⟩:=ih om;obtain⟨l,Ah,BM⟩:=h4 n om;obtain⟨x,he,hg⟩:=aaC l BM;obtain⟨_,YO,hlc⟩:=World.cells?_some Ah;refine⟨xs++[x],by simp[AX],fun i hi=>?_⟩;by_cases uK:i<n
    ·obtain⟨y,MO,Ve⟩:=Gd i uK
     exact⟨y,by rw[List.getElem?_append_left om];exact MO,Ve⟩
    ·have:i=n:=om
     subst this;refine⟨x,by rw[List.getElem?_append_right om,AX];simp,hg,fun j hj=>?_⟩;have h5:=hlc j hj;rw[Bj,Bj]at h5;have hj2:j<l.length:=om
     rw[List.getElem?_eq_getElem hj2]at h5;refine⟨l[j],tU w l[j],by rw[<-h5,Nat.add_assoc],?_,rfl⟩;rw[<-he,List.getElem?_map,List.getElem?_eq_getElem hj2];rfl
  obtain⟨xs,AX,Gd⟩:=key len (Nat.le_refl _);refine⟨xs,AX,h2,h3,?_,fun x hx=>?_⟩
  ·have hc:=zh hn hm (b:=b) (o:=o) (n:=len*es) (cells:=xs.flatMap enc) hb (by rw[Ev enc uS,AX]) (fun k v hv=>?_)
   ·obtain⟨c1,c2,c3⟩:=hc
    exact⟨c1,c2,by rw[Nat.mul_one]at c3;exact c3⟩
   ·have hk:k<len*es:=by
     have:=(List.getElem?_eq_some_iff.1 hv).1;rw[Ev enc uS,AX]at this;exact this
    have hdm:=Nat.div_add_mod k es;have WX:=Nat.mod_lt k aaB;have hdiv:k / es<len:=Nat.div_lt_of_lt_mul (by rw[Nat.mul_comm];exact hk);obtain⟨x,MO,Ve,hy3⟩:=Gd (k / es) hdiv;obtain⟨c,v',h6,h7,h8⟩:=hy3 (k % es) WX;have e1:k / es*es+k % es=k:=by rw[Nat.mul_comm];exact hdm
    rw[<-e1,Eu enc uS xs _ _ WX,MO]at hv;simp only[Option.bind_some]at hv;rw[h7]at hv;obtain rfl:=Option.some.inj hv;rw[e1]at h6;exact⟨c,h6,h8⟩
  ·obtain⟨i,hi,rfl⟩:=List.getElem_of_mem hx
   obtain⟨y,MO,Ve,_⟩:=Gd i om;rw[List.getElem?_eq_getElem hi]at MO;obtain rfl:=Option.some.inj MO;exact Ve
theorem G4{P:Program}{w:World}{base d:Nat}{t:TypeId}{k:IntKind}{cs:List Value}(hu:P.underlying t=some (.int k))(h:TS P w base (d+1) t cs):∃n,cs=[.int k n]/\(Lit.int k n).wf=true:=by
 unfold TS at h;rw[hu]at h;exact h
theorem Bk{P:Program}{w:World}{base d:Nat}{t:TypeId}{fs:Array Field}{cs:List Value}(hu:P.underlying t=some (.struct fs))(h:TS P w base (d+1) t cs):cs.length=P.cellsOf t/\∀f∈fs.toList,TS P w base d f.type ((cs.drop f.offset).take (P.cellsOf f.type)):=by
 unfold TS at h;rw[hu]at h;exact h
theorem Ew{P:Program}{w:World}{r:Reach}{base:Nat}{t u:TypeId}{cs:Array Value}{ts:List TypeId}(h:Row.okWide P w r base t cs)(J9:P.cellTypes P.depth t=some ts){i:Nat}{v:Value}(hi:cs[i]?=some v)(hu:ts[i % ts.length]?=some u):Cell.okWide P w r base u v:=by
 obtain⟨ts',h1,_,h2⟩:=h;rw[J9]at h1;obtain rfl:=Option.some.inj h1;obtain⟨u',h3,h4⟩:=h2 i v hi;rw[hu]at h3;obtain rfl:=Option.some.inj h3;exact h4
theorem zk{P:Program}{w:World}{r:Reach}{base:Nat}{t e:TypeId}{v:Value}(ht:P.underlying t=some (.slice e))(h:Cell.okWide P w r base t v) :
  ∃a len cap,v=.slice a len cap/\zg w (.slice a len cap)=true/\(a=none->len=0/\cap=0)/\∀x,a=some x->x.spot=none/\dM w x.block=true:=by
 have h':Value.okWide P w r base t v:=by unfold Value.okWide;rw[ht];exact h
 obtain⟨a,len,cap,rfl⟩:=WideShapes.okWide_slice ht h';obtain⟨h1,h2⟩:=G3 ht h';exact⟨a,len,cap,rfl,h1,h2⟩
def Ka(w:World):Value->Bool
 | .agg cs=>cs.toList.all (zg w)
 |v=>zg w v
theorem Qa{w:World}{v:Value}(h:Ka w v=true):VG (iD w) v v:=by
 unfold Ka at h;split at h
 ·refine .agg _ _ rfl (fun i u v hu hv=>?_)
  rw[hu]at hv;obtain rfl:=Option.some.inj hv;exact wY (List.all_eq_true.1 h u (List.mem_of_getElem? hu))
 ·exact wY h
theorem WY{w:World}{args:List Value}(h:args.all (Ka w)=true):fQ (iD w) args args:=⟨rfl,fun i u v hu hv=>by
 rw[hu]at hv;obtain rfl:=Option.some.inj hv;exact Qa (List.all_eq_true.1 h u (List.mem_of_getElem? hu))⟩
theorem G5{P : Program}{H : Hint}{F : bk}(hm : P.follows .mixedOrders = true)(hF : dF P F)(RT : aY F)(cK : ∀ (g : FuncId) (fn : Func), P.funcs[g]? = some fn → (fn.name == "runtime.NumGoroutine") = false){g : FuncId}{fn : Func}(hf : P.funcs[g]? = some fn)(hb : fn.body.isSome = true)(hg : g < aX)
  {w:World} {h:af} (hR:HR ⟨iD w,fun _=>none⟩ (iB h) w) (aq:h.low=h.next) (A6:h.next=w.heap.size) {args:List Value} (hA:fQ (iD w) args args)
  (hw:(bz P H F).call g args h (fun v h'=>v=.bool true/\Ext h h')) :
  Calls P g args.toArray w fun e w'=>e=.returned (.bool true)/\Below w.heap.size w w':=by
 obtain⟨v,h',hr,rfl,hE⟩:=hw.ex;have hd:=hr.ok hm hF RT cK hg hR hA;refine(hd.calls hf hb (cK g fn hf)).mono ?_;rintro e w' ⟨c,rfl,G',hv,hG,_⟩;rw[hv.bool];refine⟨rfl,hG.os,hG.tape,hG.output,hG.size,fun k hk=>hG.frame k hk (fun id L mu hLb=>?_) (fun t L h=>by cases h)⟩;have h1:=hE.vf;have h2:h.next<=h'.low:=by
  rw[aq]at h1;have:Nat.min h.next h.next=h.next:=Nat.min_self _;omega
 have h3:id<h.next:=hR.cV id L mu;show id<h'.low;omega
end Go.cY
namespace Go.Proofs.Ytdpbiegfljmhmaa
open Go.cY
set_option maxRecDepth 100000
def nC(x:Int):List Value:=[.int .i64 x]
theorem dQ(x:Int):(nC x).length=1:=rfl
theorem zl(x:Int):(nC x).all aE=true:=rfl
structure dW(h0 h:af)(n w:Nat)(bs:Nat->Nat)(F:Nat->Ext.aS):Prop where
 ext:Ext h0 h
 row:∀y,y<n->bW h (bs y) 1 ((iK (F y) w).flatMap nC)
 cE:∀y,y<n->h0.next<=bs y
 lt:∀y,y<n->bs y<h.next
 inj:∀y z,y<n->z<n->bs y=bs z->y=z
section
variable{h0 h:af}{n w:Nat}{bs:Nat->Nat}{F:Nat->Ext.aS}
theorem dW.more{h':af}(t:dW h0 h n w bs F)(e:Ext h h'):dW h0 h' n w bs F:=
 ⟨t.ext.trans e,fun y hy=>(t.row y hy).ext e (t.lt y hy),t.cE,fun y hy=>Nat.lt_of_lt_of_le (t.lt y hy) e.next,t.inj⟩
theorem dW.bj{h':af}(t:dW h0 h n w bs F)(e:Ext h0 h')(hn:h.next<=h'.next)(hk:∀y,y<n->h'.m.get (bs y)=h.m.get (bs y)):dW h0 h' n w bs F:=
 ⟨e,fun y hy=>(t.row y hy).dj (hk y hy),t.cE,fun y hy=>Nat.lt_of_lt_of_le (t.lt y hy) hn,t.inj⟩
theorem dW.congr{G:Nat->Ext.aS}(t:dW h0 h n w bs F)(e:∀y x,y<n->x<w->F y x=G y x):dW h0 h n w bs G:=
 ⟨t.ext,fun y hy=>by rw[<-dX (fun x hx=>e y x hy hx)];exact t.row y hy,t.cE,t.lt,t.inj⟩
theorem dW.jW(t:dW h0 h n w bs F){y:Nat}(hy:y<n):Rows nC 1 h (some ⟨bs y,0,none⟩) w (iK (F y) w):=by
 have r:=bW.rows (t.row y hy) dQ om (t.lt y hy);rw[aW]at r;exact r
theorem dW.el(t:dW h0 h n w bs F){y x:Nat}(hy:y<n)(hx:x<w):h.aM ⟨bs y,0+x*1,none⟩ 1=some [.int .i64 (F y x)]:=by
 obtain⟨b,o,e,_,r⟩:=(t.jW hy).at (i:=(x:Int)) om om;cases e;have:=r 0 1 om om;rw[dC _ hx,List.drop_zero,List.take_of_length_le (by rw[dQ];omega)]at this;exact this
def tV(F:Nat->Ext.aS)(y x:Nat)(v:Int):Nat->Ext.aS:=fun a b=>if a=y/\b=x then v else F a b
theorem dW.set(t:dW h0 h n w bs F){y x:Nat}(hy:y<n)(hx:x<w)(v:Int) :
  ∃h',h.write (bs y) (0+x*1) [.int .i64 v]=some h'/\dW h0 h' n w bs (tV F y x v)/\jf h h' (bs y):=by
 obtain⟨h',w1,w2,w3⟩:=bW.setRow (t.row y hy) dQ (i:=x) (by rw[aW];exact hx) v;refine⟨h',by rw[Nat.zero_add];exact w1,⟨w3.ext t.ext (t.cE y hy),fun z hz=>?_,t.cE,fun z hz=>by rw[w3.next];exact t.lt z hz,t.inj⟩,w3⟩;by_cases e:z=y
 ·subst e
  rw[tW]at w2;have:iK (tV F z x v z) w=iK (fun j=>if j=x then v else F z j) w:=dX (fun i hi=>by unfold tV;simp);rw[this];exact w2
 ·have:iK (tV F y x v z) w=iK (F z) w:=dX (fun i hi=>by unfold tV;rw[if_neg (fun q=>e q.1)])
  rw[this];exact(t.row z hz).dj (w3.get _ (fun q=>e (t.inj z y hz hy q)))
end
structure ku(h h':af)(b:Nat):Prop where
 next:h.next<=h'.next
 get:∀c,c<h.next->c≠b->h'.m.get c=h.m.get c
theorem ku.refl(h:af)(b:Nat):ku h h b:=⟨Nat.le_refl _,fun _ _ _=>rfl⟩
theorem ku.wrote{h h' h2:af}{b:Nat}(t:ku h h' b)(w:jf h' h2 b):ku h h2 b:=
 ⟨by rw[w.next];exact t.next,fun c hc ne=>by rw[w.get c ne];exact t.get c hc ne⟩
theorem ku.ext{h h' h2:af}{b:Nat}(t:ku h h' b)(w:Ext h' h2):ku h h2 b:=
 ⟨Nat.le_trans t.next w.next,fun c hc ne=>by rw[w.get c (Nat.lt_of_lt_of_le hc t.next)];exact t.get c hc ne⟩
theorem ku.trans{h h' h2:af}{b:Nat}(t:ku h h' b)(w:ku h' h2 b):ku h h2 b:=
 ⟨Nat.le_trans t.next w.next,fun c hc ne=>by rw[w.get c (Nat.lt_of_lt_of_le hc t.next) ne];exact t.get c hc ne⟩
def Cu(F:Nat->Ext.aS)(r j:Nat)(g:Ext.aS):Nat->Ext.aS:=fun y x=>if y=r/\x<j then g x else F y x
theorem Iz{n:Int}(h:(Lit.int .i64 n).wf=true):i64 n:=by
 unfold i64;simp[Lit.wf,IntKind.min,IntKind.max,IntKind.signed,IntKind.bits]at h;omega
theorem TP:Try.prog.cellsOf 2=1:=by kernel_rfl
theorem MP:Try.prog.cellsOf 45=2:=by kernel_rfl
theorem WZ{l:List Value}(h:l.length=2):∃a b,l=[a,b]:=by
 match l,h with
 | [a,b],_=>exact⟨a,b,rfl⟩
theorem MQ{w:World}{base d:Nat}{l:List Value}(h:TS Try.prog w base d 45 l):∃x y,l=[.int .i64 x,.int .i64 y]/\i64 x/\i64 y:=by
 cases d with
 |zero=>exact h.elim
 |succ d=>
  obtain⟨h1,h2⟩:=Bk Try.underlying45 h;rw[MP]at h1;obtain⟨a,b,rfl⟩:=WZ h1;simp only[List.forall_mem_cons,List.not_mem_nil,false_imp_iff,implies_true,and_true,TP,List.drop,List.take]at h2;obtain⟨g0,g1⟩:=h2;cases d with
  |zero=>exact g0.elim
  |succ d=>
   obtain⟨x,e1,w1⟩:=G4 Try.underlying2 g0;obtain⟨y,e2,w2⟩:=G4 Try.underlying2 g1;simp only[List.cons.injEq,and_true]at e1 e2;subst e1 e2;exact⟨x,y,rfl,Iz w1,Iz w2⟩
theorem MS:Try.prog.cellsOf 27=1:=by kernel_rfl
theorem Ey:Try.prog.cellsOf 3=1:=by kernel_rfl
theorem MT:Try.prog.cellsOf 22=1:=by kernel_rfl
theorem Qb:Try.prog.cellsOf 23=1:=by kernel_rfl
theorem Qc:Try.prog.cellsOf 25=2:=by kernel_rfl
theorem IA:Try.prog.cellTypes Try.prog.depth 25=some [22,23]:=by kernel_rfl
theorem Kb{w:World}{a:Addr}{len cap:Nat}(h1:a.spot=none)(h2:dM w a.block=true)(h3:cap<=maxLen):tU w (.slice (some a) len cap)=.slice (some a) len cap:=by
 unfold tU;have h4:cap<aP:=by unfold maxLen at h3;unfold aP;omega
 rw[if_pos];show(a.spot.isNone && decide (cap<aP) && dM w a.block)=true;rw[h1,h2];simp[h4]
def MU(h:af)(p:Hd×List Int):Prop:=p.2.length=p.1.n/\(0<p.1.n->Rows nC 1 h p.1.a p.1.n p.2)
theorem Qd{w:World}{h:af}(hn:h.next=w.heap.size)(hm:∀b,b<w.heap.size->h.m.get b=Et w b){base d:Nat}{l:List Value}(hl:TS Try.prog w base d 27 l):∃p:Hd×List Int,l.map (tU w)=p.1.cells/\MU h p:=by
 cases d with
 |zero=>exact hl.elim
 |succ d=>
  have J9:=hl;unfold TS at hl;rw[Try.underlying27]at hl;have go:∀(a:Addr) (len cap:Nat),a.spot=none->dM w a.block=true->cap<=maxLen->TS Try.prog w base (d+1) 27 [.slice (some a) len cap]->∃p:Hd×List Int,[Value.slice (some a) len cap].map (tU w)=p.1.cells/\MU h p:=by
   intro a len cap h1 h2 h3 ht;obtain⟨xs,k1,k2,k3,k4,k5⟩:=zj hn hm Try.underlying27 ht ⟨(fun q=>by cases q),fun x hx=>by cases hx;exact⟨h1,h2⟩⟩ nC Ey om (fun _=>rfl) (fun _=>True) (fun l hl=>by
    cases d with
    |zero=>exact hl.elim
    |succ d=>
     obtain⟨y,rfl,_⟩:=G4 Try.underlying3 hl;exact⟨y,rfl,trivial⟩)
   refine⟨(⟨some a,len,cap⟩,xs),?_,k1,fun _=>⟨k4,fun _=>rfl,om⟩⟩;show [tU w (.slice (some a) len cap)]=_;rw[Kb h1 h2 h3];rfl
  rcases hl with rfl|⟨a,len,cap,rfl,h2,h3,h4,h5⟩
  ·exact⟨(⟨none,0,0⟩,[]),rfl,rfl,fun q=>absurd q (Nat.lt_irrefl _)⟩
  ·by_cases hc:0<cap
   ·obtain⟨s1,s2⟩:=h5 hc (by rw[Ey];omega)
    exact go a len cap s1 s2 h3 J9
   ·have uM:cap=0:=om
    have fF:len=0:=om
    subst uM fF;by_cases hr:a.spot=none/\dM w a.block=true
    ·exact go a 0 0 hr.1 hr.2 h3 J9
    ·refine⟨(⟨some ⟨0,0,some 0⟩,0,0⟩,[]),?_,rfl,fun q=>absurd q (Nat.lt_irrefl _)⟩
     show [tU w (.slice (some a) 0 0)]=_;have:zg w (.slice (some a) 0 0)=false:=by
      show(a.spot.isNone && decide (0<aP) && dM w a.block)=false;cases hs:a.spot with
      |some s=>rfl
      |none=>
       have:dM w a.block=false:=by
        cases hi:dM w a.block with
        |false=>rfl
        |true=>exact absurd ⟨hs,hi⟩ hr
       rw[this];simp
     unfold tU;rw[this];rfl
theorem Kc{w:World}{h:af}(hn:h.next=w.heap.size)(hm:∀b,b<w.heap.size->h.m.get b=Et w b){H:Type}{enc:TypeId×Value->H}{base fuel b0:Nat}{held:Bool}{r:Reach}{v:Value}{x:DataW H×List MemPlace}
  (Ez:Value.okWide Try.prog w r b0 25 v) (hf:DataW.trod enc Try.prog w base (fun _=>true) held fuel 25 v.cells.toList=some x) :
  ∃a n c a' n' c' cT g B,v=.agg #[.slice a n c,.slice a' n' c']/\Ka w v=true/\n<=maxLen/\n'<=maxLen/\Ai nC 1 h a n cT g/\Rows fC 2 h a' n' B/\∀i:Int,0<=i->i<n'->i64 (gt B i).n/\i64 (gt B i).d:=by
 obtain⟨cs,rfl,uT,W3⟩:∃cs,v=.agg cs/\cs.size=Try.prog.cellsOf 25/\Row.okWide Try.prog w r b0 25 cs:=by
  unfold Value.okWide at Ez;rw[Try.underlying25]at Ez;exact Ez
 have J9:=zi (fun _=>rfl) _ _ _ _ hf;rw[Qc]at uT;obtain⟨v0,v1,wL⟩:=WZ (l:=cs.toList) (by simpa using uT);obtain rfl:cs=#[v0,v1]:=by cases cs;simp_all
 have J9:TS Try.prog w base fuel 25 [v0,v1]:=J9;cases fuel with
 |zero=>exact J9.elim
 |succ d=>
  obtain⟨_,h2⟩:=Bk Try.underlying25 J9;simp only[List.forall_mem_cons,List.not_mem_nil,false_imp_iff,implies_true,and_true,MT,Qb,List.drop,List.take]at h2;obtain⟨g0,g1⟩:=h2;cases d with
  |zero=>exact g0.elim
  |succ d=>
   obtain⟨a,n,c,rfl,hr,TO⟩:=zk Try.underlying22 (Ew W3 IA (i:=0) (u:=22) rfl rfl);obtain⟨a',n',c',rfl,wD,W4⟩:=zk Try.underlying23 (Ew W3 IA (i:=1) (u:=23) rfl rfl);obtain⟨xs,k1,k2,k3,k4,k5⟩:=zj hn hm Try.underlying22 g0 TO (fun p:Hd×List Int=>p.1.cells) MS om (fun _=>rfl) (fun p=>MU h p) (fun l hl=>Qd hn hm hl);obtain⟨ys,j1,j2,j3,j4,j5⟩:=zj hn hm Try.underlying23 g1 W4 fC MP om (fun _=>rfl) (fun x=>i64 x.n/\i64 x.d) (fun l hl=>by
    obtain⟨x,y,rfl,h1,h2⟩:=MQ hl;exact⟨⟨x,y⟩,rfl,h1,h2⟩)
   refine⟨a,n,c,a',n',c',xs.map (·.1),xs.map (·.2),ys,rfl,?_,om,om,⟨⟨?_,fun _=>rfl,om⟩,by simp[k1],fun y y0 y1=>?_⟩,⟨j4,fun _=>rfl,om⟩,fun i i0 i1=>j5 _ (ME ys i0 om)⟩
   ·simp only[Ka,List.all_cons,List.all_nil,hr,wD];rfl
   ·rw[List.flatMap_map];exact k4
   ·have hy:y.toNat<xs.length:=om
    have e1:gt (xs.map (·.1)) y=(xs[y.toNat]).1:=by unfold gt;rw[List.getD_eq_getElem?_getD,List.getElem?_map,List.getElem?_eq_getElem hy];rfl
    have e2:gt (xs.map (·.2)) y=(xs[y.toNat]).2:=by unfold gt;rw[List.getD_eq_getElem?_getD,List.getElem?_map,List.getElem?_eq_getElem hy];rfl
    rw[e1,e2];exact k5 _ (List.getElem_mem hy)
end Go.Proofs.Ytdpbiegfljmhmaa
namespace Go.Proofs.Ytdpbiegfljmhmaa.Ext
def d2(a b c d:Int):Int:=a*d-b*c
def d3(a b c d e f g h i:Int):Int:=a*d2 e f h i-b*d2 d f g i+c*d2 d e g h
def d4(a b c d e f g h i j k l m n o p:Int):Int:=a*d3 f g h j k l n o p-b*d3 e g h i k l m o p+c*d3 e f h i j l m n p-d*d3 e f g i j k m n o
def dt(s:Nat)(M:Nat->Nat->Int):Int:=
 match s with
 |0=>1
 |1=>M 0 0
 |2=>d2 (M 0 0) (M 0 1) (M 1 0) (M 1 1)
 |3=>d3 (M 0 0) (M 0 1) (M 0 2) (M 1 0) (M 1 1) (M 1 2) (M 2 0) (M 2 1) (M 2 2)
 |4=>d4 (M 0 0) (M 0 1) (M 0 2) (M 0 3) (M 1 0) (M 1 1) (M 1 2) (M 1 3) (M 2 0) (M 2 1) (M 2 2) (M 2 3) (M 3 0) (M 3 1) (M 3 2) (M 3 3)
 |_=>0
def mi(k:Nat)(M:Nat->Nat->Int)(i j:Nat):Int:=dt (k+1) (fun x y=>M (if x=k then i else x) (if y=k then j else y))
theorem fK{s:Nat}{M N:Nat->Nat->Int}(h:∀x y,x<s->y<s->M x y=N x y):dt s M=dt s N:=by
 match s with
 |0=>rfl
 |1=>exact h 0 0 om om
 |2=>simp only[dt,h _ _ (show 0<2 by omega) (show 0<2 by omega),h _ _ (show 0<2 by omega) (show 1<2 by omega),h _ _ (show 1<2 by omega) (show 0<2 by omega),h _ _ (show 1<2 by omega) (show 1<2 by omega)]
 |3=>
  have a0:0<3:=om
  have a1:1<3:=om
  have a2:2<3:=om
  simp only[dt,h _ _ a0 a0,h _ _ a0 a1,h _ _ a0 a2,h _ _ a1 a0,h _ _ a1 a1,h _ _ a1 a2,h _ _ a2 a0,h _ _ a2 a1,h _ _ a2 a2]
 |4=>
  have a0:0<4:=om
  have a1:1<4:=om
  have a2:2<4:=om
  have a3:3<4:=om
  simp only[dt,h _ _ a0 a0,h _ _ a0 a1,h _ _ a0 a2,h _ _ a0 a3,h _ _ a1 a0,h _ _ a1 a1,h _ _ a1 a2,h _ _ a1 a3,h _ _ a2 a0,h _ _ a2 a1,h _ _ a2 a2,h _ _ a2 a3,h _ _ a3 a0,h _ _ a3 a1,h _ _ a3 a2,h _ _ a3 a3]
 |s+5=>rfl
def sw(a b x:Nat):Nat:=if x=a then b else if x=b then a else x
theorem IB{s:Nat}(M:Nat->Nat->Int){a b:Nat}(ha:a<s)(hb:b<s):dt s (fun x y=>M (sw a b x) y)=dt s M\/dt s (fun x y=>M (sw a b x) y)=- dt s M:=by
 by_cases e:a=b
 ·left
  refine fK fun x y hx hy=>?_
  subst e;unfold sw;by_cases c:x=a
  ·rw[if_pos c,c]
  ·rw[if_neg c,if_neg c]
 right;have h4:s<=4\/5<=s:=om
 rcases h4 with h4|h4
 rotate_left
 ·obtain⟨t,rfl⟩:∃t,s=t+5:=⟨s-5,om⟩
  rfl
 have hs:s=0\/s=1\/s=2\/s=3\/s=4:=om
 have R0:a=0\/a=1\/a=2\/a=3:=om
 have uX:b=0\/b=1\/b=2\/b=3:=om
 rcases hs with rfl|rfl|rfl|rfl|rfl<;>rcases R0 with rfl|rfl|rfl|rfl<;>rcases uX with rfl|rfl|rfl|rfl<;>first|(exfalso;omega)|(simp only[dt,sw,d4,d3,d2];grind)
theorem Kd{s:Nat}(M:Nat->Nat->Int):dt s (fun x y=>M y x)=dt s M:=by
 match s with
 |0=>rfl
 |1=>rfl
 |2=>simp only[dt,d2];grind
 |3=>simp only[dt,d3,d2];grind
 |4=>simp only[dt,d4,d3,d2];grind
 |s+5=>rfl
theorem Qe{s:Nat}(M:Nat->Nat->Int){a b:Nat}(ha:a<s)(hb:b<s):dt s (fun x y=>M x (sw a b y))=dt s M\/dt s (fun x y=>M x (sw a b y))=- dt s M:=by
 have h:=IB (fun x y=>M y x) ha hb;rw[Kd M]at h;rw[<-Kd (fun x y=>M x (sw a b y))];exact h
theorem W5{k:Nat}(hk:k<=2)(M:Nat->Nat->Int)(i j:Nat)(hi:k<i)(hj:k<j):mi k M k k*mi k M i j-mi k M i k*mi k M k j=dt k M*mi (k+1) M i j:=by
 have h:k=0\/k=1\/k=2:=om
 rcases h with rfl|rfl|rfl
 ·simp[mi,dt,d2];grind
 ·simp[mi,dt,d2,d3];grind
 ·simp[mi,dt,d2,d3,d4];grind
theorem tZ(k:Nat)(M:Nat->Nat->Int):mi k M k k=dt (k+1) M:=by
 unfold mi;refine fK fun x y hx hy=>?_
 have ex:(if x=k then k else x)=x:=by split<;>omega
 have ey:(if y=k then k else y)=y:=by split<;>omega
 rw[ex,ey]
theorem Qf{s k:Nat}(hs:s<=4)(hk:k<s)(M:Nat->Nat->Int)(nz:dt k M≠0)(h:∀i j,k<=i->i<s->k<=j->j<s->mi k M i j=0):dt s M=0:=by
 have EA:k=0\/k=1\/k=2\/k=3:=om
 have pZ:s=1\/s=2\/s=3\/s=4:=om
 have mz:∀{a b:Int},a≠0->a*b=0->b=0:=fun ha hb=>(Int.mul_eq_zero.1 hb).resolve_left ha
 rcases EA with rfl|rfl|rfl|rfl
 ·have h0:∀i j,i<s->j<s->M i j=0:=fun i j hi hj=>by
   have:=h i j om hi om hj;simpa[mi,dt]using this
  have z:=fK (s:=s) (M:=M) (N:=fun _ _=>0) (fun x y hx hy=>h0 x y hx hy);rw[z];rcases pZ with rfl|rfl|rfl|rfl<;>simp[dt,d4,d3,d2]
 ·rcases pZ with rfl|rfl|rfl|rfl
  ·omega
  ·rw[<-tZ];exact h 1 1 om om om om
  ·have a:=h 1 1 om om om om
   have b:=h 1 2 om om om om;refine mz nz ?_;simp[mi,dt,d2]at a b;simp only[dt,d2,d3];grind
  ·have a:=h 1 1 om om om om
   have b:=h 1 2 om om om om;have c:=h 1 3 om om om om;refine mz nz (mz nz ?_);simp[mi,dt,d2]at a b c;simp only[dt,d2,d3,d4];grind
 ·rcases pZ with rfl|rfl|rfl|rfl
  ·omega
  ·omega
  ·rw[<-tZ];exact h 2 2 om om om om
  ·have a:=h 2 2 om om om om
   have b:=h 2 3 om om om om;refine mz nz ?_;have e:=W5 (k:=2) om M 3 3 om om;rw[<-tZ 3,<-e,a,b];grind
 ·rcases pZ with rfl|rfl|rfl|rfl
  ·omega
  ·omega
  ·omega
  ·rw[<-tZ];exact h 3 3 om om om om
theorem jX{a b:Int}{A B:Nat}(ha:a.natAbs<=A)(hb:b.natAbs<=B):(a*b).natAbs<=A*B:=by rw[Int.natAbs_mul];exact Nat.mul_le_mul ha hb
theorem MV{s:Nat}{M:Nat->Nat->Int}(h:∀x y,x<s->y<s->(M x y).natAbs<=9):(dt s M).natAbs<=157464:=by
 have Ze:∀{a b c d:Int},a.natAbs<=9->b.natAbs<=9->c.natAbs<=9->d.natAbs<=9->(d2 a b c d).natAbs<=162:=fun ha hb hc hd=>by
  have:=jX ha hd;have:=jX hb hc;unfold d2;omega
 have W6:∀{a b c d e f g h i:Int},a.natAbs<=9->b.natAbs<=9->c.natAbs<=9->d.natAbs<=9->e.natAbs<=9->f.natAbs<=9->g.natAbs<=9->h.natAbs<=9->i.natAbs<=9->(d3 a b c d e f g h i).natAbs<=4374:=fun ha hb hc hd he hf hg hh hi=>by
  have:=jX ha (Ze he hf hh hi);have:=jX hb (Ze hd hf hg hi);have:=jX hc (Ze hd he hg hh);unfold d3;omega
 match s with
 |0=>show(1:Int).natAbs<=_;decide
 |1=>have:=h 0 0 om om;show(M 0 0).natAbs<=_;omega
 |2=>
  have:=Ze (h 0 0 om om) (h 0 1 om om) (h 1 0 om om) (h 1 1 om om);simp only[dt];omega
 |3=>
  have a0:0<3:=om
  have a1:1<3:=om
  have a2:2<3:=om
  have:=W6 (h _ _ a0 a0) (h _ _ a0 a1) (h _ _ a0 a2) (h _ _ a1 a0) (h _ _ a1 a1) (h _ _ a1 a2) (h _ _ a2 a0) (h _ _ a2 a1) (h _ _ a2 a2);simp only[dt];omega
 |4=>
  have a0:0<4:=om
  have a1:1<4:=om
  have a2:2<4:=om
  have a3:3<4:=om
  have m1:=jX (h _ _ a0 a0) (W6 (h _ _ a1 a1) (h _ _ a1 a2) (h _ _ a1 a3) (h _ _ a2 a1) (h _ _ a2 a2) (h _ _ a2 a3) (h _ _ a3 a1) (h _ _ a3 a2) (h _ _ a3 a3));have m2:=jX (h _ _ a0 a1) (W6 (h _ _ a1 a0) (h _ _ a1 a2) (h _ _ a1 a3) (h _ _ a2 a0) (h _ _ a2 a2) (h _ _ a2 a3) (h _ _ a3 a0) (h _ _ a3 a2) (h _ _ a3 a3));have m3:=jX (h _ _ a0 a2) (W6 (h _ _ a1 a0) (h _ _ a1 a1) (h _ _ a1 a3) (h _ _ a2 a0) (h _ _ a2 a1) (h _ _ a2 a3) (h _ _ a3 a0) (h _ _ a3 a1) (h _ _ a3 a3));have m4:=jX (h _ _ a0 a3) (W6 (h _ _ a1 a0) (h _ _ a1 a1) (h _ _ a1 a2) (h _ _ a2 a0) (h _ _ a2 a1) (h _ _ a2 a2) (h _ _ a3 a0) (h _ _ a3 a1) (h _ _ a3 a2));simp only[dt,d4];omega
 |s+5=>simp[dt]
structure Bl(s:Nat)(P0:Nat->Nat->Int)(k:Nat)(last:Int)(C:Nat->Nat->Int):Prop where
 ex:∃P:Nat->Nat->Int,(∀x y,x<s->y<s->(P x y).natAbs<=9)/\(dt s P).natAbs=(dt s P0).natAbs/\last=dt k P/\last≠0/\∀i j,k<=i->i<s->k<=j->j<s->C i j=mi k P i j
theorem Bl.start{s:Nat}{P:Nat->Nat->Int}(h:∀x y,x<s->y<s->(P x y).natAbs<=9):Bl s P 0 1 P:=
 ⟨P,h,rfl,rfl,by decide,fun i j _ _ _ _=>by simp[mi,dt]⟩
theorem Bl.le{s k:Nat}{P0 C:Nat->Nat->Int}{last:Int}(b:Bl s P0 k last C)(hk:k<=s){i j:Nat}(i0:k<=i)(i1:i<s)(j0:k<=j)(j1:j<s):(C i j).natAbs<=157464:=by
 obtain⟨P,h,_,_,_,e⟩:=b.ex;rw[e i j i0 i1 j0 j1];unfold mi;refine MV fun x y hx hy=>?_
 refine h _ _ ?_ ?_<;>split<;>omega
theorem Bl.last{s k:Nat}{P0 C:Nat->Nat->Int}{last:Int}(b:Bl s P0 k last C)(hk:k<=s):last.natAbs<=157464/\last≠0:=by
 obtain⟨P,h,_,rfl,nz,e⟩:=b.ex;exact⟨MV fun x y hx hy=>h _ _ om om,nz⟩
theorem Bl.none{s k:Nat}{P0 C:Nat->Nat->Int}{last:Int}(b:Bl s P0 k last C)(hs:s<=4)(hk:k<s)(h:∀i j,k<=i->i<s->k<=j->j<s->C i j=0):(dt s P0).natAbs=0:=by
 obtain⟨P,_,d,rfl,nz,e⟩:=b.ex;rw[<-d,Qf hs hk P nz (fun i j i0 i1 j0 j1=>by rw[<-e i j i0 i1 j0 j1];exact h i j i0 i1 j0 j1)];rfl
theorem Bl.fin{s:Nat}{P0 C:Nat->Nat->Int}{last:Int}(b:Bl s P0 s last C):last.natAbs=(dt s P0).natAbs:=by
 obtain⟨P,_,d,rfl,_⟩:=b.ex;exact d
theorem EB{s a b x:Nat}(ha:a<s)(hb:b<s)(hx:x<s):sw a b x<s:=by unfold sw;split;exact hb;split;exact ha;exact hx
theorem R2{k b x:Nat}(hb:k<=b)(hx:k<=x):k<=sw k b x:=by unfold sw;split;exact hb;split<;>omega
theorem Cv{k b x:Nat}(hb:k<=b)(hx:x<k):sw k b x=x:=by unfold sw;rw[if_neg om,if_neg om]
theorem Bl.swap{s k:Nat}{P0 C:Nat->Nat->Int}{last:Int}(b:Bl s P0 k last C){p q:Nat}(hk:k<s)(p0:k<=p)(p1:p<s)(q0:k<=q)(q1:q<s):Bl s P0 k last (fun i j=>C (sw k p i) (sw k q j)):=by
 obtain⟨P,h,d,l,nz,e⟩:=b.ex;refine⟨fun i j=>P (sw k p i) (sw k q j),fun x y hx hy=>h _ _ (EB hk p1 hx) (EB hk q1 hy),?_,?_,nz,fun i j i0 i1 j0 j1=>?_⟩
 ·have h1:=IB (s:=s) (fun i j=>P i (sw k q j)) hk p1
  have h2:=Qe (s:=s) P hk q1;rw[<-d];rcases h1 with e1|e1<;>rcases h2 with e2|e2<;>rw[e1,e2]<;>omega
 ·rw[l]
  refine fK fun x y hx hy=>?_
  rw[Cv p0 hx,Cv q0 hy]
 ·show C (sw k p i) (sw k q j)=_
  rw[e _ _ (R2 p0 i0) (EB hk p1 i1) (R2 q0 j0) (EB hk q1 j1)];unfold mi;refine fK fun x y hx hy=>?_
  have ex:(if x=k then sw k p i else x)=sw k p (if x=k then i else x):=by
   by_cases c:x=k
   ·rw[if_pos c,if_pos c]
   ·rw[if_neg c,if_neg c,Cv p0 om]
  have ey:(if y=k then sw k q j else y)=sw k q (if y=k then j else y):=by
   by_cases c:y=k
   ·rw[if_pos c,if_pos c]
   ·rw[if_neg c,if_neg c,Cv q0 om]
  rw[ex,ey]
theorem Bl.step{s k:Nat}{P0 C D:Nat->Nat->Int}{last:Int}(b:Bl s P0 k last C)(hs:s<=4)(hk:k<s)(nz:C k k≠0)(hD:∀i j,k<i->i<s->k<j->j<s->D i j=(C k k*C i j-C i k*C k j).tdiv last):Bl s P0 (k+1) (C k k) D:=by
 obtain⟨P,h,d,l,lz,e⟩:=b.ex;have ek:=e k k om hk om hk;refine⟨P,h,d,?_,nz,fun i j i0 i1 j0 j1=>?_⟩
 ·rw[ek,tZ]
 ·rw[hD i j om i1 om j1,ek,e i j om i1 om j1,e i k om i1 om hk,e k j om hk om j1,W5 om P i j om om,l,Int.mul_tdiv_cancel_left _ (by rw[<-l];exact lz)]
def sg(x:Nat):Int:=if x % 2=0 then 1 else -1
def el(g:List (List Int))(i j:Int):Int:=gt (gt g i) j
def Cw(g:List (List Int))(k:Nat)(r c:List Int):Int:=dt k (fun i j=>el g (gt r i) (gt c j))
theorem TQ{g:List (List Int)}(h9:∀i j,(gt (gt g i) j).natAbs<=9)(k:Nat)(r c:List Int):(Cw g k r c).natAbs<=157464:=MV fun _ _ _ _=>h9 _ _
def ch(n:Nat):Nat->Nat->List (List Int)
 |0,_=>[[]]
 |k+1,f=>(List.range' f (n-f)).flatMap fun i=>(ch n k (i+1)).map (fun l=>(i:Int) :: l)
def bl(n w:Nat):List Int:=((List.range n).filter (fun i=>w.testBit i)).map Int.ofNat
theorem Cx(n:Nat):∀(k f:Nat),∀l∈ch n k f,l.length=k:=by
 intro k
 induction k with
 |zero=>intro f l hl;simp[ch]at hl;simp[hl]
 |succ k ih=>
  intro f l hl;simp only[ch,List.mem_flatMap,List.mem_map]at hl;obtain⟨i,_,l',Lw,rfl⟩:=hl;simp[ih _ l' Lw]
theorem R3(n:Nat):∀(k f:Nat),∀l∈ch n k f,∀x∈l,0<=x/\x<n:=by
 intro k
 induction k with
 |zero=>intro f l hl;simp[ch]at hl;simp[hl]
 |succ k ih=>
  intro f l hl x hx;simp only[ch,List.mem_flatMap,List.mem_map]at hl;obtain⟨i,hi,l',Lw,rfl⟩:=hl;rcases List.mem_cons.1 hx with e|e
  ·have:=List.mem_range'_1.1 hi;omega
  ·exact ih _ l' Lw x e
theorem TT:((List.range 5).all fun n=>(List.range 5).all fun k=>((List.range (2 ^ n)).all fun w=>!((bl n w).length == k) || (ch n k 0).contains (bl n w)) && (ch n k 0).all fun l=>(List.range (2 ^ n)).any fun w=>bl n w == l)=true:=by decide +kernel
theorem R4(n:Nat)(hn:n<=4)(k:Nat)(hk:k<=4):(∀w,w<2 ^ n->(bl n w).length=k->bl n w∈ch n k 0)/\∀l∈ch n k 0,∃w,w<2 ^ n/\bl n w=l:=by
 have h:=TT;simp only[List.all_eq_true,Bool.and_eq_true]at h;obtain⟨a,b⟩:=h n (List.mem_range.2 om) k (List.mem_range.2 om);refine⟨fun w hw hl=>?_,fun l hl=>?_⟩
 ·have:=a w (List.mem_range.2 hw)
  simpa[hl]using this
 ·obtain⟨w,hw,e⟩:=List.any_eq_true.1 (b l hl)
  exact⟨w,List.mem_range.1 hw,by simpa using e⟩
def W7(g:List (List Int))(m n k G:Nat):Prop:=∀d:Nat,d∣G↔∀r∈ch m k 0,∀c∈ch n k 0,d∣(Cw g k r c).natAbs
theorem W7.uniq{g:List (List Int)}{m n k G H:Nat}(a:W7 g m n k G)(b:W7 g m n k H):G=H:=
 Nat.dvd_antisymm ((b G).2 ((a G).1 (Nat.dvd_refl G))) ((a H).2 ((b H).1 (Nat.dvd_refl H)))
def Dv(g:List (List Int))(m n k:Nat):Nat:=(ch m k 0).foldl (fun s r=>(ch n k 0).foldl (fun s c=>Nat.gcd s (Cw g k r c).natAbs) s) 0
theorem MW{α:Type}(f:α->Nat)(l:List α):∀s d:Nat,d∣l.foldl (fun s c=>Nat.gcd s (f c)) s↔d∣s/\∀c∈l,d∣f c:=by
 induction l with
 |nil=>intro s d;simp
 |cons x l ih=>intro s d;rw[List.foldl_cons,ih,Nat.dvd_gcd_iff];simp only[List.mem_cons,forall_eq_or_imp,and_assoc]
theorem Ke{α β:Type}(f:β->α->Nat)(l:List α)(l':List β):∀s d:Nat,d∣l'.foldl (fun s r=>l.foldl (fun s c=>Nat.gcd s (f r c)) s) s↔d∣s/\∀r∈l',∀c∈l,d∣f r c:=by
 induction l' with
 |nil=>intro s d;simp
 |cons x l' ih=>intro s d;rw[List.foldl_cons,ih,MW];simp only[List.mem_cons,forall_eq_or_imp,and_assoc]
theorem IC(g:List (List Int))(m n k:Nat):W7 g m n k (Dv g m n k):=by
 intro d;unfold Dv;rw[Ke (fun r c=>(Cw g k r c).natAbs)];simp
theorem W8{g:List (List Int)}{m n k G:Nat}(hm:m<=4)(hn:n<=4)(hk:k<=4)(h:∀d:Nat,d∣G↔∀R,R<2 ^ m->(bl m R).length=k->∀C,C<2 ^ n->(bl n C).length=k->d∣(Cw g k (bl m R) (bl n C)).natAbs):G=Dv g m n k:=by
 refine W7.uniq (g:=g) (m:=m) (n:=n) (k:=k) (fun d=>?_) (IC g m n k);rw[h d];obtain⟨a1,a2⟩:=R4 m hm k hk;obtain⟨b1,b2⟩:=R4 n hn k hk;constructor
 ·intro q r hr c hc
  obtain⟨R,hR,eR⟩:=a2 r hr;obtain⟨C,hC,eC⟩:=b2 c hc;have:=q R hR (by rw[eR];exact Cx m k 0 r hr) C hC (by rw[eC];exact Cx n k 0 c hc)
  rwa [eR,eC]at this
 ·intro q R hR lR C hC lC
  exact q _ (a1 R hR lR) _ (b1 C hC lC)
theorem ID(g:List (List Int))(m n:Nat):Dv g m n 0=1:=by
 simp[Dv,ch,Cw,dt]
theorem TU{a b B:Nat}(ha:a<=B)(hb:b<=B):Nat.gcd a b<=B:=by
 rcases Nat.eq_zero_or_pos a with e|e
 ·rw[e,Nat.gcd_zero_left];exact hb
 ·exact Nat.le_trans (Nat.gcd_le_left b e) ha
theorem R5{g:List (List Int)}(h9:∀i j,(gt (gt g i) j).natAbs<=9)(m n k:Nat):Dv g m n k<=157464:=by
 rcases Nat.eq_zero_or_pos (Dv g m n k)with e|e
 ·omega
 ·refine Classical.byContradiction fun q=>?_
  have h:=(IC g m n k (Dv g m n k)).1 (Nat.dvd_refl _);have z:Dv g m n k=0:=by
   have:(0:Nat)∣Dv g m n k:=(IC g m n k 0).2 (fun r hr c hc=>by
    have hd:=h r hr c hc;have hle:=TQ h9 k r c;rcases Nat.eq_zero_or_pos (Cw g k r c).natAbs with e0|e0
    ·rw[e0]
     exact Nat.dvd_refl 0
    ·have:=Nat.le_of_dvd e0 hd
     omega)
   exact Nat.eq_zero_of_zero_dvd this
  omega
theorem mN(n w:Nat):bl (n+1) w=if w.testBit n then bl n w++[(n:Int)] else bl n w:=by
 unfold bl;rw[List.range_succ,List.filter_append,List.map_append];by_cases c:w.testBit n
 ·simp[c]
 ·simp[c]
theorem MX(n w:Nat):(bl n w).length<=n:=by
 unfold bl;rw[List.length_map];exact Nat.le_trans (List.length_filter_le _ _) (by rw[List.length_range];exact Nat.le_refl _)
theorem IE:∀n w:Nat,n<=4->w<2 ^ n->(bl 4 w).length=(bl n w).length:=by
 have h:((List.range 5).all fun n=>(List.range (2 ^ n)).all fun w=>(bl 4 w).length == (bl n w).length)=true:=by decide +kernel
 intro n w hn hw;simp only[List.all_eq_true]at h;simpa using h n (List.mem_range.2 om) w (List.mem_range.2 hw)
theorem IF(l:List Int)(x:Int){i:Nat}(h:i<=l.length):gt (l++[x]) (i:Int)=if i<l.length then gt l (i:Int)else x:=by
 unfold gt;rw[List.getD_eq_getElem?_getD,List.getD_eq_getElem?_getD];show(l++[x])[i]?.getD default=_;by_cases c:i<l.length
 ·rw[List.getElem?_append_left c,if_pos c];rfl
 ·rw[if_neg c,show i=l.length by omega,List.getElem?_concat_length];rfl
end Go.Proofs.Ytdpbiegfljmhmaa.Ext
namespace Go.Proofs.Ytdpbiegfljmhmaa
open Go.cY
set_option maxRecDepth 100000
def Ph(s:Nat)(M:Nat->Nat->Int)(p:Nat):Int:=if p=0 then(s:Int)else M ((p-1) / 4) ((p-1) % 4)
structure Sq(h0 h:af)(b s:Nat)(M:Nat->Nat->Int):Prop where
 ext:Ext h0 h
 own:bW h b 17 ((iK (Ph s M) 17).map (.int .i64))
 cE:h0.next<=b
 lt:b<h.next
section
variable{h0 h:af}{b s:Nat}{M:Nat->Nat->Int}
theorem Sq.more{h':af}(t:Sq h0 h b s M)(e:Ext h h'):Sq h0 h' b s M:=⟨t.ext.trans e,t.own.ext e t.lt,t.cE,Nat.lt_of_lt_of_le t.lt e.next⟩
theorem Sq.congr{N:Nat->Nat->Int}(t:Sq h0 h b s M)(e:∀i j,i<4->j<4->M i j=N i j):Sq h0 h b s N:=
 ⟨t.ext,by
  have:iK (Ph s N) 17=iK (Ph s M) 17:=dX (fun p hp=>by
   unfold Ph;split
   ·rfl
   ·exact(e _ _ om om).symm)
  rw[this];exact t.own,t.cE,t.lt⟩
theorem Sq.cell(t:Sq h0 h b s M){p:Nat}(hp:p<17):h.aM ⟨b,p,none⟩ 1=some [.int .i64 (Ph s M p)]:=by
 rw[t.own.getInt (by rw[aW];exact hp),List.getD_eq_getElem?_getD,jE _ hp];rfl
theorem Sq.size(t:Sq h0 h b s M):h.aM ⟨b,0+0,none⟩ 1=some [.int .i64 s]:=t.cell (p:=0) om
theorem Sq.el(t:Sq h0 h b s M){i j:Nat}(hi:i<4)(hj:j<4):h.aM ⟨b,0+1+i*4+j*1,none⟩ 1=some [.int .i64 (M i j)]:=by
 rw[t.cell om];unfold Ph;rw[if_neg om,show(0+1+i*4+j*1-1) / 4=i by omega,show(0+1+i*4+j*1-1) % 4=j by omega]
theorem Sq.wr{v:Int}{p:Nat}{s':Nat}{N:Nat->Nat->Int}(t:Sq h0 h b s M)(hp:p<17)(e:∀q,q<17->(if q=p then v else Ph s M q)=Ph s' N q):∃h',h.write b p [.int .i64 v]=some h'/\Sq h0 h' b s' N/\jf h h' b:=by
 obtain⟨h',w1,w2,w3⟩:=t.own.setInt (i:=p) (by rw[aW];exact hp) v;refine⟨h',w1,⟨w3.ext t.ext t.cE,?_,t.cE,by rw[w3.next];exact t.lt⟩,w3⟩;rw[tW,dX e]at w2;exact w2
theorem Sq.set(t:Sq h0 h b s M){i j:Nat}(hi:i<4)(hj:j<4)(v:Int):∃h',h.write b (0+1+i*4+j*1) [.int .i64 v]=some h'/\Sq h0 h' b s (tV M i j v)/\jf h h' b:=
 t.wr om (fun q hq=>by
  unfold Ph tV;by_cases c:q=0+1+i*4+j*1
  ·rw[if_pos c,if_neg om,if_pos om]
  ·rw[if_neg c]
   by_cases c0:q=0
   ·rw[if_pos c0,if_pos c0]
   ·rw[if_neg c0,if_neg c0,if_neg om])
theorem Sq.grow(t:Sq h0 h b s M){S:Int}(eS:S=(s:Int)+1):∃h',h.write b (0+0) [.int .i64 S]=some h'/\Sq h0 h' b (s+1) M/\jf h h' b:=
 t.wr om (fun q hq=>by
  unfold Ph;by_cases c:q=0+0
  ·rw[if_pos c,if_pos c,eS];rfl
  ·rw[if_neg c,if_neg om,if_neg om])
theorem Sq.row(t:Sq h0 h b s M){i:Nat}(hi:i<4):h.aM ⟨b,0+1+i*4,none⟩ 4=some [.int .i64 (M i 0),.int .i64 (M i 1),.int .i64 (M i 2),.int .i64 (M i 3)]:=by
 rw[t.own.aM (by rw[List.length_map,aW];omega)];have h:i=0\/i=1\/i=2\/i=3:=om
 rcases h with rfl|rfl|rfl|rfl<;>rfl
def TV(M:Nat->Nat->Int)(i:Nat)(w:Nat->Int):Nat->Nat->Int:=fun x y=>if x=i then w y else M x y
theorem Sq.setRow(t:Sq h0 h b s M){i:Nat}(hi:i<4)(w:Nat->Int):∃h',h.write b (0+1+i*4) [.int .i64 (w 0),.int .i64 (w 1),.int .i64 (w 2),.int .i64 (w 3)]=some h'/\Sq h0 h' b s (TV M i w)/\jf h h' b:=by
 obtain⟨h',w1,w2,w3⟩:=t.own.write (o:=0+1+i*4) (vs:=[.int .i64 (w 0),.int .i64 (w 1),.int .i64 (w 2),.int .i64 (w 3)]) (by rw[List.length_map,aW];show 0+1+i*4+4<=17;omega);refine⟨h',w1,⟨w3.ext t.ext t.cE,?_,t.cE,by rw[w3.next];exact t.lt⟩,w3⟩;have h:i=0\/i=1\/i=2\/i=3:=om
 rcases h with rfl|rfl|rfl|rfl<;>exact w2
theorem Sq.new(h:af):Sq h (h.push 17 (List.replicate 17 (.int .i64 0))) h.next 0 (fun _ _=>0):=
 ⟨.push h _ _,bW.push h 17 _,Nat.le_refl _,by simp[af.push]⟩
end
end Go.Proofs.Ytdpbiegfljmhmaa
namespace Go.Proofs.Ytdpbiegfljmhmaa.Ext
theorem IG{s:Nat}(M:Nat->Nat->Int){a b:Nat}(ha:a<s)(hb:b<s)(e:a≠b):dt s (fun x y=>M (sw a b x) y)=- dt s M:=by
 have h4:s<=4\/5<=s:=om
 rcases h4 with h4|h4
 rotate_left
 ·obtain⟨t,rfl⟩:∃t,s=t+5:=⟨s-5,om⟩
  rfl
 have hs:s=0\/s=1\/s=2\/s=3\/s=4:=om
 have R0:a=0\/a=1\/a=2\/a=3:=om
 have uX:b=0\/b=1\/b=2\/b=3:=om
 rcases hs with rfl|rfl|rfl|rfl|rfl<;>rcases R0 with rfl|rfl|rfl|rfl<;>rcases uX with rfl|rfl|rfl|rfl<;>first|(exfalso;omega)|(simp only[dt,sw,d4,d3,d2];grind)
theorem EC{s:Nat}(M:Nat->Nat->Int){a b:Nat}(ha:a<s)(hb:b<s)(e:a≠b)(h:∀y,y<s->M a y=M b y):dt s M=0:=by
 have h1:=IG M ha hb e;have h2:dt s (fun x y=>M (sw a b x) y)=dt s M:=fK fun x y hx hy=>by
  unfold sw;by_cases c:x=a
  ·rw[if_pos c,c];exact(h y hy).symm
  ·rw[if_neg c]
   by_cases d:x=b
   ·rw[if_pos d,d];exact h y hy
   ·rw[if_neg d]
 omega
theorem G6{s:Nat}(M:Nat->Nat->Int){a:Nat}(ha:a<s)(u v:Nat->Int)(p q:Int):dt s (fun x y=>if x=a then p*u y+q*v y else M x y)=p*dt s (fun x y=>if x=a then u y else M x y)+q*dt s (fun x y=>if x=a then v y else M x y):=by
 have h4:s<=4\/5<=s:=om
 rcases h4 with h4|h4
 rotate_left
 ·obtain⟨t,rfl⟩:∃t,s=t+5:=⟨s-5,om⟩
  simp[dt]
 have hs:s=0\/s=1\/s=2\/s=3\/s=4:=om
 have R0:a=0\/a=1\/a=2\/a=3:=om
 rcases hs with rfl|rfl|rfl|rfl|rfl<;>rcases R0 with rfl|rfl|rfl|rfl<;>first|(exfalso;omega)|(simp[dt,d4,d3,d2]<;>grind)
theorem MY{s:Nat}(M:Nat->Nat->Int){a:Nat}(ha:a<s)(c:Nat->Int)(U:Nat->Nat->Int):∀n,dt s (fun x y=>if x=a then aV (fun i=>c i*U i y) n else M x y)=aV (fun i=>c i*dt s (fun x y=>if x=a then U i y else M x y)) n
 |0=>by
  have:=G6 M ha (fun _=>0) (fun _=>0) 0 0;simp only[Int.zero_mul,Int.mul_zero,Int.add_zero]at this;exact this
 |n+1=>by
  have:=G6 M ha (fun y=>aV (fun i=>c i*U i y) n) (U n) 1 (c n);simp only[Int.one_mul]at this;show dt s (fun x y=>if x=a then aV (fun i=>c i*U i y) n+c n*U n y else M x y)=aV (fun i=>c i*dt s (fun x y=>if x=a then U i y else M x y)) n+c n*dt s (fun x y=>if x=a then U n y else M x y);rw[this,MY M ha c U n]
theorem rH{d:Int}{f:Nat->Int}:∀n,(∀i,i<n->d∣f i)->d∣aV f n
 |0,_=>Int.dvd_zero d
 |n+1,h=>Int.dvd_add (rH n (fun i hi=>h i om)) (h n om)
def me(F:Nat->Nat->Int)(m n k:Nat)(d:Int):Prop:=∀r c:Nat->Nat,(∀i,i<k->r i<m)->(∀j,j<k->c j<n)->d∣dt k (fun i j=>F (r i) (c j))
theorem me.T{F:Nat->Nat->Int}{m n k:Nat}{d:Int}(h:me F m n k d):me (fun i j=>F j i) n m k d:=fun r c hr hc=>by
 have:=h c r hc hr;rw[<-Kd]at this;exact this
theorem me.rows{F G:Nat->Nat->Int}{m m' n k:Nat}{d:Int}(h:me F m n k d)(e:∀i,i<m'->∃y:Nat->Int,∀j,j<n->G i j=aV (fun t=>y t*F t j) m):me G m' n k d:=by
 have key:∀t,t<=k->∀r c:Nat->Nat,(∀i,i<k->i<k-t->r i<m)->(∀i,i<k->k-t<=i->r i<m')->(∀j,j<k->c j<n)->d∣dt k (fun i j=>if i<k-t then F (r i) (c j)else G (r i) (c j)):=by
  intro t
  induction t with
  |zero=>
   intro _ r c h1 h2 hc;rw[fK (N:=fun i j=>F (r i) (c j)) (fun i j hi hj=>by rw[if_pos om])];exact h r c (fun i hi=>h1 i hi om) hc
  |succ t ih=>
   intro ht r c h1 h2 hc;obtain⟨a,ea⟩:∃a,a=k-(t+1):=⟨_,rfl⟩;obtain⟨y,hy⟩:=e (r a) (h2 a om om);rw[fK (N:=fun i j=>if i=a then aV (fun u=>y u*F u (c j)) m else(fun i j=>if i<k-(t+1)then F (r i) (c j)else G (r i) (c j)) i j) (fun i j hi hj=>by
    by_cases q:i=a
    ·rw[if_pos q,if_neg om,q];exact hy _ (hc j hj)
    ·rw[if_neg q])]
   rw[MY _ om y (fun u j=>F u (c j)) m];refine rH m (fun u hu=>Int.dvd_mul_of_dvd_right ?_);have:=ih om (fun i=>if i=a then u else r i) c (fun i hi hk=>by
    by_cases q:i=a
    ·simp only[if_pos q];exact hu
    ·simp only[if_neg q];exact h1 i hi om) (fun i hi hk=>by
    have:i≠a:=om
    simp only[if_neg this];exact h2 i hi om) hc
   rw[fK (N:=fun i j=>if i=a then F u (c j)else(fun i j=>if i<k-(t+1)then F (r i) (c j)else G (r i) (c j)) i j)]at this
   ·exact this
   ·intro i j hi hj
    by_cases q:i=a
    ·simp only[if_pos q];rw[if_pos om]
    ·simp only[if_neg q]
     by_cases w:i<k-(t+1)
     ·rw[if_pos w,if_pos om]
     ·rw[if_neg w,if_neg om]
 intro r c hr hc;have:=key k (Nat.le_refl _) r c (fun i _ hi=>om) (fun i hi _=>hr i hi) hc;rw[fK (N:=fun i j=>G (r i) (c j)) (fun i j hi hj=>by rw[if_neg om])]at this;exact this
theorem me.W9{F G:Nat->Nat->Int}{m n n' k:Nat}{d:Int}(h:me F m n k d)(e:∀j,j<n'->∃y:Nat->Int,∀i,i<m->G i j=aV (fun t=>y t*F i t) n):me G m n' k d:=by
 have:=(h.T.rows (G:=fun i j=>G j i) (m':=n') e).T;exact this
theorem vU{k:Nat}(hk:k<=4):∀(N:Nat) (r:Nat->Nat),4*r 0+3*r 1+2*r 2+r 3<=N->(∀F:Nat->Nat->Int,dt k (fun i j=>F (r i) j)=0)\/∃r':Nat->Nat,(∀i,i+1<k->r' i<r' (i+1))/\(∀m,(∀i,i<k->r i<m)->∀i,i<k->r' i<m)/\∀F:Nat->Nat->Int,(dt k (fun i j=>F (r i) j)).natAbs=(dt k (fun i j=>F (r' i) j)).natAbs:=by
 intro N
 induction N with
 |zero=>
  intro r h;by_cases k2:2<=k
  ·left
   intro F;exact EC _ (a:=0) (b:=1) om om om (fun y hy=>by rw[show r 0=r 1 by omega])
  ·right
   exact⟨r,fun i hi=>om,fun m hm=>hm,fun F=>rfl⟩
 |succ N ih=>
  intro r h;by_cases c:∃i,i+1<k/\¬r i<r (i+1)
  ·obtain⟨i,hi,hn⟩:=c
   by_cases e:r i=r (i+1)
   ·left
    intro F;exact EC _ (a:=i) (b:=i+1) om om om (fun y hy=>by rw[e])
   ·have e0:∀x,sw i (i+1) x=if x=i then i+1 else if x=i+1 then i else x:=fun x=>rfl
    have hm:4*r (sw i (i+1) 0)+3*r (sw i (i+1) 1)+2*r (sw i (i+1) 2)+r (sw i (i+1) 3)<=N:=by
     have hi3:i=0\/i=1\/i=2:=om
     rcases hi3 with rfl|rfl|rfl<;>simp[sw]at *<;>omega
    have key:∀F:Nat->Nat->Int,(dt k (fun x j=>F (r x) j)).natAbs=(dt k (fun x j=>F (r (sw i (i+1) x)) j)).natAbs:=fun F=>by
     have:dt k (fun x j=>F (r (sw i (i+1) x)) j)=- dt k (fun x j=>F (r x) j):=IG (fun x j=>F (r x) j) (a:=i) (b:=i+1) (show i<k by omega) hi om;omega
    rcases ih (fun x=>r (sw i (i+1) x)) hm with q|⟨r',a1,a2,a3⟩
    ·left
     intro F;have:=key F;rw[q F]at this;omega
    ·right
     refine⟨r',a1,fun m hm=>a2 m (fun x hx=>hm _ (EB om hi hx)),fun F=>?_⟩;rw[key F];exact a3 F
  ·right
   refine⟨r,fun i hi=>?_,fun m hm=>hm,fun F=>rfl⟩;exact Classical.byContradiction fun q=>c ⟨i,hi,q⟩
theorem G7(n:Nat):∀(k f:Nat) (r:Nat->Nat),(∀i,i+1<k->r i<r (i+1))->(∀i,i<k->r i<n)->(0<k->f<=r 0)->(List.range k).map (fun i=>(r i:Int))∈ch n k f
 |0,f,r,_,_,_=>by simp[ch]
 |k+1,f,r,h1,h2,h3=>by
  have ih:=G7 n k (r 0+1) (fun i=>r (i+1)) (fun i hi=>h1 (i+1) om) (fun i hi=>h2 (i+1) om) (fun hk=>h1 0 om);have f0:=h3 om;have l0:=h2 0 om;simp only[ch,List.mem_flatMap,List.mem_map];refine⟨r 0,List.mem_range'_1.2 ⟨f0,om⟩,_,ih,?_⟩;rw[List.range_succ_eq_map,List.map_cons,List.map_map];rfl
theorem ED(r:Nat->Nat){k i:Nat}(h:i<k):gt ((List.range k).map (fun i=>(r i:Int))) (i:Int)=(r i:Int):=by
 unfold gt;rw[List.getD_eq_getElem?_getD];simp[h]
theorem me.of{F:Nat->Nat->Int}{m n k:Nat}{d:Int}(hk:k<=4)(h:∀r c:Nat->Nat,(∀i,i+1<k->r i<r (i+1))->(∀j,j+1<k->c j<c (j+1))->(∀i,i<k->r i<m)->(∀j,j<k->c j<n)->d∣dt k (fun i j=>F (r i) (c j))):me F m n k d:=by
 intro r c hr hc;rcases vU hk _ r (Nat.le_refl _)with q|⟨r',a1,a2,a3⟩
 ·rw[q (fun x j=>F x (c j))];exact Int.dvd_zero d
 ·rcases vU hk _ c (Nat.le_refl _)with q|⟨c',b1,b2,b3⟩
  ·have:=q (fun x j=>F (r j) x)
   rw[Kd (fun i j=>F (r i) (c j))]at this;rw[this];exact Int.dvd_zero d
  ·have h0:=h r' c' a1 b1 (a2 m hr) (b2 n hc)
   have e1:=a3 (fun x j=>F x (c j));have e2:=b3 (fun x j=>F (r' j) x);rw[Kd (fun i j=>F (r' i) (c j)),Kd (fun i j=>F (r' i) (c' j))]at e2;rw[<-Int.dvd_natAbs]at h0 ⊢;rw[e1,e2];exact h0
theorem nh{g:List (List Int)}{m n k:Nat}(hk:k<=4)(d:Nat):d∣Dv g m n k↔me (fun i j=>el g i j) m n k d:=by
 rw[IC g m n k d];constructor
 ·intro h
  refine me.of hk (fun r c h1 h2 hr hc=>?_);have:=h _ (G7 m k 0 r h1 hr (fun _=>Nat.zero_le _)) _ (G7 n k 0 c h2 hc (fun _=>Nat.zero_le _));unfold Cw at this;rw[fK (N:=fun i j=>el g (r i) (c j)) (fun i j hi hj=>by rw[ED r hi,ED c hj])]at this;exact Int.ofNat_dvd_left.2 this
 ·intro h r hr c hc
  have l1:=Cx m k 0 r hr;have l2:=Cx n k 0 c hc;have i1:=R3 m k 0 r hr;have i2:=R3 n k 0 c hc;have mem:∀(l:List Int) (i:Nat),i<l.length->gt l (i:Int)∈l:=fun l i hi=>by
   unfold gt;rw[List.getD_eq_getElem?_getD,show((i:Int)).toNat=i from rfl,List.getElem?_eq_getElem hi];exact List.getElem_mem hi
  have:=h (fun i=>(gt r (i:Int)).toNat) (fun j=>(gt c (j:Int)).toNat) (fun i hi=>by have:=i1 _ (mem r i om);omega) (fun j hj=>by have:=i2 _ (mem c j om);omega);rw[fK (N:=fun i j=>el g (gt r (i:Int)) (gt c (j:Int))) (fun i j hi hj=>by
   have h1:=i1 _ (mem r i om);have h2:=i2 _ (mem c j om);simp only;rw[Int.toNat_of_nonneg h1.1,Int.toNat_of_nonneg h2.1])]at this
  exact Int.ofNat_dvd_left.1 this
theorem EE{f g:Nat->Int}{k:Nat}:∀(n:Nat),k<n->(∀j,j<n->j≠k->f j=g j)->aV f n=aV g n+(f k-g k)
 |0,h,_=>om
 |n+1,h,e=>by
  show aV f n+f n=aV g n+g n+(f k-g k);by_cases c:k=n
  ·subst c
   rw[aN k (fun j hj=>e j om om)];omega
  ·rw[EE n om (fun j hj ne=>e j om ne),e n om om]
   omega
theorem ni(x:List Int){k:Nat}(v:Int)(hk:k<x.length)(j:Nat):gt (x.set k v) (j:Int)=if j=k then v else gt x (j:Int):=by
 unfold gt;rw[List.getD_eq_getElem?_getD,List.getD_eq_getElem?_getD,show((j:Int)).toNat=j from rfl,List.getElem?_set];by_cases c:k=j
 ·subst c;simp[hk]
 ·rw[if_neg c,if_neg (fun q=>c q.symm)]
theorem zm{x y:List Int}{n:Nat}(hx:x.length=n)(hy:y.length=n)(h:∀j:Nat,j<n->gt x (j:Int)=gt y (j:Int)):x=y:=by
 apply List.ext_getElem?;intro j;by_cases c:j<n
 ·have:=h j c
  unfold gt at this;rw[List.getD_eq_getElem?_getD,List.getD_eq_getElem?_getD,show((j:Int)).toNat=j from rfl,List.getElem?_eq_getElem om,List.getElem?_eq_getElem om]at this;rw[List.getElem?_eq_getElem om,List.getElem?_eq_getElem om];exact congrArg some this
 ·rw[List.getElem?_eq_none om,List.getElem?_eq_none om]
def Mk(A:Nat->Nat->Int):Nat->Int
 |0=>1
 |k+1=>Mk A k*A k k
structure AE(A:Nat->Nat->Int)(R:Nat->Int)(size:Int)(n:Nat):Prop where
 up:∀i j,i<n->j<i->A i j=0
 pos:∀i,i<n->0<A i i
 szp:0<size
 szd:Mk A n∣size
 rd:∀k,k<n->Mk A n∣R k
theorem AE.MZ{A:Nat->Nat->Int}{R:Nat->Int}{size:Int}{n:Nat}(t:AE A R size n){k:Nat}:∀d,k+d<=n->Mk A k∣Mk A (k+d)
 |0,_=>Int.dvd_refl _
 |d+1,h=>Int.dvd_trans (t.MZ d om) ⟨A (k+d) (k+d),rfl⟩
theorem AE.mk_le{A:Nat->Nat->Int}{R:Nat->Int}{size:Int}{n:Nat}(t:AE A R size n){k:Nat}(h:k<=n):Mk A k∣Mk A n:=by
 have:=t.MZ (k:=k) (n-k) om
 rwa [show k+(n-k)=n by omega]at this
def iE(A:Nat->Nat->Int)(n i:Nat)(x:List Int):Int:=aV (fun j=>A i j*gt x (j:Int)) n
def nM(A:Nat->Nat->Int)(R:Nat->Int)(size:Int)(n k:Nat)(x:List Int):Int:=(R k-iE A n k x) % size
def jF(A:Nat->Nat->Int)(R:Nat->Int)(size:Int)(n k:Nat)(x:List Int)(t:Nat):List Int:=x.set k (nM A R size n k x / A k k+t*(size / A k k))
def iy(A:Nat->Nat->Int)(R:Nat->Int)(size:Int)(n k:Nat)(l:List (List Int)):List (List Int):=l.flatMap (fun x=>(List.range (A k k).toNat).map (jF A R size n k x))
def nN(A:Nat->Nat->Int)(R:Nat->Int)(size:Int)(n:Nat):Nat->List (List Int)
 |0=>[List.replicate n 0]
 |d+1=>iy A R size n (n-1-d) (nN A R size n d)
structure Cy(A:Nat->Nat->Int)(R:Nat->Int)(size:Int)(n k:Nat)(x:List Int):Prop where
 len:x.length=n
 zero:∀j:Nat,j<k->gt x (j:Int)=0
 yO:∀j:Nat,k<=j->j<n->0<=gt x (j:Int)/\gt x (j:Int)<size
 eqs:∀i,k<=i->i<n->(R i-iE A n i x) % size=0
section
variable{A:Nat->Nat->Int}{R:Nat->Int}{size:Int}{n k:Nat}
theorem EF(x:List Int)(v:Int)(hx:x.length=n)(hk:k<n)(hz:gt x (k:Int)=0)(i:Nat):iE A n i (x.set k v)=iE A n i x+A i k*v:=by
 unfold iE;rw[EE (f:=fun j=>A i j*gt (x.set k v) (j:Int)) (g:=fun j=>A i j*gt x (j:Int)) n hk (fun j hj ne=>by rw[ni x v om,if_neg ne])];show _+(A i k*gt (x.set k v) (k:Int)-A i k*gt x (k:Int))=_;rw[ni x v om,if_pos rfl,hz,Int.mul_zero,Int.sub_zero]
theorem ua(t:AE A R size n)(hk:k<n){x:List Int}(hd:∀j:Nat,j<n->Mk A (k+1)∣gt x (j:Int)):∃q z,nM A R size n k x=A k k*q/\size=A k k*z/\nM A R size n k x / A k k=q/\size / A k k=z/\0<=q/\q<z/\Mk A k∣q/\Mk A k∣z:=by
 have ap:=t.pos k hk;have d1:Mk A (k+1)∣size:=Int.dvd_trans (t.mk_le om) t.szd;have d2:Mk A (k+1)∣R k-iE A n k x:=Int.dvd_sub (Int.dvd_trans (t.mk_le om) (t.rd k hk)) (rH n (fun j hj=>Int.dvd_mul_of_dvd_right (hd j hj)));have d3:Mk A (k+1)∣nM A R size n k x:=by
  unfold nM;rw[Int.emod_def];exact Int.dvd_sub d2 (Int.dvd_mul_of_dvd_left d1)
 obtain⟨c1,e1⟩:=d1;obtain⟨c3,e3⟩:=d3;have PD:size=A k k*(Mk A k*c1):=by rw[e1];show Mk A k*A k k*c1=_;rw[Int.mul_comm (Mk A k),Int.mul_assoc]
 have Pj:nM A R size n k x=A k k*(Mk A k*c3):=by rw[e3];show Mk A k*A k k*c3=_;rw[Int.mul_comm (Mk A k),Int.mul_assoc]
 have l0:0<=nM A R size n k x:=Int.emod_nonneg _ (by have:=t.szp;omega);have l1:nM A R size n k x<size:=Int.emod_lt_of_pos _ t.szp;refine⟨Mk A k*c3,Mk A k*c1,Pj,PD,by rw[Pj];exact Int.mul_ediv_cancel_left _ om,by rw[PD];exact Int.mul_ediv_cancel_left _ om,?_,?_,⟨c3,rfl⟩,⟨c1,rfl⟩⟩
 ·rw[Pj]at l0
  exact Int.nonneg_of_mul_nonneg_right l0 ap
 ·have l1':A k k*(Mk A k*c3)<A k k*(Mk A k*c1):=by rw[<-Pj,<-PD];exact l1
  exact Int.lt_of_mul_lt_mul_left l1' (Int.le_of_lt ap)
theorem Qg(t:AE A R size n)(hk:k<n){l:List (List Int)}(h1:∀x,x∈l↔Cy A R size n (k+1) x)(h2:∀x,x∈l->∀j:Nat,j<n->Mk A (k+1)∣gt x (j:Int)) :
  (∀x,x∈iy A R size n k l↔Cy A R size n k x)/\∀x,x∈iy A R size n k l->∀j:Nat,j<n->Mk A k∣gt x (j:Int):=by
 have ap:=t.pos k hk;have mem:∀y,y∈iy A R size n k l↔∃x,x∈l/\∃c:Nat,(c:Int)<A k k/\jF A R size n k x c=y:=fun y=>by
  unfold iy;simp only[List.mem_flatMap,List.mem_map,List.mem_range];constructor
  ·rintro⟨x,hx,c,hc,e⟩;exact⟨x,hx,c,om,e⟩
  ·rintro⟨x,hx,c,hc,e⟩;exact⟨x,hx,c,om,e⟩
 constructor
 ·intro y
  rw[mem y];constructor
  ·rintro⟨x,hx,c,hc,rfl⟩
   have sx:=(h1 x).1 hx;obtain⟨q,z,e1,e2,e3,e4,q0,qz,_,_⟩:=ua t hk (h2 x hx);have lx:=sx.len;have hz:=sx.zero k om;unfold jF;rw[e3,e4];have cz:(c:Int)*z<=(A k k-1)*z:=Int.mul_le_mul_of_nonneg_right om om;have cz0:0<=(c:Int)*z:=Int.mul_nonneg om om;rw[Int.sub_mul,Int.one_mul,<-e2]at cz;refine⟨by rw[List.length_set];exact lx,fun j hj=>?_,fun j j0 j1=>?_,fun i i0 i1=>?_⟩
   ·rw[ni x _ om,if_neg om];exact sx.zero j om
   ·rw[ni x _ om]
    by_cases e:j=k
    ·rw[if_pos e];omega
    ·rw[if_neg e];exact sx.yO j om j1
   ·rw[EF x _ lx hk hz i]
    by_cases e:i=k
    ·subst e
     have e5:nM A R size n i x=(R i-iE A n i x) % size:=rfl;have e6:=Int.emod_add_mul_ediv (R i-iE A n i x) size;rw[<-e5,e1]at e6;have e7:R i-(iE A n i x+A i i*(q+c*z))=size*((R i-iE A n i x) / size)-size*c:=by
      rw[Int.mul_add];have:A i i*(c*z)=size*c:=by rw[e2,Int.mul_assoc,Int.mul_comm z]
      omega
     rw[e7,<-Int.mul_sub];exact Int.mul_emod_right _ _
    ·rw[t.up i k i1 om,Int.zero_mul,Int.add_zero]
     exact sx.eqs i om i1
  ·intro sy
   have ly:=sy.len;obtain⟨x,ex⟩:∃x,x=y.set k 0:=⟨_,rfl⟩;have lx:x.length=n:=by rw[ex,List.length_set];exact ly
   have gx:∀j:Nat,gt x (j:Int)=if j=k then 0 else gt y (j:Int):=fun j=>by rw[ex,ni y 0 om]
   have hz:gt x (k:Int)=0:=by rw[gx,if_pos rfl]
   have ey:y=x.set k (gt y (k:Int)):=zm ly (by rw[List.length_set];exact lx) (fun j hj=>by
    rw[ni x _ om,gx];by_cases e:j=k
    ·rw[if_pos e,e]
    ·rw[if_neg e,if_neg e])
   have Xa:∀i,iE A n i y=iE A n i x+A i k*gt y (k:Int):=fun i=>by
    exact(congrArg (iE A n i) ey).trans (EF x (gt y (k:Int)) lx hk hz i)
   have sx:Cy A R size n (k+1) x:=by
    refine⟨lx,fun j hj=>?_,fun j j0 j1=>?_,fun i i0 i1=>?_⟩
    ·rw[gx]
     by_cases e:j=k
     ·rw[if_pos e]
     ·rw[if_neg e];exact sy.zero j om
    ·rw[gx,if_neg om];exact sy.yO j om j1
    ·have:=sy.eqs i om i1
     rw[Xa i,t.up i k i1 om,Int.zero_mul,Int.add_zero]at this;exact this
   have hx:=(h1 x).2 sx;obtain⟨q,z,e1,e2,e3,e4,q0,qz,_,_⟩:=ua t hk (h2 x hx);obtain⟨y0,y1⟩:=sy.yO k (Nat.le_refl k) hk;obtain⟨v,ev⟩:∃v,v=gt y (k:Int):=⟨_,rfl⟩;have heq:=sy.eqs k (Nat.le_refl k) hk;rw[Xa k,<-ev]at heq;rw[<-ev]at y0 y1 ey;obtain⟨c,hc⟩:∃c,v=q+c*z:=by
    have e6:=Int.emod_add_mul_ediv (R k-iE A n k x) size;have e5:nM A R size n k x=(R k-iE A n k x) % size:=rfl;rw[<-e5,e1]at e6;obtain⟨w,hw⟩:=Int.dvd_of_emod_eq_zero heq;refine⟨(R k-iE A n k x) / size-w,Int.eq_of_mul_eq_mul_left (show A k k≠0 by omega) ?_⟩;rw[Int.mul_add,Int.sub_mul,Int.mul_sub];have r1:A k k*((R k-iE A n k x) / size*z)=size*((R k-iE A n k x) / size):=by
     rw[Int.mul_comm ((R k-iE A n k x) / size),<-Int.mul_assoc,<-e2]
    have r2:A k k*(w*z)=size*w:=by rw[Int.mul_comm w,<-Int.mul_assoc,<-e2]
    rw[r1,r2];omega
   have c0:0<=c:=by
    refine Classical.byContradiction fun w=>?_
    have:=Int.mul_le_mul_of_nonneg_right (show c<=-1 by omega) (show 0<=z by omega);omega
   have c1:c<A k k:=by
    refine Classical.byContradiction fun w=>?_
    have:=Int.mul_le_mul_of_nonneg_right (show A k k<=c by omega) (show 0<=z by omega);rw[<-e2]at this;omega
   refine⟨x,hx,c.toNat,om,?_⟩;unfold jF;rw[e3,e4,show((c.toNat:Nat):Int)=c by omega,<-hc];exact ey.symm
 ·intro y hy j hj
  obtain⟨x,hx,c,hc,rfl⟩:=(mem y).1 hy;obtain⟨q,z,e1,e2,e3,e4,q0,qz,dq,dz⟩:=ua t hk (h2 x hx);unfold jF;rw[e3,e4,ni x _ (by have:=((h1 x).1 hx).len;omega)];by_cases e:j=k
  ·rw[if_pos e]
   exact Int.dvd_add dq (Int.dvd_mul_of_dvd_right dz)
  ·rw[if_neg e]
   exact Int.dvd_trans ⟨A k k,rfl⟩ (h2 x hx j hj)
theorem G8(t:AE A R size n)(hk:k<n):∀{l:List (List Int)},(∀x,x∈l->Cy A R size n (k+1) x)->(∀x,x∈l->∀j:Nat,j<n->Mk A (k+1)∣gt x (j:Int))->l.Nodup->(iy A R size n k l).Nodup/\((iy A R size n k l).length:Int)=l.length*A k k:=by
 have ap:=t.pos k hk;intro l
 induction l with
 |nil=>intro _ _ _;exact⟨List.nodup_nil,by simp[iy]⟩
 |cons x l ih=>
  intro h1 h2 hn;obtain⟨i1,i2⟩:=ih (fun y hy=>h1 y (List.mem_cons_of_mem _ hy)) (fun y hy=>h2 y (List.mem_cons_of_mem _ hy)) (List.nodup_cons.1 hn).2;have sx:=h1 x (List.mem_cons_self ..);obtain⟨q,z,e1,e2,e3,e4,q0,qz,_,_⟩:=ua t hk (h2 x (List.mem_cons_self ..));have back:∀y,Cy A R size n (k+1) y->∀v:Int,(y.set k v).set k 0=y:=fun y sy v=>by
   rw[List.set_set];exact zm (by rw[List.length_set];exact sy.len) sy.len (fun j hj=>by
    rw[ni y 0 (by have:=sy.len;omega)];by_cases e:j=k
    ·rw[if_pos e,e,sy.zero k om]
    ·rw[if_neg e])
  have hd:iy A R size n k (x :: l)=(List.range (A k k).toNat).map (jF A R size n k x)++iy A R size n k l:=by unfold iy;rw[List.flatMap_cons]
  rw[hd];constructor
  ·rw[List.nodup_append]
   refine⟨?_,i1,fun a ha b hb e=>?_⟩
   ·refine List.Pairwise.map _ (fun c d ne e=>?_) List.nodup_range
    apply ne;have g1:gt (jF A R size n k x c) (k:Int)=gt (jF A R size n k x d) (k:Int):=by rw[e]
    unfold jF at g1;rw[ni x _ (by have:=sx.len;omega),ni x _ (by have:=sx.len;omega),if_pos rfl,if_pos rfl,e3,e4]at g1;have:(c:Int)*z=d*z:=om
    have:=Int.eq_of_mul_eq_mul_right (show z≠0 by omega) this;omega
   ·obtain⟨c,_,rfl⟩:=List.mem_map.1 ha
    unfold iy at hb;obtain⟨y,hy,hb⟩:=List.mem_flatMap.1 hb;obtain⟨d,_,rfl⟩:=List.mem_map.1 hb;have:=congrArg (fun w=>w.set k 0) e;simp only[jF]at this;rw[back x sx,back y (h1 y (List.mem_cons_of_mem _ hy))]at this;exact(List.nodup_cons.1 hn).1 (this ▸ hy)
  ·rw[List.length_append,List.length_map,List.length_range,List.length_cons]
   push_cast
   rw[i2,Int.add_mul,Int.one_mul,Int.toNat_of_nonneg om];omega
theorem vl(t:AE A R size n):∀d,d<=n->(∀x,x∈nN A R size n d↔Cy A R size n (n-d) x)/\(∀x,x∈nN A R size n d->∀j:Nat,j<n->Mk A (n-d)∣gt x (j:Int))/\(nN A R size n d).Nodup/\((nN A R size n d).length:Int)*Mk A (n-d)=Mk A n
 |0,_=>by
  have gz:∀j:Nat,gt (List.replicate n (0:Int)) (j:Int)=0:=fun j=>by
   unfold gt;rw[List.getD_eq_getElem?_getD,show((j:Int)).toNat=j from rfl,List.getElem?_replicate];split<;>rfl
  refine⟨fun x=>?_,fun x hx j hj=>?_,by simp[nN],by simp[nN]⟩
  ·show x∈[List.replicate n 0]↔_
   rw[List.mem_singleton];constructor
   ·rintro rfl
    exact⟨List.length_replicate,fun j _=>gz j,fun j j0 j1=>om,fun i i0 i1=>om⟩
   ·intro s
    exact zm s.len List.length_replicate (fun j hj=>by rw[gz,s.zero j om])
  ·rw[List.mem_singleton.1 (show x∈[List.replicate n 0]from hx),gz]
   exact Int.dvd_zero _
 |d+1,h=>by
  obtain⟨i1,i2,i3,i4⟩:=vl t d om;have e:n-d=n-1-d+1:=om
  rw[e]at i1 i2 i4;obtain⟨a1,a2⟩:=Qg t (k:=n-1-d) om i1 i2;obtain⟨b1,b2⟩:=G8 t (k:=n-1-d) om (fun x hx=>(i1 x).1 hx) i2 i3;have e2:n-(d+1)=n-1-d:=om
  rw[e2];refine⟨a1,a2,b1,?_⟩;show((iy A R size n (n-1-d) (nN A R size n d)).length:Int)*Mk A (n-1-d)=_;rw[b2,<-i4];show _=(nN A R size n d).length*(Mk A (n-1-d)*A (n-1-d) (n-1-d));rw[Int.mul_assoc,Int.mul_comm (A _ _)]
end
end Go.Proofs.Ytdpbiegfljmhmaa.Ext
namespace Go.Proofs.Ytdpbiegfljmhmaa
open Go.RowKit
open Go.cY
set_option maxRecDepth 100000
variable{F:bk}{call head arith d0 k0 m0 n0 o0 neg imax r0 ofNat s0 place t0 nz u0 rd wr push next w0 x0 z0 f1 n1 o1 t1 u1 f2 g2 n2 o2 p2 q2 u2 aG wrote v2 lt ne x2 f3 g3 yn yO l3 n3 o3 p3 q3:_}(hA:AP F ⟨call,head,arith,d0,k0,m0,n0,o0,neg,imax,r0,ofNat,s0,place,t0,nz,u0,rd,wr,push,next,w0,x0,z0,f1,n1,o1,t1,u1,f2,g2,n2,o2,p2,q2,u2,aG,wrote,v2,lt,ne,x2,f3,g3,yn,yO,l3,n3,o3,p3,q3⟩)
include hA
theorem Kf{b w c:Nat}{v:Ext.aS}{h:af}(hw:w<=1000)(hr:∀x,x<w->h.aM ⟨b,0+x*1,none⟩ 1=some [.int .i64 (v x)]){W:Int}(eW:W=w){Q:Exit->SS->Prop}
  (jl:∀L,L=(Ext.aj w v:Int)->Ext.aj w v<w->Q .ret ⟨[(2,.int .i64 L),(14,.int .i64 L),(3,.int .i64 L)],0,[],h⟩)
  (fI:∀(kn:Nat) (T:List (Nat×List Value)),Ext.aj w v=w->Q (.exit 0) ⟨[(0,.slice (some ⟨b,0,none⟩) w c)],kn,T,h⟩) :
  ∀(d j:Nat) (J:Int),w-j<=d->j<=w->J=j->(∀i,i<j->v i=0)->
   head 56 2 0 ⟨[(0,.slice (some ⟨b,0,none⟩) w c),(5,.slice (some ⟨b,0,none⟩) w c),(6,.int .i64 W),(7,.int .i64 J)],0,[],h⟩ Q:=by
 refine rS (fun d ih=>?_);intro j J hd hj eJ hz;by_cases cj:j<w
 rotate_left
 ·refine hA.ar Try.func56 x56.2 (zc ?_)
  refine br (J<W) (by rw[aA hA]) (fun q=>om) (fun _=>?_)<;>refine zc ?_;exact fI _ _ (Ext.iI (Nat.le_refl _) (fun i hi=>hz i om) (fun q=>om))
 obtain⟨d,rfl⟩:∃k,d=k+1:=⟨d-1,om⟩
 replace ih:=ih d rfl
 obtain⟨x,hx⟩:∃z,z=v j:=⟨_,rfl⟩;have r1:rd h b (place 0 J 1) 1 [.int .i64 x]:=aC hA (by rw[eJ,hx];exact hr j cj);refine hA.ar Try.func56 x56.2 (zc ?_);refine br (J<W) (by rw[aA hA]) (fun _=>?_) (fun q=>om)<;>refine zc ?_;refine zq ?_;refine br (x≠0) (by rw[cB hA]) (fun e=>?_) (fun e=>?_)<;>refine zc ?_
 ·have hl:Ext.aj w v=j:=Ext.iI om hz (fun _=>by rw[<-hx];exact e)
  exact jl J om om
 ·rw[aH hA om om]
  refine ih (j+1) (J+1) om om om (fun i hi=>?_);by_cases ei:i=j
  ·rw[ei,<-hx];omega
  ·exact hz i om
theorem rI{b w c:Nat}{v:Ext.aS}{h:af}(aq:h.low<=h.next)(hw:w<=1000)(hr:∀x,x<w->h.aM ⟨b,0+x*1,none⟩ 1=some [.int .i64 (v x)]){Q:Value->af->Prop}(hQ:∀L:Int,L=Ext.aj w v->Q (.int .i64 L) h) :
  call 56 [.slice (some ⟨b,0,none⟩) w c] h Q:=by
 obtain⟨W,eW⟩:∃z:Int,z=w:=⟨_,rfl⟩;have e1:ofNat w=W:=by rw[eW];exact aL hA w
 refine hA.aU Try.func56 x56.2 (hA.alike _ _ _ rfl) aq (zc ?_)
 (refine zq ?_;repeat ((first|rw[e1]);refine zq ?_))
 refine Kf hA hw hr eW (fun L eL _=>?_) (fun kn T e=>?_) w 0 0 om om rfl (fun i hi=>om)
 ·refine zc ?_
  exact hQ L eL
 ·(refine zq ?_;repeat ((first|rw[e1]);refine zq ?_))
  exact hQ W om
theorem rJ{a b:Int}(hb:0<b)(h1:-9000000000000000000<=a)(h2:a<=9000000000000000000){h:af}(aq:h.low<=h.next){Q:Value->af->Prop}(hQ:∀q,q=a / b->Q (.int .i64 q) h):call 68 [.int .i64 a,.int .i64 b] h Q:=by
 have q0:=Int.natAbs_tdiv_le_natAbs a b;obtain⟨t,et⟩:∃z,z=a.tdiv b:=⟨_,rfl⟩;obtain⟨r,er⟩:∃z,z=a.tmod b:=⟨_,rfl⟩;have k1:arith .quo .i64 a b=t:=by rw[et,EG hA];exact wrap64 om om
 have k2:arith .rem .i64 a b=r:=by rw[er,IH hA]
 have key:=Int.mul_tdiv_add_tmod a b;rw[<-et,<-er]at key;have B5:r<b:=by
  rw[er];have:=Int.tmod_lt_of_pos a hb;exact this
 have JL:-b<r:=by
  have h:=Int.neg_tmod a b;have:=Int.tmod_lt_of_pos (-a) hb;omega
 refine hA.aU Try.func68 x68.2 (hA.alike _ _ _ rfl) aq (zc ?_);refine⟨dK hA om,?_⟩;refine zc ?_;rw[k1];refine zc ?_;refine⟨dK hA om,?_⟩;refine zc ?_;rw[k2];refine zc ?_;have hd:∀q:Int,(q*b<=a/\a<q*b+b)->q=a / b:=fun q ⟨z1,z2⟩=>by
  have y1:=Int.emod_nonneg a (show b≠0 by omega);have y2:=Int.emod_lt_of_pos a hb;have y3:=Int.emod_add_mul_ediv a b;rw[Int.mul_comm]at y3;rcases Int.lt_trichotomy q (a / b)with c|c|c
  ·have:=Int.mul_le_mul_of_nonneg_right (show q+1<=a / b by omega) (Int.le_of_lt hb)
   rw[Int.add_mul]at this;omega
  ·exact c
  ·have:=Int.mul_le_mul_of_nonneg_right (show a / b+1<=q by omega) (Int.le_of_lt hb)
   rw[Int.add_mul]at this;omega
 rw[Int.mul_comm]at key;refine br (r<0) (by rw[aA hA]) (fun c=>?_) (fun c=>?_)<;>refine zc ?_
 ·rw[bO hA om om]
  exact hQ _ (hd _ (by rw[Int.sub_mul];omega))
 ·exact hQ _ (hd _ om)
theorem Kg{h0 hs:af}{n w r y c1 c2:Nat}{bs:Nat->Nat}{F:Nat->Ext.aS}{t:Int}(hr:r<n)(hy:y<n)(hw:w<=1000)(hb:∀x,x<w->(F r x).natAbs<=9000000000000000000/\(t*F y x).natAbs<=9000000000000000000/\(F r x-t*F y x).natAbs<=9000000000000000000){W:Int}(eW:W=w){Q:Exit->SS->Prop}
  (hQ:∀(h':af) (kn:Nat) (T:List (Nat×List Value)),dW h0 h' n w bs (Cu F r w (fun x=>F r x-t*F y x))->ku hs h' (bs r)->Q (.exit 0) ⟨[],kn,T,h'⟩) :
  ∀(d j:Nat) (J:Int) (h:af),w-j<=d->j<=w->J=j->dW h0 h n w bs (Cu F r j (fun x=>F r x-t*F y x))->ku hs h (bs r)->
   head 99 1 0 ⟨[(0,.slice (some ⟨bs r,0,none⟩) w c1),(1,.slice (some ⟨bs y,0,none⟩) w c2),(2,.int .i64 t),(8,.int .i64 W),(9,.int .i64 J)],0,[],h⟩ Q:=by
 refine rS (fun d ih=>?_);intro j J h hd hj eJ m st;by_cases cj:j<w
 rotate_left
 ·refine hA.ar Try.func99 x99.2 (zc ?_)
  refine br (J<W) (by rw[aA hA]) (fun q=>om) (fun _=>?_)<;>refine zc ?_;obtain rfl:j=w:=om
  exact hQ h _ _ m st
 obtain⟨d,rfl⟩:∃k,d=k+1:=⟨d-1,om⟩
 replace ih:=ih d rfl
 have x9:Ext h (aG h 13):=au hA _ _;have m9:=m.more x9;obtain⟨a,ha⟩:∃z,z=F r j:=⟨_,rfl⟩;obtain⟨b,uX⟩:∃z,z=F y j:=⟨_,rfl⟩;have r1:rd (aG h 13) (bs r) (place 0 J 1) 1 [.int .i64 a]:=aC hA (by
  have:=m9.el hr cj;rw[show Cu F r j (fun x=>F r x-t*F y x) r j=a by unfold Cu;rw[if_neg om,ha]]at this;rw[eJ];exact this)
 have r2:rd (aG h 13) (bs y) (place 0 J 1) 1 [.int .i64 b]:=aC hA (by
  have:=m9.el hy cj;rw[show Cu F r j (fun x=>F r x-t*F y x) y j=b by unfold Cu;rw[if_neg om,uX]]at this;rw[eJ];exact this)
 obtain⟨b1,b2,b3⟩:=hb j cj;rw[<-ha]at b1 b3;rw[<-uX]at b2 b3;obtain⟨u,hu⟩:∃z,z=t*b:=⟨_,rfl⟩;rw[<-hu]at b2 b3;have m1:arith .mul .i64 t b=u:=by rw[hu];exact jG hA om om
 obtain⟨g,hg⟩:∃z,z=a-u:=⟨_,rfl⟩;have m2:arith .sub .i64 a u=g:=by rw[hg];exact bO hA om om
 obtain⟨h2,w1,t2,Qh⟩:=m9.set hr cj g;have w1:wr (aG h 13) (bs r) (place 0 J 1) [.int .i64 g] h2:=uc hA (by rw[eJ];exact w1);refine hA.ar Try.func99 x99.2 (zc ?_);refine br (J<W) (by rw[aA hA]) (fun _=>?_) (fun q=>om)<;>refine zc ?_
 (refine zq ?_;repeat ((first|rw[m1]|rw[m2]);refine zq ?_))
 rw[aH hA om om];refine ih (j+1) (J+1) h2 om om om (t2.congr (fun z x hz hx=>?_)) ((st.ext x9).wrote Qh);unfold tV Cu;by_cases c:z=r/\x=j
 ·rw[if_pos c,if_pos ⟨c.1,om⟩,c.2,hg,hu,ha,uX]
 ·rw[if_neg c]
  by_cases c2:z=r/\x<j
  ·rw[if_pos c2,if_pos ⟨c2.1,om⟩]
  ·rw[if_neg c2,if_neg (fun q=>c ⟨q.1,by
    by_cases e:x=j
    ·exact e
    ·exact absurd ⟨q.1,om⟩ c2⟩)]
theorem Cz{h0 h:af}(aq:h.low<=h.next){n w r y c1 c2:Nat}{bs:Nat->Nat}{F:Nat->Ext.aS}{t:Int}(hr:r<n)(hy:y<n)(hw:w<=1000)(hb:∀x,x<w->(F r x).natAbs<=9000000000000000000/\(t*F y x).natAbs<=9000000000000000000/\(F r x-t*F y x).natAbs<=9000000000000000000)
  (m:dW h0 h n w bs F) {Q:Value->af->Prop} (hQ:∀h',dW h0 h' n w bs (Ext.put F r (fun x=>F r x-t*F y x))->ku h h' (bs r)->Q (.tuple #[]) h') :
  call 99 [.slice (some ⟨bs r,0,none⟩) w c1,.slice (some ⟨bs y,0,none⟩) w c2,.int .i64 t] h Q:=by
 obtain⟨W,eW⟩:∃z:Int,z=w:=⟨_,rfl⟩;have e1:ofNat w=W:=by rw[eW];exact aL hA w
 refine hA.aU Try.func99 x99.2 (hA.alike _ _ _ rfl) aq (zc ?_)
 (refine zq ?_;repeat ((first|rw[e1]);refine zq ?_))
 refine Kg hA hr hy hw hb eW (fun h' kn T m2 st=>?_) w 0 0 h om om rfl (m.congr (fun z x hz hx=>by unfold Cu;rw[if_neg om])) (.refl _ _);refine zc ?_;refine hQ h' (m2.congr (fun z x hz hx=>?_)) st;unfold Cu Ext.put;by_cases c:z=r
 ·rw[if_pos ⟨c,hx⟩,if_pos c]
 ·rw[if_neg (fun q=>c q.1),if_neg c]
theorem Kh{h0:af}(g:Nat){Q:Exit->SS->Prop}
  (hQ:∀(a:Int) h',a.natAbs=g->a.natAbs<=9000000000000000000->Ext h0 h'->Q (.exit 0) ⟨[(0,.int .i64 a)],0,[],h'⟩) :
  ∀(d:Nat) (a b:Int) (h:af),b.natAbs<=d->Int.gcd a b=g->a.natAbs<=9000000000000000000->b.natAbs<=9000000000000000000->Ext h0 h->
   head 67 1 0 ⟨[(0,.int .i64 a),(1,.int .i64 b)],0,[],h⟩ Q:=by
 intro d
 induction d with
 |zero=>
  intro a b h hd hg ha hb x;obtain rfl:b=0:=om
  refine hA.ar Try.func67 x67.2 (zc ?_);refine br ((0:Int)≠0) (by rw[cB hA]) (fun q=>absurd rfl q) (fun _=>?_)<;>refine zc ?_;exact hQ a h (by rw[<-hg,Int.gcd_zero_right]) ha x
 |succ d ih=>
 intro a b h hd hg ha hb x;by_cases cb:b=0
 ·subst cb
  refine hA.ar Try.func67 x67.2 (zc ?_);refine br ((0:Int)≠0) (by rw[cB hA]) (fun q=>absurd rfl q) (fun _=>?_)<;>refine zc ?_;exact hQ a h (by rw[<-hg,Int.gcd_zero_right]) ha x
 obtain⟨r,er⟩:∃z,z=a.tmod b:=⟨_,rfl⟩;have m1:arith .rem .i64 a b=r:=by rw[er,IH hA]
 have lt:r.natAbs<b.natAbs:=by rw[er,Int.natAbs_tmod];exact Nat.mod_lt _ om
 have eg:Int.gcd b r=g:=by
  rw[<-hg,er];show Nat.gcd b.natAbs (a.tmod b).natAbs=Nat.gcd a.natAbs b.natAbs;rw[Int.natAbs_tmod,Nat.gcd_comm a.natAbs,Nat.gcd_comm b.natAbs (a.natAbs % b.natAbs),<-Nat.gcd_rec]
 refine hA.ar Try.func67 x67.2 (zc ?_);refine br (b≠0) (by rw[cB hA]) (fun _=>?_) (fun q=>absurd cb q)<;>refine zc ?_
 (refine zq ?_;repeat ((first|rw[m1]);refine zq ?_))
 exact ih b r _ om eg hb om (x.trans (au hA _ _))
theorem II{h:af}(aq:h.low<=h.next){a b:Int}(ha:a.natAbs<=9000000000000000000)(hb:b.natAbs<=9000000000000000000){Q:Value->af->Prop}(hQ:∀h',Ext h h'->Q (.int .i64 (Int.gcd a b)) h'):call 67 [.int .i64 a,.int .i64 b] h Q:=by
 refine hA.aU Try.func67 x67.2 (hA.alike _ _ _ rfl) aq (zc ?_);refine Kh hA (h0:=h) (Int.gcd a b) (fun x h' hx hle x1=>?_) b.natAbs a b h (Nat.le_refl _) rfl ha hb (.refl h);obtain⟨G,eG⟩:∃z:Int,z=Int.gcd a b:=⟨_,rfl⟩;have m1:imax x (neg .i64 x)=G:=by rw[M0 hA,vV hA,wrap64 om om];omega
 have hq:=hQ h' x1;rw[<-eG]at hq
 (refine zq ?_;repeat ((first|rw[m1]);refine zq ?_))
 exact hq
theorem Ki{x:Int}(h0:0<=x)(h1:x<16){h:af}(aq:h.low<=h.next){Q:Value->af->Prop}(hQ:∀v:Int,v=(Ext.bl 4 x.toNat).length->Q (.int .i64 v) h):call 94 [.int .u64 x] h Q:=by
 refine hA.aU Try.func94 x94.2 (hA.alike _ _ _ rfl) aq (zc ?_);refine zq ?_;refine hQ _ ?_;simp only[M3 hA,M4 hA,IJ hA,sM hA];have hx:x=0\/x=1\/x=2\/x=3\/x=4\/x=5\/x=6\/x=7\/x=8\/x=9\/x=10\/x=11\/x=12\/x=13\/x=14\/x=15:=om
 rcases hx with rfl|rfl|rfl|rfl|rfl|rfl|rfl|rfl|rfl|rfl|rfl|rfl|rfl|rfl|rfl|rfl<;>rfl
theorem IK{x:Int}(h0:0<=x)(h1:x<16){h:af}(aq:h.low<=h.next){Q:Value->af->Prop}(hQ:∀v:Int,v=(Ext.bl 4 x.toNat).length->Q (.int .i64 v) h):call 79 [.int .u64 x] h Q:=by
 refine hA.aU Try.func79 x79.2 (hA.alike _ _ _ rfl) aq (zc ?_);refine Ki hA h0 h1 aq (fun v ev=>⟨v,rfl,?_⟩);refine zq ?_;exact hQ v ev
