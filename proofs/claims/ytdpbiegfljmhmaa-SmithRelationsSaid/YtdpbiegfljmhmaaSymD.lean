import Derived.Test.YtdpbiegfljmhmaaSymW
import Derived.DataReads
import Derived.ChangeShapes
import Derived.WideShapes
set_option linter.unusedSimpArgs false
set_option linter.unusedVariables false
namespace Go.Sim
open Go.RowKit
def isCells(w:World)(b:Nat):Bool:=
 match w.heap[b]? with
 |some (.cells _ _ _)=>true
 |_=>false
def repV(w:World):Value->Bool
 | .slice (some a) _ c=>a.spot.isNone && decide (c<slack) && isCells w a.block
 | .pointer (some a)=>a.spot.isNone && isCells w a.block
 |v=>flat1 v
def oddE:Value:=.slice (some ⟨0,0,some 0⟩) 0 0
def absV(w:World)(v:Value):Value:=
 if repV w v then v else
 match v with
 | .slice (some _) 0 0=>oddE
 |_=>.chan none
def worldG(w:World)(b:Nat):Option Loc:=
 match w.heap[b]? with
 |some (.cells cs _ _)=>some ⟨b,0,cs.size,1⟩
 |_=>none
def absB(w:World)(b:Nat):Option Blk:=
 match w.heap[b]? with
 |some (.cells cs _ _)=>some (.live false 1 (cs.toList.map (absV w)))
 |_=>none
theorem worldG_of{w:World}{b:Nat}(h:isCells w b=true):∃n,worldG w b=some ⟨b,0,n,1⟩:=by
 unfold isCells at h;split at h
 ·rename_i cs e fr hb;exact⟨cs.size,by unfold worldG;rw[hb]⟩
 ·cases h
theorem repV_ok{w:World}{v:Value}(h:repV w v=true):VG (worldG w) v v:=by
 unfold repV at h;split at h
 ·rename_i a len c
  simp only[Bool.and_eq_true,decide_eq_true_eq,Option.isNone_iff_eq_none]at h;obtain⟨⟨hs,hc⟩,hb⟩:=h;obtain⟨n,hg⟩:=worldG_of hb;have:=VG.sliceX (g:=worldG w) a _ len c hs hg hc;obtain⟨b,o,sp⟩:=a;simp only at hs;subst hs;simpa using this
 ·rename_i a
  simp only[Bool.and_eq_true,Option.isNone_iff_eq_none]at h;obtain⟨hs,hb⟩:=h;obtain⟨n,hg⟩:=worldG_of hb;have:=VG.ptr (g:=worldG w) a _ hs hg;obtain⟨b,o,sp⟩:=a;simp only at hs;subst hs;simpa using this
 ·exact .flat _ h
theorem absV_ok(w:World)(v:Value):VG (worldG w) (absV w v) v:=by
 unfold absV;split
 ·rename_i h;exact repV_ok h
 ·split
  ·exact .sliceE _ _ 0 rfl
  ·exact .junk _
theorem world_ok (w : World) : ∃ h : AHeap, HR ⟨worldG w, fun _ => none⟩ (St0 h) w ∧ h.low = h.next ∧ h.next = w.heap.size ∧ ∀ b, b < w.heap.size → h.m.get b = absB w b := by
  obtain ⟨t, ht⟩ := Tri.exists_get (absB w) w.heap.size
  have hb : ∀ id L, worldG w id = some L → ∃ cs e fr, w.heap[id]? = some (.cells cs e fr) ∧ L = ⟨id, 0, cs.size, 1⟩ := by
    intro id L h
    unfold worldG at h
    split at h
    · rename_i cs e fr hb; exact ⟨cs, e, fr, hb, by simpa using h.symm⟩
    · cases h
  have hlt : ∀ id L, worldG w id = some L → id < w.heap.size := fun id L h => by
    obtain ⟨cs, e, fr, h1, _⟩ := hb id L h
    exact (Array.getElem?_eq_some_iff.1 h1).1
  refine ⟨{ next := w.heap.size, low := w.heap.size, m := t }, ?_, rfl, rfl, fun b h => by simp only []; rw [ht, if_pos h]⟩
  exact
    { gdom := fun id L h => hlt id L h
      gblk := fun id L h => by
        obtain ⟨cs, e, fr, h1, rfl⟩ := hb id L h
        exact ⟨_, h1, fun cs' e' fr' q => by cases q; rfl⟩
      gcon := fun id L b h hm => by
        obtain ⟨cs, e, fr, h1, rfl⟩ := hb id L h
        have h2 : t.get id = some b := hm
        rw [ht, if_pos (hlt id _ h)] at h2
        unfold absB at h2
        rw [h1] at h2
        simp only [oi] at h2
        subst h2
        refine ⟨rfl, cs, e, fr, h1, ?_, fun hw => by cases hw⟩
        intro i v hv
        rw [List.getElem?_map] at hv
        cases hc : cs.toList[i]? with
        | none => rw [hc] at hv; cases hv
        | some c =>
          rw [hc] at hv
          simp only [Option.map_some, oi] at hv
          subst hv
          exact ⟨c, by simpa using hc, absV_ok w c⟩
      ginj := fun id id' L L' b b' h h' _ _ _ _ e => by
        obtain ⟨cs, e1, fr, h1, rfl⟩ := hb id L h
        obtain ⟨cs', e1', fr', h1', rfl⟩ := hb id' L' h'
        exact e
      ldom := (fun t L h => by cases h), lcon := (fun t L h => by cases h), linj := (fun t t' L L' h => by cases h), sep := (fun id t L L' _ h => by cases h) }
theorem law_calls{P : Program}{H : Hint}{F : Prims}(hm : P.follows .mixedOrders = true)(hF : CallOK P F)(hFk : CallKeep F)(hname : ∀ (g : FuncId) (fn : Func), P.funcs[g]? = some fn → (fn.name == "runtime.NumGoroutine") = false){g : FuncId}{fn : Func}(hf : P.funcs[g]? = some fn)(hb : fn.body.isSome = true)(hg : g < yieldBase)
  {w:World} {h:AHeap} (hR:HR ⟨worldG w,fun _=>none⟩ (St0 h) w) (hlow:h.low=h.next) (hnext:h.next=w.heap.size) {args:List Value} (hargs:∀v∈args,repV w v=true)
  (hw:(atomsOf P H F).call g args h (fun v h'=>v=.bool true/\Ext h h')) :
  Calls P g args.toArray w fun e w'=>e=.returned (.bool true)/\Below w.heap.size w w':=by
 obtain⟨v,h',hr,rfl,hE⟩:=hw.ex;have hA:VGs (worldG w) args args:=⟨rfl,fun i u v hu hv=>by
  rw[hu]at hv;cases hv;exact repV_ok (hargs u (List.mem_of_getElem? hu))⟩
 have hd:=hr.ok hm hF hFk hname hg hR hA;refine(hd.calls hf hb (hname g fn hf)).mono ?_;rintro e w' ⟨c,rfl,G',hv,hG,_⟩;rw[hv.bool];refine⟨rfl,hG.os,hG.tape,hG.output,hG.size,fun k hk=>hG.frame k hk (fun id L hid hLb=>?_) (fun t L h=>by cases h)⟩;have h1:=hE.lowG;have h2:h.next<=h'.low:=by
  rw[hlow]at h1;have:Nat.min h.next h.next=h.next:=Nat.min_self _;omega
 have h3:id<h.next:=hR.gdom id L hid;show id<h'.low;omega
theorem cells_of_world{w:World}{h:AHeap}(hn:h.next=w.heap.size)(hm:∀b,b<w.heap.size->h.m.get b=absB w b){b o n:Nat}{cells:List Value}(hb:isCells w b=true)(hl:cells.length=n)
  (hc:∀i v,cells[i]?=some v->∃c,w.cell? ⟨b,o+i,none⟩=some c/\absV w c=v):Cells h (some ⟨b,o,none⟩) n 1 cells:=by
 unfold isCells at hb;split at hb
 ·rename_i cs e fr hcs
  have hlt:b<w.heap.size:=(Array.getElem?_eq_some_iff.1 hcs).1;refine⟨rfl,by rw[hn];exact hlt,?_⟩;unfold AHeap.readG AHeap.cells?;simp only[];rw[hm b hlt];unfold absB;rw[hcs];simp only[Nat.mul_one];refine readN_some ?_ hl;apply List.ext_getElem?;intro i;rw[List.getElem?_take];by_cases hi:i<n
  ·rw[if_pos hi,List.getElem?_drop,List.getElem?_map]
   have hv:cells[i]?=some cells[i]:=List.getElem?_eq_getElem (by omega);obtain⟨c,h1,h2⟩:=hc i _ hv;unfold World.cell? at h1;simp only[hcs]at h1;rw[hv,<-h2];have:cs.toList[o+i]?=some c:=by simpa using h1
   rw[this];rfl
  ·rw[if_neg hi]
   exact(List.getElem?_eq_none (by omega)).symm
 ·cases hb
end Go.Sim
namespace Go.Sim
theorem okWide_rep{P:Program}{w:World}{r:Reach}{base:Nat}{t e:TypeId}{a:Option Addr}{len cap:Nat}(ht:P.underlying t=some (.slice e))(h:Value.okWide P w r base t (.slice a len cap)) :
  repV w (.slice a len cap)=true/\(a=none->len=0/\cap=0)/\∀x,a=some x->x.spot=none/\isCells w x.block=true:=by
 simp only[Value.okWide,ht,Cell.okWide,Cell.ok]at h;cases a with
 |none=>
  have:len=0/\cap=0:=by
   cases len<;>cases cap<;>simp_all
  obtain⟨rfl,rfl⟩:=this;exact⟨rfl,fun _=>⟨rfl,rfl⟩,fun x hx=>by cases hx⟩
 |some x=>
  obtain⟨h1,h2,_,hs,row,cells,hsh,_⟩:=h;have hc:isCells w x.block=true:=by
   unfold isCells;unfold World.shape? at hsh;split at hsh
   ·rename_i hb;rw[hb]
   ·cases hsh
  refine⟨?_,(fun hx=>by cases hx),(fun y hy=>by cases hy;exact⟨hs,hc⟩)⟩;unfold repV;simp only[Bool.and_eq_true,decide_eq_true_eq,Option.isNone_iff_eq_none];refine⟨⟨hs,?_⟩,hc⟩;have:IntKind.i64.max=9223372036854775807:=rfl;unfold slack;omega
end Go.Sim
namespace Go.Sim
def TS(P:Program)(w:World)(base:Nat):Nat->TypeId->List Value->Prop
 |0,_,_=>False
 |d+1,t,cs=>
  match P.underlying t with
  |some .bool=>∃b,cs=[.bool b]
  |some (.int k)=>∃n,cs=[.int k n]/\(Lit.int k n).wf=true
  |some .string=>∃s,cs=[.string s]/\s.size<=maxLen
  |some (.slice e)=>cs=[.slice none 0 0]\/∃a len cap,cs=[.slice (some a) len cap]/\len<=cap/\cap<=maxLen/\(∀i,i<len->∃l,w.cells? base (a.add (i*P.cellsOf e)) (P.cellsOf e)=some l/\TS P w base d e l)/\(0<cap->0<P.cellsOf e->a.spot=none/\isCells w a.block=true)
  |some (.struct fs)=>cs.length=P.cellsOf t/\∀f∈fs.toList,TS P w base d f.type ((cs.drop f.offset).take (P.cellsOf f.type))
  |some (.array n e)=>cs.length=P.cellsOf t/\∀i,i<n->TS P w base d e ((cs.drop (i*P.cellsOf e)).take (P.cellsOf e))
  |_=>True
theorem mapM_each{α β:Type}{f:α->Option β}{l:List α}{r:List β}(h:l.mapM f=some r){x:α}(hx:x∈l):∃y,f x=some y:=by
 obtain⟨i,hi,rfl⟩:=List.getElem_of_mem hx;have h1:=mapM_some_get h i l[i] (by simp[hi]);have h2:=mapM_some_length h;rw[h1];exact⟨r[i]'(by omega),by simp[h2,hi]⟩
theorem cells_place{w:World}{base n:Nat}{a:Addr}{l:List Value}(h:w.cells? base a n=some l)(hn:0<n):a.spot=none/\isCells w a.block=true:=by
 obtain⟨_,hl,hc⟩:=World.cells?_some h;have h1:=hc 0 hn;rw[List.getElem?_eq_getElem (by omega)]at h1;obtain⟨b,o,s⟩:=a;cases s with
 |some s=>simp[World.cell?,Addr.add]at h1;split at h1<;>simp_all
 |none=>
  refine⟨rfl,?_⟩;rw[show(⟨b,o,none⟩:Addr).add 0=⟨b,o,none⟩from rfl]at h1;simp only[World.cell?]at h1;unfold isCells;simp only;split at h1
  ·rename_i heq;rw[heq]
  ·cases h1
theorem ts_of_trod{H:Type}{enc:TypeId×Value->H}{P:Program}{w:World}{base:Nat}{sp:Nat->Bool}{held:Bool}(hsp:∀b,sp b=true:=by intro _;rfl):∀(fuel:Nat) (t:TypeId) (cs:List Value) (x:DataW H×List MemPlace),DataW.trod enc P w base sp held fuel t cs=some x->TS P w base fuel t cs
 |0,t,cs,x,h=>by simp[DataW.trod]at h
 |n+1,t,cs,x,h=>by
  have ih:=ts_of_trod (enc:=enc) (P:=P) (w:=w) (base:=base) (sp:=sp) (held:=held) hsp n;unfold DataW.trod at h;unfold TS;split at h
  ·rename_i b hu;rw[hu];exact⟨b,rfl⟩
  ·rename_i k k' m hu
   rw[hu];split at h
   ·rename_i hc;obtain⟨rfl,hw⟩:=hc;exact⟨m,rfl,hw⟩
   ·cases h
  ·rename_i hu;rw[hu];trivial
  ·rename_i s hu
   rw[hu];split at h
   ·rename_i hc;exact⟨s,rfl,hc⟩
   ·cases h
  ·rename_i hu;rw[hu];trivial
  ·rename_i hu;rw[hu];trivial
  ·rename_i hu;rw[hu];exact .inl rfl
  ·rename_i e a len cap hu
   rw[hu];split at h
   ·rename_i hc
    simp only[Option.bind_eq_some_iff]at h;obtain⟨es,h1,h2⟩:=h;refine .inr ⟨a,len,cap,rfl,hc.2.1,hc.2.2,fun i hi=>?_,fun hcap hce=>?_⟩
    ·obtain⟨y,hy⟩:=mapM_each h1 (List.mem_range.2 hi)
     rw[Option.bind_eq_some_iff]at hy;obtain⟨l,hl,hy⟩:=hy;exact⟨l,hl,ih _ _ _ hy⟩
    ·have hz:(a.add (0*P.cellsOf e))=a:=by rw[Nat.zero_mul];rfl
     by_cases hlen:0<len
     ·obtain⟨y,hy⟩:=mapM_each h1 (List.mem_range.2 hlen)
      rw[Option.bind_eq_some_iff]at hy;obtain⟨l,hl,hy⟩:=hy;rw[hz]at hl;exact cells_place hl hce
     ·have hl0:len=0:=by omega
      subst hl0;rw[hsp,if_pos rfl,Option.map_eq_some_iff]at h2;obtain⟨rs,h3,_⟩:=h2;obtain⟨y,hy⟩:=mapM_each h3 (List.mem_range.2 (show 0<cap-0 by omega));rw[Option.bind_eq_some_iff]at hy;obtain⟨l,hl,hy⟩:=hy;rw[Nat.zero_add,hz]at hl;exact cells_place hl hce
   ·cases h
  ·rename_i fs hu
   rw[hu];split at h
   ·rename_i hc
    refine⟨hc,fun f hf=>?_⟩;rw[Option.map_eq_some_iff]at h;obtain⟨xs,h1,h2⟩:=h;obtain⟨y,hy⟩:=mapM_each h1 hf;exact ih _ _ _ hy
   ·cases h
  ·rename_i m e hu
   rw[hu];split at h
   ·rename_i hc
    refine⟨hc,fun i hi=>?_⟩;rw[Option.map_eq_some_iff]at h;obtain⟨xs,h1,h2⟩:=h;obtain⟨y,hy⟩:=mapM_each h1 (List.mem_range.2 hi);exact ih _ _ _ hy
   ·cases h
  all_goals first|(rename_i hu;rw[hu];trivial)|cases h
theorem addr_none(b o i:Nat):(⟨b,o,none⟩:Addr).add i=⟨b,o+i,none⟩:=by
 unfold Addr.add;split
 ·rename_i h0;subst h0;rfl
 ·rfl
theorem flat_get{α:Type}(enc:α->List Value){es:Nat}(hes:∀x,(enc x).length=es):∀(xs:List α) (i j:Nat),j<es->(xs.flatMap enc)[i*es+j]?=(xs[i]?).bind fun x=>(enc x)[j]?
 | [],i,j,_=>by simp
 |x :: xs,0,j,hj=>by
  rw[List.flatMap_cons,Nat.zero_mul,Nat.zero_add,List.getElem?_append_left (by rw[hes];exact hj)];rfl
 |x :: xs,i+1,j,hj=>by
  rw[List.flatMap_cons,List.getElem?_append_right (by rw[hes,Nat.add_mul];omega),hes];rw[show(i+1)*es+j-es=i*es+j by rw[Nat.add_mul];omega];rw[flat_get enc hes xs i j hj];rfl
theorem flat_len{α:Type}(enc:α->List Value){es:Nat}(hes:∀x,(enc x).length=es)(xs:List α):(xs.flatMap enc).length=xs.length*es:=by
 induction xs with
 |nil=>simp
 |cons x xs ih=>rw[List.flatMap_cons,List.length_append,hes,ih,List.length_cons,Nat.add_mul];omega
theorem slice_in{P:Program}{w:World}{h:AHeap}(hn:h.next=w.heap.size)(hm:∀b,b<w.heap.size->h.m.get b=absB w b){base d:Nat}{t e:TypeId}{a:Option Addr}{len cap:Nat}(hu:P.underlying t=some (.slice e))
  (hts:TS P w base (d+1) t [.slice a len cap]) (hrep:(a=none->len=0/\cap=0)/\∀x,a=some x->x.spot=none/\isCells w x.block=true)
  {α:Type} (enc:α->List Value) {es:Nat} (hce:P.cellsOf e=es) (hes0:0<es) (hes:∀x,(enc x).length=es) (G:α->Prop) (hdec:∀l,TS P w base d e l->∃x,l.map (absV w)=enc x/\G x) :
  ∃xs:List α,xs.length=len/\len<=cap/\cap<=maxLen/\Cells h a len es (xs.flatMap enc)/\∀x∈xs,G x:=by
 unfold TS at hts;rw[hu]at hts;rcases hts with h1|⟨ad,len',cap',h1,h2,h3,h4,_⟩
 ·simp only[List.cons.injEq,Value.slice.injEq,and_true]at h1
  obtain⟨rfl,rfl,rfl⟩:=h1;exact⟨[],rfl,by omega,by unfold maxLen;omega,⟨rfl,rfl⟩,fun x hx=>by cases hx⟩
 ·simp only[List.cons.injEq,Value.slice.injEq,and_true]at h1
  obtain⟨rfl,rfl,rfl⟩:=h1;obtain⟨hs,hb⟩:=hrep.2 ad rfl;obtain⟨b,o,spt⟩:=ad;simp only at hs hb;subst hs;rw[hce]at h4;have key:∀n,n<=len->∃xs:List α,xs.length=n/\∀i,i<n->∃x,xs[i]?=some x/\G x/\∀j,j<es->∃c v,w.cell? ⟨b,o+(i*es+j),none⟩=some c/\(enc x)[j]?=some v/\absV w c=v:=by
   intro n
   induction n with
   |zero=>intro _;exact⟨[],rfl,fun i hi=>by omega⟩
   |succ n ih=>
    intro hle;obtain⟨xs,hx1,hx2⟩:=ih (by omega);obtain⟨l,hl1,hl2⟩:=h4 n (by omega);obtain⟨x,he,hg⟩:=hdec l hl2;obtain⟨_,hll,hlc⟩:=World.cells?_some hl1;refine⟨xs++[x],by simp[hx1],fun i hi=>?_⟩;by_cases hin:i<n
    ·obtain⟨y,hy1,hy2⟩:=hx2 i hin
     exact⟨y,by rw[List.getElem?_append_left (by omega)];exact hy1,hy2⟩
    ·have:i=n:=by omega
     subst this;refine⟨x,by rw[List.getElem?_append_right (by omega),hx1];simp,hg,fun j hj=>?_⟩;have h5:=hlc j hj;rw[addr_none,addr_none]at h5;have hj2:j<l.length:=by omega
     rw[List.getElem?_eq_getElem hj2]at h5;refine⟨l[j],absV w l[j],by rw[<-h5,Nat.add_assoc],?_,rfl⟩;rw[<-he,List.getElem?_map,List.getElem?_eq_getElem hj2];rfl
  obtain⟨xs,hx1,hx2⟩:=key len (Nat.le_refl _);refine⟨xs,hx1,h2,h3,?_,fun x hx=>?_⟩
  ·have hc:=cells_of_world hn hm (b:=b) (o:=o) (n:=len*es) (cells:=xs.flatMap enc) hb (by rw[flat_len enc hes,hx1]) (fun k v hv=>?_)
   ·obtain⟨c1,c2,c3⟩:=hc
    exact⟨c1,c2,by rw[Nat.mul_one]at c3;exact c3⟩
   ·have hk:k<len*es:=by
     have:=(List.getElem?_eq_some_iff.1 hv).1;rw[flat_len enc hes,hx1]at this;exact this
    have hdm:=Nat.div_add_mod k es;have hmod:=Nat.mod_lt k hes0;have hdiv:k / es<len:=Nat.div_lt_of_lt_mul (by rw[Nat.mul_comm];exact hk);obtain⟨x,hy1,hy2,hy3⟩:=hx2 (k / es) hdiv;obtain⟨c,v',h6,h7,h8⟩:=hy3 (k % es) hmod;have e1:k / es*es+k % es=k:=by rw[Nat.mul_comm];exact hdm
    rw[<-e1,flat_get enc hes xs _ _ hmod,hy1]at hv;simp only[Option.bind_some]at hv;rw[h7]at hv;obtain rfl:=Option.some.inj hv;rw[e1]at h6;exact⟨c,h6,h8⟩
  ·obtain⟨i,hi,rfl⟩:=List.getElem_of_mem hx
   obtain⟨y,hy1,hy2,_⟩:=hx2 i (by omega);rw[List.getElem?_eq_getElem hi]at hy1;obtain rfl:=Option.some.inj hy1;exact hy2
theorem ts_int{P:Program}{w:World}{base d:Nat}{t:TypeId}{k:IntKind}{cs:List Value}(hu:P.underlying t=some (.int k))(h:TS P w base (d+1) t cs):∃n,cs=[.int k n]/\(Lit.int k n).wf=true:=by
 unfold TS at h;rw[hu]at h;exact h
theorem ts_struct{P:Program}{w:World}{base d:Nat}{t:TypeId}{fs:Array Field}{cs:List Value}(hu:P.underlying t=some (.struct fs))(h:TS P w base (d+1) t cs):cs.length=P.cellsOf t/\∀f∈fs.toList,TS P w base d f.type ((cs.drop f.offset).take (P.cellsOf f.type)):=by
 unfold TS at h;rw[hu]at h;exact h
end Go.Sim
namespace Go.Sim
theorem row_cell{P:Program}{w:World}{r:Reach}{base:Nat}{t u:TypeId}{cs:Array Value}{ts:List TypeId}(h:Row.okWide P w r base t cs)(hts:P.cellTypes P.depth t=some ts){i:Nat}{v:Value}(hi:cs[i]?=some v)(hu:ts[i % ts.length]?=some u):Cell.okWide P w r base u v:=by
 obtain⟨ts',h1,_,h2⟩:=h;rw[hts]at h1;obtain rfl:=Option.some.inj h1;obtain⟨u',h3,h4⟩:=h2 i v hi;rw[hu]at h3;obtain rfl:=Option.some.inj h3;exact h4
theorem cell_slice{P:Program}{w:World}{r:Reach}{base:Nat}{t e:TypeId}{v:Value}(ht:P.underlying t=some (.slice e))(h:Cell.okWide P w r base t v) :
  ∃a len cap,v=.slice a len cap/\repV w (.slice a len cap)=true/\(a=none->len=0/\cap=0)/\∀x,a=some x->x.spot=none/\isCells w x.block=true:=by
 have h':Value.okWide P w r base t v:=by unfold Value.okWide;rw[ht];exact h
 obtain⟨a,len,cap,rfl⟩:=WideShapes.okWide_slice ht h';obtain⟨h1,h2⟩:=okWide_rep ht h';exact⟨a,len,cap,rfl,h1,h2⟩
end Go.Sim
namespace Go.Sim
open Go.RowKit
def repC(w:World):Value->Bool
 | .agg cs=>cs.toList.all (repV w)
 |v=>repV w v
theorem repC_ok{w:World}{v:Value}(h:repC w v=true):VG (worldG w) v v:=by
 unfold repC at h;split at h
 ·refine .agg _ _ rfl (fun i u v hu hv=>?_)
  rw[hu]at hv;obtain rfl:=Option.some.inj hv;exact repV_ok (List.all_eq_true.1 h u (List.mem_of_getElem? hu))
 ·exact repV_ok h
theorem repCs{w:World}{args:List Value}(h:args.all (repC w)=true):VGs (worldG w) args args:=⟨rfl,fun i u v hu hv=>by
 rw[hu]at hv;obtain rfl:=Option.some.inj hv;exact repC_ok (List.all_eq_true.1 h u (List.mem_of_getElem? hu))⟩
theorem law_calls2{P : Program}{H : Hint}{F : Prims}(hm : P.follows .mixedOrders = true)(hF : CallOK P F)(hFk : CallKeep F)(hname : ∀ (g : FuncId) (fn : Func), P.funcs[g]? = some fn → (fn.name == "runtime.NumGoroutine") = false){g : FuncId}{fn : Func}(hf : P.funcs[g]? = some fn)(hb : fn.body.isSome = true)(hg : g < yieldBase)
  {w:World} {h:AHeap} (hR:HR ⟨worldG w,fun _=>none⟩ (St0 h) w) (hlow:h.low=h.next) (hnext:h.next=w.heap.size) {args:List Value} (hA:VGs (worldG w) args args)
  (hw:(atomsOf P H F).call g args h (fun v h'=>v=.bool true/\Ext h h')) :
  Calls P g args.toArray w fun e w'=>e=.returned (.bool true)/\Below w.heap.size w w':=by
 obtain⟨v,h',hr,rfl,hE⟩:=hw.ex;have hd:=hr.ok hm hF hFk hname hg hR hA;refine(hd.calls hf hb (hname g fn hf)).mono ?_;rintro e w' ⟨c,rfl,G',hv,hG,_⟩;rw[hv.bool];refine⟨rfl,hG.os,hG.tape,hG.output,hG.size,fun k hk=>hG.frame k hk (fun id L hid hLb=>?_) (fun t L h=>by cases h)⟩;have h1:=hE.lowG;have h2:h.next<=h'.low:=by
  rw[hlow]at h1;have:Nat.min h.next h.next=h.next:=Nat.min_self _;omega
 have h3:id<h.next:=hR.gdom id L hid;show id<h'.low;omega
