import Derived.Test.YtlimjlpjldijdaaSimE
set_option linter.unusedSimpArgs false
set_option linter.unusedVariables false
namespace Go.Sim
open Go.RowKit
def Blur(v0 v:Value):Prop:=(v=v0/\plainT v=true)\/∃x y,v0=.tuple x/\v=.tuple y/\x.toList.length=y.toList.length/\∀(i:Nat) (u w:Value),x.toList[i]?=some u->y.toList[i]?=some w->(w=u/\plain1 u=true)\/w=.chan none
theorem VG.blur{G G':Nat->Option Loc}{v0 v c:Value}(h:VG G' v0 c)(hb:Blur v0 v):VG G v c:=by
 rcases hb with ⟨rfl,h2⟩|⟨x,y,rfl,rfl,hl,hp⟩
 ·rw[h.plainT_eq h2]
  exact .of_plainT h2
 ·cases h with
  |flat _ h=>simp[flat1]at h
  |tuple _ x' hx h1=>
   refine .tuple _ _ (hl.symm.trans hx) (fun i w c hw hc=>?_);obtain⟨u,hu⟩:∃u,x.toList[i]?=some u:=by
    have:=(List.getElem?_eq_some_iff.1 hw).1;exact⟨_,List.getElem?_eq_getElem (by omega)⟩
   rcases hp i u w hu hw with ⟨rfl,h3⟩|rfl
   ·rw[(h1 i _ c hu hc).plain1_eq h3]
    exact .of_plain1 h3
   ·exact .junk c
def AHeap.anew(h:AHeap):AHeap:={ h with low:=h.next }
theorem Does.plain{P:Program}{g:FuncId}{args:Array Value}{G:Nat->Option Loc}{h:AHeap}{w:World}(hR:HR ⟨G,fun _=>none⟩ (St0 h) w){u:Value}(hu:plainT u=true)(hd:Does P g args w (fun c w'=>∃v h' G',(v=u/\h.next<=h'.low)/\VG G' v c/\Good ⟨G,fun _=>none⟩ (St0 h.anew) w ⟨G',fun _=>none⟩ (St0 h') w'/\Adds (h.next<=·) G G')) :
  Does P g args w (fun c w'=>∃G',VG G' u c/\Good ⟨G,fun _=>none⟩ (St0 h) w ⟨G',fun _=>none⟩ (St0 h) w'/\Adds (h.next<=·) G G'):=by
 refine hd.mono (fun c w'=>?_);rintro⟨v,h',G',⟨rfl,hl⟩,hv,hG,_⟩;have bel:Below w.heap.size w w':=⟨hG.os,hG.tape,hG.output,hG.size,fun k hk=>hG.frame k hk (fun id L h0 _=>Nat.lt_of_lt_of_le (hR.gdom id L h0) hl) (fun t L h=>by cases h)⟩;exact⟨G,hv.blur (.inl ⟨rfl,hu⟩),.grown hR bel,.refl _ _⟩
theorem anewHR{G:Nat->Option Loc}{h:AHeap}{w:World}(hR:HR ⟨G,fun _=>none⟩ (St0 h) w):HR ⟨G,fun _=>none⟩ (St0 h.anew) w:=
 { gdom:=hR.gdom,gblk:=hR.gblk,gcon:=hR.gcon,ginj:=hR.ginj,ldom:=hR.ldom,lcon:=hR.lcon,linj:=hR.linj,sep:=hR.sep }
