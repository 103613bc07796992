import Derived.Test.YtdpbiegfljmhmaaSimE
set_option linter.unusedSimpArgs false
set_option linter.unusedVariables false
namespace Go.Sim
open Go.RowKit
def AHeap.anew(h:AHeap):AHeap:={ h with low:=h.next }
theorem anewHR{G:Nat->Option Loc}{h:AHeap}{w:World}(hR:HR ⟨G,fun _=>none⟩ (St0 h) w):HR ⟨G,fun _=>none⟩ (St0 h.anew) w:=
 { gdom:=hR.gdom,gblk:=hR.gblk,gcon:=hR.gcon,ginj:=hR.ginj,ldom:=hR.ldom,lcon:=hR.lcon,linj:=hR.linj,sep:=hR.sep }
