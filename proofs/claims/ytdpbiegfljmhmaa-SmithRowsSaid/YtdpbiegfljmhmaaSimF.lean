import Derived.Test.YtdpbiegfljmhmaaSimE
set_option linter.unusedSimpArgs false
set_option linter.unusedVariables false
namespace Go.Sim
open Go.RowKit
def af.anew(h:af):af:={ h with low:=h.next }
theorem Fj{G:Nat->Option cN}{h:af}{w:World}(hR:HR ⟨G,fun _=>none⟩ (fV h) w):HR ⟨G,fun _=>none⟩ (fV h.anew) w:=
 { gdom:=hR.gdom,gblk:=hR.gblk,gcon:=hR.gcon,ginj:=hR.ginj,ldom:=hR.ldom,lcon:=hR.lcon,linj:=hR.linj,sep:=hR.sep }
