/- Proved: the statement SmithNames: the function fringelaw30.SmithNames,called in any world,returns true and leaves what was there as it was. No conditions. -/
import Derived.Test.YtdpbiegfljmhmaaRows
import Derived.Test.YtdpbiegfljmhmaaNmW
import Derived.Test.YtdpbiegfljmhmaaSymI
import Derived.Test.YtdpbiegfljmhmaaSmAl
import Derived.WalkKit
import Derived.ProofKit
import Derived.OpenShut
import Derived.ChangeOld
import Derived.ChangeMaps5
import Derived.Below
set_option linter.unusedSimpArgs false
set_option linter.unusedVariables false
namespace Go.Proofs.Ytdpbiegfljmhmaa.smithNamesDone
open Go.ChangeShapes Go.WideShapes Go.ChangeAt Go.RowKit Go.cL
theorem own:ownKnob Try.prog.godebug=none:=by kernel_rfl
set_option maxRecDepth 100000 in
theorem lifted(os:Os)(started:os.Started)(H:Type)(enc:TypeId×Value->H) :
  ReturnsInHanded {} Try.checked os 6 .any (Rows.smithNamesSpec.pre6 enc Try.prog Try.f6 Rows.smithNamesRow.domain false) (Rows.smithNamesSpec.post enc Try.prog Try.f6 false true false false):=by
 refine returnsInHanded_of_change (C:=Try.checked) own started (by kernel_rfl) Try.func6
  (ChangeSpec.witness6 (enc:=enc) (C:=Try.checked) false ⟨#[],#[],[]⟩ 8 (by kernel_rfl) (by kernel_rfl) (by kernel_rfl) (by kernel_rfl)) ?_
 intro W base args ds gs before Zd hW WJ _;have hW':=hW;obtain⟨p,q,Lv,hV,rfl,hfz,Zj⟩:=hW;have hA:DataW.TrodAll enc Try.prog W 0 (fun _=>true) true Try.f6.params.toList args.toList ds p:=Lv;rw[Try.params6]at hA;obtain⟨iU,rfl,rfl⟩:=trodAll_nil hA;obtain rfl:args=#[]:=by cases args;simp_all
 obtain⟨rfl,rfl⟩:=trodVars_none hV;obtain⟨h,hR,aq,Eg,hm⟩:=M7 W;clear Lv Zd;have hB:AP vx (bm Try.prog hint vx):=⟨⟨rfl,y8⟩,FM⟩;have walk:Calls Try.prog 6 #[] W fun e w'=>e=.returned (.bool true)/\Below W.heap.size W w':=by
  refine G3 mixed Pg y8 named Try.func6 (by kernel_rfl) (by decide) hR aq Eg (args:=[]) (Xi rfl) (K3 hB HV Lc om (fun h' he=>⟨rfl,he⟩))
 refine walk.mono fun e W' ⟨he,Ll⟩=>?_
 subst he;exact⟨_,rfl,_,_,_,[],_,[],hW',trodAll_mk1 (shut_bool Try.underlying4 _),trodAll_mk0,rfl,Ll.frame _,fun h=>by cases h⟩
theorem over:Rows.smithNamesRow.holds Try.pinned (OpenSpec.ofChange Rows.smithNamesSpec):=
 OpenClaim.holds_of_wide 6 Try.f6 rfl rfl rfl rfl rfl rfl rfl ⟨rfl,rfl,rfl,rfl,rfl⟩ rfl rfl rfl rfl rfl (by kernel_rfl) Try.func6 (by kernel_rfl)
  (of_decide_eq_true (by kernel_rfl)) (by unfold Func.isWrapper;first|(rw[if_pos (by decide +kernel)];kernel_rfl)|(rw[if_neg (by decide +kernel)];exact⟨rfl,rfl⟩))
  (fun os started H enc _=>lifted os started H enc)
theorem proved:Rows.SmithNamesSaid:=over
end Go.Proofs.Ytdpbiegfljmhmaa.smithNamesDone
