/- Proved: the statement CyclesNames: the function fringelaw28.CyclesNames,called in any world,returns true and leaves what was there as it was. No conditions. -/
import Derived.Test.YtmkiclinllifiaaRows
import Derived.Test.YtmkiclinllifiaaCyA
import Derived.Test.YtmkiclinllifiaaCyC
import Derived.Test.YtmkiclinllifiaaCyLN
import Derived.WalkKit
import Derived.ProofKit
import Derived.OpenShut
import Derived.ChangeOld
import Derived.ChangeMaps5
import Derived.Below
set_option linter.unusedSimpArgs false
set_option linter.unusedVariables false
namespace Go.Proofs.Ytmkiclinllifiaa.cyclesNamesDone
open Go.ChangeShapes Go.WideShapes Go.ChangeAt Go.RowKit Go.Sim
theorem own:ownKnob Try.prog.godebug=none:=by kernel_rfl
theorem alike0(g:FuncId)(args:List Value)(h:AHeap)(hg:Ytmkiclinllifiaa.own g=false):prims0 g args h=none:=by
 unfold Ytmkiclinllifiaa.own at hg;simp only[Bool.or_eq_false_iff]at hg;obtain⟨⟨_,h1⟩,h2⟩:=hg;unfold prims0 withF;rw[h1,h2];rfl
theorem lw0:LW prims0:=⟨fun _ _=>rfl,fun _ _=>rfl⟩
set_option maxRecDepth 100000 in
theorem lifted(os:Os)(started:os.Started)(H:Type)(enc:TypeId×Value->H) :
  ReturnsInHanded {} Try.checked os 9 .any (Rows.cyclesNamesSpec.pre6 enc Try.prog Try.f9 Rows.cyclesNamesRow.domain false) (Rows.cyclesNamesSpec.post enc Try.prog Try.f9 false true false false):=by
 refine returnsInHanded_of_change (C:=Try.checked) own started (by kernel_rfl) Try.func9
  (ChangeSpec.witness6 (enc:=enc) (C:=Try.checked) false ⟨#[],#[],[]⟩ 8 (by kernel_rfl) (by kernel_rfl) (by kernel_rfl) (by kernel_rfl)) ?_
 intro W base args ds gs before hval0 hW hcnd _;have hW':=hW;obtain⟨p,q,hA0,hV,rfl,hfz,hnd⟩:=hW;have hA:DataW.TrodAll enc Try.prog W 0 (fun _=>true) true Try.f9.params.toList args.toList ds p:=hA0;rw[Try.params9]at hA;obtain⟨hargs,rfl,rfl⟩:=trodAll_nil hA;obtain rfl:args=#[]:=by cases args;simp_all
 obtain⟨rfl,rfl⟩:=trodVars_none hV;obtain⟨h,hR,hlow,hnext,hm⟩:=world_ok W;clear hA0 hval0;have hB:AP prims0 (atomsOf Try.prog hint prims0):=⟨⟨rfl,prims0_keep⟩,alike0⟩;have walk:Calls Try.prog 9 #[] W fun e w'=>e=.returned (.bool true)/\Below W.heap.size W w':=by
  refine law_calls2 mixed prims0_ok prims0_keep named Try.func9 (by kernel_rfl) (by decide) hR hlow hnext (args:=[]) (repCs rfl) (names_ok hB lw0 (fun _ _=>rfl) (by omega) (fun h' he=>⟨rfl,he⟩))
 refine walk.mono fun e W' ⟨he,bel⟩=>?_
 subst he;exact⟨_,rfl,_,_,_,[],_,[],hW',trodAll_mk1 (shut_bool Try.underlying4 _),trodAll_mk0,rfl,bel.frame _,fun h=>by cases h⟩
theorem over:Rows.cyclesNamesRow.holds Try.pinned (OpenSpec.ofChange Rows.cyclesNamesSpec):=
 OpenClaim.holds_of_wide 9 Try.f9 rfl rfl rfl rfl rfl rfl rfl ⟨rfl,rfl,rfl,rfl,rfl⟩ rfl rfl rfl rfl rfl (by kernel_rfl) Try.func9 (by kernel_rfl)
  (of_decide_eq_true (by kernel_rfl)) (by unfold Func.isWrapper;first|(rw[if_pos (by decide +kernel)];kernel_rfl)|(rw[if_neg (by decide +kernel)];exact⟨rfl,rfl⟩))
  (fun os started H enc _=>lifted os started H enc)
theorem proved:Rows.CyclesNamesSaid:=over
end Go.Proofs.Ytmkiclinllifiaa.cyclesNamesDone
