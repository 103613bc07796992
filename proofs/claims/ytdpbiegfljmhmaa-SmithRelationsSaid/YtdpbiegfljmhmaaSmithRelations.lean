/- Proved: the statement SmithRelations: the function fringelaw30.SmithRelations,called with any arguments in any world,returns true and leaves what was there as it was. No conditions. -/
import Derived.Test.YtdpbiegfljmhmaaRows
import Derived.Test.YtdpbiegfljmhmaaSmLR
import Derived.Test.YtdpbiegfljmhmaaSmIn
import Derived.Test.YtdpbiegfljmhmaaSmAl
import Derived.WalkKit
import Derived.ProofKit
import Derived.OpenShut
import Derived.ChangeOld
import Derived.ChangeMaps5
import Derived.Below
set_option linter.unusedSimpArgs false
set_option linter.unusedVariables false
namespace Go.Proofs.Ytdpbiegfljmhmaa.smithRelationsDone
open Go.ChangeShapes Go.WideShapes Go.ChangeAt Go.RowKit Go.Sim
theorem own:ownKnob Try.prog.godebug=none:=by kernel_rfl
theorem laidOut:laidOutB Try.prog=true:=by kernel_rfl
set_option maxRecDepth 100000 in
theorem lifted(os:Os)(started:os.Started)(H:Type)(enc:TypeId×Value->H) :
  ReturnsInHanded {} Try.checked os 4 .any (Rows.smithRelationsSpec.pre6 enc Try.prog Try.f4 Rows.smithRelationsRow.domain false) (Rows.smithRelationsSpec.post enc Try.prog Try.f4 false true false false):=by
 refine returnsInHanded_of_change (C:=Try.checked) own started (by kernel_rfl) Try.func4
  (ChangeSpec.witness6 (enc:=enc) (C:=Try.checked) false ⟨#[],#[.agg #[.slice none 0 0,.slice none 0 0]],[]⟩ 8 (by kernel_rfl) (by kernel_rfl) (by kernel_rfl) (by kernel_rfl)) ?_
 intro W base args ds gs before hval0 hW hcnd _;have hval:∀(j:Nat) t v,Try.f4.params[j]?=some t->args[j]?=some v->Value.okWide Try.prog W .any base t v:=hval0;have hW':=hW;obtain⟨p,q,hA0,hV,rfl,hfz,hnd⟩:=hW;have hA:DataW.TrodAll enc Try.prog W 0 (fun _=>true) true Try.f4.params.toList args.toList ds p:=hA0;rw[Try.params4]at hA hval;obtain⟨v0,vs0,d0,ds0,p0,q0,hargs,rfl,rfl,h0,r0⟩:=trodAll_cons hA;obtain⟨rfl,rfl,rfl⟩:=trodAll_nil r0;obtain rfl:args=#[v0]:=by cases args;simp_all
 obtain⟨rfl,rfl⟩:=trodVars_none hV;obtain⟨h,hR,hlow,hnext,hm⟩:=world_ok W;have k0:=h0;have lt0:∀x∈p0,x.block<W.heap.size:=by obtain⟨m,hm⟩:=k0;exact DataW.trod_lt m _ _ _ hm
 obtain⟨fuel0,hf0⟩:=h0;obtain⟨a1,n1,c1,a2,n2,c2,hds,g,B,rfl,rep0,le1,le2,hg,hR2,hi⟩:=phases_in hnext hm (hval 0 25 v0 rfl rfl) hf0;clear hA0 hval0;have hB:AP prims (atomsOf Try.prog hint prims):=⟨⟨rfl,prims_keep⟩,prims_alike⟩;have walk:Calls Try.prog 4 #[.agg #[.slice a1 n1 c1,.slice a2 n2 c2]] W fun e w'=>e=.returned (.bool true)/\Below W.heap.size W w':=by
  refine law_calls2 mixed prims_ok prims_keep named Try.func4 (by kernel_rfl) (by decide) hR hlow hnext (args:=[.agg #[.slice a1 n1 c1,.slice a2 n2 c2]]) (repCs ?_) (lrel_ok hB alive_prim prims_ins (by omega) hg hR2 le1 le2 hi (fun h' he=>⟨rfl,he⟩));simp only[List.all_cons,List.all_nil,Bool.and_eq_true,rep0];simp[repC,repV,flat1]
 refine walk.mono fun e W' ⟨he,bel⟩=>?_
 subst he;exact⟨_,rfl,_,_,_,[],_,[],hW',trodAll_mk1 (shut_bool Try.underlying4 _),(trodAll_cons_mk (Below.trod laidOut (by kernel_rfl) (of_decide_eq_true (by kernel_rfl)) k0 bel lt0) trodAll_mk0),rfl,bel.frame _,fun h=>by cases h⟩
theorem over:Rows.smithRelationsRow.holds Try.pinned (OpenSpec.ofChange Rows.smithRelationsSpec):=
 OpenClaim.holds_of_wide 4 Try.f4 rfl rfl rfl rfl rfl rfl rfl ⟨rfl,rfl,rfl,rfl,rfl⟩ rfl rfl rfl rfl rfl (by kernel_rfl) Try.func4 (by kernel_rfl)
  (of_decide_eq_true (by kernel_rfl)) (by unfold Func.isWrapper;first|(rw[if_pos (by decide +kernel)];kernel_rfl)|(rw[if_neg (by decide +kernel)];exact⟨rfl,rfl⟩))
  (fun os started H enc _=>lifted os started H enc)
theorem proved:Rows.SmithRelationsSaid:=over
end Go.Proofs.Ytdpbiegfljmhmaa.smithRelationsDone
