/- Proved: the statement SmithLists: the function fringelaw30.SmithLists,called with any arguments in any world,returns true and leaves what was there as it was. No conditions. -/
import Derived.Test.YtdpbiegfljmhmaaGreatRows
import Derived.Test.YtdpbiegfljmhmaaGreatLiC
import Derived.Test.YtdpbiegfljmhmaaGreatSmS
import Derived.WalkKit
import Derived.ProofKit
import Derived.OpenShut
import Derived.ChangeOld
import Derived.ChangeMaps5
import Derived.Below
set_option linter.unusedSimpArgs false
set_option linter.unusedVariables false
namespace Go.Proofs.YtdpbiegfljmhmaaGreat.smithListsDone
open Go.ChangeShapes Go.WideShapes Go.ChangeAt Go.RowKit Go.cV
theorem own:ownKnob Tryz.prog.godebug=none:=by kernel_rfl
theorem laidOut:laidOutB Tryz.prog=true:=by kernel_rfl
set_option maxRecDepth 100000 in
theorem lifted(os:Os)(started:os.Started)(H:Type)(enc:TypeId×Value->H) :
  ReturnsInHanded {} Tryz.checked os 3 .any (Rows.smithListsSpec.pre6 enc Tryz.prog Tryz.f3 Rows.smithListsRow.domain false) (Rows.smithListsSpec.post enc Tryz.prog Tryz.f3 false true false false):=by
 refine returnsInHanded_of_change (C:=Tryz.checked) own started (by kernel_rfl) Tryz.func3
  (ChangeSpec.witness6 (enc:=enc) (C:=Tryz.checked) false ⟨#[],#[.agg #[.slice none 0 0,.slice none 0 0],.int .i64 0,.int .i64 0],[]⟩ 8 (by kernel_rfl) (by kernel_rfl) (by kernel_rfl) (by kernel_rfl)) ?_
 intro W base args ds gs before Sc hW Vo _;have EJ:∀(j:Nat) t v,Tryz.f3.params[j]?=some t->args[j]?=some v->Value.okWide Tryz.prog W .any base t v:=Sc;have hW':=hW;obtain⟨p,q,KT,hV,rfl,hfz,XU⟩:=hW;have hA:DataW.TrodAll enc Tryz.prog W 0 (fun _=>true) true Tryz.f3.params.toList args.toList ds p:=KT;rw[Tryz.params3]at hA EJ;obtain⟨v0,vs0,d0,ds0,p0,q0,iZ,rfl,rfl,h0,r0⟩:=trodAll_cons hA;obtain⟨v1,vs1,d1,Zu,p1,q1,rfl,rfl,rfl,h1,r1⟩:=trodAll_cons r0;obtain⟨v2,vs2,d2,Zv,p2,q2,rfl,rfl,rfl,h2,r2⟩:=trodAll_cons r1;obtain⟨rfl,rfl,rfl⟩:=trodAll_nil r2;obtain rfl:args=#[v0,v1,v2]:=by cases args;simp_all
 obtain⟨rfl,rfl⟩:=trodVars_none hV;obtain⟨h,hR,ar,AN,hm⟩:=Nh W;have k0:=h0;have lt0:∀x∈p0,x.block<W.heap.size:=by obtain⟨m,hm⟩:=k0;exact DataW.trod_lt m _ _ _ hm
 obtain⟨aaJ,hf0⟩:=h0;obtain⟨a1,n1,c1,a2,n2,c2,dk,g,B,rfl,aaD,YM,le2,hg,UL,hi⟩:=J7 AN hm (EJ 0 25 v0 rfl rfl) hf0;obtain⟨x,rfl,rfl,rfl,wl1⟩:=open_int Tryz.underlying3 (EJ 1 3 v1 rfl rfl) h1;obtain⟨y,rfl,rfl,rfl,wl2⟩:=open_int Tryz.underlying3 (EJ 2 3 v2 rfl rfl) h2;clear KT Sc;have hB:AP vD (bk Tryz.prog hint vD):=⟨⟨rfl,zt⟩,EN⟩;have walk:Calls Tryz.prog 3 #[.agg #[.slice a1 n1 c1,.slice a2 n2 c2],.int .i64 x,.int .i64 y] W fun e w'=>e=.returned (.bool true)/\Below W.heap.size W w':=by
  refine GV mixed Nq zt named Tryz.func3 (by kernel_rfl) (by decide) hR ar AN (args:=[.agg #[.slice a1 n1 c1,.slice a2 n2 c2],.int .i64 x,.int .i64 y]) (WD ?_) (KJ hB GX Ka om hg UL YM le2 hi (fun h' he=>⟨rfl,he⟩));simp only[List.all_cons,List.all_nil,Bool.and_eq_true,aaD];simp[J5,zg,bm]
 refine walk.mono fun e W' ⟨he,Js⟩=>?_
 subst he;exact⟨_,rfl,_,_,_,[],_,[],hW',trodAll_mk1 (shut_bool Tryz.underlying4 _),(trodAll_cons_mk (Below.trod laidOut (by kernel_rfl) (of_decide_eq_true (by kernel_rfl)) k0 Js lt0) (trodAll_cons_mk (shut_int Tryz.underlying3 wl1) (trodAll_cons_mk (shut_int Tryz.underlying3 wl2) trodAll_mk0))),rfl,Js.frame _,fun h=>by cases h⟩
theorem over:Rows.smithListsRow.holds Tryz.pinned (OpenSpec.ofChange Rows.smithListsSpec):=
 OpenClaim.holds_of_wide 3 Tryz.f3 rfl rfl rfl rfl rfl rfl rfl ⟨rfl,rfl,rfl,rfl,rfl⟩ rfl rfl rfl rfl rfl (by kernel_rfl) Tryz.func3 (by kernel_rfl)
  (of_decide_eq_true (by kernel_rfl)) (by unfold Func.isWrapper;first|(rw[if_pos (by decide +kernel)];kernel_rfl)|(rw[if_neg (by decide +kernel)];exact⟨rfl,rfl⟩))
  (fun os started H enc _=>lifted os started H enc)
theorem proved:Rows.SmithListsSaid:=over
end Go.Proofs.YtdpbiegfljmhmaaGreat.smithListsDone
