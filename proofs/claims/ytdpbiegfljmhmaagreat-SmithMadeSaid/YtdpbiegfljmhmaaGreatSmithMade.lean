/- Proved: the statement SmithMade: the function fringelaw30.SmithMade,called with any arguments in any world,returns true and leaves what was there as it was. No conditions. -/
import Derived.Test.YtdpbiegfljmhmaaGreatRows
import Derived.Test.YtdpbiegfljmhmaaGreatMaC
import Derived.Test.YtdpbiegfljmhmaaGreatSmS
import Derived.WalkKit
import Derived.ProofKit
import Derived.OpenShut
import Derived.ChangeOld
import Derived.ChangeMaps5
import Derived.Below
set_option linter.unusedSimpArgs false
set_option linter.unusedVariables false
namespace Go.Proofs.YtdpbiegfljmhmaaGreat.smithMadeDone
open Go.ChangeShapes Go.WideShapes Go.ChangeAt Go.RowKit Go.cS
theorem own:ownKnob Tryz.prog.godebug=none:=by kernel_rfl
theorem laidOut:laidOutB Tryz.prog=true:=by kernel_rfl
set_option maxRecDepth 100000 in
theorem lifted(os:Os)(started:os.Started)(H:Type)(enc:TypeId×Value->H) :
  ReturnsInHanded {} Tryz.checked os 4 .any (Rows.smithMadeSpec.pre6 enc Tryz.prog Tryz.f4 Rows.smithMadeRow.domain false) (Rows.smithMadeSpec.post enc Tryz.prog Tryz.f4 false true false false):=by
 refine returnsInHanded_of_change (C:=Tryz.checked) own started (by kernel_rfl) Tryz.func4
  (ChangeSpec.witness6 (enc:=enc) (C:=Tryz.checked) false ⟨#[],#[.agg #[.slice none 0 0,.slice none 0 0],.slice none 0 0],[]⟩ 8 (by kernel_rfl) (by kernel_rfl) (by kernel_rfl) (by kernel_rfl)) ?_
 intro W base args ds gs before Rj hW Ut _;have BG:∀(j:Nat) t v,Tryz.f4.params[j]?=some t->args[j]?=some v->Value.okWide Tryz.prog W .any base t v:=Rj;have hW':=hW;obtain⟨p,q,J7,hV,rfl,hfz,WT⟩:=hW;have hA:DataW.TrodAll enc Tryz.prog W 0 (fun _=>true) true Tryz.f4.params.toList args.toList ds p:=J7;rw[Tryz.params4]at hA BG;obtain⟨v0,vs0,d0,ds0,p0,q0,iN,rfl,rfl,h0,r0⟩:=trodAll_cons hA;obtain⟨v1,vs1,d1,Yq,p1,q1,rfl,rfl,rfl,h1,r1⟩:=trodAll_cons r0;obtain⟨rfl,rfl,rfl⟩:=trodAll_nil r1;obtain rfl:args=#[v0,v1]:=by cases args;simp_all
 obtain⟨rfl,rfl⟩:=trodVars_none hV;obtain⟨h,hR,aq,w9,hm⟩:=LP W;have k0:=h0;have lt0:∀x∈p0,x.block<W.heap.size:=by obtain⟨m,hm⟩:=k0;exact DataW.trod_lt m _ _ _ hm
 obtain⟨aah,hf0⟩:=h0;obtain⟨a1,n1,c1,a2,n2,c2,dA,g,B,rfl,aaa,XH,le2,hg,TF,hi⟩:=Jd w9 hm (BG 0 25 v0 rfl rfl) hf0;have k1:=h1;have ZA:∀x∈p1,x.block<W.heap.size:=by obtain⟨m,hm⟩:=k1;exact DataW.trod_lt m _ _ _ hm
 obtain⟨aai,hf1⟩:=h1;obtain⟨a3,n3,c3,X,rfl,aab,le3,hX,hiX⟩:=LW w9 hm (BG 1 23 v1 rfl rfl) hf1;clear J7 Rj;have hB:AP u9 (bj Tryz.prog hint u9):=⟨⟨rfl,yM⟩,DQ⟩;have walk:Calls Tryz.prog 4 #[.agg #[.slice a1 n1 c1,.slice a2 n2 c2],.slice a3 n3 c3] W fun e w'=>e=.returned (.bool true)/\Below W.heap.size W w':=by
  refine F6 mixed LZ yM named Tryz.func4 (by kernel_rfl) (by decide) hR aq w9 (args:=[.agg #[.slice a1 n1 c1,.slice a2 n2 c2],.slice a3 n3 c3]) (Vi ?_) (NJ hB F9 Jg om hg TF XH le2 hi hX le3 hiX (fun h' he=>⟨rfl,he⟩));simp only[List.all_cons,List.all_nil,Bool.and_eq_true,aaa,aab];simp[DJ,yv,bk]
 refine walk.mono fun e W' ⟨he,G5⟩=>?_
 subst he;exact⟨_,rfl,_,_,_,[],_,[],hW',trodAll_mk1 (shut_bool Tryz.underlying4 _),(trodAll_cons_mk (Below.trod laidOut (by kernel_rfl) (of_decide_eq_true (by kernel_rfl)) k0 G5 lt0) (trodAll_cons_mk (Below.trod laidOut (by kernel_rfl) (of_decide_eq_true (by kernel_rfl)) k1 G5 ZA) trodAll_mk0)),rfl,G5.frame _,fun h=>by cases h⟩
theorem over:Rows.smithMadeRow.holds Tryz.pinned (OpenSpec.ofChange Rows.smithMadeSpec):=
 OpenClaim.holds_of_wide 4 Tryz.f4 rfl rfl rfl rfl rfl rfl rfl ⟨rfl,rfl,rfl,rfl,rfl⟩ rfl rfl rfl rfl rfl (by kernel_rfl) Tryz.func4 (by kernel_rfl)
  (of_decide_eq_true (by kernel_rfl)) (by unfold Func.isWrapper;first|(rw[if_pos (by decide +kernel)];kernel_rfl)|(rw[if_neg (by decide +kernel)];exact⟨rfl,rfl⟩))
  (fun os started H enc _=>lifted os started H enc)
theorem proved:Rows.SmithMadeSaid:=over
end Go.Proofs.YtdpbiegfljmhmaaGreat.smithMadeDone
