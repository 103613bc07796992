/- Proved: the statement SmithRows: the function fringelaw30.SmithRows,called with any arguments in any world,returns true and leaves what was there as it was. No conditions. -/
import Derived.Test.YtdpbiegfljmhmaaRows
import Derived.Test.YtdpbiegfljmhmaaRwZ
import Derived.Test.YtdpbiegfljmhmaaLsP
import Derived.Test.YtdpbiegfljmhmaaSlH
import Derived.WalkKit
import Derived.ProofKit
import Derived.OpenShut
import Derived.ChangeOld
import Derived.ChangeMaps5
import Derived.Below
set_option linter.unusedSimpArgs false
set_option linter.unusedVariables false
namespace Go.Proofs.Ytdpbiegfljmhmaa.smithRowsDone
open Go.ChangeShapes Go.WideShapes Go.ChangeAt Go.RowKit Go.cY
theorem own:ownKnob Try.prog.godebug=none:=by kernel_rfl
theorem laidOut:laidOutB Try.prog=true:=by kernel_rfl
set_option maxRecDepth 100000 in
theorem lifted(os:Os)(started:os.Started)(H:Type)(enc:TypeId×Value->H) :
  ReturnsInHanded {} Try.checked os 5 .any (Rows.smithRowsSpec.pre6 enc Try.prog Try.f5 Rows.smithRowsRow.domain false) (Rows.smithRowsSpec.post enc Try.prog Try.f5 false true false false):=by
 refine returnsInHanded_of_change (C:=Try.checked) own started (by kernel_rfl) Try.func5
  (ChangeSpec.witness6 (enc:=enc) (C:=Try.checked) false ⟨#[],#[.agg #[.slice none 0 0,.slice none 0 0],.int .i64 0,.int .i64 0],[]⟩ 8 (by kernel_rfl) (by kernel_rfl) (by kernel_rfl) (by kernel_rfl)) ?_
 intro W base args ds gs before SM hW Wc _;have Ez:∀(j:Nat) t v,Try.f5.params[j]?=some t->args[j]?=some v->Value.okWide Try.prog W .any base t v:=SM;have hW':=hW;obtain⟨p,q,Lh,hV,rfl,hfz,YL⟩:=hW;have hA:DataW.TrodAll enc Try.prog W 0 (fun _=>true) true Try.f5.params.toList args.toList ds p:=Lh;rw[Try.params5]at hA Ez;obtain⟨v0,vs0,d0,ds0,p0,q0,iZ,rfl,rfl,h0,r0⟩:=trodAll_cons hA;obtain⟨v1,vs1,d1,ds1,p1,q1,rfl,rfl,rfl,h1,r1⟩:=trodAll_cons r0;obtain⟨v2,vs2,d2,ds2,p2,q2,rfl,rfl,rfl,h2,r2⟩:=trodAll_cons r1;obtain⟨rfl,rfl,rfl⟩:=trodAll_nil r2;obtain rfl:args=#[v0,v1,v2]:=by cases args;simp_all
 obtain⟨rfl,rfl⟩:=trodVars_none hV;obtain⟨h,hR,aq,A6,hm⟩:=MN W;have k0:=h0;have lt0:∀x∈p0,x.block<W.heap.size:=by obtain⟨m,hm⟩:=k0;exact DataW.trod_lt m _ _ _ hm
 obtain⟨abq,hf0⟩:=h0;obtain⟨a1,n1,c1,a2,n2,c2,cT,g,B,rfl,abk,Y6,le2,hg,Vl,hi⟩:=Kc A6 hm (Ez 0 25 v0 rfl rfl) hf0;obtain⟨x,rfl,rfl,rfl,wl1⟩:=open_int Try.underlying3 (Ez 1 3 v1 rfl rfl) h1;obtain⟨y,rfl,rfl,rfl,wl2⟩:=open_int Try.underlying3 (Ez 2 3 v2 rfl rfl) h2;clear Lh SM;have hB:AP vS (bz Try.prog hint vS):=⟨⟨rfl,z8⟩,Fs⟩;have walk:Calls Try.prog 5 #[.agg #[.slice a1 n1 c1,.slice a2 n2 c2],.int .i64 x,.int .i64 y] W fun e w'=>e=.returned (.bool true)/\Below W.heap.size W w':=by
  refine G5 mixed Oq z8 named Try.func5 (by kernel_rfl) (by decide) hR aq A6 (args:=[.agg #[.slice a1 n1 c1,.slice a2 n2 c2],.int .i64 x,.int .i64 y]) (WY ?_) (O0 hB Hy KM om hg Vl Y6 le2 hi (fun h' he=>⟨rfl,he⟩));simp only[List.all_cons,List.all_nil,Bool.and_eq_true,abk];simp[Ka,zg,bA]
 refine walk.mono fun e W' ⟨he,JR⟩=>?_
 subst he;exact⟨_,rfl,_,_,_,[],_,[],hW',trodAll_mk1 (shut_bool Try.underlying4 _),(trodAll_cons_mk (Below.trod laidOut (by kernel_rfl) (of_decide_eq_true (by kernel_rfl)) k0 JR lt0) (trodAll_cons_mk (shut_int Try.underlying3 wl1) (trodAll_cons_mk (shut_int Try.underlying3 wl2) trodAll_mk0))),rfl,JR.frame _,fun h=>by cases h⟩
theorem over:Rows.smithRowsRow.holds Try.pinned (OpenSpec.ofChange Rows.smithRowsSpec):=
 OpenClaim.holds_of_wide 5 Try.f5 rfl rfl rfl rfl rfl rfl rfl ⟨rfl,rfl,rfl,rfl,rfl⟩ rfl rfl rfl rfl rfl (by kernel_rfl) Try.func5 (by kernel_rfl)
  (of_decide_eq_true (by kernel_rfl)) (by unfold Func.isWrapper;first|(rw[if_pos (by decide +kernel)];kernel_rfl)|(rw[if_neg (by decide +kernel)];exact⟨rfl,rfl⟩))
  (fun os started H enc _=>lifted os started H enc)
theorem proved:Rows.SmithRowsSaid:=over
end Go.Proofs.Ytdpbiegfljmhmaa.smithRowsDone
