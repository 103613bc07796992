/- Proved: the statement RedunBack: the function fringelaw31.RedunBack,called with any arguments in any world,returns true and leaves what was there as it was. No conditions. -/
import Derived.Test.YtogliemiljhliaaRows
import Derived.Test.YtogliemiljhliaaFracT
import Derived.Test.YtogliemiljhliaaRdBz
import Derived.Test.YtogliemiljhliaaFracAlive
import Derived.Test.YtogliemiljhliaaRdPg
import Derived.Test.YtogliemiljhliaaSymD
import Derived.WalkKit
import Derived.ProofKit
import Derived.OpenShut
import Derived.ChangeOld
import Derived.ChangeMaps5
import Derived.Below
set_option linter.unusedSimpArgs false
set_option linter.unusedVariables false
namespace Go.Proofs.Ytogliemiljhliaa.redunBackDone
open Go.ChangeShapes Go.WideShapes Go.ChangeAt Go.RowKit Go.Sim
theorem own:ownKnob Try.prog.godebug=none:=by kernel_rfl
theorem laidOut:laidOutB Try.prog=true:=by kernel_rfl
set_option maxRecDepth 100000 in
theorem lifted(os:Os)(started:os.Started)(H:Type)(enc:TypeId×Value->H) :
  ReturnsInHanded {} Try.checked os 9 .any (Rows.redunBackSpec.pre6 enc Try.prog Try.f9 Rows.redunBackRow.domain false) (Rows.redunBackSpec.post enc Try.prog Try.f9 false true false false):=by
 refine returnsInHanded_of_change (C:=Try.checked) own started (by kernel_rfl) Try.func9
  (ChangeSpec.witness6 (enc:=enc) (C:=Try.checked) false ⟨#[],#[.slice none 0 0,.slice none 0 0,.slice none 0 0],[]⟩ 8 (by kernel_rfl) (by kernel_rfl) (by kernel_rfl) (by kernel_rfl)) ?_
 intro W base args ds gs before hval0 hW hcnd _;have hval:∀(j:Nat) t v,Try.f9.params[j]?=some t->args[j]?=some v->Value.okWide Try.prog W .any base t v:=hval0;have hW':=hW;obtain⟨p,q,hA0,hV,rfl,hfz,hnd⟩:=hW;have hA:DataW.TrodAll enc Try.prog W 0 (fun _=>true) true Try.f9.params.toList args.toList ds p:=hA0;rw[Try.params9]at hA hval;obtain⟨v0,vs0,d0,ds0,p0,q0,hargs,rfl,rfl,h0,r0⟩:=trodAll_cons hA;obtain⟨v1,vs1,d1,ds1,p1,q1,rfl,rfl,rfl,h1,r1⟩:=trodAll_cons r0;obtain⟨v2,vs2,d2,ds2,p2,q2,rfl,rfl,rfl,h2,r2⟩:=trodAll_cons r1;obtain⟨rfl,rfl,rfl⟩:=trodAll_nil r2;obtain rfl:args=#[v0,v1,v2]:=by cases args;simp_all
 obtain⟨rfl,rfl⟩:=trodVars_none hV;obtain⟨h,hR,hlow,hnext,hm⟩:=world_ok W;have k0:=h0;have lt0:∀x∈p0,x.block<W.heap.size:=by obtain⟨m,hm⟩:=k0;exact DataW.trod_lt m _ _ _ hm
 obtain⟨fuel0,hf0⟩:=h0;obtain⟨a,n,c,l,rfl,rep0,le0,cap0,hl,wl0⟩:=is_in hnext hm (hval 0 22 v0 rfl rfl) hf0;have k1:=h1;have lt1:∀x∈p1,x.block<W.heap.size:=by obtain⟨m,hm⟩:=k1;exact DataW.trod_lt m _ _ _ hm
 obtain⟨fuel1,hf1⟩:=h1;obtain⟨a2,n2,c2,l2,rfl,rep1,le2,cap2,hl2,il2⟩:=fracs_in hnext hm (hval 1 50 v1 rfl rfl) hf1;have k2:=h2;have lt2:∀x∈p2,x.block<W.heap.size:=by obtain⟨m,hm⟩:=k2;exact DataW.trod_lt m _ _ _ hm
 obtain⟨fuel2,hf2⟩:=h2;obtain⟨a3,n3,c3,l3,rfl,rep2,le3,cap3,hl3,il3⟩:=fracs_in hnext hm (hval 2 50 v2 rfl rfl) hf2;clear hA0 hval0;have hB:AP prims (atomsOf Try.prog hint prims):=⟨⟨rfl,prims_keep⟩,prims_alike⟩;have walk:Calls Try.prog 9 #[.slice a n c,.slice a2 n2 c2,.slice a3 n3 c3] W fun e w'=>e=.returned (.bool true)/\Below W.heap.size W w':=by
  refine law_calls2 mixed prims_ok prims_keep named Try.func9 (by kernel_rfl) (by decide) hR hlow hnext (args:=[.slice a n c,.slice a2 n2 c2,.slice a3 n3 c3]) (repCs ?_) (lback_ok hB alive_prim (by omega) hl hl2 il2 hl3 il3 (fun h' he=>⟨rfl,he⟩));simp only[List.all_cons,List.all_nil,Bool.and_eq_true,rep0,rep1,rep2];simp[repC,repV,flat1]
 refine walk.mono fun e W' ⟨he,bel⟩=>?_
 subst he;exact⟨_,rfl,_,_,_,[],_,[],hW',trodAll_mk1 (shut_bool Try.underlying4 _),(trodAll_cons_mk (Below.trod laidOut (by kernel_rfl) (of_decide_eq_true (by kernel_rfl)) k0 bel lt0) (trodAll_cons_mk (Below.trod laidOut (by kernel_rfl) (of_decide_eq_true (by kernel_rfl)) k1 bel lt1) (trodAll_cons_mk (Below.trod laidOut (by kernel_rfl) (of_decide_eq_true (by kernel_rfl)) k2 bel lt2) trodAll_mk0))),rfl,bel.frame _,fun h=>by cases h⟩
theorem over:Rows.redunBackRow.holds Try.pinned (OpenSpec.ofChange Rows.redunBackSpec):=
 OpenClaim.holds_of_wide 9 Try.f9 rfl rfl rfl rfl rfl rfl rfl ⟨rfl,rfl,rfl,rfl,rfl⟩ rfl rfl rfl rfl rfl (by kernel_rfl) Try.func9 (by kernel_rfl)
  (of_decide_eq_true (by kernel_rfl)) (by unfold Func.isWrapper;first|(rw[if_pos (by decide +kernel)];kernel_rfl)|(rw[if_neg (by decide +kernel)];exact⟨rfl,rfl⟩))
  (fun os started H enc _=>lifted os started H enc)
theorem proved:Rows.RedunBackSaid:=over
end Go.Proofs.Ytogliemiljhliaa.redunBackDone
