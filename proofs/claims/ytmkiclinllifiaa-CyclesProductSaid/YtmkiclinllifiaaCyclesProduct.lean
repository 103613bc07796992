/- Proved: the statement CyclesProduct: the function fringelaw28.CyclesProduct,called with any arguments in any world,returns true and leaves what was there as it was. No conditions. -/
import Derived.Test.YtmkiclinllifiaaRows
import Derived.Test.YtmkiclinllifiaaCyCb
import Derived.Test.YtmkiclinllifiaaSymD
import Derived.Test.YtmkiclinllifiaaCyLP
import Derived.Test.YtmkiclinllifiaaCyAl
import Derived.WalkKit
import Derived.ProofKit
import Derived.OpenShut
import Derived.ChangeOld
import Derived.ChangeMaps5
import Derived.Below
set_option linter.unusedSimpArgs false
set_option linter.unusedVariables false
namespace Go.Proofs.Ytmkiclinllifiaa.cyclesProductDone
open Go.ChangeShapes Go.WideShapes Go.ChangeAt Go.RowKit Go.Sim
theorem own:ownKnob Try.prog.godebug=none:=by kernel_rfl
theorem laidOut:laidOutB Try.prog=true:=by kernel_rfl
theorem alike0(g:FuncId)(args:List Value)(h:AHeap)(hg:Ytmkiclinllifiaa.own g=false):prims0 g args h=none:=by
 unfold Ytmkiclinllifiaa.own at hg;simp only[Bool.or_eq_false_iff]at hg;obtain⟨⟨_,h1⟩,h2⟩:=hg;unfold prims0 withF;rw[h1,h2];rfl
theorem lw0:LW prims0:=⟨fun _ _=>rfl,fun _ _=>rfl⟩
set_option maxRecDepth 100000 in
theorem lifted(os:Os)(started:os.Started)(H:Type)(enc:TypeId×Value->H) :
  ReturnsInHanded {} Try.checked os 8 .any (Rows.cyclesProductSpec.pre6 enc Try.prog Try.f8 Rows.cyclesProductRow.domain false) (Rows.cyclesProductSpec.post enc Try.prog Try.f8 false true false false):=by
 refine returnsInHanded_of_change (C:=Try.checked) own started (by kernel_rfl) Try.func8
  (ChangeSpec.witness6 (enc:=enc) (C:=Try.checked) false ⟨#[],#[.slice none 0 0,.slice none 0 0],[]⟩ 8 (by kernel_rfl) (by kernel_rfl) (by kernel_rfl) (by kernel_rfl)) ?_
 intro W base args ds gs before hval0 hW hcnd _;have hval:∀(j:Nat) t v,Try.f8.params[j]?=some t->args[j]?=some v->Value.okWide Try.prog W .any base t v:=hval0;have hW':=hW;obtain⟨p,q,hA0,hV,rfl,hfz,hnd⟩:=hW;have hA:DataW.TrodAll enc Try.prog W 0 (fun _=>true) true Try.f8.params.toList args.toList ds p:=hA0;rw[Try.params8]at hA hval;obtain⟨v0,vs0,d0,ds0,p0,q0,hargs,rfl,rfl,h0,r0⟩:=trodAll_cons hA;obtain⟨v1,vs1,d1,ds1,p1,q1,rfl,rfl,rfl,h1,r1⟩:=trodAll_cons r0;obtain⟨rfl,rfl,rfl⟩:=trodAll_nil r1;obtain rfl:args=#[v0,v1]:=by cases args;simp_all
 obtain⟨rfl,rfl⟩:=trodVars_none hV;obtain⟨h,hR,hlow,hnext,hm⟩:=world_ok W;have k0:=h0;have lt0:∀x∈p0,x.block<W.heap.size:=by obtain⟨m,hm⟩:=k0;exact DataW.trod_lt m _ _ _ hm
 obtain⟨fuel0,hf0⟩:=h0;obtain⟨a,n,c,l,rfl,rep0,hnc,hcm,hl⟩:=vis_in hnext hm (hval 0 22 v0 rfl rfl) hf0;have k1:=h1;have lt1:∀x∈p1,x.block<W.heap.size:=by obtain⟨m,hm⟩:=k1;exact DataW.trod_lt m _ _ _ hm
 obtain⟨fuel1,hf1⟩:=h1;obtain⟨sa,ns,sc,C,rfl,rep1,hsc,hsm,hS⟩:=ints_in hnext hm (hval 1 38 v1 rfl rfl) hf1;clear hA0 hval0;have hB:AP prims0 (atomsOf Try.prog hint prims0):=⟨⟨rfl,prims0_keep⟩,alike0⟩;have walk:Calls Try.prog 8 #[.slice a n c,.slice sa ns sc] W fun e w'=>e=.returned (.bool true)/\Below W.heap.size W w':=by
  refine law_calls2 mixed prims0_ok prims0_keep named Try.func8 (by kernel_rfl) (by decide) hR hlow hnext (args:=[.slice a n c,.slice sa ns sc]) (repCs ?_) (product_ok hB lw0 (fun _ _=>rfl) (by omega) hl hS (fun h' he=>⟨rfl,he⟩));simp only[List.all_cons,List.all_nil,Bool.and_eq_true,rep0,rep1];simp[repC,repV,flat1]
 refine walk.mono fun e W' ⟨he,bel⟩=>?_
 subst he;exact⟨_,rfl,_,_,_,[],_,[],hW',trodAll_mk1 (shut_bool Try.underlying4 _),(trodAll_cons_mk (Below.trod laidOut (by kernel_rfl) (of_decide_eq_true (by kernel_rfl)) k0 bel lt0) (trodAll_cons_mk (Below.trod laidOut (by kernel_rfl) (of_decide_eq_true (by kernel_rfl)) k1 bel lt1) trodAll_mk0)),rfl,bel.frame _,fun h=>by cases h⟩
theorem over:Rows.cyclesProductRow.holds Try.pinned (OpenSpec.ofChange Rows.cyclesProductSpec):=
 OpenClaim.holds_of_wide 8 Try.f8 rfl rfl rfl rfl rfl rfl rfl ⟨rfl,rfl,rfl,rfl,rfl⟩ rfl rfl rfl rfl rfl (by kernel_rfl) Try.func8 (by kernel_rfl)
  (of_decide_eq_true (by kernel_rfl)) (by unfold Func.isWrapper;first|(rw[if_pos (by decide +kernel)];kernel_rfl)|(rw[if_neg (by decide +kernel)];exact⟨rfl,rfl⟩))
  (fun os started H enc _=>lifted os started H enc)
theorem proved:Rows.CyclesProductSaid:=over
end Go.Proofs.Ytmkiclinllifiaa.cyclesProductDone
