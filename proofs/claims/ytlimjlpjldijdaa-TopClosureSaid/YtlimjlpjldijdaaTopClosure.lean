/- Proved: the statement TopClosure: the function fringetop.TopClosure,called with any arguments in any world,returns true and leaves what was there as it was. No conditions. -/
import Derived.Test.YtlimjlpjldijdaaRows
import Derived.Test.YtlimjlpjldijdaaCyA
import Derived.Test.YtlimjlpjldijdaaSymD
import Derived.Test.YtlimjlpjldijdaaToTo
import Derived.Test.YtlimjlpjldijdaaToEv
import Derived.WalkKit
import Derived.ProofKit
import Derived.OpenShut
import Derived.ChangeOld
import Derived.ChangeMaps5
import Derived.Below
set_option linter.unusedSimpArgs false
set_option linter.unusedVariables false
namespace Go.Proofs.Ytlimjlpjldijdaa.topClosureDone
open Go.ChangeShapes Go.WideShapes Go.ChangeAt Go.RowKit Go.Sim
theorem own:ownKnob Try.prog.godebug=none:=by kernel_rfl
theorem laidOut:laidOutB Try.prog=true:=by kernel_rfl
theorem alike0(g:FuncId)(args:List Value)(h:AHeap)(hg:Ytlimjlpjldijdaa.own g=false):prims0 g args h=none:=by
 unfold Ytlimjlpjldijdaa.own at hg;simp only[Bool.or_eq_false_iff]at hg;obtain⟨⟨_,h1⟩,h2⟩:=hg;unfold prims0 withF;rw[h1,h2];rfl
theorem lw0:LW prims0:=⟨fun _ _=>rfl,fun _ _=>rfl⟩
set_option maxRecDepth 100000 in
theorem lifted(os:Os)(started:os.Started)(H:Type)(enc:TypeId×Value->H) :
  ReturnsInHanded {} Try.checked os 3 .any (Rows.topClosureSpec.pre6 enc Try.prog Try.f3 Rows.topClosureRow.domain false) (Rows.topClosureSpec.post enc Try.prog Try.f3 false true false false):=by
 refine returnsInHanded_of_change (C:=Try.checked) own started (by kernel_rfl) Try.func3
  (ChangeSpec.witness6 (enc:=enc) (C:=Try.checked) false ⟨#[],#[.slice none 0 0,.slice none 0 0,.slice none 0 0,.slice none 0 0],[]⟩ 8 (by kernel_rfl) (by kernel_rfl) (by kernel_rfl) (by kernel_rfl)) ?_
 intro W base args ds gs before hval0 hW hcnd _;have hval:∀(j:Nat) t v,Try.f3.params[j]?=some t->args[j]?=some v->Value.okWide Try.prog W .any base t v:=hval0;have hW':=hW;obtain⟨p,q,hA0,hV,rfl,hfz,hnd⟩:=hW;have hA:DataW.TrodAll enc Try.prog W 0 (fun _=>true) true Try.f3.params.toList args.toList ds p:=hA0;rw[Try.params3]at hA hval;obtain⟨v0,vs0,d0,ds0,p0,q0,hargs,rfl,rfl,h0,r0⟩:=trodAll_cons hA;obtain⟨v1,vs1,d1,ds1,p1,q1,rfl,rfl,rfl,h1,r1⟩:=trodAll_cons r0;obtain⟨v2,vs2,d2,ds2,p2,q2,rfl,rfl,rfl,h2,r2⟩:=trodAll_cons r1;obtain⟨v3,vs3,d3,ds3,p3,q3,rfl,rfl,rfl,h3,r3⟩:=trodAll_cons r2;obtain⟨rfl,rfl,rfl⟩:=trodAll_nil r3;obtain rfl:args=#[v0,v1,v2,v3]:=by cases args;simp_all
 obtain⟨rfl,rfl⟩:=trodVars_none hV;obtain⟨h,hR,hlow,hnext,hm⟩:=world_ok W;have k0:=h0;have lt0:∀x∈p0,x.block<W.heap.size:=by obtain⟨m,hm⟩:=k0;exact DataW.trod_lt m _ _ _ hm
 obtain⟨fuel0,hf0⟩:=h0;obtain⟨a,n,c,l,rfl,rep0,hnc,hcm,hl⟩:=vis_in hnext hm (hval 0 22 v0 rfl rfl) hf0;have k1:=h1;have lt1:∀x∈p1,x.block<W.heap.size:=by obtain⟨m,hm⟩:=k1;exact DataW.trod_lt m _ _ _ hm
 obtain⟨fuel1,hf1⟩:=h1;obtain⟨ga,gn,gc,G,rfl,rep1,gnc,gcm,hG⟩:=cxs_in hnext hm (hval 1 23 v1 rfl rfl) hf1;have k2:=h2;have lt2:∀x∈p2,x.block<W.heap.size:=by obtain⟨m,hm⟩:=k2;exact DataW.trod_lt m _ _ _ hm
 obtain⟨fuel2,hf2⟩:=h2;obtain⟨ea,en,ec,es,rfl,rep2,enc2,ecm,hE⟩:=spoils_in hnext hm (hval 2 24 v2 rfl rfl) hf2;have k3:=h3;have lt3:∀x∈p3,x.block<W.heap.size:=by obtain⟨m,hm⟩:=k3;exact DataW.trod_lt m _ _ _ hm
 obtain⟨fuel3,hf3⟩:=h3;obtain⟨sa,ns,sc,C,rfl,rep3,hsc,hsm,hS⟩:=ints_in hnext hm (hval 3 25 v3 rfl rfl) hf3;clear hA0 hval0;have hB:AP prims0 (atomsOf Try.prog hint prims0):=⟨⟨rfl,prims0_keep⟩,alike0⟩;have walk:Calls Try.prog 3 #[.slice a n c,.slice ga gn gc,.slice ea en ec,.slice sa ns sc] W fun e w'=>e=.returned (.bool true)/\Below W.heap.size W w':=by
  refine law_calls2 mixed prims0_ok prims0_keep named Try.func3 (by kernel_rfl) (by decide) hR hlow hnext (args:=[.slice a n c,.slice ga gn gc,.slice ea en ec,.slice sa ns sc]) (repCs ?_) (top_ok hB lw0 (fun _ _=>rfl) (by omega) hl hG hE hS hsc hsm (fun h' he=>⟨rfl,he⟩));simp only[List.all_cons,List.all_nil,Bool.and_eq_true,rep0,rep1,rep2,rep3];simp[repC,repV,flat1]
 refine walk.mono fun e W' ⟨he,bel⟩=>?_
 subst he;exact⟨_,rfl,_,_,_,[],_,[],hW',trodAll_mk1 (shut_bool Try.underlying4 _),(trodAll_cons_mk (Below.trod laidOut (by kernel_rfl) (of_decide_eq_true (by kernel_rfl)) k0 bel lt0) (trodAll_cons_mk (Below.trod laidOut (by kernel_rfl) (of_decide_eq_true (by kernel_rfl)) k1 bel lt1) (trodAll_cons_mk (Below.trod laidOut (by kernel_rfl) (of_decide_eq_true (by kernel_rfl)) k2 bel lt2) (trodAll_cons_mk (Below.trod laidOut (by kernel_rfl) (of_decide_eq_true (by kernel_rfl)) k3 bel lt3) trodAll_mk0)))),rfl,bel.frame _,fun h=>by cases h⟩
theorem over:Rows.topClosureRow.holds Try.pinned (OpenSpec.ofChange Rows.topClosureSpec):=
 OpenClaim.holds_of_wide 3 Try.f3 rfl rfl rfl rfl rfl rfl rfl ⟨rfl,rfl,rfl,rfl,rfl⟩ rfl rfl rfl rfl rfl (by kernel_rfl) Try.func3 (by kernel_rfl)
  (of_decide_eq_true (by kernel_rfl)) (by unfold Func.isWrapper;first|(rw[if_pos (by decide +kernel)];kernel_rfl)|(rw[if_neg (by decide +kernel)];exact⟨rfl,rfl⟩))
  (fun os started H enc _=>lifted os started H enc)
theorem proved:Rows.TopClosureSaid:=over
end Go.Proofs.Ytlimjlpjldijdaa.topClosureDone
