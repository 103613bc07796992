/- Proved: the statement QuantComposes: the function fringelaw23.QuantComposes,called with any arguments in any world,returns true and leaves what was there as it was. No conditions. -/
import Derived.Test.YtnokkniofajnhaaRows
import Derived.Test.YtnokkniofajnhaaQuMi
import Derived.Test.YtnokkniofajnhaaQuL4
import Derived.Test.YtnokkniofajnhaaQuN4
import Derived.Test.YtnokkniofajnhaaSymD
import Derived.WalkKit
import Derived.ProofKit
import Derived.OpenShut
import Derived.ChangeOld
import Derived.ChangeMaps5
import Derived.Below
set_option linter.unusedSimpArgs false
set_option linter.unusedVariables false
namespace Go.Proofs.Ytnokkniofajnhaa.quantComposesDone
open Go.ChangeShapes Go.WideShapes Go.ChangeAt Go.RowKit Go.Sim
theorem own : ownKnob Try.prog.godebug = none:=by kernel_rfl
theorem laidOut : laidOutB Try.prog = true:=by kernel_rfl
set_option maxRecDepth 100000 in
theorem lifted (os : Os) (started : os.Started) (H : Type) (enc : TypeId × Value → H) :
  ReturnsInHanded {} Try.checked os 4 .any (Rows.quantComposesSpec.pre6 enc Try.prog Try.f4 Rows.quantComposesRow.domain false) (Rows.quantComposesSpec.post enc Try.prog Try.f4 false true false false):=by
 refine returnsInHanded_of_change (C:=Try.checked) own started (by kernel_rfl) Try.func4
  (ChangeSpec.witness6 (enc:=enc) (C:=Try.checked) false ⟨#[],#[.slice none 0 0,.slice none 0 0,.agg #[.int .i64 0,.int .i64 0,.int .i64 0,.int .i64 0,.int .i64 0],.agg #[.int .i64 0,.int .i64 0],.agg #[.int .i64 0,.int .i64 0]],[]⟩ 8 (by kernel_rfl) (by kernel_rfl) (by kernel_rfl) (by kernel_rfl)) ?_
 intro W base args ds gs before hval0 hW hcnd _
 have hval : ∀ (j : Nat) t v,Try.f4.params[j]? = some t → args[j]? = some v → Value.okWide Try.prog W .any base t v:=hval0
 have hW':=hW
 obtain ⟨p,q,hA0,hV,rfl,hfz,hnd⟩:=hW
 have hA : DataW.TrodAll enc Try.prog W 0 (fun _ => true) true Try.f4.params.toList args.toList ds p:=hA0
 rw [Try.params4] at hA hval
 obtain ⟨v0,vs0,d0,ds0,p0,q0,hargs,rfl,rfl,h0,r0⟩:=trodAll_cons hA
 obtain ⟨v1,vs1,d1,ds1,p1,q1,rfl,rfl,rfl,h1,r1⟩:=trodAll_cons r0
 obtain ⟨v2,vs2,d2,ds2,p2,q2,rfl,rfl,rfl,h2,r2⟩:=trodAll_cons r1
 obtain ⟨v3,vs3,d3,ds3,p3,q3,rfl,rfl,rfl,h3,r3⟩:=trodAll_cons r2
 obtain ⟨v4,vs4,d4,ds4,p4,q4,rfl,rfl,rfl,h4,r4⟩:=trodAll_cons r3
 obtain ⟨rfl,rfl,rfl⟩:=trodAll_nil r4
 obtain rfl : args = #[v0,v1,v2,v3,v4]:=by cases args;simp_all
 obtain ⟨rfl,rfl⟩:=trodVars_none hV
 obtain ⟨h,hR,hlow,hnext,hm⟩:=world_ok W
 have k0:=h0
 have lt0 : ∀ x ∈ p0,x.block < W.heap.size:=by obtain ⟨m,hm⟩:=k0;exact DataW.trod_lt m _ _ _ hm
 obtain ⟨fuel0,hf0⟩:=h0
 obtain ⟨a,n,c,l,rfl,rep0,le0,cap0,hl,hi⟩:=knots_in hnext hm (hval 0 22 v0 rfl rfl) hf0
 have k1:=h1
 have lt1 : ∀ x ∈ p1,x.block < W.heap.size:=by obtain ⟨m,hm⟩:=k1;exact DataW.trod_lt m _ _ _ hm
 obtain ⟨fuel1,hf1⟩:=h1
 obtain ⟨a2,n2,c2,m,rfl,rep1,le1,cap1,hm2,hi2⟩:=knots_in hnext hm (hval 1 22 v1 rfl rfl) hf1
 have k2:=h2
 have lt2 : ∀ x ∈ p2,x.block < W.heap.size:=by obtain ⟨m,hm⟩:=k2;exact DataW.trod_lt m _ _ _ hm
 obtain ⟨fuel2,hf2⟩:=h2
 obtain ⟨ca,cb,cc,cd,ce,rfl,rep2⟩:=counts_in hnext hm (hval 2 39 v2 rfl rfl) hf2
 have k3:=h3
 have lt3 : ∀ x ∈ p3,x.block < W.heap.size:=by obtain ⟨m,hm⟩:=k3;exact DataW.trod_lt m _ _ _ hm
 obtain ⟨fuel3,hf3⟩:=h3
 obtain ⟨ls,ln,rfl,rep3,is,ik⟩:=lag_in hnext hm (hval 3 41 v3 rfl rfl) hf3
 have k4:=h4
 have lt4 : ∀ x ∈ p4,x.block < W.heap.size:=by obtain ⟨m,hm⟩:=k4;exact DataW.trod_lt m _ _ _ hm
 obtain ⟨fuel4,hf4⟩:=h4
 obtain ⟨pn,pd,rfl,rep4,ipn,ipd⟩:=frac_in hnext hm (hval 4 24 v4 rfl rfl) hf4
 clear hA0 hval0
 have hB : AP prims0 (atomsOf Try.prog hint prims0):=⟨⟨rfl,prims0_keep⟩,fun _ _ _ _ => rfl⟩
 have walk : Calls Try.prog 4 #[.slice a n c,.slice a2 n2 c2,.agg #[.int .i64 ca,.int .i64 cb,.int .i64 cc,.int .i64 cd,.int .i64 ce],.agg #[.int .i64 ls,.int .i64 ln],.agg #[.int .i64 pn,.int .i64 pd]] W fun e w' => e = .returned (.bool true) ∧ Below W.heap.size W w':=by
  refine law_calls2 mixed prims0_ok prims0_keep named Try.func4 (by kernel_rfl) (by decide) hR hlow hnext (args:=[.slice a n c,.slice a2 n2 c2,.agg #[.int .i64 ca,.int .i64 cb,.int .i64 cc,.int .i64 cd,.int .i64 ce],.agg #[.int .i64 ls,.int .i64 ln],.agg #[.int .i64 pn,.int .i64 pd]]) (repCs ?_) (lcomposes_ok hB (by omega) hl hi hm2 hi2 is ik ipn ipd (fun h' he => ⟨rfl,he⟩))
  simp only [List.all_cons,List.all_nil,Bool.and_eq_true,rep0,rep1,rep2,rep3,rep4]
  simp [repC,repV,flat1]
 refine walk.mono fun e W' ⟨he,bel⟩ => ?_
 subst he
 exact ⟨_,rfl,_,_,_,[],_,[],hW',trodAll_mk1 (shut_bool Try.underlying4 _),(trodAll_cons_mk (Below.trod laidOut (by kernel_rfl) (of_decide_eq_true (by kernel_rfl)) k0 bel lt0) (trodAll_cons_mk (Below.trod laidOut (by kernel_rfl) (of_decide_eq_true (by kernel_rfl)) k1 bel lt1) (trodAll_cons_mk (Below.trod laidOut (by kernel_rfl) (of_decide_eq_true (by kernel_rfl)) k2 bel lt2) (trodAll_cons_mk (Below.trod laidOut (by kernel_rfl) (of_decide_eq_true (by kernel_rfl)) k3 bel lt3) (trodAll_cons_mk (Below.trod laidOut (by kernel_rfl) (of_decide_eq_true (by kernel_rfl)) k4 bel lt4) trodAll_mk0))))),rfl,bel.frame _,fun h => by cases h⟩
theorem over : Rows.quantComposesRow.holds Try.pinned (OpenSpec.ofChange Rows.quantComposesSpec):=
 OpenClaim.holds_of_wide 4 Try.f4 rfl rfl rfl rfl rfl rfl rfl ⟨rfl,rfl,rfl,rfl,rfl⟩ rfl rfl rfl rfl rfl (by kernel_rfl) Try.func4 (by kernel_rfl)
  (of_decide_eq_true (by kernel_rfl)) (by unfold Func.isWrapper;first | (rw [if_pos (by decide +kernel)];kernel_rfl) | (rw [if_neg (by decide +kernel)];exact ⟨rfl,rfl⟩))
  (fun os started H enc _ => lifted os started H enc)
theorem proved : Rows.QuantComposesSaid:=over
end Go.Proofs.Ytnokkniofajnhaa.quantComposesDone
