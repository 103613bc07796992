import Derived.Test.YtkbgkjlgnmlghaaSymRowsA
set_option linter.unusedSimpArgs false
set_option linter.unusedVariables false
namespace Go.Proofs.Ytkbgkjlgnmlghaa
open Go.Sim
set_option linter.unusedVariables false
set_option maxRecDepth 100000
def cmpI (a b : Int) : Int:=if a < b then -1 else if b < a then 1 else 0
def orI (a b : Int) : Int:=if a ≠ 0 then a else b
variable {F : Prims} {call head arith cmp scmp bnot bsame conv neg imax imin ofNat slen place inR nz geZ rd wr push next mkOK nat zeros sadd eqAgg cut slc sslc strAt part app cpy putAt fresh lowered bump wrote addN lt ne fpAll brk yn rng mget mput mnew bytes clr : _} (hA : AP F ⟨call,head,arith,cmp,scmp,bnot,bsame,conv,neg,imax,imin,ofNat,slen,place,inR,nz,geZ,rd,wr,push,next,mkOK,nat,zeros,sadd,eqAgg,cut,slc,sslc,strAt,part,app,cpy,putAt,fresh,lowered,bump,wrote,addN,lt,ne,fpAll,brk,yn,rng,mget,mput,mnew,bytes,clr⟩)
include hA
theorem isNaN_ok {h : AHeap} (hlow : h.low ≤ h.next) {x : Int} {Q : Value → AHeap → Prop} (hQ : Q (.bool false) h) : call 60 [.int .i64 x] h Q:=by
 refine hA.bodyR Try.func60 r60_ok (hA.alike _ _ _ rfl) hlow (zc ?_)
 rw [e_neq hA,show decide (x ≠ x) = false by simp]
 exact hQ
theorem compare_int_ok {h : AHeap} (hlow : h.low ≤ h.next) {a b : Int} {Q : Value → AHeap → Prop} (hQ : ∀ c,c = cmpI a b → Q (.int .i64 c) h) : call 38 [.int .i64 a,.int .i64 b] h Q:=by
 refine hA.bodyR Try.func38 r38_ok (hA.alike _ _ _ rfl) hlow (zc ?_)
 refine isNaN_ok hA hlow ⟨_,rfl,?_⟩
 refine zc ?_
 refine isNaN_ok hA hlow ⟨_,rfl,?_⟩
 refine zc ?_
 refine br (a < b) (by rw [e_lss hA]) (fun c => ?_) (fun c => ?_) <;> refine zc ?_
 ·exact hQ _ (by unfold cmpI;rw [if_pos c])
 refine br (b < a) (by rw [e_gtr hA]) (fun c1 => ?_) (fun c1 => ?_) <;> refine zc ?_
 ·exact hQ _ (by unfold cmpI;rw [if_neg c,if_pos c1])
 ·exact hQ _ (by unfold cmpI;rw [if_neg c,if_neg c1])
theorem or2_ok {h : AHeap} (hlow : h.low ≤ h.next) {b c : Nat} {x y : Int} (hr : h.readG ⟨b,0,none⟩ 1 = some [.int .i64 x]) (hr2 : h.readG ⟨b,0 + 1,none⟩ 1 = some [.int .i64 y]) {Q : Value → AHeap → Prop} (hQ : ∀ r,r = orI x y → Q (.int .i64 r) h) : call 37 [.slice (some ⟨b,0,none⟩) 2 c] h Q:=by
 have q1 : rd h b (place 0 0 1) 1 [.int .i64 x]:=by rw [e_rd hA,e_place hA];exact hr
 have q2 : rd h b (place 0 1 1) 1 [.int .i64 y]:=by rw [e_rd hA,e_place hA];exact hr2
 refine hA.bodyR Try.func37 r37_ok (hA.alike _ _ _ rfl) hlow (zc ?_)
 rw [show ofNat 2 = 2 from e_ofNat hA 2]
 refine hA.roundR Try.func37 r37_ok (zc ?_)
 refine br True (by rw [e_lss hA];rfl) (fun _ => ?_) (fun q => absurd trivial q) <;> refine zc ?_
 refine zq ?_
 refine br (x ≠ 0) (by rw [e_neq hA]) (fun c => ?_) (fun c => ?_) <;> refine zc ?_
 ·exact hQ _ (by unfold orI;rw [if_pos c])
 rw [show arith .add .i64 0 1 = 1 by rw [add64 hA (by omega) (by omega)];rfl]
 refine hA.roundR Try.func37 r37_ok (zc ?_)
 refine br True (by rw [e_lss hA];rfl) (fun _ => ?_) (fun q => absurd trivial q) <;> refine zc ?_
 refine zq ?_
 refine br (y ≠ 0) (by rw [e_neq hA]) (fun c1 => ?_) (fun c1 => ?_) <;> refine zc ?_
 ·exact hQ _ (by unfold orI;rw [if_neg c])
 rw [show arith .add .i64 1 1 = 2 by rw [add64 hA (by omega) (by omega)];rfl]
 refine hA.roundR Try.func37 r37_ok (zc ?_)
 refine br False (by rw [e_lss hA];rfl) (fun q => q.elim) (fun _ => ?_) <;> refine zc ?_
 exact hQ _ (by unfold orI;rw [if_neg c];omega)
end Go.Proofs.Ytkbgkjlgnmlghaa
