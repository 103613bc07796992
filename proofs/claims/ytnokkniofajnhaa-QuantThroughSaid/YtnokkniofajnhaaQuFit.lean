import Derived.Test.YtnokkniofajnhaaQuV
set_option linter.unusedSimpArgs false
set_option linter.unusedVariables false
namespace Go.Proofs.Ytnokkniofajnhaa
open Go.Sim
set_option linter.unusedVariables false
set_option maxRecDepth 100000
variable {F : Prims} {call head arith cmp scmp bnot bsame conv neg imax imin ofNat slen place inR nz geZ rd wr push next mkOK nat zeros sadd eqAgg cut slc sslc strAt part app cpy putAt fresh lowered bump wrote addN lt ne fpAll brk yn rng mget mput mnew bytes clr : _} (hA : AP F ⟨call,head,arith,cmp,scmp,bnot,bsame,conv,neg,imax,imin,ofNat,slen,place,inR,nz,geZ,rd,wr,push,next,mkOK,nat,zeros,sadd,eqAgg,cut,slc,sslc,strAt,part,app,cpy,putAt,fresh,lowered,bump,wrote,addN,lt,ne,fpAll,brk,yn,rng,mget,mput,mnew,bytes,clr⟩)
include hA
theorem fit_ok {h : AHeap} (hlow : h.low ≤ h.next) {a : Option Addr} {n c : Nat} {l : List Kr} (hl : Ks h a n l) (hi : allI64 l) {Q : Value → AHeap → Prop} (hQ : ∀ (r : Bool) h',(r = true ↔ GoodL l) → Ext h h' → Q (.bool r) h') : call 26 [.slice a n c] h Q:=by
 have hlen:=hl.len
 refine hA.bodyR Try.func26 r26_ok (hA.alike _ _ _ rfl) hlow (zc ?_)
 refine long_ok hA hlow (fun r hr => ⟨_,rfl,?_⟩)
 refine zc ?_
 refine br (r = false) (by rw [e_bnot hA];cases r <;> rfl) (fun c1 => ?_) (fun c1 => ?_) <;> refine zc ?_
 rotate_left
 ·refine hQ false h ⟨(fun q => by cases q),fun g => ?_⟩ (.refl h)
  have:=g.most
  have : 60 < n:=hr.1 (by cases r with | true => rfl | false => exact absurd rfl c1)
  omega
 refine rqcheck_ok hA hlow hl hi (fun e h1 k1 x1 => ⟨_,rfl,?_⟩)
 refine zc ?_
 refine hQ _ h1 ?_ x1
 rw [e_eql hA,decide_eq_true_iff]
 exact k1.good
end Go.Proofs.Ytnokkniofajnhaa
