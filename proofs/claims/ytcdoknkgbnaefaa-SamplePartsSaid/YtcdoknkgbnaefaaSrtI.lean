import Derived.Test.YtcdoknkgbnaefaaSrtA
set_option linter.unusedSimpArgs false
set_option linter.unusedVariables false
namespace Go.Proofs.Ytcdoknkgbnaefaa
open Go.Sim
set_option linter.unusedVariables false
set_option maxRecDepth 100000
variable {F : Prims} {call head arith cmp scmp bnot bsame conv neg imax imin ofNat slen place inR nz geZ rd wr push next mkOK nat zeros sadd eqAgg cut slc sslc strAt part app cpy putAt fresh lowered bump wrote addN lt ne fpAll fpApp brk yn rng mget mput mnew bytes clr : _} (hA : AP F ⟨call,head,arith,cmp,scmp,bnot,bsame,conv,neg,imax,imin,ofNat,slen,place,inR,nz,geZ,rd,wr,push,next,mkOK,nat,zeros,sadd,eqAgg,cut,slc,sslc,strAt,part,app,cpy,putAt,fresh,lowered,bump,wrote,addN,lt,ne,fpAll,fpApp,brk,yn,rng,mget,mput,mnew,bytes,clr⟩)
include hA
theorem ilt_ok {h : AHeap} (hlow : h.low ≤ h.next) {x y : Int} {Q : Value → AHeap → Prop} (hQ : ∀ (u : Bool) h',(u = true ↔ x < y) → Ext h h' → Q (.bool u) h') : call 67 [.int .i64 x,.int .i64 y] h Q:=
 less_ok hA hlow (fun r hr => hQ r h (by rw [hr];simp) (.refl h))
end Go.Proofs.Ytcdoknkgbnaefaa
