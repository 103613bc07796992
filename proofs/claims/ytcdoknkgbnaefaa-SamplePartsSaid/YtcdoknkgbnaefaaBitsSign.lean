import Derived.Test.YtcdoknkgbnaefaaDigit
set_option linter.unusedSimpArgs false
set_option linter.unusedVariables false
namespace Go.Proofs.Ytcdoknkgbnaefaa
open Go.Sim
set_option linter.unusedVariables false
set_option maxRecDepth 100000
def wide (x : Int) : Bool:=decide (x = -3) || decide (x = 3)
def sgnI (x : Int) : Int:=if x < 0 then -1 else if 0 < x then 1 else 0
theorem T22 : SliceT Try.prog 22 3 1:=⟨by kernel_rfl,by kernel_rfl,⟨8,by kernel_rfl,by omega⟩,⟨.int .i64 0,by kernel_rfl,rfl⟩⟩
variable {F : Prims} {call head arith cmp scmp bnot bsame conv neg imax imin ofNat slen place inR nz geZ rd wr push next mkOK nat zeros sadd eqAgg cut slc sslc strAt part app cpy putAt fresh lowered bump wrote addN lt ne fpAll fpApp brk yn rng mget mput mnew bytes clr : _} (hA : AP F ⟨call,head,arith,cmp,scmp,bnot,bsame,conv,neg,imax,imin,ofNat,slen,place,inR,nz,geZ,rd,wr,push,next,mkOK,nat,zeros,sadd,eqAgg,cut,slc,sslc,strAt,part,app,cpy,putAt,fresh,lowered,bump,wrote,addN,lt,ne,fpAll,fpApp,brk,yn,rng,mget,mput,mnew,bytes,clr⟩)
include hA
theorem long_ok {h : AHeap} (hlow : h.low ≤ h.next) {a : Option Addr} {n c : Nat} {Q : Value → AHeap → Prop} (hQ : ∀ r,r = decide (300 < (n : Int)) → Q (.bool r) h) : call 10 [.slice a n c] h Q:=by
 refine hA.bodyR Try.func10 r10_ok (hA.alike _ _ _ rfl) hlow (zc ?_)
 exact hQ _ (by rw [e_gtr hA,e_ofNat hA])
end Go.Proofs.Ytcdoknkgbnaefaa
