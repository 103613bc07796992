import Derived.Test.YtkbgkjlgnmlghaaCaC
set_option linter.unusedSimpArgs false
set_option linter.unusedVariables false
namespace Go.Proofs.Ytkbgkjlgnmlghaa
open Go.Sim
set_option linter.unusedVariables false
set_option maxRecDepth 100000
def wR (n m k c : Int) : Rat:=if c = m / k then rq (k - m % k) k else if c = (m / k + 1) % n then rq (m % k) k else 0
def partR (n : Int) (s : Sk) (x y : Int) : List Pk:=if 0 < wR n s.un s.ud x * wR n s.vn s.vd y then [mkP x y (wR n s.un s.ud x * wR n s.vn s.vd y)] else []
def upTo (n : Int) : List Int:=(List.range n.toNat).map Int.ofNat
def rowR (n : Int) (s : Sk) (y m : Int) : List Pk:=(upTo m).flatMap fun x => partR n s x y
def partsR (n : Int) (s : Sk) (m : Int) : List Pk:=(upTo m).flatMap fun y => rowR n s y n
variable {F : Prims} {call head arith cmp scmp bnot bsame conv neg imax imin ofNat slen place inR nz geZ rd wr push next mkOK nat zeros sadd eqAgg cut slc sslc strAt part app cpy putAt fresh lowered bump wrote addN lt ne fpAll brk yn rng mget mput mnew bytes clr : _} (hA : AP F ⟨call,head,arith,cmp,scmp,bnot,bsame,conv,neg,imax,imin,ofNat,slen,place,inR,nz,geZ,rd,wr,push,next,mkOK,nat,zeros,sadd,eqAgg,cut,slc,sslc,strAt,part,app,cpy,putAt,fresh,lowered,bump,wrote,addN,lt,ne,fpAll,brk,yn,rng,mget,mput,mnew,bytes,clr⟩)
include hA
end Go.Proofs.Ytkbgkjlgnmlghaa
