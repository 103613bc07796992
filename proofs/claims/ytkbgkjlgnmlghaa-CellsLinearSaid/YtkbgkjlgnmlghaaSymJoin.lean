import Derived.Test.YtkbgkjlgnmlghaaFracPure
import Derived.Test.YtkbgkjlgnmlghaaSymFacts
set_option linter.unusedSimpArgs false
set_option linter.unusedVariables false
namespace Go.Proofs.Ytkbgkjlgnmlghaa
open Go.Sim
set_option maxRecDepth 100000
theorem aliveRun : saysTrue ((execA Try.prog noHint primsP 10000).call 18 [] emptyH) = true:=by kernel_rfl
theorem prims_ok : CallOK Try.prog prims:=withTrue_ok (execA_ok mixed primsP_ok primsP_keep named 10000).2.2.1 Try.func18 (by kernel_rfl) (named 18 _ Try.func18) aliveRun prims0_ok
theorem prims_alike (g : FuncId) (args : List Value) (h : AHeap) (hg : Nat.beq g 18 = false) : prims g args h = prims0 g args h:=by
 unfold prims withTrue
 rw [hg]
 rfl
theorem alive_prim (h : AHeap) : prims 18 [] h = some (.bool true,h):=rfl
end Go.Proofs.Ytkbgkjlgnmlghaa
namespace Go.Proofs.Ytkbgkjlgnmlghaa
open Go.Sim
variable {F : Prims} {call head arith cmp scmp bnot bsame conv neg imax imin ofNat slen place inR nz geZ rd wr push next mkOK nat zeros sadd eqAgg cut slc sslc strAt part app cpy putAt fresh lowered bump wrote addN lt ne fpAll brk yn rng mget mput mnew bytes clr : _} (hA : AP F ⟨call,head,arith,cmp,scmp,bnot,bsame,conv,neg,imax,imin,ofNat,slen,place,inR,nz,geZ,rd,wr,push,next,mkOK,nat,zeros,sadd,eqAgg,cut,slc,sslc,strAt,part,app,cpy,putAt,fresh,lowered,bump,wrote,addN,lt,ne,fpAll,brk,yn,rng,mget,mput,mnew,bytes,clr⟩)
include hA
theorem fp_old {h h' : AHeap} {b lim : Nat} (hw : wrote h h' = false) (hb : b < lim) : fpAll false (wrote h h') false b lim:=by
 rw [e_fpAll hA]
 exact ⟨rfl,hw,.inr hb⟩
end Go.Proofs.Ytkbgkjlgnmlghaa
