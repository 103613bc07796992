import Derived.Test.YtcdoknkgbnaefaaThS
import Derived.Test.YtcdoknkgbnaefaaThT
set_option linter.unusedSimpArgs false
set_option linter.unusedVariables false
namespace Go.Proofs.Ytcdoknkgbnaefaa
open Go.Sim
set_option linter.unusedVariables false
set_option maxRecDepth 100000
variable {F : Prims} {call head arith cmp scmp bnot bsame conv neg imax imin ofNat slen place inR nz geZ rd wr push next mkOK nat zeros sadd eqAgg cut slc sslc strAt part app cpy putAt fresh lowered bump wrote addN lt ne fpAll fpApp brk yn rng mget mput mnew bytes clr : _} (hA : AP F ⟨call,head,arith,cmp,scmp,bnot,bsame,conv,neg,imax,imin,ofNat,slen,place,inR,nz,geZ,rd,wr,push,next,mkOK,nat,zeros,sadd,eqAgg,cut,slc,sslc,strAt,part,app,cpy,putAt,fresh,lowered,bump,wrote,addN,lt,ne,fpAll,fpApp,brk,yn,rng,mget,mput,mnew,bytes,clr⟩)
include hA
theorem ltakes_ok {h : AHeap} (hlow : h.low ≤ h.next) {a : Option Addr} {n c : Nat} {l : List Int} (hs : Ints h .i64 a n l) {t u v : Int} (iu : i64 u) (iv : i64 v) {Q : Value → AHeap → Prop}
  (hQ : ∀ h',Ext h h' → Q (.bool true) h') : call 5 [.slice a n c,.int .i64 t,.agg #[.int .i64 u,.int .i64 v]] h Q:=by
 refine hA.bodyR Try.func5 r5_ok (hA.alike _ _ _ rfl) hlow (zc ?_)
 refine long_ok hA hlow (fun r hr => ⟨_,rfl,?_⟩)
 refine zc ?_
 refine br (300 < (n : Int)) hr (fun c1 => ?_) (fun c1 => ?_) <;> refine zc ?_
 ·exact hQ h (.refl h)
 have hn : n ≤ 300:=by omega
 refine take_ok hA hlow (by omega) hs t (fun e a1 n1 c1 h1 k1 x1 r1 => ⟨_,_,_,_,rfl,?_⟩)
 refine zc ?_
 refine rtake_ok hA (x1.lowOK hlow) hn (hs.ext x1) t (fun f a2 n2 c2 h2 k2 x2 r2 => ⟨_,_,_,_,rfl,?_⟩)
 have y2:=x1.trans x2
 obtain rfl : f = e:=by rw [k1,k2]
 have hl:=hs.len
 have hlz : (if f = 0 then l.map (takeV t) else []).length ≤ 300:=by
  split
  ·rw [List.length_map];omega
  ·simp
 generalize (if f = 0 then l.map (takeV t) else []) = z at *
 refine zc ?_
 refine thr_ok hA (y2.lowOK hlow) hn (hs.ext y2) iu iv (fun m g h3 k3 x3 => ⟨_,_,rfl,?_⟩)
 have y3:=y2.trans x3
 refine zc ?_
 refine rthr_ok hA (y3.lowOK hlow) hn (hs.ext y3) iu iv (fun m' g' h4 k4 x4 => ⟨_,_,rfl,?_⟩)
 have y4:=y3.trans x4
 obtain ⟨rfl,rfl⟩:=k3.uniq k4
 refine zc ?_
 have z1:=(r1.ext ((x2.trans x3).trans x4))
 have z2:=(r2.ext (x3.trans x4))
 refine same_ok hA (y4.lowOK hlow) (by have:=z1.len;omega) z1 z2 (fun r hr h5 x5 => ⟨_,rfl,?_⟩)
 obtain rfl : r = true:=by rw [hr];simp
 refine zc ?_
 refine br True (by rw [e_eql hA];simp) (fun _ => ?_) (fun q => absurd trivial q) <;> refine zc ?_
 refine br True (by rw [e_eql hA];simp) (fun _ => ?_) (fun q => absurd trivial q) <;> refine zc ?_
 rw [show cmp .eql g g = true by rw [e_eql hA];simp]
 exact hQ h5 (y4.trans x5)
end Go.Proofs.Ytcdoknkgbnaefaa
