import Derived.Test.YtnokkniofajnhaaQuPd
set_option linter.unusedSimpArgs false
set_option linter.unusedVariables false
namespace Go.Proofs.Ytnokkniofajnhaa
open Go.Sim
set_option linter.unusedVariables false
set_option maxRecDepth 100000
variable {F : Prims} {call head arith cmp scmp bnot bsame conv neg imax imin ofNat slen place inR nz geZ rd wr push next mkOK nat zeros sadd eqAgg cut slc sslc strAt part app cpy putAt fresh lowered bump wrote addN lt ne fpAll fpApp brk yn rng mget mput mnew bytes clr : _} (hA : AP F ⟨call,head,arith,cmp,scmp,bnot,bsame,conv,neg,imax,imin,ofNat,slen,place,inR,nz,geZ,rd,wr,push,next,mkOK,nat,zeros,sadd,eqAgg,cut,slc,sslc,strAt,part,app,cpy,putAt,fresh,lowered,bump,wrote,addN,lt,ne,fpAll,fpApp,brk,yn,rng,mget,mput,mnew,bytes,clr⟩)
include hA
theorem sortfunc_ok {h0 h : AHeap} (hlow : h0.low ≤ h0.next) {b n c : Nat} {L : List F2} (t : Dat h0 h b n L) {Q : Value → AHeap → Prop}
  (hQ : ∀ h' L',Dat h0 h' b n L' → PermOn 0 n L L' → SortedOn leF L' 0 n → Q (.tuple #[]) h') : call 60 [.slice (some ⟨b,0,none⟩) n c,.func (.func 34) #[] #[]] h Q:=by
 have hlow':=hlow
 replace hlow:=t.ext.lowOK hlow
 have few:=t.few
 refine hA.bodyR Try.func60 r60_ok (hA.alike _ _ _ rfl) hlow (zc ?_)
 rw [e_ofNat hA,convU hA (by omega) (by omega)]
 refine len_ok hA hlow (by unfold u64;omega) (fun k hk => ⟨_,rfl,?_⟩)
 obtain ⟨n0,n1,n2⟩:=hk
 have k40 : k ≤ 40:=by
  by_cases c : k ≤ 40
  ·exact c
  ·have h1:=Nat.pow_le_pow_right (n:=2) (by omega) (show 40 ≤ k.toNat by omega)
   have h2 : ((2 ^ 40 : Nat) : Int) ≤ ((2 ^ k.toNat : Nat) : Int):=by exact_mod_cast h1
   have h3 : ((2 ^ k.toNat : Nat) : Int) = 2 ^ k.toNat:=by push_cast;rfl
   have h4 : ((2 ^ 40 : Nat) : Int) = 1099511627776:=by decide
   have h5 : max (n : Int) 1 ≤ 100001:=by omega
   omega
 refine zc ?_
 refine pdq_ok hA hlow' (c:=c) (n + 1) h L 0 n k _ (by omega) (by omega) (by omega) (Int.le_refl _) n0 (by omega) (.inl rfl) t (fun h' L' t' hp hs => ?_)
 refine zc ?_
 exact hQ h' L' t' hp hs
end Go.Proofs.Ytnokkniofajnhaa
