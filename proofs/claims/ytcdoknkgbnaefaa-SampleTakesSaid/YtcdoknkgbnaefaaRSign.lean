import Derived.Test.YtcdoknkgbnaefaaBitsSign
set_option linter.unusedSimpArgs false
set_option linter.unusedVariables false
namespace Go.Proofs.Ytcdoknkgbnaefaa
open Go.Sim
set_option linter.unusedVariables false
set_option maxRecDepth 100000
variable {F : Prims} {call head arith cmp scmp bnot bsame conv neg imax imin ofNat slen place inR nz geZ rd wr push next mkOK nat zeros sadd eqAgg cut slc sslc strAt part app cpy putAt fresh lowered bump wrote addN lt ne fpAll fpApp brk yn rng mget mput mnew bytes clr : _} (hA : AP F ⟨call,head,arith,cmp,scmp,bnot,bsame,conv,neg,imax,imin,ofNat,slen,place,inR,nz,geZ,rd,wr,push,next,mkOK,nat,zeros,sadd,eqAgg,cut,slc,sslc,strAt,part,app,cpy,putAt,fresh,lowered,bump,wrote,addN,lt,ne,fpAll,fpApp,brk,yn,rng,mget,mput,mnew,bytes,clr⟩)
include hA
theorem app1_ok {h : AHeap} {a : Option Addr} {n c : Nat} {l : List Int} {v : Int} (hp : Apd h 1 a n c (l.map (.int .i64))) (hn : n ≤ 10000) {C : Option Addr → Nat → Nat → AHeap → Prop}
  (hC : ∀ a' c' h',Apd h' 1 a' (n + 1) c' ((l ++ [v]).map (.int .i64)) → (∀ h0,Ext h0 h → From h0.next a → Ext h0 h' ∧ From h0.next a') → C a' (n + 1) c' h') :
  app [22,22] [.slice a n c,.slice (some ⟨next h,0,none⟩) 1 1] (push h 1 [.int .i64 v]) C:=by
 rw [e_app hA,e_push hA,e_next hA]
 have hs : Cells (h.push 1 [.int .i64 v]) (some ⟨h.next,0,none⟩) 1 1 [.int .i64 v]:=⟨rfl,by simp [AHeap.push],by rw [(Own.push h 1 _).readG (by simp)];rfl⟩
 obtain ⟨a',c',h',h1,h2,h3⟩:=append_ok T22 T22.und (c2:=1) (hp.ext (.push h 1 [.int .i64 v])) hs (ints_ok _ _) rfl (by omega) (by omega)
 refine ⟨a',n + 1,c',h',h1,hC a' c' h' (by simpa using h2) (fun h0 e0 f0 => h3 h0 (e0.trans (.push _ _ _)) f0)⟩
end Go.Proofs.Ytcdoknkgbnaefaa
