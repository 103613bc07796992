import Derived.Test.YtdpbiegfljmhmaaSmB
set_option linter.unusedSimpArgs false
set_option linter.unusedVariables false
namespace Go.Proofs.Ytdpbiegfljmhmaa
open Go.Sim
set_option maxRecDepth 100000
theorem DB{a b:Nat}(h:a≠b):Nat.beq a b=false:=by
 cases q:Nat.beq a b with
 |false=>rfl
 |true=>exact absurd (Nat.eq_of_beq_eq_true q) h
variable{F:aM}{a0 b0 c0 d0 e0 f0 g0 h0 j0 k0 l0 m0 n0 o0 p0 nz q0 rd wr r0 s0 t0 u0 v0 w0 x0 y0 slc z0 a1 b1 c1 d1 e1 f1 g1 h1 j1 k1 lt ne l1 m1 n1 yn o1 p1 q1 r1 s1 t1:_}(hA:AP F ⟨a0,b0,c0,d0,e0,f0,g0,h0,j0,k0,l0,m0,n0,o0,p0,nz,q0,rd,wr,r0,s0,t0,u0,v0,w0,x0,y0,slc,z0,a1,b1,c1,d1,e1,f1,g1,h1,j1,k1,lt,ne,l1,m1,n1,yn,o1,p1,q1,r1,s1,t1⟩)
include hA
theorem JN{t:TypeId}{e es:Nat}(hT:dB Try.prog t e es){a:Option Addr}{n:Nat}(hn:n<=1000000){k:IntKind}{i:Int}(i0:1<=i)(i1:i<n){C:Option Addr->Nat->Nat->Prop}
  (h:C (a.map (dP · (i.toNat*es))) (n-i.toNat) (ar es (n-i.toNat))):slc t (.slice a n (ar es n)) (some (.int k i)) none none C:=by
 have e_slc:slc t (.slice a n (ar es n)) (some (.int k i)) none none C = ∃a' n' c',fx Try.prog t (.slice a n (ar es n)) (some (.int k i)) none none=some (.slice a' n' c')/\C a' n' c':=by have:=hA.eq;injections;subst_vars;rfl
 rw[e_slc];refine⟨_,_,_,?_,h⟩;have hs:n<aI:=by unfold aI;omega
 unfold fx;simp only[hT.und,hT.size];unfold jA;simp only[fg,gq,fO,bound];rw[if_pos ⟨by omega,by omega⟩];simp only[];rw[bM hs,aS (Nat.le_refl _),bT (cS es n),iJ hs];simp only[cond_true,cond_false,Option.isSome_none,Bool.or_false];rw[DB (show i.toNat≠0 by omega),da (by omega)];simp
