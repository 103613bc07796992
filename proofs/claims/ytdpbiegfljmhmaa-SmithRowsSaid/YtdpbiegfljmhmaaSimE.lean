import Derived.Test.YtdpbiegfljmhmaaSimD
set_option linter.unusedSimpArgs false
set_option linter.unusedVariables false
namespace Go.Sim
open Go.RowKit
def ky:Value->Bool
 | .agg cs=>cs.toList.all aU
 |v=>aU v
def oZ:Value->Bool
 | .tuple cs=>cs.toList.all ky
 |v=>ky v
theorem dK.plains{g:Nat->Option cN}{P:Value->Bool}(hP:∀v c,VG g v c->P v=true->c=v):∀{l l':List Value},dK g l l'->l.all P=true->l'=l
 | [],l',h,_=>h.nil_right
 |u :: l,l',h,hf=>by
  obtain⟨v,l2,rfl,hv,hl⟩:=h.head;simp only[List.all_cons,Bool.and_eq_true]at hf;rw[dK.plains hP hl hf.2,hP u v hv hf.1]
theorem VG.flat1_eq{g:Nat->Option cN}{u v:Value}(hv:VG g u v)(hu:aU u=true):v=u:=by
 cases hv with
 |flat _ _=>rfl
 |junk=>simp[aU]at hu
 |ptr=>simp[aU]at hu
 |sliceX=>simp[aU]at hu
 |sliceI=>simp[aU]at hu
 |sliceE=>simp[aU]at hu
 |sliceZ=>simp[aU]at hu
 |mapR=>simp[aU]at hu
 |yield=>simp[aU]at hu
 |func=>simp[aU]at hu
 |agg=>simp[aU]at hu
 |tuple=>simp[aU]at hu
theorem VG.plain1_eq{g:Nat->Option cN}{u v:Value}(hv:VG g u v)(hu:ky u=true):v=u:=by
 unfold ky at hu;split at hu
 ·rename_i cs
  cases hv with
  |flat _ _=>rfl
  |agg _ x' hx h1=>
   have:=dK.plains (P:=aU) (fun _ _=>VG.flat1_eq) (l:=cs.toList) (l':=x'.toList) ⟨hx,h1⟩ hu;rw[Array.toList_inj.1 this]
 ·exact hv.flat1_eq hu
theorem VG.plainT_eq{g:Nat->Option cN}{u v:Value}(hv:VG g u v)(hu:oZ u=true):v=u:=by
 unfold oZ at hu;split at hu
 ·rename_i cs
  cases hv with
  |flat _ _=>rfl
  |tuple _ x' hx h1=>
   have:=dK.plains (P:=ky) (fun _ _=>VG.plain1_eq) (l:=cs.toList) (l':=x'.toList) ⟨hx,h1⟩ hu;rw[Array.toList_inj.1 this]
 ·exact hv.plain1_eq hu
theorem VG.of_plain1{g:Nat->Option cN}{v:Value}(h:ky v=true):VG g v v:=by
 unfold ky at h;split at h
 ·exact .agg _ _ rfl (dK.flat h).2
 ·exact .flat _ h
theorem VG.of_plainT{g:Nat->Option cN}{v:Value}(h:oZ v=true):VG g v v:=by
 unfold oZ at h;split at h
 ·refine .tuple _ _ rfl (fun i u w h1 h2=>?_)
  rw[h1]at h2;cases h2;exact .of_plain1 (List.all_eq_true.1 h u (List.mem_of_getElem? h1))
 ·exact .of_plain1 h
def nL(f:FuncId->List Value->Option Value)(F:aM):aM:=fun g args h=>
 match f g args with
 |some v=>some (v,h)
 |none=>F g args h
theorem yI{P : Program}{H : bg}{F0 F : aM}{f : FuncId → List Value → Option Value}(hm : P.follows .mixedOrders = true)(hF0 : cU P F0)(hF0k : aP F0)(hname : ∀ (g : FuncId) (fn : Func), P.funcs[g]? = some fn → (fn.name == "runtime.NumGoroutine") = false)
  (hf:∀(g:FuncId) (args:List Value) (v:Value),f g args=some v->args.all ky=true/\oZ v=true/\(∃fn,P.funcs[g]?=some fn/\fn.body.isSome=true)/\∃h',Hy P H F0 g args iW v h') (hF:cU P F):cU P (nL f F):=by
 intro g args h v h' hc hg G w cargs hR hA;unfold nL at hc;split at hc
 ·rename_i u hu
  simp only[oi,pj]at hc;obtain⟨rfl,rfl⟩:=hc;obtain⟨h1,h2,⟨fn,hfn,hb⟩,h3,hr⟩:=hf g args u hu;have ha:=dK.plains (P:=ky) (fun _ _=>VG.plain1_eq) hA h1;subst ha;have hR0:HR ⟨fun _=>none,fun _=>none⟩ (fV iW) w:=
   { gdom:=(fun id L h=>by cases h),gblk:=(fun id L h=>by cases h),gcon:=(fun id L b h=>by cases h),ginj:=(fun id id' L L' b b' h=>by cases h),ldom:=(fun t L h=>by cases h),lcon:=(fun t L h=>by cases h),linj:=(fun t t' L L' h=>by cases h),sep:=(fun id t L L' h=>by cases h) }
  have self:dK (fun _=>none) cargs cargs:=⟨rfl,fun i u v h1' h2'=>by
   rw[h1']at h2';cases h2';exact .of_plain1 (List.all_eq_true.1 h1 u (List.mem_of_getElem? h1'))⟩
  have hd:=hr.ok hm hF0 hF0k hname hg hR0 self;refine hd.mono (fun c w' ⟨G',hv,hG,_⟩=>?_);have bel:Below w.heap.size w w':=⟨hG.os,hG.tape,hG.output,hG.size,fun k hk=>hG.frame k hk (fun id L h=>by cases h) (fun t L h=>by cases h)⟩;rw[hv.plainT_eq h2];exact⟨G,.of_plainT h2,.grown hR bel,.refl _ _⟩
 ·exact hF g args h v h' hc hg G w cargs hR hA
theorem vK{f:FuncId->List Value->Option Value}{F:aM}(hF:aP F):aP (nL f F):=by
 intro g args h v h' hc;unfold nL at hc;split at hc
 ·simp only[oi,pj]at hc
  obtain⟨_,rfl⟩:=hc;exact .refl _ _
 ·exact hF g args h v h' hc
