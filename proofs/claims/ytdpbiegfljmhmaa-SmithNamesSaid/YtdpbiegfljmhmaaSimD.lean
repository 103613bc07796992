import Derived.Test.YtdpbiegfljmhmaaSimC
import Derived.Below
import Derived.Laws.Externs
set_option linter.unusedSimpArgs false
set_option linter.unusedVariables false
namespace Go.cL
open Go.RowKit
def kA:af:={ next:=0,low:=0,m:=.leaf }
def pR:Option (Value×af)->Bool
 |some (.bool true,_)=>true
 |_=>false
theorem zZ{r:Option (Value×af)}(h:pR r=true):∃h',r=some (.bool true,h'):=by
 unfold pR at h;split at h
 ·exact⟨_,rfl⟩
 ·cases h
theorem s8.calls{P : Program}{g : FuncId}{fn : Func}{args : Array Value}{w : World}{R : Value → World → Prop}(h : s8 P g args w R)(hf : P.funcs[g]? = some fn)(hb : fn.body.isSome = true)(cG : (fn.name == "runtime.NumGoroutine") = false) :
  Calls P g args w (fun e w'=>∃c,e=.returned c/\R c w'):=by
 rcases h with ⟨_,h⟩|⟨c,w',h,_⟩
 ·exact h
 ·rw[gZ hf hb cG]at h;simp at h
theorem GL{P : Program}{call : cF}(hc : dv P call){g : FuncId}{fn : Func}(hf : P.funcs[g]? = some fn)(hb : fn.body.isSome = true)(cG : (fn.name == "runtime.NumGoroutine") = false)(h : pR (call g [] kA) = true)(w : World)(hg : g < aU := by decide) :
  Calls P g #[] w fun e w'=>e=.returned (.bool true)/\Below w.heap.size w w':=by
 obtain⟨h',he⟩:=zZ h;have hR:HR ⟨fun _=>none,fun _=>none⟩ (iw kA) w:=
  { cS:=(fun id L h=>by cases h),di:=(fun id L h=>by cases h),cH:=(fun id L b h=>by cases h),dj:=(fun id pD L L' b b' h=>by cases h),dX:=(fun t L h=>by cases h),dP:=(fun t L h=>by cases h),dZ:=(fun t t' L L' h=>by cases h),sep:=(fun id t L L' h=>by cases h) }
 have hd:=hc g [] kA _ h' he hg (fun _=>none) w [] hR (fG.nil _);refine(hd.calls hf hb cG).mono ?_;rintro e w' ⟨c,rfl,G',hv,hG,_⟩;rw[hv.bool];refine⟨rfl,hG.os,hG.tape,hG.output,hG.size,fun k hk=>hG.frame k hk (fun id L h=>by cases h) (fun t L h=>by cases h)⟩
end Go.cL
namespace Go.cL
theorem fG.Is{g:Nat->Option Loc}:∀{l l':List Value},fG g l l'->l.all bA=true->l'=l
 | [],l',h,_=>h.iS
 |u :: l,l',h,hf=>by
  obtain⟨v,l2,rfl,hv,hl⟩:=h.head;simp only[List.all_cons,Bool.and_eq_true]at hf;have e1:=fG.Is hl hf.2;have e2:v=u:=by
   have hu:=hf.1;cases hv with
   |flat _ _=>rfl
   |zR=>simp[bA]at hu
   |ptr=>simp[bA]at hu
   |gN=>simp[bA]at hu
   |gW=>simp[bA]at hu
   |ky=>simp[bA]at hu
   |jG=>simp[bA]at hu
   |xD=>simp[bA]at hu
   |yield=>simp[bA]at hu
   |func=>simp[bA]at hu
   |agg=>simp[bA]at hu
   |tuple=>simp[bA]at hu
  rw[e1,e2]
def Em:Value->Bool
 | .tuple vs=>vs.toList.all bA
 |v=>bA v
theorem VG.MP{g:Nat->Option Loc}{v:Value}(h:Em v=true):VG g v v:=by
 unfold Em at h;split at h
 ·exact .tuple _ _ rfl (fG.flat h).2
 ·exact .flat _ h
def withFn(g0:FuncId)(f:List Value->Option Value)(F:bg):bg:=fun g args h=>
 bif Nat.beq g g0 && args.all bA then
  match f args with
  |some v=>bif Em v then some (v,h)else none
  |none=>none
 else F g args h
theorem vt{g0:FuncId}{f:List Value->Option Value}{F:bg}{g:FuncId}{args:List Value}{h h':af}{v:Value}(hc:withFn g0 f F g args h=some (v,h')) :
  (g=g0/\args.all bA=true/\f args=some v/\Em v=true/\h'=h)\/F g args h=some (v,h'):=by
 unfold withFn at hc;cases hb:(Nat.beq g g0 && args.all bA)with
 |false=>rw[hb]at hc;exact .inr hc
 |true=>
  rw[hb]at hc;simp only[Bool.and_eq_true]at hb;simp only[cond_true]at hc;split at hc
  ·rename_i u hu
   cases hf:Em u with
   |false=>rw[hf]at hc;simp at hc
   |true=>
    rw[hf]at hc;simp only[cond_true,oi,pj]at hc;obtain⟨rfl,rfl⟩:=hc;exact .inl ⟨Nat.eq_of_beq_eq_true hb.1,hb.2,hu,hf,rfl⟩
  ·cases hc
theorem AT{P:Program}{g0:FuncId}{f:List Value->Option Value}{F:bg}(hf:∀(args:List Value) (v:Value) (w:World),f args=some v->(callFunc g0 args.toArray).run P w=.ok (.value v) w)(hF:dv P F):dv P (withFn g0 f F):=by
 intro g args h v h' hc hg G w aP hR hA;rcases vt hc with ⟨rfl,h1,h2,h3,rfl⟩|hc
 ·right
  rw[hA.Is h1];exact⟨v,w,hf args v w h2,G,.MP h3,.refl hR,.refl _ _⟩
 ·exact hF g args h v h' hc hg G w aP hR hA
theorem vu{g0:FuncId}{f:List Value->Option Value}{F:bg}(hF:aY F):aY (withFn g0 f F):=by
 intro g args h v h' hc;rcases vt hc with ⟨_,_,_,_,rfl⟩|hc
 ·exact .refl _ _
 ·exact hF g args h v h' hc
def yg:List Value->Option Value
 | [.int .u64 x,.int .u64 y,.int .u64 c]=>if 0<=x/\0<=y/\0<=c/\c<=1 then some (.tuple #[.int .u64 ((x+y+c) % 18446744073709551616),.int .u64 ((x+y+c) / 18446744073709551616)])else none
 |_=>none
def MQ:Array Value->Sem Value:=fun args=>do
 let (x, y, b) ← Extern.MathBitsCarry.three "Sub64" args
 pure (Extern.MathBitsCarry.pair ((x+Extern.MathBitsCarry.m64-y-b) % Extern.MathBitsCarry.m64) (if x<y+b then 1 else 0))
def uD:List Value->Option Value
 | [.int .u64 x,.int .u64 y,.int .u64 b]=>if 0<=x/\0<=y/\0<=b/\b<=1 then some (.tuple #[.int .u64 (Int.ofNat ((x.toNat+18446744073709551616-y.toNat-b.toNat) % 18446744073709551616)),.int .u64 (Int.ofNat (if x.toNat<y.toNat+b.toNat then 1 else 0))])else none
 |_=>none
theorem tp{P : Program}{g : FuncId}{fn : Func}(hf : P.funcs[g]? = some fn)(cG : (fn.name == "runtime.NumGoroutine") = false)(hb : fn.body.isNone = true)(hn : Extern.findNext fn = none)(he : Extern.find fn = some add64Entry)
  (args:List Value) (v:Value) (w:World) (h:yg args=some v):(callFunc g args.toArray).run P w=.ok (.value v) w:=by
 unfold yg at h;split at h
 ·rename_i x y c
  split at h
  ·rename_i hc
   simp only[oi]at h;subst h;have:=run_callFunc_extern hf cG hb hn he #[.int .u64 x,.int .u64 y,.int .u64 c] w;rw[run_add64 x y c hc.1 hc.2.1 hc.2.2.1 hc.2.2.2]at this;exact this
  ·cases h
 ·cases h
theorem m8{P : Program}{g : FuncId}{fn : Func}(hf : P.funcs[g]? = some fn)(cG : (fn.name == "runtime.NumGoroutine") = false)(hb : fn.body.isNone = true)(hn : Extern.findNext fn = none)(he : Extern.find fn = some MQ)
  (args:List Value) (v:Value) (w:World) (h:uD args=some v):(callFunc g args.toArray).run P w=.ok (.value v) w:=by
 unfold uD at h;split at h
 ·rename_i x y b
  split at h
  ·rename_i hc
   simp only[oi]at h;subst h;have:=run_callFunc_extern hf cG hb hn he #[.int .u64 x,.int .u64 y,.int .u64 b] w;have key:(MQ #[.int .u64 x,.int .u64 y,.int .u64 b]).run P w=.ok (.tuple #[.int .u64 (Int.ofNat ((x.toNat+18446744073709551616-y.toNat-b.toNat) % 18446744073709551616)),.int .u64 (Int.ofNat (if x.toNat<y.toNat+b.toNat then 1 else 0))]) w:=by
    have vl:b=0\/b=1:=om
    rcases vl with rfl|rfl<;>rfl
   rw[key]at this;exact this
  ·cases h
 ·cases h
end Go.cL
namespace Go.cL
open Go.RowKit
def na(g0:FuncId)(F:bg):bg:=fun g args h=>
 bif Nat.beq g g0 && args.isEmpty then some (.bool true,h)else F g args h
theorem rN{g0:FuncId}{F:bg}{g:FuncId}{args:List Value}{h h':af}{v:Value}(hc:na g0 F g args h=some (v,h')) :
  (g=g0/\args=[]/\v=.bool true/\h'=h)\/F g args h=some (v,h'):=by
 unfold na at hc;cases hb:(Nat.beq g g0 && args.isEmpty)with
 |false=>rw[hb]at hc;exact .inr hc
 |true=>
  rw[hb]at hc;simp only[Bool.and_eq_true,List.isEmpty_iff]at hb;simp only[cond_true,oi,pj]at hc;exact .inl ⟨Nat.eq_of_beq_eq_true hb.1,hb.2,hc.1.symm,hc.2.symm⟩
theorem Good.grown {G : Nat → Option Loc} {h : af} {w w' : World} (hR : HR ⟨G, fun _ => none⟩ (iw h) w) (b : Below w.heap.size w w') : Good ⟨G, fun _ => none⟩ (iw h) w ⟨G, fun _ => none⟩ (iw h) w' := by
  have dV : ∀ id L, G id = some L → L.b < w.heap.size := fun id L hL => by
    obtain ⟨o, h1, _⟩ := hR.di id L hL
    exact (Array.getElem?_eq_some_iff.1 h1).1
  exact
    { hr :=
        { cS := hR.cS
          di := fun id L hL => by
            rw [b.block _ (dV id L hL)]; exact hR.di id L hL
          cH := fun id L b1 hL hm => by
            rw [b.block _ (dV id L hL)]; exact hR.cH id L b1 hL hm
          dj := hR.dj
          dX := (fun t L h => by cases h), dP := (fun t L h => by cases h), dZ := (fun t t' L L' h => by cases h), sep := (fun id t L L' _ h => by cases h) }
      mono := fun _ _ h => h
      next := Nat.le_refl _
      low := Nat.le_refl _
      size := b.size
      os := b.os
      tape := b.tape
      output := b.output
      fresh := fun id L h1 h2 => by rw [h2] at h1; cases h1
      cI := fun t L h1 => .inr ⟨t, L, h1, rfl⟩
      frame := fun k hk _ _ => b.block k hk }
theorem En{P : Program}{g0 : FuncId}{F : bg}{call : cF}(hc : dv P call){fn : Func}(hf : P.funcs[g0]? = some fn)(hb : fn.body.isSome = true)(cG : (fn.name == "runtime.NumGoroutine") = false)(hr : pR (call g0 [] kA) = true)(hF : dv P F) : dv P (na g0 F) := by
 intro g args h v h' FV hg G w aP hR hA;rcases rN FV with ⟨rfl,rfl,rfl,rfl⟩|FV
 ·left
  rw[hA.iS];refine⟨gZ hf hb cG,(GL hc hf hb cG hr w hg).mono ?_⟩;rintro e w' ⟨rfl,Ll⟩;exact⟨_,rfl,G,.flat _ rfl,.grown hR Ll,.refl _ _⟩
 ·exact hF g args h v h' FV hg G w aP hR hA
theorem z8{g0:FuncId}{F:bg}(hF:aY F):aY (na g0 F):=by
 intro g args h v h' hc;rcases rN hc with ⟨_,_,_,rfl⟩|hc
 ·exact .refl _ _
 ·exact hF g args h v h' hc
end Go.cL
namespace Go.cL
def nX(c c':cF):Prop:=∀g args h r,c g args h=some r->c' g args h=some r
structure Eo(r r':Rec):Prop where
 run:∀f nt c s x,r.run f nt c s=some x->r'.run f nt c s=some x
 loop:∀f nt c kn s x,r.loop f nt c kn s=some x->r'.loop f nt c kn s=some x
 call:nX r.call r'.call
variable{P:Program}{H:Hint}{F:bg}
theorem vv{c c':cF}(h:nX c c'){k:Call}{s:St}{x:Value×St}(hx:jF c k s=some x):jF c' k s=some x:=by
 unfold jF at hx ⊢;split at hx
 ·rename_i g args hg
  split at hx
  ·rename_i v h1 hr
   rw[h _ _ _ _ hr];exact hx
  ·cases hx
 ·cases hx
theorem JZ{c c':cF}(h:nX c c'){f:FuncId}{o:Oper}{s:St}{x:Value×St}(hx:rY P H c f o s=some x):rY P H c' f o s=some x:=by
 unfold rY at hx ⊢;split at hx
 ·exact vv h hx
 ·exact hx
theorem J3{c c':cF}(h:nX c c'){f:FuncId}{id tag:Nat}{o:Oper}{s:St}{x:Value×St}(hx:jA P H c f id tag o s=some x):jA P H c' f id tag o s=some x:=by
 unfold jA at hx ⊢;split at hx
 ·exact vv h hx
 ·exact hx
theorem qP{c c':cF}(h:nX c c'){f:FuncId}{nt:Nat}{ops:Array Oper}:∀(l:List Oper) (s s':St),lF P H c f nt ops l s=some s'->lF P H c' f nt ops l s=some s'
 | [],s,s',hx=>hx
 |o :: l,s,s',hx=>by
  simp only[lF]at hx ⊢;split at hx
  ·split at hx
   ·rename_i v s1 h1
    rw[JZ h h1];simp only[];split at hx
    ·exact qP h l _ s' hx
    ·cases hx
   ·cases hx
  ·split at hx
   ·exact qP h l _ s' hx
   ·cases hx
  ·cases hx
theorem qQ{c c':cF}(h:nX c c'){f:FuncId}{nt:Nat}{ops:Array Oper}{base aM:Nat}:∀(l:List Nat) (i:Nat) (s:St) (r:St×List (Nat×FP×Bool)),rr P H c f nt ops base aM l i s=some r->rr P H c' f nt ops base aM l i s=some r
 | [],i,s,r,hx=>hx
 |p :: l,i,s,r,hx=>by
  simp only[rr]at hx ⊢;split at hx
  ·cases hx
  ·split at hx
   ·split at hx
    ·rename_i v s1 h1
     rw[J3 h h1];simp only[];split at hx
     ·split at hx
      ·rename_i r' iv h2
       rw[qQ h l _ _ _ h2];exact hx
      ·cases hx
     ·cases hx
    ·cases hx
   ·split at hx
    ·split at hx
     ·rename_i r' iv h2
      rw[qQ h l _ _ _ h2];exact hx
     ·cases hx
    ·cases hx
   ·cases hx
theorem GM{c c':cF}(h:nX c c'){f:FuncId}{nt:Nat}{ops:Array Oper}{s s':St}(hx:rI P H c f nt ops s=some s'):rI P H c' f nt ops s=some s':=by
 unfold rI at hx ⊢;cases hd:nM ops (fS ops)with
 |false=>rw[hd]at hx;cases hx
 |true=>
  rw[hd]at hx;simp only[cond_true]at hx ⊢;split at hx
  ·rename_i r iv h1
   rw[qQ h _ _ _ _ h1];exact hx
  ·cases hx
theorem Ep{c c':cF}(h:nX c c'){f:FuncId}{nt:Nat}{x:Operand}{ps:Array Tmp}{assign body:Code}{s:St}{r:Exit×St}(hx:pB P c f nt x ps assign body s=some r):pB P c' f nt x ps assign body s=some r:=by
 unfold pB at hx ⊢;cases hn:(bE assign && bE body)with
 |false=>rw[hn]at hx;cases hx
 |true=>
  rw[hn]at hx;simp only[cond_true]at hx ⊢;split at hx
  ·rename_i g first captured he
   cases hb:(Nat.blt g aU && vY P g)with
   |false=>rw[hb]at hx;cases hx
   |true=>
    rw[hb]at hx;simp only[cond_true]at hx ⊢;split at hx
    ·rename_i v h2 hr
     simp only[h _ _ _ _ hr];exact hx
    ·cases hx
  ·cases hx
theorem Er{run run':FuncId->Nat->Code->St->Option (Exit×St)}(h:∀f nt c s x,run f nt c s=some x->run' f nt c s=some x){y:Nat}{args:List Value}{hp:af}{r:Value×af}(hx:pC run y args hp=some r):pC run' y args hp=some r:=by
 unfold pC at hx ⊢;split at hx
 ·rename_i nL f nt env ps assign body hm
  cases hb:(Nat.beq args.length ps.length && ps.all (fun t=>Nat.blt t nt) && bE assign && bE body)with
  |false=>rw[hb]at hx;cases hx
  |true=>
   rw[hb]at hx;simp only[cond_true]at hx ⊢;split at hx
   ·rename_i s1 h1
    simp only[h _ _ _ _ _ h1];split at hx
    ·rename_i sU f1 Po zQ Pp kS sV hm1
     split at hx
     ·rename_i s2 h2;simp only[h _ _ _ _ _ h2];exact hx
     ·rename_i s2 h2;simp only[h _ _ _ _ _ h2];exact hx
     ·rename_i id s2 h2;simp only[h _ _ _ _ _ h2];exact hx
     ·cases hx
    ·cases hx
   ·cases hx
 ·cases hx
theorem J4{r r':Rec}(h:Eo r r')(f:FuncId)(nt:Nat)(c:Code)(s:St)(x:Exit×St)(hx:nN P H r f nt c s=some x):nN P H r' f nt c s=some x:=by
 unfold nN at hx ⊢;split at hx
 ·exact hx
 ·exact hx
 ·exact hx
 ·rename_i a b
  skip
  split at hx
  ·rename_i s1 ha
   rw[h.run _ _ _ _ _ ha];exact h.run _ _ _ _ _ hx
  ·rename_i hn
   rw[h.run _ _ _ _ _ hx];obtain⟨e,s1⟩:=x;cases e<;>first|rfl|exact absurd hx (hn _)
 ·skip
  split at hx
  ·exact h.run _ _ _ _ _ hx
  ·cases hx
 ·rename_i id b
  skip
  split at hx
  ·rename_i pD s1 hb
   rw[h.run _ _ _ _ _ hb];exact hx
  ·rename_i hn
   rw[h.run _ _ _ _ _ hx];obtain⟨e,s1⟩:=x;cases e<;>first|rfl|exact absurd hx (hn _ _)
 ·exact h.loop _ _ _ _ _ _ hx
 ·rename_i id ops draw
  skip
  cases draw with
  |true=>
   simp only[cond_true]at hx ⊢;split at hx
   ·rename_i s1 h1
    rw[GM h.call h1];exact hx
   ·cases hx
  |false=>
   simp only[cond_false]at hx ⊢;split at hx
   ·rename_i s1 h1
    rw[qP h.call _ _ _ h1];exact hx
   ·cases hx
 ·exact Ep h.call hx
 ·cases hx
theorem GN{r r':Rec}(h:Eo r r')(f:FuncId)(nt:Nat)(c:Code)(kn:Nat)(s:St)(x:Exit×St)(hx:pE H r f nt c kn s=some x):pE H r' f nt c kn s=some x:=by
 unfold pE at hx ⊢;split at hx
 ·cases hx
 ·skip
  split at hx
  ·rename_i s2 hb
   rw[h.run _ _ _ _ _ hb];exact h.loop _ _ _ _ _ _ hx
  ·rename_i hn
   rw[h.run _ _ _ _ _ hx];obtain⟨e,s1⟩:=x;cases e<;>first|rfl|exact absurd hx (hn _)
theorem GO{r r':Rec}(h:Eo r r'):nX (oK P F r) (oK P F r'):=by
 intro g args hp x hx;unfold oK at hx ⊢;cases hy:Nat.ble aU g with
 |true=>rw[hy]at hx;exact Er h.run hx
 |false=>
 rw[hy]at hx;simp only[cond_false]at hx ⊢;split at hx
 ·exact hx
 ·skip
  split at hx
  ·split at hx
   ·skip
    split at hx
    ·rename_i s1 h1;rw[h.run _ _ _ _ _ h1];exact hx
    ·rename_i s1 h1;rw[h.run _ _ _ _ _ h1];exact hx
    ·cases hx
   ·cases hx
  ·cases hx
theorem nY:∀n,Eo (cE P H F n) (cE P H F (n+1))
 |0=>⟨fun f nt c s x h=>(by cases h),fun f nt c kn s x h=>(by cases h),fun g args h r hc=>(by cases hc)⟩
 |n+1=>⟨J4 (nY n),GN (nY n),GO (nY n)⟩
theorem ke{n m:Nat}(h:n<=m):Eo (cE P H F n) (cE P H F m):=by
 induction h with
 |refl=>exact⟨fun _ _ _ _ _ h=>h,fun _ _ _ _ _ _ h=>h,fun _ _ _ _ h=>h⟩
 |step _ ih=>
  have:=nY (P:=P) (H:=H) (F:=F) ‹Nat›;exact⟨fun f nt c s x h=>this.run _ _ _ _ _ (ih.run _ _ _ _ _ h),fun f nt c kn s x h=>this.loop _ _ _ _ _ _ (ih.loop _ _ _ _ _ _ h),fun g args h r hc=>this.call _ _ _ _ (ih.call _ _ _ _ hc)⟩
def pS(P:Program)(H:Hint)(F:bg)(f:FuncId)(nt:Nat)(c:Code)(s:St)(x:Exit)(s':St):Prop:=∃n,(cE P H F n).run f nt c s=some (x,s')
def Loop(P:Program)(H:Hint)(F:bg)(f:FuncId)(nt:Nat)(c:Code)(kn:Nat)(s:St)(x:Exit)(s':St):Prop:=∃n,(cE P H F n).loop f nt c kn s=some (x,s')
def Pu(P:Program)(H:Hint)(F:bg)(g:FuncId)(args:List Value)(h:af)(v:Value)(h':af):Prop:=∃n,(cE P H F n).call g args h=some (v,h')
theorem pS.skip{f:FuncId}{nt:Nat}{s:St}:pS P H F f nt .skip s .normal s:=⟨1,rfl⟩
theorem pS.ret{f:FuncId}{nt:Nat}{s:St}:pS P H F f nt .ret s .ret s:=⟨1,rfl⟩
theorem pS.exit{f:FuncId}{nt:Nat}{s:St}{id:Nat}:pS P H F f nt (.exit id) s (.exit id) s:=⟨1,rfl⟩
theorem pS.seq{f:FuncId}{nt:Nat}{a b:Code}{s s1 s2:St}{x:Exit}(h1:pS P H F f nt a s .normal s1)(h2:pS P H F f nt b s1 x s2):pS P H F f nt (.seq a b) s x s2:=by
 obtain⟨n,h1⟩:=h1;obtain⟨m,h2⟩:=h2;refine⟨max n m+1,?_⟩;show nN P H (cE P H F (max n m)) f nt (.seq a b) s=_;unfold nN;simp only[(ke (Nat.le_max_left n m)).run _ _ _ _ _ h1];exact(ke (Nat.le_max_right n m)).run _ _ _ _ _ h2
theorem pS.TX{f:FuncId}{nt:Nat}{a b:Code}{s s1:St}{x:Exit}(h1:pS P H F f nt a s x s1)(hx:x≠.normal):pS P H F f nt (.seq a b) s x s1:=by
 obtain⟨n,h1⟩:=h1;refine⟨n+1,?_⟩;show nN P H (cE P H F n) f nt (.seq a b) s=_;unfold nN;simp only[h1];cases x<;>first|rfl|exact absurd rfl hx
theorem pS.cond{f:FuncId}{nt:Nat}{y:Operand}{a b:Code}{s s1:St}{x:Exit}{t:Bool}(hc:bL s y=some (.bool t))(h:pS P H F f nt (bif t then a else b) s x s1):pS P H F f nt (.cond y a b) s x s1:=by
 obtain⟨n,h⟩:=h;refine⟨n+1,?_⟩;show nN P H (cE P H F n) f nt (.cond y a b) s=_;unfold nN;simp only[hc];exact h
theorem pS.block{f:FuncId}{nt id:Nat}{b:Code}{s s1:St}{x:Exit}(h:pS P H F f nt b s x s1):pS P H F f nt (.block id b) s (match x with | .exit pD=>bif Nat.beq pD id then .normal else .exit pD|x=>x) s1:=by
 obtain⟨n,h⟩:=h;refine⟨n+1,?_⟩;show nN P H (cE P H F n) f nt (.block id b) s=_;unfold nN;simp only[h];cases x with
 |exit pD=>simp only[];cases Nat.beq pD id<;>rfl
 |_=>rfl
theorem pS.loop{f:FuncId}{nt:Nat}{b:Code}{s s1:St}{x:Exit}(h:Loop P H F f nt b s.kn s x s1):pS P H F f nt (.loop b) s x s1:=by
 obtain⟨n,h⟩:=h;exact⟨n+1,h⟩
theorem Pu.body{g:FuncId}{fn:Func}{c:Code}{args:List Value}{h h':af}{v:Value}{x:Exit}{s':St}(hF:F g args h=none)(hg:g<aU)(hf:P.funcs[g]?=some fn)(hb:fn.body=some c)
  (hr:pS P H F g fn.ntmps c { env:=fI args 0 .leaf,kn:=0,K:=.leaf,h:=h } x s') (hx:x=.normal\/x=.ret) (he:vP P fn s'=some (v,h')):Pu P H F g args h v h':=by
 obtain⟨n,hr⟩:=hr;refine⟨n+1,?_⟩;show oK P F (cE P H F n) g args h=_;unfold oK;simp only[show Nat.ble aU g=false from eQ hg,cond_false,hF,hf,hb,hr];rcases hx with rfl|rfl<;>exact he
theorem Pu.ok(hm : P.follows .mixedOrders = true)(hF : dv P F)(Sj : aY F)(cG : ∀ (g : FuncId) (fn : Func), P.funcs[g]? = some fn → (fn.name == "runtime.NumGoroutine") = false){g : FuncId}{args : List Value}{h h' : af}{v : Value}(hr : Pu P H F g args h v h')(hg : g < aU){G : Nat → Option Loc}{w : World}{aP : List Value}
  (hR:HR ⟨G,fun _=>none⟩ (iw h) w) (hA:fG G args aP) :
  s8 P g aP.toArray w (fun c w'=>∃G',VG G' v c/\Good ⟨G,fun _=>none⟩ (iw h) w ⟨G',fun _=>none⟩ (iw h') w'/\fD (h.next<=·) G G'):=by
 obtain⟨n,hr⟩:=hr;exact(tn hm hF Sj cG n).2.2.1 g args h v h' hr hg G w aP hR hA
