import Derived.Test.YtdpbiegfljmhmaaSimC
import Derived.Below
import Derived.Laws.Externs
set_option linter.unusedSimpArgs false
set_option linter.unusedVariables false
namespace Go.Sim
open Go.RowKit
def iW:af:={ next:=0,low:=0,m:=.leaf }
def ni:Option (Value×af)->Bool
 |some (.bool true,_)=>true
 |_=>false
theorem vH{r:Option (Value×af)}(h:ni r=true):∃h',r=some (.bool true,h'):=by
 unfold ni at h;split at h
 ·exact⟨_,rfl⟩
 ·cases h
theorem pF.calls{P : Program}{g : FuncId}{fn : Func}{args : Array Value}{w : World}{R : Value → World → Prop}(h : pF P g args w R)(hf : P.funcs[g]? = some fn)(hb : fn.body.isSome = true)(hname : (fn.name == "runtime.NumGoroutine") = false) :
  Calls P g args w (fun e w'=>∃c,e=.returned c/\R c w'):=by
 rcases h with ⟨_,h⟩|⟨c,w',h,_⟩
 ·exact h
 ·rw[fE hf hb hname]at h;simp at h
theorem AE{P : Program}{call : bS}(hc : cU P call){g : FuncId}{fn : Func}(hf : P.funcs[g]? = some fn)(hb : fn.body.isSome = true)(hname : (fn.name == "runtime.NumGoroutine") = false)(h : ni (call g [] iW) = true)(w : World)(hg : g < aN := by decide) :
  Calls P g #[] w fun e w'=>e=.returned (.bool true)/\Below w.heap.size w w':=by
 obtain⟨h',he⟩:=vH h;have hR:HR ⟨fun _=>none,fun _=>none⟩ (fV iW) w:=
  { gdom:=(fun id L h=>by cases h),gblk:=(fun id L h=>by cases h),gcon:=(fun id L b h=>by cases h),ginj:=(fun id id' L L' b b' h=>by cases h),ldom:=(fun t L h=>by cases h),lcon:=(fun t L h=>by cases h),linj:=(fun t t' L L' h=>by cases h),sep:=(fun id t L L' h=>by cases h) }
 have hd:=hc g [] iW _ h' he hg (fun _=>none) w [] hR (dK.nil _);refine(hd.calls hf hb hname).mono ?_;rintro e w' ⟨c,rfl,G',hv,hG,_⟩;rw[hv.bool];refine⟨rfl,hG.os,hG.tape,hG.output,hG.size,fun k hk=>hG.frame k hk (fun id L h=>by cases h) (fun t L h=>by cases h)⟩
end Go.Sim
namespace Go.Sim
theorem dK.flat_eq{g:Nat->Option cN}:∀{l l':List Value},dK g l l'->l.all aU=true->l'=l
 | [],l',h,_=>h.nil_right
 |u :: l,l',h,hf=>by
  obtain⟨v,l2,rfl,hv,hl⟩:=h.head;simp only[List.all_cons,Bool.and_eq_true]at hf;have e1:=dK.flat_eq hl hf.2;have e2:v=u:=by
   have hu:=hf.1;cases hv with
   |flat _ _=>rfl
   |junk=>simp[aU]at hu
   |ptr=>simp[aU]at hu
   |sliceX=>simp[aU]at hu
   |sliceI=>simp[aU]at hu
   |sliceE=>simp[aU]at hu
   |sliceZ=>simp[aU]at hu
   |mapR=>simp[aU]at hu
   |yield=>simp[aU]at hu
   |func=>simp[aU]at hu
   |agg=>simp[aU]at hu
   |tuple=>simp[aU]at hu
  rw[e1,e2]
def za:Value->Bool
 | .tuple vs=>vs.toList.all aU
 |v=>aU v
theorem VG.of_flatT{g:Nat->Option cN}{v:Value}(h:za v=true):VG g v v:=by
 unfold za at h;split at h
 ·exact .tuple _ _ rfl (dK.flat h).2
 ·exact .flat _ h
def jR(g0:FuncId)(f:List Value->Option Value)(F:aM):aM:=fun g args h=>
 bif Nat.beq g g0 && args.all aU then
  match f args with
  |some v=>bif za v then some (v,h)else none
  |none=>none
 else F g args h
theorem rC{g0:FuncId}{f:List Value->Option Value}{F:aM}{g:FuncId}{args:List Value}{h h':af}{v:Value}(hc:jR g0 f F g args h=some (v,h')) :
  (g=g0/\args.all aU=true/\f args=some v/\za v=true/\h'=h)\/F g args h=some (v,h'):=by
 unfold jR at hc;cases hb:(Nat.beq g g0 && args.all aU)with
 |false=>rw[hb]at hc;exact .inr hc
 |true=>
  rw[hb]at hc;simp only[Bool.and_eq_true]at hb;simp only[cond_true]at hc;split at hc
  ·rename_i u hu
   cases hf:za u with
   |false=>rw[hf]at hc;simp at hc
   |true=>
    rw[hf]at hc;simp only[cond_true,oi,pj]at hc;obtain⟨rfl,rfl⟩:=hc;exact .inl ⟨Nat.eq_of_beq_eq_true hb.1,hb.2,hu,hf,rfl⟩
  ·cases hc
theorem wD{P:Program}{g0:FuncId}{f:List Value->Option Value}{F:aM}(hf:∀(args:List Value) (v:Value) (w:World),f args=some v->(callFunc g0 args.toArray).run P w=.ok (.value v) w)(hF:cU P F):cU P (jR g0 f F):=by
 intro g args h v h' hc hg G w cargs hR hA;rcases rC hc with ⟨rfl,h1,h2,h3,rfl⟩|hc
 ·right
  rw[hA.flat_eq h1];exact⟨v,w,hf args v w h2,G,.of_flatT h3,.refl hR,.refl _ _⟩
 ·exact hF g args h v h' hc hg G w cargs hR hA
theorem sd{g0:FuncId}{f:List Value->Option Value}{F:aM}(hF:aP F):aP (jR g0 f F):=by
 intro g args h v h' hc;rcases rC hc with ⟨_,_,_,_,rfl⟩|hc
 ·exact .refl _ _
 ·exact hF g args h v h' hc
def uX:List Value->Option Value
 | [.int .u64 x,.int .u64 y,.int .u64 c]=>if 0<=x/\0<=y/\0<=c/\c<=1 then some (.tuple #[.int .u64 ((x+y+c) % 18446744073709551616),.int .u64 ((x+y+c) / 18446744073709551616)])else none
 |_=>none
def G7:Array Value->Sem Value:=fun args=>do
 let (x, y, b) ← Extern.MathBitsCarry.three "Sub64" args
 pure (Extern.MathBitsCarry.pair ((x+Extern.MathBitsCarry.m64-y-b) % Extern.MathBitsCarry.m64) (if x<y+b then 1 else 0))
def qX:List Value->Option Value
 | [.int .u64 x,.int .u64 y,.int .u64 b]=>if 0<=x/\0<=y/\0<=b/\b<=1 then some (.tuple #[.int .u64 (Int.ofNat ((x.toNat+18446744073709551616-y.toNat-b.toNat) % 18446744073709551616)),.int .u64 (Int.ofNat (if x.toNat<y.toNat+b.toNat then 1 else 0))])else none
 |_=>none
theorem pV{P : Program}{g : FuncId}{fn : Func}(hf : P.funcs[g]? = some fn)(hname : (fn.name == "runtime.NumGoroutine") = false)(hb : fn.body.isNone = true)(hn : Extern.findNext fn = none)(he : Extern.find fn = some add64Entry)
  (args:List Value) (v:Value) (w:World) (h:uX args=some v):(callFunc g args.toArray).run P w=.ok (.value v) w:=by
 unfold uX at h;split at h
 ·rename_i x y c
  split at h
  ·rename_i hc
   simp only[oi]at h;subst h;have:=run_callFunc_extern hf hname hb hn he #[.int .u64 x,.int .u64 y,.int .u64 c] w;rw[run_add64 x y c hc.1 hc.2.1 hc.2.2.1 hc.2.2.2]at this;exact this
  ·cases h
 ·cases h
theorem kM{P : Program}{g : FuncId}{fn : Func}(hf : P.funcs[g]? = some fn)(hname : (fn.name == "runtime.NumGoroutine") = false)(hb : fn.body.isNone = true)(hn : Extern.findNext fn = none)(he : Extern.find fn = some G7)
  (args:List Value) (v:Value) (w:World) (h:qX args=some v):(callFunc g args.toArray).run P w=.ok (.value v) w:=by
 unfold qX at h;split at h
 ·rename_i x y b
  split at h
  ·rename_i hc
   simp only[oi]at h;subst h;have:=run_callFunc_extern hf hname hb hn he #[.int .u64 x,.int .u64 y,.int .u64 b] w;have key:(G7 #[.int .u64 x,.int .u64 y,.int .u64 b]).run P w=.ok (.tuple #[.int .u64 (Int.ofNat ((x.toNat+18446744073709551616-y.toNat-b.toNat) % 18446744073709551616)),.int .u64 (Int.ofNat (if x.toNat<y.toNat+b.toNat then 1 else 0))]) w:=by
    have hb':b=0\/b=1:=by omega
    rcases hb' with rfl|rfl<;>rfl
   rw[key]at this;exact this
  ·cases h
 ·cases h
end Go.Sim
namespace Go.Sim
open Go.RowKit
def kF(g0:FuncId)(F:aM):aM:=fun g args h=>
 bif Nat.beq g g0 && args.isEmpty then some (.bool true,h)else F g args h
theorem oL{g0:FuncId}{F:aM}{g:FuncId}{args:List Value}{h h':af}{v:Value}(hc:kF g0 F g args h=some (v,h')) :
  (g=g0/\args=[]/\v=.bool true/\h'=h)\/F g args h=some (v,h'):=by
 unfold kF at hc;cases hb:(Nat.beq g g0 && args.isEmpty)with
 |false=>rw[hb]at hc;exact .inr hc
 |true=>
  rw[hb]at hc;simp only[Bool.and_eq_true,List.isEmpty_iff]at hb;simp only[cond_true,oi,pj]at hc;exact .inl ⟨Nat.eq_of_beq_eq_true hb.1,hb.2,hc.1.symm,hc.2.symm⟩
theorem aQ.grown {G : Nat → Option cN} {h : af} {w w' : World} (hR : HR ⟨G, fun _ => none⟩ (fV h) w) (b : Below w.heap.size w w') : aQ ⟨G, fun _ => none⟩ (fV h) w ⟨G, fun _ => none⟩ (fV h) w' := by
  have hlt : ∀ id L, G id = some L → L.b < w.heap.size := fun id L hL => by
    obtain ⟨o, h1, _⟩ := hR.gblk id L hL
    exact (Array.getElem?_eq_some_iff.1 h1).1
  exact
    { hr :=
        { gdom := hR.gdom
          gblk := fun id L hL => by
            rw [b.block _ (hlt id L hL)]; exact hR.gblk id L hL
          gcon := fun id L b1 hL hm => by
            rw [b.block _ (hlt id L hL)]; exact hR.gcon id L b1 hL hm
          ginj := hR.ginj
          ldom := (fun t L h => by cases h), lcon := (fun t L h => by cases h), linj := (fun t t' L L' h => by cases h), sep := (fun id t L L' _ h => by cases h) }
      mono := fun _ _ h => h
      next := Nat.le_refl _
      low := Nat.le_refl _
      size := b.size
      os := b.os
      tape := b.tape
      output := b.output
      fresh := fun id L h1 h2 => by rw [h2] at h1; cases h1
      lfresh := fun t L h1 => .inr ⟨t, L, h1, rfl⟩
      frame := fun k hk _ _ => b.block k hk }
theorem Ab{P : Program}{g0 : FuncId}{F : aM}{call : bS}(hc : cU P call){fn : Func}(hf : P.funcs[g0]? = some fn)(hb : fn.body.isSome = true)(hname : (fn.name == "runtime.NumGoroutine") = false)(hr : ni (call g0 [] iW) = true)(hF : cU P F) : cU P (kF g0 F) := by
 intro g args h v h' hc' hg G w cargs hR hA;rcases oL hc' with ⟨rfl,rfl,rfl,rfl⟩|hc'
 ·left
  rw[hA.nil_right];refine⟨fE hf hb hname,(AE hc hf hb hname hr w hg).mono ?_⟩;rintro e w' ⟨rfl,bel⟩;exact⟨_,rfl,G,.flat _ rfl,.grown hR bel,.refl _ _⟩
 ·exact hF g args h v h' hc' hg G w cargs hR hA
theorem vO{g0:FuncId}{F:aM}(hF:aP F):aP (kF g0 F):=by
 intro g args h v h' hc;rcases oL hc with ⟨_,_,_,rfl⟩|hc
 ·exact .refl _ _
 ·exact hF g args h v h' hc
end Go.Sim
namespace Go.Sim
def lM(c c':bS):Prop:=∀g args h r,c g args h=some r->c' g args h=some r
structure zR(r r':EM):Prop where
 run:∀f nt c s x,r.run f nt c s=some x->r'.run f nt c s=some x
 loop:∀f nt c kn s x,r.loop f nt c kn s=some x->r'.loop f nt c kn s=some x
 call:lM r.call r'.call
variable{P:Program}{H:bg}{F:aM}
theorem rQ{c c':bS}(h:lM c c'){k:Call}{s:St}{x:Value×St}(hx:iz c k s=some x):iz c' k s=some x:=by
 unfold iz at hx ⊢;split at hx
 ·rename_i g args hg
  split at hx
  ·rename_i v h1 hr
   rw[h _ _ _ _ hr];exact hx
  ·cases hx
 ·cases hx
theorem Em{c c':bS}(h:lM c c'){f:FuncId}{o:Oper}{s:St}{x:Value×St}(hx:o7 P H c f o s=some x):o7 P H c' f o s=some x:=by
 unfold o7 at hx ⊢;split at hx
 ·exact rQ h hx
 ·exact hx
theorem Ec{c c':bS}(h:lM c c'){f:FuncId}{id tag:Nat}{o:Oper}{s:St}{x:Value×St}(hx:iv P H c f id tag o s=some x):iv P H c' f id tag o s=some x:=by
 unfold iv at hx ⊢;split at hx
 ·exact rQ h hx
 ·exact hx
theorem nR{c c':bS}(h:lM c c'){f:FuncId}{nt:Nat}{ops:Array Oper}:∀(l:List Oper) (s s':St),jz P H c f nt ops l s=some s'->jz P H c' f nt ops l s=some s'
 | [],s,s',hx=>hx
 |o :: l,s,s',hx=>by
  simp only[jz]at hx ⊢;split at hx
  ·split at hx
   ·rename_i v s1 h1
    rw[Em h h1];simp only[];split at hx
    ·exact nR h l _ s' hx
    ·cases hx
   ·cases hx
  ·split at hx
   ·exact nR h l _ s' hx
   ·cases hx
  ·cases hx
theorem n8{c c':bS}(h:lM c c'){f:FuncId}{nt:Nat}{ops:Array Oper}{base kbase:Nat}:∀(l:List Nat) (i:Nat) (s:St) (r:St×List (Nat×FP×Bool)),oE P H c f nt ops base kbase l i s=some r->oE P H c' f nt ops base kbase l i s=some r
 | [],i,s,r,hx=>hx
 |p :: l,i,s,r,hx=>by
  simp only[oE]at hx ⊢;split at hx
  ·cases hx
  ·split at hx
   ·split at hx
    ·rename_i v s1 h1
     rw[Ec h h1];simp only[];split at hx
     ·split at hx
      ·rename_i r' fps h2
       rw[n8 h l _ _ _ h2];exact hx
      ·cases hx
     ·cases hx
    ·cases hx
   ·split at hx
    ·split at hx
     ·rename_i r' fps h2
      rw[n8 h l _ _ _ h2];exact hx
     ·cases hx
    ·cases hx
   ·cases hx
theorem BP{c c':bS}(h:lM c c'){f:FuncId}{nt:Nat}{ops:Array Oper}{s s':St}(hx:oH P H c f nt ops s=some s'):oH P H c' f nt ops s=some s':=by
 unfold oH at hx ⊢;cases hd:lj ops (dX ops)with
 |false=>rw[hd]at hx;cases hx
 |true=>
  rw[hd]at hx;simp only[cond_true]at hx ⊢;split at hx
  ·rename_i r fps h1
   rw[n8 h _ _ _ _ h1];exact hx
  ·cases hx
theorem zK{c c':bS}(h:lM c c'){f:FuncId}{nt:Nat}{x:Operand}{ps:Array Tmp}{assign body:Code}{s:St}{r:Exit×St}(hx:nO P c f nt x ps assign body s=some r):nO P c' f nt x ps assign body s=some r:=by
 unfold nO at hx ⊢;cases hn:(aY assign && aY body)with
 |false=>rw[hn]at hx;cases hx
 |true=>
  rw[hn]at hx;simp only[cond_true]at hx ⊢;split at hx
  ·rename_i g first captured he
   cases hb:(Nat.blt g aN && sQ P g)with
   |false=>rw[hb]at hx;cases hx
   |true=>
    rw[hb]at hx;simp only[cond_true]at hx ⊢;split at hx
    ·rename_i v h2 hr
     simp only[h _ _ _ _ hr];exact hx
    ·cases hx
  ·cases hx
theorem y6{run run':FuncId->Nat->Code->St->Option (Exit×St)}(h:∀f nt c s x,run f nt c s=some x->run' f nt c s=some x){y:Nat}{args:List Value}{hp:af}{r:Value×af}(hx:nu run y args hp=some r):nu run' y args hp=some r:=by
 unfold nu at hx ⊢;split at hx
 ·rename_i pend f nt env ps assign body hm
  cases hb:(Nat.beq args.length ps.length && ps.all (fun t=>Nat.blt t nt) && aY assign && aY body)with
  |false=>rw[hb]at hx;cases hx
  |true=>
   rw[hb]at hx;simp only[cond_true]at hx ⊢;split at hx
   ·rename_i s1 h1
    simp only[h _ _ _ _ _ h1];split at hx
    ·rename_i pend1 f1 nt1 env1 ps1 assign1 body1 hm1
     split at hx
     ·rename_i s2 h2;simp only[h _ _ _ _ _ h2];exact hx
     ·rename_i s2 h2;simp only[h _ _ _ _ _ h2];exact hx
     ·rename_i id s2 h2;simp only[h _ _ _ _ _ h2];exact hx
     ·cases hx
    ·cases hx
   ·cases hx
 ·cases hx
theorem Ej{r r':EM}(h:zR r r')(f:FuncId)(nt:Nat)(c:Code)(s:St)(x:Exit×St)(hx:li P H r f nt c s=some x):li P H r' f nt c s=some x:=by
 unfold li at hx ⊢;split at hx
 ·exact hx
 ·exact hx
 ·exact hx
 ·rename_i a b
  skip
  split at hx
  ·rename_i s1 ha
   rw[h.run _ _ _ _ _ ha];exact h.run _ _ _ _ _ hx
  ·rename_i hn
   rw[h.run _ _ _ _ _ hx];obtain⟨e,s1⟩:=x;cases e<;>first|rfl|exact absurd hx (hn _)
 ·skip
  split at hx
  ·exact h.run _ _ _ _ _ hx
  ·cases hx
 ·rename_i id b
  skip
  split at hx
  ·rename_i id' s1 hb
   rw[h.run _ _ _ _ _ hb];exact hx
  ·rename_i hn
   rw[h.run _ _ _ _ _ hx];obtain⟨e,s1⟩:=x;cases e<;>first|rfl|exact absurd hx (hn _ _)
 ·exact h.loop _ _ _ _ _ _ hx
 ·rename_i id ops draw
  skip
  cases draw with
  |true=>
   simp only[cond_true]at hx ⊢;split at hx
   ·rename_i s1 h1
    rw[BP h.call h1];exact hx
   ·cases hx
  |false=>
   simp only[cond_false]at hx ⊢;split at hx
   ·rename_i s1 h1
    rw[nR h.call _ _ _ h1];exact hx
   ·cases hx
 ·exact zK h.call hx
 ·cases hx
theorem Bl{r r':EM}(h:zR r r')(f:FuncId)(nt:Nat)(c:Code)(kn:Nat)(s:St)(x:Exit×St)(hx:na H r f nt c kn s=some x):na H r' f nt c kn s=some x:=by
 unfold na at hx ⊢;split at hx
 ·cases hx
 ·skip
  split at hx
  ·rename_i s2 hb
   rw[h.run _ _ _ _ _ hb];exact h.loop _ _ _ _ _ _ hx
  ·rename_i hn
   rw[h.run _ _ _ _ _ hx];obtain⟨e,s1⟩:=x;cases e<;>first|rfl|exact absurd hx (hn _)
theorem BT{r r':EM}(h:zR r r'):lM (mA P F r) (mA P F r'):=by
 intro g args hp x hx;unfold mA at hx ⊢;cases hy:Nat.ble aN g with
 |true=>rw[hy]at hx;exact y6 h.run hx
 |false=>
 rw[hy]at hx;simp only[cond_false]at hx ⊢;split at hx
 ·exact hx
 ·skip
  split at hx
  ·split at hx
   ·skip
    split at hx
    ·rename_i s1 h1;rw[h.run _ _ _ _ _ h1];exact hx
    ·rename_i s1 h1;rw[h.run _ _ _ _ _ h1];exact hx
    ·cases hx
   ·cases hx
  ·cases hx
theorem lS:∀n,zR (bR P H F n) (bR P H F (n+1))
 |0=>⟨fun f nt c s x h=>(by cases h),fun f nt c kn s x h=>(by cases h),fun g args h r hc=>(by cases hc)⟩
 |n+1=>⟨Ej (lS n),Bl (lS n),BT (lS n)⟩
theorem iM{n m:Nat}(h:n<=m):zR (bR P H F n) (bR P H F m):=by
 induction h with
 |refl=>exact⟨fun _ _ _ _ _ h=>h,fun _ _ _ _ _ _ h=>h,fun _ _ _ _ h=>h⟩
 |step _ ih=>
  have:=lS (P:=P) (H:=H) (F:=F) ‹Nat›;exact⟨fun f nt c s x h=>this.run _ _ _ _ _ (ih.run _ _ _ _ _ h),fun f nt c kn s x h=>this.loop _ _ _ _ _ _ (ih.loop _ _ _ _ _ _ h),fun g args h r hc=>this.call _ _ _ _ (ih.call _ _ _ _ hc)⟩
def mX(P:Program)(H:bg)(F:aM)(f:FuncId)(nt:Nat)(c:Code)(s:St)(x:Exit)(s':St):Prop:=∃n,(bR P H F n).run f nt c s=some (x,s')
def Loop(P:Program)(H:bg)(F:aM)(f:FuncId)(nt:Nat)(c:Code)(kn:Nat)(s:St)(x:Exit)(s':St):Prop:=∃n,(bR P H F n).loop f nt c kn s=some (x,s')
def Hy(P:Program)(H:bg)(F:aM)(g:FuncId)(args:List Value)(h:af)(v:Value)(h':af):Prop:=∃n,(bR P H F n).call g args h=some (v,h')
theorem mX.skip{f:FuncId}{nt:Nat}{s:St}:mX P H F f nt .skip s .normal s:=⟨1,rfl⟩
theorem mX.ret{f:FuncId}{nt:Nat}{s:St}:mX P H F f nt .ret s .ret s:=⟨1,rfl⟩
theorem mX.exit{f:FuncId}{nt:Nat}{s:St}{id:Nat}:mX P H F f nt (.exit id) s (.exit id) s:=⟨1,rfl⟩
theorem mX.seq{f:FuncId}{nt:Nat}{a b:Code}{s s1 s2:St}{x:Exit}(h1:mX P H F f nt a s .normal s1)(h2:mX P H F f nt b s1 x s2):mX P H F f nt (.seq a b) s x s2:=by
 obtain⟨n,h1⟩:=h1;obtain⟨m,h2⟩:=h2;refine⟨max n m+1,?_⟩;show li P H (bR P H F (max n m)) f nt (.seq a b) s=_;unfold li;simp only[(iM (Nat.le_max_left n m)).run _ _ _ _ _ h1];exact(iM (Nat.le_max_right n m)).run _ _ _ _ _ h2
theorem mX.seqOut{f:FuncId}{nt:Nat}{a b:Code}{s s1:St}{x:Exit}(h1:mX P H F f nt a s x s1)(hx:x≠.normal):mX P H F f nt (.seq a b) s x s1:=by
 obtain⟨n,h1⟩:=h1;refine⟨n+1,?_⟩;show li P H (bR P H F n) f nt (.seq a b) s=_;unfold li;simp only[h1];cases x<;>first|rfl|exact absurd rfl hx
theorem mX.cond{f:FuncId}{nt:Nat}{y:Operand}{a b:Code}{s s1:St}{x:Exit}{t:Bool}(hc:bq s y=some (.bool t))(h:mX P H F f nt (bif t then a else b) s x s1):mX P H F f nt (.cond y a b) s x s1:=by
 obtain⟨n,h⟩:=h;refine⟨n+1,?_⟩;show li P H (bR P H F n) f nt (.cond y a b) s=_;unfold li;simp only[hc];exact h
theorem mX.block{f:FuncId}{nt id:Nat}{b:Code}{s s1:St}{x:Exit}(h:mX P H F f nt b s x s1):mX P H F f nt (.block id b) s (match x with | .exit id'=>bif Nat.beq id' id then .normal else .exit id'|x=>x) s1:=by
 obtain⟨n,h⟩:=h;refine⟨n+1,?_⟩;show li P H (bR P H F n) f nt (.block id b) s=_;unfold li;simp only[h];cases x with
 |exit id'=>simp only[];cases Nat.beq id' id<;>rfl
 |_=>rfl
theorem mX.loop{f:FuncId}{nt:Nat}{b:Code}{s s1:St}{x:Exit}(h:Loop P H F f nt b s.kn s x s1):mX P H F f nt (.loop b) s x s1:=by
 obtain⟨n,h⟩:=h;exact⟨n+1,h⟩
theorem Hy.body{g:FuncId}{fn:Func}{c:Code}{args:List Value}{h h':af}{v:Value}{x:Exit}{s':St}(hF:F g args h=none)(hg:g<aN)(hf:P.funcs[g]?=some fn)(hb:fn.body=some c)
  (hr:mX P H F g fn.ntmps c { env:=dN args 0 .leaf,kn:=0,K:=.leaf,h:=h } x s') (hx:x=.normal\/x=.ret) (he:sj P fn s'=some (v,h')):Hy P H F g args h v h':=by
 obtain⟨n,hr⟩:=hr;refine⟨n+1,?_⟩;show mA P F (bR P H F n) g args h=_;unfold mA;simp only[show Nat.ble aN g=false from dl hg,cond_false,hF,hf,hb,hr];rcases hx with rfl|rfl<;>exact he
theorem Hy.ok(hm : P.follows .mixedOrders = true)(hF : cU P F)(hFk : aP F)(hname : ∀ (g : FuncId) (fn : Func), P.funcs[g]? = some fn → (fn.name == "runtime.NumGoroutine") = false){g : FuncId}{args : List Value}{h h' : af}{v : Value}(hr : Hy P H F g args h v h')(hg : g < aN){G : Nat → Option cN}{w : World}{cargs : List Value}
  (hR:HR ⟨G,fun _=>none⟩ (fV h) w) (hA:dK G args cargs) :
  pF P g cargs.toArray w (fun c w'=>∃G',VG G' v c/\aQ ⟨G,fun _=>none⟩ (fV h) w ⟨G',fun _=>none⟩ (fV h') w'/\dI (h.next<=·) G G'):=by
 obtain⟨n,hr⟩:=hr;exact(pW hm hF hFk hname n).2.2.1 g args h v h' hr hg G w cargs hR hA
