import Derived.Test.YtdpbiegfljmhmaaSimC
import Derived.Below
import Derived.Laws.Externs
set_option linter.unusedSimpArgs false
set_option linter.unusedVariables false
namespace Go.Sim
open Go.RowKit
def emptyH:AHeap:={ next:=0,low:=0,m:=.leaf }
def saysTrue:Option (Value×AHeap)->Bool
 |some (.bool true,_)=>true
 |_=>false
theorem saysTrue_spec{r:Option (Value×AHeap)}(h:saysTrue r=true):∃h',r=some (.bool true,h'):=by
 unfold saysTrue at h;split at h
 ·exact⟨_,rfl⟩
 ·cases h
theorem Does.calls{P : Program}{g : FuncId}{fn : Func}{args : Array Value}{w : World}{R : Value → World → Prop}(h : Does P g args w R)(hf : P.funcs[g]? = some fn)(hb : fn.body.isSome = true)(hname : (fn.name == "runtime.NumGoroutine") = false) :
  Calls P g args w (fun e w'=>∃c,e=.returned c/\R c w'):=by
 rcases h with ⟨_,h⟩|⟨c,w',h,_⟩
 ·exact h
 ·rw[callFunc_enter hf hb hname]at h;simp at h
theorem closed_law{P : Program}{call : CallT}(hc : CallOK P call){g : FuncId}{fn : Func}(hf : P.funcs[g]? = some fn)(hb : fn.body.isSome = true)(hname : (fn.name == "runtime.NumGoroutine") = false)(h : saysTrue (call g [] emptyH) = true)(w : World)(hg : g < yieldBase := by decide) :
  Calls P g #[] w fun e w'=>e=.returned (.bool true)/\Below w.heap.size w w':=by
 obtain⟨h',he⟩:=saysTrue_spec h;have hR:HR ⟨fun _=>none,fun _=>none⟩ (St0 emptyH) w:=
  { gdom:=(fun id L h=>by cases h),gblk:=(fun id L h=>by cases h),gcon:=(fun id L b h=>by cases h),ginj:=(fun id id' L L' b b' h=>by cases h),ldom:=(fun t L h=>by cases h),lcon:=(fun t L h=>by cases h),linj:=(fun t t' L L' h=>by cases h),sep:=(fun id t L L' h=>by cases h) }
 have hd:=hc g [] emptyH _ h' he hg (fun _=>none) w [] hR (VGs.nil _);refine(hd.calls hf hb hname).mono ?_;rintro e w' ⟨c,rfl,G',hv,hG,_⟩;rw[hv.bool];refine⟨rfl,hG.os,hG.tape,hG.output,hG.size,fun k hk=>hG.frame k hk (fun id L h=>by cases h) (fun t L h=>by cases h)⟩
end Go.Sim
namespace Go.Sim
theorem VGs.flat_eq{g:Nat->Option Loc}:∀{l l':List Value},VGs g l l'->l.all flat1=true->l'=l
 | [],l',h,_=>h.nil_right
 |u :: l,l',h,hf=>by
  obtain⟨v,l2,rfl,hv,hl⟩:=h.head;simp only[List.all_cons,Bool.and_eq_true]at hf;have e1:=VGs.flat_eq hl hf.2;have e2:v=u:=by
   have hu:=hf.1;cases hv with
   |flat _ _=>rfl
   |junk=>simp[flat1]at hu
   |ptr=>simp[flat1]at hu
   |sliceX=>simp[flat1]at hu
   |sliceI=>simp[flat1]at hu
   |sliceE=>simp[flat1]at hu
   |sliceZ=>simp[flat1]at hu
   |mapR=>simp[flat1]at hu
   |yield=>simp[flat1]at hu
   |func=>simp[flat1]at hu
   |agg=>simp[flat1]at hu
   |tuple=>simp[flat1]at hu
  rw[e1,e2]
def flatT:Value->Bool
 | .tuple vs=>vs.toList.all flat1
 |v=>flat1 v
theorem VG.of_flatT{g:Nat->Option Loc}{v:Value}(h:flatT v=true):VG g v v:=by
 unfold flatT at h;split at h
 ·exact .tuple _ _ rfl (VGs.flat h).2
 ·exact .flat _ h
def withFn(g0:FuncId)(f:List Value->Option Value)(F:Prims):Prims:=fun g args h=>
 bif Nat.beq g g0 && args.all flat1 then
  match f args with
  |some v=>bif flatT v then some (v,h)else none
  |none=>none
 else F g args h
theorem withFn_spec{g0:FuncId}{f:List Value->Option Value}{F:Prims}{g:FuncId}{args:List Value}{h h':AHeap}{v:Value}(hc:withFn g0 f F g args h=some (v,h')) :
  (g=g0/\args.all flat1=true/\f args=some v/\flatT v=true/\h'=h)\/F g args h=some (v,h'):=by
 unfold withFn at hc;cases hb:(Nat.beq g g0 && args.all flat1)with
 |false=>rw[hb]at hc;exact .inr hc
 |true=>
  rw[hb]at hc;simp only[Bool.and_eq_true]at hb;simp only[cond_true]at hc;split at hc
  ·rename_i u hu
   cases hf:flatT u with
   |false=>rw[hf]at hc;simp at hc
   |true=>
    rw[hf]at hc;simp only[cond_true,oi,pj]at hc;obtain⟨rfl,rfl⟩:=hc;exact .inl ⟨Nat.eq_of_beq_eq_true hb.1,hb.2,hu,hf,rfl⟩
  ·cases hc
theorem withFn_ok{P:Program}{g0:FuncId}{f:List Value->Option Value}{F:Prims}(hf:∀(args:List Value) (v:Value) (w:World),f args=some v->(callFunc g0 args.toArray).run P w=.ok (.value v) w)(hF:CallOK P F):CallOK P (withFn g0 f F):=by
 intro g args h v h' hc hg G w cargs hR hA;rcases withFn_spec hc with ⟨rfl,h1,h2,h3,rfl⟩|hc
 ·right
  rw[hA.flat_eq h1];exact⟨v,w,hf args v w h2,G,.of_flatT h3,.refl hR,.refl _ _⟩
 ·exact hF g args h v h' hc hg G w cargs hR hA
theorem withFn_keep{g0:FuncId}{f:List Value->Option Value}{F:Prims}(hF:CallKeep F):CallKeep (withFn g0 f F):=by
 intro g args h v h' hc;rcases withFn_spec hc with ⟨_,_,_,_,rfl⟩|hc
 ·exact .refl _ _
 ·exact hF g args h v h' hc
def add64F:List Value->Option Value
 | [.int .u64 x,.int .u64 y,.int .u64 c]=>if 0<=x/\0<=y/\0<=c/\c<=1 then some (.tuple #[.int .u64 ((x+y+c) % 18446744073709551616),.int .u64 ((x+y+c) / 18446744073709551616)])else none
 |_=>none
def sub64E:Array Value->Sem Value:=fun args=>do
 let (x, y, b) ← Extern.MathBitsCarry.three "Sub64" args
 pure (Extern.MathBitsCarry.pair ((x+Extern.MathBitsCarry.m64-y-b) % Extern.MathBitsCarry.m64) (if x<y+b then 1 else 0))
def sub64F:List Value->Option Value
 | [.int .u64 x,.int .u64 y,.int .u64 b]=>if 0<=x/\0<=y/\0<=b/\b<=1 then some (.tuple #[.int .u64 (Int.ofNat ((x.toNat+18446744073709551616-y.toNat-b.toNat) % 18446744073709551616)),.int .u64 (Int.ofNat (if x.toNat<y.toNat+b.toNat then 1 else 0))])else none
 |_=>none
theorem add64_ok{P : Program}{g : FuncId}{fn : Func}(hf : P.funcs[g]? = some fn)(hname : (fn.name == "runtime.NumGoroutine") = false)(hb : fn.body.isNone = true)(hn : Extern.findNext fn = none)(he : Extern.find fn = some add64Entry)
  (args:List Value) (v:Value) (w:World) (h:add64F args=some v):(callFunc g args.toArray).run P w=.ok (.value v) w:=by
 unfold add64F at h;split at h
 ·rename_i x y c
  split at h
  ·rename_i hc
   simp only[oi]at h;subst h;have:=run_callFunc_extern hf hname hb hn he #[.int .u64 x,.int .u64 y,.int .u64 c] w;rw[run_add64 x y c hc.1 hc.2.1 hc.2.2.1 hc.2.2.2]at this;exact this
  ·cases h
 ·cases h
theorem sub64_ok{P : Program}{g : FuncId}{fn : Func}(hf : P.funcs[g]? = some fn)(hname : (fn.name == "runtime.NumGoroutine") = false)(hb : fn.body.isNone = true)(hn : Extern.findNext fn = none)(he : Extern.find fn = some sub64E)
  (args:List Value) (v:Value) (w:World) (h:sub64F args=some v):(callFunc g args.toArray).run P w=.ok (.value v) w:=by
 unfold sub64F at h;split at h
 ·rename_i x y b
  split at h
  ·rename_i hc
   simp only[oi]at h;subst h;have:=run_callFunc_extern hf hname hb hn he #[.int .u64 x,.int .u64 y,.int .u64 b] w;have key:(sub64E #[.int .u64 x,.int .u64 y,.int .u64 b]).run P w=.ok (.tuple #[.int .u64 (Int.ofNat ((x.toNat+18446744073709551616-y.toNat-b.toNat) % 18446744073709551616)),.int .u64 (Int.ofNat (if x.toNat<y.toNat+b.toNat then 1 else 0))]) w:=by
    have hb':b=0\/b=1:=by omega
    rcases hb' with rfl|rfl<;>rfl
   rw[key]at this;exact this
  ·cases h
 ·cases h
end Go.Sim
namespace Go.Sim
open Go.RowKit
def withTrue(g0:FuncId)(F:Prims):Prims:=fun g args h=>
 bif Nat.beq g g0 && args.isEmpty then some (.bool true,h)else F g args h
theorem withTrue_spec{g0:FuncId}{F:Prims}{g:FuncId}{args:List Value}{h h':AHeap}{v:Value}(hc:withTrue g0 F g args h=some (v,h')) :
  (g=g0/\args=[]/\v=.bool true/\h'=h)\/F g args h=some (v,h'):=by
 unfold withTrue at hc;cases hb:(Nat.beq g g0 && args.isEmpty)with
 |false=>rw[hb]at hc;exact .inr hc
 |true=>
  rw[hb]at hc;simp only[Bool.and_eq_true,List.isEmpty_iff]at hb;simp only[cond_true,oi,pj]at hc;exact .inl ⟨Nat.eq_of_beq_eq_true hb.1,hb.2,hc.1.symm,hc.2.symm⟩
theorem Good.grown {G : Nat → Option Loc} {h : AHeap} {w w' : World} (hR : HR ⟨G, fun _ => none⟩ (St0 h) w) (b : Below w.heap.size w w') : Good ⟨G, fun _ => none⟩ (St0 h) w ⟨G, fun _ => none⟩ (St0 h) w' := by
  have hlt : ∀ id L, G id = some L → L.b < w.heap.size := fun id L hL => by
    obtain ⟨o, h1, _⟩ := hR.gblk id L hL
    exact (Array.getElem?_eq_some_iff.1 h1).1
  exact
    { hr :=
        { gdom := hR.gdom
          gblk := fun id L hL => by
            rw [b.block _ (hlt id L hL)]; exact hR.gblk id L hL
          gcon := fun id L b1 hL hm => by
            rw [b.block _ (hlt id L hL)]; exact hR.gcon id L b1 hL hm
          ginj := hR.ginj
          ldom := (fun t L h => by cases h), lcon := (fun t L h => by cases h), linj := (fun t t' L L' h => by cases h), sep := (fun id t L L' _ h => by cases h) }
      mono := fun _ _ h => h
      next := Nat.le_refl _
      low := Nat.le_refl _
      size := b.size
      os := b.os
      tape := b.tape
      output := b.output
      fresh := fun id L h1 h2 => by rw [h2] at h1; cases h1
      lfresh := fun t L h1 => .inr ⟨t, L, h1, rfl⟩
      frame := fun k hk _ _ => b.block k hk }
theorem withTrue_ok{P : Program}{g0 : FuncId}{F : Prims}{call : CallT}(hc : CallOK P call){fn : Func}(hf : P.funcs[g0]? = some fn)(hb : fn.body.isSome = true)(hname : (fn.name == "runtime.NumGoroutine") = false)(hr : saysTrue (call g0 [] emptyH) = true)(hF : CallOK P F) : CallOK P (withTrue g0 F) := by
 intro g args h v h' hc' hg G w cargs hR hA;rcases withTrue_spec hc' with ⟨rfl,rfl,rfl,rfl⟩|hc'
 ·left
  rw[hA.nil_right];refine⟨callFunc_enter hf hb hname,(closed_law hc hf hb hname hr w hg).mono ?_⟩;rintro e w' ⟨rfl,bel⟩;exact⟨_,rfl,G,.flat _ rfl,.grown hR bel,.refl _ _⟩
 ·exact hF g args h v h' hc' hg G w cargs hR hA
theorem withTrue_keep{g0:FuncId}{F:Prims}(hF:CallKeep F):CallKeep (withTrue g0 F):=by
 intro g args h v h' hc;rcases withTrue_spec hc with ⟨_,_,_,rfl⟩|hc
 ·exact .refl _ _
 ·exact hF g args h v h' hc
end Go.Sim
namespace Go.Sim
def CallLe(c c':CallT):Prop:=∀g args h r,c g args h=some r->c' g args h=some r
structure RecLe(r r':Rec):Prop where
 run:∀f nt c s x,r.run f nt c s=some x->r'.run f nt c s=some x
 loop:∀f nt c kn s x,r.loop f nt c kn s=some x->r'.loop f nt c kn s=some x
 call:CallLe r.call r'.call
variable{P:Program}{H:Hint}{F:Prims}
theorem callOp_mono{c c':CallT}(h:CallLe c c'){k:Call}{s:St}{x:Value×St}(hx:callOp c k s=some x):callOp c' k s=some x:=by
 unfold callOp at hx ⊢;split at hx
 ·rename_i g args hg
  split at hx
  ·rename_i v h1 hr
   rw[h _ _ _ _ hr];exact hx
  ·cases hx
 ·cases hx
theorem oneA_mono{c c':CallT}(h:CallLe c c'){f:FuncId}{o:Oper}{s:St}{x:Value×St}(hx:oneA P H c f o s=some x):oneA P H c' f o s=some x:=by
 unfold oneA at hx ⊢;split at hx
 ·exact callOp_mono h hx
 ·exact hx
theorem oneD_mono{c c':CallT}(h:CallLe c c'){f:FuncId}{id tag:Nat}{o:Oper}{s:St}{x:Value×St}(hx:oneD P H c f id tag o s=some x):oneD P H c' f id tag o s=some x:=by
 unfold oneD at hx ⊢;split at hx
 ·exact callOp_mono h hx
 ·exact hx
theorem opsN_mono{c c':CallT}(h:CallLe c c'){f:FuncId}{nt:Nat}{ops:Array Oper}:∀(l:List Oper) (s s':St),opsN P H c f nt ops l s=some s'->opsN P H c' f nt ops l s=some s'
 | [],s,s',hx=>hx
 |o :: l,s,s',hx=>by
  simp only[opsN]at hx ⊢;split at hx
  ·split at hx
   ·rename_i v s1 h1
    rw[oneA_mono h h1];simp only[];split at hx
    ·exact opsN_mono h l _ s' hx
    ·cases hx
   ·cases hx
  ·split at hx
   ·exact opsN_mono h l _ s' hx
   ·cases hx
  ·cases hx
theorem opsD_mono{c c':CallT}(h:CallLe c c'){f:FuncId}{nt:Nat}{ops:Array Oper}{base kbase:Nat}:∀(l:List Nat) (i:Nat) (s:St) (r:St×List (Nat×FP×Bool)),opsD P H c f nt ops base kbase l i s=some r->opsD P H c' f nt ops base kbase l i s=some r
 | [],i,s,r,hx=>hx
 |p :: l,i,s,r,hx=>by
  simp only[opsD]at hx ⊢;split at hx
  ·cases hx
  ·split at hx
   ·split at hx
    ·rename_i v s1 h1
     rw[oneD_mono h h1];simp only[];split at hx
     ·split at hx
      ·rename_i r' fps h2
       rw[opsD_mono h l _ _ _ h2];exact hx
      ·cases hx
     ·cases hx
    ·cases hx
   ·split at hx
    ·split at hx
     ·rename_i r' fps h2
      rw[opsD_mono h l _ _ _ h2];exact hx
     ·cases hx
    ·cases hx
   ·cases hx
theorem drawA_mono{c c':CallT}(h:CallLe c c'){f:FuncId}{nt:Nat}{ops:Array Oper}{s s':St}(hx:drawA P H c f nt ops s=some s'):drawA P H c' f nt ops s=some s':=by
 unfold drawA at hx ⊢;cases hd:drawOK ops (orderOf ops)with
 |false=>rw[hd]at hx;cases hx
 |true=>
  rw[hd]at hx;simp only[cond_true]at hx ⊢;split at hx
  ·rename_i r fps h1
   rw[opsD_mono h _ _ _ _ h1];exact hx
  ·cases hx
theorem rangeA_mono{c c':CallT}(h:CallLe c c'){f:FuncId}{nt:Nat}{x:Operand}{ps:Array Tmp}{assign body:Code}{s:St}{r:Exit×St}(hx:rangeA P c f nt x ps assign body s=some r):rangeA P c' f nt x ps assign body s=some r:=by
 unfold rangeA at hx ⊢;cases hn:(noRange assign && noRange body)with
 |false=>rw[hn]at hx;cases hx
 |true=>
  rw[hn]at hx;simp only[cond_true]at hx ⊢;split at hx
  ·rename_i g first captured he
   cases hb:(Nat.blt g yieldBase && hasBody P g)with
   |false=>rw[hb]at hx;cases hx
   |true=>
    rw[hb]at hx;simp only[cond_true]at hx ⊢;split at hx
    ·rename_i v h2 hr
     simp only[h _ _ _ _ hr];exact hx
    ·cases hx
  ·cases hx
theorem yieldS_mono{run run':FuncId->Nat->Code->St->Option (Exit×St)}(h:∀f nt c s x,run f nt c s=some x->run' f nt c s=some x){y:Nat}{args:List Value}{hp:AHeap}{r:Value×AHeap}(hx:yieldS run y args hp=some r):yieldS run' y args hp=some r:=by
 unfold yieldS at hx ⊢;split at hx
 ·rename_i pend f nt env ps assign body hm
  cases hb:(Nat.beq args.length ps.length && ps.all (fun t=>Nat.blt t nt) && noRange assign && noRange body)with
  |false=>rw[hb]at hx;cases hx
  |true=>
   rw[hb]at hx;simp only[cond_true]at hx ⊢;split at hx
   ·rename_i s1 h1
    simp only[h _ _ _ _ _ h1];split at hx
    ·rename_i pend1 f1 nt1 env1 ps1 assign1 body1 hm1
     split at hx
     ·rename_i s2 h2;simp only[h _ _ _ _ _ h2];exact hx
     ·rename_i s2 h2;simp only[h _ _ _ _ _ h2];exact hx
     ·rename_i id s2 h2;simp only[h _ _ _ _ _ h2];exact hx
     ·cases hx
    ·cases hx
   ·cases hx
 ·cases hx
theorem runS_mono{r r':Rec}(h:RecLe r r')(f:FuncId)(nt:Nat)(c:Code)(s:St)(x:Exit×St)(hx:runS P H r f nt c s=some x):runS P H r' f nt c s=some x:=by
 unfold runS at hx ⊢;split at hx
 ·exact hx
 ·exact hx
 ·exact hx
 ·rename_i a b
  skip
  split at hx
  ·rename_i s1 ha
   rw[h.run _ _ _ _ _ ha];exact h.run _ _ _ _ _ hx
  ·rename_i hn
   rw[h.run _ _ _ _ _ hx];obtain⟨e,s1⟩:=x;cases e<;>first|rfl|exact absurd hx (hn _)
 ·skip
  split at hx
  ·exact h.run _ _ _ _ _ hx
  ·cases hx
 ·rename_i id b
  skip
  split at hx
  ·rename_i id' s1 hb
   rw[h.run _ _ _ _ _ hb];exact hx
  ·rename_i hn
   rw[h.run _ _ _ _ _ hx];obtain⟨e,s1⟩:=x;cases e<;>first|rfl|exact absurd hx (hn _ _)
 ·exact h.loop _ _ _ _ _ _ hx
 ·rename_i id ops draw
  skip
  cases draw with
  |true=>
   simp only[cond_true]at hx ⊢;split at hx
   ·rename_i s1 h1
    rw[drawA_mono h.call h1];exact hx
   ·cases hx
  |false=>
   simp only[cond_false]at hx ⊢;split at hx
   ·rename_i s1 h1
    rw[opsN_mono h.call _ _ _ h1];exact hx
   ·cases hx
 ·exact rangeA_mono h.call hx
 ·cases hx
theorem loopS_mono{r r':Rec}(h:RecLe r r')(f:FuncId)(nt:Nat)(c:Code)(kn:Nat)(s:St)(x:Exit×St)(hx:loopS H r f nt c kn s=some x):loopS H r' f nt c kn s=some x:=by
 unfold loopS at hx ⊢;split at hx
 ·cases hx
 ·skip
  split at hx
  ·rename_i s2 hb
   rw[h.run _ _ _ _ _ hb];exact h.loop _ _ _ _ _ _ hx
  ·rename_i hn
   rw[h.run _ _ _ _ _ hx];obtain⟨e,s1⟩:=x;cases e<;>first|rfl|exact absurd hx (hn _)
theorem callS_mono{r r':Rec}(h:RecLe r r'):CallLe (callS P F r) (callS P F r'):=by
 intro g args hp x hx;unfold callS at hx ⊢;cases hy:Nat.ble yieldBase g with
 |true=>rw[hy]at hx;exact yieldS_mono h.run hx
 |false=>
 rw[hy]at hx;simp only[cond_false]at hx ⊢;split at hx
 ·exact hx
 ·skip
  split at hx
  ·split at hx
   ·skip
    split at hx
    ·rename_i s1 h1;rw[h.run _ _ _ _ _ h1];exact hx
    ·rename_i s1 h1;rw[h.run _ _ _ _ _ h1];exact hx
    ·cases hx
   ·cases hx
  ·cases hx
theorem execA_step:∀n,RecLe (execA P H F n) (execA P H F (n+1))
 |0=>⟨fun f nt c s x h=>(by cases h),fun f nt c kn s x h=>(by cases h),fun g args h r hc=>(by cases hc)⟩
 |n+1=>⟨runS_mono (execA_step n),loopS_mono (execA_step n),callS_mono (execA_step n)⟩
theorem execA_le{n m:Nat}(h:n<=m):RecLe (execA P H F n) (execA P H F m):=by
 induction h with
 |refl=>exact⟨fun _ _ _ _ _ h=>h,fun _ _ _ _ _ _ h=>h,fun _ _ _ _ h=>h⟩
 |step _ ih=>
  have:=execA_step (P:=P) (H:=H) (F:=F) ‹Nat›;exact⟨fun f nt c s x h=>this.run _ _ _ _ _ (ih.run _ _ _ _ _ h),fun f nt c kn s x h=>this.loop _ _ _ _ _ _ (ih.loop _ _ _ _ _ _ h),fun g args h r hc=>this.call _ _ _ _ (ih.call _ _ _ _ hc)⟩
def Run(P:Program)(H:Hint)(F:Prims)(f:FuncId)(nt:Nat)(c:Code)(s:St)(x:Exit)(s':St):Prop:=∃n,(execA P H F n).run f nt c s=some (x,s')
def Loop(P:Program)(H:Hint)(F:Prims)(f:FuncId)(nt:Nat)(c:Code)(kn:Nat)(s:St)(x:Exit)(s':St):Prop:=∃n,(execA P H F n).loop f nt c kn s=some (x,s')
def Ret(P:Program)(H:Hint)(F:Prims)(g:FuncId)(args:List Value)(h:AHeap)(v:Value)(h':AHeap):Prop:=∃n,(execA P H F n).call g args h=some (v,h')
theorem Run.skip{f:FuncId}{nt:Nat}{s:St}:Run P H F f nt .skip s .normal s:=⟨1,rfl⟩
theorem Run.ret{f:FuncId}{nt:Nat}{s:St}:Run P H F f nt .ret s .ret s:=⟨1,rfl⟩
theorem Run.exit{f:FuncId}{nt:Nat}{s:St}{id:Nat}:Run P H F f nt (.exit id) s (.exit id) s:=⟨1,rfl⟩
theorem Run.seq{f:FuncId}{nt:Nat}{a b:Code}{s s1 s2:St}{x:Exit}(h1:Run P H F f nt a s .normal s1)(h2:Run P H F f nt b s1 x s2):Run P H F f nt (.seq a b) s x s2:=by
 obtain⟨n,h1⟩:=h1;obtain⟨m,h2⟩:=h2;refine⟨max n m+1,?_⟩;show runS P H (execA P H F (max n m)) f nt (.seq a b) s=_;unfold runS;simp only[(execA_le (Nat.le_max_left n m)).run _ _ _ _ _ h1];exact(execA_le (Nat.le_max_right n m)).run _ _ _ _ _ h2
theorem Run.seqOut{f:FuncId}{nt:Nat}{a b:Code}{s s1:St}{x:Exit}(h1:Run P H F f nt a s x s1)(hx:x≠.normal):Run P H F f nt (.seq a b) s x s1:=by
 obtain⟨n,h1⟩:=h1;refine⟨n+1,?_⟩;show runS P H (execA P H F n) f nt (.seq a b) s=_;unfold runS;simp only[h1];cases x<;>first|rfl|exact absurd rfl hx
theorem Run.cond{f:FuncId}{nt:Nat}{y:Operand}{a b:Code}{s s1:St}{x:Exit}{t:Bool}(hc:evalA s y=some (.bool t))(h:Run P H F f nt (bif t then a else b) s x s1):Run P H F f nt (.cond y a b) s x s1:=by
 obtain⟨n,h⟩:=h;refine⟨n+1,?_⟩;show runS P H (execA P H F n) f nt (.cond y a b) s=_;unfold runS;simp only[hc];exact h
theorem Run.block{f:FuncId}{nt id:Nat}{b:Code}{s s1:St}{x:Exit}(h:Run P H F f nt b s x s1):Run P H F f nt (.block id b) s (match x with | .exit id'=>bif Nat.beq id' id then .normal else .exit id'|x=>x) s1:=by
 obtain⟨n,h⟩:=h;refine⟨n+1,?_⟩;show runS P H (execA P H F n) f nt (.block id b) s=_;unfold runS;simp only[h];cases x with
 |exit id'=>simp only[];cases Nat.beq id' id<;>rfl
 |_=>rfl
theorem Run.loop{f:FuncId}{nt:Nat}{b:Code}{s s1:St}{x:Exit}(h:Loop P H F f nt b s.kn s x s1):Run P H F f nt (.loop b) s x s1:=by
 obtain⟨n,h⟩:=h;exact⟨n+1,h⟩
theorem Ret.body{g:FuncId}{fn:Func}{c:Code}{args:List Value}{h h':AHeap}{v:Value}{x:Exit}{s':St}(hF:F g args h=none)(hg:g<yieldBase)(hf:P.funcs[g]?=some fn)(hb:fn.body=some c)
  (hr:Run P H F g fn.ntmps c { env:=argsEnv args 0 .leaf,kn:=0,K:=.leaf,h:=h } x s') (hx:x=.normal\/x=.ret) (he:endA P fn s'=some (v,h')):Ret P H F g args h v h':=by
 obtain⟨n,hr⟩:=hr;refine⟨n+1,?_⟩;show callS P F (execA P H F n) g args h=_;unfold callS;simp only[show Nat.ble yieldBase g=false from ble_false hg,cond_false,hF,hf,hb,hr];rcases hx with rfl|rfl<;>exact he
theorem Ret.ok(hm : P.follows .mixedOrders = true)(hF : CallOK P F)(hFk : CallKeep F)(hname : ∀ (g : FuncId) (fn : Func), P.funcs[g]? = some fn → (fn.name == "runtime.NumGoroutine") = false){g : FuncId}{args : List Value}{h h' : AHeap}{v : Value}(hr : Ret P H F g args h v h')(hg : g < yieldBase){G : Nat → Option Loc}{w : World}{cargs : List Value}
  (hR:HR ⟨G,fun _=>none⟩ (St0 h) w) (hA:VGs G args cargs) :
  Does P g cargs.toArray w (fun c w'=>∃G',VG G' v c/\Good ⟨G,fun _=>none⟩ (St0 h) w ⟨G',fun _=>none⟩ (St0 h') w'/\Adds (h.next<=·) G G'):=by
 obtain⟨n,hr⟩:=hr;exact(execA_ok hm hF hFk hname n).2.2.1 g args h v h' hr hg G w cargs hR hA
