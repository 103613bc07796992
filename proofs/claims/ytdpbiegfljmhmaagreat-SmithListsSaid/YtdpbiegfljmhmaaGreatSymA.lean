import Derived.Test.YtdpbiegfljmhmaaGreatSimD
set_option linter.unusedSimpArgs false
set_option linter.unusedVariables false
namespace Go.cV
def E{α:Type}:List (Nat×α)->cW α
 | []=>.leaf
 |(t,v) :: l=>(E l).set t v
def lk{α:Type}:List (Nat×α)->Nat->Option α
 | [],_=>none
 |(a,v) :: l,t=>bif Nat.beq a t then some v else lk l t
def pZ{α:Type}(l:List (Nat×α)):List Nat->List (Nat×α)
 | []=>[]
 |t :: r=>
  match lk l t with
  |some v=>(t,v) :: pZ l r
  |none=>pZ l r
structure SS where
 env:List (Nat×Value)
 kn:Nat
 K:List (Nat×List Value)
 h:af
structure Le(s:SS)(t:St):Prop where
 env:∀(i:Nat) (v:Value),lk s.env i=some v->t.env.get i=some v
 K:∀(i:Nat) (v:List Value),lk s.K i=some v->t.K.get i=some v
 kn:t.kn=s.kn
 h:t.h=s.h
structure Live where
 loop:FuncId->Nat->Option (List Tmp)
 di:FuncId->Nat->Option (List Tmp)
 Pv:FuncId->Nat->Option (List Tmp)
def fork(b:Bool)(x y:Unit->Prop):Prop:=
 match b with
 |true=>x ()
 |false=>y ()
def fS(s:SS):Option (List Tmp)->SS
 |none=>s
 |some l=>{ s with env:=pZ s.env l }
inductive Sv where
 |int (k:IntKind)
 |bool
 |str
 |slice
 |ptr
 |any
def DY:Option TypeDesc->Sv
 |some (.int k)=>.int k
 |some .bool=>.bool
 |some .string=>.str
 |some (.slice _)=>.slice
 |some (.pointer _)=>.ptr
 |_=>.any
def fK(P:Unit->Program):Nat->TypeId->List Sv
 |0,_=>[]
 |d+1,t=>
  match (P ()).underlying t with
  |some (.struct fs)=>fs.toList.flatMap fun f=>fK P d f.type
  |some (.array n e)=>(List.replicate n (fK P d e)).flatten
  |x=>[DY x]
def VP:Sv->(Value->Prop)->Prop
 | .int k,C=>∃n:Int,C (.int k n)
 | .bool,C=>∃b:Bool,C (.bool b)
 | .str,C=>∃s:ByteArray,C (.string s)
 | .slice,C=>∃(a:Option Addr) (n c:Nat),C (.slice a n c)
 | .ptr,C=>∃b o:Nat,C (.pointer (some ⟨b,o,none⟩))
 | .any,C=>∃v:Value,C v
def VQ:List Sv->(List Value->Prop)->Prop
 | [],C=>C []
 |s :: r,C=>VP s fun v=>VQ r fun l=>C (v :: l)
def Rh(P:Unit->Program)(t:TypeId)(C:Value->Prop):Prop:=
 match iP (P ()) t with
 |some true=>VQ (fK P 12 t) fun l=>C (.agg l.toArray)
 |_=>VP (DY ((P ()).underlying t)) C
def LV(P:Unit->Program):List TypeId->(List Value->Prop)->Prop
 | [],C=>C []
 |t :: r,C=>Rh P t fun v=>LV P r fun l=>C (v :: l)
def seen(P:Unit->Program)(t:TypeId)(v:Value)(C:Value->Prop):Prop:=
 match (P ()).underlying t with
 |some (.tuple ts)=>LV P ts.toList fun l=>v=.tuple l.toArray/\C (.tuple l.toArray)
 |_=>Rh P t fun u=>v=u/\C u
structure WC(P:Program)(H:Hint)(F:bg)(g:FuncId)(args:List Value)(h:af)(Q:Value->af->Prop):Prop where
 ex:∃v h',OP P H F g args h v h'/\Q v h'
def Head(P:Program)(H:Hint)(F:bg)(f:FuncId)(nt:Nat)(b:Code)(kn:Nat)(s:St)(x:Exit)(s':St):Prop:=
 ∃n,(match (cE P H F n).run f nt b s with
  |some (.normal,s1)=>(cE P H F n).loop f nt b kn s1
  |r=>r)=some (x,s')
structure WH(P:Program)(H:Hint)(F:bg)(f:FuncId)(nt:Nat)(b:Code)(kn:Nat)(s:SS)(Q:Exit->SS->Prop):Prop where
 ex:∀t,Le s t->t.h.low<=t.h.next->∃x t' s',Head P H F f nt b kn t x t'/\Le s' t'/\Q x s'
def bF:Code->List Code
 | .seq a b=>bF a++bF b
 | .cond _ a b=>bF a++bF b
 | .block _ b=>bF b
 | .loop b=>b :: bF b
 | .rangeFunc _ _ a b=>bF a++bF b
 |_=>[]
def bG:Code->List (Operand×Array Tmp×Code×Code)
 | .seq a b=>bG a++bG b
 | .cond _ a b=>bG a++bG b
 | .block _ b=>bG b
 | .loop b=>bG b
 | .rangeFunc x ps a b=>[(x,ps,a,b)]
 |_=>[]
structure WR(P:Program)(H:Hint)(F:bg)(f:FuncId)(nt:Nat)(x:Operand)(ps:Array Tmp)(as bo:Code)(s:SS)(Q:Exit->SS->Prop):Prop where
 ex:∀t,Le s t->t.h.low<=t.h.next->∃e t' s',pY P H F f nt (.rangeFunc x ps as bo) t e t'/\Le s' t'/\Q e s'
structure bH where
 call:FuncId->List Value->af->(Value->af->Prop)->Prop
 head:FuncId->Nat->Nat->SS->(Exit->SS->Prop)->Prop
 arith:BinOp->IntKind->Int->Int->Int
 cmp:BinOp->Int->Int->Bool
 yj:BinOp->ByteArray->ByteArray->Bool
 fD:Bool->Bool
 iw:Bool->Bool->Bool
 conv:IntKind->Int->Int
 neg:IntKind->Int->Int
 imax:Int->Int->Int
 uM:Int->Int->Int
 ofNat:Nat->Int
 Gi:ByteArray->Int
 place:Nat->Int->Nat->Nat
 HP:Int->Nat->Prop
 nz:Int->Prop
 LW:Int->Prop
 rd:af->Nat->Nat->Nat->List Value->Prop
 wr:af->Nat->Nat->List Value->af->Prop
 push:af->Nat->List Value->af
 next:af->Nat
 v9:Int->Int->Prop
 nat:Int->Nat
 iW:List Value->Int->List Value
 Jw:ByteArray->ByteArray->(ByteArray->Prop)->Prop
 rS:TypeId->Array Value->Array Value->(Bool->Prop)->Prop
 cut:Nat->Int->Prop
 BS:TypeId->Value->Option Value->Option Value->Option Value->(Option Addr->Nat->Nat->Prop)->Prop
 Jx:TypeId->ByteArray->Option Value->Option Value->(ByteArray->Prop)->Prop
 nB:ByteArray->Int->(Int->Prop)->Prop
 part:TypeId->Array Value->Nat->Value->Prop
 app:List TypeId->List Value->af->(Option Addr->Nat->Nat->af->Prop)->Prop
 Pw:List TypeId->List Value->af->(Int->af->Prop)->Prop
 putAt:af->Nat->Nat->List Value->af
 fresh:af->af
 aB:af->af->af
 aH:af->Nat->af
 wrote:af->af->Bool
 bZ:Nat->Nat->Nat
 lt:Nat->Nat->Prop
 ne:Nat->Nat->Prop
 kp:Bool->Bool->Bool->Nat->Nat->Prop
 yk:Bool->Bool->Bool->Nat->Nat->Nat->Prop
 sj:(Unit->Prop)->Prop
 yn:Nat->Nat
 uO:FuncId->Nat->SS->(Exit->SS->Prop)->Prop
 Jy:TypeId->Value->Value->af->Value->Bool->Prop
 Gj:TypeId->Value->Value->Value->af->af->Prop
 Jz:af->af
 bytes:TypeId->TypeId->Option Addr->Nat->af->ByteArray->Prop
 Uw:List TypeId->List Value->af->af->Prop
def af.putAt(h:af)(id es:Nat)(cs:List Value):af:={ h with m:=h.m.set id (.live true es cs) }
def af.dO(h:af):af:={ h with low:=h.next }
def af.aB(h:af)(low:Nat):af:={ h with low:=Nat.min low h.low }
def af.aH(h:af)(n:Nat):af:={ h with next:=h.next+n }
def SW(op:BinOp)(k:IntKind)(a b:Int):Int:=
 match op with
 | .add=>k.wrap (a+b)
 | .sub=>k.wrap (a-b)
 | .mul=>k.wrap (a*b)
 | .quo=>k.wrap (a.tdiv b)
 | .rem=>a.tmod b
 | .and=>k.wrap (BitVec.ofInt k.bits a &&& BitVec.ofInt k.bits b).toNat
 | .or=>k.wrap (BitVec.ofInt k.bits a ||| BitVec.ofInt k.bits b).toNat
 | .xor=>k.wrap (BitVec.ofInt k.bits a ^^^ BitVec.ofInt k.bits b).toNat
 | .andNot=>k.wrap (BitVec.ofInt k.bits a &&& ~~~ BitVec.ofInt k.bits b).toNat
 | .shl=>k.wrap (a*2 ^ (min b.toNat k.bits))
 | .shr=>a.fdiv (2 ^ (min b.toNat k.bits))
 |_=>0
def ZC(op:BinOp)(a b:Int):Bool:=
 match op with
 | .eql=>a == b
 | .neq=>a != b
 | .lss=>decide (a<b)
 | .leq=>decide (a<=b)
 | .gtr=>decide (a>b)
 | .geq=>decide (a≥b)
 |_=>false
def ZD(op:BinOp)(x y:ByteArray):Bool:=
 match op with
 | .eql=>x.toList == y.toList
 | .neq=>!(x.toList == y.toList)
 | .lss=>Op.bytesLess x.toList y.toList
 | .leq=>Op.bytesLess x.toList y.toList || x.toList == y.toList
 | .gtr=>!(Op.bytesLess x.toList y.toList || x.toList == y.toList)
 | .geq=>!(Op.bytesLess x.toList y.toList)
 |_=>false
def bk(P:Program)(H:Hint)(F:bg):bH where
 call:=WC P H F
 head:=fun f key kn s Q=>∀fn c b,P.funcs[f]?=some fn->fn.body=some c->b∈bF c->keyOf b=key->WH P H F f fn.ntmps b kn s Q
 arith:=SW
 cmp:=ZC
 yj:=ZD
 fD:=fun b=>!b
 iw:=fun a b=>a == b
 conv:=fun k n=>k.wrap n
 neg:=fun k n=>k.wrap (0-n)
 imax:=fun x y=>if y>x then y else x
 uM:=fun x y=>if y<x then y else x
 ofNat:=fun n=>n
 Gi:=fun s=>s.size
 place:=fun o i n=>o+i.toNat*n
 HP:=fun i n=>0<=i/\i<n
 nz:=fun b=>b≠0
 LW:=fun b=>0<=b
 rd:=fun h b o n l=>h.aN ⟨b,o,none⟩ n=some l
 wr:=fun h b o vs h'=>h.write b o vs=some h'
 push:=fun h es cs=>h.push es cs
 next:=fun h=>h.next
 v9:=fun l c=>0<=l/\l<=c/\c<=1073741824
 nat:=fun i=>i.toNat
 iW:=fun z c=>bE z c.toNat
 Jw:=fun a b C=>a.size+b.size<=1073741824/\C (a++b)
 rS:=fun t a b C=>P.eqGuardType P.depth t=false/\∃r,px P 30 t (.agg a) (.agg b)=some r/\C r
 cut:=fun c j=>0<=j/\j<=cO c
 BS:=fun t x lo hi mx C=>∃a' n' c',gO P t x lo hi mx=some (.slice a' n' c')/\C a' n' c'
 Jx:=fun t x lo hi C=>∃r,gO P t (.string x) lo hi none=some (.string r)/\C r
 nB:=fun s i C=>0<=i/\∃b:UInt8,s[i.toNat]?=some b/\C b.toNat
 part:=fun t cs o v=>kL P t cs o=some v
 app:=fun ts l h C=>∃a n c h',cQ P h ts l=some (.slice a n c,h')/\C a n c h'
 Pw:=fun ts l h C=>∃n h',sU P h ts l=some (.int .i64 n,h')/\C n h'
 putAt:=af.putAt
 fresh:=af.dO
 aB:=fun h h'=>h'.aB h.low
 aH:=af.aH
 wrote:=fun h h'=>Nat.blt h'.low h.next
 bZ:=fun a b=>a+b
 lt:=fun a b=>a<b
 ne:=fun a b=>a≠b
 kp:=fun wx wy l b dD=>wx=false/\wy=false/\(l=true\/b<dD)
 yk:=fun wx wy l b dD c=>wx=false/\(wy=false\/b≠c)/\(l=true\/b<dD)
 sj:=fun f=>f ()
 yn:=fun y=>aW+y
 uO:=fun f key s Q=>∀fn c x ps as bo,P.funcs[f]?=some fn->fn.body=some c->(x,ps,as,bo)∈bG c->keyOf as=key->WR P H F f fn.ntmps x ps as bo s Q
 Jy:=fun t m k h v b=>kT P h t m k true=some (.tuple #[v,.bool b],h)
 Gj:=fun t m k v h h'=>kU P h t m k v=some (undef,h')
 Jz:=fun h=>h.gW (.map [])
 bytes:=fun src dst a n h s=>oQ P h src dst a n=some (.string s)
 Uw:=fun ts l h h'=>r8 P h ts l=some (undef,h')
def ev(s:SS):Operand->Option Value
 | .tmp t=>lk s.env t
 | .const v=>bif flat v then some v else none
 | .global _=>none
 | .func f=>some (.func (.func f) #[] #[])
def zL(s:SS):List Operand->Option (List Value)
 | []=>some []
 |x :: r=>
  match ev s x with
  |some v=>
   match zL s r with
   |some l=>some (v :: l)
   |none=>none
  |none=>none
def p8(s:SS):Option Operand->Option (Option Value)
 |none=>some none
 |some x=>
  match ev s x with
  |some v=>some (some v)
  |none=>none
def jZ(s:SS):List (Nat×Operand)->Option (List (Nat×Value))
 | []=>some []
 |(i,x) :: r=>
  match ev s x with
  |some v=>
   match jZ s r with
   |some l=>some ((i,v) :: l)
   |none=>none
  |none=>none
abbrev kF:=Bool->Nat->List Value->SS->(Value->SS->Prop)->Prop
def Px(A:bH):kF:=fun loc es cs s C=>
 fork loc (fun _=>C (.pointer (some ⟨s.kn,0,some 0⟩)) { s with kn:=s.kn+1,K:=(s.kn,cs) :: s.K })
  (fun _=>C (.pointer (some ⟨A.next s.h,0,none⟩)) { s with h:=A.push s.h es cs })
def uP(A:bH)(id tag:Nat):kF:=fun loc es cs s C=>
 fork loc (fun _=>C (.pointer (some ⟨tag,0,some 0⟩)) { s with K:=(tag,cs) :: s.K })
  (fun _=>C (.pointer (some ⟨id,0,none⟩)) { s with h:=A.putAt s.h id es cs })
def mS(A:bH)(s:SS)(a:Addr)(n:Nat)(views:List Sv)(C:List Value->Prop):Prop:=
 match a.spot with
 |none=>VQ views fun l=>A.rd s.h a.block a.off n l/\C l
 |some _=>
  bif Nat.blt a.block s.kn then
   match lk s.K a.block with
   |some cs=>
    match ke cs a.off n with
    |some l=>C l
    |none=>False
   |none=>False
  else False
def qe(P:Unit->Program)(A:bH)(s:SS)(t:TypeId)(a:Addr)(C:Value->Prop):Prop:=
 match iP (P ()) t with
 |some true=>
  match bY (P ()) t with
  |some n=>mS A s a n (fK P 12 t) fun l=>C (.agg l.toArray)
  |none=>False
 |some false=>mS A s a 1 [DY ((P ()).underlying t)] fun l=>
  match l with
  | [v]=>C v
  |_=>False
 |none=>False
def wD(A:bH)(s:SS)(a:Addr)(vs:List Value)(C:SS->Prop):Prop:=
 bif vs.all aF then
  match a.spot with
  |none=>∃h',A.wr s.h a.block a.off vs h'/\C { s with h:=h' }
  |some _=>
   bif Nat.blt a.block s.kn then
    match lk s.K a.block with
    |some cs=>
     match mM cs a.off vs with
     |some lE=>C { s with K:=(a.block,lE) :: s.K }
     |none=>False
    |none=>False
   else False
 else False
def wE(P:Unit->Program)(A:bH)(s:SS)(t:TypeId)(a:Addr)(v:Value)(C:SS->Prop):Prop:=
 match bY (P ()) t with
 |some n=>bif Nat.beq v.cells.toList.length n then wD A s a v.cells.toList C else False
 |none=>False
def iD(k k':IntKind):Bool:=decide (k=k')
def LX(A:bH)(op:BinOp)(k k':IntKind)(a b:Int)(C:Value->Prop):Prop:=
 match op with
 | .shl=>A.LW b/\A.sj fun _=>C (.int k (A.arith .shl k a b))
 | .shr=>A.LW b/\A.sj fun _=>C (.int k (A.arith .shr k a b))
 | .quo=>bif iD k k' then(A.nz b/\A.sj fun _=>C (.int k (A.arith .quo k a b)))else False
 | .rem=>bif iD k k' then(A.nz b/\A.sj fun _=>C (.int k (A.arith .rem k a b)))else False
 | .add=>bif iD k k' then C (.int k (A.arith .add k a b))else False
 | .sub=>bif iD k k' then C (.int k (A.arith .sub k a b))else False
 | .mul=>bif iD k k' then C (.int k (A.arith .mul k a b))else False
 | .and=>bif iD k k' then C (.int k (A.arith .and k a b))else False
 | .or=>bif iD k k' then C (.int k (A.arith .or k a b))else False
 | .xor=>bif iD k k' then C (.int k (A.arith .xor k a b))else False
 | .andNot=>bif iD k k' then C (.int k (A.arith .andNot k a b))else False
 | .eql=>bif iD k k' then C (.bool (A.cmp .eql a b))else False
 | .neq=>bif iD k k' then C (.bool (A.cmp .neq a b))else False
 | .lss=>bif iD k k' then C (.bool (A.cmp .lss a b))else False
 | .leq=>bif iD k k' then C (.bool (A.cmp .leq a b))else False
 | .gtr=>bif iD k k' then C (.bool (A.cmp .gtr a b))else False
 | .geq=>bif iD k k' then C (.bool (A.cmp .geq a b))else False
def LY(A:bH)(op:BinOp)(a b:ByteArray)(C:Value->Prop):Prop:=
 match op with
 | .add=>A.Jw a b fun c=>C (.string c)
 | .eql=>C (.bool (A.yj .eql a b))
 | .neq=>C (.bool (A.yj .neq a b))
 | .lss=>C (.bool (A.yj .lss a b))
 | .leq=>C (.bool (A.yj .leq a b))
 | .gtr=>C (.bool (A.yj .gtr a b))
 | .geq=>C (.bool (A.yj .geq a b))
 |_=>False
def LZ(P:Unit->Program)(A:bH)(op:BinOp)(t:TypeId)(x y:Value)(C:Value->Prop):Prop:=
 match x,y with
 | .int k a,.int k' b=>LX A op k k' a b C
 | .string a,.string b=>LY A op a b C
 | .bool a,.bool b=>
  match op,(P ()).underlying t with
  | .eql,some .bool=>C (.bool (A.iw a b))
  | .neq,some .bool=>C (.bool (A.fD (A.iw a b)))
  |_,_=>False
 | .agg a,.agg b=>
  match op with
  | .eql=>A.rS t a b fun r=>C (.bool r)
  | .neq=>A.rS t a b fun r=>C (.bool (A.fD r))
  |_=>False
 |x,y=>
  match wZ (P ()) op t x y with
  |some v=>C v
  |none=>False
def SX(A:bH)(op:UnOp)(x:Value)(C:Value->Prop):Prop:=
 match op,x with
 | .neg,.int k n=>C (.int k (A.neg k n))
 | .not,.bool b=>C (.bool (A.fD b))
 |op,x=>
  match U4 op x with
  |some v=>C v
  |none=>False
def BT(P:Unit->Program)(A:bH)(src dst:TypeId)(x:Value)(C:Value->Prop):Prop:=
 match (P ()).underlying src,(P ()).underlying dst,x with
 |some _,some (.int k),.int _ n=>C (.int k (A.conv k n))
 |some _,some .string,.string s=>C (.string s)
 |_,_,_=>False
def ym(P:Unit->Program)(A:bH)(t:TypeId)(x:Value)(C:Value->Prop):Prop:=
 match (P ()).underlying t,x with
 |some .string,.string s=>C (.int .i64 (A.Gi s))
 |some (.array n _),_=>C (.int .i64 (A.ofNat n))
 |some (.slice _),.slice _ n _=>C (.int .i64 (A.ofNat n))
 |some (.pointer e),_=>
  match (P ()).underlying e with
  |some (.array n _)=>C (.int .i64 (A.ofNat n))
  |_=>False
 |_,_=>False
def oh(f:Int->Int->Int):Value->List Value->(Value->Prop)->Prop
 |x,[],C=>C x
 | .int k x,.int _ y :: r,C=>oh f (.int k (f x y)) r C
 |_,_,_=>False
def wF(P:Unit->Program)(A:bH)(t:TypeId)(x:Value)(lo hi mx:Option Value)(C:Value->Prop):Prop:=
 match (P ()).underlying t,x with
 |some .string,.string s=>
  match mx with
  |none=>A.Jx t s lo hi fun r=>C (.string r)
  |some _=>False
 |some (.slice e),.slice a n c=>
  match lo,hi,mx with
  |none,some (.int _ j),none=>bif (bY (P ()) e).isSome then(A.cut c j/\A.sj fun _=>C (.slice a (A.nat j) c))else False
  |lo,hi,mx=>A.BS t (.slice a n c) lo hi mx fun a' n' c'=>C (.slice a' n' c')
 |some (.array _ _),.pointer (some a)=>A.BS t (.pointer (some a)) lo hi mx fun a' n' c'=>C (.slice a' n' c')
 |_,_=>False
def kq(P:Unit->Program)(A:bH)(t:TypeId)(x ix:Value)(C:Value->Prop):Prop:=
 match (P ()).underlying t,x,ix with
 |some (.array len e),.pointer (some a),.int _ i=>
  match bY (P ()) e with
  |some n=>A.HP i len/\A.sj fun _=>C (.pointer (some ⟨a.block,A.place a.off i n,a.spot⟩))
  |none=>False
 |some (.slice e),.slice a len _,.int _ i=>
  match bY (P ()) e with
  |some n=>∃b o,a=some ⟨b,o,none⟩/\A.HP i len/\C (.pointer (some ⟨b,A.place o i n,none⟩))
  |none=>False
 |_,_,_=>False
def mF(P:Unit->Program)(A:bH)(t:TypeId)(x:Value)(f:Nat)(C:Value->Prop):Prop:=
 match (P ()).underlying t,x with
 |some (.struct fs),.pointer (some a)=>
  match fs.toList[f]? with
  |some fd=>
   match bY (P ()) fd.type with
   |some n=>bif Nat.beq n 0 then False else
    match a.spot with
    |none=>C (.pointer (some ⟨a.block,A.bZ a.off fd.offset,none⟩))
    |some x=>C (.pointer (some ⟨a.block,a.off+fd.offset,some x⟩))
   |none=>False
  |none=>False
 |_,_=>False
def BU(P:Unit->Program)(A:bH)(t:TypeId)(x ix:Value)(C:Value->Prop):Prop:=
 match (P ()).underlying t,x,ix with
 |some (.array len e),.agg cs,.int _ i=>
  match bY (P ()) e with
  |some n=>A.HP i len/\Rh P e fun v=>A.part e cs (A.place 0 i n) v/\C v
  |none=>False
 |some .string,.string s,.int _ i=>A.nB s i fun b=>C (.int .u8 b)
 |_,_,_=>False
def mG(P:Unit->Program)(A:bH)(mk:kF)(t:TypeId)(l c:Value)(s:SS)(C:Value->SS->Prop):Prop:=
 match (P ()).underlying t,l,c with
 |some (.slice e),.int _ l,.int _ c=>
  match bY (P ()) e,iv (P ()) e,pC (P ()) e with
  |some n,some z,some by_=>
   bif Nat.ble by_ 16384 && Nat.beq z.cells.toList.length n && z.cells.toList.all aF then
    A.v9 l c/\A.sj fun _=>mk false n (A.iW z.cells.toList c) s fun v s'=>
     match v with
     | .pointer (some a)=>C (.slice (some a) (A.nat l) (A.nat c)) s'
     |_=>False
   else False
  |_,_,_=>False
 |_,_,_=>False
def kZ(P:Unit->Program)(mk:kF)(t:TypeId)(len:Nat)(parts:List (Nat×Value))(s:SS)(C:Value->SS->Prop):Prop:=
 match (P ()).underlying t with
 |some (.slice e)=>
  match bY (P ()) e,iv (P ()) e with
  |some n,some z=>
   bif Nat.ble (len*n) 16777216 && Nat.beq z.cells.toList.length n && Nat.ble len 16777216 then
    match iI (fun i=>some (i*n,n)) (bE z.cells.toList len) parts with
    |some cs=>
     bif cs.all aF then
      mk false n cs s fun v s'=>
       match v with
       | .pointer (some a)=>C (.slice (some a) len len) s'
       |_=>False
     else False
    |none=>False
   else False
  |_,_=>False
 |_=>False
def wpOp(P:Unit->Program)(A:bH)(mk:kF)(loc:Bool)(o:Op)(s:SS)(C:Value->SS->Prop):Prop:=
 match o with
 | .move x=>match ev s x with|some v=>C v s|none=>False
 | .assign x=>match ev s x with|some v=>C v s|none=>False
 | .pick c a b=>
  match ev s c with
  |some (.bool t)=>fork t (fun _=>match ev s a with|some v=>C v s|none=>False) (fun _=>match ev s b with|some v=>C v s|none=>False)
  |_=>False
 | .alloc e=>
  match iv (P ()) e,bY (P ()) e with
  |some z,some n=>bif z.cells.toList.all aF then mk loc n z.cells.toList s C else False
  |_,_=>False
 | .box e x=>
  match ev s x,bY (P ()) e with
  |some v,some n=>bif v.cells.toList.all aF then mk loc n v.cells.toList s C else False
  |_,_=>False
 | .build t parts=>
  match jZ s parts.toList with
  |some l=>match ux (P ()) t l with|some v=>C v s|none=>False
  |none=>False
 | .buildSlice t len parts=>
  match jZ s parts.toList with
  |some l=>kZ P mk t len l s C
  |none=>False
 | .load t x=>
  match ev s x with
  |some (.pointer (some a))=>qe P A s t a fun v=>C v s
  |_=>False
 | .store t x y=>
  match ev s x,ev s y with
  |some (.pointer (some a)),some v=>wE P A s t a v fun s'=>C undef s'
  |_,_=>False
 | .nilCheck x=>
  match ev s x with
  |some (.pointer (some a))=>C (.pointer (some a)) s
  |some (.func (.func f) first captured)=>C (.func (.func f) first captured) s
  |_=>False
 | .binOp op t x y _=>
  match ev s x,ev s y with
  |some a,some b=>LZ P A op t a b fun v=>C v s
  |_,_=>False
 | .unOp op _ x=>
  match ev s x with
  |some a=>SX A op a fun v=>C v s
  |none=>False
 | .convert src dst x=>
  match ev s x with
  |some (.slice a n _)=>
   match (P ()).underlying dst with
   |some .string=>∃b,A.bytes src dst a n s.h b/\A.sj fun _=>C (.string b) s
   |_=>False
  |some a=>BT P A src dst a fun v=>C v s
  |none=>False
 | .makeFunc fn first captured=>
  match fn,zL s first.toList,zL s captured.toList with
  | .func f,some l,some r=>bif l.all dA && r.all dA then C (.func (.func f) l.toArray r.toArray) s else False
  |_,_,_=>False
 | .makeSlice t l c=>
  match ev s l,ev s c with
  |some a,some b=>mG P A mk t a b s C
  |_,_=>False
 | .slice t x lo hi mx=>
  match ev s x,p8 s lo,p8 s hi,p8 s mx with
  |some v,some a,some b,some c=>wF P A t v a b c fun r=>C r s
  |_,_,_,_=>False
 | .fieldAddr t x f=>
  match ev s x with
  |some v=>mF P A t v f fun r=>C r s
  |none=>False
 | .field t x f=>
  match ev s x with
  |some v=>match uy (P ()) t v f with|some r=>C r s|none=>False
  |none=>False
 | .indexAddr t x i=>
  match ev s x,ev s i with
  |some v,some j=>kq P A t v j fun r=>C r s
  |_,_=>False
 | .index t x i=>
  match ev s x,ev s i with
  |some v,some j=>BU P A t v j fun r=>C r s
  |_,_=>False
 | .extract x i=>
  match ev s x with
  |some (.tuple vs)=>match vs.toList[i]? with|some v=>C v s|none=>False
  |_=>False
 | .call { callee:=.builtin b,args,argTypes }=>
  match zL s args.toList with
  |some l=>
   match b,l with
   | .len,[x]=>match argTypes.toList with | [t]=>ym P A t x fun v=>C v s|_=>False
   | .cap,[.slice _ _ c]=>match argTypes.toList with | [t]=>(match (P ()).underlying t with|some (.slice _)=>A.lt c aS/\A.sj fun _=>C (.int .i64 (A.ofNat c)) s|_=>False)|_=>False
   | .max,x :: r=>oh A.imax x r fun v=>C v s
   | .min,x :: r=>oh A.uM x r fun v=>C v s
   | .append,l=>A.app argTypes.toList l s.h fun a n c h'=>C (.slice a n c) { s with h:=h' }
   | .copy,l=>A.Pw argTypes.toList l s.h fun n h'=>C (.int .i64 n) { s with h:=h' }
   | .clear,l=>∃h',A.Uw argTypes.toList l s.h h'/\A.sj fun _=>C undef { s with h:=h' }
   |_,_=>False
  |none=>False
 | .makeMap _ none=>C (.map (some (A.next s.h))) { s with h:=A.Jz s.h }
 | .lookup t x i ok=>
  match (P ()).underlying t,ev s x,ev s i with
  |some (.map _ e),some a,some b=>Rh P e fun v=>∃r,A.Jy t a b s.h v r/\A.sj fun _=>C (found ok v r) s
  |_,_,_=>False
 | .mapUpdate t m k x=>
  match ev s m,ev s k,ev s x with
  |some a,some b,some c=>∃h',A.Gj t a b c s.h h'/\A.sj fun _=>C undef { s with h:=h' }
  |_,_,_=>False
 | .insert t m k x=>
  match ev s m,ev s k,ev s x with
  |some a,some b,some c=>∃h',A.Gj t a b c s.h h'/\A.sj fun _=>C undef { s with h:=h' }
  |_,_,_=>False
 |_=>False
def j6(yn:Nat->Nat)(s:SS)(c:Call):Option (FuncId×List Value):=
 match c.callee with
 | .value x=>
  match ev s x,zL s c.args.toList with
  |some (.func (.func f) first captured),some l=>bif l.all dA && Nat.blt f aW then some (f,first.toList++l++captured.toList)else none
  |some (.func (.yield y) _ _),some l=>bif l.all dA then some (yn y,l)else none
  |_,_=>none
 |_=>none
def Ab(nt:Nat)(s:SS)(dst:Option Tmp)(v:Value)(C:SS->Prop):Prop:=
 match dst with
 |none=>C s
 |some d=>bif Nat.blt d nt then C { s with env:=(d,v) :: s.env } else False
def qV(P:Unit->Program)(dst:Option Tmp)(t:TypeId)(v:Value)(C:Value->Prop):Prop:=
 match dst with
 |none=>C v
 |some _=>seen P t v C
def HQ(P:Unit->Program)(H:Hint)(A:bH)(f:FuncId)(o:Oper)(s:SS)(C:Value->SS->Prop):Prop:=
 match dU o.op with
 |some c=>
  match j6 A.yn s c with
  |some (g,args)=>A.call g args s.h fun v h'=>qV P o.dst o.type v fun v=>C v { s with h:=h' }
  |none=>False
 |none=>wpOp P A (Px A) (fj H f o) o.op s C
def oq(ops:Array Oper)(o:Oper)(s:SS)(go skip:SS->Prop):Prop:=
 match o.guard with
 |none=>go s
 |some (j,want)=>
  match (ops[j]?).bind (·.dst)with
  |some d=>
   match lk s.env d with
   |some (.bool b)=>
    match want with
    |true=>fork b (fun _=>go { s with env:=(d,.bool true) :: s.env }) (fun _=>skip { s with env:=(d,.bool false) :: s.env })
    |false=>fork b (fun _=>skip { s with env:=(d,.bool true) :: s.env }) (fun _=>go { s with env:=(d,.bool false) :: s.env })
   |some (.tuple vs)=>bif vs.toList.isEmpty then skip s else False
   |_=>False
  |none=>False
def wpOps(P:Unit->Program)(H:Hint)(A:bH)(f:FuncId)(nt:Nat)(ops:Array Oper):List Oper->SS->(SS->Prop)->Prop
 | [],s,Q=>Q s
 |o :: rest,s,Q=>
  oq ops o s
   (fun s=>HQ P H A f o s fun v s'=>Ab nt s' o.dst v fun qM=>wpOps P H A f nt ops rest qM Q)
   (fun s=>Ab nt s o.dst undef fun s'=>wpOps P H A f nt ops rest s' Q)
def Ri(s:SS):List Operand->Option Value
 |x :: _=>ev s x
 | []=>none
def Rj(o:Op)(loc:Bool)(id tag:Nat)(s:SS):FP:=
 bif bM o then .none else
 match o with
 | .alloc _ | .box _ _=>bif loc then .new true tag else .new false id
 | .buildSlice _ _ _ | .makeSlice _ _ _=>.new false id
 | .load _ x | .store _ x _=>
  match ev s x with
  |some (.pointer (some a))=>.block a.spot.isSome a.block
  |_=>.all
 | .convert _ _ x=>
  match ev s x with
  |some (.slice (some a) _ _)=>bif a.spot.isNone then .block false a.block else .none
  |_=>.none
 | .call { callee:=.builtin .append,args,argTypes }=>.app (Dd (Ri s args.toList))
 |_=>.all
def small:Op->Bool
 | .load .. | .store .. | .alloc _ | .box .. | .buildSlice .. | .makeSlice .. | .convert ..=>true
 |o=>bM o
def yo(A:bH)(dD:Nat)(x:FP)(wx:Bool)(y:FP)(wy:Bool)(C:Prop):Prop:=
 match x with
 | .none=>C
 | .all=>match y with | .none=>C|_=>False
 | .app _=>match y with | .none=>C|_=>False
 | .block l b=>
  match y with
  | .none=>C
  | .all=>cond l C (A.kp wx wy l b dD/\C)
  | .app c=>cond l C (A.yk wx wy l b dD c/\C)
  | .block l' b'=>cond (wx || wy) (cond (l == l') (A.ne b b'/\C) C) C
  | .new l' b'=>cond (l == l') (A.ne b b'/\C) C
 | .new l b=>
  match y with
  | .none=>C
  | .all=>wy=false/\C
  | .app c=>A.yk false wy l b dD c/\C
  | .block l' b'=>cond (l == l') (A.ne b b'/\C) C
  | .new l' b'=>cond (l == l') (A.ne b b'/\C) C
def jz(A:bH)(ops:Array Oper)(dD:Nat)(p:Nat)(x:FP)(wx:Bool):List (Nat×FP×Bool)->Prop->Prop
 | [],C=>C
 |(q,y,wy) :: r,C=>bif prec (Region.before ops) p q then jz A ops dD p x wx r C else yo A dD x wx y wy (jz A ops dD p x wx r C)
def qW(A:bH)(ops:Array Oper)(dD:Nat):List (Nat×FP×Bool)->Prop->Prop
 | [],C=>C
 |(p,x,wx) :: r,C=>jz A ops dD p x wx r (qW A ops dD r C)
def kG(P:Unit->Program)(H:Hint)(A:bH)(f:FuncId)(nt:Nat)(ops:Array Oper)(base aP:Nat):List Nat->Nat->SS->(SS->List (Nat×FP×Bool)->Prop)->Prop
 | [],_,s,Q=>Q s []
 |p :: rest,i,s,Q=>
  match ops[p]? with
  |none=>False
  |some o=>
   oq ops o s
    (fun s=>
     match dU o.op with
     |some c=>
      match j6 A.yn s c with
      |some (g,args)=>A.call g args (A.fresh s.h) fun v h'=>qV P o.dst o.type v fun v=>
        Ab nt { s with h:=A.aB s.h h' } o.dst v fun qM=>kG P H A f nt ops base aP rest (i+1) qM fun r iB=>Q r ((p,.all,A.wrote s.h h') :: iB)
      |none=>False
     |none=>
      bif small o.op then
       wpOp P A (uP A (A.bZ base i) (aP+i)) (fj H f o) o.op s fun v s'=>
        Ab nt s' o.dst v fun qM=>kG P H A f nt ops base aP rest (i+1) qM fun r iB=>Q r ((p,Rj o.op (fj H f o) (A.bZ base i) (aP+i) s,iN o.op) :: iB)
      else
       wpOp P A (uP A (A.bZ base i) (aP+i)) (fj H f o) o.op { s with h:=A.fresh s.h } fun v s'=>
        Ab nt { s' with h:=A.aB s.h s'.h } o.dst v fun qM=>kG P H A f nt ops base aP rest (i+1) qM fun r iB=>Q r ((p,Rj o.op (fj H f o) (A.bZ base i) (aP+i) s,A.wrote s.h s'.h) :: iB))
    (fun s=>Ab nt s o.dst undef fun s'=>kG P H A f nt ops base aP rest (i+1) s' fun r iB=>Q r ((p,.none,false) :: iB))
def BV(P:Unit->Program)(H:Hint)(A:bH)(f:FuncId)(nt:Nat)(ops:Array Oper)(s:SS)(Q:SS->Prop):Prop:=
 bif nR ops (fY ops)then
  kG P H A f nt ops (A.next s.h) s.kn (fY ops) 0 { s with kn:=s.kn+ops.size,h:=A.aH s.h ops.size } fun s' iB=>qW A ops (A.bZ (A.next s.h) ops.size) iB (Q s')
 else False
def HS(H:Hint)(f:FuncId)(c:Code)(kn:Nat)(s:SS):Option SS:=
 match H.dL f (keyOf c)with
 |none=>some s
 |some l=>
  bif Nat.ble kn s.kn && l.all (fun t=>match lk s.env t with|some v=>sV kn v|none=>false)then some { s with env:=pZ s.env l,kn:=kn,K:=pZ s.K (List.range kn) } else none
def JA(next:SS->Prop)(Q:Exit->SS->Prop):Exit->SS->Prop
 | .normal,s=>next s
 |x,s=>Q x s
def Gk(id:Nat)(Q:Exit->SS->Prop):Exit->SS->Prop
 | .exit pF,s=>fork (Nat.beq pF id) (fun _=>Q .normal s) (fun _=>Q (.exit pF) s)
 |x,s=>Q x s
def wpS(P:Unit->Program)(H:Hint)(A:bH)(V:Live)(f:FuncId)(nt:Nat)(c:Code)(s:SS)(Q:Exit->SS->Prop):Prop:=
 match c with
 | .skip=>Q .normal s
 | .ret=>Q .ret s
 | .exit id=>Q (.exit id) (fS s (V.di f id))
 | .seq a b=>wpS P H A V f nt a s (JA (fun s'=>wpS P H A V f nt b s' Q) Q)
 | .cond x a b=>
  match ev s x with
  |some (.bool t)=>fork t (fun _=>wpS P H A V f nt a s Q) (fun _=>wpS P H A V f nt b s Q)
  |_=>False
 | .block id b=>wpS P H A V f nt b s (Gk id Q)
 | .loop b=>
  match HS H f b s.kn s with
  |some s0=>A.head f (keyOf b) s.kn (fS s0 (V.loop f (keyOf b))) Q
  |none=>False
 | .region id ops draw=>bif draw then BV P H A f nt ops (fS s (V.Pv f id)) (Q .normal)else wpOps P H A f nt ops ops.toList (fS s (V.Pv f id)) (Q .normal)
 | .rangeFunc _ _ as _=>A.uO f (keyOf as) s Q
 |_=>False
def wG(P:Unit->Program)(H:Hint)(A:bH)(V:Live)(f:FuncId)(nt:Nat)(b:Code)(kn:Nat)(s:SS)(Q:Exit->SS->Prop):Prop:=
 wpS P H A V f nt b s (JA (fun s'=>
   match HS H f b kn s' with
   |some s1=>A.head f (keyOf b) kn (fS s1 (V.loop f (keyOf b))) Q
   |none=>False) Q)
def oU(P:Unit->Program)(A:bH)(s:SS):List ResultVar->(List Value->Prop)->Prop
 | [],C=>C []
 | .tmp t :: r,C=>
  match lk s.env t with
  |some v=>oU P A s r fun l=>C (v :: l)
  |none=>False
 | .cell a t :: r,C=>
  match lk s.env a with
  |some (.pointer (some x))=>qe P A s t x fun v=>oU P A s r fun l=>C (v :: l)
  |_=>False
def rT:List Value->Nat->List (Nat×Value)->List (Nat×Value)
 | [],_,acc=>acc
 |v :: r,i,acc=>rT r (i+1) ((i,v) :: acc)
def BW(P:Unit->Program)(H:Hint)(A:bH)(V:Live)(f:FuncId)(fn:Func)(key kn:Nat)(s:SS)(Q:Exit->SS->Prop):Prop:=
 match fn.body with
 |some c=>
  match (bF c).filter (fun b=>Nat.beq (keyOf b) key)with
  | [b]=>(∀r∈bG c,bD r.2.2.1=true/\bD r.2.2.2=true)/\wG P H A V f fn.ntmps b kn s Q
  |_=>False
 |none=>False
def SY(P:Unit->Program)(A:bH)(rs:List ResultVar)(Q:Value->af->Prop):Exit->SS->Prop
 | .normal,s=>oU P A s rs fun l=>bif l.all dA then Q (js l) s.h else False
 | .ret,s=>oU P A s rs fun l=>bif l.all dA then Q (js l) s.h else False
 |_,_=>False
def DZ(P:Unit->Program)(H:Hint)(A:bH)(V:Live)(g:FuncId)(fn:Func)(args:List Value)(h:af)(Q:Value->af->Prop):Prop:=
 match fn.body with
 |some c=>wpS P H A V g fn.ntmps c ⟨rT args 0 [],0,[],h⟩ (SY P A fn.results.toList Q)
 |none=>False
end Go.cV
namespace Go.cV
theorem beq_eq(a b:Nat):Nat.beq a b=decide (a=b):=by
 cases h:Nat.beq a b with
 |true=>simp[Nat.eq_of_beq_eq_true h]
 |false=>simp[Nat.ne_of_beq_eq_false h]
theorem kN{b:Bool}{A:Prop}(h:bif b then A else False):b=true/\A:=by
 cases b with
 |true=>exact⟨rfl,h⟩
 |false=>exact h.elim
theorem Rk{α:Type}(l:List (Nat×α))(t:Nat):(E l).get t=lk l t:=by
 induction l with
 |nil=>rfl
 |cons p l ih=>
  obtain⟨a,v⟩:=p;simp only[E,lk,cW.bO,beq_eq,ih];by_cases h:a=t<;>simp[h]
theorem k9{α:Type}(a:Nat)(v:α)(l:List (Nat×α))(t:Nat):lk ((a,v) :: l) t=if a=t then some v else lk l t:=by
 simp only[lk,beq_eq];by_cases h:a=t<;>simp[h]
theorem qg{α:Type}(l:List (Nat×α)):∀(ks:List Nat) (t:Nat) (v:α),lk (pZ l ks) t=some v->lk l t=some v
 | [],t,v,h=>by cases h
 |k :: ks,t,v,h=>by
  simp only[pZ]at h;split at h
  ·rename_i u hu
   rw[k9]at h;by_cases e:k=t
   ·subst e;simp at h;subst h;exact hu
   ·rw[if_neg e]at h;exact qg l ks t v h
  ·exact qg l ks t v h
theorem Le.fS{s:SS}{t:St}(h:Le s t)(l:Option (List Tmp)):Le (fS s l) t:=by
 unfold cV.fS;split
 ·exact h
 ·exact⟨fun i v hv=>h.env i v (qg _ _ _ _ hv),h.K,h.kn,h.h⟩
theorem L9{sv:Sv}{C:Value->Prop}(h:VP sv C):∃v,C v:=by
 cases sv<;>simp only[VP]at h
 ·obtain⟨n,h⟩:=h;exact⟨_,h⟩
 ·obtain⟨n,h⟩:=h;exact⟨_,h⟩
 ·obtain⟨n,h⟩:=h;exact⟨_,h⟩
 ·obtain⟨a,n,c,h⟩:=h;exact⟨_,h⟩
 ·obtain⟨a,n,h⟩:=h;exact⟨_,h⟩
 ·exact h
theorem Gl:∀{l:List Sv} {C:List Value->Prop},VQ l C->∃v,C v
 | [],C,h=>⟨[],h⟩
 |s :: r,C,h=>by
  obtain⟨v,h⟩:=L9 h;obtain⟨l,h⟩:=Gl h;exact⟨_,h⟩
theorem BX{P:Unit->Program}{t:TypeId}{C:Value->Prop}(h:Rh P t C):∃v,C v:=by
 unfold Rh at h;split at h
 ·obtain⟨l,h⟩:=Gl h;exact⟨_,h⟩
 ·exact L9 h
theorem HT{P:Unit->Program}:∀{l:List TypeId} {C:List Value->Prop},LV P l C->∃v,C v
 | [],C,h=>⟨[],h⟩
 |s :: r,C,h=>by
  obtain⟨v,h⟩:=BX h;obtain⟨l,h⟩:=HT h;exact⟨_,h⟩
theorem Py{P:Unit->Program}{t:TypeId}{v:Value}{C:Value->Prop}(h:seen P t v C):C v:=by
 unfold seen at h;split at h
 ·obtain⟨l,e,h2⟩:=HT h;rw[e];exact h2
 ·obtain⟨l,e,h2⟩:=BX h;rw[e];exact h2
theorem yp{P:Unit->Program}{d:Option Tmp}{t:TypeId}{v:Value}{C:Value->Prop}(h:qV P d t v C):C v:=by
 unfold qV at h;split at h
 ·exact h
 ·exact Py h
theorem Le.ev{s:SS}{t:St}(h:Le s t){x:Operand}{v:Value}(hx:ev s x=some v):bJ t x=some v:=by
 cases x with
 |tmp i=>exact h.env i v hx
 |const c=>exact hx
 |global g=>cases hx
 |func f=>exact hx
theorem Le.zL{s:SS}{t:St}(h:Le s t):∀{x:List Operand} {v:List Value},zL s x=some v->gX t x=some v
 | [],v,hx=>hx
 |x :: r,v,hx=>by
  simp only[cV.zL]at hx;split at hx
  ·rename_i u hu
   split at hx
   ·rename_i l hl
    simp only[gX,h.ev hu,h.zL hl];exact hx
   ·cases hx
  ·cases hx
structure Gm(X:af->af):Prop where
 m:∀h,(X h).m=h.m
 next:∀h,(X h).next=h.next
 write:∀h b o vs h2,(X h).write b o vs=some h2->∃h1,h.write b o vs=some h1/\X h1=h2
 push:∀h es cs,X (h.push es cs)=(X h).push es cs
 putAt:∀h id es cs,X (h.putAt id es cs)=(X h).putAt id es cs
theorem Gm.id:Gm (fun h=>h):=⟨fun _=>rfl,fun _=>rfl,fun h b o vs h2 e=>⟨h2,e,rfl⟩,fun _ _ _=>rfl,fun _ _ _ _=>rfl⟩
theorem Gm.aB(L:Nat):Gm (fun h=>h.aB L):=by
 refine⟨fun _=>rfl,fun _=>rfl,fun h b o vs h2 e=>?_,fun _ _ _=>rfl,fun _ _ _ _=>rfl⟩;unfold af.write at e ⊢;simp only[af.aB]at e;split at e
 ·rename_i es cs hm
  split at e
  ·rename_i lE hs
   simp only[oi]at e;refine⟨_,rfl,?_⟩;subst e;simp[af.aB,Nat.min_assoc]
  ·cases e
 ·cases e
def ma(X:af->af)(t:St):St:={ t with h:=X t.h }
def Ma(X:af->af)(mk:kF)(m:lK)(s:SS):Prop:=
 ∀loc es cs C,cs.all aF=true->mk loc es cs s C->∃v t' s',m loc es cs=some (v,t')/\Le s' (ma X t')/\C v s'
section
variable{X:af->af}{s:SS}{t:St}{P0:Program}{H0:Hint}{F0:bg}
theorem AR(hX:Gm X)(hs:Le s (ma X t)){a:Addr}{n:Nat}{views:List Sv}{C:List Value->Prop}(h:mS (bk P0 H0 F0) s a n views C):∃l,t.read a n=some l/\C l:=by
 unfold mS at h;split at h
 ·rename_i jH
  obtain⟨l,Yb,hC⟩:=Gl h;have hr:s.h.aN ⟨a.block,a.off,none⟩ n=some l:=Yb;refine⟨l,?_,hC⟩;unfold af.aN at hr;simp only[]at hr;unfold St.read St.cells?;rw[jH];simp only[];have e:s.h.cells? a.block=t.h.cells? a.block:=by
   rw[<-hs.h];unfold af.cells?;rw[show(ma X t).h.m=t.h.m from hX.m _]
  rw[e]at hr;exact hr
 ·rename_i x jH
  cases hb:Nat.blt a.block s.kn with
  |false=>rw[hb]at h;exact absurd h (by simp)
  |true=>
   rw[hb]at h;simp only[cond_true]at h;split at h
   ·rename_i cs wv
    split at h
    ·rename_i l hl
     refine⟨l,?_,h⟩;unfold St.read St.cells?;rw[jH];simp only[];rw[show t.kn=s.kn from hs.kn,hb,show t.K.get a.block=some cs from hs.K _ _ wv];simp only[cond_true];exact hl
    ·exact h.elim
   ·exact h.elim
theorem AS{P:Unit->Program}(hX:Gm X)(hs:Le s (ma X t)){a:Addr}{ty:TypeId}{C:Value->Prop}(h:qe P (bk P0 H0 F0) s ty a C):∃v,sT (P ()) t ty a=some v/\C v:=by
 unfold qe at h;unfold sT;split at h
 ·rename_i FE
  split at h
  ·rename_i n hn
   obtain⟨l,hr,hC⟩:=AR hX hs h;simp only[FE,hn,hr];exact⟨_,rfl,hC⟩
  ·exact h.elim
 ·rename_i FE
  obtain⟨l,hr,hC⟩:=AR hX hs h;simp only[FE,hr];split at hC
  ·exact⟨_,rfl,hC⟩
  ·exact hC.elim
 ·exact h.elim
theorem Gn(hX:Gm X)(hs:Le s (ma X t)){a:Addr}{vs:List Value}{C:SS->Prop}(h:wD (bk P0 H0 F0) s a vs C):∃t' s',t.write a vs=some t'/\Le s' (ma X t')/\C s':=by
 unfold wD at h;unfold St.write;cases fF:vs.all aF with
 |false=>rw[fF]at h;exact absurd h (by simp)
 |true=>
  rw[fF]at h;simp only[cond_true]at h ⊢;split at h
  ·rename_i jH
   obtain⟨h',kH,hC⟩:=h;have hw:s.h.write a.block a.off vs=some h':=kH;rw[show s.h=X t.h from hs.h.symm]at hw;obtain⟨h1,oV,rfl⟩:=hX.write _ _ _ _ _ hw;simp only[jH,oV];exact⟨{ t with h:=h1 },{ s with h:=X h1 },rfl,⟨hs.env,hs.K,hs.kn,rfl⟩,hC⟩
  ·rename_i x jH
   cases hb:Nat.blt a.block s.kn with
   |false=>rw[hb]at h;exact absurd h (by simp)
   |true=>
    rw[hb]at h;simp only[cond_true]at h;split at h
    ·rename_i cs wv
     split at h
     ·rename_i lE rG
      rw[show t.kn=s.kn from hs.kn,hb,show t.K.get a.block=some cs from hs.K _ _ wv];simp only[jH,cond_true,rG];refine⟨_,{ s with K:=(a.block,lE) :: s.K },rfl,⟨hs.env,fun i v hv=>?_,rfl,hs.h⟩,h⟩;rw[k9]at hv;show(t.K.set a.block lE).get i=some v;rw[cW.bO];by_cases e:a.block=i
      ·rw[if_pos e]at hv ⊢;exact hv
      ·rw[if_neg e]at hv ⊢;exact hs.K _ _ hv
     ·exact h.elim
    ·exact h.elim
theorem Gp{P:Unit->Program}(hX:Gm X)(hs:Le s (ma X t)){a:Addr}{ty:TypeId}{v:Value}{C:SS->Prop}(h:wE P (bk P0 H0 F0) s ty a v C):∃t' s',mN (P ()) t ty a v=some t'/\Le s' (ma X t')/\C s':=by
 unfold wE at h;unfold mN;split at h
 ·rename_i n hn
  rw[hn];obtain⟨hb,h⟩:=kN h;simp only[hb,cond_true];exact Gn hX hs h
 ·exact h.elim
end
theorem uQ{k k':IntKind}(h:iD k k'=true):k=k':=of_decide_eq_true h
theorem Mb {P0 : Program} {H0 : Hint} {F0 : bg} {P : Unit → Program} {op : BinOp} {ty : TypeId} {k k' : IntKind} {a b : Int} {C : Value → Prop} (h : LX (bk P0 H0 F0) op k k' a b C) : ∃ v, wZ (P ()) op ty (.int k a) (.int k' b) = some v ∧ C v := by
  unfold LX at h
  unfold wZ
  simp only []
  split at h
  · obtain ⟨h0, hC⟩ := h
    have VS : 0 ≤ b := h0
    refine ⟨_, ?_, hC⟩
    simp only [qL]; rw [if_neg om]; rfl
  · obtain ⟨h0, hC⟩ := h
    have VS : 0 ≤ b := h0
    refine ⟨_, ?_, hC⟩
    simp only [qL]; rw [if_neg om]; rfl
  · obtain ⟨hk, h0, hC⟩ := kN h
    have VS : b ≠ 0 := h0
    refine ⟨_, ?_, hC⟩
    simp only [vi]; rw [if_pos (uQ hk), if_neg VS]; rfl
  · obtain ⟨hk, h0, hC⟩ := kN h
    have VS : b ≠ 0 := h0
    refine ⟨_, ?_, hC⟩
    simp only [vi]; rw [if_pos (uQ hk), if_neg VS]; rfl
  all_goals first
    | exact h.elim
    | (obtain ⟨hk, hC⟩ := kN h
       refine ⟨_, ?_, hC⟩
       simp only [vi]; rw [if_pos (uQ hk)]; rfl)
theorem Mc{P0:Program}{H0:Hint}{F0:bg}{op:BinOp}{a b:ByteArray}{C:Value->Prop}(h:LY (bk P0 H0 F0) op a b C):∃v,C8 op a b=some v/\C v:=by
 unfold LY at h;split at h
 ·obtain⟨h0,hC⟩:=h
  refine⟨_,?_,hC⟩;simp only[C8];rw[bz h0];rfl
 all_goals first
  |exact h.elim
  |exact⟨_,rfl,h⟩
theorem Md{H0:Hint}{F0:bg}{P:Unit->Program}{op:BinOp}{ty:TypeId}{x y:Value}{C:Value->Prop}(h:LZ P (bk (P ()) H0 F0) op ty x y C):∃v,wZ (P ()) op ty x y=some v/\C v:=by
 unfold LZ at h;split at h
 ·exact Mb h
 ·exact Mc h
 ·rename_i a b
  unfold wZ;simp only[];split at h
  ·rename_i hu
   simp only[hu];exact⟨_,rfl,h⟩
  ·rename_i hu
   simp only[hu];exact⟨_,rfl,h⟩
  ·exact h.elim
 ·rename_i a b
  unfold wZ;simp only[wo,jo,Bool.true_and];split at h
  ·obtain⟨h0,r,hr,hC⟩:=h
   refine⟨_,?_,hC⟩;rw[h0];simp only[Bool.not_false,cond_true,hr]
  ·obtain⟨h0,r,hr,hC⟩:=h
   refine⟨_,?_,hC⟩;rw[h0];simp only[Bool.not_false,cond_true,hr];rfl
  ·exact h.elim
 ·split at h
  ·rename_i v hv
   exact⟨v,hv,h⟩
  ·exact h.elim
theorem Pz{P0:Program}{H0:Hint}{F0:bg}{op:UnOp}{x:Value}{C:Value->Prop}(h:SX (bk P0 H0 F0) op x C):∃v,U4 op x=some v/\C v:=by
 unfold SX at h;split at h
 ·exact⟨_,rfl,h⟩
 ·exact⟨_,rfl,h⟩
 ·split at h
  ·rename_i v hv;exact⟨v,hv,h⟩
  ·exact h.elim
theorem JB{P0:Program}{H0:Hint}{F0:bg}{P:Unit->Program}{src dst:TypeId}{x:Value}{C:Value->Prop}(h:BT P (bk P0 H0 F0) src dst x C):∃v,C9 (P ()) src dst x=some v/\C v:=by
 unfold BT at h;unfold C9;split at h
 ·rename_i h1 h2
  simp only[h1,h2];exact⟨_,rfl,h⟩
 ·rename_i h1 h2
  simp only[h1,h2];exact⟨_,rfl,h⟩
 ·exact h.elim
theorem Me{P0:Program}{H0:Hint}{F0:bg}{P:Unit->Program}{ty:TypeId}{x:Value}{C:Value->Prop}(h:ym P (bk P0 H0 F0) ty x C):∃v,KV (P ()) ty x=some v/\C v:=by
 unfold ym at h;unfold KV;split at h
 ·rename_i h1
  simp only[h1];exact⟨_,rfl,h⟩
 ·rename_i h1
  simp only[h1];exact⟨_,rfl,h⟩
 ·rename_i h1
  simp only[h1];exact⟨_,rfl,h⟩
 ·rename_i h1
  simp only[h1];split at h
  ·rename_i h2
   simp only[h2];exact⟨_,rfl,h⟩
  ·exact h.elim
 ·exact h.elim
theorem D3{P0:Program}{H0:Hint}{F0:bg}:∀{r:List Value} {x:Value} {C:Value->Prop},oh (bk P0 H0 F0).imax x r C->∃v,rK w7 x r=some v/\C v
 | [],x,C,h=>by simp only[oh]at h;exact⟨x,rfl,h⟩
 |y :: r,x,C,h=>by
  unfold oh at h;split at h
  ·rename_i e;cases e
  ·rename_i k a k' b r' e
   simp only[List.cons.injEq]at e;obtain⟨rfl,rfl⟩:=e;simp only[rK,w7];exact D3 h
  ·exact h.elim
theorem D4{P0:Program}{H0:Hint}{F0:bg}:∀{r:List Value} {x:Value} {C:Value->Prop},oh (bk P0 H0 F0).uM x r C->∃v,rK w8 x r=some v/\C v
 | [],x,C,h=>by simp only[oh]at h;exact⟨x,rfl,h⟩
 |y :: r,x,C,h=>by
  unfold oh at h;split at h
  ·rename_i e;cases e
  ·rename_i k a k' b r' e
   simp only[List.cons.injEq]at e;obtain⟨rfl,rfl⟩:=e;simp only[rK,w8];exact D4 h
  ·exact h.elim
theorem Gq{H0:Hint}{F0:bg}{P:Unit->Program}{ty:TypeId}{x:Value}{lo hi mx:Option Value}{C:Value->Prop}(h:wF P (bk (P ()) H0 F0) ty x lo hi mx C):∃v,gO (P ()) ty x lo hi mx=some v/\C v:=by
 unfold wF at h;split at h
 ·split at h
  ·obtain⟨r,hr,hC⟩:=h;exact⟨_,hr,hC⟩
  ·exact h.elim
 ·rename_i e a n c hu
  split at h
  ·rename_i k j
   obtain⟨Pc,⟨h0,h1⟩,hC⟩:=kN h;obtain⟨z,hz⟩:=Option.isSome_iff_exists.1 Pc;refine⟨_,?_,hC⟩;unfold gO;rw[hu];simp only[hz,lL,gH,iM,ik,bound];rw[if_pos ⟨h0,h1⟩];simp only[];rw[bz (show j.toNat<=cO c by omega)];simp only[cond_true,Option.isSome_none,Bool.or_false,Nat.sub_zero,Nat.zero_mul];have ZE:a.map (gi · 0)=a:=by cases a<;>rfl
   by_cases hc:c<aS
   ·rw[eE hc,fu hc,ZE]
    simp only[cond_true];cases Nat.beq c 0<;>rfl
   ·rw[cJ om]
    rfl
  ·obtain⟨a',n',c',hr,hC⟩:=h;exact⟨_,hr,hC⟩
 ·obtain⟨a',n',c',hr,hC⟩:=h;exact⟨_,hr,hC⟩
 ·exact h.elim
theorem yq{P0:Program}{H0:Hint}{F0:bg}{P:Unit->Program}{ty:TypeId}{x ix:Value}{C:Value->Prop}(h:kq P (bk P0 H0 F0) ty x ix C):∃v,lO (P ()) ty x ix=some v/\C v:=by
 unfold kq at h;unfold lO;split at h
 ·rename_i hu
  split at h
  ·rename_i n hn
   obtain⟨⟨h0,h1⟩,hC⟩:=h;simp only[hu,hn];rw[if_pos ⟨h0,h1⟩];exact⟨_,rfl,hC⟩
  ·exact h.elim
 ·rename_i hu
  split at h
  ·rename_i n hn
   obtain⟨b,o,rfl,⟨h0,h1⟩,hC⟩:=h;simp only[hu,hn];rw[if_pos ⟨h0,h1⟩];exact⟨_,rfl,hC⟩
  ·exact h.elim
 ·exact h.elim
theorem yr{P0:Program}{H0:Hint}{F0:bg}{P:Unit->Program}{ty:TypeId}{x:Value}{f:Nat}{C:Value->Prop}(h:mF P (bk P0 H0 F0) ty x f C):∃v,lM (P ()) ty x f=some v/\C v:=by
 unfold mF at h;unfold lM;split at h
 ·rename_i fs a hu
  split at h
  ·rename_i fd hfd
   split at h
   ·rename_i n hn
    cases hb:Nat.beq n 0 with
    |true=>rw[hb]at h;exact h.elim
    |false=>
     rw[hb]at h;simp only[hu,hfd,hn,hb,cond_false]at h ⊢;refine⟨_,rfl,?_⟩;obtain⟨b,o,sp⟩:=a;cases sp<;>exact h
   ·exact h.elim
  ·exact h.elim
 ·exact h.elim
theorem Gr{H0:Hint}{F0:bg}{P:Unit->Program}{ty:TypeId}{x ix:Value}{C:Value->Prop}(h:BU P (bk (P ()) H0 F0) ty x ix C):∃v,w6 (P ()) ty x ix=some v/\C v:=by
 unfold BU at h;unfold w6;split at h
 ·rename_i hu
  split at h
  ·rename_i n hn
   obtain⟨⟨h0,h1⟩,hC⟩:=h;obtain⟨v,hv,hC⟩:=BX hC;simp only[hu,hn];rw[if_pos ⟨h0,h1⟩];refine⟨v,?_,hC⟩;have VF:kL (P ()) _ _ (0+_)=some v:=hv;rw[Nat.zero_add]at VF;exact VF
  ·exact h.elim
 ·rename_i hu
  obtain⟨h0,b,hb,hC⟩:=h;simp only[hu];rw[if_pos h0];simp only[hb];exact⟨_,rfl,hC⟩
 ·exact h.elim
theorem yw{z:List Value}(hz:z.all aF=true):∀n,(bE z n).all aF=true
 |0=>rfl
 |n+1=>by simp only[bE,List.all_append,hz,yw hz n,Bool.and_self]
section
variable{P:Unit->Program}{X:af->af}{mk:kF}{m:lK}{s:SS}{t:St}{P0:Program}{H0:Hint}{F0:bg}
theorem yx(hm:Ma X mk m s){ty:TypeId}{l c:Value}{C:Value->SS->Prop}(h:mG P (bk P0 H0 F0) mk ty l c s C):∃v t' s',fP (P ()) m ty l c=some (v,t')/\Le s' (ma X t')/\C v s':=by
 unfold mG at h;unfold fP;split at h
 ·rename_i hu
  split at h
  ·rename_i n z by_ hn hz rN
   obtain⟨hb,h⟩:=kN h;simp only[Bool.and_eq_true]at hb;obtain⟨⟨Fq,vZ⟩,hb3⟩:=hb;obtain⟨⟨h0,h1,h2⟩,hC⟩:=h;obtain⟨v,t',s',hv,hl,hC⟩:=hm _ _ _ _ (yw hb3 _) hC;simp only[hu,hn,hz,rN];rw[if_pos ⟨h0,h1,h2,Nat.le_of_ble_eq_true Fq,Nat.eq_of_beq_eq_true vZ⟩];rw[hv];split at hC
   ·exact⟨_,_,_,rfl,hl,hC⟩
   ·exact hC.elim
  ·exact h.elim
 ·exact h.elim
theorem wa(hm:Ma X mk m s){ty:TypeId}{len:Nat}{parts:List (Nat×Value)}{C:Value->SS->Prop}(h:kZ P mk ty len parts s C):∃v t' s',fg (P ()) m ty len parts=some (v,t')/\Le s' (ma X t')/\C v s':=by
 unfold kZ at h;unfold fg;split at h
 ·rename_i hu
  split at h
  ·rename_i n z hn hz
   simp only[hu,hn,hz];obtain⟨hb,h⟩:=kN h;rw[hb];simp only[cond_true];split at h
   ·rename_i cs wv
    simp only[wv];obtain⟨fF,h⟩:=kN h;obtain⟨v,t',s',hv,hl,hC⟩:=hm _ _ _ _ fF h;rw[hv];split at hC
    ·exact⟨_,_,_,rfl,hl,hC⟩
    ·exact hC.elim
   ·exact h.elim
  ·exact h.elim
 ·exact h.elim
end
end Go.cV
namespace Go.cV
theorem tz{b:Bool}{A B:Prop}(h:cond b A B):(b=true/\A)\/(b=false/\B):=by
 cases b with
 |true=>exact .inl ⟨rfl,h⟩
 |false=>exact .inr ⟨rfl,h⟩
theorem HU{b:Bool}{x y:Unit->Prop}(h:fork b x y):(b=true/\x ())\/(b=false/\y ()):=by
 cases b with
 |true=>exact .inl ⟨rfl,h⟩
 |false=>exact .inr ⟨rfl,h⟩
theorem JC{P:Program}{h:af}{t:TypeId}{x k v:Value}{r ok:Bool}(hl:kT P h t x k true=some (.tuple #[v,.bool r],h)):kT P h t x k ok=some (found ok v r,h):=by
 unfold kT at hl ⊢;split at hl
 ·split at hl
  ·rename_i kd z es h1 h2 h3
   cases hb:(iQ kd && isKey k)with
   |false=>rw[hb]at hl;cases hl
   |true=>
    rw[hb]at hl;simp only[cond_true]at hl ⊢;split at hl
    ·simp only[found,cond_true,oi,pj,Value.tuple.injEq,and_true]at hl
     simp at hl;obtain⟨rfl,rfl⟩:=hl;rfl
    ·simp only[found,cond_true,oi,pj,Value.tuple.injEq,and_true]at hl
     simp at hl;obtain⟨rfl,rfl⟩:=hl;rfl
    ·cases hl
  ·cases hl
 ·cases hl
theorem PA{P:Program}{h h':af}(e:h'.m=h.m)(src dst:TypeId)(a:Option Addr)(n:Nat):oQ P h' src dst a n=oQ P h src dst a n:=by
 unfold oQ af.aN af.cells?;rw[e]
theorem BY{P:Unit->Program}{H0:Hint}{F0:bg}{X:af->af}{mk:kF}{m:lK}{s:SS}{t:St}{loc:Bool}{o:Op}{C:Value->SS->Prop}(hX:Gm X)(hs:Le s (ma X t))(hm:Ma X mk m s)(uq:small o=true\/∀h,X h=h)(h:wpOp P (bk (P ()) H0 F0) mk loc o s C) :
  ∃v t' s',gE (P ()) m loc o t=some (v,t')/\Le s' (ma X t')/\C v s':=by
 have E1:∀{x:Operand} {v:Value},ev s x=some v->bJ t x=some v:=fun hx=>by
  have:=hs.ev hx;rename_i x v;cases x<;>exact this
 have E2:∀{x:List Operand} {v:List Value},zL s x=some v->gX t x=some v:=by
  intro x
  induction x with
  |nil=>intro v hx;exact hx
  |cons x r ih=>
   intro v hx;simp only[zL]at hx;split at hx
   ·rename_i u hu
    split at hx
    ·rename_i l hl
     simp only[gX,E1 hu,ih hl];exact hx
    ·cases hx
   ·cases hx
 have E3:∀{x:Option Operand} {v:Option Value},p8 s x=some v->jq t x=some v:=by
  intro x v hx;cases x with
  |none=>exact hx
  |some x=>
   simp only[p8]at hx;split at hx
   ·rename_i u hu
    simp only[jq,E1 hu];exact hx
   ·cases hx
 have E4:∀{x:List (Nat×Operand)} {v:List (Nat×Value)},jZ s x=some v->gm t x=some v:=by
  intro x
  induction x with
  |nil=>intro v hx;exact hx
  |cons x r ih=>
   obtain⟨i,x⟩:=x;intro v hx;simp only[jZ]at hx;split at hx
   ·rename_i u hu
    split at hx
    ·rename_i l hl
     simp only[gm,E1 hu,ih hl];exact hx
    ·cases hx
   ·cases hx
 unfold wpOp at h;split at h
 ·split at h
  ·rename_i v hv;exact⟨v,t,s,by simp only[gE,E1 hv],hs,h⟩
  ·exact h.elim
 ·split at h
  ·rename_i v hv;exact⟨v,t,s,by simp only[gE,E1 hv],hs,h⟩
  ·exact h.elim
 ·split at h
  ·rename_i b hb
   rcases HU h with ⟨rfl,h1⟩|⟨rfl,h1⟩
   ·clear h
    split at h1
    ·rename_i v hv;exact⟨v,t,s,by simp only[gE,E1 hb,E1 hv],hs,h1⟩
    ·exact h1.elim
   ·clear h
    split at h1
    ·rename_i v hv;exact⟨v,t,s,by simp only[gE,E1 hb,E1 hv],hs,h1⟩
    ·exact h1.elim
  ·exact h.elim
 ·split at h
  ·rename_i z n hz hn
   obtain⟨fF,h⟩:=kN h;obtain⟨v,t',s',hv,hl,hC⟩:=hm _ _ _ _ fF h;exact⟨v,t',s',by simp only[gE,hz,hn,hv],hl,hC⟩
  ·exact h.elim
 ·split at h
  ·rename_i z n hz hn
   obtain⟨fF,h⟩:=kN h;obtain⟨v,t',s',hv,hl,hC⟩:=hm _ _ _ _ fF h;exact⟨v,t',s',by simp only[gE,E1 hz,hn,hv],hl,hC⟩
  ·exact h.elim
 ·split at h
  ·rename_i l hl
   split at h
   ·rename_i v hv;exact⟨v,t,s,by simp only[gE,E4 hl,hv],hs,h⟩
   ·exact h.elim
  ·exact h.elim
 ·split at h
  ·rename_i l hl
   obtain⟨v,t',s',hv,hle,hC⟩:=wa hm h;exact⟨v,t',s',by simp only[gE,E4 hl,hv],hle,hC⟩
  ·exact h.elim
 ·split at h
  ·rename_i a ha
   obtain⟨v,hv,hC⟩:=AS hX hs h;exact⟨v,t,s,by simp only[gE,E1 ha,hv],hs,hC⟩
  ·exact h.elim
 ·split at h
  ·rename_i a v ha hv
   obtain⟨t',s',uD,hl,hC⟩:=Gp hX hs h;exact⟨_,t',s',by simp only[gE,E1 ha,E1 hv,uD],hl,hC⟩
  ·exact h.elim
 ·split at h
  ·rename_i a ha
   exact⟨_,t,s,by simp only[gE,E1 ha],hs,h⟩
  ·rename_i f first captured ha
   exact⟨_,t,s,by simp only[gE,E1 ha],hs,h⟩
  ·exact h.elim
 ·split at h
  ·rename_i a b ha hb
   obtain⟨v,hv,hC⟩:=Md h;exact⟨v,t,s,by simp only[gE,E1 ha,E1 hb,hv],hs,hC⟩
  ·exact h.elim
 ·split at h
  ·rename_i a ha
   obtain⟨v,hv,h⟩:=Pz h;exact⟨v,t,s,by simp only[gE,E1 ha,hv],hs,h⟩
  ·exact h.elim
 ·split at h
  ·rename_i a n c ha
   split at h
   ·obtain⟨b,h1,h⟩:=h
    have th:oQ (P ()) s.h _ _ a n=some (.string b):=h1;have em:s.h.m=t.h.m:=by rw[<-hs.h];exact hX.m _
    rw[PA em]at th;exact⟨.string b,t,s,by simp only[gE,E1 ha,th],hs,h⟩
   ·exact h.elim
  ·rename_i a eO ha
   obtain⟨v,hv,h⟩:=JB h;refine⟨v,t,s,?_,hs,h⟩;simp only[gE,E1 ha];cases a<;>first|exact absurd rfl (eO _ _ _)|simp only[hv]
  ·exact h.elim
 ·split at h
  ·rename_i f l r hl hr
   obtain⟨hb,h⟩:=kN h;exact⟨_,t,s,by simp only[gE,E2 hl,E2 hr,hb,cond_true],hs,h⟩
  ·exact h.elim
 ·split at h
  ·rename_i a b ha hb
   obtain⟨v,t',s',hv,hle,hC⟩:=yx hm h;exact⟨v,t',s',by simp only[gE,E1 ha,E1 hb,hv],hle,hC⟩
  ·exact h.elim
 ·split at h
  ·rename_i v a b c hv ha hb hc
   obtain⟨r,hr,hC⟩:=Gq h;exact⟨r,t,s,by simp only[gE,E1 hv,E3 ha,E3 hb,E3 hc,hr],hs,hC⟩
  ·exact h.elim
 ·split at h
  ·rename_i v hv
   obtain⟨r,hr,h⟩:=yr h;exact⟨r,t,s,by simp only[gE,E1 hv,hr],hs,h⟩
  ·exact h.elim
 ·split at h
  ·rename_i v hv
   split at h
   ·rename_i r hr;exact⟨r,t,s,by simp only[gE,E1 hv,hr],hs,h⟩
   ·exact h.elim
  ·exact h.elim
 ·split at h
  ·rename_i v j hv hj
   obtain⟨r,hr,hC⟩:=yq h;exact⟨r,t,s,by simp only[gE,E1 hv,E1 hj,hr],hs,hC⟩
  ·exact h.elim
 ·split at h
  ·rename_i v j hv hj
   obtain⟨r,hr,hC⟩:=Gr h;exact⟨r,t,s,by simp only[gE,E1 hv,E1 hj,hr],hs,hC⟩
  ·exact h.elim
 ·split at h
  ·rename_i vs SC
   split at h
   ·rename_i v hv;exact⟨v,t,s,by simp only[gE,E1 SC,hv],hs,h⟩
   ·exact h.elim
  ·exact h.elim
 ·rename_i b args argTypes
  split at h
  ·rename_i l hl
   split at h
   ·split at h
    ·rename_i ty ZF
     obtain⟨v,hv,h⟩:=Me h;exact⟨v,t,s,by simp only[gE,E2 hl,ZF,hv],hs,h⟩
    ·exact h.elim
   ·rename_i a n c
    split at h
    ·rename_i ty ZF
     split at h
     ·rename_i e hu
      obtain⟨h1,h⟩:=h;have th:c<aS:=h1;exact⟨.int .i64 c,t,s,by simp only[gE,E2 hl,ZF,O7,hu,eE th,cond_true],hs,h⟩
     ·exact h.elim
    ·exact h.elim
   ·obtain⟨v,hv,h⟩:=D3 h
    exact⟨v,t,s,by simp only[gE,E2 hl,hv],hs,h⟩
   ·obtain⟨v,hv,h⟩:=D4 h
    exact⟨v,t,s,by simp only[gE,E2 hl,hv],hs,h⟩
   ·have hx:∀h,X h=h:=by
     rcases uq with h|h
     ·simp[small,bM]at h
     ·exact h
    obtain⟨a,n,c,h',ha,hC⟩:=h;have e:t.h=s.h:=by rw[<-hs.h];exact(hx _).symm
    rw[<-e]at ha;exact⟨_,{ t with h:=h' },{ s with h:=h' },by simp only[gE,E2 hl,ha,bT],⟨hs.env,hs.K,hs.kn,hx _⟩,hC⟩
   ·have hx:∀h,X h=h:=by
     rcases uq with h|h
     ·simp[small,bM]at h
     ·exact h
    obtain⟨n,h',ha,hC⟩:=h;have e:t.h=s.h:=by rw[<-hs.h];exact(hx _).symm
    rw[<-e]at ha;exact⟨_,{ t with h:=h' },{ s with h:=h' },by simp only[gE,E2 hl,ha,bT],⟨hs.env,hs.K,hs.kn,hx _⟩,hC⟩
   ·have hx:∀h,X h=h:=by
     rcases uq with h|h
     ·simp[small,bM]at h
     ·exact h
    obtain⟨h',ha,hC⟩:=h;have e:t.h=s.h:=by rw[<-hs.h];exact(hx _).symm
    have Rm:r8 (P ()) s.h argTypes.toList _=some (undef,h'):=ha;rw[<-e]at Rm;exact⟨_,{ t with h:=h' },{ s with h:=h' },by simp only[gE,E2 hl,Rm,bT],⟨hs.env,hs.K,hs.kn,hx _⟩,hC⟩
   ·exact h.elim
  ·exact h.elim
 ·have hx:∀h,X h=h:=by
   rcases uq with h|h
   ·simp[small,bM]at h
   ·exact h
  have e:t.h=s.h:=by rw[<-hs.h];exact(hx _).symm
  refine⟨.map (some t.h.next),{ t with h:=t.h.gW (.map []) },{ s with h:=s.h.gW (.map []) },by simp only[gE,bT],⟨hs.env,hs.K,hs.kn,by show X (t.h.gW (.map []))=_;rw[hx,e]⟩,?_⟩;rw[e];exact h
 ·rename_i tt xx ii ok
  have hx:∀h,X h=h:=by
   rcases uq with h|h
   ·simp[small,bM]at h
   ·exact h
  have e:t.h=s.h:=by rw[<-hs.h];exact(hx _).symm
  split at h
  ·rename_i kt et a b hu hv hj
   obtain⟨v,r,h1,h⟩:=BX h;have th:=JC (ok:=ok) h1;rw[<-e]at th;exact⟨_,t,s,by simp only[gE,E1 hv,E1 hj,th,bT],hs,h⟩
  ·exact h.elim
 ·have hx:∀h,X h=h:=by
   rcases uq with h|h
   ·simp[small,bM]at h
   ·exact h
  have e:t.h=s.h:=by rw[<-hs.h];exact(hx _).symm
  split at h
  ·rename_i a b c ha hb hc
   obtain⟨h',h1,h⟩:=h;have th:kU (P ()) s.h _ a b c=some (undef,h'):=h1;rw[<-e]at th;exact⟨_,{ t with h:=h' },{ s with h:=h' },by simp only[gE,E1 ha,E1 hb,E1 hc,th,bT],⟨hs.env,hs.K,hs.kn,hx _⟩,h⟩
  ·exact h.elim
 ·have hx:∀h,X h=h:=by
   rcases uq with h|h
   ·simp[small,bM]at h
   ·exact h
  have e:t.h=s.h:=by rw[<-hs.h];exact(hx _).symm
  split at h
  ·rename_i a b c ha hb hc
   obtain⟨h',h1,h⟩:=h;have th:kU (P ()) s.h _ a b c=some (undef,h'):=h1;rw[<-e]at th;exact⟨_,{ t with h:=h' },{ s with h:=h' },by simp only[gE,E1 ha,E1 hb,E1 hc,th,bT],⟨hs.env,hs.K,hs.kn,hx _⟩,h⟩
  ·exact h.elim
 ·exact h.elim
theorem Le.put{s:SS}{t:St}(h:Le s t){nt:Nat}{d:Option Tmp}{v:Value}{C:SS->Prop}(hp:Ab nt s d v C):∃t' s',se nt t d v=some t'/\Le s' t'/\C s'/\t'.h=t.h:=by
 unfold Ab at hp;unfold se;split at hp
 ·exact⟨t,s,rfl,h,hp,rfl⟩
 ·rename_i d
  obtain⟨hb,hp⟩:=kN hp;simp only[hb,cond_true];refine⟨_,{ s with env:=(d,v) :: s.env },rfl,⟨fun i u hu=>?_,h.K,h.kn,h.h⟩,hp,rfl⟩;rw[k9]at hu;show(t.env.set d v).get i=some u;rw[cW.bO];by_cases e:d=i
  ·rw[if_pos e]at hu ⊢;exact hu
  ·rw[if_neg e]at hu ⊢;exact h.env _ _ hu
theorem Le.callee{s:SS}{t:St}(h:Le s t){c:Call}{r:FuncId×List Value}(hc:j6 (fun y=>aW+y) s c=some r):kV t c=some r:=by
 unfold j6 at hc;unfold kV;split at hc
 ·rename_i x hx
  simp only[hx];split at hc
  ·rename_i f first captured l he hl
   simp only[h.ev he,h.zL hl];exact hc
  ·rename_i y u1 u2 l he hl
   simp only[h.ev he,h.zL hl];exact hc
  ·cases hc
 ·cases hc
theorem Le.same{s:SS}{t:St}(h:Le s t){d:Nat}{v:Value}(hd:lk s.env d=some v):Le { s with env:=(d,v) :: s.env } t:=
 ⟨fun i u hu=>by
  rw[k9]at hu;by_cases e:d=i
  ·subst e;rw[if_pos rfl]at hu;rw[<-hu];exact h.env _ _ hd
  ·rw[if_neg e]at hu;exact h.env _ _ hu,h.K,h.kn,h.h⟩
theorem yy{ops:Array Oper}{o:Oper}{s:SS}{t:St}{go skip:SS->Prop}(h:Le s t)(hw:oq ops o s go skip) :
  (jr ops o t=some true/\∃s',Le s' t/\s'.h=s.h/\s'.kn=s.kn/\go s')\/(jr ops o t=some false/\∃s',Le s' t/\s'.h=s.h/\s'.kn=s.kn/\skip s'):=by
 unfold oq at hw;unfold jr;split at hw
 ·rename_i hg
  rw[hg];exact .inl ⟨rfl,s,h,rfl,rfl,hw⟩
 ·rename_i j want hg
  simp only[hg];split at hw
  ·rename_i d hd
   simp only[hd];split at hw
   ·rename_i b hb
    simp only[h.env _ _ hb];cases want with
    |true=>
     simp only[]at hw;rcases HU hw with ⟨rfl,pN⟩|⟨rfl,pN⟩
     ·exact .inl ⟨by simp,_,h.same hb,rfl,rfl,pN⟩
     ·exact .inr ⟨by simp,_,h.same hb,rfl,rfl,pN⟩
    |false=>
     simp only[]at hw;rcases HU hw with ⟨rfl,pN⟩|⟨rfl,pN⟩
     ·exact .inr ⟨by simp,_,h.same hb,rfl,rfl,pN⟩
     ·exact .inl ⟨by simp,_,h.same hb,rfl,rfl,pN⟩
   ·rename_i vs SC
    simp only[h.env _ _ SC];obtain⟨hb,hw⟩:=kN hw;rw[hb];exact .inr ⟨rfl,s,h,rfl,rfl,hw⟩
   ·exact hw.elim
  ·exact hw.elim
theorem PB{P0:Program}{H0:Hint}{F0:bg}(s:SS)(t:St)(hs:Le s t):Ma (fun h=>h) (Px (bk P0 H0 F0)) t.new s:=by
 intro loc es cs C fF h;unfold Px at h;unfold St.new;rw[fF];simp only[cond_true];cases loc with
 |true=>
  simp only[fork,cond_true]at h ⊢;have e:t.kn=s.kn:=hs.kn;refine⟨_,_,{ s with kn:=s.kn+1,K:=(s.kn,cs) :: s.K },rfl,⟨hs.env,fun i v hv=>?_,by simp[ma,e],hs.h⟩,by rw[e];exact h⟩;rw[k9]at hv;show(t.K.set t.kn cs).get i=some v;rw[cW.bO,e];by_cases e:s.kn=i
  ·rw[if_pos e]at hv ⊢;exact hv
  ·rw[if_neg e]at hv ⊢;exact hs.K _ _ hv
 |false=>
  simp only[fork,cond_false]at h ⊢;have e:t.h=s.h:=hs.h;exact⟨_,_,{ s with h:=s.h.push es cs },rfl,⟨hs.env,hs.K,hs.kn,by show t.h.push es cs=_;rw[e]⟩,by rw[e];exact h⟩
theorem AT{P0:Program}{H0:Hint}{F0:bg}{X:af->af}(hX:Gm X)(id tag:Nat)(s:SS)(t:St)(hs:Le s (ma X t)):Ma X (uP (bk P0 H0 F0) id tag) (t.newAt id tag) s:=by
 intro loc es cs C fF h;unfold uP at h;unfold St.newAt;rw[fF];simp only[cond_true];cases loc with
 |true=>
  simp only[fork,cond_true]at h ⊢;refine⟨_,_,{ s with K:=(tag,cs) :: s.K },rfl,⟨hs.env,fun i v hv=>?_,hs.kn,hs.h⟩,h⟩;rw[k9]at hv;show(t.K.set tag cs).get i=some v;rw[cW.bO];by_cases e:tag=i
  ·rw[if_pos e]at hv ⊢;exact hv
  ·rw[if_neg e]at hv ⊢;exact hs.K _ _ hv
 |false=>
  simp only[fork,cond_false]at h ⊢;refine⟨_,_,{ s with h:=s.h.putAt id es cs },rfl,⟨hs.env,hs.K,hs.kn,?_⟩,h⟩;have:=hX.putAt t.h id es cs;show X (t.h.putAt id es cs)=_;rw[this];rw[show X t.h=s.h from hs.h]
end Go.cV
namespace Go.cV
variable{P:Unit->Program}{H:Hint}{F:bg}{V:Live}
theorem tA{f:FuncId}{nt:Nat}{ops:Array Oper}:∀(l:List Oper) (s:SS) (t:St) (Q:SS->Prop),Le s t->wpOps P H (bk (P ()) H F) f nt ops l s Q->
  ∃n t' s',lP (P ()) H (cE (P ()) H F n).call f nt ops l t=some t'/\Le s' t'/\Q s'
 | [],s,t,Q,hs,h=>⟨0,t,s,rfl,hs,h⟩
 |o :: rest,s,t,Q,hs,h=>by
  simp only[wpOps]at h;simp only[lP];rcases yy hs h with ⟨hw,s1,fV,e1,e2,h⟩|⟨hw,s1,fV,e1,e2,h⟩
  ·simp only[hw]
   unfold HQ at h;split at h
   ·rename_i c hc
    split at h
    ·rename_i g args hg
     obtain⟨v,h',⟨n1,hr⟩,h⟩:=h.ex;have h:=yp h;have py:Le { s1 with h:=h' } { t with h:=h' }:=⟨fV.env,fV.K,fV.kn,rfl⟩;obtain⟨t3,s3,hp,yz,h,_⟩:=py.put h;obtain⟨n2,t4,s4,ho,zM,hQ⟩:=tA rest s3 t3 Q yz h;refine⟨max n1 n2,t4,s4,?_,zM,hQ⟩;have o9:sf (P ()) H (cE (P ()) H F (max n1 n2)).call f o t=some (v,{ t with h:=h' }):=by
      unfold sf;simp only[hc,jM,fV.callee hg];have:(cE (P ()) H F (max n1 n2)).call g args t.h=some (v,h'):=by
       rw[fV.h];exact(ko (Nat.le_max_left n1 n2)).call _ _ _ _ hr
      simp only[this]
     simp only[o9,hp];exact qT (ko (Nat.le_max_right n1 n2)).call _ _ _ ho
    ·exact h.elim
   ·rename_i hc
    obtain⟨v,t2,s2,ho,py,h⟩:=BY (m:=t.new) Gm.id (by exact fV) (PB s1 t fV) (.inr fun _=>rfl) h;obtain⟨t3,s3,hp,yz,h,_⟩:=Le.put (t:=t2) py h;obtain⟨n2,t4,s4,PC,zM,hQ⟩:=tA rest s3 t3 Q yz h;refine⟨n2,t4,s4,?_,zM,hQ⟩;have o9:sf (P ()) H (cE (P ()) H F n2).call f o t=some (v,t2):=by
     unfold sf;simp only[hc];exact ho
    simp only[o9,hp];exact PC
  ·simp only[hw]
   obtain⟨t3,s3,hp,yz,h,_⟩:=fV.put h;obtain⟨n2,t4,s4,PC,zM,hQ⟩:=tA rest s3 t3 Q yz h;refine⟨n2,t4,s4,?_,zM,hQ⟩;simp only[hp];exact PC
theorem qX{id tag:Nat}{t t1:St}{loc:Bool}{es:Nat}{cs:List Value}{v:Value}(h:t.newAt id tag loc es cs=some (v,t1)):t1.h.low=t.h.low:=by
 unfold St.newAt at h;cases fF:cs.all aF with
 |false=>rw[fF]at h;cases h
 |true=>
  rw[fF]at h;cases loc with
  |true=>simp only[cond_true,oi,pj]at h;obtain⟨_,rfl⟩:=h;rfl
  |false=>simp only[cond_true,cond_false,oi,pj]at h;obtain⟨_,rfl⟩:=h;rfl
theorem Ad{id tag:Nat}{t t1:St}{ty:TypeId}{l c v:Value}(h:fP (P ()) (t.newAt id tag) ty l c=some (v,t1)):t1.h.low=t.h.low:=by
 unfold fP at h;split at h
 ·split at h
  ·split at h
   ·split at h
    ·rename_i a s' hm
     simp only[oi,pj]at h;obtain⟨_,rfl⟩:=h;exact qX hm
    ·cases h
   ·cases h
  ·cases h
 ·cases h
theorem yA{id tag:Nat}{t t1:St}{ty:TypeId}{len:Nat}{parts:List (Nat×Value)}{v:Value}(h:fg (P ()) (t.newAt id tag) ty len parts=some (v,t1)):t1.h.low=t.h.low:=by
 unfold fg at h;split at h
 ·split at h
  ·rename_i n z _ _
   cases hb:(Nat.ble (len*n) 16777216 && Nat.beq z.cells.toList.length n && Nat.ble len 16777216)with
   |false=>rw[hb]at h;cases h
   |true=>
    rw[hb]at h;simp only[cond_true]at h;split at h
    ·split at h
     ·rename_i a s' hm
      simp only[oi,pj]at h;obtain⟨_,rfl⟩:=h;exact qX hm
     ·cases h
    ·cases h
  ·cases h
 ·cases h
theorem PD {id tag : Nat} {t t1 : St} {loc : Bool} {o : Op} {v : Value} (uq : small o = true) (uD : iN o = false) (h : gE (P ()) (t.newAt id tag) loc o t = some (v, t1)) : t1.h.low = t.h.low := by
  unfold gE at h
  split at h
  case h_4 => split at h <;> first | exact qX h | cases h
  case h_5 => split at h <;> first | exact qX h | cases h
  case h_7 => split at h <;> first | exact yA h | cases h
  case h_15 => split at h <;> first | exact Ad h | cases h
  case h_9 => simp [iN] at uD
  case h_23 => simp [small, bM] at uq
  case h_24 => simp [small, bM] at uq
  case h_25 => simp [small, bM] at uq
  case h_26 => simp [small, bM] at uq
  case h_22 =>
    rename_i b args argTypes
    cases b <;> simp [small, bM] at uq
    all_goals
      (split at h
       · rename_i l hl
         rcases l with _ | ⟨x, _ | ⟨y, r⟩⟩
         all_goals
           (simp only [] at h
            repeat' split at h
            all_goals first
              | (cases h; done)
              | (cases h; rfl))
       · cases h)
  all_goals
    (repeat' split at h
     all_goals first
       | (cases h; done)
       | (cases h; rfl)
       | (simp only [oi, pj] at h; obtain ⟨_, rfl⟩ := h; rfl)
       | (rename_i l r _ _; cases hb : (l.all dA && r.all dA) <;> rw [hb] at h <;> first | (cases h; done) | (cases h; rfl)))
theorem JD{dD:Nat}{x:FP}{wx:Bool}{y:FP}{wy:Bool}{C:Prop}(h:yo (bk (P ()) H F) dD x wx y wy C):cD dD x wx y wy=false/\C:=by
 unfold yo at h;split at h
 ·exact⟨rfl,h⟩
 ·split at h
  ·exact⟨rfl,h⟩
  ·exact h.elim
 ·split at h
  ·exact⟨rfl,h⟩
  ·exact h.elim
 ·rename_i l b
  split at h
  ·exact⟨rfl,h⟩
  ·rcases tz h with ⟨rfl,h2⟩|⟨rfl,h2⟩
   ·exact⟨by simp[cD],h2⟩
   obtain⟨⟨rfl,rfl,h1⟩,h3⟩:=h2;refine⟨?_,h3⟩;rcases h1 with h1|h1
   ·cases h1
   ·simp[cD,eE h1]
  ·rename_i c
   rcases tz h with ⟨rfl,h2⟩|⟨rfl,h2⟩
   ·exact⟨by simp[cD],h2⟩
   obtain⟨⟨rfl,h0,h1⟩,h3⟩:=h2;refine⟨?_,h3⟩;rcases h1 with h1|h1
   ·cases h1
   ·rcases h0 with rfl|h0
    ·simp[cD,eE h1]
    ·simp[cD,eE h1,beq_eq,h0]
  ·rename_i l' b'
   rcases tz h with ⟨e,h1⟩|⟨e,h1⟩
   ·rcases tz h1 with ⟨e2,h2⟩|⟨e2,h2⟩
    ·exact⟨by have h3:b≠b':=h2.1;simp[cD,same,beq_eq,h3],h2.2⟩
    ·exact⟨by simp[cD,same,e2],h2⟩
   ·exact⟨by simp[cD,e],h1⟩
  ·rename_i l' b'
   rcases tz h with ⟨e2,h2⟩|⟨e2,h2⟩
   ·exact⟨by have h3:b≠b':=h2.1;simp[cD,same,beq_eq,h3],h2.2⟩
   ·exact⟨by simp[cD,same,e2],h2⟩
 ·rename_i l b
  split at h
  ·exact⟨rfl,h⟩
  ·obtain⟨rfl,h⟩:=h
   exact⟨rfl,h⟩
  ·rename_i c
   obtain⟨⟨_,h0,_⟩,h3⟩:=h;refine⟨?_,h3⟩;rcases h0 with rfl|h0
   ·simp[cD]
   ·simp[cD,beq_eq,h0]
  ·rename_i l' b'
   rcases tz h with ⟨e2,h2⟩|⟨e2,h2⟩
   ·exact⟨by have h3:b≠b':=h2.1;simp[cD,same,beq_eq,h3],h2.2⟩
   ·exact⟨by simp[cD,same,e2],h2⟩
  ·rename_i l' b'
   rcases tz h with ⟨e2,h2⟩|⟨e2,h2⟩
   ·exact⟨by have h3:b≠b':=h2.1;simp[cD,same,beq_eq,h3],h2.2⟩
   ·exact⟨by simp[cD,same,e2],h2⟩
theorem qh{ops:Array Oper}{dD p:Nat}{x:FP}{wx:Bool}:∀{r:List (Nat×FP×Bool)} {C:Prop},jz (bk (P ()) H F) ops dD p x wx r C->
  r.all (fun(q,y,wy)=>!(cD dD x wx y wy) || prec (Region.before ops) p q)=true/\C
 | [],C,h=>⟨rfl,h⟩
 |(q,y,wy) :: r,C,h=>by
  simp only[jz]at h;rcases tz h with ⟨e,h⟩|⟨e,h⟩
  ·obtain⟨h1,h2⟩:=qh h
   exact⟨by simp only[List.all_cons,e,Bool.or_true,Bool.true_and];exact h1,h2⟩
  ·obtain⟨h0,h⟩:=JD h
   obtain⟨h1,h2⟩:=qh h;exact⟨by simp only[List.all_cons,h0,Bool.not_false,Bool.true_or,Bool.true_and];exact h1,h2⟩
theorem yB{ops:Array Oper}{dD:Nat}:∀{r:List (Nat×FP×Bool)} {C:Prop},qW (bk (P ()) H F) ops dD r C->Df ops dD r=true/\C
 | [],C,h=>⟨rfl,h⟩
 |(p,x,wx) :: r,C,h=>by
  simp only[qW]at h;obtain⟨h1,h⟩:=qh h;obtain⟨h2,h⟩:=yB h;refine⟨?_,h⟩;unfold Df at h2 ⊢;simp only[AB,h2,Bool.and_true];exact h1
theorem VT{s:SS}{t:St}(hs:Le s t){o:Op}{loc:Bool}{id tag:Nat}(uq:small o=true)(h:∀x,(∃ty,o=.load ty x)\/(∃ty y,o=.store ty x y)\/(∃src dst,o=.convert src dst x)->(ev s x).isSome=true):dS o loc id tag t=Rj o loc id tag s:=by
 unfold dS Rj;cases hp:bM o with
 |true=>rfl
 |false=>
  simp only[cond_false];cases o<;>try rfl
  ·rename_i ty x
   have:=h x (.inl ⟨ty,rfl⟩);cases hv:ev s x with
   |none=>rw[hv]at this;cases this
   |some v=>
    simp only[hs.ev hv,hv];cases v<;>rfl
  ·rename_i ty x y
   have:=h x (.inr (.inl ⟨ty,y,rfl⟩));cases hv:ev s x with
   |none=>rw[hv]at this;cases this
   |some v=>
    simp only[hs.ev hv,hv];cases v<;>rfl
  ·rename_i src dst x
   have:=h x (.inr (.inr ⟨src,dst,rfl⟩));cases hv:ev s x with
   |none=>rw[hv]at this;cases this
   |some v=>
    simp only[hs.ev hv,hv];cases v<;>first|rfl|(rename_i a n c;cases a<;>rfl)
  ·rename_i c
   exfalso;have:bM (.call c)=true:=uq;rw[hp]at this;cases this
theorem PE{mk:kF}{s:SS}{loc:Bool}{o:Op}{C:Value->SS->Prop}(h:wpOp P (bk (P ()) H F) mk loc o s C):∀x,(∃ty,o=.load ty x)\/(∃ty y,o=.store ty x y)\/(∃src dst,o=.convert src dst x)->(ev s x).isSome=true:=by
 rintro x (⟨ty,rfl⟩|⟨ty,y,rfl⟩|⟨src,dst,rfl⟩)
 ·simp only[wpOp]at h
  split at h
  ·rename_i a ha;rw[ha];rfl
  ·exact h.elim
 ·simp only[wpOp]at h
  split at h
  ·rename_i a v ha hv;rw[ha];rfl
  ·exact h.elim
 ·simp only[wpOp]at h
  split at h
  ·rename_i a n c ha;rw[ha];rfl
  ·rename_i a _ ha;rw[ha];rfl
  ·exact h.elim
theorem JE{o:Op}{c:Call}(h:dU o=some c){loc:Bool}{id tag:Nat}{t:St}:dS o loc id tag t=.all/\iN o=false:=by
 unfold dU at h;split at h
 ·rename_i c'
  split at h
  ·rename_i x hx
   obtain⟨callee,args,tys⟩:=c';subst hx;exact⟨rfl,rfl⟩
  ·cases h
 ·cases h
theorem D5{o:Op}(h:small o=false){loc:Bool}{id tag:Nat}{s:SS}{t:St}(hs:Le s t){mk:kF}{C:Value->SS->Prop}{h2:af}(hw:wpOp P (bk (P ()) H F) mk loc o { s with h:=h2 } C):dS o loc id tag t=Rj o loc id tag s/\iN o=false:=by
 unfold dS Rj;have hp:bM o=false:=by
  unfold small at h;split at h
  all_goals first|(cases h;done)|exact h
 rw[hp];simp only[cond_false];cases o<;>first|(simp[small]at h;done)|exact⟨rfl,rfl⟩|skip
 rename_i c;refine⟨?_,rfl⟩;obtain⟨callee,args,tys⟩:=c;cases callee<;>try rfl
 rename_i b;cases b<;>try rfl
 simp only[]
 congr 2
 simp only[wpOp]at hw;cases ha:args.toList with
 |nil=>rfl
 |cons x r=>
  rw[ha]at hw;have Yc:∀x,ev { s with h:=h2 } x=ev s x:=fun x=>by cases x<;>rfl
  simp only[zL,Yc]at hw;show bJ t x=ev s x;cases hx:ev s x with
  |none=>rw[hx]at hw;exact hw.elim
  |some v=>exact hs.ev hx
theorem nD(hF:aX F){f:FuncId}{nt:Nat}{ops:Array Oper}{base aP:Nat}:∀(l:List Nat) (i:Nat) (s:SS) (t:St) (Q:SS->List (Nat×FP×Bool)->Prop),Le s t->t.h.low<=t.h.next->base<=t.h.next->kG P H (bk (P ()) H F) f nt ops base aP l i s Q->
  ∃n t' s' iB,rF (P ()) H (cE (P ()) H F n).call f nt ops base aP l i t=some (t',iB)/\Le s' t'/\Q s' iB
 | [],i,s,t,Q,hs,hl,hb,h=>⟨0,t,s,[],rfl,hs,h⟩
 |p :: rest,i,s,t,Q,hs,hl,hb,h=>by
  simp only[kG]at h;simp only[rF];split at h
  ·exact h.elim
  ·rename_i o Yd
   simp only[Yd];rcases yy hs h with ⟨hw,s1,fV,e1,e2,h⟩|⟨hw,s1,fV,e1,e2,h⟩
   ·simp only[hw]
    have vj:(t.fresh).h=(bk (P ()) H F).fresh s1.h:=by
     rw[<-fV.h];rfl
    split at h
    ·rename_i c hc
     split at h
     ·rename_i g args hg
      obtain⟨v,h',⟨n1,hr⟩,h⟩:=h.ex;have h:=yp h;have hk:bK t.h.next t.fresh.h h':=by
       have:=(hO hF n1).2.2 _ _ _ _ _ hr;rw[<-vj]at this;exact this
      have py:Le { s1 with h:=(bk (P ()) H F).aB s1.h h' } (St.aB { t with h:=h' } t.h.low):=⟨fV.env,fV.K,fV.kn,by show af.aB h' t.h.low=af.aB h' s1.h.low;rw[fV.h]⟩;obtain⟨t3,s3,hp,yz,h,eh⟩:=py.put h;have k2:bK base t.h t3.h:=by rw[eh];exact jv (s1:={ t with h:=h' }) (hk.mono hb)
      obtain⟨n2,t4,s4,iB,ho,zM,hQ⟩:=nD hF rest (i+1) s3 t3 _ yz (Nat.le_trans k2.low (Nat.le_trans hl k2.next)) (Nat.le_trans hb k2.next) h;refine⟨max n1 n2,t4,s4,_,?_,zM,hQ⟩;have o9:jI (P ()) H (cE (P ()) H F (max n1 n2)).call f (base+i) (aP+i) o t.fresh=some (v,{ t with h:=h' }):=by
       unfold jI;have PF:Le { s1 with h:=t.fresh.h } t.fresh:=⟨fV.env,fV.K,fV.kn,rfl⟩;have vW:j6 (fun y=>aW+y) { s1 with h:=t.fresh.h } c=some (g,args):=by
        have Yc:∀x,ev { s1 with h:=t.fresh.h } x=ev s1 x:=fun x=>by cases x<;>rfl
        have ZG:∀l,zL { s1 with h:=t.fresh.h } l=zL s1 l:=fun l=>by
         induction l with
         |nil=>rfl
         |cons x r ih=>simp only[zL,Yc,ih]
        have:=hg;unfold j6 at this ⊢;simp only[Yc,ZG];exact this
       have hca:kV t.fresh c=some (g,args):=PF.callee vW;simp only[hc,jM,hca];have:(cE (P ()) H F (max n1 n2)).call g args t.fresh.h=some (v,h'):=by
        rw[vj];exact(ko (Nat.le_max_left n1 n2)).call _ _ _ _ hr
       simp only[this];rfl
      simp only[o9,hp,qU (ko (Nat.le_max_right n1 n2)).call _ _ _ _ ho];obtain⟨f1,f2⟩:=JE (o:=o.op) hc (loc:=fj H f o) (id:=base+i) (tag:=aP+i) (t:=t);rw[f1,f2,Bool.false_or,fV.h];rfl
     ·exact h.elim
    ·rename_i hc
     rcases tz h with ⟨uq,h⟩|⟨uq,h⟩
     rotate_left
     ·have PF:Le { s1 with h:=(bk (P ()) H F).fresh s1.h } t.fresh:=⟨fV.env,fV.K,fV.kn,vj⟩
      have kH:=h;obtain⟨v,t2,s2,ho,py,h⟩:=BY (m:=t.fresh.newAt (base+i) (aP+i)) Gm.id (t:=t.fresh) PF (AT Gm.id (base+i) (aP+i) _ t.fresh PF) (.inr fun _=>rfl) h;have o9:∀n,jI (P ()) H (cE (P ()) H F n).call f (base+i) (aP+i) o t.fresh=some (v,t2):=by
       intro n;unfold jI;simp only[hc];exact ho
      have hk:bK base t.fresh.h t2.h:=uF (hO hF 0).2.2 hb (Nat.le_add_right _ _) (o9 0);have yz:Le { s2 with h:=(bk (P ()) H F).aB s1.h s2.h } (t2.aB t.h.low):=⟨py.env,py.K,py.kn,by
       show af.aB t2.h t.h.low=af.aB s2.h s1.h.low;rw[fV.h,show t2.h=s2.h from py.h]⟩
      obtain⟨t3,s3,hp,yz,h,eh⟩:=yz.put h;have k2:bK base t.h t3.h:=by rw[eh];exact jv hk
      obtain⟨n2,t4,s4,iB,PC,zM,hQ⟩:=nD hF rest (i+1) s3 t3 _ yz (Nat.le_trans k2.low (Nat.le_trans hl k2.next)) (Nat.le_trans hb k2.next) h;refine⟨n2,t4,s4,_,?_,zM,hQ⟩;simp only[o9,hp,PC];obtain⟨f1,f2⟩:=D5 uq (loc:=fj H f o) (id:=base+i) (tag:=aP+i) fV kH;rw[f1,f2,Bool.false_or,fV.h,show t2.h=s2.h from py.h];rfl
     have hX:=Gm.aB t.h.low;have hsX:Le s1 (ma (fun h=>h.aB t.h.low) t.fresh):=⟨fV.env,fV.K,fV.kn,by
      show af.aB t.fresh.h t.h.low=s1.h;rw[<-fV.h];have:Nat.min t.h.low t.h.next=t.h.low:=Nat.min_eq_left hl;show({ next:=t.h.next,low:=Nat.min t.h.low t.h.next,m:=t.h.m }:af)=t.h;rw[this]⟩
     have Rd:=PE h;obtain⟨v,t2,s2,ho,py,h⟩:=BY (m:=t.fresh.newAt (base+i) (aP+i)) hX hsX (AT hX (base+i) (aP+i) s1 t.fresh hsX) (.inl uq) h;have o9:∀n,jI (P ()) H (cE (P ()) H F n).call f (base+i) (aP+i) o t.fresh=some (v,t2):=by
      intro n;unfold jI;simp only[hc];exact ho
     have hk:bK base t.fresh.h t2.h:=uF (hO hF 0).2.2 hb (Nat.le_add_right _ _) (o9 0);obtain⟨t3,s3,hp,yz,h,eh⟩:=Le.put (t:=t2.aB t.h.low) py h;have k2:bK base t.h t3.h:=by rw[eh];exact jv hk
     obtain⟨n2,t4,s4,iB,PC,zM,hQ⟩:=nD hF rest (i+1) s3 t3 _ yz (Nat.le_trans k2.low (Nat.le_trans hl k2.next)) (Nat.le_trans hb k2.next) h;refine⟨n2,t4,s4,_,?_,zM,hQ⟩;simp only[o9,hp,PC];rw[VT fV uq Rd];have I8:(iN o.op || Nat.blt t2.h.low t.h.next)=iN o.op:=by
      cases uD:iN o.op with
      |true=>rfl
      |false=>
       rw[PD uq uD ho];exact cJ (Nat.le_refl _)
     rw[I8];rfl
   ·simp only[hw]
    obtain⟨t3,s3,hp,yz,h,eh⟩:=fV.put h;obtain⟨n2,t4,s4,iB,PC,zM,hQ⟩:=nD hF rest (i+1) s3 t3 _ yz (by rw[eh];exact hl) (by rw[eh];exact hb) h;refine⟨n2,t4,s4,_,?_,zM,hQ⟩;simp only[hp,PC]
theorem JF(hF:aX F){f:FuncId}{nt:Nat}{ops:Array Oper}{s:SS}{t:St}{Q:SS->Prop}(hs:Le s t)(hl:t.h.low<=t.h.next)(h:BV P H (bk (P ()) H F) f nt ops s Q) :
  ∃n t' s',rL (P ()) H (cE (P ()) H F n).call f nt ops t=some t'/\Le s' t'/\Q s':=by
 unfold BV at h;obtain⟨hd,h⟩:=kN h;have fV:Le { s with kn:=s.kn+ops.size,h:=s.h.aH ops.size } (t.jt ops.size):=⟨hs.env,hs.K,by show t.kn+ops.size=_;rw[hs.kn],by show af.aH t.h ops.size=_;rw[hs.h]⟩;obtain⟨n,t',s',iB,ho,rG,h⟩:=nD hF _ _ _ _ _ fV (by show t.h.low<=t.h.next+ops.size;omega) (by show s.h.next<=t.h.next+ops.size;rw[hs.h];omega) h;obtain⟨hf,h⟩:=yB h;refine⟨n,t',s',?_,rG,h⟩;unfold rL;have mR:rF (P ()) H (cE (P ()) H F n).call f nt ops t.h.next t.kn (fY ops) 0 (t.jt ops.size)=some (t',iB):=by
  rw[hs.h,hs.kn];exact ho
 have La:Df ops (t.h.next+ops.size) iB=true:=by rw[hs.h];exact hf
 simp only[hd,cond_true,mR,La]
theorem mc{α:Type}{b:Bool}{x y:α}(h:(bif b then some x else none)=some y):b=true/\x=y:=by
 cases b with
 |true=>exact⟨rfl,by simpa using h⟩
 |false=>cases h
theorem BZ{α:Type}{b:Bool}{x:α}(h:b=true):(bif b then some x else none)=some x:=by rw[h];rfl
theorem D6{f:FuncId}{c:Code}{kn:Nat}{s s0:SS}{t:St}(hs:Le s t)(h:HS H f c kn s=some s0):∃t0,norm H f c kn t=some t0/\Le s0 t0/\t0.h=t.h:=by
 unfold HS at h;unfold norm;split at h
 ·rename_i hk
  simp only[oi]at h;subst h;rw[hk];exact⟨t,rfl,hs,rfl⟩
 ·rename_i l hk
  rw[hk];obtain⟨hb,rfl⟩:=mc h
  ·simp only[Bool.and_eq_true]at hb
   have key:∀(ks:List Tmp) (acc:cW Value) (i:Nat),(restrict t.env ks acc).get i=if i∈ks/\(t.env.get i).isSome then t.env.get i else acc.get i:=by
    intro ks
    induction ks with
    |nil=>intro acc i;simp[restrict]
    |cons k ks ih=>
     intro acc i;simp only[restrict];split
     ·rename_i v hv
      rw[ih,cW.bO];by_cases e:k=i
      ·subst e;simp[hv]
      ·have:¬i=k:=fun h=>e h.symm
       simp[e,this]
     ·rename_i hv
      rw[ih];by_cases e:k=i
      ·subst e;simp[hv]
      ·have:¬i=k:=fun h=>e h.symm
       simp[this]
   refine⟨{ t with env:=restrict t.env l .leaf,kn:=kn },?_,⟨?_,fun i v hv=>hs.K i v (qg _ _ _ _ hv),rfl,hs.h⟩,?_⟩
   ·refine BZ ?_
    rw[show Nat.ble kn t.kn=true by rw[hs.kn];exact hb.1,Bool.true_and,List.all_eq_true];intro i hi;have h1:=List.all_eq_true.1 hb.2 i hi;split at h1
    ·rename_i v hv
     rw[key,if_pos ⟨hi,by rw[hs.env _ _ hv];rfl⟩,hs.env _ _ hv];exact h1
    ·cases h1
   ·intro i v hv
    have hm:∀(ks:List Tmp),lk (pZ s.env ks) i=some v->i∈ks:=by
     intro ks
     induction ks with
     |nil=>intro h;cases h
     |cons k ks ih=>
      intro h;simp only[pZ]at h;split at h
      ·rw[k9]at h
       by_cases e:k=i
       ·simp[e]
       ·rw[if_neg e]at h;simp[ih h]
      ·simp[ih h]
    have h2:=hs.env _ _ (qg _ _ _ _ hv);show(restrict t.env l .leaf).get i=some v;rw[key,if_pos ⟨hm _ hv,by rw[h2];rfl⟩];exact h2
   ·rfl
theorem vA{B:Nat}{h h':af}(k:bK B h h')(hl:h.low<=h.next):h'.low<=h'.next:=Nat.le_trans k.low (Nat.le_trans hl k.next)
theorem Gs(hF:aX F){f:FuncId}{fn:Func}{c0:Code}(zK:(P ()).funcs[f]?=some fn)(uu:fn.body=some c0):∀(c:Code) (s:SS) (t:St) (Q:Exit->SS->Prop),((∀b∈bF c,b∈bF c0)/\(∀r∈bG c,r∈bG c0))->Le s t->t.h.low<=t.h.next->wpS P H (bk (P ()) H F) V f fn.ntmps c s Q->∃x t' s',pY (P ()) H F f fn.ntmps c t x t'/\Le s' t'/\Q x s':=by
 have hrk:∀{c:Code} {t t':St} {x:Exit},pY (P ()) H F f fn.ntmps c t x t'->t.h.low<=t.h.next->t'.h.low<=t'.h.next:=by
  rintro c t t' x ⟨n,hn⟩ hl;exact vA ((hO hF n).1 _ _ _ _ _ _ hn) hl
 intro c
 induction c with
 |skip=>intro s t Q um hs hl h;exact⟨_,_,_,pY.skip,hs,h⟩
 |ret=>intro s t Q um hs hl h;exact⟨_,_,_,pY.ret,hs,h⟩
 |exit id=>intro s t Q um hs hl h;exact⟨_,_,_,pY.exit,hs.fS _,h⟩
 |seq a b B3 sR=>
  intro s t Q um hs hl h;simp only[wpS]at h;obtain⟨x,t1,s1,h1,fV,h⟩:=B3 _ _ _ ⟨fun b hb=>um.1 b (by simp only[bF,List.mem_append];exact .inl hb),fun b hb=>um.2 b (by simp only[bG,List.mem_append];exact .inl hb)⟩ hs hl h;unfold JA at h;split at h
  ·obtain⟨y,t2,s2,h2,py,h⟩:=sR _ _ _ ⟨fun b hb=>um.1 b (by simp only[bF,List.mem_append];exact .inr hb),fun b hb=>um.2 b (by simp only[bG,List.mem_append];exact .inr hb)⟩ fV (hrk h1 hl) h
   exact⟨_,_,_,pY.seq h1 h2,py,h⟩
  ·rename_i hx
   exact⟨_,_,_,pY.SV h1 hx,fV,h⟩
 |cond x a b B3 sR=>
  intro s t Q um hs hl h;simp only[wpS]at h;split at h
  ·rename_i v hv
   rcases HU h with ⟨rfl,h1⟩|⟨rfl,h1⟩
   ·obtain⟨y,t2,s2,h2,py,h3⟩:=B3 _ _ _ ⟨fun b hb=>um.1 b (by simp only[bF,List.mem_append];exact .inl hb),fun b hb=>um.2 b (by simp only[bG,List.mem_append];exact .inl hb)⟩ hs hl h1
    exact⟨_,_,_,pY.cond (hs.ev hv) h2,py,h3⟩
   ·obtain⟨y,t2,s2,h2,py,h3⟩:=sR _ _ _ ⟨fun b hb=>um.1 b (by simp only[bF,List.mem_append];exact .inr hb),fun b hb=>um.2 b (by simp only[bG,List.mem_append];exact .inr hb)⟩ hs hl h1
    exact⟨_,_,_,pY.cond (hs.ev hv) h2,py,h3⟩
  ·exact h.elim
 |block id b sR=>
  intro s t Q um hs hl h;simp only[wpS]at h;obtain⟨x,t1,s1,h1,fV,h⟩:=sR _ _ _ ⟨fun b hb=>um.1 b hb,fun b hb=>um.2 b hb⟩ hs hl h;have h0:=pY.block (id:=id) h1;cases x with
  |exit pF=>
   simp only[Gk]at h h0;cases hb:Nat.beq pF id with
   |true=>rw[hb]at h h0;exact⟨_,_,s1,h0,fV,h⟩
   |false=>rw[hb]at h h0;exact⟨_,_,s1,h0,fV,h⟩
  |normal=>exact⟨_,_,s1,h0,fV,h⟩
  |ret=>exact⟨_,_,s1,h0,fV,h⟩
  |goto l=>exact⟨_,_,s1,h0,fV,h⟩
  |panic=>exact⟨_,_,s1,h0,fV,h⟩
  |outgrown=>exact⟨_,_,s1,h0,fV,h⟩
 |loop b sR=>
  intro s t Q um hs hl h;simp only[wpS]at h;split at h
  ·rename_i s0 hn
   obtain⟨t0,xh,VO,eh⟩:=D6 hs hn;have hw:WH (P ()) H F f fn.ntmps b s.kn (cV.fS s0 (V.loop f (keyOf b))) Q:=h fn c0 b zK uu (um.1 b (by simp[bF])) rfl;obtain⟨x,t',s',⟨n,hh⟩,rG,hQ⟩:=hw.ex t0 (VO.fS _) (by rw[eh];exact hl);refine⟨x,t',s',pY.loop ⟨n+1,?_⟩,rG,hQ⟩;show pG H (cE (P ()) H F n) f fn.ntmps b t.kn t=_;unfold pG;rw[hs.kn,xh];exact hh
  ·exact h.elim
 |region id ops draw=>
  intro s t Q um hs hl h;simp only[wpS]at h;cases draw with
  |true=>
   simp only[cond_true]at h;obtain⟨n,t',s',hd,rG,hQ⟩:=JF hF (hs.fS _) hl h;refine⟨_,t',s',⟨n+1,?_⟩,rG,hQ⟩;show nS (P ()) H (cE (P ()) H F n) f fn.ntmps (.region id ops true) t=_;unfold nS;simp only[cond_true,hd]
  |false=>
   simp only[cond_false]at h;obtain⟨n,t',s',hd,rG,hQ⟩:=tA _ _ _ _ (hs.fS _) h;refine⟨_,t',s',⟨n+1,?_⟩,rG,hQ⟩;show nS (P ()) H (cE (P ()) H F n) f fn.ntmps (.region id ops false) t=_;unfold nS;simp only[cond_false,hd]
 |rangeFunc x ps as bo _ _=>
  intro s t Q um hs hl h;have hw:WR (P ()) H F f fn.ntmps x ps as bo s Q:=h fn c0 x ps as bo zK uu (um.2 _ (by simp[bG])) rfl;exact hw.ex t hs hl
 |scope=>intro s t Q um hs hl h;exact h.elim
 |label=>intro s t Q um hs hl h;exact h.elim
 |goto=>intro s t Q um hs hl h;exact h.elim
 |refuse=>intro s t Q um hs hl h;exact h.elim
theorem WH.round(hF:aX F){f:FuncId}{fn:Func}{c0:Code}(zK:(P ()).funcs[f]?=some fn)(uu:fn.body=some c0){b:Code}(hb:b∈bF c0)(ZH:(∀b'∈bF b,b'∈bF c0)/\(∀r∈bG b,r∈bG c0)){kn:Nat}{s:SS}{Q:Exit->SS->Prop}(h:wG P H (bk (P ()) H F) V f fn.ntmps b kn s Q):WH (P ()) H F f fn.ntmps b kn s Q:=by
 refine⟨fun t hs hl=>?_⟩;unfold wG at h;obtain⟨x,t1,s1,⟨n1,h1⟩,fV,h⟩:=Gs hF zK uu _ _ _ _ ZH hs hl h;unfold JA at h;have zN:t1.h.low<=t1.h.next:=vA ((hO hF n1).1 _ _ _ _ _ _ h1) hl;split at h
 ·split at h
  ·rename_i s2 hn
   obtain⟨t0,xh,VO,eh⟩:=D6 fV hn;have hw:WH (P ()) H F f fn.ntmps b kn (cV.fS s2 (V.loop f (keyOf b))) Q:=h fn c0 b zK uu hb rfl;obtain⟨y,t',s',⟨n2,hh⟩,rG,hQ⟩:=hw.ex t0 (VO.fS _) (by rw[eh];exact zN);refine⟨y,t',s',⟨max n1 (n2+1),?_⟩,rG,hQ⟩;rw[(ko (Nat.le_max_left n1 (n2+1))).run _ _ _ _ _ h1];simp only[];refine(ko (Nat.le_max_right n1 (n2+1))).loop _ _ _ _ _ _ ?_;show pG H (cE (P ()) H F n2) f fn.ntmps b kn t1=_;unfold pG;rw[xh];exact hh
  ·exact h.elim
 ·rename_i hx
  refine⟨x,t1,s1,⟨n1,?_⟩,fV,h⟩;rw[h1];cases x<;>first|rfl|exact absurd rfl hx
theorem Ae:∀(c b b':Code),b∈bF c->b'∈bF b->b'∈bF c:=by
 intro c
 induction c with
 |seq a b B3 sR=>
  intro x y hx hy;simp only[bF,List.mem_append]at hx ⊢;exact hx.imp (fun h=>B3 _ _ h hy) (fun h=>sR _ _ h hy)
 |cond _ a b B3 sR=>
  intro x y hx hy;simp only[bF,List.mem_append]at hx ⊢;exact hx.imp (fun h=>B3 _ _ h hy) (fun h=>sR _ _ h hy)
 |block _ b sR=>intro x y hx hy;exact sR _ _ hx hy
 |loop b sR=>
  intro x y hx hy;simp only[bF,List.mem_cons]at hx ⊢;rcases hx with rfl|hx
  ·exact .inr hy
  ·exact .inr (sR _ _ hx hy)
 |rangeFunc _ _ a b B3 sR=>
  intro x y hx hy;simp only[bF,List.mem_append]at hx ⊢;exact hx.imp (fun h=>B3 _ _ h hy) (fun h=>sR _ _ h hy)
 |_=>intro x y hx hy;simp[bF]at hx
theorem dh:∀(c:Code),bD c=true->bG c=[]
 | .seq a b,h=>by simp only[bD,Bool.and_eq_true]at h;simp[bG,dh a h.1,dh b h.2]
 | .cond _ a b,h=>by simp only[bD,Bool.and_eq_true]at h;simp[bG,dh a h.1,dh b h.2]
 | .block _ b,h=>by simp only[bD]at h;simp[bG,dh b h]
 | .loop b,h=>by simp only[bD]at h;simp[bG,dh b h]
 | .rangeFunc _ _ _ _,h=>by simp[bD]at h
 | .skip,_=>rfl
 | .ret,_=>rfl
 | .exit _,_=>rfl
 | .region _ _ _,_=>rfl
 | .scope _,_=>rfl
 | .label _,_=>rfl
 | .goto _,_=>rfl
 | .refuse _,_=>rfl
def yC(r:Operand×Array Tmp×Code×Code):Prop:=bD r.2.2.1=true/\bD r.2.2.2=true
theorem D7:∀(c b:Code),b∈bF c->(∀r∈bG c,yC r)->∀r∈bG b,r∈bG c:=by
 intro c
 induction c with
 |seq a b B3 sR=>
  intro x hx hp r hr;simp only[bF,List.mem_append]at hx;simp only[bG,List.mem_append]at hp ⊢;exact hx.imp (fun h=>B3 _ h (fun r hr=>hp r (.inl hr)) r hr) (fun h=>sR _ h (fun r hr=>hp r (.inr hr)) r hr)
 |cond _ a b B3 sR=>
  intro x hx hp r hr;simp only[bF,List.mem_append]at hx;simp only[bG,List.mem_append]at hp ⊢;exact hx.imp (fun h=>B3 _ h (fun r hr=>hp r (.inl hr)) r hr) (fun h=>sR _ h (fun r hr=>hp r (.inr hr)) r hr)
 |block _ b sR=>intro x hx hp r hr;exact sR _ hx hp r hr
 |loop b sR=>
  intro x hx hp r hr;simp only[bF,List.mem_cons]at hx;rcases hx with rfl|hx
  ·exact hr
  ·exact sR _ hx hp r hr
 |rangeFunc x0 ps a b B3 sR=>
  intro x hx hp r hr;obtain⟨h1,h2⟩:=hp (x0,ps,a,b) (by simp[bG]);simp only[bF,List.mem_append]at hx;exfalso;rcases hx with hx|hx
  ·have:=B3 x hx (fun r hr=>by rw[dh a h1]at hr;cases hr) r hr
   rw[dh a h1]at this;cases this
  ·have:=sR x hx (fun r hr=>by rw[dh b h2]at hr;cases hr) r hr
   rw[dh b h2]at this;cases this
 |_=>intro x hx hp r hr;simp[bF]at hx
def mQ:List (Nat×Value)->List Tmp->List Value->List (Nat×Value)
 |e,t :: ts,v :: vs=>mQ ((t,v) :: e) ts vs
 |e,_,_=>e
theorem yD{s:SS}{t:St}(hs:Le s t):∀(r:List ResultVar) (C:List Value->Prop),oU P (bk (P ()) H F) s r C->∃l,vU (P ()) t r=some l/\C l
 | [],C,h=>⟨[],rfl,h⟩
 | .tmp i :: r,C,h=>by
  simp only[oU]at h;simp only[vU];split at h
  ·rename_i v hv
   obtain⟨l,hl,hC⟩:=yD hs r _ h;simp only[hs.env _ _ hv,hl];exact⟨_,rfl,hC⟩
  ·exact h.elim
 | .cell a ty :: r,C,h=>by
  simp only[oU]at h;simp only[vU];split at h
  ·rename_i x hx
   obtain⟨v,hv,h⟩:=AS Gm.id (t:=t) hs h;obtain⟨l,hl,hC⟩:=yD hs r _ h;simp only[hs.env _ _ hx,hv,hl];exact⟨_,rfl,hC⟩
  ·exact h.elim
theorem B4:∀(l:List Value) (i:Nat) (acc:List (Nat×Value)),fM l i (E acc)=E (rT l i acc)
 | [],i,acc=>rfl
 |v :: r,i,acc=>by
  simp only[fM,rT];exact B4 r (i+1) ((i,v) :: acc)
theorem HV(s:SS):Le s ⟨E s.env,s.kn,E s.K,s.h⟩:=⟨fun i v h=>by rw[Rk];exact h,fun i v h=>by rw[Rk];exact h,rfl,rfl⟩
theorem WC.body(hF:aX F){g:FuncId}{fn:Func}{args:List Value}{h:af}{Q:Value->af->Prop}(hg:g<aW)(hf:(P ()).funcs[g]?=some fn)(hn:F g args h=none)(hl:h.low<=h.next)(hw:DZ P H (bk (P ()) H F) V g fn args h Q):WC (P ()) H F g args h Q:=by
 unfold DZ at hw;split at hw
 ·rename_i c hb
  obtain⟨x,t',s',hr,rG,hQ⟩:=Gs hF hf hb c _ _ _ ⟨fun _ h=>h,fun _ h=>h⟩ (HV ⟨rT args 0 [],0,[],h⟩) hl hw;have we:pY (P ()) H F g fn.ntmps c { env:=fM args 0 .leaf,kn:=0,K:=.leaf,h:=h } x t':=by
   have e:=B4 args 0 [];simp only[E]at e;rw[e];exact hr
  have fin:∀(C:List Value->Prop),(∀l,C l->l.all dA=true/\Q (js l) s'.h)->oU P (bk (P ()) H F) s' fn.results.toList C->∃v h',vV (P ()) fn t'=some (v,h')/\Q v h':=by
   intro C hC z8;obtain⟨l,By,hc⟩:=yD rG _ _ z8;obtain⟨h1,h2⟩:=hC l hc;refine⟨_,_,?_,h2⟩;unfold vV;simp only[By,h1,cond_true,rG.h]
  unfold SY at hQ;split at hQ
  ·obtain⟨v,h',he,hq⟩:=fin _ (fun l hl=>kN hl) hQ
   exact⟨⟨v,h',OP.body hn hg hf hb we (.inl rfl) he,hq⟩⟩
  ·obtain⟨v,h',he,hq⟩:=fin _ (fun l hl=>kN hl) hQ
   exact⟨⟨v,h',OP.body hn hg hf hb we (.inr rfl) he,hq⟩⟩
  ·exact hQ.elim
 ·exact hw.elim
structure AOK(P:Unit->Program)(H:Hint)(F:bg)(A:bH):Prop where
 eq:A=bk (P ()) H F
 dL:aX F
theorem AOK.body{A:bH}(hA:AOK P H F A)(V:Live){g:FuncId}{fn:Func}{args:List Value}{h:af}{Q:Value->af->Prop}(hg:g<aW)(hf:(P ()).funcs[g]?=some fn)(hn:F g args h=none)(hl:h.low<=h.next)(hw:DZ P H A V g fn args h Q):A.call g args h Q:=by
 have e:=hA.eq;subst e;exact WC.body hA.dL hg hf hn hl hw
theorem AOK.round{A:bH}(hA:AOK P H F A)(V:Live){f:FuncId}{fn:Func}(zK:(P ()).funcs[f]?=some fn){key kn:Nat}{s:SS}{Q:Exit->SS->Prop}(hw:BW P H A V f fn key kn s Q):A.head f key kn s Q:=by
 have e:=hA.eq;subst e;intro Q2 c b h1 h2 h3 h4;rw[zK]at h1;obtain rfl:=Option.some.inj h1;unfold BW at hw;rw[h2]at hw;simp only[]at hw;have hm:b∈(bF c).filter (fun b=>Nat.beq (keyOf b) key):=by
  rw[List.mem_filter];exact⟨h3,by subst h4;simp⟩
 split at hw
 ·rename_i b' vr
  rw[vr]at hm;simp only[List.mem_singleton]at hm;subst hm;exact WH.round hA.dL zK h2 h3 ⟨fun b' vr=>Ae _ _ _ h3 vr,D7 _ _ h3 hw.1⟩ hw.2
 ·exact hw.elim
theorem AOK.Mf{A:bH}(hA:AOK P H F A){g:FuncId}{args:List Value}{h h':af}{v:Value}{Q:Value->af->Prop}(hp:F g args h=some (v,h'))(hq:Q v h')(hg:g<aW:=by decide):A.call g args h Q:=by
 have e:=hA.eq;subst e;exact⟨⟨v,h',⟨1,by simp only[cE,oR,show Nat.ble aW g=false from ft hg,cond_false,hp]⟩,hq⟩⟩
