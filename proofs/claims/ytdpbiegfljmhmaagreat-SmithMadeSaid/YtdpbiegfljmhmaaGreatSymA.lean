import Derived.Test.YtdpbiegfljmhmaaGreatSimD
set_option linter.unusedSimpArgs false
set_option linter.unusedVariables false
namespace Go.cS
def E{α:Type}:List (Nat×α)->cQ α
 | []=>.leaf
 |(t,v) :: l=>(E l).set t v
def lk{α:Type}:List (Nat×α)->Nat->Option α
 | [],_=>none
 |(a,v) :: l,t=>bif Nat.beq a t then some v else lk l t
def pB{α:Type}(l:List (Nat×α)):List Nat->List (Nat×α)
 | []=>[]
 |t :: r=>
  match lk l t with
  |some v=>(t,v) :: pB l r
  |none=>pB l r
structure SS where
 env:List (Nat×Value)
 kn:Nat
 K:List (Nat×List Value)
 h:af
structure Le(s:SS)(t:St):Prop where
 env:∀(i:Nat) (v:Value),lk s.env i=some v->t.env.get i=some v
 K:∀(i:Nat) (v:List Value),lk s.K i=some v->t.K.get i=some v
 kn:t.kn=s.kn
 h:t.h=s.h
structure Live where
 loop:FuncId->Nat->Option (List Tmp)
 dm:FuncId->Nat->Option (List Tmp)
 Oz:FuncId->Nat->Option (List Tmp)
def fork(b:Bool)(x y:Unit->Prop):Prop:=
 match b with
 |true=>x ()
 |false=>y ()
def fM(s:SS):Option (List Tmp)->SS
 |none=>s
 |some l=>{ s with env:=pB s.env l }
inductive Sv where
 |int (k:IntKind)
 |bool
 |str
 |slice
 |ptr
 |any
def De:Option TypeDesc->Sv
 |some (.int k)=>.int k
 |some .bool=>.bool
 |some .string=>.str
 |some (.slice _)=>.slice
 |some (.pointer _)=>.ptr
 |_=>.any
def fG(P:Unit->Program):Nat->TypeId->List Sv
 |0,_=>[]
 |d+1,t=>
  match (P ()).underlying t with
  |some (.struct fs)=>fs.toList.flatMap fun f=>fG P d f.type
  |some (.array n e)=>(List.replicate n (fG P d e)).flatten
  |x=>[De x]
def US:Sv->(Value->Prop)->Prop
 | .int k,C=>∃n:Int,C (.int k n)
 | .bool,C=>∃b:Bool,C (.bool b)
 | .str,C=>∃s:ByteArray,C (.string s)
 | .slice,C=>∃(a:Option Addr) (n c:Nat),C (.slice a n c)
 | .ptr,C=>∃b o:Nat,C (.pointer (some ⟨b,o,none⟩))
 | .any,C=>∃v:Value,C v
def UT:List Sv->(List Value->Prop)->Prop
 | [],C=>C []
 |s :: r,C=>US s fun v=>UT r fun l=>C (v :: l)
def Qt(P:Unit->Program)(t:TypeId)(C:Value->Prop):Prop:=
 match iE (P ()) t with
 |some true=>UT (fG P 12 t) fun l=>C (.agg l.toArray)
 |_=>US (De ((P ()).underlying t)) C
def KX(P:Unit->Program):List TypeId->(List Value->Prop)->Prop
 | [],C=>C []
 |t :: r,C=>Qt P t fun v=>KX P r fun l=>C (v :: l)
def seen(P:Unit->Program)(t:TypeId)(v:Value)(C:Value->Prop):Prop:=
 match (P ()).underlying t with
 |some (.tuple ts)=>KX P ts.toList fun l=>v=.tuple l.toArray/\C (.tuple l.toArray)
 |_=>Qt P t fun u=>v=u/\C u
structure WC(P:Program)(H:Hint)(F:aZ)(g:FuncId)(args:List Value)(h:af)(Q:Value->af->Prop):Prop where
 ex:∃v h',NR P H F g args h v h'/\Q v h'
def Head(P:Program)(H:Hint)(F:aZ)(f:FuncId)(nt:Nat)(b:Code)(kn:Nat)(s:St)(x:Exit)(s':St):Prop:=
 ∃n,(match (cB P H F n).run f nt b s with
  |some (.normal,s1)=>(cB P H F n).loop f nt b kn s1
  |r=>r)=some (x,s')
structure WH(P:Program)(H:Hint)(F:aZ)(f:FuncId)(nt:Nat)(b:Code)(kn:Nat)(s:SS)(Q:Exit->SS->Prop):Prop where
 ex:∀t,Le s t->t.h.low<=t.h.next->∃x t' s',Head P H F f nt b kn t x t'/\Le s' t'/\Q x s'
def bD:Code->List Code
 | .seq a b=>bD a++bD b
 | .cond _ a b=>bD a++bD b
 | .block _ b=>bD b
 | .loop b=>b :: bD b
 | .rangeFunc _ _ a b=>bD a++bD b
 |_=>[]
def bE:Code->List (Operand×Array Tmp×Code×Code)
 | .seq a b=>bE a++bE b
 | .cond _ a b=>bE a++bE b
 | .block _ b=>bE b
 | .loop b=>bE b
 | .rangeFunc x ps a b=>[(x,ps,a,b)]
 |_=>[]
structure WR(P:Program)(H:Hint)(F:aZ)(f:FuncId)(nt:Nat)(x:Operand)(ps:Array Tmp)(as bo:Code)(s:SS)(Q:Exit->SS->Prop):Prop where
 ex:∀t,Le s t->t.h.low<=t.h.next->∃e t' s',pA P H F f nt (.rangeFunc x ps as bo) t e t'/\Le s' t'/\Q e s'
structure bF where
 call:FuncId->List Value->af->(Value->af->Prop)->Prop
 head:FuncId->Nat->Nat->SS->(Exit->SS->Prop)->Prop
 arith:BinOp->IntKind->Int->Int->Int
 cmp:BinOp->Int->Int->Bool
 xF:BinOp->ByteArray->ByteArray->Bool
 dH:Bool->Bool
 jz:Bool->Bool->Bool
 conv:IntKind->Int->Int
 neg:IntKind->Int->Int
 imax:Int->Int->Int
 uf:Int->Int->Int
 ofNat:Nat->Int
 Fy:ByteArray->Int
 place:Nat->Int->Nat->Nat
 G6:Int->Nat->Prop
 nz:Int->Prop
 KY:Int->Prop
 rd:af->Nat->Nat->Nat->List Value->Prop
 wr:af->Nat->Nat->List Value->af->Prop
 push:af->Nat->List Value->af
 next:af->Nat
 vz:Int->Int->Prop
 nat:Int->Nat
 iK:List Value->Int->List Value
 IJ:ByteArray->ByteArray->(ByteArray->Prop)->Prop
 rj:TypeId->Array Value->Array Value->(Bool->Prop)->Prop
 cut:Nat->Int->Prop
 Ba:TypeId->Value->Option Value->Option Value->Option Value->(Option Addr->Nat->Nat->Prop)->Prop
 IK:TypeId->ByteArray->Option Value->Option Value->(ByteArray->Prop)->Prop
 mS:ByteArray->Int->(Int->Prop)->Prop
 part:TypeId->Array Value->Nat->Value->Prop
 app:List TypeId->List Value->af->(Option Addr->Nat->Nat->af->Prop)->Prop
 OA:List TypeId->List Value->af->(Int->af->Prop)->Prop
 putAt:af->Nat->Nat->List Value->af
 fresh:af->af
 az:af->af->af
 aG:af->Nat->af
 wrote:af->af->Bool
 bX:Nat->Nat->Nat
 lt:Nat->Nat->Prop
 ne:Nat->Nat->Prop
 jX:Bool->Bool->Bool->Nat->Nat->Prop
 xG:Bool->Bool->Bool->Nat->Nat->Nat->Prop
 rH:(Unit->Prop)->Prop
 yn:Nat->Nat
 uh:FuncId->Nat->SS->(Exit->SS->Prop)->Prop
 IL:TypeId->Value->Value->af->Value->Bool->Prop
 Fz:TypeId->Value->Value->Value->af->af->Prop
 IM:af->af
 bytes:TypeId->TypeId->Option Addr->Nat->af->ByteArray->Prop
 Tx:List TypeId->List Value->af->af->Prop
def af.putAt(h:af)(id es:Nat)(cs:List Value):af:={ h with m:=h.m.set id (.live true es cs) }
def af.dK(h:af):af:={ h with low:=h.next }
def af.az(h:af)(low:Nat):af:={ h with low:=Nat.min low h.low }
def af.aG(h:af)(n:Nat):af:={ h with next:=h.next+n }
def R0(op:BinOp)(k:IntKind)(a b:Int):Int:=
 match op with
 | .add=>k.wrap (a+b)
 | .sub=>k.wrap (a-b)
 | .mul=>k.wrap (a*b)
 | .quo=>k.wrap (a.tdiv b)
 | .rem=>a.tmod b
 | .and=>k.wrap (BitVec.ofInt k.bits a &&& BitVec.ofInt k.bits b).toNat
 | .or=>k.wrap (BitVec.ofInt k.bits a ||| BitVec.ofInt k.bits b).toNat
 | .xor=>k.wrap (BitVec.ofInt k.bits a ^^^ BitVec.ofInt k.bits b).toNat
 | .andNot=>k.wrap (BitVec.ofInt k.bits a &&& ~~~ BitVec.ofInt k.bits b).toNat
 | .shl=>k.wrap (a*2 ^ (min b.toNat k.bits))
 | .shr=>a.fdiv (2 ^ (min b.toNat k.bits))
 |_=>0
def Yx(op:BinOp)(a b:Int):Bool:=
 match op with
 | .eql=>a == b
 | .neq=>a != b
 | .lss=>decide (a<b)
 | .leq=>decide (a<=b)
 | .gtr=>decide (a>b)
 | .geq=>decide (a≥b)
 |_=>false
def Yy(op:BinOp)(x y:ByteArray):Bool:=
 match op with
 | .eql=>x.toList == y.toList
 | .neq=>!(x.toList == y.toList)
 | .lss=>Op.bytesLess x.toList y.toList
 | .leq=>Op.bytesLess x.toList y.toList || x.toList == y.toList
 | .gtr=>!(Op.bytesLess x.toList y.toList || x.toList == y.toList)
 | .geq=>!(Op.bytesLess x.toList y.toList)
 |_=>false
def bj(P:Program)(H:Hint)(F:aZ):bF where
 call:=WC P H F
 head:=fun f key kn s Q=>∀fn c b,P.funcs[f]?=some fn->fn.body=some c->b∈bD c->keyOf b=key->WH P H F f fn.ntmps b kn s Q
 arith:=R0
 cmp:=Yx
 xF:=Yy
 dH:=fun b=>!b
 jz:=fun a b=>a == b
 conv:=fun k n=>k.wrap n
 neg:=fun k n=>k.wrap (0-n)
 imax:=fun x y=>if y>x then y else x
 uf:=fun x y=>if y<x then y else x
 ofNat:=fun n=>n
 Fy:=fun s=>s.size
 place:=fun o i n=>o+i.toNat*n
 G6:=fun i n=>0<=i/\i<n
 nz:=fun b=>b≠0
 KY:=fun b=>0<=b
 rd:=fun h b o n l=>h.aM ⟨b,o,none⟩ n=some l
 wr:=fun h b o vs h'=>h.write b o vs=some h'
 push:=fun h es cs=>h.push es cs
 next:=fun h=>h.next
 vz:=fun l c=>0<=l/\l<=c/\c<=1073741824
 nat:=fun i=>i.toNat
 iK:=fun z c=>bB z c.toNat
 IJ:=fun a b C=>a.size+b.size<=1073741824/\C (a++b)
 rj:=fun t a b C=>P.eqGuardType P.depth t=false/\∃r,oM P 30 t (.agg a) (.agg b)=some r/\C r
 cut:=fun c j=>0<=j/\j<=cL c
 Ba:=fun t x lo hi mx C=>∃a' n' c',gF P t x lo hi mx=some (.slice a' n' c')/\C a' n' c'
 IK:=fun t x lo hi C=>∃r,gF P t (.string x) lo hi none=some (.string r)/\C r
 mS:=fun s i C=>0<=i/\∃b:UInt8,s[i.toNat]?=some b/\C b.toNat
 part:=fun t cs o v=>kB P t cs o=some v
 app:=fun ts l h C=>∃a n c h',cN P h ts l=some (.slice a n c,h')/\C a n c h'
 OA:=fun ts l h C=>∃n h',ss P h ts l=some (.int .i64 n,h')/\C n h'
 putAt:=af.putAt
 fresh:=af.dK
 az:=fun h h'=>h'.az h.low
 aG:=af.aG
 wrote:=fun h h'=>Nat.blt h'.low h.next
 bX:=fun a b=>a+b
 lt:=fun a b=>a<b
 ne:=fun a b=>a≠b
 jX:=fun wx wy l b dD=>wx=false/\wy=false/\(l=true\/b<dD)
 xG:=fun wx wy l b dD c=>wx=false/\(wy=false\/b≠c)/\(l=true\/b<dD)
 rH:=fun f=>f ()
 yn:=fun y=>aV+y
 uh:=fun f key s Q=>∀fn c x ps as bo,P.funcs[f]?=some fn->fn.body=some c->(x,ps,as,bo)∈bE c->keyOf as=key->WR P H F f fn.ntmps x ps as bo s Q
 IL:=fun t m k h v b=>kH P h t m k true=some (.tuple #[v,.bool b],h)
 Fz:=fun t m k v h h'=>kI P h t m k v=some (undef,h')
 IM:=fun h=>h.gO (.map [])
 bytes:=fun src dst a n h s=>oq P h src dst a n=some (.string s)
 Tx:=fun ts l h h'=>rC P h ts l=some (undef,h')
def ev(s:SS):Operand->Option Value
 | .tmp t=>lk s.env t
 | .const v=>bif flat v then some v else none
 | .global _=>none
 | .func f=>some (.func (.func f) #[] #[])
def yZ(s:SS):List Operand->Option (List Value)
 | []=>some []
 |x :: r=>
  match ev s x with
  |some v=>
   match yZ s r with
   |some l=>some (v :: l)
   |none=>none
  |none=>none
def pC(s:SS):Option Operand->Option (Option Value)
 |none=>some none
 |some x=>
  match ev s x with
  |some v=>some (some v)
  |none=>none
def jN(s:SS):List (Nat×Operand)->Option (List (Nat×Value))
 | []=>some []
 |(i,x) :: r=>
  match ev s x with
  |some v=>
   match jN s r with
   |some l=>some ((i,v) :: l)
   |none=>none
  |none=>none
abbrev ku:=Bool->Nat->List Value->SS->(Value->SS->Prop)->Prop
def OB(A:bF):ku:=fun loc es cs s C=>
 fork loc (fun _=>C (.pointer (some ⟨s.kn,0,some 0⟩)) { s with kn:=s.kn+1,K:=(s.kn,cs) :: s.K })
  (fun _=>C (.pointer (some ⟨A.next s.h,0,none⟩)) { s with h:=A.push s.h es cs })
def ui(A:bF)(id tag:Nat):ku:=fun loc es cs s C=>
 fork loc (fun _=>C (.pointer (some ⟨tag,0,some 0⟩)) { s with K:=(tag,cs) :: s.K })
  (fun _=>C (.pointer (some ⟨id,0,none⟩)) { s with h:=A.putAt s.h id es cs })
def mC(A:bF)(s:SS)(a:Addr)(n:Nat)(views:List Sv)(C:List Value->Prop):Prop:=
 match a.spot with
 |none=>UT views fun l=>A.rd s.h a.block a.off n l/\C l
 |some _=>
  bif Nat.blt a.block s.kn then
   match lk s.K a.block with
   |some cs=>
    match jR cs a.off n with
    |some l=>C l
    |none=>False
   |none=>False
  else False
def pD(P:Unit->Program)(A:bF)(s:SS)(t:TypeId)(a:Addr)(C:Value->Prop):Prop:=
 match iE (P ()) t with
 |some true=>
  match bS (P ()) t with
  |some n=>mC A s a n (fG P 12 t) fun l=>C (.agg l.toArray)
  |none=>False
 |some false=>mC A s a 1 [De ((P ()).underlying t)] fun l=>
  match l with
  | [v]=>C v
  |_=>False
 |none=>False
def vS(A:bF)(s:SS)(a:Addr)(vs:List Value)(C:SS->Prop):Prop:=
 bif vs.all aE then
  match a.spot with
  |none=>∃h',A.wr s.h a.block a.off vs h'/\C { s with h:=h' }
  |some _=>
   bif Nat.blt a.block s.kn then
    match lk s.K a.block with
    |some cs=>
     match mr cs a.off vs with
     |some kR=>C { s with K:=(a.block,kR) :: s.K }
     |none=>False
    |none=>False
   else False
 else False
def vT(P:Unit->Program)(A:bF)(s:SS)(t:TypeId)(a:Addr)(v:Value)(C:SS->Prop):Prop:=
 match bS (P ()) t with
 |some n=>bif Nat.beq v.cells.toList.length n then vS A s a v.cells.toList C else False
 |none=>False
def iq(k k':IntKind):Bool:=decide (k=k')
def KZ(A:bF)(op:BinOp)(k k':IntKind)(a b:Int)(C:Value->Prop):Prop:=
 match op with
 | .shl=>A.KY b/\A.rH fun _=>C (.int k (A.arith .shl k a b))
 | .shr=>A.KY b/\A.rH fun _=>C (.int k (A.arith .shr k a b))
 | .quo=>bif iq k k' then(A.nz b/\A.rH fun _=>C (.int k (A.arith .quo k a b)))else False
 | .rem=>bif iq k k' then(A.nz b/\A.rH fun _=>C (.int k (A.arith .rem k a b)))else False
 | .add=>bif iq k k' then C (.int k (A.arith .add k a b))else False
 | .sub=>bif iq k k' then C (.int k (A.arith .sub k a b))else False
 | .mul=>bif iq k k' then C (.int k (A.arith .mul k a b))else False
 | .and=>bif iq k k' then C (.int k (A.arith .and k a b))else False
 | .or=>bif iq k k' then C (.int k (A.arith .or k a b))else False
 | .xor=>bif iq k k' then C (.int k (A.arith .xor k a b))else False
 | .andNot=>bif iq k k' then C (.int k (A.arith .andNot k a b))else False
 | .eql=>bif iq k k' then C (.bool (A.cmp .eql a b))else False
 | .neq=>bif iq k k' then C (.bool (A.cmp .neq a b))else False
 | .lss=>bif iq k k' then C (.bool (A.cmp .lss a b))else False
 | .leq=>bif iq k k' then C (.bool (A.cmp .leq a b))else False
 | .gtr=>bif iq k k' then C (.bool (A.cmp .gtr a b))else False
 | .geq=>bif iq k k' then C (.bool (A.cmp .geq a b))else False
def K0(A:bF)(op:BinOp)(a b:ByteArray)(C:Value->Prop):Prop:=
 match op with
 | .add=>A.IJ a b fun c=>C (.string c)
 | .eql=>C (.bool (A.xF .eql a b))
 | .neq=>C (.bool (A.xF .neq a b))
 | .lss=>C (.bool (A.xF .lss a b))
 | .leq=>C (.bool (A.xF .leq a b))
 | .gtr=>C (.bool (A.xF .gtr a b))
 | .geq=>C (.bool (A.xF .geq a b))
 |_=>False
def K1(P:Unit->Program)(A:bF)(op:BinOp)(t:TypeId)(x y:Value)(C:Value->Prop):Prop:=
 match x,y with
 | .int k a,.int k' b=>KZ A op k k' a b C
 | .string a,.string b=>K0 A op a b C
 | .bool a,.bool b=>
  match op,(P ()).underlying t with
  | .eql,some .bool=>C (.bool (A.jz a b))
  | .neq,some .bool=>C (.bool (A.dH (A.jz a b)))
  |_,_=>False
 | .agg a,.agg b=>
  match op with
  | .eql=>A.rj t a b fun r=>C (.bool r)
  | .neq=>A.rj t a b fun r=>C (.bool (A.dH r))
  |_=>False
 |x,y=>
  match wv (P ()) op t x y with
  |some v=>C v
  |none=>False
def R1(A:bF)(op:UnOp)(x:Value)(C:Value->Prop):Prop:=
 match op,x with
 | .neg,.int k n=>C (.int k (A.neg k n))
 | .not,.bool b=>C (.bool (A.dH b))
 |op,x=>
  match T8 op x with
  |some v=>C v
  |none=>False
def Bb(P:Unit->Program)(A:bF)(src dst:TypeId)(x:Value)(C:Value->Prop):Prop:=
 match (P ()).underlying src,(P ()).underlying dst,x with
 |some _,some (.int k),.int _ n=>C (.int k (A.conv k n))
 |some _,some .string,.string s=>C (.string s)
 |_,_,_=>False
def xH(P:Unit->Program)(A:bF)(t:TypeId)(x:Value)(C:Value->Prop):Prop:=
 match (P ()).underlying t,x with
 |some .string,.string s=>C (.int .i64 (A.Fy s))
 |some (.array n _),_=>C (.int .i64 (A.ofNat n))
 |some (.slice _),.slice _ n _=>C (.int .i64 (A.ofNat n))
 |some (.pointer e),_=>
  match (P ()).underlying e with
  |some (.array n _)=>C (.int .i64 (A.ofNat n))
  |_=>False
 |_,_=>False
def nM(f:Int->Int->Int):Value->List Value->(Value->Prop)->Prop
 |x,[],C=>C x
 | .int k x,.int _ y :: r,C=>nM f (.int k (f x y)) r C
 |_,_,_=>False
def vU(P:Unit->Program)(A:bF)(t:TypeId)(x:Value)(lo hi mx:Option Value)(C:Value->Prop):Prop:=
 match (P ()).underlying t,x with
 |some .string,.string s=>
  match mx with
  |none=>A.IK t s lo hi fun r=>C (.string r)
  |some _=>False
 |some (.slice e),.slice a n c=>
  match lo,hi,mx with
  |none,some (.int _ j),none=>bif (bS (P ()) e).isSome then(A.cut c j/\A.rH fun _=>C (.slice a (A.nat j) c))else False
  |lo,hi,mx=>A.Ba t (.slice a n c) lo hi mx fun a' n' c'=>C (.slice a' n' c')
 |some (.array _ _),.pointer (some a)=>A.Ba t (.pointer (some a)) lo hi mx fun a' n' c'=>C (.slice a' n' c')
 |_,_=>False
def jY(P:Unit->Program)(A:bF)(t:TypeId)(x ix:Value)(C:Value->Prop):Prop:=
 match (P ()).underlying t,x,ix with
 |some (.array len e),.pointer (some a),.int _ i=>
  match bS (P ()) e with
  |some n=>A.G6 i len/\A.rH fun _=>C (.pointer (some ⟨a.block,A.place a.off i n,a.spot⟩))
  |none=>False
 |some (.slice e),.slice a len _,.int _ i=>
  match bS (P ()) e with
  |some n=>∃b o,a=some ⟨b,o,none⟩/\A.G6 i len/\C (.pointer (some ⟨b,A.place o i n,none⟩))
  |none=>False
 |_,_,_=>False
def mg(P:Unit->Program)(A:bF)(t:TypeId)(x:Value)(f:Nat)(C:Value->Prop):Prop:=
 match (P ()).underlying t,x with
 |some (.struct fs),.pointer (some a)=>
  match fs.toList[f]? with
  |some fd=>
   match bS (P ()) fd.type with
   |some n=>bif Nat.beq n 0 then False else
    match a.spot with
    |none=>C (.pointer (some ⟨a.block,A.bX a.off fd.offset,none⟩))
    |some x=>C (.pointer (some ⟨a.block,a.off+fd.offset,some x⟩))
   |none=>False
  |none=>False
 |_,_=>False
def Bd(P:Unit->Program)(A:bF)(t:TypeId)(x ix:Value)(C:Value->Prop):Prop:=
 match (P ()).underlying t,x,ix with
 |some (.array len e),.agg cs,.int _ i=>
  match bS (P ()) e with
  |some n=>A.G6 i len/\Qt P e fun v=>A.part e cs (A.place 0 i n) v/\C v
  |none=>False
 |some .string,.string s,.int _ i=>A.mS s i fun b=>C (.int .u8 b)
 |_,_,_=>False
def mh(P:Unit->Program)(A:bF)(mk:ku)(t:TypeId)(l c:Value)(s:SS)(C:Value->SS->Prop):Prop:=
 match (P ()).underlying t,l,c with
 |some (.slice e),.int _ l,.int _ c=>
  match bS (P ()) e,ia (P ()) e,oP (P ()) e with
  |some n,some z,some by_=>
   bif Nat.ble by_ 16384 && Nat.beq z.cells.toList.length n && z.cells.toList.all aE then
    A.vz l c/\A.rH fun _=>mk false n (A.iK z.cells.toList c) s fun v s'=>
     match v with
     | .pointer (some a)=>C (.slice (some a) (A.nat l) (A.nat c)) s'
     |_=>False
   else False
  |_,_,_=>False
 |_,_,_=>False
def kN(P:Unit->Program)(mk:ku)(t:TypeId)(len:Nat)(parts:List (Nat×Value))(s:SS)(C:Value->SS->Prop):Prop:=
 match (P ()).underlying t with
 |some (.slice e)=>
  match bS (P ()) e,ia (P ()) e with
  |some n,some z=>
   bif Nat.ble (len*n) 16777216 && Nat.beq z.cells.toList.length n && Nat.ble len 16777216 then
    match iw (fun i=>some (i*n,n)) (bB z.cells.toList len) parts with
    |some cs=>
     bif cs.all aE then
      mk false n cs s fun v s'=>
       match v with
       | .pointer (some a)=>C (.slice (some a) len len) s'
       |_=>False
     else False
    |none=>False
   else False
  |_,_=>False
 |_=>False
def wpOp(P:Unit->Program)(A:bF)(mk:ku)(loc:Bool)(o:Op)(s:SS)(C:Value->SS->Prop):Prop:=
 match o with
 | .move x=>match ev s x with|some v=>C v s|none=>False
 | .assign x=>match ev s x with|some v=>C v s|none=>False
 | .pick c a b=>
  match ev s c with
  |some (.bool t)=>fork t (fun _=>match ev s a with|some v=>C v s|none=>False) (fun _=>match ev s b with|some v=>C v s|none=>False)
  |_=>False
 | .alloc e=>
  match ia (P ()) e,bS (P ()) e with
  |some z,some n=>bif z.cells.toList.all aE then mk loc n z.cells.toList s C else False
  |_,_=>False
 | .box e x=>
  match ev s x,bS (P ()) e with
  |some v,some n=>bif v.cells.toList.all aE then mk loc n v.cells.toList s C else False
  |_,_=>False
 | .build t parts=>
  match jN s parts.toList with
  |some l=>match tL (P ()) t l with|some v=>C v s|none=>False
  |none=>False
 | .buildSlice t len parts=>
  match jN s parts.toList with
  |some l=>kN P mk t len l s C
  |none=>False
 | .load t x=>
  match ev s x with
  |some (.pointer (some a))=>pD P A s t a fun v=>C v s
  |_=>False
 | .store t x y=>
  match ev s x,ev s y with
  |some (.pointer (some a)),some v=>vT P A s t a v fun s'=>C undef s'
  |_,_=>False
 | .nilCheck x=>
  match ev s x with
  |some (.pointer (some a))=>C (.pointer (some a)) s
  |some (.func (.func f) first captured)=>C (.func (.func f) first captured) s
  |_=>False
 | .binOp op t x y _=>
  match ev s x,ev s y with
  |some a,some b=>K1 P A op t a b fun v=>C v s
  |_,_=>False
 | .unOp op _ x=>
  match ev s x with
  |some a=>R1 A op a fun v=>C v s
  |none=>False
 | .convert src dst x=>
  match ev s x with
  |some (.slice a n _)=>
   match (P ()).underlying dst with
   |some .string=>∃b,A.bytes src dst a n s.h b/\A.rH fun _=>C (.string b) s
   |_=>False
  |some a=>Bb P A src dst a fun v=>C v s
  |none=>False
 | .makeFunc fn first captured=>
  match fn,yZ s first.toList,yZ s captured.toList with
  | .func f,some l,some r=>bif l.all dr && r.all dr then C (.func (.func f) l.toArray r.toArray) s else False
  |_,_,_=>False
 | .makeSlice t l c=>
  match ev s l,ev s c with
  |some a,some b=>mh P A mk t a b s C
  |_,_=>False
 | .slice t x lo hi mx=>
  match ev s x,pC s lo,pC s hi,pC s mx with
  |some v,some a,some b,some c=>vU P A t v a b c fun r=>C r s
  |_,_,_,_=>False
 | .fieldAddr t x f=>
  match ev s x with
  |some v=>mg P A t v f fun r=>C r s
  |none=>False
 | .field t x f=>
  match ev s x with
  |some v=>match tM (P ()) t v f with|some r=>C r s|none=>False
  |none=>False
 | .indexAddr t x i=>
  match ev s x,ev s i with
  |some v,some j=>jY P A t v j fun r=>C r s
  |_,_=>False
 | .index t x i=>
  match ev s x,ev s i with
  |some v,some j=>Bd P A t v j fun r=>C r s
  |_,_=>False
 | .extract x i=>
  match ev s x with
  |some (.tuple vs)=>match vs.toList[i]? with|some v=>C v s|none=>False
  |_=>False
 | .call { callee:=.builtin b,args,argTypes }=>
  match yZ s args.toList with
  |some l=>
   match b,l with
   | .len,[x]=>match argTypes.toList with | [t]=>xH P A t x fun v=>C v s|_=>False
   | .cap,[.slice _ _ c]=>match argTypes.toList with | [t]=>(match (P ()).underlying t with|some (.slice _)=>A.lt c aR/\A.rH fun _=>C (.int .i64 (A.ofNat c)) s|_=>False)|_=>False
   | .max,x :: r=>nM A.imax x r fun v=>C v s
   | .min,x :: r=>nM A.uf x r fun v=>C v s
   | .append,l=>A.app argTypes.toList l s.h fun a n c h'=>C (.slice a n c) { s with h:=h' }
   | .copy,l=>A.OA argTypes.toList l s.h fun n h'=>C (.int .i64 n) { s with h:=h' }
   | .clear,l=>∃h',A.Tx argTypes.toList l s.h h'/\A.rH fun _=>C undef { s with h:=h' }
   |_,_=>False
  |none=>False
 | .makeMap _ none=>C (.map (some (A.next s.h))) { s with h:=A.IM s.h }
 | .lookup t x i ok=>
  match (P ()).underlying t,ev s x,ev s i with
  |some (.map _ e),some a,some b=>Qt P e fun v=>∃r,A.IL t a b s.h v r/\A.rH fun _=>C (found ok v r) s
  |_,_,_=>False
 | .mapUpdate t m k x=>
  match ev s m,ev s k,ev s x with
  |some a,some b,some c=>∃h',A.Fz t a b c s.h h'/\A.rH fun _=>C undef { s with h:=h' }
  |_,_,_=>False
 | .insert t m k x=>
  match ev s m,ev s k,ev s x with
  |some a,some b,some c=>∃h',A.Fz t a b c s.h h'/\A.rH fun _=>C undef { s with h:=h' }
  |_,_,_=>False
 |_=>False
def jO(yn:Nat->Nat)(s:SS)(c:Call):Option (FuncId×List Value):=
 match c.callee with
 | .value x=>
  match ev s x,yZ s c.args.toList with
  |some (.func (.func f) first captured),some l=>bif l.all dr && Nat.blt f aV then some (f,first.toList++l++captured.toList)else none
  |some (.func (.yield y) _ _),some l=>bif l.all dr then some (yn y,l)else none
  |_,_=>none
 |_=>none
def zu(nt:Nat)(s:SS)(dst:Option Tmp)(v:Value)(C:SS->Prop):Prop:=
 match dst with
 |none=>C s
 |some d=>bif Nat.blt d nt then C { s with env:=(d,v) :: s.env } else False
def qw(P:Unit->Program)(dst:Option Tmp)(t:TypeId)(v:Value)(C:Value->Prop):Prop:=
 match dst with
 |none=>C v
 |some _=>seen P t v C
def G7(P:Unit->Program)(H:Hint)(A:bF)(f:FuncId)(o:Oper)(s:SS)(C:Value->SS->Prop):Prop:=
 match dP o.op with
 |some c=>
  match jO A.yn s c with
  |some (g,args)=>A.call g args s.h fun v h'=>qw P o.dst o.type v fun v=>C v { s with h:=h' }
  |none=>False
 |none=>wpOp P A (OB A) (eV H f o) o.op s C
def nN(ops:Array Oper)(o:Oper)(s:SS)(go skip:SS->Prop):Prop:=
 match o.guard with
 |none=>go s
 |some (j,want)=>
  match (ops[j]?).bind (·.dst)with
  |some d=>
   match lk s.env d with
   |some (.bool b)=>
    match want with
    |true=>fork b (fun _=>go { s with env:=(d,.bool true) :: s.env }) (fun _=>skip { s with env:=(d,.bool false) :: s.env })
    |false=>fork b (fun _=>skip { s with env:=(d,.bool true) :: s.env }) (fun _=>go { s with env:=(d,.bool false) :: s.env })
   |some (.tuple vs)=>bif vs.toList.isEmpty then skip s else False
   |_=>False
  |none=>False
def wpOps(P:Unit->Program)(H:Hint)(A:bF)(f:FuncId)(nt:Nat)(ops:Array Oper):List Oper->SS->(SS->Prop)->Prop
 | [],s,Q=>Q s
 |o :: rest,s,Q=>
  nN ops o s
   (fun s=>G7 P H A f o s fun v s'=>zu nt s' o.dst v fun qh=>wpOps P H A f nt ops rest qh Q)
   (fun s=>zu nt s o.dst undef fun s'=>wpOps P H A f nt ops rest s' Q)
def Qu(s:SS):List Operand->Option Value
 |x :: _=>ev s x
 | []=>none
def Qv(o:Op)(loc:Bool)(id tag:Nat)(s:SS):FP:=
 bif bK o then .none else
 match o with
 | .alloc _ | .box _ _=>bif loc then .new true tag else .new false id
 | .buildSlice _ _ _ | .makeSlice _ _ _=>.new false id
 | .load _ x | .store _ x _=>
  match ev s x with
  |some (.pointer (some a))=>.block a.spot.isSome a.block
  |_=>.all
 | .convert _ _ x=>
  match ev s x with
  |some (.slice (some a) _ _)=>bif a.spot.isNone then .block false a.block else .none
  |_=>.none
 | .call { callee:=.builtin .append,args,argTypes }=>.app (Cv (Qu s args.toList))
 |_=>.all
def small:Op->Bool
 | .load .. | .store .. | .alloc _ | .box .. | .buildSlice .. | .makeSlice .. | .convert ..=>true
 |o=>bK o
def xI(A:bF)(dD:Nat)(x:FP)(wx:Bool)(y:FP)(wy:Bool)(C:Prop):Prop:=
 match x with
 | .none=>C
 | .all=>match y with | .none=>C|_=>False
 | .app _=>match y with | .none=>C|_=>False
 | .block l b=>
  match y with
  | .none=>C
  | .all=>cond l C (A.jX wx wy l b dD/\C)
  | .app c=>cond l C (A.xG wx wy l b dD c/\C)
  | .block l' b'=>cond (wx || wy) (cond (l == l') (A.ne b b'/\C) C) C
  | .new l' b'=>cond (l == l') (A.ne b b'/\C) C
 | .new l b=>
  match y with
  | .none=>C
  | .all=>wy=false/\C
  | .app c=>A.xG false wy l b dD c/\C
  | .block l' b'=>cond (l == l') (A.ne b b'/\C) C
  | .new l' b'=>cond (l == l') (A.ne b b'/\C) C
def jl(A:bF)(ops:Array Oper)(dD:Nat)(p:Nat)(x:FP)(wx:Bool):List (Nat×FP×Bool)->Prop->Prop
 | [],C=>C
 |(q,y,wy) :: r,C=>bif prec (Region.before ops) p q then jl A ops dD p x wx r C else xI A dD x wx y wy (jl A ops dD p x wx r C)
def qx(A:bF)(ops:Array Oper)(dD:Nat):List (Nat×FP×Bool)->Prop->Prop
 | [],C=>C
 |(p,x,wx) :: r,C=>jl A ops dD p x wx r (qx A ops dD r C)
def kv(P:Unit->Program)(H:Hint)(A:bF)(f:FuncId)(nt:Nat)(ops:Array Oper)(base aO:Nat):List Nat->Nat->SS->(SS->List (Nat×FP×Bool)->Prop)->Prop
 | [],_,s,Q=>Q s []
 |p :: rest,i,s,Q=>
  match ops[p]? with
  |none=>False
  |some o=>
   nN ops o s
    (fun s=>
     match dP o.op with
     |some c=>
      match jO A.yn s c with
      |some (g,args)=>A.call g args (A.fresh s.h) fun v h'=>qw P o.dst o.type v fun v=>
        zu nt { s with h:=A.az s.h h' } o.dst v fun qh=>kv P H A f nt ops base aO rest (i+1) qh fun r il=>Q r ((p,.all,A.wrote s.h h') :: il)
      |none=>False
     |none=>
      bif small o.op then
       wpOp P A (ui A (A.bX base i) (aO+i)) (eV H f o) o.op s fun v s'=>
        zu nt s' o.dst v fun qh=>kv P H A f nt ops base aO rest (i+1) qh fun r il=>Q r ((p,Qv o.op (eV H f o) (A.bX base i) (aO+i) s,iC o.op) :: il)
      else
       wpOp P A (ui A (A.bX base i) (aO+i)) (eV H f o) o.op { s with h:=A.fresh s.h } fun v s'=>
        zu nt { s' with h:=A.az s.h s'.h } o.dst v fun qh=>kv P H A f nt ops base aO rest (i+1) qh fun r il=>Q r ((p,Qv o.op (eV H f o) (A.bX base i) (aO+i) s,A.wrote s.h s'.h) :: il))
    (fun s=>zu nt s o.dst undef fun s'=>kv P H A f nt ops base aO rest (i+1) s' fun r il=>Q r ((p,.none,false) :: il))
def Be(P:Unit->Program)(H:Hint)(A:bF)(f:FuncId)(nt:Nat)(ops:Array Oper)(s:SS)(Q:SS->Prop):Prop:=
 bif nj ops (fQ ops)then
  kv P H A f nt ops (A.next s.h) s.kn (fQ ops) 0 { s with kn:=s.kn+ops.size,h:=A.aG s.h ops.size } fun s' il=>qx A ops (A.bX (A.next s.h) ops.size) il (Q s')
 else False
def G8(H:Hint)(f:FuncId)(c:Code)(kn:Nat)(s:SS):Option SS:=
 match H.dG f (keyOf c)with
 |none=>some s
 |some l=>
  bif Nat.ble kn s.kn && l.all (fun t=>match lk s.env t with|some v=>su kn v|none=>false)then some { s with env:=pB s.env l,kn:=kn,K:=pB s.K (List.range kn) } else none
def IN(next:SS->Prop)(Q:Exit->SS->Prop):Exit->SS->Prop
 | .normal,s=>next s
 |x,s=>Q x s
def FA(id:Nat)(Q:Exit->SS->Prop):Exit->SS->Prop
 | .exit oS,s=>fork (Nat.beq oS id) (fun _=>Q .normal s) (fun _=>Q (.exit oS) s)
 |x,s=>Q x s
def wpS(P:Unit->Program)(H:Hint)(A:bF)(V:Live)(f:FuncId)(nt:Nat)(c:Code)(s:SS)(Q:Exit->SS->Prop):Prop:=
 match c with
 | .skip=>Q .normal s
 | .ret=>Q .ret s
 | .exit id=>Q (.exit id) (fM s (V.dm f id))
 | .seq a b=>wpS P H A V f nt a s (IN (fun s'=>wpS P H A V f nt b s' Q) Q)
 | .cond x a b=>
  match ev s x with
  |some (.bool t)=>fork t (fun _=>wpS P H A V f nt a s Q) (fun _=>wpS P H A V f nt b s Q)
  |_=>False
 | .block id b=>wpS P H A V f nt b s (FA id Q)
 | .loop b=>
  match G8 H f b s.kn s with
  |some s0=>A.head f (keyOf b) s.kn (fM s0 (V.loop f (keyOf b))) Q
  |none=>False
 | .region id ops draw=>bif draw then Be P H A f nt ops (fM s (V.Oz f id)) (Q .normal)else wpOps P H A f nt ops ops.toList (fM s (V.Oz f id)) (Q .normal)
 | .rangeFunc _ _ as _=>A.uh f (keyOf as) s Q
 |_=>False
def vV(P:Unit->Program)(H:Hint)(A:bF)(V:Live)(f:FuncId)(nt:Nat)(b:Code)(kn:Nat)(s:SS)(Q:Exit->SS->Prop):Prop:=
 wpS P H A V f nt b s (IN (fun s'=>
   match G8 H f b kn s' with
   |some s1=>A.head f (keyOf b) kn (fM s1 (V.loop f (keyOf b))) Q
   |none=>False) Q)
def oz(P:Unit->Program)(A:bF)(s:SS):List ResultVar->(List Value->Prop)->Prop
 | [],C=>C []
 | .tmp t :: r,C=>
  match lk s.env t with
  |some v=>oz P A s r fun l=>C (v :: l)
  |none=>False
 | .cell a t :: r,C=>
  match lk s.env a with
  |some (.pointer (some x))=>pD P A s t x fun v=>oz P A s r fun l=>C (v :: l)
  |_=>False
def rk:List Value->Nat->List (Nat×Value)->List (Nat×Value)
 | [],_,acc=>acc
 |v :: r,i,acc=>rk r (i+1) ((i,v) :: acc)
def Bf(P:Unit->Program)(H:Hint)(A:bF)(V:Live)(f:FuncId)(fn:Func)(key kn:Nat)(s:SS)(Q:Exit->SS->Prop):Prop:=
 match fn.body with
 |some c=>
  match (bD c).filter (fun b=>Nat.beq (keyOf b) key)with
  | [b]=>(∀r∈bE c,bA r.2.2.1=true/\bA r.2.2.2=true)/\vV P H A V f fn.ntmps b kn s Q
  |_=>False
 |none=>False
def R2(P:Unit->Program)(A:bF)(rs:List ResultVar)(Q:Value->af->Prop):Exit->SS->Prop
 | .normal,s=>oz P A s rs fun l=>bif l.all dr then Q (je l) s.h else False
 | .ret,s=>oz P A s rs fun l=>bif l.all dr then Q (je l) s.h else False
 |_,_=>False
def Df(P:Unit->Program)(H:Hint)(A:bF)(V:Live)(g:FuncId)(fn:Func)(args:List Value)(h:af)(Q:Value->af->Prop):Prop:=
 match fn.body with
 |some c=>wpS P H A V g fn.ntmps c ⟨rk args 0 [],0,[],h⟩ (R2 P A fn.results.toList Q)
 |none=>False
end Go.cS
namespace Go.cS
theorem beq_eq(a b:Nat):Nat.beq a b=decide (a=b):=by
 cases h:Nat.beq a b with
 |true=>simp[Nat.eq_of_beq_eq_true h]
 |false=>simp[Nat.ne_of_beq_eq_false h]
theorem kD{b:Bool}{A:Prop}(h:bif b then A else False):b=true/\A:=by
 cases b with
 |true=>exact⟨rfl,h⟩
 |false=>exact h.elim
theorem Qw{α:Type}(l:List (Nat×α))(t:Nat):(E l).get t=lk l t:=by
 induction l with
 |nil=>rfl
 |cons p l ih=>
  obtain⟨a,v⟩:=p;simp only[E,lk,cQ.bL,beq_eq,ih];by_cases h:a=t<;>simp[h]
theorem kO{α:Type}(a:Nat)(v:α)(l:List (Nat×α))(t:Nat):lk ((a,v) :: l) t=if a=t then some v else lk l t:=by
 simp only[lk,beq_eq];by_cases h:a=t<;>simp[h]
theorem pE{α:Type}(l:List (Nat×α)):∀(ks:List Nat) (t:Nat) (v:α),lk (pB l ks) t=some v->lk l t=some v
 | [],t,v,h=>by cases h
 |k :: ks,t,v,h=>by
  simp only[pB]at h;split at h
  ·rename_i u hu
   rw[kO]at h;by_cases e:k=t
   ·subst e;simp at h;subst h;exact hu
   ·rw[if_neg e]at h;exact pE l ks t v h
  ·exact pE l ks t v h
theorem Le.fM{s:SS}{t:St}(h:Le s t)(l:Option (List Tmp)):Le (fM s l) t:=by
 unfold cS.fM;split
 ·exact h
 ·exact⟨fun i v hv=>h.env i v (pE _ _ _ _ hv),h.K,h.kn,h.h⟩
theorem K3{sv:Sv}{C:Value->Prop}(h:US sv C):∃v,C v:=by
 cases sv<;>simp only[US]at h
 ·obtain⟨n,h⟩:=h;exact⟨_,h⟩
 ·obtain⟨n,h⟩:=h;exact⟨_,h⟩
 ·obtain⟨n,h⟩:=h;exact⟨_,h⟩
 ·obtain⟨a,n,c,h⟩:=h;exact⟨_,h⟩
 ·obtain⟨a,n,h⟩:=h;exact⟨_,h⟩
 ·exact h
theorem FB:∀{l:List Sv} {C:List Value->Prop},UT l C->∃v,C v
 | [],C,h=>⟨[],h⟩
 |s :: r,C,h=>by
  obtain⟨v,h⟩:=K3 h;obtain⟨l,h⟩:=FB h;exact⟨_,h⟩
theorem Bg{P:Unit->Program}{t:TypeId}{C:Value->Prop}(h:Qt P t C):∃v,C v:=by
 unfold Qt at h;split at h
 ·obtain⟨l,h⟩:=FB h;exact⟨_,h⟩
 ·exact K3 h
theorem G9{P:Unit->Program}:∀{l:List TypeId} {C:List Value->Prop},KX P l C->∃v,C v
 | [],C,h=>⟨[],h⟩
 |s :: r,C,h=>by
  obtain⟨v,h⟩:=Bg h;obtain⟨l,h⟩:=G9 h;exact⟨_,h⟩
theorem OC{P:Unit->Program}{t:TypeId}{v:Value}{C:Value->Prop}(h:seen P t v C):C v:=by
 unfold seen at h;split at h
 ·obtain⟨l,e,h2⟩:=G9 h;rw[e];exact h2
 ·obtain⟨l,e,h2⟩:=Bg h;rw[e];exact h2
theorem xJ{P:Unit->Program}{d:Option Tmp}{t:TypeId}{v:Value}{C:Value->Prop}(h:qw P d t v C):C v:=by
 unfold qw at h;split at h
 ·exact h
 ·exact OC h
theorem Le.ev{s:SS}{t:St}(h:Le s t){x:Operand}{v:Value}(hx:ev s x=some v):bH t x=some v:=by
 cases x with
 |tmp i=>exact h.env i v hx
 |const c=>exact hx
 |global g=>cases hx
 |func f=>exact hx
theorem Le.yZ{s:SS}{t:St}(h:Le s t):∀{x:List Operand} {v:List Value},yZ s x=some v->gP t x=some v
 | [],v,hx=>hx
 |x :: r,v,hx=>by
  simp only[cS.yZ]at hx;split at hx
  ·rename_i u hu
   split at hx
   ·rename_i l hl
    simp only[gP,h.ev hu,h.yZ hl];exact hx
   ·cases hx
  ·cases hx
structure FC(X:af->af):Prop where
 m:∀h,(X h).m=h.m
 next:∀h,(X h).next=h.next
 write:∀h b o vs h2,(X h).write b o vs=some h2->∃h1,h.write b o vs=some h1/\X h1=h2
 push:∀h es cs,X (h.push es cs)=(X h).push es cs
 putAt:∀h id es cs,X (h.putAt id es cs)=(X h).putAt id es cs
theorem FC.id:FC (fun h=>h):=⟨fun _=>rfl,fun _=>rfl,fun h b o vs h2 e=>⟨h2,e,rfl⟩,fun _ _ _=>rfl,fun _ _ _ _=>rfl⟩
theorem FC.az(L:Nat):FC (fun h=>h.az L):=by
 refine⟨fun _=>rfl,fun _=>rfl,fun h b o vs h2 e=>?_,fun _ _ _=>rfl,fun _ _ _ _=>rfl⟩;unfold af.write at e ⊢;simp only[af.az]at e;split at e
 ·rename_i es cs hm
  split at e
  ·rename_i kR hs
   simp only[oi]at e;refine⟨_,rfl,?_⟩;subst e;simp[af.az,Nat.min_assoc]
  ·cases e
 ·cases e
def lE(X:af->af)(t:St):St:={ t with h:=X t.h }
def K4(X:af->af)(mk:ku)(m:kY)(s:SS):Prop:=
 ∀loc es cs C,cs.all aE=true->mk loc es cs s C->∃v t' s',m loc es cs=some (v,t')/\Le s' (lE X t')/\C v s'
section
variable{X:af->af}{s:SS}{t:St}{P0:Program}{H0:Hint}{F0:aZ}
theorem Aa(hX:FC X)(hs:Le s (lE X t)){a:Addr}{n:Nat}{views:List Sv}{C:List Value->Prop}(h:mC (bj P0 H0 F0) s a n views C):∃l,t.read a n=some l/\C l:=by
 unfold mC at h;split at h
 ·rename_i iY
  obtain⟨l,W9,hC⟩:=FB h;have hr:s.h.aM ⟨a.block,a.off,none⟩ n=some l:=W9;refine⟨l,?_,hC⟩;unfold af.aM at hr;simp only[]at hr;unfold St.read St.cells?;rw[iY];simp only[];have e:s.h.cells? a.block=t.h.cells? a.block:=by
   rw[<-hs.h];unfold af.cells?;rw[show(lE X t).h.m=t.h.m from hX.m _]
  rw[e]at hr;exact hr
 ·rename_i x iY
  cases hb:Nat.blt a.block s.kn with
  |false=>rw[hb]at h;exact absurd h (by simp)
  |true=>
   rw[hb]at h;simp only[cond_true]at h;split at h
   ·rename_i cs vN
    split at h
    ·rename_i l hl
     refine⟨l,?_,h⟩;unfold St.read St.cells?;rw[iY];simp only[];rw[show t.kn=s.kn from hs.kn,hb,show t.K.get a.block=some cs from hs.K _ _ vN];simp only[cond_true];exact hl
    ·exact h.elim
   ·exact h.elim
theorem Ab{P:Unit->Program}(hX:FC X)(hs:Le s (lE X t)){a:Addr}{ty:TypeId}{C:Value->Prop}(h:pD P (bj P0 H0 F0) s ty a C):∃v,sq (P ()) t ty a=some v/\C v:=by
 unfold pD at h;unfold sq;split at h
 ·rename_i EU
  split at h
  ·rename_i n hn
   obtain⟨l,hr,hC⟩:=Aa hX hs h;simp only[EU,hn,hr];exact⟨_,rfl,hC⟩
  ·exact h.elim
 ·rename_i EU
  obtain⟨l,hr,hC⟩:=Aa hX hs h;simp only[EU,hr];split at hC
  ·exact⟨_,rfl,hC⟩
  ·exact hC.elim
 ·exact h.elim
theorem FD(hX:FC X)(hs:Le s (lE X t)){a:Addr}{vs:List Value}{C:SS->Prop}(h:vS (bj P0 H0 F0) s a vs C):∃t' s',t.write a vs=some t'/\Le s' (lE X t')/\C s':=by
 unfold vS at h;unfold St.write;cases fz:vs.all aE with
 |false=>rw[fz]at h;exact absurd h (by simp)
 |true=>
  rw[fz]at h;simp only[cond_true]at h ⊢;split at h
  ·rename_i iY
   obtain⟨h',kx,hC⟩:=h;have hw:s.h.write a.block a.off vs=some h':=kx;rw[show s.h=X t.h from hs.h.symm]at hw;obtain⟨h1,oA,rfl⟩:=hX.write _ _ _ _ _ hw;simp only[iY,oA];exact⟨{ t with h:=h1 },{ s with h:=X h1 },rfl,⟨hs.env,hs.K,hs.kn,rfl⟩,hC⟩
  ·rename_i x iY
   cases hb:Nat.blt a.block s.kn with
   |false=>rw[hb]at h;exact absurd h (by simp)
   |true=>
    rw[hb]at h;simp only[cond_true]at h;split at h
    ·rename_i cs vN
     split at h
     ·rename_i kR qO
      rw[show t.kn=s.kn from hs.kn,hb,show t.K.get a.block=some cs from hs.K _ _ vN];simp only[iY,cond_true,qO];refine⟨_,{ s with K:=(a.block,kR) :: s.K },rfl,⟨hs.env,fun i v hv=>?_,rfl,hs.h⟩,h⟩;rw[kO]at hv;show(t.K.set a.block kR).get i=some v;rw[cQ.bL];by_cases e:a.block=i
      ·rw[if_pos e]at hv ⊢;exact hv
      ·rw[if_neg e]at hv ⊢;exact hs.K _ _ hv
     ·exact h.elim
    ·exact h.elim
theorem FE{P:Unit->Program}(hX:FC X)(hs:Le s (lE X t)){a:Addr}{ty:TypeId}{v:Value}{C:SS->Prop}(h:vT P (bj P0 H0 F0) s ty a v C):∃t' s',mu (P ()) t ty a v=some t'/\Le s' (lE X t')/\C s':=by
 unfold vT at h;unfold mu;split at h
 ·rename_i n hn
  rw[hn];obtain⟨hb,h⟩:=kD h;simp only[hb,cond_true];exact FD hX hs h
 ·exact h.elim
end
theorem uj{k k':IntKind}(h:iq k k'=true):k=k':=of_decide_eq_true h
theorem K5 {P0 : Program} {H0 : Hint} {F0 : aZ} {P : Unit → Program} {op : BinOp} {ty : TypeId} {k k' : IntKind} {a b : Int} {C : Value → Prop} (h : KZ (bj P0 H0 F0) op k k' a b C) : ∃ v, wv (P ()) op ty (.int k a) (.int k' b) = some v ∧ C v := by
  unfold KZ at h
  unfold wv
  simp only []
  split at h
  · obtain ⟨h0, hC⟩ := h
    have UU : 0 ≤ b := h0
    refine ⟨_, ?_, hC⟩
    simp only [qg]; rw [if_neg om]; rfl
  · obtain ⟨h0, hC⟩ := h
    have UU : 0 ≤ b := h0
    refine ⟨_, ?_, hC⟩
    simp only [qg]; rw [if_neg om]; rfl
  · obtain ⟨hk, h0, hC⟩ := kD h
    have UU : b ≠ 0 := h0
    refine ⟨_, ?_, hC⟩
    simp only [uH]; rw [if_pos (uj hk), if_neg UU]; rfl
  · obtain ⟨hk, h0, hC⟩ := kD h
    have UU : b ≠ 0 := h0
    refine ⟨_, ?_, hC⟩
    simp only [uH]; rw [if_pos (uj hk), if_neg UU]; rfl
  all_goals first
    | exact h.elim
    | (obtain ⟨hk, hC⟩ := kD h
       refine ⟨_, ?_, hC⟩
       simp only [uH]; rw [if_pos (uj hk)]; rfl)
theorem K6{P0:Program}{H0:Hint}{F0:aZ}{op:BinOp}{a b:ByteArray}{C:Value->Prop}(h:K0 (bj P0 H0 F0) op a b C):∃v,Cr op a b=some v/\C v:=by
 unfold K0 at h;split at h
 ·obtain⟨h0,hC⟩:=h
  refine⟨_,?_,hC⟩;simp only[Cr];rw[bm h0];rfl
 all_goals first
  |exact h.elim
  |exact⟨_,rfl,h⟩
theorem K7{H0:Hint}{F0:aZ}{P:Unit->Program}{op:BinOp}{ty:TypeId}{x y:Value}{C:Value->Prop}(h:K1 P (bj (P ()) H0 F0) op ty x y C):∃v,wv (P ()) op ty x y=some v/\C v:=by
 unfold K1 at h;split at h
 ·exact K5 h
 ·exact K6 h
 ·rename_i a b
  unfold wv;simp only[];split at h
  ·rename_i hu
   simp only[hu];exact⟨_,rfl,h⟩
  ·rename_i hu
   simp only[hu];exact⟨_,rfl,h⟩
  ·exact h.elim
 ·rename_i a b
  unfold wv;simp only[vK,iZ,Bool.true_and];split at h
  ·obtain⟨h0,r,hr,hC⟩:=h
   refine⟨_,?_,hC⟩;rw[h0];simp only[Bool.not_false,cond_true,hr]
  ·obtain⟨h0,r,hr,hC⟩:=h
   refine⟨_,?_,hC⟩;rw[h0];simp only[Bool.not_false,cond_true,hr];rfl
  ·exact h.elim
 ·split at h
  ·rename_i v hv
   exact⟨v,hv,h⟩
  ·exact h.elim
theorem OD{P0:Program}{H0:Hint}{F0:aZ}{op:UnOp}{x:Value}{C:Value->Prop}(h:R1 (bj P0 H0 F0) op x C):∃v,T8 op x=some v/\C v:=by
 unfold R1 at h;split at h
 ·exact⟨_,rfl,h⟩
 ·exact⟨_,rfl,h⟩
 ·split at h
  ·rename_i v hv;exact⟨v,hv,h⟩
  ·exact h.elim
theorem IP{P0:Program}{H0:Hint}{F0:aZ}{P:Unit->Program}{src dst:TypeId}{x:Value}{C:Value->Prop}(h:Bb P (bj P0 H0 F0) src dst x C):∃v,Cs (P ()) src dst x=some v/\C v:=by
 unfold Bb at h;unfold Cs;split at h
 ·rename_i h1 h2
  simp only[h1,h2];exact⟨_,rfl,h⟩
 ·rename_i h1 h2
  simp only[h1,h2];exact⟨_,rfl,h⟩
 ·exact h.elim
theorem K8{P0:Program}{H0:Hint}{F0:aZ}{P:Unit->Program}{ty:TypeId}{x:Value}{C:Value->Prop}(h:xH P (bj P0 H0 F0) ty x C):∃v,J9 (P ()) ty x=some v/\C v:=by
 unfold xH at h;unfold J9;split at h
 ·rename_i h1
  simp only[h1];exact⟨_,rfl,h⟩
 ·rename_i h1
  simp only[h1];exact⟨_,rfl,h⟩
 ·rename_i h1
  simp only[h1];exact⟨_,rfl,h⟩
 ·rename_i h1
  simp only[h1];split at h
  ·rename_i h2
   simp only[h2];exact⟨_,rfl,h⟩
  ·exact h.elim
 ·exact h.elim
theorem Dg{P0:Program}{H0:Hint}{F0:aZ}:∀{r:List Value} {x:Value} {C:Value->Prop},nM (bj P0 H0 F0).imax x r C->∃v,qV wA x r=some v/\C v
 | [],x,C,h=>by simp only[nM]at h;exact⟨x,rfl,h⟩
 |y :: r,x,C,h=>by
  unfold nM at h;split at h
  ·rename_i e;cases e
  ·rename_i k a k' b r' e
   simp only[List.cons.injEq]at e;obtain⟨rfl,rfl⟩:=e;simp only[qV,wA];exact Dg h
  ·exact h.elim
theorem Dh{P0:Program}{H0:Hint}{F0:aZ}:∀{r:List Value} {x:Value} {C:Value->Prop},nM (bj P0 H0 F0).uf x r C->∃v,qV wB x r=some v/\C v
 | [],x,C,h=>by simp only[nM]at h;exact⟨x,rfl,h⟩
 |y :: r,x,C,h=>by
  unfold nM at h;split at h
  ·rename_i e;cases e
  ·rename_i k a k' b r' e
   simp only[List.cons.injEq]at e;obtain⟨rfl,rfl⟩:=e;simp only[qV,wB];exact Dh h
  ·exact h.elim
theorem FF{H0:Hint}{F0:aZ}{P:Unit->Program}{ty:TypeId}{x:Value}{lo hi mx:Option Value}{C:Value->Prop}(h:vU P (bj (P ()) H0 F0) ty x lo hi mx C):∃v,gF (P ()) ty x lo hi mx=some v/\C v:=by
 unfold vU at h;split at h
 ·split at h
  ·obtain⟨r,hr,hC⟩:=h;exact⟨_,hr,hC⟩
  ·exact h.elim
 ·rename_i e a n c hu
  split at h
  ·rename_i k j
   obtain⟨Oe,⟨h0,h1⟩,hC⟩:=kD h;obtain⟨z,hz⟩:=Option.isSome_iff_exists.1 Oe;refine⟨_,?_,hC⟩;unfold gF;rw[hu];simp only[hz,kZ,gq,iB,gX,bound];rw[if_pos ⟨h0,h1⟩];simp only[];rw[bm (show j.toNat<=cL c by omega)];simp only[cond_true,Option.isSome_none,Bool.or_false,Nat.sub_zero,Nat.zero_mul];have Yz:a.map (fT · 0)=a:=by cases a<;>rfl
   by_cases hc:c<aR
   ·rw[dW hc,ff hc,Yz]
    simp only[cond_true];cases Nat.beq c 0<;>rfl
   ·rw[cF om]
    rfl
  ·obtain⟨a',n',c',hr,hC⟩:=h;exact⟨_,hr,hC⟩
 ·obtain⟨a',n',c',hr,hC⟩:=h;exact⟨_,hr,hC⟩
 ·exact h.elim
theorem xK{P0:Program}{H0:Hint}{F0:aZ}{P:Unit->Program}{ty:TypeId}{x ix:Value}{C:Value->Prop}(h:jY P (bj P0 H0 F0) ty x ix C):∃v,lg (P ()) ty x ix=some v/\C v:=by
 unfold jY at h;unfold lg;split at h
 ·rename_i hu
  split at h
  ·rename_i n hn
   obtain⟨⟨h0,h1⟩,hC⟩:=h;simp only[hu,hn];rw[if_pos ⟨h0,h1⟩];exact⟨_,rfl,hC⟩
  ·exact h.elim
 ·rename_i hu
  split at h
  ·rename_i n hn
   obtain⟨b,o,rfl,⟨h0,h1⟩,hC⟩:=h;simp only[hu,hn];rw[if_pos ⟨h0,h1⟩];exact⟨_,rfl,hC⟩
  ·exact h.elim
 ·exact h.elim
theorem xL{P0:Program}{H0:Hint}{F0:aZ}{P:Unit->Program}{ty:TypeId}{x:Value}{f:Nat}{C:Value->Prop}(h:mg P (bj P0 H0 F0) ty x f C):∃v,k9 (P ()) ty x f=some v/\C v:=by
 unfold mg at h;unfold k9;split at h
 ·rename_i fs a hu
  split at h
  ·rename_i fd hfd
   split at h
   ·rename_i n hn
    cases hb:Nat.beq n 0 with
    |true=>rw[hb]at h;exact h.elim
    |false=>
     rw[hb]at h;simp only[hu,hfd,hn,hb,cond_false]at h ⊢;refine⟨_,rfl,?_⟩;obtain⟨b,o,sp⟩:=a;cases sp<;>exact h
   ·exact h.elim
  ·exact h.elim
 ·exact h.elim
theorem FG{H0:Hint}{F0:aZ}{P:Unit->Program}{ty:TypeId}{x ix:Value}{C:Value->Prop}(h:Bd P (bj (P ()) H0 F0) ty x ix C):∃v,wz (P ()) ty x ix=some v/\C v:=by
 unfold Bd at h;unfold wz;split at h
 ·rename_i hu
  split at h
  ·rename_i n hn
   obtain⟨⟨h0,h1⟩,hC⟩:=h;obtain⟨v,hv,hC⟩:=Bg hC;simp only[hu,hn];rw[if_pos ⟨h0,h1⟩];refine⟨v,?_,hC⟩;have UK:kB (P ()) _ _ (0+_)=some v:=hv;rw[Nat.zero_add]at UK;exact UK
  ·exact h.elim
 ·rename_i hu
  obtain⟨h0,b,hb,hC⟩:=h;simp only[hu];rw[if_pos h0];simp only[hb];exact⟨_,rfl,hC⟩
 ·exact h.elim
theorem xM{z:List Value}(hz:z.all aE=true):∀n,(bB z n).all aE=true
 |0=>rfl
 |n+1=>by simp only[bB,List.all_append,hz,xM hz n,Bool.and_self]
section
variable{P:Unit->Program}{X:af->af}{mk:ku}{m:kY}{s:SS}{t:St}{P0:Program}{H0:Hint}{F0:aZ}
theorem xN(hm:K4 X mk m s){ty:TypeId}{l c:Value}{C:Value->SS->Prop}(h:mh P (bj P0 H0 F0) mk ty l c s C):∃v t' s',fJ (P ()) m ty l c=some (v,t')/\Le s' (lE X t')/\C v s':=by
 unfold mh at h;unfold fJ;split at h
 ·rename_i hu
  split at h
  ·rename_i n z by_ hn hz qY
   obtain⟨hb,h⟩:=kD h;simp only[Bool.and_eq_true]at hb;obtain⟨⟨EE,vw⟩,hb3⟩:=hb;obtain⟨⟨h0,h1,h2⟩,hC⟩:=h;obtain⟨v,t',s',hv,hl,hC⟩:=hm _ _ _ _ (xM hb3 _) hC;simp only[hu,hn,hz,qY];rw[if_pos ⟨h0,h1,h2,Nat.le_of_ble_eq_true EE,Nat.eq_of_beq_eq_true vw⟩];rw[hv];split at hC
   ·exact⟨_,_,_,rfl,hl,hC⟩
   ·exact hC.elim
  ·exact h.elim
 ·exact h.elim
theorem vA(hm:K4 X mk m s){ty:TypeId}{len:Nat}{parts:List (Nat×Value)}{C:Value->SS->Prop}(h:kN P mk ty len parts s C):∃v t' s',eQ (P ()) m ty len parts=some (v,t')/\Le s' (lE X t')/\C v s':=by
 unfold kN at h;unfold eQ;split at h
 ·rename_i hu
  split at h
  ·rename_i n z hn hz
   simp only[hu,hn,hz];obtain⟨hb,h⟩:=kD h;rw[hb];simp only[cond_true];split at h
   ·rename_i cs vN
    simp only[vN];obtain⟨fz,h⟩:=kD h;obtain⟨v,t',s',hv,hl,hC⟩:=hm _ _ _ _ fz h;rw[hv];split at hC
    ·exact⟨_,_,_,rfl,hl,hC⟩
    ·exact hC.elim
   ·exact h.elim
  ·exact h.elim
 ·exact h.elim
end
end Go.cS
namespace Go.cS
theorem sS{b:Bool}{A B:Prop}(h:cond b A B):(b=true/\A)\/(b=false/\B):=by
 cases b with
 |true=>exact .inl ⟨rfl,h⟩
 |false=>exact .inr ⟨rfl,h⟩
theorem Ha{b:Bool}{x y:Unit->Prop}(h:fork b x y):(b=true/\x ())\/(b=false/\y ()):=by
 cases b with
 |true=>exact .inl ⟨rfl,h⟩
 |false=>exact .inr ⟨rfl,h⟩
theorem IQ{P:Program}{h:af}{t:TypeId}{x k v:Value}{r ok:Bool}(hl:kH P h t x k true=some (.tuple #[v,.bool r],h)):kH P h t x k ok=some (found ok v r,h):=by
 unfold kH at hl ⊢;split at hl
 ·split at hl
  ·rename_i kd z es h1 h2 h3
   cases hb:(iF kd && isKey k)with
   |false=>rw[hb]at hl;cases hl
   |true=>
    rw[hb]at hl;simp only[cond_true]at hl ⊢;split at hl
    ·simp only[found,cond_true,oi,pj,Value.tuple.injEq,and_true]at hl
     simp at hl;obtain⟨rfl,rfl⟩:=hl;rfl
    ·simp only[found,cond_true,oi,pj,Value.tuple.injEq,and_true]at hl
     simp at hl;obtain⟨rfl,rfl⟩:=hl;rfl
    ·cases hl
  ·cases hl
 ·cases hl
theorem OE{P:Program}{h h':af}(e:h'.m=h.m)(src dst:TypeId)(a:Option Addr)(n:Nat):oq P h' src dst a n=oq P h src dst a n:=by
 unfold oq af.aM af.cells?;rw[e]
theorem Bh{P:Unit->Program}{H0:Hint}{F0:aZ}{X:af->af}{mk:ku}{m:kY}{s:SS}{t:St}{loc:Bool}{o:Op}{C:Value->SS->Prop}(hX:FC X)(hs:Le s (lE X t))(hm:K4 X mk m s)(tI:small o=true\/∀h,X h=h)(h:wpOp P (bj (P ()) H0 F0) mk loc o s C) :
  ∃v t' s',gm (P ()) m loc o t=some (v,t')/\Le s' (lE X t')/\C v s':=by
 have E1:∀{x:Operand} {v:Value},ev s x=some v->bH t x=some v:=fun hx=>by
  have:=hs.ev hx;rename_i x v;cases x<;>exact this
 have E2:∀{x:List Operand} {v:List Value},yZ s x=some v->gP t x=some v:=by
  intro x
  induction x with
  |nil=>intro v hx;exact hx
  |cons x r ih=>
   intro v hx;simp only[yZ]at hx;split at hx
   ·rename_i u hu
    split at hx
    ·rename_i l hl
     simp only[gP,E1 hu,ih hl];exact hx
    ·cases hx
   ·cases hx
 have E3:∀{x:Option Operand} {v:Option Value},pC s x=some v->jc t x=some v:=by
  intro x v hx;cases x with
  |none=>exact hx
  |some x=>
   simp only[pC]at hx;split at hx
   ·rename_i u hu
    simp only[jc,E1 hu];exact hx
   ·cases hx
 have E4:∀{x:List (Nat×Operand)} {v:List (Nat×Value)},jN s x=some v->fU t x=some v:=by
  intro x
  induction x with
  |nil=>intro v hx;exact hx
  |cons x r ih=>
   obtain⟨i,x⟩:=x;intro v hx;simp only[jN]at hx;split at hx
   ·rename_i u hu
    split at hx
    ·rename_i l hl
     simp only[fU,E1 hu,ih hl];exact hx
    ·cases hx
   ·cases hx
 unfold wpOp at h;split at h
 ·split at h
  ·rename_i v hv;exact⟨v,t,s,by simp only[gm,E1 hv],hs,h⟩
  ·exact h.elim
 ·split at h
  ·rename_i v hv;exact⟨v,t,s,by simp only[gm,E1 hv],hs,h⟩
  ·exact h.elim
 ·split at h
  ·rename_i b hb
   rcases Ha h with ⟨rfl,h1⟩|⟨rfl,h1⟩
   ·clear h
    split at h1
    ·rename_i v hv;exact⟨v,t,s,by simp only[gm,E1 hb,E1 hv],hs,h1⟩
    ·exact h1.elim
   ·clear h
    split at h1
    ·rename_i v hv;exact⟨v,t,s,by simp only[gm,E1 hb,E1 hv],hs,h1⟩
    ·exact h1.elim
  ·exact h.elim
 ·split at h
  ·rename_i z n hz hn
   obtain⟨fz,h⟩:=kD h;obtain⟨v,t',s',hv,hl,hC⟩:=hm _ _ _ _ fz h;exact⟨v,t',s',by simp only[gm,hz,hn,hv],hl,hC⟩
  ·exact h.elim
 ·split at h
  ·rename_i z n hz hn
   obtain⟨fz,h⟩:=kD h;obtain⟨v,t',s',hv,hl,hC⟩:=hm _ _ _ _ fz h;exact⟨v,t',s',by simp only[gm,E1 hz,hn,hv],hl,hC⟩
  ·exact h.elim
 ·split at h
  ·rename_i l hl
   split at h
   ·rename_i v hv;exact⟨v,t,s,by simp only[gm,E4 hl,hv],hs,h⟩
   ·exact h.elim
  ·exact h.elim
 ·split at h
  ·rename_i l hl
   obtain⟨v,t',s',hv,hle,hC⟩:=vA hm h;exact⟨v,t',s',by simp only[gm,E4 hl,hv],hle,hC⟩
  ·exact h.elim
 ·split at h
  ·rename_i a ha
   obtain⟨v,hv,hC⟩:=Ab hX hs h;exact⟨v,t,s,by simp only[gm,E1 ha,hv],hs,hC⟩
  ·exact h.elim
 ·split at h
  ·rename_i a v ha hv
   obtain⟨t',s',tU,hl,hC⟩:=FE hX hs h;exact⟨_,t',s',by simp only[gm,E1 ha,E1 hv,tU],hl,hC⟩
  ·exact h.elim
 ·split at h
  ·rename_i a ha
   exact⟨_,t,s,by simp only[gm,E1 ha],hs,h⟩
  ·rename_i f first captured ha
   exact⟨_,t,s,by simp only[gm,E1 ha],hs,h⟩
  ·exact h.elim
 ·split at h
  ·rename_i a b ha hb
   obtain⟨v,hv,hC⟩:=K7 h;exact⟨v,t,s,by simp only[gm,E1 ha,E1 hb,hv],hs,hC⟩
  ·exact h.elim
 ·split at h
  ·rename_i a ha
   obtain⟨v,hv,h⟩:=OD h;exact⟨v,t,s,by simp only[gm,E1 ha,hv],hs,h⟩
  ·exact h.elim
 ·split at h
  ·rename_i a n c ha
   split at h
   ·obtain⟨b,h1,h⟩:=h
    have sI:oq (P ()) s.h _ _ a n=some (.string b):=h1;have em:s.h.m=t.h.m:=by rw[<-hs.h];exact hX.m _
    rw[OE em]at sI;exact⟨.string b,t,s,by simp only[gm,E1 ha,sI],hs,h⟩
   ·exact h.elim
  ·rename_i a dX ha
   obtain⟨v,hv,h⟩:=IP h;refine⟨v,t,s,?_,hs,h⟩;simp only[gm,E1 ha];cases a<;>first|exact absurd rfl (dX _ _ _)|simp only[hv]
  ·exact h.elim
 ·split at h
  ·rename_i f l r hl hr
   obtain⟨hb,h⟩:=kD h;exact⟨_,t,s,by simp only[gm,E2 hl,E2 hr,hb,cond_true],hs,h⟩
  ·exact h.elim
 ·split at h
  ·rename_i a b ha hb
   obtain⟨v,t',s',hv,hle,hC⟩:=xN hm h;exact⟨v,t',s',by simp only[gm,E1 ha,E1 hb,hv],hle,hC⟩
  ·exact h.elim
 ·split at h
  ·rename_i v a b c hv ha hb hc
   obtain⟨r,hr,hC⟩:=FF h;exact⟨r,t,s,by simp only[gm,E1 hv,E3 ha,E3 hb,E3 hc,hr],hs,hC⟩
  ·exact h.elim
 ·split at h
  ·rename_i v hv
   obtain⟨r,hr,h⟩:=xL h;exact⟨r,t,s,by simp only[gm,E1 hv,hr],hs,h⟩
  ·exact h.elim
 ·split at h
  ·rename_i v hv
   split at h
   ·rename_i r hr;exact⟨r,t,s,by simp only[gm,E1 hv,hr],hs,h⟩
   ·exact h.elim
  ·exact h.elim
 ·split at h
  ·rename_i v j hv hj
   obtain⟨r,hr,hC⟩:=xK h;exact⟨r,t,s,by simp only[gm,E1 hv,E1 hj,hr],hs,hC⟩
  ·exact h.elim
 ·split at h
  ·rename_i v j hv hj
   obtain⟨r,hr,hC⟩:=FG h;exact⟨r,t,s,by simp only[gm,E1 hv,E1 hj,hr],hs,hC⟩
  ·exact h.elim
 ·split at h
  ·rename_i vs RG
   split at h
   ·rename_i v hv;exact⟨v,t,s,by simp only[gm,E1 RG,hv],hs,h⟩
   ·exact h.elim
  ·exact h.elim
 ·rename_i b args argTypes
  split at h
  ·rename_i l hl
   split at h
   ·split at h
    ·rename_i ty YA
     obtain⟨v,hv,h⟩:=K8 h;exact⟨v,t,s,by simp only[gm,E2 hl,YA,hv],hs,h⟩
    ·exact h.elim
   ·rename_i a n c
    split at h
    ·rename_i ty YA
     split at h
     ·rename_i e hu
      obtain⟨h1,h⟩:=h;have sI:c<aR:=h1;exact⟨.int .i64 c,t,s,by simp only[gm,E2 hl,YA,N8,hu,dW sI,cond_true],hs,h⟩
     ·exact h.elim
    ·exact h.elim
   ·obtain⟨v,hv,h⟩:=Dg h
    exact⟨v,t,s,by simp only[gm,E2 hl,hv],hs,h⟩
   ·obtain⟨v,hv,h⟩:=Dh h
    exact⟨v,t,s,by simp only[gm,E2 hl,hv],hs,h⟩
   ·have hx:∀h,X h=h:=by
     rcases tI with h|h
     ·simp[small,bK]at h
     ·exact h
    obtain⟨a,n,c,h',ha,hC⟩:=h;have e:t.h=s.h:=by rw[<-hs.h];exact(hx _).symm
    rw[<-e]at ha;exact⟨_,{ t with h:=h' },{ s with h:=h' },by simp only[gm,E2 hl,ha,bO],⟨hs.env,hs.K,hs.kn,hx _⟩,hC⟩
   ·have hx:∀h,X h=h:=by
     rcases tI with h|h
     ·simp[small,bK]at h
     ·exact h
    obtain⟨n,h',ha,hC⟩:=h;have e:t.h=s.h:=by rw[<-hs.h];exact(hx _).symm
    rw[<-e]at ha;exact⟨_,{ t with h:=h' },{ s with h:=h' },by simp only[gm,E2 hl,ha,bO],⟨hs.env,hs.K,hs.kn,hx _⟩,hC⟩
   ·have hx:∀h,X h=h:=by
     rcases tI with h|h
     ·simp[small,bK]at h
     ·exact h
    obtain⟨h',ha,hC⟩:=h;have e:t.h=s.h:=by rw[<-hs.h];exact(hx _).symm
    have Qx:rC (P ()) s.h argTypes.toList _=some (undef,h'):=ha;rw[<-e]at Qx;exact⟨_,{ t with h:=h' },{ s with h:=h' },by simp only[gm,E2 hl,Qx,bO],⟨hs.env,hs.K,hs.kn,hx _⟩,hC⟩
   ·exact h.elim
  ·exact h.elim
 ·have hx:∀h,X h=h:=by
   rcases tI with h|h
   ·simp[small,bK]at h
   ·exact h
  have e:t.h=s.h:=by rw[<-hs.h];exact(hx _).symm
  refine⟨.map (some t.h.next),{ t with h:=t.h.gO (.map []) },{ s with h:=s.h.gO (.map []) },by simp only[gm,bO],⟨hs.env,hs.K,hs.kn,by show X (t.h.gO (.map []))=_;rw[hx,e]⟩,?_⟩;rw[e];exact h
 ·rename_i tt xx ii ok
  have hx:∀h,X h=h:=by
   rcases tI with h|h
   ·simp[small,bK]at h
   ·exact h
  have e:t.h=s.h:=by rw[<-hs.h];exact(hx _).symm
  split at h
  ·rename_i kt et a b hu hv hj
   obtain⟨v,r,h1,h⟩:=Bg h;have sI:=IQ (ok:=ok) h1;rw[<-e]at sI;exact⟨_,t,s,by simp only[gm,E1 hv,E1 hj,sI,bO],hs,h⟩
  ·exact h.elim
 ·have hx:∀h,X h=h:=by
   rcases tI with h|h
   ·simp[small,bK]at h
   ·exact h
  have e:t.h=s.h:=by rw[<-hs.h];exact(hx _).symm
  split at h
  ·rename_i a b c ha hb hc
   obtain⟨h',h1,h⟩:=h;have sI:kI (P ()) s.h _ a b c=some (undef,h'):=h1;rw[<-e]at sI;exact⟨_,{ t with h:=h' },{ s with h:=h' },by simp only[gm,E1 ha,E1 hb,E1 hc,sI,bO],⟨hs.env,hs.K,hs.kn,hx _⟩,h⟩
  ·exact h.elim
 ·have hx:∀h,X h=h:=by
   rcases tI with h|h
   ·simp[small,bK]at h
   ·exact h
  have e:t.h=s.h:=by rw[<-hs.h];exact(hx _).symm
  split at h
  ·rename_i a b c ha hb hc
   obtain⟨h',h1,h⟩:=h;have sI:kI (P ()) s.h _ a b c=some (undef,h'):=h1;rw[<-e]at sI;exact⟨_,{ t with h:=h' },{ s with h:=h' },by simp only[gm,E1 ha,E1 hb,E1 hc,sI,bO],⟨hs.env,hs.K,hs.kn,hx _⟩,h⟩
  ·exact h.elim
 ·exact h.elim
theorem Le.put{s:SS}{t:St}(h:Le s t){nt:Nat}{d:Option Tmp}{v:Value}{C:SS->Prop}(hp:zu nt s d v C):∃t' s',rD nt t d v=some t'/\Le s' t'/\C s'/\t'.h=t.h:=by
 unfold zu at hp;unfold rD;split at hp
 ·exact⟨t,s,rfl,h,hp,rfl⟩
 ·rename_i d
  obtain⟨hb,hp⟩:=kD hp;simp only[hb,cond_true];refine⟨_,{ s with env:=(d,v) :: s.env },rfl,⟨fun i u hu=>?_,h.K,h.kn,h.h⟩,hp,rfl⟩;rw[kO]at hu;show(t.env.set d v).get i=some u;rw[cQ.bL];by_cases e:d=i
  ·rw[if_pos e]at hu ⊢;exact hu
  ·rw[if_neg e]at hu ⊢;exact h.env _ _ hu
theorem Le.callee{s:SS}{t:St}(h:Le s t){c:Call}{r:FuncId×List Value}(hc:jO (fun y=>aV+y) s c=some r):kJ t c=some r:=by
 unfold jO at hc;unfold kJ;split at hc
 ·rename_i x hx
  simp only[hx];split at hc
  ·rename_i f first captured l he hl
   simp only[h.ev he,h.yZ hl];exact hc
  ·rename_i y u1 u2 l he hl
   simp only[h.ev he,h.yZ hl];exact hc
  ·cases hc
 ·cases hc
theorem Le.same{s:SS}{t:St}(h:Le s t){d:Nat}{v:Value}(hd:lk s.env d=some v):Le { s with env:=(d,v) :: s.env } t:=
 ⟨fun i u hu=>by
  rw[kO]at hu;by_cases e:d=i
  ·subst e;rw[if_pos rfl]at hu;rw[<-hu];exact h.env _ _ hd
  ·rw[if_neg e]at hu;exact h.env _ _ hu,h.K,h.kn,h.h⟩
theorem xO{ops:Array Oper}{o:Oper}{s:SS}{t:St}{go skip:SS->Prop}(h:Le s t)(hw:nN ops o s go skip) :
  (jd ops o t=some true/\∃s',Le s' t/\s'.h=s.h/\s'.kn=s.kn/\go s')\/(jd ops o t=some false/\∃s',Le s' t/\s'.h=s.h/\s'.kn=s.kn/\skip s'):=by
 unfold nN at hw;unfold jd;split at hw
 ·rename_i hg
  rw[hg];exact .inl ⟨rfl,s,h,rfl,rfl,hw⟩
 ·rename_i j want hg
  simp only[hg];split at hw
  ·rename_i d hd
   simp only[hd];split at hw
   ·rename_i b hb
    simp only[h.env _ _ hb];cases want with
    |true=>
     simp only[]at hw;rcases Ha hw with ⟨rfl,o7⟩|⟨rfl,o7⟩
     ·exact .inl ⟨by simp,_,h.same hb,rfl,rfl,o7⟩
     ·exact .inr ⟨by simp,_,h.same hb,rfl,rfl,o7⟩
    |false=>
     simp only[]at hw;rcases Ha hw with ⟨rfl,o7⟩|⟨rfl,o7⟩
     ·exact .inr ⟨by simp,_,h.same hb,rfl,rfl,o7⟩
     ·exact .inl ⟨by simp,_,h.same hb,rfl,rfl,o7⟩
   ·rename_i vs RG
    simp only[h.env _ _ RG];obtain⟨hb,hw⟩:=kD hw;rw[hb];exact .inr ⟨rfl,s,h,rfl,rfl,hw⟩
   ·exact hw.elim
  ·exact hw.elim
theorem OF{P0:Program}{H0:Hint}{F0:aZ}(s:SS)(t:St)(hs:Le s t):K4 (fun h=>h) (OB (bj P0 H0 F0)) t.new s:=by
 intro loc es cs C fz h;unfold OB at h;unfold St.new;rw[fz];simp only[cond_true];cases loc with
 |true=>
  simp only[fork,cond_true]at h ⊢;have e:t.kn=s.kn:=hs.kn;refine⟨_,_,{ s with kn:=s.kn+1,K:=(s.kn,cs) :: s.K },rfl,⟨hs.env,fun i v hv=>?_,by simp[lE,e],hs.h⟩,by rw[e];exact h⟩;rw[kO]at hv;show(t.K.set t.kn cs).get i=some v;rw[cQ.bL,e];by_cases e:s.kn=i
  ·rw[if_pos e]at hv ⊢;exact hv
  ·rw[if_neg e]at hv ⊢;exact hs.K _ _ hv
 |false=>
  simp only[fork,cond_false]at h ⊢;have e:t.h=s.h:=hs.h;exact⟨_,_,{ s with h:=s.h.push es cs },rfl,⟨hs.env,hs.K,hs.kn,by show t.h.push es cs=_;rw[e]⟩,by rw[e];exact h⟩
theorem Ad{P0:Program}{H0:Hint}{F0:aZ}{X:af->af}(hX:FC X)(id tag:Nat)(s:SS)(t:St)(hs:Le s (lE X t)):K4 X (ui (bj P0 H0 F0) id tag) (t.newAt id tag) s:=by
 intro loc es cs C fz h;unfold ui at h;unfold St.newAt;rw[fz];simp only[cond_true];cases loc with
 |true=>
  simp only[fork,cond_true]at h ⊢;refine⟨_,_,{ s with K:=(tag,cs) :: s.K },rfl,⟨hs.env,fun i v hv=>?_,hs.kn,hs.h⟩,h⟩;rw[kO]at hv;show(t.K.set tag cs).get i=some v;rw[cQ.bL];by_cases e:tag=i
  ·rw[if_pos e]at hv ⊢;exact hv
  ·rw[if_neg e]at hv ⊢;exact hs.K _ _ hv
 |false=>
  simp only[fork,cond_false]at h ⊢;refine⟨_,_,{ s with h:=s.h.putAt id es cs },rfl,⟨hs.env,hs.K,hs.kn,?_⟩,h⟩;have:=hX.putAt t.h id es cs;show X (t.h.putAt id es cs)=_;rw[this];rw[show X t.h=s.h from hs.h]
end Go.cS
namespace Go.cS
variable{P:Unit->Program}{H:Hint}{F:aZ}{V:Live}
theorem sT{f:FuncId}{nt:Nat}{ops:Array Oper}:∀(l:List Oper) (s:SS) (t:St) (Q:SS->Prop),Le s t->wpOps P H (bj (P ()) H F) f nt ops l s Q->
  ∃n t' s',lj (P ()) H (cB (P ()) H F n).call f nt ops l t=some t'/\Le s' t'/\Q s'
 | [],s,t,Q,hs,h=>⟨0,t,s,rfl,hs,h⟩
 |o :: rest,s,t,Q,hs,h=>by
  simp only[wpOps]at h;simp only[lj];rcases xO hs h with ⟨hw,s1,fX,e1,e2,h⟩|⟨hw,s1,fX,e1,e2,h⟩
  ·simp only[hw]
   unfold G7 at h;split at h
   ·rename_i c hc
    split at h
    ·rename_i g args hg
     obtain⟨v,h',⟨n1,hr⟩,h⟩:=h.ex;have h:=xJ h;have ql:Le { s1 with h:=h' } { t with h:=h' }:=⟨fX.env,fX.K,fX.kn,rfl⟩;obtain⟨t3,s3,hp,xP,h,_⟩:=ql.put h;obtain⟨n2,t4,s4,ho,y7,hQ⟩:=sT rest s3 t3 Q xP h;refine⟨max n1 n2,t4,s4,?_,y7,hQ⟩;have oH:rE (P ()) H (cB (P ()) H F (max n1 n2)).call f o t=some (v,{ t with h:=h' }):=by
      unfold rE;simp only[hc,jB,fX.callee hg];have:(cB (P ()) H F (max n1 n2)).call g args t.h=some (v,h'):=by
       rw[fX.h];exact(jW (Nat.le_max_left n1 n2)).call _ _ _ _ hr
      simp only[this]
     simp only[oH,hp];exact qu (jW (Nat.le_max_right n1 n2)).call _ _ _ ho
    ·exact h.elim
   ·rename_i hc
    obtain⟨v,t2,s2,ho,ql,h⟩:=Bh (m:=t.new) FC.id (by exact fX) (OF s1 t fX) (.inr fun _=>rfl) h;obtain⟨t3,s3,hp,xP,h,_⟩:=Le.put (t:=t2) ql h;obtain⟨n2,t4,s4,OG,y7,hQ⟩:=sT rest s3 t3 Q xP h;refine⟨n2,t4,s4,?_,y7,hQ⟩;have oH:rE (P ()) H (cB (P ()) H F n2).call f o t=some (v,t2):=by
     unfold rE;simp only[hc];exact ho
    simp only[oH,hp];exact OG
  ·simp only[hw]
   obtain⟨t3,s3,hp,xP,h,_⟩:=fX.put h;obtain⟨n2,t4,s4,OG,y7,hQ⟩:=sT rest s3 t3 Q xP h;refine⟨n2,t4,s4,?_,y7,hQ⟩;simp only[hp];exact OG
theorem qy{id tag:Nat}{t t1:St}{loc:Bool}{es:Nat}{cs:List Value}{v:Value}(h:t.newAt id tag loc es cs=some (v,t1)):t1.h.low=t.h.low:=by
 unfold St.newAt at h;cases fz:cs.all aE with
 |false=>rw[fz]at h;cases h
 |true=>
  rw[fz]at h;cases loc with
  |true=>simp only[cond_true,oi,pj]at h;obtain⟨_,rfl⟩:=h;rfl
  |false=>simp only[cond_true,cond_false,oi,pj]at h;obtain⟨_,rfl⟩:=h;rfl
theorem zv{id tag:Nat}{t t1:St}{ty:TypeId}{l c v:Value}(h:fJ (P ()) (t.newAt id tag) ty l c=some (v,t1)):t1.h.low=t.h.low:=by
 unfold fJ at h;split at h
 ·split at h
  ·split at h
   ·split at h
    ·rename_i a s' hm
     simp only[oi,pj]at h;obtain⟨_,rfl⟩:=h;exact qy hm
    ·cases h
   ·cases h
  ·cases h
 ·cases h
theorem xQ{id tag:Nat}{t t1:St}{ty:TypeId}{len:Nat}{parts:List (Nat×Value)}{v:Value}(h:eQ (P ()) (t.newAt id tag) ty len parts=some (v,t1)):t1.h.low=t.h.low:=by
 unfold eQ at h;split at h
 ·split at h
  ·rename_i n z _ _
   cases hb:(Nat.ble (len*n) 16777216 && Nat.beq z.cells.toList.length n && Nat.ble len 16777216)with
   |false=>rw[hb]at h;cases h
   |true=>
    rw[hb]at h;simp only[cond_true]at h;split at h
    ·split at h
     ·rename_i a s' hm
      simp only[oi,pj]at h;obtain⟨_,rfl⟩:=h;exact qy hm
     ·cases h
    ·cases h
  ·cases h
 ·cases h
theorem OH {id tag : Nat} {t t1 : St} {loc : Bool} {o : Op} {v : Value} (tI : small o = true) (tU : iC o = false) (h : gm (P ()) (t.newAt id tag) loc o t = some (v, t1)) : t1.h.low = t.h.low := by
  unfold gm at h
  split at h
  case h_4 => split at h <;> first | exact qy h | cases h
  case h_5 => split at h <;> first | exact qy h | cases h
  case h_7 => split at h <;> first | exact xQ h | cases h
  case h_15 => split at h <;> first | exact zv h | cases h
  case h_9 => simp [iC] at tU
  case h_23 => simp [small, bK] at tI
  case h_24 => simp [small, bK] at tI
  case h_25 => simp [small, bK] at tI
  case h_26 => simp [small, bK] at tI
  case h_22 =>
    rename_i b args argTypes
    cases b <;> simp [small, bK] at tI
    all_goals
      (split at h
       · rename_i l hl
         rcases l with _ | ⟨x, _ | ⟨y, r⟩⟩
         all_goals
           (simp only [] at h
            repeat' split at h
            all_goals first
              | (cases h; done)
              | (cases h; rfl))
       · cases h)
  all_goals
    (repeat' split at h
     all_goals first
       | (cases h; done)
       | (cases h; rfl)
       | (simp only [oi, pj] at h; obtain ⟨_, rfl⟩ := h; rfl)
       | (rename_i l r _ _; cases hb : (l.all dr && r.all dr) <;> rw [hb] at h <;> first | (cases h; done) | (cases h; rfl)))
theorem IS{dD:Nat}{x:FP}{wx:Bool}{y:FP}{wy:Bool}{C:Prop}(h:xI (bj (P ()) H F) dD x wx y wy C):cA dD x wx y wy=false/\C:=by
 unfold xI at h;split at h
 ·exact⟨rfl,h⟩
 ·split at h
  ·exact⟨rfl,h⟩
  ·exact h.elim
 ·split at h
  ·exact⟨rfl,h⟩
  ·exact h.elim
 ·rename_i l b
  split at h
  ·exact⟨rfl,h⟩
  ·rcases sS h with ⟨rfl,h2⟩|⟨rfl,h2⟩
   ·exact⟨by simp[cA],h2⟩
   obtain⟨⟨rfl,rfl,h1⟩,h3⟩:=h2;refine⟨?_,h3⟩;rcases h1 with h1|h1
   ·cases h1
   ·simp[cA,dW h1]
  ·rename_i c
   rcases sS h with ⟨rfl,h2⟩|⟨rfl,h2⟩
   ·exact⟨by simp[cA],h2⟩
   obtain⟨⟨rfl,h0,h1⟩,h3⟩:=h2;refine⟨?_,h3⟩;rcases h1 with h1|h1
   ·cases h1
   ·rcases h0 with rfl|h0
    ·simp[cA,dW h1]
    ·simp[cA,dW h1,beq_eq,h0]
  ·rename_i l' b'
   rcases sS h with ⟨e,h1⟩|⟨e,h1⟩
   ·rcases sS h1 with ⟨e2,h2⟩|⟨e2,h2⟩
    ·exact⟨by have h3:b≠b':=h2.1;simp[cA,same,beq_eq,h3],h2.2⟩
    ·exact⟨by simp[cA,same,e2],h2⟩
   ·exact⟨by simp[cA,e],h1⟩
  ·rename_i l' b'
   rcases sS h with ⟨e2,h2⟩|⟨e2,h2⟩
   ·exact⟨by have h3:b≠b':=h2.1;simp[cA,same,beq_eq,h3],h2.2⟩
   ·exact⟨by simp[cA,same,e2],h2⟩
 ·rename_i l b
  split at h
  ·exact⟨rfl,h⟩
  ·obtain⟨rfl,h⟩:=h
   exact⟨rfl,h⟩
  ·rename_i c
   obtain⟨⟨_,h0,_⟩,h3⟩:=h;refine⟨?_,h3⟩;rcases h0 with rfl|h0
   ·simp[cA]
   ·simp[cA,beq_eq,h0]
  ·rename_i l' b'
   rcases sS h with ⟨e2,h2⟩|⟨e2,h2⟩
   ·exact⟨by have h3:b≠b':=h2.1;simp[cA,same,beq_eq,h3],h2.2⟩
   ·exact⟨by simp[cA,same,e2],h2⟩
  ·rename_i l' b'
   rcases sS h with ⟨e2,h2⟩|⟨e2,h2⟩
   ·exact⟨by have h3:b≠b':=h2.1;simp[cA,same,beq_eq,h3],h2.2⟩
   ·exact⟨by simp[cA,same,e2],h2⟩
theorem pF{ops:Array Oper}{dD p:Nat}{x:FP}{wx:Bool}:∀{r:List (Nat×FP×Bool)} {C:Prop},jl (bj (P ()) H F) ops dD p x wx r C->
  r.all (fun(q,y,wy)=>!(cA dD x wx y wy) || prec (Region.before ops) p q)=true/\C
 | [],C,h=>⟨rfl,h⟩
 |(q,y,wy) :: r,C,h=>by
  simp only[jl]at h;rcases sS h with ⟨e,h⟩|⟨e,h⟩
  ·obtain⟨h1,h2⟩:=pF h
   exact⟨by simp only[List.all_cons,e,Bool.or_true,Bool.true_and];exact h1,h2⟩
  ·obtain⟨h0,h⟩:=IS h
   obtain⟨h1,h2⟩:=pF h;exact⟨by simp only[List.all_cons,h0,Bool.not_false,Bool.true_or,Bool.true_and];exact h1,h2⟩
theorem xR{ops:Array Oper}{dD:Nat}:∀{r:List (Nat×FP×Bool)} {C:Prop},qx (bj (P ()) H F) ops dD r C->Cx ops dD r=true/\C
 | [],C,h=>⟨rfl,h⟩
 |(p,x,wx) :: r,C,h=>by
  simp only[qx]at h;obtain⟨h1,h⟩:=pF h;obtain⟨h2,h⟩:=xR h;refine⟨?_,h⟩;unfold Cx at h2 ⊢;simp only[zN,h2,Bool.and_true];exact h1
theorem UW{s:SS}{t:St}(hs:Le s t){o:Op}{loc:Bool}{id tag:Nat}(tI:small o=true)(h:∀x,(∃ty,o=.load ty x)\/(∃ty y,o=.store ty x y)\/(∃src dst,o=.convert src dst x)->(ev s x).isSome=true):dO o loc id tag t=Qv o loc id tag s:=by
 unfold dO Qv;cases hp:bK o with
 |true=>rfl
 |false=>
  simp only[cond_false];cases o<;>try rfl
  ·rename_i ty x
   have:=h x (.inl ⟨ty,rfl⟩);cases hv:ev s x with
   |none=>rw[hv]at this;cases this
   |some v=>
    simp only[hs.ev hv,hv];cases v<;>rfl
  ·rename_i ty x y
   have:=h x (.inr (.inl ⟨ty,y,rfl⟩));cases hv:ev s x with
   |none=>rw[hv]at this;cases this
   |some v=>
    simp only[hs.ev hv,hv];cases v<;>rfl
  ·rename_i src dst x
   have:=h x (.inr (.inr ⟨src,dst,rfl⟩));cases hv:ev s x with
   |none=>rw[hv]at this;cases this
   |some v=>
    simp only[hs.ev hv,hv];cases v<;>first|rfl|(rename_i a n c;cases a<;>rfl)
  ·rename_i c
   exfalso;have:bK (.call c)=true:=tI;rw[hp]at this;cases this
theorem OI{mk:ku}{s:SS}{loc:Bool}{o:Op}{C:Value->SS->Prop}(h:wpOp P (bj (P ()) H F) mk loc o s C):∀x,(∃ty,o=.load ty x)\/(∃ty y,o=.store ty x y)\/(∃src dst,o=.convert src dst x)->(ev s x).isSome=true:=by
 rintro x (⟨ty,rfl⟩|⟨ty,y,rfl⟩|⟨src,dst,rfl⟩)
 ·simp only[wpOp]at h
  split at h
  ·rename_i a ha;rw[ha];rfl
  ·exact h.elim
 ·simp only[wpOp]at h
  split at h
  ·rename_i a v ha hv;rw[ha];rfl
  ·exact h.elim
 ·simp only[wpOp]at h
  split at h
  ·rename_i a n c ha;rw[ha];rfl
  ·rename_i a _ ha;rw[ha];rfl
  ·exact h.elim
theorem IT{o:Op}{c:Call}(h:dP o=some c){loc:Bool}{id tag:Nat}{t:St}:dO o loc id tag t=.all/\iC o=false:=by
 unfold dP at h;split at h
 ·rename_i c'
  split at h
  ·rename_i x hx
   obtain⟨callee,args,tys⟩:=c';subst hx;exact⟨rfl,rfl⟩
  ·cases h
 ·cases h
theorem Di{o:Op}(h:small o=false){loc:Bool}{id tag:Nat}{s:SS}{t:St}(hs:Le s t){mk:ku}{C:Value->SS->Prop}{h2:af}(hw:wpOp P (bj (P ()) H F) mk loc o { s with h:=h2 } C):dO o loc id tag t=Qv o loc id tag s/\iC o=false:=by
 unfold dO Qv;have hp:bK o=false:=by
  unfold small at h;split at h
  all_goals first|(cases h;done)|exact h
 rw[hp];simp only[cond_false];cases o<;>first|(simp[small]at h;done)|exact⟨rfl,rfl⟩|skip
 rename_i c;refine⟨?_,rfl⟩;obtain⟨callee,args,tys⟩:=c;cases callee<;>try rfl
 rename_i b;cases b<;>try rfl
 simp only[]
 congr 2
 simp only[wpOp]at hw;cases ha:args.toList with
 |nil=>rfl
 |cons x r=>
  rw[ha]at hw;have Xa:∀x,ev { s with h:=h2 } x=ev s x:=fun x=>by cases x<;>rfl
  simp only[yZ,Xa]at hw;show bH t x=ev s x;cases hx:ev s x with
  |none=>rw[hx]at hw;exact hw.elim
  |some v=>exact hs.ev hx
theorem mT(hF:aW F){f:FuncId}{nt:Nat}{ops:Array Oper}{base aO:Nat}:∀(l:List Nat) (i:Nat) (s:SS) (t:St) (Q:SS->List (Nat×FP×Bool)->Prop),Le s t->t.h.low<=t.h.next->base<=t.h.next->kv P H (bj (P ()) H F) f nt ops base aO l i s Q->
  ∃n t' s' il,qN (P ()) H (cB (P ()) H F n).call f nt ops base aO l i t=some (t',il)/\Le s' t'/\Q s' il
 | [],i,s,t,Q,hs,hl,hb,h=>⟨0,t,s,[],rfl,hs,h⟩
 |p :: rest,i,s,t,Q,hs,hl,hb,h=>by
  simp only[kv]at h;simp only[qN];split at h
  ·exact h.elim
  ·rename_i o Xb
   simp only[Xb];rcases xO hs h with ⟨hw,s1,fX,e1,e2,h⟩|⟨hw,s1,fX,e1,e2,h⟩
   ·simp only[hw]
    have uJ:(t.fresh).h=(bj (P ()) H F).fresh s1.h:=by
     rw[<-fX.h];rfl
    split at h
    ·rename_i c hc
     split at h
     ·rename_i g args hg
      obtain⟨v,h',⟨n1,hr⟩,h⟩:=h.ex;have h:=xJ h;have hk:bI t.h.next t.fresh.h h':=by
       have:=(gT hF n1).2.2 _ _ _ _ _ hr;rw[<-uJ]at this;exact this
      have ql:Le { s1 with h:=(bj (P ()) H F).az s1.h h' } (St.az { t with h:=h' } t.h.low):=⟨fX.env,fX.K,fX.kn,by show af.az h' t.h.low=af.az h' s1.h.low;rw[fX.h]⟩;obtain⟨t3,s3,hp,xP,h,eh⟩:=ql.put h;have k2:bI base t.h t3.h:=by rw[eh];exact jh (s1:={ t with h:=h' }) (hk.mono hb)
      obtain⟨n2,t4,s4,il,ho,y7,hQ⟩:=mT hF rest (i+1) s3 t3 _ xP (Nat.le_trans k2.low (Nat.le_trans hl k2.next)) (Nat.le_trans hb k2.next) h;refine⟨max n1 n2,t4,s4,_,?_,y7,hQ⟩;have oH:jx (P ()) H (cB (P ()) H F (max n1 n2)).call f (base+i) (aO+i) o t.fresh=some (v,{ t with h:=h' }):=by
       unfold jx;have OJ:Le { s1 with h:=t.fresh.h } t.fresh:=⟨fX.env,fX.K,fX.kn,rfl⟩;have vr:jO (fun y=>aV+y) { s1 with h:=t.fresh.h } c=some (g,args):=by
        have Xa:∀x,ev { s1 with h:=t.fresh.h } x=ev s1 x:=fun x=>by cases x<;>rfl
        have YB:∀l,yZ { s1 with h:=t.fresh.h } l=yZ s1 l:=fun l=>by
         induction l with
         |nil=>rfl
         |cons x r ih=>simp only[yZ,Xa,ih]
        have:=hg;unfold jO at this ⊢;simp only[Xa,YB];exact this
       have hca:kJ t.fresh c=some (g,args):=OJ.callee vr;simp only[hc,jB,hca];have:(cB (P ()) H F (max n1 n2)).call g args t.fresh.h=some (v,h'):=by
        rw[uJ];exact(jW (Nat.le_max_left n1 n2)).call _ _ _ _ hr
       simp only[this];rfl
      simp only[oH,hp,qv (jW (Nat.le_max_right n1 n2)).call _ _ _ _ ho];obtain⟨f1,f2⟩:=IT (o:=o.op) hc (loc:=eV H f o) (id:=base+i) (tag:=aO+i) (t:=t);rw[f1,f2,Bool.false_or,fX.h];rfl
     ·exact h.elim
    ·rename_i hc
     rcases sS h with ⟨tI,h⟩|⟨tI,h⟩
     rotate_left
     ·have OJ:Le { s1 with h:=(bj (P ()) H F).fresh s1.h } t.fresh:=⟨fX.env,fX.K,fX.kn,uJ⟩
      have kx:=h;obtain⟨v,t2,s2,ho,ql,h⟩:=Bh (m:=t.fresh.newAt (base+i) (aO+i)) FC.id (t:=t.fresh) OJ (Ad FC.id (base+i) (aO+i) _ t.fresh OJ) (.inr fun _=>rfl) h;have oH:∀n,jx (P ()) H (cB (P ()) H F n).call f (base+i) (aO+i) o t.fresh=some (v,t2):=by
       intro n;unfold jx;simp only[hc];exact ho
      have hk:bI base t.fresh.h t2.h:=tW (gT hF 0).2.2 hb (Nat.le_add_right _ _) (oH 0);have xP:Le { s2 with h:=(bj (P ()) H F).az s1.h s2.h } (t2.az t.h.low):=⟨ql.env,ql.K,ql.kn,by
       show af.az t2.h t.h.low=af.az s2.h s1.h.low;rw[fX.h,show t2.h=s2.h from ql.h]⟩
      obtain⟨t3,s3,hp,xP,h,eh⟩:=xP.put h;have k2:bI base t.h t3.h:=by rw[eh];exact jh hk
      obtain⟨n2,t4,s4,il,OG,y7,hQ⟩:=mT hF rest (i+1) s3 t3 _ xP (Nat.le_trans k2.low (Nat.le_trans hl k2.next)) (Nat.le_trans hb k2.next) h;refine⟨n2,t4,s4,_,?_,y7,hQ⟩;simp only[oH,hp,OG];obtain⟨f1,f2⟩:=Di tI (loc:=eV H f o) (id:=base+i) (tag:=aO+i) fX kx;rw[f1,f2,Bool.false_or,fX.h,show t2.h=s2.h from ql.h];rfl
     have hX:=FC.az t.h.low;have hsX:Le s1 (lE (fun h=>h.az t.h.low) t.fresh):=⟨fX.env,fX.K,fX.kn,by
      show af.az t.fresh.h t.h.low=s1.h;rw[<-fX.h];have:Nat.min t.h.low t.h.next=t.h.low:=Nat.min_eq_left hl;show({ next:=t.h.next,low:=Nat.min t.h.low t.h.next,m:=t.h.m }:af)=t.h;rw[this]⟩
     have Qq:=OI h;obtain⟨v,t2,s2,ho,ql,h⟩:=Bh (m:=t.fresh.newAt (base+i) (aO+i)) hX hsX (Ad hX (base+i) (aO+i) s1 t.fresh hsX) (.inl tI) h;have oH:∀n,jx (P ()) H (cB (P ()) H F n).call f (base+i) (aO+i) o t.fresh=some (v,t2):=by
      intro n;unfold jx;simp only[hc];exact ho
     have hk:bI base t.fresh.h t2.h:=tW (gT hF 0).2.2 hb (Nat.le_add_right _ _) (oH 0);obtain⟨t3,s3,hp,xP,h,eh⟩:=Le.put (t:=t2.az t.h.low) ql h;have k2:bI base t.h t3.h:=by rw[eh];exact jh hk
     obtain⟨n2,t4,s4,il,OG,y7,hQ⟩:=mT hF rest (i+1) s3 t3 _ xP (Nat.le_trans k2.low (Nat.le_trans hl k2.next)) (Nat.le_trans hb k2.next) h;refine⟨n2,t4,s4,_,?_,y7,hQ⟩;simp only[oH,hp,OG];rw[UW fX tI Qq];have Ik:(iC o.op || Nat.blt t2.h.low t.h.next)=iC o.op:=by
      cases tU:iC o.op with
      |true=>rfl
      |false=>
       rw[OH tI tU ho];exact cF (Nat.le_refl _)
     rw[Ik];rfl
   ·simp only[hw]
    obtain⟨t3,s3,hp,xP,h,eh⟩:=fX.put h;obtain⟨n2,t4,s4,il,OG,y7,hQ⟩:=mT hF rest (i+1) s3 t3 _ xP (by rw[eh];exact hl) (by rw[eh];exact hb) h;refine⟨n2,t4,s4,_,?_,y7,hQ⟩;simp only[hp,OG]
theorem IU(hF:aW F){f:FuncId}{nt:Nat}{ops:Array Oper}{s:SS}{t:St}{Q:SS->Prop}(hs:Le s t)(hl:t.h.low<=t.h.next)(h:Be P H (bj (P ()) H F) f nt ops s Q) :
  ∃n t' s',qW (P ()) H (cB (P ()) H F n).call f nt ops t=some t'/\Le s' t'/\Q s':=by
 unfold Be at h;obtain⟨hd,h⟩:=kD h;have fX:Le { s with kn:=s.kn+ops.size,h:=s.h.aG ops.size } (t.jf ops.size):=⟨hs.env,hs.K,by show t.kn+ops.size=_;rw[hs.kn],by show af.aG t.h ops.size=_;rw[hs.h]⟩;obtain⟨n,t',s',il,ho,qO,h⟩:=mT hF _ _ _ _ _ fX (by show t.h.low<=t.h.next+ops.size;omega) (by show s.h.next<=t.h.next+ops.size;rw[hs.h];omega) h;obtain⟨hf,h⟩:=xR h;refine⟨n,t',s',?_,qO,h⟩;unfold qW;have mB:qN (P ()) H (cB (P ()) H F n).call f nt ops t.h.next t.kn (fQ ops) 0 (t.jf ops.size)=some (t',il):=by
  rw[hs.h,hs.kn];exact ho
 have Ob:Cx ops (t.h.next+ops.size) il=true:=by rw[hs.h];exact hf
 simp only[hd,cond_true,mB,Ob]
theorem lF{α:Type}{b:Bool}{x y:α}(h:(bif b then some x else none)=some y):b=true/\x=y:=by
 cases b with
 |true=>exact⟨rfl,by simpa using h⟩
 |false=>cases h
theorem Bi{α:Type}{b:Bool}{x:α}(h:b=true):(bif b then some x else none)=some x:=by rw[h];rfl
theorem Dj{f:FuncId}{c:Code}{kn:Nat}{s s0:SS}{t:St}(hs:Le s t)(h:G8 H f c kn s=some s0):∃t0,norm H f c kn t=some t0/\Le s0 t0/\t0.h=t.h:=by
 unfold G8 at h;unfold norm;split at h
 ·rename_i hk
  simp only[oi]at h;subst h;rw[hk];exact⟨t,rfl,hs,rfl⟩
 ·rename_i l hk
  rw[hk];obtain⟨hb,rfl⟩:=lF h
  ·simp only[Bool.and_eq_true]at hb
   have key:∀(ks:List Tmp) (acc:cQ Value) (i:Nat),(restrict t.env ks acc).get i=if i∈ks/\(t.env.get i).isSome then t.env.get i else acc.get i:=by
    intro ks
    induction ks with
    |nil=>intro acc i;simp[restrict]
    |cons k ks ih=>
     intro acc i;simp only[restrict];split
     ·rename_i v hv
      rw[ih,cQ.bL];by_cases e:k=i
      ·subst e;simp[hv]
      ·have:¬i=k:=fun h=>e h.symm
       simp[e,this]
     ·rename_i hv
      rw[ih];by_cases e:k=i
      ·subst e;simp[hv]
      ·have:¬i=k:=fun h=>e h.symm
       simp[this]
   refine⟨{ t with env:=restrict t.env l .leaf,kn:=kn },?_,⟨?_,fun i v hv=>hs.K i v (pE _ _ _ _ hv),rfl,hs.h⟩,?_⟩
   ·refine Bi ?_
    rw[show Nat.ble kn t.kn=true by rw[hs.kn];exact hb.1,Bool.true_and,List.all_eq_true];intro i hi;have h1:=List.all_eq_true.1 hb.2 i hi;split at h1
    ·rename_i v hv
     rw[key,if_pos ⟨hi,by rw[hs.env _ _ hv];rfl⟩,hs.env _ _ hv];exact h1
    ·cases h1
   ·intro i v hv
    have hm:∀(ks:List Tmp),lk (pB s.env ks) i=some v->i∈ks:=by
     intro ks
     induction ks with
     |nil=>intro h;cases h
     |cons k ks ih=>
      intro h;simp only[pB]at h;split at h
      ·rw[kO]at h
       by_cases e:k=i
       ·simp[e]
       ·rw[if_neg e]at h;simp[ih h]
      ·simp[ih h]
    have h2:=hs.env _ _ (pE _ _ _ _ hv);show(restrict t.env l .leaf).get i=some v;rw[key,if_pos ⟨hm _ hv,by rw[h2];rfl⟩];exact h2
   ·rfl
theorem uY{B:Nat}{h h':af}(k:bI B h h')(hl:h.low<=h.next):h'.low<=h'.next:=Nat.le_trans k.low (Nat.le_trans hl k.next)
theorem FH(hF:aW F){f:FuncId}{fn:Func}{c0:Code}(yY:(P ()).funcs[f]?=some fn)(tJ:fn.body=some c0):∀(c:Code) (s:SS) (t:St) (Q:Exit->SS->Prop),((∀b∈bD c,b∈bD c0)/\(∀r∈bE c,r∈bE c0))->Le s t->t.h.low<=t.h.next->wpS P H (bj (P ()) H F) V f fn.ntmps c s Q->∃x t' s',pA (P ()) H F f fn.ntmps c t x t'/\Le s' t'/\Q x s':=by
 have hrk:∀{c:Code} {t t':St} {x:Exit},pA (P ()) H F f fn.ntmps c t x t'->t.h.low<=t.h.next->t'.h.low<=t'.h.next:=by
  rintro c t t' x ⟨n,hn⟩ hl;exact uY ((gT hF n).1 _ _ _ _ _ _ hn) hl
 intro c
 induction c with
 |skip=>intro s t Q tH hs hl h;exact⟨_,_,_,pA.skip,hs,h⟩
 |ret=>intro s t Q tH hs hl h;exact⟨_,_,_,pA.ret,hs,h⟩
 |exit id=>intro s t Q tH hs hl h;exact⟨_,_,_,pA.exit,hs.fM _,h⟩
 |seq a b Bj sj=>
  intro s t Q tH hs hl h;simp only[wpS]at h;obtain⟨x,t1,s1,h1,fX,h⟩:=Bj _ _ _ ⟨fun b hb=>tH.1 b (by simp only[bD,List.mem_append];exact .inl hb),fun b hb=>tH.2 b (by simp only[bE,List.mem_append];exact .inl hb)⟩ hs hl h;unfold IN at h;split at h
  ·obtain⟨y,t2,s2,h2,ql,h⟩:=sj _ _ _ ⟨fun b hb=>tH.1 b (by simp only[bD,List.mem_append];exact .inr hb),fun b hb=>tH.2 b (by simp only[bE,List.mem_append];exact .inr hb)⟩ fX (hrk h1 hl) h
   exact⟨_,_,_,pA.seq h1 h2,ql,h⟩
  ·rename_i hx
   exact⟨_,_,_,pA.RZ h1 hx,fX,h⟩
 |cond x a b Bj sj=>
  intro s t Q tH hs hl h;simp only[wpS]at h;split at h
  ·rename_i v hv
   rcases Ha h with ⟨rfl,h1⟩|⟨rfl,h1⟩
   ·obtain⟨y,t2,s2,h2,ql,h3⟩:=Bj _ _ _ ⟨fun b hb=>tH.1 b (by simp only[bD,List.mem_append];exact .inl hb),fun b hb=>tH.2 b (by simp only[bE,List.mem_append];exact .inl hb)⟩ hs hl h1
    exact⟨_,_,_,pA.cond (hs.ev hv) h2,ql,h3⟩
   ·obtain⟨y,t2,s2,h2,ql,h3⟩:=sj _ _ _ ⟨fun b hb=>tH.1 b (by simp only[bD,List.mem_append];exact .inr hb),fun b hb=>tH.2 b (by simp only[bE,List.mem_append];exact .inr hb)⟩ hs hl h1
    exact⟨_,_,_,pA.cond (hs.ev hv) h2,ql,h3⟩
  ·exact h.elim
 |block id b sj=>
  intro s t Q tH hs hl h;simp only[wpS]at h;obtain⟨x,t1,s1,h1,fX,h⟩:=sj _ _ _ ⟨fun b hb=>tH.1 b hb,fun b hb=>tH.2 b hb⟩ hs hl h;have h0:=pA.block (id:=id) h1;cases x with
  |exit oS=>
   simp only[FA]at h h0;cases hb:Nat.beq oS id with
   |true=>rw[hb]at h h0;exact⟨_,_,s1,h0,fX,h⟩
   |false=>rw[hb]at h h0;exact⟨_,_,s1,h0,fX,h⟩
  |normal=>exact⟨_,_,s1,h0,fX,h⟩
  |ret=>exact⟨_,_,s1,h0,fX,h⟩
  |goto l=>exact⟨_,_,s1,h0,fX,h⟩
  |panic=>exact⟨_,_,s1,h0,fX,h⟩
  |outgrown=>exact⟨_,_,s1,h0,fX,h⟩
 |loop b sj=>
  intro s t Q tH hs hl h;simp only[wpS]at h;split at h
  ·rename_i s0 hn
   obtain⟨t0,wE,UR,eh⟩:=Dj hs hn;have hw:WH (P ()) H F f fn.ntmps b s.kn (cS.fM s0 (V.loop f (keyOf b))) Q:=h fn c0 b yY tJ (tH.1 b (by simp[bD])) rfl;obtain⟨x,t',s',⟨n,hh⟩,qO,hQ⟩:=hw.ex t0 (UR.fM _) (by rw[eh];exact hl);refine⟨x,t',s',pA.loop ⟨n+1,?_⟩,qO,hQ⟩;show oT H (cB (P ()) H F n) f fn.ntmps b t.kn t=_;unfold oT;rw[hs.kn,wE];exact hh
  ·exact h.elim
 |region id ops draw=>
  intro s t Q tH hs hl h;simp only[wpS]at h;cases draw with
  |true=>
   simp only[cond_true]at h;obtain⟨n,t',s',hd,qO,hQ⟩:=IU hF (hs.fM _) hl h;refine⟨_,t',s',⟨n+1,?_⟩,qO,hQ⟩;show nk (P ()) H (cB (P ()) H F n) f fn.ntmps (.region id ops true) t=_;unfold nk;simp only[cond_true,hd]
  |false=>
   simp only[cond_false]at h;obtain⟨n,t',s',hd,qO,hQ⟩:=sT _ _ _ _ (hs.fM _) h;refine⟨_,t',s',⟨n+1,?_⟩,qO,hQ⟩;show nk (P ()) H (cB (P ()) H F n) f fn.ntmps (.region id ops false) t=_;unfold nk;simp only[cond_false,hd]
 |rangeFunc x ps as bo _ _=>
  intro s t Q tH hs hl h;have hw:WR (P ()) H F f fn.ntmps x ps as bo s Q:=h fn c0 x ps as bo yY tJ (tH.2 _ (by simp[bE])) rfl;exact hw.ex t hs hl
 |scope=>intro s t Q tH hs hl h;exact h.elim
 |label=>intro s t Q tH hs hl h;exact h.elim
 |goto=>intro s t Q tH hs hl h;exact h.elim
 |refuse=>intro s t Q tH hs hl h;exact h.elim
theorem WH.round(hF:aW F){f:FuncId}{fn:Func}{c0:Code}(yY:(P ()).funcs[f]?=some fn)(tJ:fn.body=some c0){b:Code}(hb:b∈bD c0)(YC:(∀b'∈bD b,b'∈bD c0)/\(∀r∈bE b,r∈bE c0)){kn:Nat}{s:SS}{Q:Exit->SS->Prop}(h:vV P H (bj (P ()) H F) V f fn.ntmps b kn s Q):WH (P ()) H F f fn.ntmps b kn s Q:=by
 refine⟨fun t hs hl=>?_⟩;unfold vV at h;obtain⟨x,t1,s1,⟨n1,h1⟩,fX,h⟩:=FH hF yY tJ _ _ _ _ YC hs hl h;unfold IN at h;have y8:t1.h.low<=t1.h.next:=uY ((gT hF n1).1 _ _ _ _ _ _ h1) hl;split at h
 ·split at h
  ·rename_i s2 hn
   obtain⟨t0,wE,UR,eh⟩:=Dj fX hn;have hw:WH (P ()) H F f fn.ntmps b kn (cS.fM s2 (V.loop f (keyOf b))) Q:=h fn c0 b yY tJ hb rfl;obtain⟨y,t',s',⟨n2,hh⟩,qO,hQ⟩:=hw.ex t0 (UR.fM _) (by rw[eh];exact y8);refine⟨y,t',s',⟨max n1 (n2+1),?_⟩,qO,hQ⟩;rw[(jW (Nat.le_max_left n1 (n2+1))).run _ _ _ _ _ h1];simp only[];refine(jW (Nat.le_max_right n1 (n2+1))).loop _ _ _ _ _ _ ?_;show oT H (cB (P ()) H F n2) f fn.ntmps b kn t1=_;unfold oT;rw[wE];exact hh
  ·exact h.elim
 ·rename_i hx
  refine⟨x,t1,s1,⟨n1,?_⟩,fX,h⟩;rw[h1];cases x<;>first|rfl|exact absurd rfl hx
theorem zw:∀(c b b':Code),b∈bD c->b'∈bD b->b'∈bD c:=by
 intro c
 induction c with
 |seq a b Bj sj=>
  intro x y hx hy;simp only[bD,List.mem_append]at hx ⊢;exact hx.imp (fun h=>Bj _ _ h hy) (fun h=>sj _ _ h hy)
 |cond _ a b Bj sj=>
  intro x y hx hy;simp only[bD,List.mem_append]at hx ⊢;exact hx.imp (fun h=>Bj _ _ h hy) (fun h=>sj _ _ h hy)
 |block _ b sj=>intro x y hx hy;exact sj _ _ hx hy
 |loop b sj=>
  intro x y hx hy;simp only[bD,List.mem_cons]at hx ⊢;rcases hx with rfl|hx
  ·exact .inr hy
  ·exact .inr (sj _ _ hx hy)
 |rangeFunc _ _ a b Bj sj=>
  intro x y hx hy;simp only[bD,List.mem_append]at hx ⊢;exact hx.imp (fun h=>Bj _ _ h hy) (fun h=>sj _ _ h hy)
 |_=>intro x y hx hy;simp[bD]at hx
theorem da:∀(c:Code),bA c=true->bE c=[]
 | .seq a b,h=>by simp only[bA,Bool.and_eq_true]at h;simp[bE,da a h.1,da b h.2]
 | .cond _ a b,h=>by simp only[bA,Bool.and_eq_true]at h;simp[bE,da a h.1,da b h.2]
 | .block _ b,h=>by simp only[bA]at h;simp[bE,da b h]
 | .loop b,h=>by simp only[bA]at h;simp[bE,da b h]
 | .rangeFunc _ _ _ _,h=>by simp[bA]at h
 | .skip,_=>rfl
 | .ret,_=>rfl
 | .exit _,_=>rfl
 | .region _ _ _,_=>rfl
 | .scope _,_=>rfl
 | .label _,_=>rfl
 | .goto _,_=>rfl
 | .refuse _,_=>rfl
def xS(r:Operand×Array Tmp×Code×Code):Prop:=bA r.2.2.1=true/\bA r.2.2.2=true
theorem Dk:∀(c b:Code),b∈bD c->(∀r∈bE c,xS r)->∀r∈bE b,r∈bE c:=by
 intro c
 induction c with
 |seq a b Bj sj=>
  intro x hx hp r hr;simp only[bD,List.mem_append]at hx;simp only[bE,List.mem_append]at hp ⊢;exact hx.imp (fun h=>Bj _ h (fun r hr=>hp r (.inl hr)) r hr) (fun h=>sj _ h (fun r hr=>hp r (.inr hr)) r hr)
 |cond _ a b Bj sj=>
  intro x hx hp r hr;simp only[bD,List.mem_append]at hx;simp only[bE,List.mem_append]at hp ⊢;exact hx.imp (fun h=>Bj _ h (fun r hr=>hp r (.inl hr)) r hr) (fun h=>sj _ h (fun r hr=>hp r (.inr hr)) r hr)
 |block _ b sj=>intro x hx hp r hr;exact sj _ hx hp r hr
 |loop b sj=>
  intro x hx hp r hr;simp only[bD,List.mem_cons]at hx;rcases hx with rfl|hx
  ·exact hr
  ·exact sj _ hx hp r hr
 |rangeFunc x0 ps a b Bj sj=>
  intro x hx hp r hr;obtain⟨h1,h2⟩:=hp (x0,ps,a,b) (by simp[bE]);simp only[bD,List.mem_append]at hx;exfalso;rcases hx with hx|hx
  ·have:=Bj x hx (fun r hr=>by rw[da a h1]at hr;cases hr) r hr
   rw[da a h1]at this;cases this
  ·have:=sj x hx (fun r hr=>by rw[da b h2]at hr;cases hr) r hr
   rw[da b h2]at this;cases this
 |_=>intro x hx hp r hr;simp[bD]at hx
def mA:List (Nat×Value)->List Tmp->List Value->List (Nat×Value)
 |e,t :: ts,v :: vs=>mA ((t,v) :: e) ts vs
 |e,_,_=>e
theorem xT{s:SS}{t:St}(hs:Le s t):∀(r:List ResultVar) (C:List Value->Prop),oz P (bj (P ()) H F) s r C->∃l,vo (P ()) t r=some l/\C l
 | [],C,h=>⟨[],rfl,h⟩
 | .tmp i :: r,C,h=>by
  simp only[oz]at h;simp only[vo];split at h
  ·rename_i v hv
   obtain⟨l,hl,hC⟩:=xT hs r _ h;simp only[hs.env _ _ hv,hl];exact⟨_,rfl,hC⟩
  ·exact h.elim
 | .cell a ty :: r,C,h=>by
  simp only[oz]at h;simp only[vo];split at h
  ·rename_i x hx
   obtain⟨v,hv,h⟩:=Ab FC.id (t:=t) hs h;obtain⟨l,hl,hC⟩:=xT hs r _ h;simp only[hs.env _ _ hx,hv,hl];exact⟨_,rfl,hC⟩
  ·exact h.elim
theorem Bk:∀(l:List Value) (i:Nat) (acc:List (Nat×Value)),fH l i (E acc)=E (rk l i acc)
 | [],i,acc=>rfl
 |v :: r,i,acc=>by
  simp only[fH,rk];exact Bk r (i+1) ((i,v) :: acc)
theorem Hb(s:SS):Le s ⟨E s.env,s.kn,E s.K,s.h⟩:=⟨fun i v h=>by rw[Qw];exact h,fun i v h=>by rw[Qw];exact h,rfl,rfl⟩
theorem WC.body(hF:aW F){g:FuncId}{fn:Func}{args:List Value}{h:af}{Q:Value->af->Prop}(hg:g<aV)(hf:(P ()).funcs[g]?=some fn)(hn:F g args h=none)(hl:h.low<=h.next)(hw:Df P H (bj (P ()) H F) V g fn args h Q):WC (P ()) H F g args h Q:=by
 unfold Df at hw;split at hw
 ·rename_i c hb
  obtain⟨x,t',s',hr,qO,hQ⟩:=FH hF hf hb c _ _ _ ⟨fun _ h=>h,fun _ h=>h⟩ (Hb ⟨rk args 0 [],0,[],h⟩) hl hw;have vC:pA (P ()) H F g fn.ntmps c { env:=fH args 0 .leaf,kn:=0,K:=.leaf,h:=h } x t':=by
   have e:=Bk args 0 [];simp only[E]at e;rw[e];exact hr
  have fin:∀(C:List Value->Prop),(∀l,C l->l.all dr=true/\Q (je l) s'.h)->oz P (bj (P ()) H F) s' fn.results.toList C->∃v h',vp (P ()) fn t'=some (v,h')/\Q v h':=by
   intro C hC zn;obtain⟨l,AN,hc⟩:=xT qO _ _ zn;obtain⟨h1,h2⟩:=hC l hc;refine⟨_,_,?_,h2⟩;unfold vp;simp only[AN,h1,cond_true,qO.h]
  unfold R2 at hQ;split at hQ
  ·obtain⟨v,h',he,hq⟩:=fin _ (fun l hl=>kD hl) hQ
   exact⟨⟨v,h',NR.body hn hg hf hb vC (.inl rfl) he,hq⟩⟩
  ·obtain⟨v,h',he,hq⟩:=fin _ (fun l hl=>kD hl) hQ
   exact⟨⟨v,h',NR.body hn hg hf hb vC (.inr rfl) he,hq⟩⟩
  ·exact hQ.elim
 ·exact hw.elim
structure AOK(P:Unit->Program)(H:Hint)(F:aZ)(A:bF):Prop where
 eq:A=bj (P ()) H F
 dG:aW F
theorem AOK.body{A:bF}(hA:AOK P H F A)(V:Live){g:FuncId}{fn:Func}{args:List Value}{h:af}{Q:Value->af->Prop}(hg:g<aV)(hf:(P ()).funcs[g]?=some fn)(hn:F g args h=none)(hl:h.low<=h.next)(hw:Df P H A V g fn args h Q):A.call g args h Q:=by
 have e:=hA.eq;subst e;exact WC.body hA.dG hg hf hn hl hw
theorem AOK.round{A:bF}(hA:AOK P H F A)(V:Live){f:FuncId}{fn:Func}(yY:(P ()).funcs[f]?=some fn){key kn:Nat}{s:SS}{Q:Exit->SS->Prop}(hw:Bf P H A V f fn key kn s Q):A.head f key kn s Q:=by
 have e:=hA.eq;subst e;intro Qg c b h1 h2 h3 h4;rw[yY]at h1;obtain rfl:=Option.some.inj h1;unfold Bf at hw;rw[h2]at hw;simp only[]at hw;have hm:b∈(bD c).filter (fun b=>Nat.beq (keyOf b) key):=by
  rw[List.mem_filter];exact⟨h3,by subst h4;simp⟩
 split at hw
 ·rename_i b' uP
  rw[uP]at hm;simp only[List.mem_singleton]at hm;subst hm;exact WH.round hA.dG yY h2 h3 ⟨fun b' uP=>zw _ _ _ h3 uP,Dk _ _ h3 hw.1⟩ hw.2
 ·exact hw.elim
theorem AOK.K9{A:bF}(hA:AOK P H F A){g:FuncId}{args:List Value}{h h':af}{v:Value}{Q:Value->af->Prop}(hp:F g args h=some (v,h'))(hq:Q v h')(hg:g<aV:=by decide):A.call g args h Q:=by
 have e:=hA.eq;subst e;exact⟨⟨v,h',⟨1,by simp only[cB,ot,show Nat.ble aV g=false from fe hg,cond_false,hp]⟩,hq⟩⟩
