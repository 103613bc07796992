import Derived.Test.YtdpbiegfljmhmaaSimD
set_option linter.unusedSimpArgs false
set_option linter.unusedVariables false
namespace Go.cL
def E{α:Type}:List (Nat×α)->cQ α
 | []=>.leaf
 |(t,v) :: l=>(E l).set t v
def lk{α:Type}:List (Nat×α)->Nat->Option α
 | [],_=>none
 |(a,v) :: l,t=>bif Nat.beq a t then some v else lk l t
def pT{α:Type}(l:List (Nat×α)):List Nat->List (Nat×α)
 | []=>[]
 |t :: r=>
  match lk l t with
  |some v=>(t,v) :: pT l r
  |none=>pT l r
structure SS where
 env:List (Nat×Value)
 kn:Nat
 K:List (Nat×List Value)
 h:af
structure Le(s:SS)(t:St):Prop where
 env:∀(i:Nat) (v:Value),lk s.env i=some v->t.env.get i=some v
 K:∀(i:Nat) (v:List Value),lk s.K i=some v->t.K.get i=some v
 kn:t.kn=s.kn
 h:t.h=s.h
structure Live where
 loop:FuncId->Nat->Option (List Tmp)
 dx:FuncId->Nat->Option (List Tmp)
 Qc:FuncId->Nat->Option (List Tmp)
def fork(b:Bool)(x y:Unit->Prop):Prop:=
 match b with
 |true=>x ()
 |false=>y ()
def fN(s:SS):Option (List Tmp)->SS
 |none=>s
 |some l=>{ s with env:=pT s.env l }
inductive Sv where
 |int (k:IntKind)
 |bool
 |str
 |slice
 |ptr
 |any
def Es:Option TypeDesc->Sv
 |some (.int k)=>.int k
 |some .bool=>.bool
 |some .string=>.str
 |some (.slice _)=>.slice
 |some (.pointer _)=>.ptr
 |_=>.any
def fH(P:Unit->Program):Nat->TypeId->List Sv
 |0,_=>[]
 |d+1,t=>
  match (P ()).underlying t with
  |some (.struct fs)=>fs.toList.flatMap fun f=>fH P d f.type
  |some (.array n e)=>(List.replicate n (fH P d e)).flatten
  |x=>[Es x]
def Xd:Sv->(Value->Prop)->Prop
 | .int k,C=>∃n:Int,C (.int k n)
 | .bool,C=>∃b:Bool,C (.bool b)
 | .str,C=>∃s:ByteArray,C (.string s)
 | .slice,C=>∃(a:Option Addr) (n c:Nat),C (.slice a n c)
 | .ptr,C=>∃b o:Nat,C (.pointer (some ⟨b,o,none⟩))
 | .any,C=>∃v:Value,C v
def Xe:List Sv->(List Value->Prop)->Prop
 | [],C=>C []
 |s :: r,C=>Xd s fun v=>Xe r fun l=>C (v :: l)
def Sk(P:Unit->Program)(t:TypeId)(C:Value->Prop):Prop:=
 match iK (P ()) t with
 |some true=>Xe (fH P 12 t) fun l=>C (.agg l.toArray)
 |_=>Xd (Es ((P ()).underlying t)) C
def MS(P:Unit->Program):List TypeId->(List Value->Prop)->Prop
 | [],C=>C []
 |t :: r,C=>Sk P t fun v=>MS P r fun l=>C (v :: l)
def seen(P:Unit->Program)(t:TypeId)(v:Value)(C:Value->Prop):Prop:=
 match (P ()).underlying t with
 |some (.tuple ts)=>MS P ts.toList fun l=>v=.tuple l.toArray/\C (.tuple l.toArray)
 |_=>Sk P t fun u=>v=u/\C u
structure WC(P:Program)(H:Hint)(F:bg)(g:FuncId)(args:List Value)(h:af)(Q:Value->af->Prop):Prop where
 ex:∃v h',Pu P H F g args h v h'/\Q v h'
def Head(P:Program)(H:Hint)(F:bg)(f:FuncId)(nt:Nat)(b:Code)(kn:Nat)(s:St)(x:Exit)(s':St):Prop:=
 ∃n,(match (cE P H F n).run f nt b s with
  |some (.normal,s1)=>(cE P H F n).loop f nt b kn s1
  |r=>r)=some (x,s')
structure WH(P:Program)(H:Hint)(F:bg)(f:FuncId)(nt:Nat)(b:Code)(kn:Nat)(s:SS)(Q:Exit->SS->Prop):Prop where
 ex:∀t,Le s t->t.h.low<=t.h.next->∃x t' s',Head P H F f nt b kn t x t'/\Le s' t'/\Q x s'
def bG:Code->List Code
 | .seq a b=>bG a++bG b
 | .cond _ a b=>bG a++bG b
 | .block _ b=>bG b
 | .loop b=>b :: bG b
 | .rangeFunc _ _ a b=>bG a++bG b
 |_=>[]
def bJ:Code->List (Operand×Array Tmp×Code×Code)
 | .seq a b=>bJ a++bJ b
 | .cond _ a b=>bJ a++bJ b
 | .block _ b=>bJ b
 | .loop b=>bJ b
 | .rangeFunc x ps a b=>[(x,ps,a,b)]
 |_=>[]
structure WR(P:Program)(H:Hint)(F:bg)(f:FuncId)(nt:Nat)(x:Operand)(ps:Array Tmp)(as bo:Code)(s:SS)(Q:Exit->SS->Prop):Prop where
 ex:∀t,Le s t->t.h.low<=t.h.next->∃e t' s',pS P H F f nt (.rangeFunc x ps as bo) t e t'/\Le s' t'/\Q e s'
structure bI where
 call:FuncId->List Value->af->(Value->af->Prop)->Prop
 head:FuncId->Nat->Nat->SS->(Exit->SS->Prop)->Prop
 arith:BinOp->IntKind->Int->Int->Int
 cmp:BinOp->Int->Int->Bool
 yh:BinOp->ByteArray->ByteArray->Bool
 fP:Bool->Bool
 jD:Bool->Bool->Bool
 conv:IntKind->Int->Int
 neg:IntKind->Int->Int
 imax:Int->Int->Int
 uv:Int->Int->Int
 ofNat:Nat->Int
 GP:ByteArray->Int
 place:Nat->Int->Nat->Nat
 HY:Int->Nat->Prop
 nz:Int->Prop
 LF:Int->Prop
 rd:af->Nat->Nat->Nat->List Value->Prop
 wr:af->Nat->Nat->List Value->af->Prop
 push:af->Nat->List Value->af
 next:af->Nat
 vL:Int->Int->Prop
 nat:Int->Nat
 iP:List Value->Int->List Value
 J5:ByteArray->ByteArray->(ByteArray->Prop)->Prop
 rG:TypeId->Array Value->Array Value->(Bool->Prop)->Prop
 cut:Nat->Int->Prop
 zN:TypeId->Value->Option Value->Option Value->Option Value->(Option Addr->Nat->Nat->Prop)->Prop
 J6:TypeId->ByteArray->Option Value->Option Value->(ByteArray->Prop)->Prop
 mT:ByteArray->Int->(Int->Prop)->Prop
 part:TypeId->Array Value->Nat->Value->Prop
 app:List TypeId->List Value->af->(Option Addr->Nat->Nat->af->Prop)->Prop
 PI:List TypeId->List Value->af->(Int->af->Prop)->Prop
 putAt:af->Nat->Nat->List Value->af
 fresh:af->af
 aw:af->af->af
 aH:af->Nat->af
 wrote:af->af->Bool
 bZ:Nat->Nat->Nat
 lt:Nat->Nat->Prop
 ne:Nat->Nat->Prop
 mU:Bool->Bool->Bool->Nat->Nat->Prop
 yi:Bool->Bool->Bool->Nat->Nat->Nat->Prop
 rU:(Unit->Prop)->Prop
 yn:Nat->Nat
 uE:FuncId->Nat->SS->(Exit->SS->Prop)->Prop
 J7:TypeId->Value->Value->af->Value->Bool->Prop
 GQ:TypeId->Value->Value->Value->af->af->Prop
 J8:af->af
 bytes:TypeId->TypeId->Option Addr->Nat->af->ByteArray->Prop
 Vx:List TypeId->List Value->af->af->Prop
def af.putAt(h:af)(id es:Nat)(cs:List Value):af:={ h with m:=h.m.set id (.live true es cs) }
def af.dG(h:af):af:={ h with low:=h.next }
def af.aw(h:af)(low:Nat):af:={ h with low:=Nat.min low h.low }
def af.aH(h:af)(n:Nat):af:={ h with next:=h.next+n }
def TY(op:BinOp)(k:IntKind)(a b:Int):Int:=
 match op with
 | .add=>k.wrap (a+b)
 | .sub=>k.wrap (a-b)
 | .mul=>k.wrap (a*b)
 | .quo=>k.wrap (a.tdiv b)
 | .rem=>a.tmod b
 | .and=>k.wrap (BitVec.ofInt k.bits a &&& BitVec.ofInt k.bits b).toNat
 | .or=>k.wrap (BitVec.ofInt k.bits a ||| BitVec.ofInt k.bits b).toNat
 | .xor=>k.wrap (BitVec.ofInt k.bits a ^^^ BitVec.ofInt k.bits b).toNat
 | .andNot=>k.wrap (BitVec.ofInt k.bits a &&& ~~~ BitVec.ofInt k.bits b).toNat
 | .shl=>k.wrap (a*2 ^ (min b.toNat k.bits))
 | .shr=>a.fdiv (2 ^ (min b.toNat k.bits))
 |_=>0
def aav(op:BinOp)(a b:Int):Bool:=
 match op with
 | .eql=>a == b
 | .neq=>a != b
 | .lss=>decide (a<b)
 | .leq=>decide (a<=b)
 | .gtr=>decide (a>b)
 | .geq=>decide (a≥b)
 |_=>false
def aaw(op:BinOp)(x y:ByteArray):Bool:=
 match op with
 | .eql=>x.toList == y.toList
 | .neq=>!(x.toList == y.toList)
 | .lss=>Op.bytesLess x.toList y.toList
 | .leq=>Op.bytesLess x.toList y.toList || x.toList == y.toList
 | .gtr=>!(Op.bytesLess x.toList y.toList || x.toList == y.toList)
 | .geq=>!(Op.bytesLess x.toList y.toList)
 |_=>false
def bm(P:Program)(H:Hint)(F:bg):bI where
 call:=WC P H F
 head:=fun f key kn s Q=>∀fn c b,P.funcs[f]?=some fn->fn.body=some c->b∈bG c->keyOf b=key->WH P H F f fn.ntmps b kn s Q
 arith:=TY
 cmp:=aav
 yh:=aaw
 fP:=fun b=>!b
 jD:=fun a b=>a == b
 conv:=fun k n=>k.wrap n
 neg:=fun k n=>k.wrap (0-n)
 imax:=fun x y=>if y>x then y else x
 uv:=fun x y=>if y<x then y else x
 ofNat:=fun n=>n
 GP:=fun s=>s.size
 place:=fun o i n=>o+i.toNat*n
 HY:=fun i n=>0<=i/\i<n
 nz:=fun b=>b≠0
 LF:=fun b=>0<=b
 rd:=fun h b o n l=>h.aL ⟨b,o,none⟩ n=some l
 wr:=fun h b o vs h'=>h.write b o vs=some h'
 push:=fun h es cs=>h.push es cs
 next:=fun h=>h.next
 vL:=fun l c=>0<=l/\l<=c/\c<=1073741824
 nat:=fun i=>i.toNat
 iP:=fun z c=>bF z c.toNat
 J5:=fun a b C=>a.size+b.size<=1073741824/\C (a++b)
 rG:=fun t a b C=>P.eqGuardType P.depth t=false/\∃r,oZ P 30 t (.agg a) (.agg b)=some r/\C r
 cut:=fun c j=>0<=j/\j<=cM c
 zN:=fun t x lo hi mx C=>∃a' n' c',gM P t x lo hi mx=some (.slice a' n' c')/\C a' n' c'
 J6:=fun t x lo hi C=>∃r,gM P t (.string x) lo hi none=some (.string r)/\C r
 mT:=fun s i C=>0<=i/\∃b:UInt8,s[i.toNat]?=some b/\C b.toNat
 part:=fun t cs o v=>kG P t cs o=some v
 app:=fun ts l h C=>∃a n c h',cO P h ts l=some (.slice a n c,h')/\C a n c h'
 PI:=fun ts l h C=>∃n h',sO P h ts l=some (.int .i64 n,h')/\C n h'
 putAt:=af.putAt
 fresh:=af.dG
 aw:=fun h h'=>h'.aw h.low
 aH:=af.aH
 wrote:=fun h h'=>Nat.blt h'.low h.next
 bZ:=fun a b=>a+b
 lt:=fun a b=>a<b
 ne:=fun a b=>a≠b
 mU:=fun wx wy l b dR=>wx=false/\wy=false/\(l=true\/b<dR)
 yi:=fun wx wy l b dR c=>wx=false/\(wy=false\/b≠c)/\(l=true\/b<dR)
 rU:=fun f=>f ()
 yn:=fun y=>aU+y
 uE:=fun f key s Q=>∀fn c x ps as bo,P.funcs[f]?=some fn->fn.body=some c->(x,ps,as,bo)∈bJ c->keyOf as=key->WR P H F f fn.ntmps x ps as bo s Q
 J7:=fun t m k h v b=>kP P h t m k true=some (.tuple #[v,.bool b],h)
 GQ:=fun t m k v h h'=>kQ P h t m k v=some (undef,h')
 J8:=fun h=>h.gT (.map [])
 bytes:=fun src dst a n h s=>oJ P h src dst a n=some (.string s)
 Vx:=fun ts l h h'=>rW P h ts l=some (undef,h')
def ev(s:SS):Operand->Option Value
 | .tmp t=>lk s.env t
 | .const v=>bif flat v then some v else none
 | .global _=>none
 | .func f=>some (.func (.func f) #[] #[])
def zL(s:SS):List Operand->Option (List Value)
 | []=>some []
 |x :: r=>
  match ev s x with
  |some v=>
   match zL s r with
   |some l=>some (v :: l)
   |none=>none
  |none=>none
def pU(s:SS):Option Operand->Option (Option Value)
 |none=>some none
 |some x=>
  match ev s x with
  |some v=>some (some v)
  |none=>none
def jS(s:SS):List (Nat×Operand)->Option (List (Nat×Value))
 | []=>some []
 |(i,x) :: r=>
  match ev s x with
  |some v=>
   match jS s r with
   |some l=>some ((i,v) :: l)
   |none=>none
  |none=>none
abbrev kB:=Bool->Nat->List Value->SS->(Value->SS->Prop)->Prop
def Qd(A:bI):kB:=fun loc es cs s C=>
 fork loc (fun _=>C (.pointer (some ⟨s.kn,0,some 0⟩)) { s with kn:=s.kn+1,K:=(s.kn,cs) :: s.K })
  (fun _=>C (.pointer (some ⟨A.next s.h,0,none⟩)) { s with h:=A.push s.h es cs })
def uF(A:bI)(id tag:Nat):kB:=fun loc es cs s C=>
 fork loc (fun _=>C (.pointer (some ⟨tag,0,some 0⟩)) { s with K:=(tag,cs) :: s.K })
  (fun _=>C (.pointer (some ⟨id,0,none⟩)) { s with h:=A.putAt s.h id es cs })
def mK(A:bI)(s:SS)(a:Addr)(n:Nat)(views:List Sv)(C:List Value->Prop):Prop:=
 match a.spot with
 |none=>Xe views fun l=>A.rd s.h a.block a.off n l/\C l
 |some _=>
  bif Nat.blt a.block s.kn then
   match lk s.K a.block with
   |some cs=>
    match jX cs a.off n with
    |some l=>C l
    |none=>False
   |none=>False
  else False
def pV(P:Unit->Program)(A:bI)(s:SS)(t:TypeId)(a:Addr)(C:Value->Prop):Prop:=
 match iK (P ()) t with
 |some true=>
  match bY (P ()) t with
  |some n=>mK A s a n (fH P 12 t) fun l=>C (.agg l.toArray)
  |none=>False
 |some false=>mK A s a 1 [Es ((P ()).underlying t)] fun l=>
  match l with
  | [v]=>C v
  |_=>False
 |none=>False
def we(A:bI)(s:SS)(a:Addr)(vs:List Value)(C:SS->Prop):Prop:=
 bif vs.all aD then
  match a.spot with
  |none=>∃h',A.wr s.h a.block a.off vs h'/\C { s with h:=h' }
  |some _=>
   bif Nat.blt a.block s.kn then
    match lk s.K a.block with
    |some cs=>
     match mF cs a.off vs with
     |some j6=>C { s with K:=(a.block,j6) :: s.K }
     |none=>False
    |none=>False
   else False
 else False
def wh(P:Unit->Program)(A:bI)(s:SS)(t:TypeId)(a:Addr)(v:Value)(C:SS->Prop):Prop:=
 match bY (P ()) t with
 |some n=>bif Nat.beq v.cells.toList.length n then we A s a v.cells.toList C else False
 |none=>False
def iy(k k':IntKind):Bool:=decide (k=k')
def MT(A:bI)(op:BinOp)(k k':IntKind)(a b:Int)(C:Value->Prop):Prop:=
 match op with
 | .shl=>A.LF b/\A.rU fun _=>C (.int k (A.arith .shl k a b))
 | .shr=>A.LF b/\A.rU fun _=>C (.int k (A.arith .shr k a b))
 | .quo=>bif iy k k' then(A.nz b/\A.rU fun _=>C (.int k (A.arith .quo k a b)))else False
 | .rem=>bif iy k k' then(A.nz b/\A.rU fun _=>C (.int k (A.arith .rem k a b)))else False
 | .add=>bif iy k k' then C (.int k (A.arith .add k a b))else False
 | .sub=>bif iy k k' then C (.int k (A.arith .sub k a b))else False
 | .mul=>bif iy k k' then C (.int k (A.arith .mul k a b))else False
 | .and=>bif iy k k' then C (.int k (A.arith .and k a b))else False
 | .or=>bif iy k k' then C (.int k (A.arith .or k a b))else False
 | .xor=>bif iy k k' then C (.int k (A.arith .xor k a b))else False
 | .andNot=>bif iy k k' then C (.int k (A.arith .andNot k a b))else False
 | .eql=>bif iy k k' then C (.bool (A.cmp .eql a b))else False
 | .neq=>bif iy k k' then C (.bool (A.cmp .neq a b))else False
 | .lss=>bif iy k k' then C (.bool (A.cmp .lss a b))else False
 | .leq=>bif iy k k' then C (.bool (A.cmp .leq a b))else False
 | .gtr=>bif iy k k' then C (.bool (A.cmp .gtr a b))else False
 | .geq=>bif iy k k' then C (.bool (A.cmp .geq a b))else False
def MU(A:bI)(op:BinOp)(a b:ByteArray)(C:Value->Prop):Prop:=
 match op with
 | .add=>A.J5 a b fun c=>C (.string c)
 | .eql=>C (.bool (A.yh .eql a b))
 | .neq=>C (.bool (A.yh .neq a b))
 | .lss=>C (.bool (A.yh .lss a b))
 | .leq=>C (.bool (A.yh .leq a b))
 | .gtr=>C (.bool (A.yh .gtr a b))
 | .geq=>C (.bool (A.yh .geq a b))
 |_=>False
def MV(P:Unit->Program)(A:bI)(op:BinOp)(t:TypeId)(x y:Value)(C:Value->Prop):Prop:=
 match x,y with
 | .int k a,.int k' b=>MT A op k k' a b C
 | .string a,.string b=>MU A op a b C
 | .bool a,.bool b=>
  match op,(P ()).underlying t with
  | .eql,some .bool=>C (.bool (A.jD a b))
  | .neq,some .bool=>C (.bool (A.fP (A.jD a b)))
  |_,_=>False
 | .agg a,.agg b=>
  match op with
  | .eql=>A.rG t a b fun r=>C (.bool r)
  | .neq=>A.rG t a b fun r=>C (.bool (A.fP r))
  |_=>False
 |x,y=>
  match w8 (P ()) op t x y with
  |some v=>C v
  |none=>False
def TZ(A:bI)(op:UnOp)(x:Value)(C:Value->Prop):Prop:=
 match op,x with
 | .neg,.int k n=>C (.int k (A.neg k n))
 | .not,.bool b=>C (.bool (A.fP b))
 |op,x=>
  match Wl op x with
  |some v=>C v
  |none=>False
def BU(P:Unit->Program)(A:bI)(src dst:TypeId)(x:Value)(C:Value->Prop):Prop:=
 match (P ()).underlying src,(P ()).underlying dst,x with
 |some _,some (.int k),.int _ n=>C (.int k (A.conv k n))
 |some _,some .string,.string s=>C (.string s)
 |_,_,_=>False
def yj(P:Unit->Program)(A:bI)(t:TypeId)(x:Value)(C:Value->Prop):Prop:=
 match (P ()).underlying t,x with
 |some .string,.string s=>C (.int .i64 (A.GP s))
 |some (.array n _),_=>C (.int .i64 (A.ofNat n))
 |some (.slice _),.slice _ n _=>C (.int .i64 (A.ofNat n))
 |some (.pointer e),_=>
  match (P ()).underlying e with
  |some (.array n _)=>C (.int .i64 (A.ofNat n))
  |_=>False
 |_,_=>False
def nZ(f:Int->Int->Int):Value->List Value->(Value->Prop)->Prop
 |x,[],C=>C x
 | .int k x,.int _ y :: r,C=>nZ f (.int k (f x y)) r C
 |_,_,_=>False
def wi(P:Unit->Program)(A:bI)(t:TypeId)(x:Value)(lo hi mx:Option Value)(C:Value->Prop):Prop:=
 match (P ()).underlying t,x with
 |some .string,.string s=>
  match mx with
  |none=>A.J6 t s lo hi fun r=>C (.string r)
  |some _=>False
 |some (.slice e),.slice a n c=>
  match lo,hi,mx with
  |none,some (.int _ j),none=>bif (bY (P ()) e).isSome then(A.cut c j/\A.rU fun _=>C (.slice a (A.nat j) c))else False
  |lo,hi,mx=>A.zN t (.slice a n c) lo hi mx fun a' n' c'=>C (.slice a' n' c')
 |some (.array _ _),.pointer (some a)=>A.zN t (.pointer (some a)) lo hi mx fun a' n' c'=>C (.slice a' n' c')
 |_,_=>False
def kf(P:Unit->Program)(A:bI)(t:TypeId)(x ix:Value)(C:Value->Prop):Prop:=
 match (P ()).underlying t,x,ix with
 |some (.array len e),.pointer (some a),.int _ i=>
  match bY (P ()) e with
  |some n=>A.HY i len/\A.rU fun _=>C (.pointer (some ⟨a.block,A.place a.off i n,a.spot⟩))
  |none=>False
 |some (.slice e),.slice a len _,.int _ i=>
  match bY (P ()) e with
  |some n=>∃b o,a=some ⟨b,o,none⟩/\A.HY i len/\C (.pointer (some ⟨b,A.place o i n,none⟩))
  |none=>False
 |_,_,_=>False
def mu(P:Unit->Program)(A:bI)(t:TypeId)(x:Value)(f:Nat)(C:Value->Prop):Prop:=
 match (P ()).underlying t,x with
 |some (.struct fs),.pointer (some a)=>
  match fs.toList[f]? with
  |some fd=>
   match bY (P ()) fd.type with
   |some n=>bif Nat.beq n 0 then False else
    match a.spot with
    |none=>C (.pointer (some ⟨a.block,A.bZ a.off fd.offset,none⟩))
    |some x=>C (.pointer (some ⟨a.block,a.off+fd.offset,some x⟩))
   |none=>False
  |none=>False
 |_,_=>False
def BV(P:Unit->Program)(A:bI)(t:TypeId)(x ix:Value)(C:Value->Prop):Prop:=
 match (P ()).underlying t,x,ix with
 |some (.array len e),.agg cs,.int _ i=>
  match bY (P ()) e with
  |some n=>A.HY i len/\Sk P e fun v=>A.part e cs (A.place 0 i n) v/\C v
  |none=>False
 |some .string,.string s,.int _ i=>A.mT s i fun b=>C (.int .u8 b)
 |_,_,_=>False
def mw(P:Unit->Program)(A:bI)(mk:kB)(t:TypeId)(l c:Value)(s:SS)(C:Value->SS->Prop):Prop:=
 match (P ()).underlying t,l,c with
 |some (.slice e),.int _ l,.int _ c=>
  match bY (P ()) e,il (P ()) e,pA (P ()) e with
  |some n,some z,some by_=>
   bif Nat.ble by_ 16384 && Nat.beq z.cells.toList.length n && z.cells.toList.all aD then
    A.vL l c/\A.rU fun _=>mk false n (A.iP z.cells.toList c) s fun v s'=>
     match v with
     | .pointer (some a)=>C (.slice (some a) (A.nat l) (A.nat c)) s'
     |_=>False
   else False
  |_,_,_=>False
 |_,_,_=>False
def kU(P:Unit->Program)(mk:kB)(t:TypeId)(len:Nat)(parts:List (Nat×Value))(s:SS)(C:Value->SS->Prop):Prop:=
 match (P ()).underlying t with
 |some (.slice e)=>
  match bY (P ()) e,il (P ()) e with
  |some n,some z=>
   bif Nat.ble (len*n) 16777216 && Nat.beq z.cells.toList.length n && Nat.ble len 16777216 then
    match iD (fun i=>some (i*n,n)) (bF z.cells.toList len) parts with
    |some cs=>
     bif cs.all aD then
      mk false n cs s fun v s'=>
       match v with
       | .pointer (some a)=>C (.slice (some a) len len) s'
       |_=>False
     else False
    |none=>False
   else False
  |_,_=>False
 |_=>False
def wpOp(P:Unit->Program)(A:bI)(mk:kB)(loc:Bool)(o:Op)(s:SS)(C:Value->SS->Prop):Prop:=
 match o with
 | .move x=>match ev s x with|some v=>C v s|none=>False
 | .assign x=>match ev s x with|some v=>C v s|none=>False
 | .pick c a b=>
  match ev s c with
  |some (.bool t)=>fork t (fun _=>match ev s a with|some v=>C v s|none=>False) (fun _=>match ev s b with|some v=>C v s|none=>False)
  |_=>False
 | .alloc e=>
  match il (P ()) e,bY (P ()) e with
  |some z,some n=>bif z.cells.toList.all aD then mk loc n z.cells.toList s C else False
  |_,_=>False
 | .box e x=>
  match ev s x,bY (P ()) e with
  |some v,some n=>bif v.cells.toList.all aD then mk loc n v.cells.toList s C else False
  |_,_=>False
 | .build t parts=>
  match jS s parts.toList with
  |some l=>match uw (P ()) t l with|some v=>C v s|none=>False
  |none=>False
 | .buildSlice t len parts=>
  match jS s parts.toList with
  |some l=>kU P mk t len l s C
  |none=>False
 | .load t x=>
  match ev s x with
  |some (.pointer (some a))=>pV P A s t a fun v=>C v s
  |_=>False
 | .store t x y=>
  match ev s x,ev s y with
  |some (.pointer (some a)),some v=>wh P A s t a v fun s'=>C undef s'
  |_,_=>False
 | .nilCheck x=>
  match ev s x with
  |some (.pointer (some a))=>C (.pointer (some a)) s
  |some (.func (.func f) first captured)=>C (.func (.func f) first captured) s
  |_=>False
 | .binOp op t x y _=>
  match ev s x,ev s y with
  |some a,some b=>MV P A op t a b fun v=>C v s
  |_,_=>False
 | .unOp op _ x=>
  match ev s x with
  |some a=>TZ A op a fun v=>C v s
  |none=>False
 | .convert src dst x=>
  match ev s x with
  |some (.slice a n _)=>
   match (P ()).underlying dst with
   |some .string=>∃b,A.bytes src dst a n s.h b/\A.rU fun _=>C (.string b) s
   |_=>False
  |some a=>BU P A src dst a fun v=>C v s
  |none=>False
 | .makeFunc fn first captured=>
  match fn,zL s first.toList,zL s captured.toList with
  | .func f,some l,some r=>bif l.all dn && r.all dn then C (.func (.func f) l.toArray r.toArray) s else False
  |_,_,_=>False
 | .makeSlice t l c=>
  match ev s l,ev s c with
  |some a,some b=>mw P A mk t a b s C
  |_,_=>False
 | .slice t x lo hi mx=>
  match ev s x,pU s lo,pU s hi,pU s mx with
  |some v,some a,some b,some c=>wi P A t v a b c fun r=>C r s
  |_,_,_,_=>False
 | .fieldAddr t x f=>
  match ev s x with
  |some v=>mu P A t v f fun r=>C r s
  |none=>False
 | .field t x f=>
  match ev s x with
  |some v=>match ux (P ()) t v f with|some r=>C r s|none=>False
  |none=>False
 | .indexAddr t x i=>
  match ev s x,ev s i with
  |some v,some j=>kf P A t v j fun r=>C r s
  |_,_=>False
 | .index t x i=>
  match ev s x,ev s i with
  |some v,some j=>BV P A t v j fun r=>C r s
  |_,_=>False
 | .extract x i=>
  match ev s x with
  |some (.tuple vs)=>match vs.toList[i]? with|some v=>C v s|none=>False
  |_=>False
 | .call { callee:=.builtin b,args,argTypes }=>
  match zL s args.toList with
  |some l=>
   match b,l with
   | .len,[x]=>match argTypes.toList with | [t]=>yj P A t x fun v=>C v s|_=>False
   | .cap,[.slice _ _ c]=>match argTypes.toList with | [t]=>(match (P ()).underlying t with|some (.slice _)=>A.lt c aS/\A.rU fun _=>C (.int .i64 (A.ofNat c)) s|_=>False)|_=>False
   | .max,x :: r=>nZ A.imax x r fun v=>C v s
   | .min,x :: r=>nZ A.uv x r fun v=>C v s
   | .append,l=>A.app argTypes.toList l s.h fun a n c h'=>C (.slice a n c) { s with h:=h' }
   | .copy,l=>A.PI argTypes.toList l s.h fun n h'=>C (.int .i64 n) { s with h:=h' }
   | .clear,l=>∃h',A.Vx argTypes.toList l s.h h'/\A.rU fun _=>C undef { s with h:=h' }
   |_,_=>False
  |none=>False
 | .makeMap _ none=>C (.map (some (A.next s.h))) { s with h:=A.J8 s.h }
 | .lookup t x i ok=>
  match (P ()).underlying t,ev s x,ev s i with
  |some (.map _ e),some a,some b=>Sk P e fun v=>∃r,A.J7 t a b s.h v r/\A.rU fun _=>C (found ok v r) s
  |_,_,_=>False
 | .mapUpdate t m k x=>
  match ev s m,ev s k,ev s x with
  |some a,some b,some c=>∃h',A.GQ t a b c s.h h'/\A.rU fun _=>C undef { s with h:=h' }
  |_,_,_=>False
 | .insert t m k x=>
  match ev s m,ev s k,ev s x with
  |some a,some b,some c=>∃h',A.GQ t a b c s.h h'/\A.rU fun _=>C undef { s with h:=h' }
  |_,_,_=>False
 |_=>False
def jT(yn:Nat->Nat)(s:SS)(c:Call):Option (FuncId×List Value):=
 match c.callee with
 | .value x=>
  match ev s x,zL s c.args.toList with
  |some (.func (.func f) first captured),some l=>bif l.all dn && Nat.blt f aU then some (f,first.toList++l++captured.toList)else none
  |some (.func (.yield y) _ _),some l=>bif l.all dn then some (yn y,l)else none
  |_,_=>none
 |_=>none
def z9(nt:Nat)(s:SS)(dst:Option Tmp)(v:Value)(C:SS->Prop):Prop:=
 match dst with
 |none=>C s
 |some d=>bif Nat.blt d nt then C { s with env:=(d,v) :: s.env } else False
def qR(P:Unit->Program)(dst:Option Tmp)(t:TypeId)(v:Value)(C:Value->Prop):Prop:=
 match dst with
 |none=>C v
 |some _=>seen P t v C
def It(P:Unit->Program)(H:Hint)(A:bI)(f:FuncId)(o:Oper)(s:SS)(C:Value->SS->Prop):Prop:=
 match dN o.op with
 |some c=>
  match jT A.yn s c with
  |some (g,args)=>A.call g args s.h fun v h'=>qR P o.dst o.type v fun v=>C v { s with h:=h' }
  |none=>False
 |none=>wpOp P A (Qd A) (eO H f o) o.op s C
def n7(ops:Array Oper)(o:Oper)(s:SS)(go skip:SS->Prop):Prop:=
 match o.guard with
 |none=>go s
 |some (j,want)=>
  match (ops[j]?).bind (·.dst)with
  |some d=>
   match lk s.env d with
   |some (.bool b)=>
    match want with
    |true=>fork b (fun _=>go { s with env:=(d,.bool true) :: s.env }) (fun _=>skip { s with env:=(d,.bool false) :: s.env })
    |false=>fork b (fun _=>skip { s with env:=(d,.bool true) :: s.env }) (fun _=>go { s with env:=(d,.bool false) :: s.env })
   |some (.tuple vs)=>bif vs.toList.isEmpty then skip s else False
   |_=>False
  |none=>False
def wpOps(P:Unit->Program)(H:Hint)(A:bI)(f:FuncId)(nt:Nat)(ops:Array Oper):List Oper->SS->(SS->Prop)->Prop
 | [],s,Q=>Q s
 |o :: rest,s,Q=>
  n7 ops o s
   (fun s=>It P H A f o s fun v s'=>z9 nt s' o.dst v fun qG=>wpOps P H A f nt ops rest qG Q)
   (fun s=>z9 nt s o.dst undef fun s'=>wpOps P H A f nt ops rest s' Q)
def Sl(s:SS):List Operand->Option Value
 |x :: _=>ev s x
 | []=>none
def Sm(o:Op)(loc:Bool)(id tag:Nat)(s:SS):FP:=
 bif bN o then .none else
 match o with
 | .alloc _ | .box _ _=>bif loc then .new true tag else .new false id
 | .buildSlice _ _ _ | .makeSlice _ _ _=>.new false id
 | .load _ x | .store _ x _=>
  match ev s x with
  |some (.pointer (some a))=>.block a.spot.isSome a.block
  |_=>.all
 | .convert _ _ x=>
  match ev s x with
  |some (.slice (some a) _ _)=>bif a.spot.isNone then .block false a.block else .none
  |_=>.none
 | .call { callee:=.builtin .append,args,argTypes }=>.app (DJ (Sl s args.toList))
 |_=>.all
def small:Op->Bool
 | .load .. | .store .. | .alloc _ | .box .. | .buildSlice .. | .makeSlice .. | .convert ..=>true
 |o=>bN o
def ym(A:bI)(dR:Nat)(x:FP)(wx:Bool)(y:FP)(wy:Bool)(C:Prop):Prop:=
 match x with
 | .none=>C
 | .all=>match y with | .none=>C|_=>False
 | .app _=>match y with | .none=>C|_=>False
 | .block l b=>
  match y with
  | .none=>C
  | .all=>cond l C (A.mU wx wy l b dR/\C)
  | .app c=>cond l C (A.yi wx wy l b dR c/\C)
  | .block l' b'=>cond (wx || wy) (cond (l == l') (A.ne b b'/\C) C) C
  | .new l' b'=>cond (l == l') (A.ne b b'/\C) C
 | .new l b=>
  match y with
  | .none=>C
  | .all=>wy=false/\C
  | .app c=>A.yi false wy l b dR c/\C
  | .block l' b'=>cond (l == l') (A.ne b b'/\C) C
  | .new l' b'=>cond (l == l') (A.ne b b'/\C) C
def js(A:bI)(ops:Array Oper)(dR:Nat)(p:Nat)(x:FP)(wx:Bool):List (Nat×FP×Bool)->Prop->Prop
 | [],C=>C
 |(q,y,wy) :: r,C=>bif prec (Region.before ops) p q then js A ops dR p x wx r C else ym A dR x wx y wy (js A ops dR p x wx r C)
def qS(A:bI)(ops:Array Oper)(dR:Nat):List (Nat×FP×Bool)->Prop->Prop
 | [],C=>C
 |(p,x,wx) :: r,C=>js A ops dR p x wx r (qS A ops dR r C)
def kC(P:Unit->Program)(H:Hint)(A:bI)(f:FuncId)(nt:Nat)(ops:Array Oper)(base aM:Nat):List Nat->Nat->SS->(SS->List (Nat×FP×Bool)->Prop)->Prop
 | [],_,s,Q=>Q s []
 |p :: rest,i,s,Q=>
  match ops[p]? with
  |none=>False
  |some o=>
   n7 ops o s
    (fun s=>
     match dN o.op with
     |some c=>
      match jT A.yn s c with
      |some (g,args)=>A.call g args (A.fresh s.h) fun v h'=>qR P o.dst o.type v fun v=>
        z9 nt { s with h:=A.aw s.h h' } o.dst v fun qG=>kC P H A f nt ops base aM rest (i+1) qG fun r iv=>Q r ((p,.all,A.wrote s.h h') :: iv)
      |none=>False
     |none=>
      bif small o.op then
       wpOp P A (uF A (A.bZ base i) (aM+i)) (eO H f o) o.op s fun v s'=>
        z9 nt s' o.dst v fun qG=>kC P H A f nt ops base aM rest (i+1) qG fun r iv=>Q r ((p,Sm o.op (eO H f o) (A.bZ base i) (aM+i) s,iH o.op) :: iv)
      else
       wpOp P A (uF A (A.bZ base i) (aM+i)) (eO H f o) o.op { s with h:=A.fresh s.h } fun v s'=>
        z9 nt { s' with h:=A.aw s.h s'.h } o.dst v fun qG=>kC P H A f nt ops base aM rest (i+1) qG fun r iv=>Q r ((p,Sm o.op (eO H f o) (A.bZ base i) (aM+i) s,A.wrote s.h s'.h) :: iv))
    (fun s=>z9 nt s o.dst undef fun s'=>kC P H A f nt ops base aM rest (i+1) s' fun r iv=>Q r ((p,.none,false) :: iv))
def BW(P:Unit->Program)(H:Hint)(A:bI)(f:FuncId)(nt:Nat)(ops:Array Oper)(s:SS)(Q:SS->Prop):Prop:=
 bif nM ops (fS ops)then
  kC P H A f nt ops (A.next s.h) s.kn (fS ops) 0 { s with kn:=s.kn+ops.size,h:=A.aH s.h ops.size } fun s' iv=>qS A ops (A.bZ (A.next s.h) ops.size) iv (Q s')
 else False
def Iu(H:Hint)(f:FuncId)(c:Code)(kn:Nat)(s:SS):Option SS:=
 match H.dF f (keyOf c)with
 |none=>some s
 |some l=>
  bif Nat.ble kn s.kn && l.all (fun t=>match lk s.env t with|some v=>sT kn v|none=>false)then some { s with env:=pT s.env l,kn:=kn,K:=pT s.K (List.range kn) } else none
def J9(next:SS->Prop)(Q:Exit->SS->Prop):Exit->SS->Prop
 | .normal,s=>next s
 |x,s=>Q x s
def GR(id:Nat)(Q:Exit->SS->Prop):Exit->SS->Prop
 | .exit pD,s=>fork (Nat.beq pD id) (fun _=>Q .normal s) (fun _=>Q (.exit pD) s)
 |x,s=>Q x s
def wpS(P:Unit->Program)(H:Hint)(A:bI)(V:Live)(f:FuncId)(nt:Nat)(c:Code)(s:SS)(Q:Exit->SS->Prop):Prop:=
 match c with
 | .skip=>Q .normal s
 | .ret=>Q .ret s
 | .exit id=>Q (.exit id) (fN s (V.dx f id))
 | .seq a b=>wpS P H A V f nt a s (J9 (fun s'=>wpS P H A V f nt b s' Q) Q)
 | .cond x a b=>
  match ev s x with
  |some (.bool t)=>fork t (fun _=>wpS P H A V f nt a s Q) (fun _=>wpS P H A V f nt b s Q)
  |_=>False
 | .block id b=>wpS P H A V f nt b s (GR id Q)
 | .loop b=>
  match Iu H f b s.kn s with
  |some s0=>A.head f (keyOf b) s.kn (fN s0 (V.loop f (keyOf b))) Q
  |none=>False
 | .region id ops draw=>bif draw then BW P H A f nt ops (fN s (V.Qc f id)) (Q .normal)else wpOps P H A f nt ops ops.toList (fN s (V.Qc f id)) (Q .normal)
 | .rangeFunc _ _ as _=>A.uE f (keyOf as) s Q
 |_=>False
def wj(P:Unit->Program)(H:Hint)(A:bI)(V:Live)(f:FuncId)(nt:Nat)(b:Code)(kn:Nat)(s:SS)(Q:Exit->SS->Prop):Prop:=
 wpS P H A V f nt b s (J9 (fun s'=>
   match Iu H f b kn s' with
   |some s1=>A.head f (keyOf b) kn (fN s1 (V.loop f (keyOf b))) Q
   |none=>False) Q)
def oN(P:Unit->Program)(A:bI)(s:SS):List ResultVar->(List Value->Prop)->Prop
 | [],C=>C []
 | .tmp t :: r,C=>
  match lk s.env t with
  |some v=>oN P A s r fun l=>C (v :: l)
  |none=>False
 | .cell a t :: r,C=>
  match lk s.env a with
  |some (.pointer (some x))=>pV P A s t x fun v=>oN P A s r fun l=>C (v :: l)
  |_=>False
def rO:List Value->Nat->List (Nat×Value)->List (Nat×Value)
 | [],_,acc=>acc
 |v :: r,i,acc=>rO r (i+1) ((i,v) :: acc)
def BX(P:Unit->Program)(H:Hint)(A:bI)(V:Live)(f:FuncId)(fn:Func)(key kn:Nat)(s:SS)(Q:Exit->SS->Prop):Prop:=
 match fn.body with
 |some c=>
  match (bG c).filter (fun b=>Nat.beq (keyOf b) key)with
  | [b]=>(∀r∈bJ c,bE r.2.2.1=true/\bE r.2.2.2=true)/\wj P H A V f fn.ntmps b kn s Q
  |_=>False
 |none=>False
def T2(P:Unit->Program)(A:bI)(rs:List ResultVar)(Q:Value->af->Prop):Exit->SS->Prop
 | .normal,s=>oN P A s rs fun l=>bif l.all dn then Q (jn l) s.h else False
 | .ret,s=>oN P A s rs fun l=>bif l.all dn then Q (jn l) s.h else False
 |_,_=>False
def Et(P:Unit->Program)(H:Hint)(A:bI)(V:Live)(g:FuncId)(fn:Func)(args:List Value)(h:af)(Q:Value->af->Prop):Prop:=
 match fn.body with
 |some c=>wpS P H A V g fn.ntmps c ⟨rO args 0 [],0,[],h⟩ (T2 P A fn.results.toList Q)
 |none=>False
end Go.cL
namespace Go.cL
theorem beq_eq(a b:Nat):Nat.beq a b=decide (a=b):=by
 cases h:Nat.beq a b with
 |true=>simp[Nat.eq_of_beq_eq_true h]
 |false=>simp[Nat.ne_of_beq_eq_false h]
theorem kK{b:Bool}{A:Prop}(h:bif b then A else False):b=true/\A:=by
 cases b with
 |true=>exact⟨rfl,h⟩
 |false=>exact h.elim
theorem Sn{α:Type}(l:List (Nat×α))(t:Nat):(E l).get t=lk l t:=by
 induction l with
 |nil=>rfl
 |cons p l ih=>
  obtain⟨a,v⟩:=p;simp only[E,lk,cQ.bO,beq_eq,ih];by_cases h:a=t<;>simp[h]
theorem kV{α:Type}(a:Nat)(v:α)(l:List (Nat×α))(t:Nat):lk ((a,v) :: l) t=if a=t then some v else lk l t:=by
 simp only[lk,beq_eq];by_cases h:a=t<;>simp[h]
theorem pW{α:Type}(l:List (Nat×α)):∀(ks:List Nat) (t:Nat) (v:α),lk (pT l ks) t=some v->lk l t=some v
 | [],t,v,h=>by cases h
 |k :: ks,t,v,h=>by
  simp only[pT]at h;split at h
  ·rename_i u hu
   rw[kV]at h;by_cases e:k=t
   ·subst e;simp at h;subst h;exact hu
   ·rw[if_neg e]at h;exact pW l ks t v h
  ·exact pW l ks t v h
theorem Le.fN{s:SS}{t:St}(h:Le s t)(l:Option (List Tmp)):Le (fN s l) t:=by
 unfold cL.fN;split
 ·exact h
 ·exact⟨fun i v hv=>h.env i v (pW _ _ _ _ hv),h.K,h.kn,h.h⟩
theorem MW{sv:Sv}{C:Value->Prop}(h:Xd sv C):∃v,C v:=by
 cases sv<;>simp only[Xd]at h
 ·obtain⟨n,h⟩:=h;exact⟨_,h⟩
 ·obtain⟨n,h⟩:=h;exact⟨_,h⟩
 ·obtain⟨n,h⟩:=h;exact⟨_,h⟩
 ·obtain⟨a,n,c,h⟩:=h;exact⟨_,h⟩
 ·obtain⟨a,n,h⟩:=h;exact⟨_,h⟩
 ·exact h
theorem GS:∀{l:List Sv} {C:List Value->Prop},Xe l C->∃v,C v
 | [],C,h=>⟨[],h⟩
 |s :: r,C,h=>by
  obtain⟨v,h⟩:=MW h;obtain⟨l,h⟩:=GS h;exact⟨_,h⟩
theorem BY{P:Unit->Program}{t:TypeId}{C:Value->Prop}(h:Sk P t C):∃v,C v:=by
 unfold Sk at h;split at h
 ·obtain⟨l,h⟩:=GS h;exact⟨_,h⟩
 ·exact MW h
theorem Iv{P:Unit->Program}:∀{l:List TypeId} {C:List Value->Prop},MS P l C->∃v,C v
 | [],C,h=>⟨[],h⟩
 |s :: r,C,h=>by
  obtain⟨v,h⟩:=BY h;obtain⟨l,h⟩:=Iv h;exact⟨_,h⟩
theorem Qe{P:Unit->Program}{t:TypeId}{v:Value}{C:Value->Prop}(h:seen P t v C):C v:=by
 unfold seen at h;split at h
 ·obtain⟨l,e,h2⟩:=Iv h;rw[e];exact h2
 ·obtain⟨l,e,h2⟩:=BY h;rw[e];exact h2
theorem yo{P:Unit->Program}{d:Option Tmp}{t:TypeId}{v:Value}{C:Value->Prop}(h:qR P d t v C):C v:=by
 unfold qR at h;split at h
 ·exact h
 ·exact Qe h
theorem Le.ev{s:SS}{t:St}(h:Le s t){x:Operand}{v:Value}(hx:ev s x=some v):bL t x=some v:=by
 cases x with
 |tmp i=>exact h.env i v hx
 |const c=>exact hx
 |global g=>cases hx
 |func f=>exact hx
theorem Le.zL{s:SS}{t:St}(h:Le s t):∀{x:List Operand} {v:List Value},zL s x=some v->gU t x=some v
 | [],v,hx=>hx
 |x :: r,v,hx=>by
  simp only[cL.zL]at hx;split at hx
  ·rename_i u hu
   split at hx
   ·rename_i l hl
    simp only[gU,h.ev hu,h.zL hl];exact hx
   ·cases hx
  ·cases hx
structure GU(X:af->af):Prop where
 m:∀h,(X h).m=h.m
 next:∀h,(X h).next=h.next
 write:∀h b o vs h2,(X h).write b o vs=some h2->∃h1,h.write b o vs=some h1/\X h1=h2
 push:∀h es cs,X (h.push es cs)=(X h).push es cs
 putAt:∀h id es cs,X (h.putAt id es cs)=(X h).putAt id es cs
theorem GU.id:GU (fun h=>h):=⟨fun _=>rfl,fun _=>rfl,fun h b o vs h2 e=>⟨h2,e,rfl⟩,fun _ _ _=>rfl,fun _ _ _ _=>rfl⟩
theorem GU.aw(L:Nat):GU (fun h=>h.aw L):=by
 refine⟨fun _=>rfl,fun _=>rfl,fun h b o vs h2 e=>?_,fun _ _ _=>rfl,fun _ _ _ _=>rfl⟩;unfold af.write at e ⊢;simp only[af.aw]at e;split at e
 ·rename_i es cs hm
  split at e
  ·rename_i j6 hs
   simp only[oi]at e;refine⟨_,rfl,?_⟩;subst e;simp[af.aw,Nat.min_assoc]
  ·cases e
 ·cases e
def lJ(X:af->af)(t:St):St:={ t with h:=X t.h }
def MX(X:af->af)(mk:kB)(m:lr)(s:SS):Prop:=
 ∀loc es cs C,cs.all aD=true->mk loc es cs s C->∃v t' s',m loc es cs=some (v,t')/\Le s' (lJ X t')/\C v s'
section
variable{X:af->af}{s:SS}{t:St}{P0:Program}{H0:Hint}{F0:bg}
theorem AU(hX:GU X)(hs:Le s (lJ X t)){a:Addr}{n:Nat}{views:List Sv}{C:List Value->Prop}(h:mK (bm P0 H0 F0) s a n views C):∃l,t.read a n=some l/\C l:=by
 unfold mK at h;split at h
 ·rename_i jI
  obtain⟨l,Zv,hC⟩:=GS h;have hr:s.h.aL ⟨a.block,a.off,none⟩ n=some l:=Zv;refine⟨l,?_,hC⟩;unfold af.aL at hr;simp only[]at hr;unfold St.read St.cells?;rw[jI];simp only[];have e:s.h.cells? a.block=t.h.cells? a.block:=by
   rw[<-hs.h];unfold af.cells?;rw[show(lJ X t).h.m=t.h.m from hX.m _]
  rw[e]at hr;exact hr
 ·rename_i x jI
  cases hb:Nat.blt a.block s.kn with
  |false=>rw[hb]at h;exact absurd h (by simp)
  |true=>
   rw[hb]at h;simp only[cond_true]at h;split at h
   ·rename_i cs Bs
    split at h
    ·rename_i l hl
     refine⟨l,?_,h⟩;unfold St.read St.cells?;rw[jI];simp only[];rw[show t.kn=s.kn from hs.kn,hb,show t.K.get a.block=some cs from hs.K _ _ Bs];simp only[cond_true];exact hl
    ·exact h.elim
   ·exact h.elim
theorem AV{P:Unit->Program}(hX:GU X)(hs:Le s (lJ X t)){a:Addr}{ty:TypeId}{C:Value->Prop}(h:pV P (bm P0 H0 F0) s ty a C):∃v,sS (P ()) t ty a=some v/\C v:=by
 unfold pV at h;unfold sS;split at h
 ·rename_i Gj
  split at h
  ·rename_i n hn
   obtain⟨l,hr,hC⟩:=AU hX hs h;simp only[Gj,hn,hr];exact⟨_,rfl,hC⟩
  ·exact h.elim
 ·rename_i Gj
  obtain⟨l,hr,hC⟩:=AU hX hs h;simp only[Gj,hr];split at hC
  ·exact⟨_,rfl,hC⟩
  ·exact hC.elim
 ·exact h.elim
theorem GV(hX:GU X)(hs:Le s (lJ X t)){a:Addr}{vs:List Value}{C:SS->Prop}(h:we (bm P0 H0 F0) s a vs C):∃t' s',t.write a vs=some t'/\Le s' (lJ X t')/\C s':=by
 unfold we at h;unfold St.write;cases fz:vs.all aD with
 |false=>rw[fz]at h;exact absurd h (by simp)
 |true=>
  rw[fz]at h;simp only[cond_true]at h ⊢;split at h
  ·rename_i jI
   obtain⟨h',kD,hC⟩:=h;have hw:s.h.write a.block a.off vs=some h':=kD;rw[show s.h=X t.h from hs.h.symm]at hw;obtain⟨h1,oO,rfl⟩:=hX.write _ _ _ _ _ hw;simp only[jI,oO];exact⟨{ t with h:=h1 },{ s with h:=X h1 },rfl,⟨hs.env,hs.K,hs.kn,rfl⟩,hC⟩
  ·rename_i x jI
   cases hb:Nat.blt a.block s.kn with
   |false=>rw[hb]at h;exact absurd h (by simp)
   |true=>
    rw[hb]at h;simp only[cond_true]at h;split at h
    ·rename_i cs Bs
     split at h
     ·rename_i j6 qL
      rw[show t.kn=s.kn from hs.kn,hb,show t.K.get a.block=some cs from hs.K _ _ Bs];simp only[jI,cond_true,qL];refine⟨_,{ s with K:=(a.block,j6) :: s.K },rfl,⟨hs.env,fun i v hv=>?_,rfl,hs.h⟩,h⟩;rw[kV]at hv;show(t.K.set a.block j6).get i=some v;rw[cQ.bO];by_cases e:a.block=i
      ·rw[if_pos e]at hv ⊢;exact hv
      ·rw[if_neg e]at hv ⊢;exact hs.K _ _ hv
     ·exact h.elim
    ·exact h.elim
theorem GW{P:Unit->Program}(hX:GU X)(hs:Le s (lJ X t)){a:Addr}{ty:TypeId}{v:Value}{C:SS->Prop}(h:wh P (bm P0 H0 F0) s ty a v C):∃t' s',mG (P ()) t ty a v=some t'/\Le s' (lJ X t')/\C s':=by
 unfold wh at h;unfold mG;split at h
 ·rename_i n hn
  rw[hn];obtain⟨hb,h⟩:=kK h;simp only[hb,cond_true];exact GV hX hs h
 ·exact h.elim
end
theorem uG{k k':IntKind}(h:iy k k'=true):k=k':=of_decide_eq_true h
theorem MY {P0 : Program} {H0 : Hint} {F0 : bg} {P : Unit → Program} {op : BinOp} {ty : TypeId} {k k' : IntKind} {a b : Int} {C : Value → Prop} (h : MT (bm P0 H0 F0) op k k' a b C) : ∃ v, w8 (P ()) op ty (.int k a) (.int k' b) = some v ∧ C v := by
  unfold MT at h
  unfold w8
  simp only []
  split at h
  · obtain ⟨h0, hC⟩ := h
    have Xf : 0 ≤ b := h0
    refine ⟨_, ?_, hC⟩
    simp only [qF]; rw [if_neg om]; rfl
  · obtain ⟨h0, hC⟩ := h
    have Xf : 0 ≤ b := h0
    refine ⟨_, ?_, hC⟩
    simp only [qF]; rw [if_neg om]; rfl
  · obtain ⟨hk, h0, hC⟩ := kK h
    have Xf : b ≠ 0 := h0
    refine ⟨_, ?_, hC⟩
    simp only [vd]; rw [if_pos (uG hk), if_neg Xf]; rfl
  · obtain ⟨hk, h0, hC⟩ := kK h
    have Xf : b ≠ 0 := h0
    refine ⟨_, ?_, hC⟩
    simp only [vd]; rw [if_pos (uG hk), if_neg Xf]; rfl
  all_goals first
    | exact h.elim
    | (obtain ⟨hk, hC⟩ := kK h
       refine ⟨_, ?_, hC⟩
       simp only [vd]; rw [if_pos (uG hk)]; rfl)
theorem MZ{P0:Program}{H0:Hint}{F0:bg}{op:BinOp}{a b:ByteArray}{C:Value->Prop}(h:MU (bm P0 H0 F0) op a b C):∃v,DF op a b=some v/\C v:=by
 unfold MU at h;split at h
 ·obtain⟨h0,hC⟩:=h
  refine⟨_,?_,hC⟩;simp only[DF];rw[bz h0];rfl
 all_goals first
  |exact h.elim
  |exact⟨_,rfl,h⟩
theorem M0{H0:Hint}{F0:bg}{P:Unit->Program}{op:BinOp}{ty:TypeId}{x y:Value}{C:Value->Prop}(h:MV P (bm (P ()) H0 F0) op ty x y C):∃v,w8 (P ()) op ty x y=some v/\C v:=by
 unfold MV at h;split at h
 ·exact MY h
 ·exact MZ h
 ·rename_i a b
  unfold w8;simp only[];split at h
  ·rename_i hu
   simp only[hu];exact⟨_,rfl,h⟩
  ·rename_i hu
   simp only[hu];exact⟨_,rfl,h⟩
  ·exact h.elim
 ·rename_i a b
  unfold w8;simp only[vX,jk,Bool.true_and];split at h
  ·obtain⟨h0,r,hr,hC⟩:=h
   refine⟨_,?_,hC⟩;rw[h0];simp only[Bool.not_false,cond_true,hr]
  ·obtain⟨h0,r,hr,hC⟩:=h
   refine⟨_,?_,hC⟩;rw[h0];simp only[Bool.not_false,cond_true,hr];rfl
  ·exact h.elim
 ·split at h
  ·rename_i v hv
   exact⟨v,hv,h⟩
  ·exact h.elim
theorem Qf{P0:Program}{H0:Hint}{F0:bg}{op:UnOp}{x:Value}{C:Value->Prop}(h:TZ (bm P0 H0 F0) op x C):∃v,Wl op x=some v/\C v:=by
 unfold TZ at h;split at h
 ·exact⟨_,rfl,h⟩
 ·exact⟨_,rfl,h⟩
 ·split at h
  ·rename_i v hv;exact⟨v,hv,h⟩
  ·exact h.elim
theorem Ka{P0:Program}{H0:Hint}{F0:bg}{P:Unit->Program}{src dst:TypeId}{x:Value}{C:Value->Prop}(h:BU P (bm P0 H0 F0) src dst x C):∃v,DG (P ()) src dst x=some v/\C v:=by
 unfold BU at h;unfold DG;split at h
 ·rename_i h1 h2
  simp only[h1,h2];exact⟨_,rfl,h⟩
 ·rename_i h1 h2
  simp only[h1,h2];exact⟨_,rfl,h⟩
 ·exact h.elim
theorem M3{P0:Program}{H0:Hint}{F0:bg}{P:Unit->Program}{ty:TypeId}{x:Value}{C:Value->Prop}(h:yj P (bm P0 H0 F0) ty x C):∃v,LV (P ()) ty x=some v/\C v:=by
 unfold yj at h;unfold LV;split at h
 ·rename_i h1
  simp only[h1];exact⟨_,rfl,h⟩
 ·rename_i h1
  simp only[h1];exact⟨_,rfl,h⟩
 ·rename_i h1
  simp only[h1];exact⟨_,rfl,h⟩
 ·rename_i h1
  simp only[h1];split at h
  ·rename_i h2
   simp only[h2];exact⟨_,rfl,h⟩
  ·exact h.elim
 ·exact h.elim
theorem Eu{P0:Program}{H0:Hint}{F0:bg}:∀{r:List Value} {x:Value} {C:Value->Prop},nZ (bm P0 H0 F0).imax x r C->∃v,rH xg x r=some v/\C v
 | [],x,C,h=>by simp only[nZ]at h;exact⟨x,rfl,h⟩
 |y :: r,x,C,h=>by
  unfold nZ at h;split at h
  ·rename_i e;cases e
  ·rename_i k a k' b r' e
   simp only[List.cons.injEq]at e;obtain⟨rfl,rfl⟩:=e;simp only[rH,xg];exact Eu h
  ·exact h.elim
theorem Ev{P0:Program}{H0:Hint}{F0:bg}:∀{r:List Value} {x:Value} {C:Value->Prop},nZ (bm P0 H0 F0).uv x r C->∃v,rH xh x r=some v/\C v
 | [],x,C,h=>by simp only[nZ]at h;exact⟨x,rfl,h⟩
 |y :: r,x,C,h=>by
  unfold nZ at h;split at h
  ·rename_i e;cases e
  ·rename_i k a k' b r' e
   simp only[List.cons.injEq]at e;obtain⟨rfl,rfl⟩:=e;simp only[rH,xh];exact Ev h
  ·exact h.elim
theorem GX{H0:Hint}{F0:bg}{P:Unit->Program}{ty:TypeId}{x:Value}{lo hi mx:Option Value}{C:Value->Prop}(h:wi P (bm (P ()) H0 F0) ty x lo hi mx C):∃v,gM (P ()) ty x lo hi mx=some v/\C v:=by
 unfold wi at h;split at h
 ·split at h
  ·obtain⟨r,hr,hC⟩:=h;exact⟨_,hr,hC⟩
  ·exact h.elim
 ·rename_i e a n c hu
  split at h
  ·rename_i k j
   obtain⟨PV,⟨h0,h1⟩,hC⟩:=kK h;obtain⟨z,hz⟩:=Option.isSome_iff_exists.1 PV;refine⟨_,?_,hC⟩;unfold gM;rw[hu];simp only[hz,lj,gG,iG,ia,bound];rw[if_pos ⟨h0,h1⟩];simp only[];rw[bz (show j.toNat<=cM c by omega)];simp only[cond_true,Option.isSome_none,Bool.or_false,Nat.sub_zero,Nat.zero_mul];have aax:a.map (fV · 0)=a:=by cases a<;>rfl
   by_cases hc:c<aS
   ·rw[dU hc,fe hc,aax]
    simp only[cond_true];cases Nat.beq c 0<;>rfl
   ·rw[cT om]
    rfl
  ·obtain⟨a',n',c',hr,hC⟩:=h;exact⟨_,hr,hC⟩
 ·obtain⟨a',n',c',hr,hC⟩:=h;exact⟨_,hr,hC⟩
 ·exact h.elim
theorem yq{P0:Program}{H0:Hint}{F0:bg}{P:Unit->Program}{ty:TypeId}{x ix:Value}{C:Value->Prop}(h:kf P (bm P0 H0 F0) ty x ix C):∃v,lD (P ()) ty x ix=some v/\C v:=by
 unfold kf at h;unfold lD;split at h
 ·rename_i hu
  split at h
  ·rename_i n hn
   obtain⟨⟨h0,h1⟩,hC⟩:=h;simp only[hu,hn];rw[if_pos ⟨h0,h1⟩];exact⟨_,rfl,hC⟩
  ·exact h.elim
 ·rename_i hu
  split at h
  ·rename_i n hn
   obtain⟨b,o,rfl,⟨h0,h1⟩,hC⟩:=h;simp only[hu,hn];rw[if_pos ⟨h0,h1⟩];exact⟨_,rfl,hC⟩
  ·exact h.elim
 ·exact h.elim
theorem yr{P0:Program}{H0:Hint}{F0:bg}{P:Unit->Program}{ty:TypeId}{x:Value}{f:Nat}{C:Value->Prop}(h:mu P (bm P0 H0 F0) ty x f C):∃v,lA (P ()) ty x f=some v/\C v:=by
 unfold mu at h;unfold lA;split at h
 ·rename_i fs a hu
  split at h
  ·rename_i fd hfd
   split at h
   ·rename_i n hn
    cases hb:Nat.beq n 0 with
    |true=>rw[hb]at h;exact h.elim
    |false=>
     rw[hb]at h;simp only[hu,hfd,hn,hb,cond_false]at h ⊢;refine⟨_,rfl,?_⟩;obtain⟨b,o,sp⟩:=a;cases sp<;>exact h
   ·exact h.elim
  ·exact h.elim
 ·exact h.elim
theorem GY{H0:Hint}{F0:bg}{P:Unit->Program}{ty:TypeId}{x ix:Value}{C:Value->Prop}(h:BV P (bm (P ()) H0 F0) ty x ix C):∃v,w9 (P ()) ty x ix=some v/\C v:=by
 unfold BV at h;unfold w9;split at h
 ·rename_i hu
  split at h
  ·rename_i n hn
   obtain⟨⟨h0,h1⟩,hC⟩:=h;obtain⟨v,hv,hC⟩:=BY hC;simp only[hu,hn];rw[if_pos ⟨h0,h1⟩];refine⟨v,?_,hC⟩;have W6:kG (P ()) _ _ (0+_)=some v:=hv;rw[Nat.zero_add]at W6;exact W6
  ·exact h.elim
 ·rename_i hu
  obtain⟨h0,b,hb,hC⟩:=h;simp only[hu];rw[if_pos h0];simp only[hb];exact⟨_,rfl,hC⟩
 ·exact h.elim
theorem yx{z:List Value}(hz:z.all aD=true):∀n,(bF z n).all aD=true
 |0=>rfl
 |n+1=>by simp only[bF,List.all_append,hz,yx hz n,Bool.and_self]
section
variable{P:Unit->Program}{X:af->af}{mk:kB}{m:lr}{s:SS}{t:St}{P0:Program}{H0:Hint}{F0:bg}
theorem yy(hm:MX X mk m s){ty:TypeId}{l c:Value}{C:Value->SS->Prop}(h:mw P (bm P0 H0 F0) mk ty l c s C):∃v t' s',fL (P ()) m ty l c=some (v,t')/\Le s' (lJ X t')/\C v s':=by
 unfold mw at h;unfold fL;split at h
 ·rename_i hu
  split at h
  ·rename_i n z by_ hn hz rF
   obtain⟨hb,h⟩:=kK h;simp only[Bool.and_eq_true]at hb;obtain⟨⟨FQ,xM⟩,hb3⟩:=hb;obtain⟨⟨h0,h1,h2⟩,hC⟩:=h;obtain⟨v,t',s',hv,hl,hC⟩:=hm _ _ _ _ (yx hb3 _) hC;simp only[hu,hn,hz,rF];rw[if_pos ⟨h0,h1,h2,Nat.le_of_ble_eq_true FQ,Nat.eq_of_beq_eq_true xM⟩];rw[hv];split at hC
   ·exact⟨_,_,_,rfl,hl,hC⟩
   ·exact hC.elim
  ·exact h.elim
 ·exact h.elim
theorem vV(hm:MX X mk m s){ty:TypeId}{len:Nat}{parts:List (Nat×Value)}{C:Value->SS->Prop}(h:kU P mk ty len parts s C):∃v t' s',eE (P ()) m ty len parts=some (v,t')/\Le s' (lJ X t')/\C v s':=by
 unfold kU at h;unfold eE;split at h
 ·rename_i hu
  split at h
  ·rename_i n z hn hz
   simp only[hu,hn,hz];obtain⟨hb,h⟩:=kK h;rw[hb];simp only[cond_true];split at h
   ·rename_i cs Bs
    simp only[Bs];obtain⟨fz,h⟩:=kK h;obtain⟨v,t',s',hv,hl,hC⟩:=hm _ _ _ _ fz h;rw[hv];split at hC
    ·exact⟨_,_,_,rfl,hl,hC⟩
    ·exact hC.elim
   ·exact h.elim
  ·exact h.elim
 ·exact h.elim
end
end Go.cL
namespace Go.cL
theorem tq{b:Bool}{A B:Prop}(h:cond b A B):(b=true/\A)\/(b=false/\B):=by
 cases b with
 |true=>exact .inl ⟨rfl,h⟩
 |false=>exact .inr ⟨rfl,h⟩
theorem Iw{b:Bool}{x y:Unit->Prop}(h:fork b x y):(b=true/\x ())\/(b=false/\y ()):=by
 cases b with
 |true=>exact .inl ⟨rfl,h⟩
 |false=>exact .inr ⟨rfl,h⟩
theorem Kb{P:Program}{h:af}{t:TypeId}{x k v:Value}{r ok:Bool}(hl:kP P h t x k true=some (.tuple #[v,.bool r],h)):kP P h t x k ok=some (found ok v r,h):=by
 unfold kP at hl ⊢;split at hl
 ·split at hl
  ·rename_i kd z es h1 h2 h3
   cases hb:(iL kd && isKey k)with
   |false=>rw[hb]at hl;cases hl
   |true=>
    rw[hb]at hl;simp only[cond_true]at hl ⊢;split at hl
    ·simp only[found,cond_true,oi,pj,Value.tuple.injEq,and_true]at hl
     simp at hl;obtain⟨rfl,rfl⟩:=hl;rfl
    ·simp only[found,cond_true,oi,pj,Value.tuple.injEq,and_true]at hl
     simp at hl;obtain⟨rfl,rfl⟩:=hl;rfl
    ·cases hl
  ·cases hl
 ·cases hl
theorem Qg{P:Program}{h h':af}(e:h'.m=h.m)(src dst:TypeId)(a:Option Addr)(n:Nat):oJ P h' src dst a n=oJ P h src dst a n:=by
 unfold oJ af.aL af.cells?;rw[e]
theorem BZ{P:Unit->Program}{H0:Hint}{F0:bg}{X:af->af}{mk:kB}{m:lr}{s:SS}{t:St}{loc:Bool}{o:Op}{C:Value->SS->Prop}(hX:GU X)(hs:Le s (lJ X t))(hm:MX X mk m s)(uf:small o=true\/∀h,X h=h)(h:wpOp P (bm (P ()) H0 F0) mk loc o s C) :
  ∃v t' s',gp (P ()) m loc o t=some (v,t')/\Le s' (lJ X t')/\C v s':=by
 have E1:∀{x:Operand} {v:Value},ev s x=some v->bL t x=some v:=fun hx=>by
  have:=hs.ev hx;rename_i x v;cases x<;>exact this
 have E2:∀{x:List Operand} {v:List Value},zL s x=some v->gU t x=some v:=by
  intro x
  induction x with
  |nil=>intro v hx;exact hx
  |cons x r ih=>
   intro v hx;simp only[zL]at hx;split at hx
   ·rename_i u hu
    split at hx
    ·rename_i l hl
     simp only[gU,E1 hu,ih hl];exact hx
    ·cases hx
   ·cases hx
 have E3:∀{x:Option Operand} {v:Option Value},pU s x=some v->jl t x=some v:=by
  intro x v hx;cases x with
  |none=>exact hx
  |some x=>
   simp only[pU]at hx;split at hx
   ·rename_i u hu
    simp only[jl,E1 hu];exact hx
   ·cases hx
 have E4:∀{x:List (Nat×Operand)} {v:List (Nat×Value)},jS s x=some v->fY t x=some v:=by
  intro x
  induction x with
  |nil=>intro v hx;exact hx
  |cons x r ih=>
   obtain⟨i,x⟩:=x;intro v hx;simp only[jS]at hx;split at hx
   ·rename_i u hu
    split at hx
    ·rename_i l hl
     simp only[fY,E1 hu,ih hl];exact hx
    ·cases hx
   ·cases hx
 unfold wpOp at h;split at h
 ·split at h
  ·rename_i v hv;exact⟨v,t,s,by simp only[gp,E1 hv],hs,h⟩
  ·exact h.elim
 ·split at h
  ·rename_i v hv;exact⟨v,t,s,by simp only[gp,E1 hv],hs,h⟩
  ·exact h.elim
 ·split at h
  ·rename_i b hb
   rcases Iw h with ⟨rfl,h1⟩|⟨rfl,h1⟩
   ·clear h
    split at h1
    ·rename_i v hv;exact⟨v,t,s,by simp only[gp,E1 hb,E1 hv],hs,h1⟩
    ·exact h1.elim
   ·clear h
    split at h1
    ·rename_i v hv;exact⟨v,t,s,by simp only[gp,E1 hb,E1 hv],hs,h1⟩
    ·exact h1.elim
  ·exact h.elim
 ·split at h
  ·rename_i z n hz hn
   obtain⟨fz,h⟩:=kK h;obtain⟨v,t',s',hv,hl,hC⟩:=hm _ _ _ _ fz h;exact⟨v,t',s',by simp only[gp,hz,hn,hv],hl,hC⟩
  ·exact h.elim
 ·split at h
  ·rename_i z n hz hn
   obtain⟨fz,h⟩:=kK h;obtain⟨v,t',s',hv,hl,hC⟩:=hm _ _ _ _ fz h;exact⟨v,t',s',by simp only[gp,E1 hz,hn,hv],hl,hC⟩
  ·exact h.elim
 ·split at h
  ·rename_i l hl
   split at h
   ·rename_i v hv;exact⟨v,t,s,by simp only[gp,E4 hl,hv],hs,h⟩
   ·exact h.elim
  ·exact h.elim
 ·split at h
  ·rename_i l hl
   obtain⟨v,t',s',hv,hle,hC⟩:=vV hm h;exact⟨v,t',s',by simp only[gp,E4 hl,hv],hle,hC⟩
  ·exact h.elim
 ·split at h
  ·rename_i a ha
   obtain⟨v,hv,hC⟩:=AV hX hs h;exact⟨v,t,s,by simp only[gp,E1 ha,hv],hs,hC⟩
  ·exact h.elim
 ·split at h
  ·rename_i a v ha hv
   obtain⟨t',s',uj,hl,hC⟩:=GW hX hs h;exact⟨_,t',s',by simp only[gp,E1 ha,E1 hv,uj],hl,hC⟩
  ·exact h.elim
 ·split at h
  ·rename_i a ha
   exact⟨_,t,s,by simp only[gp,E1 ha],hs,h⟩
  ·rename_i f first captured ha
   exact⟨_,t,s,by simp only[gp,E1 ha],hs,h⟩
  ·exact h.elim
 ·split at h
  ·rename_i a b ha hb
   obtain⟨v,hv,hC⟩:=M0 h;exact⟨v,t,s,by simp only[gp,E1 ha,E1 hb,hv],hs,hC⟩
  ·exact h.elim
 ·split at h
  ·rename_i a ha
   obtain⟨v,hv,h⟩:=Qf h;exact⟨v,t,s,by simp only[gp,E1 ha,hv],hs,h⟩
  ·exact h.elim
 ·split at h
  ·rename_i a n c ha
   split at h
   ·obtain⟨b,h1,h⟩:=h
    have sK:oJ (P ()) s.h _ _ a n=some (.string b):=h1;have em:s.h.m=t.h.m:=by rw[<-hs.h];exact hX.m _
    rw[Qg em]at sK;exact⟨.string b,t,s,by simp only[gp,E1 ha,sK],hs,h⟩
   ·exact h.elim
  ·rename_i a dS ha
   obtain⟨v,hv,h⟩:=Ka h;refine⟨v,t,s,?_,hs,h⟩;simp only[gp,E1 ha];cases a<;>first|exact absurd rfl (dS _ _ _)|simp only[hv]
  ·exact h.elim
 ·split at h
  ·rename_i f l r hl hr
   obtain⟨hb,h⟩:=kK h;exact⟨_,t,s,by simp only[gp,E2 hl,E2 hr,hb,cond_true],hs,h⟩
  ·exact h.elim
 ·split at h
  ·rename_i a b ha hb
   obtain⟨v,t',s',hv,hle,hC⟩:=yy hm h;exact⟨v,t',s',by simp only[gp,E1 ha,E1 hb,hv],hle,hC⟩
  ·exact h.elim
 ·split at h
  ·rename_i v a b c hv ha hb hc
   obtain⟨r,hr,hC⟩:=GX h;exact⟨r,t,s,by simp only[gp,E1 hv,E3 ha,E3 hb,E3 hc,hr],hs,hC⟩
  ·exact h.elim
 ·split at h
  ·rename_i v hv
   obtain⟨r,hr,h⟩:=yr h;exact⟨r,t,s,by simp only[gp,E1 hv,hr],hs,h⟩
  ·exact h.elim
 ·split at h
  ·rename_i v hv
   split at h
   ·rename_i r hr;exact⟨r,t,s,by simp only[gp,E1 hv,hr],hs,h⟩
   ·exact h.elim
  ·exact h.elim
 ·split at h
  ·rename_i v j hv hj
   obtain⟨r,hr,hC⟩:=yq h;exact⟨r,t,s,by simp only[gp,E1 hv,E1 hj,hr],hs,hC⟩
  ·exact h.elim
 ·split at h
  ·rename_i v j hv hj
   obtain⟨r,hr,hC⟩:=GY h;exact⟨r,t,s,by simp only[gp,E1 hv,E1 hj,hr],hs,hC⟩
  ·exact h.elim
 ·split at h
  ·rename_i vs TF
   split at h
   ·rename_i v hv;exact⟨v,t,s,by simp only[gp,E1 TF,hv],hs,h⟩
   ·exact h.elim
  ·exact h.elim
 ·rename_i b args argTypes
  split at h
  ·rename_i l hl
   split at h
   ·split at h
    ·rename_i ty hty
     obtain⟨v,hv,h⟩:=M3 h;exact⟨v,t,s,by simp only[gp,E2 hl,hty,hv],hs,h⟩
    ·exact h.elim
   ·rename_i a n c
    split at h
    ·rename_i ty hty
     split at h
     ·rename_i e hu
      obtain⟨h1,h⟩:=h;have sK:c<aS:=h1;exact⟨.int .i64 c,t,s,by simp only[gp,E2 hl,hty,PQ,hu,dU sK,cond_true],hs,h⟩
     ·exact h.elim
    ·exact h.elim
   ·obtain⟨v,hv,h⟩:=Eu h
    exact⟨v,t,s,by simp only[gp,E2 hl,hv],hs,h⟩
   ·obtain⟨v,hv,h⟩:=Ev h
    exact⟨v,t,s,by simp only[gp,E2 hl,hv],hs,h⟩
   ·have hx:∀h,X h=h:=by
     rcases uf with h|h
     ·simp[small,bN]at h
     ·exact h
    obtain⟨a,n,c,h',ha,hC⟩:=h;have e:t.h=s.h:=by rw[<-hs.h];exact(hx _).symm
    rw[<-e]at ha;exact⟨_,{ t with h:=h' },{ s with h:=h' },by simp only[gp,E2 hl,ha,bT],⟨hs.env,hs.K,hs.kn,hx _⟩,hC⟩
   ·have hx:∀h,X h=h:=by
     rcases uf with h|h
     ·simp[small,bN]at h
     ·exact h
    obtain⟨n,h',ha,hC⟩:=h;have e:t.h=s.h:=by rw[<-hs.h];exact(hx _).symm
    rw[<-e]at ha;exact⟨_,{ t with h:=h' },{ s with h:=h' },by simp only[gp,E2 hl,ha,bT],⟨hs.env,hs.K,hs.kn,hx _⟩,hC⟩
   ·have hx:∀h,X h=h:=by
     rcases uf with h|h
     ·simp[small,bN]at h
     ·exact h
    obtain⟨h',ha,hC⟩:=h;have e:t.h=s.h:=by rw[<-hs.h];exact(hx _).symm
    have So:rW (P ()) s.h argTypes.toList _=some (undef,h'):=ha;rw[<-e]at So;exact⟨_,{ t with h:=h' },{ s with h:=h' },by simp only[gp,E2 hl,So,bT],⟨hs.env,hs.K,hs.kn,hx _⟩,hC⟩
   ·exact h.elim
  ·exact h.elim
 ·have hx:∀h,X h=h:=by
   rcases uf with h|h
   ·simp[small,bN]at h
   ·exact h
  have e:t.h=s.h:=by rw[<-hs.h];exact(hx _).symm
  refine⟨.map (some t.h.next),{ t with h:=t.h.gT (.map []) },{ s with h:=s.h.gT (.map []) },by simp only[gp,bT],⟨hs.env,hs.K,hs.kn,by show X (t.h.gT (.map []))=_;rw[hx,e]⟩,?_⟩;rw[e];exact h
 ·rename_i tt xx ii ok
  have hx:∀h,X h=h:=by
   rcases uf with h|h
   ·simp[small,bN]at h
   ·exact h
  have e:t.h=s.h:=by rw[<-hs.h];exact(hx _).symm
  split at h
  ·rename_i kt et a b hu hv hj
   obtain⟨v,r,h1,h⟩:=BY h;have sK:=Kb (ok:=ok) h1;rw[<-e]at sK;exact⟨_,t,s,by simp only[gp,E1 hv,E1 hj,sK,bT],hs,h⟩
  ·exact h.elim
 ·have hx:∀h,X h=h:=by
   rcases uf with h|h
   ·simp[small,bN]at h
   ·exact h
  have e:t.h=s.h:=by rw[<-hs.h];exact(hx _).symm
  split at h
  ·rename_i a b c ha hb hc
   obtain⟨h',h1,h⟩:=h;have sK:kQ (P ()) s.h _ a b c=some (undef,h'):=h1;rw[<-e]at sK;exact⟨_,{ t with h:=h' },{ s with h:=h' },by simp only[gp,E1 ha,E1 hb,E1 hc,sK,bT],⟨hs.env,hs.K,hs.kn,hx _⟩,h⟩
  ·exact h.elim
 ·have hx:∀h,X h=h:=by
   rcases uf with h|h
   ·simp[small,bN]at h
   ·exact h
  have e:t.h=s.h:=by rw[<-hs.h];exact(hx _).symm
  split at h
  ·rename_i a b c ha hb hc
   obtain⟨h',h1,h⟩:=h;have sK:kQ (P ()) s.h _ a b c=some (undef,h'):=h1;rw[<-e]at sK;exact⟨_,{ t with h:=h' },{ s with h:=h' },by simp only[gp,E1 ha,E1 hb,E1 hc,sK,bT],⟨hs.env,hs.K,hs.kn,hx _⟩,h⟩
  ·exact h.elim
 ·exact h.elim
theorem Le.put{s:SS}{t:St}(h:Le s t){nt:Nat}{d:Option Tmp}{v:Value}{C:SS->Prop}(hp:z9 nt s d v C):∃t' s',rX nt t d v=some t'/\Le s' t'/\C s'/\t'.h=t.h:=by
 unfold z9 at hp;unfold rX;split at hp
 ·exact⟨t,s,rfl,h,hp,rfl⟩
 ·rename_i d
  obtain⟨hb,hp⟩:=kK hp;simp only[hb,cond_true];refine⟨_,{ s with env:=(d,v) :: s.env },rfl,⟨fun i u hu=>?_,h.K,h.kn,h.h⟩,hp,rfl⟩;rw[kV]at hu;show(t.env.set d v).get i=some u;rw[cQ.bO];by_cases e:d=i
  ·rw[if_pos e]at hu ⊢;exact hu
  ·rw[if_neg e]at hu ⊢;exact h.env _ _ hu
theorem Le.callee{s:SS}{t:St}(h:Le s t){c:Call}{r:FuncId×List Value}(hc:jT (fun y=>aU+y) s c=some r):kR t c=some r:=by
 unfold jT at hc;unfold kR;split at hc
 ·rename_i x hx
  simp only[hx];split at hc
  ·rename_i f first captured l he hl
   simp only[h.ev he,h.zL hl];exact hc
  ·rename_i y u1 u2 l he hl
   simp only[h.ev he,h.zL hl];exact hc
  ·cases hc
 ·cases hc
theorem Le.same{s:SS}{t:St}(h:Le s t){d:Nat}{v:Value}(hd:lk s.env d=some v):Le { s with env:=(d,v) :: s.env } t:=
 ⟨fun i u hu=>by
  rw[kV]at hu;by_cases e:d=i
  ·subst e;rw[if_pos rfl]at hu;rw[<-hu];exact h.env _ _ hd
  ·rw[if_neg e]at hu;exact h.env _ _ hu,h.K,h.kn,h.h⟩
theorem yz{ops:Array Oper}{o:Oper}{s:SS}{t:St}{go skip:SS->Prop}(h:Le s t)(hw:n7 ops o s go skip) :
  (jm ops o t=some true/\∃s',Le s' t/\s'.h=s.h/\s'.kn=s.kn/\go s')\/(jm ops o t=some false/\∃s',Le s' t/\s'.h=s.h/\s'.kn=s.kn/\skip s'):=by
 unfold n7 at hw;unfold jm;split at hw
 ·rename_i hg
  rw[hg];exact .inl ⟨rfl,s,h,rfl,rfl,hw⟩
 ·rename_i j want hg
  simp only[hg];split at hw
  ·rename_i d hd
   simp only[hd];split at hw
   ·rename_i b hb
    simp only[h.env _ _ hb];cases want with
    |true=>
     simp only[]at hw;rcases Iw hw with ⟨rfl,pv⟩|⟨rfl,pv⟩
     ·exact .inl ⟨by simp,_,h.same hb,rfl,rfl,pv⟩
     ·exact .inr ⟨by simp,_,h.same hb,rfl,rfl,pv⟩
    |false=>
     simp only[]at hw;rcases Iw hw with ⟨rfl,pv⟩|⟨rfl,pv⟩
     ·exact .inr ⟨by simp,_,h.same hb,rfl,rfl,pv⟩
     ·exact .inl ⟨by simp,_,h.same hb,rfl,rfl,pv⟩
   ·rename_i vs TF
    simp only[h.env _ _ TF];obtain⟨hb,hw⟩:=kK hw;rw[hb];exact .inr ⟨rfl,s,h,rfl,rfl,hw⟩
   ·exact hw.elim
  ·exact hw.elim
theorem Qh{P0:Program}{H0:Hint}{F0:bg}(s:SS)(t:St)(hs:Le s t):MX (fun h=>h) (Qd (bm P0 H0 F0)) t.new s:=by
 intro loc es cs C fz h;unfold Qd at h;unfold St.new;rw[fz];simp only[cond_true];cases loc with
 |true=>
  simp only[fork,cond_true]at h ⊢;have e:t.kn=s.kn:=hs.kn;refine⟨_,_,{ s with kn:=s.kn+1,K:=(s.kn,cs) :: s.K },rfl,⟨hs.env,fun i v hv=>?_,by simp[lJ,e],hs.h⟩,by rw[e];exact h⟩;rw[kV]at hv;show(t.K.set t.kn cs).get i=some v;rw[cQ.bO,e];by_cases e:s.kn=i
  ·rw[if_pos e]at hv ⊢;exact hv
  ·rw[if_neg e]at hv ⊢;exact hs.K _ _ hv
 |false=>
  simp only[fork,cond_false]at h ⊢;have e:t.h=s.h:=hs.h;exact⟨_,_,{ s with h:=s.h.push es cs },rfl,⟨hs.env,hs.K,hs.kn,by show t.h.push es cs=_;rw[e]⟩,by rw[e];exact h⟩
theorem AW{P0:Program}{H0:Hint}{F0:bg}{X:af->af}(hX:GU X)(id tag:Nat)(s:SS)(t:St)(hs:Le s (lJ X t)):MX X (uF (bm P0 H0 F0) id tag) (t.newAt id tag) s:=by
 intro loc es cs C fz h;unfold uF at h;unfold St.newAt;rw[fz];simp only[cond_true];cases loc with
 |true=>
  simp only[fork,cond_true]at h ⊢;refine⟨_,_,{ s with K:=(tag,cs) :: s.K },rfl,⟨hs.env,fun i v hv=>?_,hs.kn,hs.h⟩,h⟩;rw[kV]at hv;show(t.K.set tag cs).get i=some v;rw[cQ.bO];by_cases e:tag=i
  ·rw[if_pos e]at hv ⊢;exact hv
  ·rw[if_neg e]at hv ⊢;exact hs.K _ _ hv
 |false=>
  simp only[fork,cond_false]at h ⊢;refine⟨_,_,{ s with h:=s.h.putAt id es cs },rfl,⟨hs.env,hs.K,hs.kn,?_⟩,h⟩;have:=hX.putAt t.h id es cs;show X (t.h.putAt id es cs)=_;rw[this];rw[show X t.h=s.h from hs.h]
end Go.cL
namespace Go.cL
variable{P:Unit->Program}{H:Hint}{F:bg}{V:Live}
theorem tr{f:FuncId}{nt:Nat}{ops:Array Oper}:∀(l:List Oper) (s:SS) (t:St) (Q:SS->Prop),Le s t->wpOps P H (bm (P ()) H F) f nt ops l s Q->
  ∃n t' s',lF (P ()) H (cE (P ()) H F n).call f nt ops l t=some t'/\Le s' t'/\Q s'
 | [],s,t,Q,hs,h=>⟨0,t,s,rfl,hs,h⟩
 |o :: rest,s,t,Q,hs,h=>by
  simp only[wpOps]at h;simp only[lF];rcases yz hs h with ⟨hw,s1,gi,e1,e2,h⟩|⟨hw,s1,gi,e1,e2,h⟩
  ·simp only[hw]
   unfold It at h;split at h
   ·rename_i c hc
    split at h
    ·rename_i g args hg
     obtain⟨v,h',⟨n1,hr⟩,h⟩:=h.ex;have h:=yo h;have qJ:Le { s1 with h:=h' } { t with h:=h' }:=⟨gi.env,gi.K,gi.kn,rfl⟩;obtain⟨t3,s3,hp,yA,h,_⟩:=qJ.put h;obtain⟨n2,t4,s4,ho,zM,hQ⟩:=tr rest s3 t3 Q yA h;refine⟨max n1 n2,t4,s4,?_,zM,hQ⟩;have oS:rY (P ()) H (cE (P ()) H F (max n1 n2)).call f o t=some (v,{ t with h:=h' }):=by
      unfold rY;simp only[hc,jF,gi.callee hg];have:(cE (P ()) H F (max n1 n2)).call g args t.h=some (v,h'):=by
       rw[gi.h];exact(ke (Nat.le_max_left n1 n2)).call _ _ _ _ hr
      simp only[this]
     simp only[oS,hp];exact qP (ke (Nat.le_max_right n1 n2)).call _ _ _ ho
    ·exact h.elim
   ·rename_i hc
    obtain⟨v,t2,s2,ho,qJ,h⟩:=BZ (m:=t.new) GU.id (by exact gi) (Qh s1 t gi) (.inr fun _=>rfl) h;obtain⟨t3,s3,hp,yA,h,_⟩:=Le.put (t:=t2) qJ h;obtain⟨n2,t4,s4,Qi,zM,hQ⟩:=tr rest s3 t3 Q yA h;refine⟨n2,t4,s4,?_,zM,hQ⟩;have oS:rY (P ()) H (cE (P ()) H F n2).call f o t=some (v,t2):=by
     unfold rY;simp only[hc];exact ho
    simp only[oS,hp];exact Qi
  ·simp only[hw]
   obtain⟨t3,s3,hp,yA,h,_⟩:=gi.put h;obtain⟨n2,t4,s4,Qi,zM,hQ⟩:=tr rest s3 t3 Q yA h;refine⟨n2,t4,s4,?_,zM,hQ⟩;simp only[hp];exact Qi
theorem qT{id tag:Nat}{t t1:St}{loc:Bool}{es:Nat}{cs:List Value}{v:Value}(h:t.newAt id tag loc es cs=some (v,t1)):t1.h.low=t.h.low:=by
 unfold St.newAt at h;cases fz:cs.all aD with
 |false=>rw[fz]at h;cases h
 |true=>
  rw[fz]at h;cases loc with
  |true=>simp only[cond_true,oi,pj]at h;obtain⟨_,rfl⟩:=h;rfl
  |false=>simp only[cond_true,cond_false,oi,pj]at h;obtain⟨_,rfl⟩:=h;rfl
theorem Aa{id tag:Nat}{t t1:St}{ty:TypeId}{l c v:Value}(h:fL (P ()) (t.newAt id tag) ty l c=some (v,t1)):t1.h.low=t.h.low:=by
 unfold fL at h;split at h
 ·split at h
  ·split at h
   ·split at h
    ·rename_i a s' hm
     simp only[oi,pj]at h;obtain⟨_,rfl⟩:=h;exact qT hm
    ·cases h
   ·cases h
  ·cases h
 ·cases h
theorem yB{id tag:Nat}{t t1:St}{ty:TypeId}{len:Nat}{parts:List (Nat×Value)}{v:Value}(h:eE (P ()) (t.newAt id tag) ty len parts=some (v,t1)):t1.h.low=t.h.low:=by
 unfold eE at h;split at h
 ·split at h
  ·rename_i n z _ _
   cases hb:(Nat.ble (len*n) 16777216 && Nat.beq z.cells.toList.length n && Nat.ble len 16777216)with
   |false=>rw[hb]at h;cases h
   |true=>
    rw[hb]at h;simp only[cond_true]at h;split at h
    ·split at h
     ·rename_i a s' hm
      simp only[oi,pj]at h;obtain⟨_,rfl⟩:=h;exact qT hm
     ·cases h
    ·cases h
  ·cases h
 ·cases h
theorem Qj {id tag : Nat} {t t1 : St} {loc : Bool} {o : Op} {v : Value} (uf : small o = true) (uj : iH o = false) (h : gp (P ()) (t.newAt id tag) loc o t = some (v, t1)) : t1.h.low = t.h.low := by
  unfold gp at h
  split at h
  case h_4 => split at h <;> first | exact qT h | cases h
  case h_5 => split at h <;> first | exact qT h | cases h
  case h_7 => split at h <;> first | exact yB h | cases h
  case h_15 => split at h <;> first | exact Aa h | cases h
  case h_9 => simp [iH] at uj
  case h_23 => simp [small, bN] at uf
  case h_24 => simp [small, bN] at uf
  case h_25 => simp [small, bN] at uf
  case h_26 => simp [small, bN] at uf
  case h_22 =>
    rename_i b args argTypes
    cases b <;> simp [small, bN] at uf
    all_goals
      (split at h
       · rename_i l hl
         rcases l with _ | ⟨x, _ | ⟨y, r⟩⟩
         all_goals
           (simp only [] at h
            repeat' split at h
            all_goals first
              | (cases h; done)
              | (cases h; rfl))
       · cases h)
  all_goals
    (repeat' split at h
     all_goals first
       | (cases h; done)
       | (cases h; rfl)
       | (simp only [oi, pj] at h; obtain ⟨_, rfl⟩ := h; rfl)
       | (rename_i l r _ _; cases hb : (l.all dn && r.all dn) <;> rw [hb] at h <;> first | (cases h; done) | (cases h; rfl)))
theorem Kc{dR:Nat}{x:FP}{wx:Bool}{y:FP}{wy:Bool}{C:Prop}(h:ym (bm (P ()) H F) dR x wx y wy C):cB dR x wx y wy=false/\C:=by
 unfold ym at h;split at h
 ·exact⟨rfl,h⟩
 ·split at h
  ·exact⟨rfl,h⟩
  ·exact h.elim
 ·split at h
  ·exact⟨rfl,h⟩
  ·exact h.elim
 ·rename_i l b
  split at h
  ·exact⟨rfl,h⟩
  ·rcases tq h with ⟨rfl,h2⟩|⟨rfl,h2⟩
   ·exact⟨by simp[cB],h2⟩
   obtain⟨⟨rfl,rfl,h1⟩,h3⟩:=h2;refine⟨?_,h3⟩;rcases h1 with h1|h1
   ·cases h1
   ·simp[cB,dU h1]
  ·rename_i c
   rcases tq h with ⟨rfl,h2⟩|⟨rfl,h2⟩
   ·exact⟨by simp[cB],h2⟩
   obtain⟨⟨rfl,h0,h1⟩,h3⟩:=h2;refine⟨?_,h3⟩;rcases h1 with h1|h1
   ·cases h1
   ·rcases h0 with rfl|h0
    ·simp[cB,dU h1]
    ·simp[cB,dU h1,beq_eq,h0]
  ·rename_i l' b'
   rcases tq h with ⟨e,h1⟩|⟨e,h1⟩
   ·rcases tq h1 with ⟨e2,h2⟩|⟨e2,h2⟩
    ·exact⟨by have h3:b≠b':=h2.1;simp[cB,same,beq_eq,h3],h2.2⟩
    ·exact⟨by simp[cB,same,e2],h2⟩
   ·exact⟨by simp[cB,e],h1⟩
  ·rename_i l' b'
   rcases tq h with ⟨e2,h2⟩|⟨e2,h2⟩
   ·exact⟨by have h3:b≠b':=h2.1;simp[cB,same,beq_eq,h3],h2.2⟩
   ·exact⟨by simp[cB,same,e2],h2⟩
 ·rename_i l b
  split at h
  ·exact⟨rfl,h⟩
  ·obtain⟨rfl,h⟩:=h
   exact⟨rfl,h⟩
  ·rename_i c
   obtain⟨⟨_,h0,_⟩,h3⟩:=h;refine⟨?_,h3⟩;rcases h0 with rfl|h0
   ·simp[cB]
   ·simp[cB,beq_eq,h0]
  ·rename_i l' b'
   rcases tq h with ⟨e2,h2⟩|⟨e2,h2⟩
   ·exact⟨by have h3:b≠b':=h2.1;simp[cB,same,beq_eq,h3],h2.2⟩
   ·exact⟨by simp[cB,same,e2],h2⟩
  ·rename_i l' b'
   rcases tq h with ⟨e2,h2⟩|⟨e2,h2⟩
   ·exact⟨by have h3:b≠b':=h2.1;simp[cB,same,beq_eq,h3],h2.2⟩
   ·exact⟨by simp[cB,same,e2],h2⟩
theorem pX{ops:Array Oper}{dR p:Nat}{x:FP}{wx:Bool}:∀{r:List (Nat×FP×Bool)} {C:Prop},js (bm (P ()) H F) ops dR p x wx r C->
  r.all (fun(q,y,wy)=>!(cB dR x wx y wy) || prec (Region.before ops) p q)=true/\C
 | [],C,h=>⟨rfl,h⟩
 |(q,y,wy) :: r,C,h=>by
  simp only[js]at h;rcases tq h with ⟨e,h⟩|⟨e,h⟩
  ·obtain⟨h1,h2⟩:=pX h
   exact⟨by simp only[List.all_cons,e,Bool.or_true,Bool.true_and];exact h1,h2⟩
  ·obtain⟨h0,h⟩:=Kc h
   obtain⟨h1,h2⟩:=pX h;exact⟨by simp only[List.all_cons,h0,Bool.not_false,Bool.true_or,Bool.true_and];exact h1,h2⟩
theorem yC{ops:Array Oper}{dR:Nat}:∀{r:List (Nat×FP×Bool)} {C:Prop},qS (bm (P ()) H F) ops dR r C->DL ops dR r=true/\C
 | [],C,h=>⟨rfl,h⟩
 |(p,x,wx) :: r,C,h=>by
  simp only[qS]at h;obtain⟨h1,h⟩:=pX h;obtain⟨h2,h⟩:=yC h;refine⟨?_,h⟩;unfold DL at h2 ⊢;simp only[AI,h2,Bool.and_true];exact h1
theorem Xg{s:SS}{t:St}(hs:Le s t){o:Op}{loc:Bool}{id tag:Nat}(uf:small o=true)(h:∀x,(∃ty,o=.load ty x)\/(∃ty y,o=.store ty x y)\/(∃src dst,o=.convert src dst x)->(ev s x).isSome=true):dM o loc id tag t=Sm o loc id tag s:=by
 unfold dM Sm;cases hp:bN o with
 |true=>rfl
 |false=>
  simp only[cond_false];cases o<;>try rfl
  ·rename_i ty x
   have:=h x (.inl ⟨ty,rfl⟩);cases hv:ev s x with
   |none=>rw[hv]at this;cases this
   |some v=>
    simp only[hs.ev hv,hv];cases v<;>rfl
  ·rename_i ty x y
   have:=h x (.inr (.inl ⟨ty,y,rfl⟩));cases hv:ev s x with
   |none=>rw[hv]at this;cases this
   |some v=>
    simp only[hs.ev hv,hv];cases v<;>rfl
  ·rename_i src dst x
   have:=h x (.inr (.inr ⟨src,dst,rfl⟩));cases hv:ev s x with
   |none=>rw[hv]at this;cases this
   |some v=>
    simp only[hs.ev hv,hv];cases v<;>first|rfl|(rename_i a n c;cases a<;>rfl)
  ·rename_i c
   exfalso;have:bN (.call c)=true:=uf;rw[hp]at this;cases this
theorem Qk{mk:kB}{s:SS}{loc:Bool}{o:Op}{C:Value->SS->Prop}(h:wpOp P (bm (P ()) H F) mk loc o s C):∀x,(∃ty,o=.load ty x)\/(∃ty y,o=.store ty x y)\/(∃src dst,o=.convert src dst x)->(ev s x).isSome=true:=by
 rintro x (⟨ty,rfl⟩|⟨ty,y,rfl⟩|⟨src,dst,rfl⟩)
 ·simp only[wpOp]at h
  split at h
  ·rename_i a ha;rw[ha];rfl
  ·exact h.elim
 ·simp only[wpOp]at h
  split at h
  ·rename_i a v ha hv;rw[ha];rfl
  ·exact h.elim
 ·simp only[wpOp]at h
  split at h
  ·rename_i a n c ha;rw[ha];rfl
  ·rename_i a _ ha;rw[ha];rfl
  ·exact h.elim
theorem Kd{o:Op}{c:Call}(h:dN o=some c){loc:Bool}{id tag:Nat}{t:St}:dM o loc id tag t=.all/\iH o=false:=by
 unfold dN at h;split at h
 ·rename_i c'
  split at h
  ·rename_i x hx
   obtain⟨callee,args,tys⟩:=c';subst hx;exact⟨rfl,rfl⟩
  ·cases h
 ·cases h
theorem Ew{o:Op}(h:small o=false){loc:Bool}{id tag:Nat}{s:SS}{t:St}(hs:Le s t){mk:kB}{C:Value->SS->Prop}{h2:af}(hw:wpOp P (bm (P ()) H F) mk loc o { s with h:=h2 } C):dM o loc id tag t=Sm o loc id tag s/\iH o=false:=by
 unfold dM Sm;have hp:bN o=false:=by
  unfold small at h;split at h
  all_goals first|(cases h;done)|exact h
 rw[hp];simp only[cond_false];cases o<;>first|(simp[small]at h;done)|exact⟨rfl,rfl⟩|skip
 rename_i c;refine⟨?_,rfl⟩;obtain⟨callee,args,tys⟩:=c;cases callee<;>try rfl
 rename_i b;cases b<;>try rfl
 simp only[]
 congr 2
 simp only[wpOp]at hw;cases ha:args.toList with
 |nil=>rfl
 |cons x r=>
  rw[ha]at hw;have Zw:∀x,ev { s with h:=h2 } x=ev s x:=fun x=>by cases x<;>rfl
  simp only[zL,Zw]at hw;show bL t x=ev s x;cases hx:ev s x with
  |none=>rw[hx]at hw;exact hw.elim
  |some v=>exact hs.ev hx
theorem nf(hF:aY F){f:FuncId}{nt:Nat}{ops:Array Oper}{base aM:Nat}:∀(l:List Nat) (i:Nat) (s:SS) (t:St) (Q:SS->List (Nat×FP×Bool)->Prop),Le s t->t.h.low<=t.h.next->base<=t.h.next->kC P H (bm (P ()) H F) f nt ops base aM l i s Q->
  ∃n t' s' iv,rr (P ()) H (cE (P ()) H F n).call f nt ops base aM l i t=some (t',iv)/\Le s' t'/\Q s' iv
 | [],i,s,t,Q,hs,hl,hb,h=>⟨0,t,s,[],rfl,hs,h⟩
 |p :: rest,i,s,t,Q,hs,hl,hb,h=>by
  simp only[kC]at h;simp only[rr];split at h
  ·exact h.elim
  ·rename_i o Zx
   simp only[Zx];rcases yz hs h with ⟨hw,s1,gi,e1,e2,h⟩|⟨hw,s1,gi,e1,e2,h⟩
   ·simp only[hw]
    have ve:(t.fresh).h=(bm (P ()) H F).fresh s1.h:=by
     rw[<-gi.h];rfl
    split at h
    ·rename_i c hc
     split at h
     ·rename_i g args hg
      obtain⟨v,h',⟨n1,hr⟩,h⟩:=h.ex;have h:=yo h;have hk:bM t.h.next t.fresh.h h':=by
       have:=(gY hF n1).2.2 _ _ _ _ _ hr;rw[<-ve]at this;exact this
      have qJ:Le { s1 with h:=(bm (P ()) H F).aw s1.h h' } (St.aw { t with h:=h' } t.h.low):=⟨gi.env,gi.K,gi.kn,by show af.aw h' t.h.low=af.aw h' s1.h.low;rw[gi.h]⟩;obtain⟨t3,s3,hp,yA,h,eh⟩:=qJ.put h;have k2:bM base t.h t3.h:=by rw[eh];exact jr (s1:={ t with h:=h' }) (hk.mono hb)
      obtain⟨n2,t4,s4,iv,ho,zM,hQ⟩:=nf hF rest (i+1) s3 t3 _ yA (Nat.le_trans k2.low (Nat.le_trans hl k2.next)) (Nat.le_trans hb k2.next) h;refine⟨max n1 n2,t4,s4,_,?_,zM,hQ⟩;have oS:jA (P ()) H (cE (P ()) H F (max n1 n2)).call f (base+i) (aM+i) o t.fresh=some (v,{ t with h:=h' }):=by
       unfold jA;have Ql:Le { s1 with h:=t.fresh.h } t.fresh:=⟨gi.env,gi.K,gi.kn,rfl⟩;have vQ:jT (fun y=>aU+y) { s1 with h:=t.fresh.h } c=some (g,args):=by
        have Zw:∀x,ev { s1 with h:=t.fresh.h } x=ev s1 x:=fun x=>by cases x<;>rfl
        have aay:∀l,zL { s1 with h:=t.fresh.h } l=zL s1 l:=fun l=>by
         induction l with
         |nil=>rfl
         |cons x r ih=>simp only[zL,Zw,ih]
        have:=hg;unfold jT at this ⊢;simp only[Zw,aay];exact this
       have hca:kR t.fresh c=some (g,args):=Ql.callee vQ;simp only[hc,jF,hca];have:(cE (P ()) H F (max n1 n2)).call g args t.fresh.h=some (v,h'):=by
        rw[ve];exact(ke (Nat.le_max_left n1 n2)).call _ _ _ _ hr
       simp only[this];rfl
      simp only[oS,hp,qQ (ke (Nat.le_max_right n1 n2)).call _ _ _ _ ho];obtain⟨f1,f2⟩:=Kd (o:=o.op) hc (loc:=eO H f o) (id:=base+i) (tag:=aM+i) (t:=t);rw[f1,f2,Bool.false_or,gi.h];rfl
     ·exact h.elim
    ·rename_i hc
     rcases tq h with ⟨uf,h⟩|⟨uf,h⟩
     rotate_left
     ·have Ql:Le { s1 with h:=(bm (P ()) H F).fresh s1.h } t.fresh:=⟨gi.env,gi.K,gi.kn,ve⟩
      have kD:=h;obtain⟨v,t2,s2,ho,qJ,h⟩:=BZ (m:=t.fresh.newAt (base+i) (aM+i)) GU.id (t:=t.fresh) Ql (AW GU.id (base+i) (aM+i) _ t.fresh Ql) (.inr fun _=>rfl) h;have oS:∀n,jA (P ()) H (cE (P ()) H F n).call f (base+i) (aM+i) o t.fresh=some (v,t2):=by
       intro n;unfold jA;simp only[hc];exact ho
      have hk:bM base t.fresh.h t2.h:=uA (gY hF 0).2.2 hb (Nat.le_add_right _ _) (oS 0);have yA:Le { s2 with h:=(bm (P ()) H F).aw s1.h s2.h } (t2.aw t.h.low):=⟨qJ.env,qJ.K,qJ.kn,by
       show af.aw t2.h t.h.low=af.aw s2.h s1.h.low;rw[gi.h,show t2.h=s2.h from qJ.h]⟩
      obtain⟨t3,s3,hp,yA,h,eh⟩:=yA.put h;have k2:bM base t.h t3.h:=by rw[eh];exact jr hk
      obtain⟨n2,t4,s4,iv,Qi,zM,hQ⟩:=nf hF rest (i+1) s3 t3 _ yA (Nat.le_trans k2.low (Nat.le_trans hl k2.next)) (Nat.le_trans hb k2.next) h;refine⟨n2,t4,s4,_,?_,zM,hQ⟩;simp only[oS,hp,Qi];obtain⟨f1,f2⟩:=Ew uf (loc:=eO H f o) (id:=base+i) (tag:=aM+i) gi kD;rw[f1,f2,Bool.false_or,gi.h,show t2.h=s2.h from qJ.h];rfl
     have hX:=GU.aw t.h.low;have hsX:Le s1 (lJ (fun h=>h.aw t.h.low) t.fresh):=⟨gi.env,gi.K,gi.kn,by
      show af.aw t.fresh.h t.h.low=s1.h;rw[<-gi.h];have:Nat.min t.h.low t.h.next=t.h.low:=Nat.min_eq_left hl;show({ next:=t.h.next,low:=Nat.min t.h.low t.h.next,m:=t.h.m }:af)=t.h;rw[this]⟩
     have Si:=Qk h;obtain⟨v,t2,s2,ho,qJ,h⟩:=BZ (m:=t.fresh.newAt (base+i) (aM+i)) hX hsX (AW hX (base+i) (aM+i) s1 t.fresh hsX) (.inl uf) h;have oS:∀n,jA (P ()) H (cE (P ()) H F n).call f (base+i) (aM+i) o t.fresh=some (v,t2):=by
      intro n;unfold jA;simp only[hc];exact ho
     have hk:bM base t.fresh.h t2.h:=uA (gY hF 0).2.2 hb (Nat.le_add_right _ _) (oS 0);obtain⟨t3,s3,hp,yA,h,eh⟩:=Le.put (t:=t2.aw t.h.low) qJ h;have k2:bM base t.h t3.h:=by rw[eh];exact jr hk
     obtain⟨n2,t4,s4,iv,Qi,zM,hQ⟩:=nf hF rest (i+1) s3 t3 _ yA (Nat.le_trans k2.low (Nat.le_trans hl k2.next)) (Nat.le_trans hb k2.next) h;refine⟨n2,t4,s4,_,?_,zM,hQ⟩;simp only[oS,hp,Qi];rw[Xg gi uf Si];have JK:(iH o.op || Nat.blt t2.h.low t.h.next)=iH o.op:=by
      cases uj:iH o.op with
      |true=>rfl
      |false=>
       rw[Qj uf uj ho];exact cT (Nat.le_refl _)
     rw[JK];rfl
   ·simp only[hw]
    obtain⟨t3,s3,hp,yA,h,eh⟩:=gi.put h;obtain⟨n2,t4,s4,iv,Qi,zM,hQ⟩:=nf hF rest (i+1) s3 t3 _ yA (by rw[eh];exact hl) (by rw[eh];exact hb) h;refine⟨n2,t4,s4,_,?_,zM,hQ⟩;simp only[hp,Qi]
theorem Ke(hF:aY F){f:FuncId}{nt:Nat}{ops:Array Oper}{s:SS}{t:St}{Q:SS->Prop}(hs:Le s t)(hl:t.h.low<=t.h.next)(h:BW P H (bm (P ()) H F) f nt ops s Q) :
  ∃n t' s',rI (P ()) H (cE (P ()) H F n).call f nt ops t=some t'/\Le s' t'/\Q s':=by
 unfold BW at h;obtain⟨hd,h⟩:=kK h;have gi:Le { s with kn:=s.kn+ops.size,h:=s.h.aH ops.size } (t.jo ops.size):=⟨hs.env,hs.K,by show t.kn+ops.size=_;rw[hs.kn],by show af.aH t.h ops.size=_;rw[hs.h]⟩;obtain⟨n,t',s',iv,ho,qL,h⟩:=nf hF _ _ _ _ _ gi (by show t.h.low<=t.h.next+ops.size;omega) (by show s.h.next<=t.h.next+ops.size;rw[hs.h];omega) h;obtain⟨hf,h⟩:=yC h;refine⟨n,t',s',?_,qL,h⟩;unfold rI;have mD:rr (P ()) H (cE (P ()) H F n).call f nt ops t.h.next t.kn (fS ops) 0 (t.jo ops.size)=some (t',iv):=by
  rw[hs.h,hs.kn];exact ho
 have Mh:DL ops (t.h.next+ops.size) iv=true:=by rw[hs.h];exact hf
 simp only[hd,cond_true,mD,Mh]
theorem lK{α:Type}{b:Bool}{x y:α}(h:(bif b then some x else none)=some y):b=true/\x=y:=by
 cases b with
 |true=>exact⟨rfl,by simpa using h⟩
 |false=>cases h
theorem B3{α:Type}{b:Bool}{x:α}(h:b=true):(bif b then some x else none)=some x:=by rw[h];rfl
theorem Ey{f:FuncId}{c:Code}{kn:Nat}{s s0:SS}{t:St}(hs:Le s t)(h:Iu H f c kn s=some s0):∃t0,norm H f c kn t=some t0/\Le s0 t0/\t0.h=t.h:=by
 unfold Iu at h;unfold norm;split at h
 ·rename_i hk
  simp only[oi]at h;subst h;rw[hk];exact⟨t,rfl,hs,rfl⟩
 ·rename_i l hk
  rw[hk];obtain⟨hb,rfl⟩:=lK h
  ·simp only[Bool.and_eq_true]at hb
   have key:∀(ks:List Tmp) (acc:cQ Value) (i:Nat),(restrict t.env ks acc).get i=if i∈ks/\(t.env.get i).isSome then t.env.get i else acc.get i:=by
    intro ks
    induction ks with
    |nil=>intro acc i;simp[restrict]
    |cons k ks ih=>
     intro acc i;simp only[restrict];split
     ·rename_i v hv
      rw[ih,cQ.bO];by_cases e:k=i
      ·subst e;simp[hv]
      ·have:¬i=k:=fun h=>e h.symm
       simp[e,this]
     ·rename_i hv
      rw[ih];by_cases e:k=i
      ·subst e;simp[hv]
      ·have:¬i=k:=fun h=>e h.symm
       simp[this]
   refine⟨{ t with env:=restrict t.env l .leaf,kn:=kn },?_,⟨?_,fun i v hv=>hs.K i v (pW _ _ _ _ hv),rfl,hs.h⟩,?_⟩
   ·refine B3 ?_
    rw[show Nat.ble kn t.kn=true by rw[hs.kn];exact hb.1,Bool.true_and,List.all_eq_true];intro i hi;have h1:=List.all_eq_true.1 hb.2 i hi;split at h1
    ·rename_i v hv
     rw[key,if_pos ⟨hi,by rw[hs.env _ _ hv];rfl⟩,hs.env _ _ hv];exact h1
    ·cases h1
   ·intro i v hv
    have hm:∀(ks:List Tmp),lk (pT s.env ks) i=some v->i∈ks:=by
     intro ks
     induction ks with
     |nil=>intro h;cases h
     |cons k ks ih=>
      intro h;simp only[pT]at h;split at h
      ·rw[kV]at h
       by_cases e:k=i
       ·simp[e]
       ·rw[if_neg e]at h;simp[ih h]
      ·simp[ih h]
    have h2:=hs.env _ _ (pW _ _ _ _ hv);show(restrict t.env l .leaf).get i=some v;rw[key,if_pos ⟨hm _ hv,by rw[h2];rfl⟩];exact h2
   ·rfl
theorem vw{B:Nat}{h h':af}(k:bM B h h')(hl:h.low<=h.next):h'.low<=h'.next:=Nat.le_trans k.low (Nat.le_trans hl k.next)
theorem GZ(hF:aY F){f:FuncId}{fn:Func}{c0:Code}(zK:(P ()).funcs[f]?=some fn)(vj:fn.body=some c0):∀(c:Code) (s:SS) (t:St) (Q:Exit->SS->Prop),((∀b∈bG c,b∈bG c0)/\(∀r∈bJ c,r∈bJ c0))->Le s t->t.h.low<=t.h.next->wpS P H (bm (P ()) H F) V f fn.ntmps c s Q->∃x t' s',pS (P ()) H F f fn.ntmps c t x t'/\Le s' t'/\Q x s':=by
 have hrk:∀{c:Code} {t t':St} {x:Exit},pS (P ()) H F f fn.ntmps c t x t'->t.h.low<=t.h.next->t'.h.low<=t'.h.next:=by
  rintro c t t' x ⟨n,hn⟩ hl;exact vw ((gY hF n).1 _ _ _ _ _ _ hn) hl
 intro c
 induction c with
 |skip=>intro s t Q vg hs hl h;exact⟨_,_,_,pS.skip,hs,h⟩
 |ret=>intro s t Q vg hs hl h;exact⟨_,_,_,pS.ret,hs,h⟩
 |exit id=>intro s t Q vg hs hl h;exact⟨_,_,_,pS.exit,hs.fN _,h⟩
 |seq a b B4 sJ=>
  intro s t Q vg hs hl h;simp only[wpS]at h;obtain⟨x,t1,s1,h1,gi,h⟩:=B4 _ _ _ ⟨fun b hb=>vg.1 b (by simp only[bG,List.mem_append];exact .inl hb),fun b hb=>vg.2 b (by simp only[bJ,List.mem_append];exact .inl hb)⟩ hs hl h;unfold J9 at h;split at h
  ·obtain⟨y,t2,s2,h2,qJ,h⟩:=sJ _ _ _ ⟨fun b hb=>vg.1 b (by simp only[bG,List.mem_append];exact .inr hb),fun b hb=>vg.2 b (by simp only[bJ,List.mem_append];exact .inr hb)⟩ gi (hrk h1 hl) h
   exact⟨_,_,_,pS.seq h1 h2,qJ,h⟩
  ·rename_i hx
   exact⟨_,_,_,pS.TX h1 hx,gi,h⟩
 |cond x a b B4 sJ=>
  intro s t Q vg hs hl h;simp only[wpS]at h;split at h
  ·rename_i v hv
   rcases Iw h with ⟨rfl,h1⟩|⟨rfl,h1⟩
   ·obtain⟨y,t2,s2,h2,qJ,h3⟩:=B4 _ _ _ ⟨fun b hb=>vg.1 b (by simp only[bG,List.mem_append];exact .inl hb),fun b hb=>vg.2 b (by simp only[bJ,List.mem_append];exact .inl hb)⟩ hs hl h1
    exact⟨_,_,_,pS.cond (hs.ev hv) h2,qJ,h3⟩
   ·obtain⟨y,t2,s2,h2,qJ,h3⟩:=sJ _ _ _ ⟨fun b hb=>vg.1 b (by simp only[bG,List.mem_append];exact .inr hb),fun b hb=>vg.2 b (by simp only[bJ,List.mem_append];exact .inr hb)⟩ hs hl h1
    exact⟨_,_,_,pS.cond (hs.ev hv) h2,qJ,h3⟩
  ·exact h.elim
 |block id b sJ=>
  intro s t Q vg hs hl h;simp only[wpS]at h;obtain⟨x,t1,s1,h1,gi,h⟩:=sJ _ _ _ ⟨fun b hb=>vg.1 b hb,fun b hb=>vg.2 b hb⟩ hs hl h;have h0:=pS.block (id:=id) h1;cases x with
  |exit pD=>
   simp only[GR]at h h0;cases hb:Nat.beq pD id with
   |true=>rw[hb]at h h0;exact⟨_,_,s1,h0,gi,h⟩
   |false=>rw[hb]at h h0;exact⟨_,_,s1,h0,gi,h⟩
  |normal=>exact⟨_,_,s1,h0,gi,h⟩
  |ret=>exact⟨_,_,s1,h0,gi,h⟩
  |goto l=>exact⟨_,_,s1,h0,gi,h⟩
  |panic=>exact⟨_,_,s1,h0,gi,h⟩
  |outgrown=>exact⟨_,_,s1,h0,gi,h⟩
 |loop b sJ=>
  intro s t Q vg hs hl h;simp only[wpS]at h;split at h
  ·rename_i s0 hn
   obtain⟨t0,xq,Wh,eh⟩:=Ey hs hn;have hw:WH (P ()) H F f fn.ntmps b s.kn (cL.fN s0 (V.loop f (keyOf b))) Q:=h fn c0 b zK vj (vg.1 b (by simp[bG])) rfl;obtain⟨x,t',s',⟨n,hh⟩,qL,hQ⟩:=hw.ex t0 (Wh.fN _) (by rw[eh];exact hl);refine⟨x,t',s',pS.loop ⟨n+1,?_⟩,qL,hQ⟩;show pE H (cE (P ()) H F n) f fn.ntmps b t.kn t=_;unfold pE;rw[hs.kn,xq];exact hh
  ·exact h.elim
 |region id ops draw=>
  intro s t Q vg hs hl h;simp only[wpS]at h;cases draw with
  |true=>
   simp only[cond_true]at h;obtain⟨n,t',s',hd,qL,hQ⟩:=Ke hF (hs.fN _) hl h;refine⟨_,t',s',⟨n+1,?_⟩,qL,hQ⟩;show nN (P ()) H (cE (P ()) H F n) f fn.ntmps (.region id ops true) t=_;unfold nN;simp only[cond_true,hd]
  |false=>
   simp only[cond_false]at h;obtain⟨n,t',s',hd,qL,hQ⟩:=tr _ _ _ _ (hs.fN _) h;refine⟨_,t',s',⟨n+1,?_⟩,qL,hQ⟩;show nN (P ()) H (cE (P ()) H F n) f fn.ntmps (.region id ops false) t=_;unfold nN;simp only[cond_false,hd]
 |rangeFunc x ps as bo _ _=>
  intro s t Q vg hs hl h;have hw:WR (P ()) H F f fn.ntmps x ps as bo s Q:=h fn c0 x ps as bo zK vj (vg.2 _ (by simp[bJ])) rfl;exact hw.ex t hs hl
 |scope=>intro s t Q vg hs hl h;exact h.elim
 |label=>intro s t Q vg hs hl h;exact h.elim
 |goto=>intro s t Q vg hs hl h;exact h.elim
 |refuse=>intro s t Q vg hs hl h;exact h.elim
theorem WH.round(hF:aY F){f:FuncId}{fn:Func}{c0:Code}(zK:(P ()).funcs[f]?=some fn)(vj:fn.body=some c0){b:Code}(hb:b∈bG c0)(aaz:(∀b'∈bG b,b'∈bG c0)/\(∀r∈bJ b,r∈bJ c0)){kn:Nat}{s:SS}{Q:Exit->SS->Prop}(h:wj P H (bm (P ()) H F) V f fn.ntmps b kn s Q):WH (P ()) H F f fn.ntmps b kn s Q:=by
 refine⟨fun t hs hl=>?_⟩;unfold wj at h;obtain⟨x,t1,s1,⟨n1,h1⟩,gi,h⟩:=GZ hF zK vj _ _ _ _ aaz hs hl h;unfold J9 at h;have B5:t1.h.low<=t1.h.next:=vw ((gY hF n1).1 _ _ _ _ _ _ h1) hl;split at h
 ·split at h
  ·rename_i s2 hn
   obtain⟨t0,xq,Wh,eh⟩:=Ey gi hn;have hw:WH (P ()) H F f fn.ntmps b kn (cL.fN s2 (V.loop f (keyOf b))) Q:=h fn c0 b zK vj hb rfl;obtain⟨y,t',s',⟨n2,hh⟩,qL,hQ⟩:=hw.ex t0 (Wh.fN _) (by rw[eh];exact B5);refine⟨y,t',s',⟨max n1 (n2+1),?_⟩,qL,hQ⟩;rw[(ke (Nat.le_max_left n1 (n2+1))).run _ _ _ _ _ h1];simp only[];refine(ke (Nat.le_max_right n1 (n2+1))).loop _ _ _ _ _ _ ?_;show pE H (cE (P ()) H F n2) f fn.ntmps b kn t1=_;unfold pE;rw[xq];exact hh
  ·exact h.elim
 ·rename_i hx
  refine⟨x,t1,s1,⟨n1,?_⟩,gi,h⟩;rw[h1];cases x<;>first|rfl|exact absurd rfl hx
theorem Ad:∀(c b b':Code),b∈bG c->b'∈bG b->b'∈bG c:=by
 intro c
 induction c with
 |seq a b B4 sJ=>
  intro x y hx hy;simp only[bG,List.mem_append]at hx ⊢;exact hx.imp (fun h=>B4 _ _ h hy) (fun h=>sJ _ _ h hy)
 |cond _ a b B4 sJ=>
  intro x y hx hy;simp only[bG,List.mem_append]at hx ⊢;exact hx.imp (fun h=>B4 _ _ h hy) (fun h=>sJ _ _ h hy)
 |block _ b sJ=>intro x y hx hy;exact sJ _ _ hx hy
 |loop b sJ=>
  intro x y hx hy;simp only[bG,List.mem_cons]at hx ⊢;rcases hx with rfl|hx
  ·exact .inr hy
  ·exact .inr (sJ _ _ hx hy)
 |rangeFunc _ _ a b B4 sJ=>
  intro x y hx hy;simp only[bG,List.mem_append]at hx ⊢;exact hx.imp (fun h=>B4 _ _ h hy) (fun h=>sJ _ _ h hy)
 |_=>intro x y hx hy;simp[bG]at hx
theorem dh:∀(c:Code),bE c=true->bJ c=[]
 | .seq a b,h=>by simp only[bE,Bool.and_eq_true]at h;simp[bJ,dh a h.1,dh b h.2]
 | .cond _ a b,h=>by simp only[bE,Bool.and_eq_true]at h;simp[bJ,dh a h.1,dh b h.2]
 | .block _ b,h=>by simp only[bE]at h;simp[bJ,dh b h]
 | .loop b,h=>by simp only[bE]at h;simp[bJ,dh b h]
 | .rangeFunc _ _ _ _,h=>by simp[bE]at h
 | .skip,_=>rfl
 | .ret,_=>rfl
 | .exit _,_=>rfl
 | .region _ _ _,_=>rfl
 | .scope _,_=>rfl
 | .label _,_=>rfl
 | .goto _,_=>rfl
 | .refuse _,_=>rfl
def yD(r:Operand×Array Tmp×Code×Code):Prop:=bE r.2.2.1=true/\bE r.2.2.2=true
theorem Ez:∀(c b:Code),b∈bG c->(∀r∈bJ c,yD r)->∀r∈bJ b,r∈bJ c:=by
 intro c
 induction c with
 |seq a b B4 sJ=>
  intro x hx hp r hr;simp only[bG,List.mem_append]at hx;simp only[bJ,List.mem_append]at hp ⊢;exact hx.imp (fun h=>B4 _ h (fun r hr=>hp r (.inl hr)) r hr) (fun h=>sJ _ h (fun r hr=>hp r (.inr hr)) r hr)
 |cond _ a b B4 sJ=>
  intro x hx hp r hr;simp only[bG,List.mem_append]at hx;simp only[bJ,List.mem_append]at hp ⊢;exact hx.imp (fun h=>B4 _ h (fun r hr=>hp r (.inl hr)) r hr) (fun h=>sJ _ h (fun r hr=>hp r (.inr hr)) r hr)
 |block _ b sJ=>intro x hx hp r hr;exact sJ _ hx hp r hr
 |loop b sJ=>
  intro x hx hp r hr;simp only[bG,List.mem_cons]at hx;rcases hx with rfl|hx
  ·exact hr
  ·exact sJ _ hx hp r hr
 |rangeFunc x0 ps a b B4 sJ=>
  intro x hx hp r hr;obtain⟨h1,h2⟩:=hp (x0,ps,a,b) (by simp[bJ]);simp only[bG,List.mem_append]at hx;exfalso;rcases hx with hx|hx
  ·have:=B4 x hx (fun r hr=>by rw[dh a h1]at hr;cases hr) r hr
   rw[dh a h1]at this;cases this
  ·have:=sJ x hx (fun r hr=>by rw[dh b h2]at hr;cases hr) r hr
   rw[dh b h2]at this;cases this
 |_=>intro x hx hp r hr;simp[bG]at hx
def mJ:List (Nat×Value)->List Tmp->List Value->List (Nat×Value)
 |e,t :: ts,v :: vs=>mJ ((t,v) :: e) ts vs
 |e,_,_=>e
theorem yF{s:SS}{t:St}(hs:Le s t):∀(r:List ResultVar) (C:List Value->Prop),oN P (bm (P ()) H F) s r C->∃l,vO (P ()) t r=some l/\C l
 | [],C,h=>⟨[],rfl,h⟩
 | .tmp i :: r,C,h=>by
  simp only[oN]at h;simp only[vO];split at h
  ·rename_i v hv
   obtain⟨l,hl,hC⟩:=yF hs r _ h;simp only[hs.env _ _ hv,hl];exact⟨_,rfl,hC⟩
  ·exact h.elim
 | .cell a ty :: r,C,h=>by
  simp only[oN]at h;simp only[vO];split at h
  ·rename_i x hx
   obtain⟨v,hv,h⟩:=AV GU.id (t:=t) hs h;obtain⟨l,hl,hC⟩:=yF hs r _ h;simp only[hs.env _ _ hx,hv,hl];exact⟨_,rfl,hC⟩
  ·exact h.elim
theorem B6:∀(l:List Value) (i:Nat) (acc:List (Nat×Value)),fI l i (E acc)=E (rO l i acc)
 | [],i,acc=>rfl
 |v :: r,i,acc=>by
  simp only[fI,rO];exact B6 r (i+1) ((i,v) :: acc)
theorem Iy(s:SS):Le s ⟨E s.env,s.kn,E s.K,s.h⟩:=⟨fun i v h=>by rw[Sn];exact h,fun i v h=>by rw[Sn];exact h,rfl,rfl⟩
theorem WC.body(hF:aY F){g:FuncId}{fn:Func}{args:List Value}{h:af}{Q:Value->af->Prop}(hg:g<aU)(hf:(P ()).funcs[g]?=some fn)(hn:F g args h=none)(hl:h.low<=h.next)(hw:Et P H (bm (P ()) H F) V g fn args h Q):WC (P ()) H F g args h Q:=by
 unfold Et at hw;split at hw
 ·rename_i c hb
  obtain⟨x,t',s',hr,qL,hQ⟩:=GZ hF hf hb c _ _ _ ⟨fun _ h=>h,fun _ h=>h⟩ (Iy ⟨rO args 0 [],0,[],h⟩) hl hw;have yG:pS (P ()) H F g fn.ntmps c { env:=fI args 0 .leaf,kn:=0,K:=.leaf,h:=h } x t':=by
   have e:=B6 args 0 [];simp only[E]at e;rw[e];exact hr
  have fin:∀(C:List Value->Prop),(∀l,C l->l.all dn=true/\Q (jn l) s'.h)->oN P (bm (P ()) H F) s' fn.results.toList C->∃v h',vP (P ()) fn t'=some (v,h')/\Q v h':=by
   intro C hC zY;obtain⟨l,DT,hc⟩:=yF qL _ _ zY;obtain⟨h1,h2⟩:=hC l hc;refine⟨_,_,?_,h2⟩;unfold vP;simp only[DT,h1,cond_true,qL.h]
  unfold T2 at hQ;split at hQ
  ·obtain⟨v,h',he,hq⟩:=fin _ (fun l hl=>kK hl) hQ
   exact⟨⟨v,h',Pu.body hn hg hf hb yG (.inl rfl) he,hq⟩⟩
  ·obtain⟨v,h',he,hq⟩:=fin _ (fun l hl=>kK hl) hQ
   exact⟨⟨v,h',Pu.body hn hg hf hb yG (.inr rfl) he,hq⟩⟩
  ·exact hQ.elim
 ·exact hw.elim
structure AOK(P:Unit->Program)(H:Hint)(F:bg)(A:bI):Prop where
 eq:A=bm (P ()) H F
 dF:aY F
theorem AOK.body{A:bI}(hA:AOK P H F A)(V:Live){g:FuncId}{fn:Func}{args:List Value}{h:af}{Q:Value->af->Prop}(hg:g<aU)(hf:(P ()).funcs[g]?=some fn)(hn:F g args h=none)(hl:h.low<=h.next)(hw:Et P H A V g fn args h Q):A.call g args h Q:=by
 have e:=hA.eq;subst e;exact WC.body hA.dF hg hf hn hl hw
theorem AOK.round{A:bI}(hA:AOK P H F A)(V:Live){f:FuncId}{fn:Func}(zK:(P ()).funcs[f]?=some fn){key kn:Nat}{s:SS}{Q:Exit->SS->Prop}(hw:BX P H A V f fn key kn s Q):A.head f key kn s Q:=by
 have e:=hA.eq;subst e;intro R7 c b h1 h2 h3 h4;rw[zK]at h1;obtain rfl:=Option.some.inj h1;unfold BX at hw;rw[h2]at hw;simp only[]at hw;have hm:b∈(bG c).filter (fun b=>Nat.beq (keyOf b) key):=by
  rw[List.mem_filter];exact⟨h3,by subst h4;simp⟩
 split at hw
 ·rename_i b' vl
  rw[vl]at hm;simp only[List.mem_singleton]at hm;subst hm;exact WH.round hA.dF zK h2 h3 ⟨fun b' vl=>Ad _ _ _ h3 vl,Ez _ _ h3 hw.1⟩ hw.2
 ·exact hw.elim
theorem AOK.M4{A:bI}(hA:AOK P H F A){g:FuncId}{args:List Value}{h h':af}{v:Value}{Q:Value->af->Prop}(hp:F g args h=some (v,h'))(hq:Q v h')(hg:g<aU:=by decide):A.call g args h Q:=by
 have e:=hA.eq;subst e;exact⟨⟨v,h',⟨1,by simp only[cE,oK,show Nat.ble aU g=false from eQ hg,cond_false,hp]⟩,hq⟩⟩
