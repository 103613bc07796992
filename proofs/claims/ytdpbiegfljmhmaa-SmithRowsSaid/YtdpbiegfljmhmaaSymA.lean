import Derived.Test.YtdpbiegfljmhmaaSimD
set_option linter.unusedSimpArgs false
set_option linter.unusedVariables false
namespace Go.Sim
def E{α:Type}:List (Nat×α)->cg α
 | []=>.leaf
 |(t,v) :: l=>(E l).set t v
def lk{α:Type}:List (Nat×α)->Nat->Option α
 | [],_=>none
 |(a,v) :: l,t=>bif Nat.beq a t then some v else lk l t
def mK{α:Type}(l:List (Nat×α)):List Nat->List (Nat×α)
 | []=>[]
 |t :: r=>
  match lk l t with
  |some v=>(t,v) :: mK l r
  |none=>mK l r
structure SS where
 env:List (Nat×Value)
 kn:Nat
 K:List (Nat×List Value)
 h:af
structure Le(s:SS)(t:St):Prop where
 env:∀(i:Nat) (v:Value),lk s.env i=some v->t.env.get i=some v
 K:∀(i:Nat) (v:List Value),lk s.K i=some v->t.K.get i=some v
 kn:t.kn=s.kn
 h:t.h=s.h
structure kR where
 loop:FuncId->Nat->Option (List Tmp)
 blk:FuncId->Nat->Option (List Tmp)
 reg:FuncId->Nat->Option (List Tmp)
def mh(b:Bool)(x y:Unit->Prop):Prop:=
 match b with
 |true=>x ()
 |false=>y ()
def pruned(s:SS):Option (List Tmp)->SS
 |none=>s
 |some l=>{ s with env:=mK s.env l }
inductive Sv where
 |int (k:IntKind)
 |bool
 |str
 |slice
 |ptr
 |any
def yB:Option TypeDesc->Sv
 |some (.int k)=>.int k
 |some .bool=>.bool
 |some .string=>.str
 |some (.slice _)=>.slice
 |some (.pointer _)=>.ptr
 |_=>.any
def dJ(P:Unit->Program):Nat->TypeId->List Sv
 |0,_=>[]
 |d+1,t=>
  match (P ()).underlying t with
  |some (.struct fs)=>fs.toList.flatMap fun f=>dJ P d f.type
  |some (.array n e)=>(List.replicate n (dJ P d e)).flatten
  |x=>[yB x]
def KV:Sv->(Value->Prop)->Prop
 | .int k,C=>∃n:Int,C (.int k n)
 | .bool,C=>∃b:Bool,C (.bool b)
 | .str,C=>∃s:ByteArray,C (.string s)
 | .slice,C=>∃(a:Option Addr) (n c:Nat),C (.slice a n c)
 | .ptr,C=>∃b o:Nat,C (.pointer (some ⟨b,o,none⟩))
 | .any,C=>∃v:Value,C v
def KO:List Sv->(List Value->Prop)->Prop
 | [],C=>C []
 |s :: r,C=>KV s fun v=>KO r fun l=>C (v :: l)
def Jx(P:Unit->Program)(t:TypeId)(C:Value->Prop):Prop:=
 match gB (P ()) t with
 |some true=>KO (dJ P 12 t) fun l=>C (.agg l.toArray)
 |_=>KV (yB ((P ()).underlying t)) C
def Gy(P:Unit->Program):List TypeId->(List Value->Prop)->Prop
 | [],C=>C []
 |t :: r,C=>Jx P t fun v=>Gy P r fun l=>C (v :: l)
def GE(P:Unit->Program)(t:TypeId)(v:Value)(C:Value->Prop):Prop:=
 match (P ()).underlying t with
 |some (.tuple ts)=>Gy P ts.toList fun l=>v=.tuple l.toArray/\C (.tuple l.toArray)
 |_=>Jx P t fun u=>v=u/\C u
structure WC(P:Program)(H:bg)(F:aM)(g:FuncId)(args:List Value)(h:af)(Q:Value->af->Prop):Prop where
 ex:∃v h',Hy P H F g args h v h'/\Q v h'
def Lg(P:Program)(H:bg)(F:aM)(f:FuncId)(nt:Nat)(b:Code)(kn:Nat)(s:St)(x:Exit)(s':St):Prop:=
 ∃n,(match (bR P H F n).run f nt b s with
  |some (.normal,s1)=>(bR P H F n).loop f nt b kn s1
  |r=>r)=some (x,s')
structure WH(P:Program)(H:bg)(F:aM)(f:FuncId)(nt:Nat)(b:Code)(kn:Nat)(s:SS)(Q:Exit->SS->Prop):Prop where
 ex:∀t,Le s t->t.h.low<=t.h.next->∃x t' s',Lg P H F f nt b kn t x t'/\Le s' t'/\Q x s'
def be:Code->List Code
 | .seq a b=>be a++be b
 | .cond _ a b=>be a++be b
 | .block _ b=>be b
 | .loop b=>b :: be b
 | .rangeFunc _ _ a b=>be a++be b
 |_=>[]
def bk:Code->List (Operand×Array Tmp×Code×Code)
 | .seq a b=>bk a++bk b
 | .cond _ a b=>bk a++bk b
 | .block _ b=>bk b
 | .loop b=>bk b
 | .rangeFunc x ps a b=>[(x,ps,a,b)]
 |_=>[]
structure WR(P:Program)(H:bg)(F:aM)(f:FuncId)(nt:Nat)(x:Operand)(ps:Array Tmp)(as bo:Code)(s:SS)(Q:Exit->SS->Prop):Prop where
 ex:∀t,Le s t->t.h.low<=t.h.next->∃e t' s',mX P H F f nt (.rangeFunc x ps as bo) t e t'/\Le s' t'/\Q e s'
structure bj where
 call:FuncId->List Value->af->(Value->af->Prop)->Prop
 head:FuncId->Nat->Nat->SS->(Exit->SS->Prop)->Prop
 arith:BinOp->IntKind->Int->Int->Int
 cmp:BinOp->Int->Int->Bool
 scmp:BinOp->ByteArray->ByteArray->Bool
 bnot:Bool->Bool
 bsame:Bool->Bool->Bool
 conv:IntKind->Int->Int
 neg:IntKind->Int->Int
 imax:Int->Int->Int
 imin:Int->Int->Int
 ofNat:Nat->Int
 slen:ByteArray->Int
 place:Nat->Int->Nat->Nat
 inR:Int->Nat->Prop
 nz:Int->Prop
 geZ:Int->Prop
 rd:af->Nat->Nat->Nat->List Value->Prop
 wr:af->Nat->Nat->List Value->af->Prop
 push:af->Nat->List Value->af
 next:af->Nat
 mkOK:Int->Int->Prop
 nat:Int->Nat
 zeros:List Value->Int->List Value
 sadd:ByteArray->ByteArray->(ByteArray->Prop)->Prop
 eqAgg:TypeId->Array Value->Array Value->(Bool->Prop)->Prop
 cut:Nat->Int->Prop
 slc:TypeId->Value->Option Value->Option Value->Option Value->(Option Addr->Nat->Nat->Prop)->Prop
 sslc:TypeId->ByteArray->Option Value->Option Value->(ByteArray->Prop)->Prop
 strAt:ByteArray->Int->(Int->Prop)->Prop
 part:TypeId->Array Value->Nat->Value->Prop
 app:List TypeId->List Value->af->(Option Addr->Nat->Nat->af->Prop)->Prop
 cpy:List TypeId->List Value->af->(Int->af->Prop)->Prop
 putAt:af->Nat->Nat->List Value->af
 fresh:af->af
 lowered:af->af->af
 bump:af->Nat->af
 wrote:af->af->Bool
 addN:Nat->Nat->Nat
 lt:Nat->Nat->Prop
 ne:Nat->Nat->Prop
 fpAll:Bool->Bool->Bool->Nat->Nat->Prop
 fpApp:Bool->Bool->Bool->Nat->Nat->Nat->Prop
 brk:(Unit->Prop)->Prop
 yn:Nat->Nat
 rng:FuncId->Nat->SS->(Exit->SS->Prop)->Prop
 mget:TypeId->Value->Value->af->Value->Bool->Prop
 mput:TypeId->Value->Value->Value->af->af->Prop
 mnew:af->af
 bytes:TypeId->TypeId->Option Addr->Nat->af->ByteArray->Prop
 clr:List TypeId->List Value->af->af->Prop
def af.putAt(h:af)(id es:Nat)(cs:List Value):af:={ h with m:=h.m.set id (.live true es cs) }
def af.freshed(h:af):af:={ h with low:=h.next }
def af.lowered(h:af)(low:Nat):af:={ h with low:=Nat.min low h.low }
def af.bump(h:af)(n:Nat):af:={ h with next:=h.next+n }
def Jz(op:BinOp)(k:IntKind)(a b:Int):Int:=
 match op with
 | .add=>k.wrap (a+b)
 | .sub=>k.wrap (a-b)
 | .mul=>k.wrap (a*b)
 | .quo=>k.wrap (a.tdiv b)
 | .rem=>a.tmod b
 | .and=>k.wrap (BitVec.ofInt k.bits a &&& BitVec.ofInt k.bits b).toNat
 | .or=>k.wrap (BitVec.ofInt k.bits a ||| BitVec.ofInt k.bits b).toNat
 | .xor=>k.wrap (BitVec.ofInt k.bits a ^^^ BitVec.ofInt k.bits b).toNat
 | .andNot=>k.wrap (BitVec.ofInt k.bits a &&& ~~~ BitVec.ofInt k.bits b).toNat
 | .shl=>k.wrap (a*2 ^ (min b.toNat k.bits))
 | .shr=>a.fdiv (2 ^ (min b.toNat k.bits))
 |_=>0
def Lq(op:BinOp)(a b:Int):Bool:=
 match op with
 | .eql=>a == b
 | .neq=>a != b
 | .lss=>decide (a<b)
 | .leq=>decide (a<=b)
 | .gtr=>decide (a>b)
 | .geq=>decide (a≥b)
 |_=>false
def Lj(op:BinOp)(x y:ByteArray):Bool:=
 match op with
 | .eql=>x.toList == y.toList
 | .neq=>!(x.toList == y.toList)
 | .lss=>Op.bytesLess x.toList y.toList
 | .leq=>Op.bytesLess x.toList y.toList || x.toList == y.toList
 | .gtr=>!(Op.bytesLess x.toList y.toList || x.toList == y.toList)
 | .geq=>!(Op.bytesLess x.toList y.toList)
 |_=>false
def aT(P:Program)(H:bg)(F:aM):bj where
 call:=WC P H F
 head:=fun f key kn s Q=>∀fn c b,P.funcs[f]?=some fn->fn.body=some c->b∈be c->cX b=key->WH P H F f fn.ntmps b kn s Q
 arith:=Jz
 cmp:=Lq
 scmp:=Lj
 bnot:=fun b=>!b
 bsame:=fun a b=>a == b
 conv:=fun k n=>k.wrap n
 neg:=fun k n=>k.wrap (0-n)
 imax:=fun x y=>if y>x then y else x
 imin:=fun x y=>if y<x then y else x
 ofNat:=fun n=>n
 slen:=fun s=>s.size
 place:=fun o i n=>o+i.toNat*n
 inR:=fun i n=>0<=i/\i<n
 nz:=fun b=>b≠0
 geZ:=fun b=>0<=b
 rd:=fun h b o n l=>h.readG ⟨b,o,none⟩ n=some l
 wr:=fun h b o vs h'=>h.write b o vs=some h'
 push:=fun h es cs=>h.push es cs
 next:=fun h=>h.next
 mkOK:=fun l c=>0<=l/\l<=c/\c<=1073741824
 nat:=fun i=>i.toNat
 zeros:=fun z c=>aZ z c.toNat
 sadd:=fun a b C=>a.size+b.size<=1073741824/\C (a++b)
 eqAgg:=fun t a b C=>P.eqGuardType P.depth t=false/\∃r,mG P 30 t (.agg a) (.agg b)=some r/\C r
 cut:=fun c j=>0<=j/\j<=bW c
 slc:=fun t x lo hi mx C=>∃a' n' c',fx P t x lo hi mx=some (.slice a' n' c')/\C a' n' c'
 sslc:=fun t x lo hi C=>∃r,fx P t (.string x) lo hi none=some (.string r)/\C r
 strAt:=fun s i C=>0<=i/\∃b:UInt8,s[i.toNat]?=some b/\C b.toNat
 part:=fun t cs o v=>je P t cs o=some v
 app:=fun ts l h C=>∃a n c h',bO P h ts l=some (.slice a n c,h')/\C a n c h'
 cpy:=fun ts l h C=>∃n h',pE P h ts l=some (.int .i64 n,h')/\C n h'
 putAt:=af.putAt
 fresh:=af.freshed
 lowered:=fun h h'=>h'.lowered h.low
 bump:=af.bump
 wrote:=fun h h'=>Nat.blt h'.low h.next
 addN:=fun a b=>a+b
 lt:=fun a b=>a<b
 ne:=fun a b=>a≠b
 fpAll:=fun wx wy l b lim=>wx=false/\wy=false/\(l=true\/b<lim)
 fpApp:=fun wx wy l b lim c=>wx=false/\(wy=false\/b≠c)/\(l=true\/b<lim)
 brk:=fun f=>f ()
 yn:=fun y=>aN+y
 rng:=fun f key s Q=>∀fn c x ps as bo,P.funcs[f]?=some fn->fn.body=some c->(x,ps,as,bo)∈bk c->cX as=key->WR P H F f fn.ntmps x ps as bo s Q
 mget:=fun t m k h v b=>jo P h t m k true=some (.tuple #[v,.bool b],h)
 mput:=fun t m k v h h'=>jp P h t m k v=some (undef,h')
 mnew:=fun h=>h.pushB (.map [])
 bytes:=fun src dst a n h s=>ms P h src dst a n=some (.string s)
 clr:=fun ts l h h'=>o8 P h ts l=some (undef,h')
def ev(s:SS):Operand->Option Value
 | .tmp t=>lk s.env t
 | .const v=>bif flat v then some v else none
 | .global _=>none
 | .func f=>some (.func (.func f) #[] #[])
def evs(s:SS):List Operand->Option (List Value)
 | []=>some []
 |x :: r=>
  match ev s x with
  |some v=>
   match evs s r with
   |some l=>some (v :: l)
   |none=>none
  |none=>none
def nj(s:SS):Option Operand->Option (Option Value)
 |none=>some none
 |some x=>
  match ev s x with
  |some v=>some (some v)
  |none=>none
def iH(s:SS):List (Nat×Operand)->Option (List (Nat×Value))
 | []=>some []
 |(i,x) :: r=>
  match ev s x with
  |some v=>
   match iH s r with
   |some l=>some ((i,v) :: l)
   |none=>none
  |none=>none
abbrev i7:=Bool->Nat->List Value->SS->(Value->SS->Prop)->Prop
def HT(A:bj):i7:=fun loc es cs s C=>
 mh loc (fun _=>C (.pointer (some ⟨s.kn,0,some 0⟩)) { s with kn:=s.kn+1,K:=(s.kn,cs) :: s.K })
  (fun _=>C (.pointer (some ⟨A.next s.h,0,none⟩)) { s with h:=A.push s.h es cs })
def qU(A:bj)(id tag:Nat):i7:=fun loc es cs s C=>
 mh loc (fun _=>C (.pointer (some ⟨tag,0,some 0⟩)) { s with K:=(tag,cs) :: s.K })
  (fun _=>C (.pointer (some ⟨id,0,none⟩)) { s with h:=A.putAt s.h id es cs })
def kp(A:bj)(s:SS)(a:Addr)(n:Nat)(views:List Sv)(C:List Value->Prop):Prop:=
 match a.spot with
 |none=>KO views fun l=>A.rd s.h a.block a.off n l/\C l
 |some _=>
  bif Nat.blt a.block s.kn then
   match lk s.K a.block with
   |some cs=>
    match iS cs a.off n with
    |some l=>C l
    |none=>False
   |none=>False
  else False
def nF(P:Unit->Program)(A:bj)(s:SS)(t:TypeId)(a:Addr)(C:Value->Prop):Prop:=
 match gB (P ()) t with
 |some true=>
  match bI (P ()) t with
  |some n=>kp A s a n (dJ P 12 t) fun l=>C (.agg l.toArray)
  |none=>False
 |some false=>kp A s a 1 [yB ((P ()).underlying t)] fun l=>
  match l with
  | [v]=>C v
  |_=>False
 |none=>False
def sS(A:bj)(s:SS)(a:Addr)(vs:List Value)(C:SS->Prop):Prop:=
 bif vs.all aA then
  match a.spot with
  |none=>∃h',A.wr s.h a.block a.off vs h'/\C { s with h:=h' }
  |some _=>
   bif Nat.blt a.block s.kn then
    match lk s.K a.block with
    |some cs=>
     match kB cs a.off vs with
     |some cs'=>C { s with K:=(a.block,cs') :: s.K }
     |none=>False
    |none=>False
   else False
 else False
def sF(P:Unit->Program)(A:bj)(s:SS)(t:TypeId)(a:Addr)(v:Value)(C:SS->Prop):Prop:=
 match bI (P ()) t with
 |some n=>bif Nat.beq v.cells.toList.length n then sS A s a v.cells.toList C else False
 |none=>False
def fU(k k':IntKind):Bool:=decide (k=k')
def F7(A:bj)(op:BinOp)(k k':IntKind)(a b:Int)(C:Value->Prop):Prop:=
 match op with
 | .shl=>A.geZ b/\A.brk fun _=>C (.int k (A.arith .shl k a b))
 | .shr=>A.geZ b/\A.brk fun _=>C (.int k (A.arith .shr k a b))
 | .quo=>bif fU k k' then(A.nz b/\A.brk fun _=>C (.int k (A.arith .quo k a b)))else False
 | .rem=>bif fU k k' then(A.nz b/\A.brk fun _=>C (.int k (A.arith .rem k a b)))else False
 | .add=>bif fU k k' then C (.int k (A.arith .add k a b))else False
 | .sub=>bif fU k k' then C (.int k (A.arith .sub k a b))else False
 | .mul=>bif fU k k' then C (.int k (A.arith .mul k a b))else False
 | .and=>bif fU k k' then C (.int k (A.arith .and k a b))else False
 | .or=>bif fU k k' then C (.int k (A.arith .or k a b))else False
 | .xor=>bif fU k k' then C (.int k (A.arith .xor k a b))else False
 | .andNot=>bif fU k k' then C (.int k (A.arith .andNot k a b))else False
 | .eql=>bif fU k k' then C (.bool (A.cmp .eql a b))else False
 | .neq=>bif fU k k' then C (.bool (A.cmp .neq a b))else False
 | .lss=>bif fU k k' then C (.bool (A.cmp .lss a b))else False
 | .leq=>bif fU k k' then C (.bool (A.cmp .leq a b))else False
 | .gtr=>bif fU k k' then C (.bool (A.cmp .gtr a b))else False
 | .geq=>bif fU k k' then C (.bool (A.cmp .geq a b))else False
def ES(A:bj)(op:BinOp)(a b:ByteArray)(C:Value->Prop):Prop:=
 match op with
 | .add=>A.sadd a b fun c=>C (.string c)
 | .eql=>C (.bool (A.scmp .eql a b))
 | .neq=>C (.bool (A.scmp .neq a b))
 | .lss=>C (.bool (A.scmp .lss a b))
 | .leq=>C (.bool (A.scmp .leq a b))
 | .gtr=>C (.bool (A.scmp .gtr a b))
 | .geq=>C (.bool (A.scmp .geq a b))
 |_=>False
def Gg(P:Unit->Program)(A:bj)(op:BinOp)(t:TypeId)(x y:Value)(C:Value->Prop):Prop:=
 match x,y with
 | .int k a,.int k' b=>F7 A op k k' a b C
 | .string a,.string b=>ES A op a b C
 | .bool a,.bool b=>
  match op,(P ()).underlying t with
  | .eql,some .bool=>C (.bool (A.bsame a b))
  | .neq,some .bool=>C (.bool (A.bnot (A.bsame a b)))
  |_,_=>False
 | .agg a,.agg b=>
  match op with
  | .eql=>A.eqAgg t a b fun r=>C (.bool r)
  | .neq=>A.eqAgg t a b fun r=>C (.bool (A.bnot r))
  |_=>False
 |x,y=>
  match vc (P ()) op t x y with
  |some v=>C v
  |none=>False
def Ko(A:bj)(op:UnOp)(x:Value)(C:Value->Prop):Prop:=
 match op,x with
 | .neg,.int k n=>C (.int k (A.neg k n))
 | .not,.bool b=>C (.bool (A.bnot b))
 |op,x=>
  match KZ op x with
  |some v=>C v
  |none=>False
def wP(P:Unit->Program)(A:bj)(src dst:TypeId)(x:Value)(C:Value->Prop):Prop:=
 match (P ()).underlying src,(P ()).underlying dst,x with
 |some _,some (.int k),.int _ n=>C (.int k (A.conv k n))
 |some _,some .string,.string s=>C (.string s)
 |_,_,_=>False
def tv(P:Unit->Program)(A:bj)(t:TypeId)(x:Value)(C:Value->Prop):Prop:=
 match (P ()).underlying t,x with
 |some .string,.string s=>C (.int .i64 (A.slen s))
 |some (.array n _),_=>C (.int .i64 (A.ofNat n))
 |some (.slice _),.slice _ n _=>C (.int .i64 (A.ofNat n))
 |some (.pointer e),_=>
  match (P ()).underlying e with
  |some (.array n _)=>C (.int .i64 (A.ofNat n))
  |_=>False
 |_,_=>False
def k9(f:Int->Int->Int):Value->List Value->(Value->Prop)->Prop
 |x,[],C=>C x
 | .int k x,.int _ y :: r,C=>k9 f (.int k (f x y)) r C
 |_,_,_=>False
def sK(P:Unit->Program)(A:bj)(t:TypeId)(x:Value)(lo hi mx:Option Value)(C:Value->Prop):Prop:=
 match (P ()).underlying t,x with
 |some .string,.string s=>
  match mx with
  |none=>A.sslc t s lo hi fun r=>C (.string r)
  |some _=>False
 |some (.slice e),.slice a n c=>
  match lo,hi,mx with
  |none,some (.int _ j),none=>bif (bI (P ()) e).isSome then(A.cut c j/\A.brk fun _=>C (.slice a (A.nat j) c))else False
  |lo,hi,mx=>A.slc t (.slice a n c) lo hi mx fun a' n' c'=>C (.slice a' n' c')
 |some (.array _ _),.pointer (some a)=>A.slc t (.pointer (some a)) lo hi mx fun a' n' c'=>C (.slice a' n' c')
 |_,_=>False
def iR(P:Unit->Program)(A:bj)(t:TypeId)(x ix:Value)(C:Value->Prop):Prop:=
 match (P ()).underlying t,x,ix with
 |some (.array len e),.pointer (some a),.int _ i=>
  match bI (P ()) e with
  |some n=>A.inR i len/\A.brk fun _=>C (.pointer (some ⟨a.block,A.place a.off i n,a.spot⟩))
  |none=>False
 |some (.slice e),.slice a len _,.int _ i=>
  match bI (P ()) e with
  |some n=>∃b o,a=some ⟨b,o,none⟩/\A.inR i len/\C (.pointer (some ⟨b,A.place o i n,none⟩))
  |none=>False
 |_,_,_=>False
def kh(P:Unit->Program)(A:bj)(t:TypeId)(x:Value)(f:Nat)(C:Value->Prop):Prop:=
 match (P ()).underlying t,x with
 |some (.struct fs),.pointer (some a)=>
  match fs.toList[f]? with
  |some fd=>
   match bI (P ()) fd.type with
   |some n=>bif Nat.beq n 0 then False else
    match a.spot with
    |none=>C (.pointer (some ⟨a.block,A.addN a.off fd.offset,none⟩))
    |some x=>C (.pointer (some ⟨a.block,a.off+fd.offset,some x⟩))
   |none=>False
  |none=>False
 |_,_=>False
def yi(P:Unit->Program)(A:bj)(t:TypeId)(x ix:Value)(C:Value->Prop):Prop:=
 match (P ()).underlying t,x,ix with
 |some (.array len e),.agg cs,.int _ i=>
  match bI (P ()) e with
  |some n=>A.inR i len/\Jx P e fun v=>A.part e cs (A.place 0 i n) v/\C v
  |none=>False
 |some .string,.string s,.int _ i=>A.strAt s i fun b=>C (.int .u8 b)
 |_,_,_=>False
def j7(P:Unit->Program)(A:bj)(mk:i7)(t:TypeId)(l c:Value)(s:SS)(C:Value->SS->Prop):Prop:=
 match (P ()).underlying t,l,c with
 |some (.slice e),.int _ l,.int _ c=>
  match bI (P ()) e,fS (P ()) e,m7 (P ()) e with
  |some n,some z,some by_=>
   bif Nat.ble by_ 16384 && Nat.beq z.cells.toList.length n && z.cells.toList.all aA then
    A.mkOK l c/\A.brk fun _=>mk false n (A.zeros z.cells.toList c) s fun v s'=>
     match v with
     | .pointer (some a)=>C (.slice (some a) (A.nat l) (A.nat c)) s'
     |_=>False
   else False
  |_,_,_=>False
 |_,_,_=>False
def jq(P:Unit->Program)(mk:i7)(t:TypeId)(len:Nat)(parts:List (Nat×Value))(s:SS)(C:Value->SS->Prop):Prop:=
 match (P ()).underlying t with
 |some (.slice e)=>
  match bI (P ()) e,fS (P ()) e with
  |some n,some z=>
   bif Nat.ble (len*n) 16777216 && Nat.beq z.cells.toList.length n && Nat.ble len 16777216 then
    match fZ (fun i=>some (i*n,n)) (aZ z.cells.toList len) parts with
    |some cs=>
     bif cs.all aA then
      mk false n cs s fun v s'=>
       match v with
       | .pointer (some a)=>C (.slice (some a) len len) s'
       |_=>False
     else False
    |none=>False
   else False
  |_,_=>False
 |_=>False
def gC(P:Unit->Program)(A:bj)(mk:i7)(loc:Bool)(o:Op)(s:SS)(C:Value->SS->Prop):Prop:=
 match o with
 | .move x=>match ev s x with|some v=>C v s|none=>False
 | .assign x=>match ev s x with|some v=>C v s|none=>False
 | .pick c a b=>
  match ev s c with
  |some (.bool t)=>mh t (fun _=>match ev s a with|some v=>C v s|none=>False) (fun _=>match ev s b with|some v=>C v s|none=>False)
  |_=>False
 | .alloc e=>
  match fS (P ()) e,bI (P ()) e with
  |some z,some n=>bif z.cells.toList.all aA then mk loc n z.cells.toList s C else False
  |_,_=>False
 | .box e x=>
  match ev s x,bI (P ()) e with
  |some v,some n=>bif v.cells.toList.all aA then mk loc n v.cells.toList s C else False
  |_,_=>False
 | .build t parts=>
  match iH s parts.toList with
  |some l=>match rg (P ()) t l with|some v=>C v s|none=>False
  |none=>False
 | .buildSlice t len parts=>
  match iH s parts.toList with
  |some l=>jq P mk t len l s C
  |none=>False
 | .load t x=>
  match ev s x with
  |some (.pointer (some a))=>nF P A s t a fun v=>C v s
  |_=>False
 | .store t x y=>
  match ev s x,ev s y with
  |some (.pointer (some a)),some v=>sF P A s t a v fun s'=>C undef s'
  |_,_=>False
 | .nilCheck x=>
  match ev s x with
  |some (.pointer (some a))=>C (.pointer (some a)) s
  |some (.func (.func f) first captured)=>C (.func (.func f) first captured) s
  |_=>False
 | .binOp op t x y _=>
  match ev s x,ev s y with
  |some a,some b=>Gg P A op t a b fun v=>C v s
  |_,_=>False
 | .unOp op _ x=>
  match ev s x with
  |some a=>Ko A op a fun v=>C v s
  |none=>False
 | .convert src dst x=>
  match ev s x with
  |some (.slice a n _)=>
   match (P ()).underlying dst with
   |some .string=>∃b,A.bytes src dst a n s.h b/\A.brk fun _=>C (.string b) s
   |_=>False
  |some a=>wP P A src dst a fun v=>C v s
  |none=>False
 | .makeFunc fn first captured=>
  match fn,evs s first.toList,evs s captured.toList with
  | .func f,some l,some r=>bif l.all cP && r.all cP then C (.func (.func f) l.toArray r.toArray) s else False
  |_,_,_=>False
 | .makeSlice t l c=>
  match ev s l,ev s c with
  |some a,some b=>j7 P A mk t a b s C
  |_,_=>False
 | .slice t x lo hi mx=>
  match ev s x,nj s lo,nj s hi,nj s mx with
  |some v,some a,some b,some c=>sK P A t v a b c fun r=>C r s
  |_,_,_,_=>False
 | .fieldAddr t x f=>
  match ev s x with
  |some v=>kh P A t v f fun r=>C r s
  |none=>False
 | .field t x f=>
  match ev s x with
  |some v=>match qP (P ()) t v f with|some r=>C r s|none=>False
  |none=>False
 | .indexAddr t x i=>
  match ev s x,ev s i with
  |some v,some j=>iR P A t v j fun r=>C r s
  |_,_=>False
 | .index t x i=>
  match ev s x,ev s i with
  |some v,some j=>yi P A t v j fun r=>C r s
  |_,_=>False
 | .extract x i=>
  match ev s x with
  |some (.tuple vs)=>match vs.toList[i]? with|some v=>C v s|none=>False
  |_=>False
 | .call { callee:=.builtin b,args,argTypes }=>
  match evs s args.toList with
  |some l=>
   match b,l with
   | .len,[x]=>match argTypes.toList with | [t]=>tv P A t x fun v=>C v s|_=>False
   | .cap,[.slice _ _ c]=>match argTypes.toList with | [t]=>(match (P ()).underlying t with|some (.slice _)=>A.lt c aI/\A.brk fun _=>C (.int .i64 (A.ofNat c)) s|_=>False)|_=>False
   | .max,x :: r=>k9 A.imax x r fun v=>C v s
   | .min,x :: r=>k9 A.imin x r fun v=>C v s
   | .append,l=>A.app argTypes.toList l s.h fun a n c h'=>C (.slice a n c) { s with h:=h' }
   | .copy,l=>A.cpy argTypes.toList l s.h fun n h'=>C (.int .i64 n) { s with h:=h' }
   | .clear,l=>∃h',A.clr argTypes.toList l s.h h'/\A.brk fun _=>C undef { s with h:=h' }
   |_,_=>False
  |none=>False
 | .makeMap _ none=>C (.map (some (A.next s.h))) { s with h:=A.mnew s.h }
 | .lookup t x i ok=>
  match (P ()).underlying t,ev s x,ev s i with
  |some (.map _ e),some a,some b=>Jx P e fun v=>∃r,A.mget t a b s.h v r/\A.brk fun _=>C (tU ok v r) s
  |_,_,_=>False
 | .mapUpdate t m k x=>
  match ev s m,ev s k,ev s x with
  |some a,some b,some c=>∃h',A.mput t a b c s.h h'/\A.brk fun _=>C undef { s with h:=h' }
  |_,_,_=>False
 | .insert t m k x=>
  match ev s m,ev s k,ev s x with
  |some a,some b,some c=>∃h',A.mput t a b c s.h h'/\A.brk fun _=>C undef { s with h:=h' }
  |_,_,_=>False
 |_=>False
def iI(yn:Nat->Nat)(s:SS)(c:Call):Option (FuncId×List Value):=
 match c.callee with
 | .value x=>
  match ev s x,evs s c.args.toList with
  |some (.func (.func f) first captured),some l=>bif l.all cP && Nat.blt f aN then some (f,first.toList++l++captured.toList)else none
  |some (.func (.yield y) _ _),some l=>bif l.all cP then some (yn y,l)else none
  |_,_=>none
 |_=>none
def vE(nt:Nat)(s:SS)(dst:Option Tmp)(v:Value)(C:SS->Prop):Prop:=
 match dst with
 |none=>C s
 |some d=>bif Nat.blt d nt then C { s with env:=(d,v) :: s.env } else False
def nS(P:Unit->Program)(dst:Option Tmp)(t:TypeId)(v:Value)(C:Value->Prop):Prop:=
 match dst with
 |none=>C v
 |some _=>GE P t v C
def CY(P:Unit->Program)(H:bg)(A:bj)(f:FuncId)(o:Oper)(s:SS)(C:Value->SS->Prop):Prop:=
 match dr o.op with
 |some c=>
  match iI A.yn s c with
  |some (g,args)=>A.call g args s.h fun v h'=>nS P o.dst o.type v fun v=>C v { s with h:=h' }
  |none=>False
 |none=>gC P A (HT A) (dC H f o) o.op s C
def ml(ops:Array Oper)(o:Oper)(s:SS)(go skip:SS->Prop):Prop:=
 match o.guard with
 |none=>go s
 |some (j,want)=>
  match (ops[j]?).bind (·.dst)with
  |some d=>
   match lk s.env d with
   |some (.bool b)=>
    match want with
    |true=>mh b (fun _=>go { s with env:=(d,.bool true) :: s.env }) (fun _=>skip { s with env:=(d,.bool false) :: s.env })
    |false=>mh b (fun _=>skip { s with env:=(d,.bool true) :: s.env }) (fun _=>go { s with env:=(d,.bool false) :: s.env })
   |some (.tuple vs)=>bif vs.toList.isEmpty then skip s else False
   |_=>False
  |none=>False
def rP(P:Unit->Program)(H:bg)(A:bj)(f:FuncId)(nt:Nat)(ops:Array Oper):List Oper->SS->(SS->Prop)->Prop
 | [],s,Q=>Q s
 |o :: rest,s,Q=>
  ml ops o s
   (fun s=>CY P H A f o s fun v s'=>vE nt s' o.dst v fun s''=>rP P H A f nt ops rest s'' Q)
   (fun s=>vE nt s o.dst undef fun s'=>rP P H A f nt ops rest s' Q)
def Jm(s:SS):List Operand->Option Value
 |x :: _=>ev s x
 | []=>none
def Jr(o:Op)(loc:Bool)(id tag:Nat)(s:SS):FP:=
 bif bB o then .none else
 match o with
 | .alloc _ | .box _ _=>bif loc then .new true tag else .new false id
 | .buildSlice _ _ _ | .makeSlice _ _ _=>.new false id
 | .load _ x | .store _ x _=>
  match ev s x with
  |some (.pointer (some a))=>.block a.spot.isSome a.block
  |_=>.all
 | .convert _ _ x=>
  match ev s x with
  |some (.slice (some a) _ _)=>bif a.spot.isNone then .block false a.block else .none
  |_=>.none
 | .call { callee:=.builtin .append,args,argTypes }=>.app (wo (Jm s args.toList))
 |_=>.all
def small:Op->Bool
 | .load .. | .store .. | .alloc _ | .box .. | .buildSlice .. | .makeSlice .. | .convert ..=>true
 |o=>bB o
def tx(A:bj)(lim:Nat)(x:FP)(wx:Bool)(y:FP)(wy:Bool)(C:Prop):Prop:=
 match x with
 | .none=>C
 | .all=>match y with | .none=>C|_=>False
 | .app _=>match y with | .none=>C|_=>False
 | .block l b=>
  match y with
  | .none=>C
  | .all=>cond l C (A.fpAll wx wy l b lim/\C)
  | .app c=>cond l C (A.fpApp wx wy l b lim c/\C)
  | .block l' b'=>cond (wx || wy) (cond (l == l') (A.ne b b'/\C) C) C
  | .new l' b'=>cond (l == l') (A.ne b b'/\C) C
 | .new l b=>
  match y with
  | .none=>C
  | .all=>wy=false/\C
  | .app c=>A.fpApp false wy l b lim c/\C
  | .block l' b'=>cond (l == l') (A.ne b b'/\C) C
  | .new l' b'=>cond (l == l') (A.ne b b'/\C) C
def gT(A:bj)(ops:Array Oper)(lim:Nat)(p:Nat)(x:FP)(wx:Bool):List (Nat×FP×Bool)->Prop->Prop
 | [],C=>C
 |(q,y,wy) :: r,C=>bif qT (Region.before ops) p q then gT A ops lim p x wx r C else tx A lim x wx y wy (gT A ops lim p x wx r C)
def ot(A:bj)(ops:Array Oper)(lim:Nat):List (Nat×FP×Bool)->Prop->Prop
 | [],C=>C
 |(p,x,wx) :: r,C=>gT A ops lim p x wx r (ot A ops lim r C)
def iZ(P:Unit->Program)(H:bg)(A:bj)(f:FuncId)(nt:Nat)(ops:Array Oper)(base kbase:Nat):List Nat->Nat->SS->(SS->List (Nat×FP×Bool)->Prop)->Prop
 | [],_,s,Q=>Q s []
 |p :: rest,i,s,Q=>
  match ops[p]? with
  |none=>False
  |some o=>
   ml ops o s
    (fun s=>
     match dr o.op with
     |some c=>
      match iI A.yn s c with
      |some (g,args)=>A.call g args (A.fresh s.h) fun v h'=>nS P o.dst o.type v fun v=>
        vE nt { s with h:=A.lowered s.h h' } o.dst v fun s''=>iZ P H A f nt ops base kbase rest (i+1) s'' fun r fps=>Q r ((p,.all,A.wrote s.h h') :: fps)
      |none=>False
     |none=>
      bif small o.op then
       gC P A (qU A (A.addN base i) (kbase+i)) (dC H f o) o.op s fun v s'=>
        vE nt s' o.dst v fun s''=>iZ P H A f nt ops base kbase rest (i+1) s'' fun r fps=>Q r ((p,Jr o.op (dC H f o) (A.addN base i) (kbase+i) s,gp o.op) :: fps)
      else
       gC P A (qU A (A.addN base i) (kbase+i)) (dC H f o) o.op { s with h:=A.fresh s.h } fun v s'=>
        vE nt { s' with h:=A.lowered s.h s'.h } o.dst v fun s''=>iZ P H A f nt ops base kbase rest (i+1) s'' fun r fps=>Q r ((p,Jr o.op (dC H f o) (A.addN base i) (kbase+i) s,A.wrote s.h s'.h) :: fps))
    (fun s=>vE nt s o.dst undef fun s'=>iZ P H A f nt ops base kbase rest (i+1) s' fun r fps=>Q r ((p,.none,false) :: fps))
def xM(P:Unit->Program)(H:bg)(A:bj)(f:FuncId)(nt:Nat)(ops:Array Oper)(s:SS)(Q:SS->Prop):Prop:=
 bif lj ops (dX ops)then
  iZ P H A f nt ops (A.next s.h) s.kn (dX ops) 0 { s with kn:=s.kn+ops.size,h:=A.bump s.h ops.size } fun s' fps=>ot A ops (A.addN (A.next s.h) ops.size) fps (Q s')
 else False
def C6(H:bg)(f:FuncId)(c:Code)(kn:Nat)(s:SS):Option SS:=
 match H.keep f (cX c)with
 |none=>some s
 |some l=>
  bif Nat.ble kn s.kn && l.all (fun t=>match lk s.env t with|some v=>px kn v|none=>false)then some { s with env:=mK s.env l,kn:=kn,K:=mK s.K (List.range kn) } else none
def En(next:SS->Prop)(Q:Exit->SS->Prop):Exit->SS->Prop
 | .normal,s=>next s
 |x,s=>Q x s
def BY(id:Nat)(Q:Exit->SS->Prop):Exit->SS->Prop
 | .exit id',s=>mh (Nat.beq id' id) (fun _=>Q .normal s) (fun _=>Q (.exit id') s)
 |x,s=>Q x s
def wM(P:Unit->Program)(H:bg)(A:bj)(V:kR)(f:FuncId)(nt:Nat)(c:Code)(s:SS)(Q:Exit->SS->Prop):Prop:=
 match c with
 | .skip=>Q .normal s
 | .ret=>Q .ret s
 | .exit id=>Q (.exit id) (pruned s (V.blk f id))
 | .seq a b=>wM P H A V f nt a s (En (fun s'=>wM P H A V f nt b s' Q) Q)
 | .cond x a b=>
  match ev s x with
  |some (.bool t)=>mh t (fun _=>wM P H A V f nt a s Q) (fun _=>wM P H A V f nt b s Q)
  |_=>False
 | .block id b=>wM P H A V f nt b s (BY id Q)
 | .loop b=>
  match C6 H f b s.kn s with
  |some s0=>A.head f (cX b) s.kn (pruned s0 (V.loop f (cX b))) Q
  |none=>False
 | .region id ops draw=>bif draw then xM P H A f nt ops (pruned s (V.reg f id)) (Q .normal)else rP P H A f nt ops ops.toList (pruned s (V.reg f id)) (Q .normal)
 | .rangeFunc _ _ as _=>A.rng f (cX as) s Q
 |_=>False
def sB(P:Unit->Program)(H:bg)(A:bj)(V:kR)(f:FuncId)(nt:Nat)(b:Code)(kn:Nat)(s:SS)(Q:Exit->SS->Prop):Prop:=
 wM P H A V f nt b s (En (fun s'=>
   match C6 H f b kn s' with
   |some s1=>A.head f (cX b) kn (pruned s1 (V.loop f (cX b))) Q
   |none=>False) Q)
def mw(P:Unit->Program)(A:bj)(s:SS):List ResultVar->(List Value->Prop)->Prop
 | [],C=>C []
 | .tmp t :: r,C=>
  match lk s.env t with
  |some v=>mw P A s r fun l=>C (v :: l)
  |none=>False
 | .cell a t :: r,C=>
  match lk s.env a with
  |some (.pointer (some x))=>nF P A s t x fun v=>mw P A s r fun l=>C (v :: l)
  |_=>False
def oM:List Value->Nat->List (Nat×Value)->List (Nat×Value)
 | [],_,acc=>acc
 |v :: r,i,acc=>oM r (i+1) ((i,v) :: acc)
def wV(P:Unit->Program)(H:bg)(A:bj)(V:kR)(f:FuncId)(fn:Func)(key kn:Nat)(s:SS)(Q:Exit->SS->Prop):Prop:=
 match fn.body with
 |some c=>
  match (be c).filter (fun b=>Nat.beq (cX b) key)with
  | [b]=>(∀r∈bk c,aY r.2.2.1=true/\aY r.2.2.2=true)/\sB P H A V f fn.ntmps b kn s Q
  |_=>False
 |none=>False
def JH(P:Unit->Program)(A:bj)(rs:List ResultVar)(Q:Value->af->Prop):Exit->SS->Prop
 | .normal,s=>mw P A s rs fun l=>bif l.all cP then Q (ip l) s.h else False
 | .ret,s=>mw P A s rs fun l=>bif l.all cP then Q (ip l) s.h else False
 |_,_=>False
def yM(P:Unit->Program)(H:bg)(A:bj)(V:kR)(g:FuncId)(fn:Func)(args:List Value)(h:af)(Q:Value->af->Prop):Prop:=
 match fn.body with
 |some c=>wM P H A V g fn.ntmps c ⟨oM args 0 [],0,[],h⟩ (JH P A fn.results.toList Q)
 |none=>False
end Go.Sim
namespace Go.Sim
theorem nI(a b:Nat):Nat.beq a b=decide (a=b):=by
 cases h:Nat.beq a b with
 |true=>simp[Nat.eq_of_beq_eq_true h]
 |false=>simp[Nat.ne_of_beq_eq_false h]
theorem jf{b:Bool}{A:Prop}(h:bif b then A else False):b=true/\A:=by
 cases b with
 |true=>exact⟨rfl,h⟩
 |false=>exact h.elim
theorem Jg{α:Type}(l:List (Nat×α))(t:Nat):(E l).get t=lk l t:=by
 induction l with
 |nil=>rfl
 |cons p l ih=>
  obtain⟨a,v⟩:=p;simp only[E,lk,cg.get_set,nI,ih];by_cases h:a=t<;>simp[h]
theorem jm{α:Type}(a:Nat)(v:α)(l:List (Nat×α))(t:Nat):lk ((a,v) :: l) t=if a=t then some v else lk l t:=by
 simp only[lk,nI];by_cases h:a=t<;>simp[h]
theorem nA{α:Type}(l:List (Nat×α)):∀(ks:List Nat) (t:Nat) (v:α),lk (mK l ks) t=some v->lk l t=some v
 | [],t,v,h=>by cases h
 |k :: ks,t,v,h=>by
  simp only[mK]at h;split at h
  ·rename_i u hu
   rw[jm]at h;by_cases e:k=t
   ·subst e;simp at h;subst h;exact hu
   ·rw[if_neg e]at h;exact nA l ks t v h
  ·exact nA l ks t v h
theorem Le.pruned{s:SS}{t:St}(h:Le s t)(l:Option (List Tmp)):Le (pruned s l) t:=by
 unfold Sim.pruned;split
 ·exact h
 ·exact⟨fun i v hv=>h.env i v (nA _ _ _ _ hv),h.K,h.kn,h.h⟩
theorem FB{sv:Sv}{C:Value->Prop}(h:KV sv C):∃v,C v:=by
 cases sv<;>simp only[KV]at h
 ·obtain⟨n,h⟩:=h;exact⟨_,h⟩
 ·obtain⟨n,h⟩:=h;exact⟨_,h⟩
 ·obtain⟨n,h⟩:=h;exact⟨_,h⟩
 ·obtain⟨a,n,c,h⟩:=h;exact⟨_,h⟩
 ·obtain⟨a,n,h⟩:=h;exact⟨_,h⟩
 ·exact h
theorem AL:∀{l:List Sv} {C:List Value->Prop},KO l C->∃v,C v
 | [],C,h=>⟨[],h⟩
 |s :: r,C,h=>by
  obtain⟨v,h⟩:=FB h;obtain⟨l,h⟩:=AL h;exact⟨_,h⟩
theorem xq{P:Unit->Program}{t:TypeId}{C:Value->Prop}(h:Jx P t C):∃v,C v:=by
 unfold Jx at h;split at h
 ·obtain⟨l,h⟩:=AL h;exact⟨_,h⟩
 ·exact FB h
theorem Cu{P:Unit->Program}:∀{l:List TypeId} {C:List Value->Prop},Gy P l C->∃v,C v
 | [],C,h=>⟨[],h⟩
 |s :: r,C,h=>by
  obtain⟨v,h⟩:=xq h;obtain⟨l,h⟩:=Cu h;exact⟨_,h⟩
theorem Ih{P:Unit->Program}{t:TypeId}{v:Value}{C:Value->Prop}(h:GE P t v C):C v:=by
 unfold GE at h;split at h
 ·obtain⟨l,e,h2⟩:=Cu h;rw[e];exact h2
 ·obtain⟨l,e,h2⟩:=xq h;rw[e];exact h2
theorem uR{P:Unit->Program}{d:Option Tmp}{t:TypeId}{v:Value}{C:Value->Prop}(h:nS P d t v C):C v:=by
 unfold nS at h;split at h
 ·exact h
 ·exact Ih h
theorem Le.ev{s:SS}{t:St}(h:Le s t){x:Operand}{v:Value}(hx:ev s x=some v):bq t x=some v:=by
 cases x with
 |tmp i=>exact h.env i v hx
 |const c=>exact hx
 |global g=>cases hx
 |func f=>exact hx
theorem Le.evs{s:SS}{t:St}(h:Le s t):∀{x:List Operand} {v:List Value},evs s x=some v->fG t x=some v
 | [],v,hx=>hx
 |x :: r,v,hx=>by
  simp only[Sim.evs]at hx;split at hx
  ·rename_i u hu
   split at hx
   ·rename_i l hl
    simp only[fG,h.ev hu,h.evs hl];exact hx
   ·cases hx
  ·cases hx
structure AS(X:af->af):Prop where
 m:∀h,(X h).m=h.m
 next:∀h,(X h).next=h.next
 write:∀h b o vs h2,(X h).write b o vs=some h2->∃h1,h.write b o vs=some h1/\X h1=h2
 push:∀h es cs,X (h.push es cs)=(X h).push es cs
 putAt:∀h id es cs,X (h.putAt id es cs)=(X h).putAt id es cs
theorem AS.id:AS (fun h=>h):=⟨fun _=>rfl,fun _=>rfl,fun h b o vs h2 e=>⟨h2,e,rfl⟩,fun _ _ _=>rfl,fun _ _ _ _=>rfl⟩
theorem AS.lowered(L:Nat):AS (fun h=>h.lowered L):=by
 refine⟨fun _=>rfl,fun _=>rfl,fun h b o vs h2 e=>?_,fun _ _ _=>rfl,fun _ _ _ _=>rfl⟩;unfold af.write at e ⊢;simp only[af.lowered]at e;split at e
 ·rename_i es cs hm
  split at e
  ·rename_i cs' hs
   simp only[oi]at e;refine⟨_,rfl,?_⟩;subst e;simp[af.lowered,Nat.min_assoc]
  ·cases e
 ·cases e
def jC(X:af->af)(t:St):St:={ t with h:=X t.h }
def GM(X:af->af)(mk:i7)(m:jK)(s:SS):Prop:=
 ∀loc es cs C,cs.all aA=true->mk loc es cs s C->∃v t' s',m loc es cs=some (v,t')/\Le s' (jC X t')/\C v s'
section
variable{X:af->af}{s:SS}{t:St}{P0:Program}{H0:bg}{F0:aM}
theorem wv(hX:AS X)(hs:Le s (jC X t)){a:Addr}{n:Nat}{views:List Sv}{C:List Value->Prop}(h:kp (aT P0 H0 F0) s a n views C):∃l,t.read a n=some l/\C l:=by
 unfold kp at h;split at h
 ·rename_i hsp
  obtain⟨l,hr0,hC⟩:=AL h;have hr:s.h.readG ⟨a.block,a.off,none⟩ n=some l:=hr0;refine⟨l,?_,hC⟩;unfold af.readG at hr;simp only[]at hr;unfold St.read St.cells?;rw[hsp];simp only[];have e:s.h.cells? a.block=t.h.cells? a.block:=by
   rw[<-hs.h];unfold af.cells?;rw[show(jC X t).h.m=t.h.m from hX.m _]
  rw[e]at hr;exact hr
 ·rename_i x hsp
  cases hb:Nat.blt a.block s.kn with
  |false=>rw[hb]at h;exact absurd h (by simp)
  |true=>
   rw[hb]at h;simp only[cond_true]at h;split at h
   ·rename_i cs hcs
    split at h
    ·rename_i l hl
     refine⟨l,?_,h⟩;unfold St.read St.cells?;rw[hsp];simp only[];rw[show t.kn=s.kn from hs.kn,hb,show t.K.get a.block=some cs from hs.K _ _ hcs];simp only[cond_true];exact hl
    ·exact h.elim
   ·exact h.elim
theorem wm{P:Unit->Program}(hX:AS X)(hs:Le s (jC X t)){a:Addr}{ty:TypeId}{C:Value->Prop}(h:nF P (aT P0 H0 F0) s ty a C):∃v,pX (P ()) t ty a=some v/\C v:=by
 unfold nF at h;unfold pX;split at h
 ·rename_i hagg
  split at h
  ·rename_i n hn
   obtain⟨l,hr,hC⟩:=wv hX hs h;simp only[hagg,hn,hr];exact⟨_,rfl,hC⟩
  ·exact h.elim
 ·rename_i hagg
  obtain⟨l,hr,hC⟩:=wv hX hs h;simp only[hagg,hr];split at hC
  ·exact⟨_,rfl,hC⟩
  ·exact hC.elim
 ·exact h.elim
theorem AI(hX:AS X)(hs:Le s (jC X t)){a:Addr}{vs:List Value}{C:SS->Prop}(h:sS (aT P0 H0 F0) s a vs C):∃t' s',t.write a vs=some t'/\Le s' (jC X t')/\C s':=by
 unfold sS at h;unfold St.write;cases hok:vs.all aA with
 |false=>rw[hok]at h;exact absurd h (by simp)
 |true=>
  rw[hok]at h;simp only[cond_true]at h ⊢;split at h
  ·rename_i hsp
   obtain⟨h',hw0,hC⟩:=h;have hw:s.h.write a.block a.off vs=some h':=hw0;rw[show s.h=X t.h from hs.h.symm]at hw;obtain⟨h1,hw1,rfl⟩:=hX.write _ _ _ _ _ hw;simp only[hsp,hw1];exact⟨{ t with h:=h1 },{ s with h:=X h1 },rfl,⟨hs.env,hs.K,hs.kn,rfl⟩,hC⟩
  ·rename_i x hsp
   cases hb:Nat.blt a.block s.kn with
   |false=>rw[hb]at h;exact absurd h (by simp)
   |true=>
    rw[hb]at h;simp only[cond_true]at h;split at h
    ·rename_i cs hcs
     split at h
     ·rename_i cs' hs'
      rw[show t.kn=s.kn from hs.kn,hb,show t.K.get a.block=some cs from hs.K _ _ hcs];simp only[hsp,cond_true,hs'];refine⟨_,{ s with K:=(a.block,cs') :: s.K },rfl,⟨hs.env,fun i v hv=>?_,rfl,hs.h⟩,h⟩;rw[jm]at hv;show(t.K.set a.block cs').get i=some v;rw[cg.get_set];by_cases e:a.block=i
      ·rw[if_pos e]at hv ⊢;exact hv
      ·rw[if_neg e]at hv ⊢;exact hs.K _ _ hv
     ·exact h.elim
    ·exact h.elim
theorem AQ{P:Unit->Program}(hX:AS X)(hs:Le s (jC X t)){a:Addr}{ty:TypeId}{v:Value}{C:SS->Prop}(h:sF P (aT P0 H0 F0) s ty a v C):∃t' s',kC (P ()) t ty a v=some t'/\Le s' (jC X t')/\C s':=by
 unfold sF at h;unfold kC;split at h
 ·rename_i n hn
  rw[hn];obtain⟨hb,h⟩:=jf h;simp only[hb,cond_true];exact AI hX hs h
 ·exact h.elim
end
theorem ri{k k':IntKind}(h:fU k k'=true):k=k':=of_decide_eq_true h
theorem FM {P0 : Program} {H0 : bg} {F0 : aM} {P : Unit → Program} {op : BinOp} {ty : TypeId} {k k' : IntKind} {a b : Int} {C : Value → Prop} (h : F7 (aT P0 H0 F0) op k k' a b C) : ∃ v, vc (P ()) op ty (.int k a) (.int k' b) = some v ∧ C v := by
  unfold F7 at h
  unfold vc
  simp only []
  split at h
  · obtain ⟨h0, hC⟩ := h
    have h0' : 0 ≤ b := h0
    refine ⟨_, ?_, hC⟩
    simp only [oh]; rw [if_neg (by omega)]; rfl
  · obtain ⟨h0, hC⟩ := h
    have h0' : 0 ≤ b := h0
    refine ⟨_, ?_, hC⟩
    simp only [oh]; rw [if_neg (by omega)]; rfl
  · obtain ⟨hk, h0, hC⟩ := jf h
    have h0' : b ≠ 0 := h0
    refine ⟨_, ?_, hC⟩
    simp only [rF]; rw [if_pos (ri hk), if_neg h0']; rfl
  · obtain ⟨hk, h0, hC⟩ := jf h
    have h0' : b ≠ 0 := h0
    refine ⟨_, ?_, hC⟩
    simp only [rF]; rw [if_pos (ri hk), if_neg h0']; rfl
  all_goals first
    | exact h.elim
    | (obtain ⟨hk, hC⟩ := jf h
       refine ⟨_, ?_, hC⟩
       simp only [rF]; rw [if_pos (ri hk)]; rfl)
theorem EO{P0:Program}{H0:bg}{F0:aM}{op:BinOp}{a b:ByteArray}{C:Value->Prop}(h:ES (aT P0 H0 F0) op a b C):∃v,An op a b=some v/\C v:=by
 unfold ES at h;split at h
 ·obtain⟨h0,hC⟩:=h
  refine⟨_,?_,hC⟩;simp only[An];rw[aS h0];rfl
 all_goals first
  |exact h.elim
  |exact⟨_,rfl,h⟩
theorem GI{H0:bg}{F0:aM}{P:Unit->Program}{op:BinOp}{ty:TypeId}{x y:Value}{C:Value->Prop}(h:Gg P (aT (P ()) H0 F0) op ty x y C):∃v,vc (P ()) op ty x y=some v/\C v:=by
 unfold Gg at h;split at h
 ·exact FM h
 ·exact EO h
 ·rename_i a b
  unfold vc;simp only[];split at h
  ·rename_i hu
   simp only[hu];exact⟨_,rfl,h⟩
  ·rename_i hu
   simp only[hu];exact⟨_,rfl,h⟩
  ·exact h.elim
 ·rename_i a b
  unfold vc;simp only[sY,gV,Bool.true_and];split at h
  ·obtain⟨h0,r,hr,hC⟩:=h
   refine⟨_,?_,hC⟩;rw[h0];simp only[Bool.not_false,cond_true,hr]
  ·obtain⟨h0,r,hr,hC⟩:=h
   refine⟨_,?_,hC⟩;rw[h0];simp only[Bool.not_false,cond_true,hr];rfl
  ·exact h.elim
 ·split at h
  ·rename_i v hv
   exact⟨v,hv,h⟩
  ·exact h.elim
theorem Ia{P0:Program}{H0:bg}{F0:aM}{op:UnOp}{x:Value}{C:Value->Prop}(h:Ko (aT P0 H0 F0) op x C):∃v,KZ op x=some v/\C v:=by
 unfold Ko at h;split at h
 ·exact⟨_,rfl,h⟩
 ·exact⟨_,rfl,h⟩
 ·split at h
  ·rename_i v hv;exact⟨v,hv,h⟩
  ·exact h.elim
theorem DA{P0:Program}{H0:bg}{F0:aM}{P:Unit->Program}{src dst:TypeId}{x:Value}{C:Value->Prop}(h:wP P (aT P0 H0 F0) src dst x C):∃v,y5 (P ()) src dst x=some v/\C v:=by
 unfold wP at h;unfold y5;split at h
 ·rename_i h1 h2
  simp only[h1,h2];exact⟨_,rfl,h⟩
 ·rename_i h1 h2
  simp only[h1,h2];exact⟨_,rfl,h⟩
 ·exact h.elim
theorem E6{P0:Program}{H0:bg}{F0:aM}{P:Unit->Program}{ty:TypeId}{x:Value}{C:Value->Prop}(h:tv P (aT P0 H0 F0) ty x C):∃v,Fh (P ()) ty x=some v/\C v:=by
 unfold tv at h;unfold Fh;split at h
 ·rename_i h1
  simp only[h1];exact⟨_,rfl,h⟩
 ·rename_i h1
  simp only[h1];exact⟨_,rfl,h⟩
 ·rename_i h1
  simp only[h1];exact⟨_,rfl,h⟩
 ·rename_i h1
  simp only[h1];split at h
  ·rename_i h2
   simp only[h2];exact⟨_,rfl,h⟩
  ·exact h.elim
 ·exact h.elim
theorem yH{P0:Program}{H0:bg}{F0:aM}:∀{r:List Value} {x:Value} {C:Value->Prop},k9 (aT P0 H0 F0).imax x r C->∃v,oK uV x r=some v/\C v
 | [],x,C,h=>by simp only[k9]at h;exact⟨x,rfl,h⟩
 |y :: r,x,C,h=>by
  unfold k9 at h;split at h
  ·rename_i e;cases e
  ·rename_i k a k' b r' e
   simp only[List.cons.injEq]at e;obtain⟨rfl,rfl⟩:=e;simp only[oK,uV];exact yH h
  ·exact h.elim
theorem zg{P0:Program}{H0:bg}{F0:aM}:∀{r:List Value} {x:Value} {C:Value->Prop},k9 (aT P0 H0 F0).imin x r C->∃v,oK tr x r=some v/\C v
 | [],x,C,h=>by simp only[k9]at h;exact⟨x,rfl,h⟩
 |y :: r,x,C,h=>by
  unfold k9 at h;split at h
  ·rename_i e;cases e
  ·rename_i k a k' b r' e
   simp only[List.cons.injEq]at e;obtain⟨rfl,rfl⟩:=e;simp only[oK,tr];exact zg h
  ·exact h.elim
theorem BL{H0:bg}{F0:aM}{P:Unit->Program}{ty:TypeId}{x:Value}{lo hi mx:Option Value}{C:Value->Prop}(h:sK P (aT (P ()) H0 F0) ty x lo hi mx C):∃v,fx (P ()) ty x lo hi mx=some v/\C v:=by
 unfold sK at h;split at h
 ·split at h
  ·obtain⟨r,hr,hC⟩:=h;exact⟨_,hr,hC⟩
  ·exact h.elim
 ·rename_i e a n c hu
  split at h
  ·rename_i k j
   obtain⟨hz0,⟨h0,h1⟩,hC⟩:=jf h;obtain⟨z,hz⟩:=Option.isSome_iff_exists.1 hz0;refine⟨_,?_,hC⟩;unfold fx;rw[hu];simp only[hz,jA,fg,gq,fO,bound];rw[if_pos ⟨h0,h1⟩];simp only[];rw[aS (show j.toNat<=bW c by omega)];simp only[cond_true,Option.isSome_none,Bool.or_false,Nat.sub_zero,Nat.zero_mul];have hmap:a.map (dP · 0)=a:=by cases a<;>rfl
   by_cases hc:c<aI
   ·rw[da hc,dE hc,hmap]
    simp only[cond_true];cases Nat.beq c 0<;>rfl
   ·rw[bT (by omega)]
    rfl
  ·obtain⟨a',n',c',hr,hC⟩:=h;exact⟨_,hr,hC⟩
 ·obtain⟨a',n',c',hr,hC⟩:=h;exact⟨_,hr,hC⟩
 ·exact h.elim
theorem uE{P0:Program}{H0:bg}{F0:aM}{P:Unit->Program}{ty:TypeId}{x ix:Value}{C:Value->Prop}(h:iR P (aT P0 H0 F0) ty x ix C):∃v,jE (P ()) ty x ix=some v/\C v:=by
 unfold iR at h;unfold jE;split at h
 ·rename_i hu
  split at h
  ·rename_i n hn
   obtain⟨⟨h0,h1⟩,hC⟩:=h;simp only[hu,hn];rw[if_pos ⟨h0,h1⟩];exact⟨_,rfl,hC⟩
  ·exact h.elim
 ·rename_i hu
  split at h
  ·rename_i n hn
   obtain⟨b,o,rfl,⟨h0,h1⟩,hC⟩:=h;simp only[hu,hn];rw[if_pos ⟨h0,h1⟩];exact⟨_,rfl,hC⟩
  ·exact h.elim
 ·exact h.elim
theorem tC{P0:Program}{H0:bg}{F0:aM}{P:Unit->Program}{ty:TypeId}{x:Value}{f:Nat}{C:Value->Prop}(h:kh P (aT P0 H0 F0) ty x f C):∃v,jL (P ()) ty x f=some v/\C v:=by
 unfold kh at h;unfold jL;split at h
 ·rename_i fs a hu
  split at h
  ·rename_i fd hfd
   split at h
   ·rename_i n hn
    cases hb:Nat.beq n 0 with
    |true=>rw[hb]at h;exact h.elim
    |false=>
     rw[hb]at h;simp only[hu,hfd,hn,hb,cond_false]at h ⊢;refine⟨_,rfl,?_⟩;obtain⟨b,o,sp⟩:=a;cases sp<;>exact h
   ·exact h.elim
  ·exact h.elim
 ·exact h.elim
theorem Bn{H0:bg}{F0:aM}{P:Unit->Program}{ty:TypeId}{x ix:Value}{C:Value->Prop}(h:yi P (aT (P ()) H0 F0) ty x ix C):∃v,vf (P ()) ty x ix=some v/\C v:=by
 unfold yi at h;unfold vf;split at h
 ·rename_i hu
  split at h
  ·rename_i n hn
   obtain⟨⟨h0,h1⟩,hC⟩:=h;obtain⟨v,hv,hC⟩:=xq hC;simp only[hu,hn];rw[if_pos ⟨h0,h1⟩];refine⟨v,?_,hC⟩;have hv':je (P ()) _ _ (0+_)=some v:=hv;rw[Nat.zero_add]at hv';exact hv'
  ·exact h.elim
 ·rename_i hu
  obtain⟨h0,b,hb,hC⟩:=h;simp only[hu];rw[if_pos h0];simp only[hb];exact⟨_,rfl,hC⟩
 ·exact h.elim
theorem uK{z:List Value}(hz:z.all aA=true):∀n,(aZ z n).all aA=true
 |0=>rfl
 |n+1=>by simp only[aZ,List.all_append,hz,uK hz n,Bool.and_self]
section
variable{P:Unit->Program}{X:af->af}{mk:i7}{m:jK}{s:SS}{t:St}{P0:Program}{H0:bg}{F0:aM}
theorem uD(hm:GM X mk m s){ty:TypeId}{l c:Value}{C:Value->SS->Prop}(h:j7 P (aT P0 H0 F0) mk ty l c s C):∃v t' s',dR (P ()) m ty l c=some (v,t')/\Le s' (jC X t')/\C v s':=by
 unfold j7 at h;unfold dR;split at h
 ·rename_i hu
  split at h
  ·rename_i n z by_ hn hz hby
   obtain⟨hb,h⟩:=jf h;simp only[Bool.and_eq_true]at hb;obtain⟨⟨hb1,hb2⟩,hb3⟩:=hb;obtain⟨⟨h0,h1,h2⟩,hC⟩:=h;obtain⟨v,t',s',hv,hl,hC⟩:=hm _ _ _ _ (uK hb3 _) hC;simp only[hu,hn,hz,hby];rw[if_pos ⟨h0,h1,h2,Nat.le_of_ble_eq_true hb1,Nat.eq_of_beq_eq_true hb2⟩];rw[hv];split at hC
   ·exact⟨_,_,_,rfl,hl,hC⟩
   ·exact hC.elim
  ·exact h.elim
 ·exact h.elim
theorem su(hm:GM X mk m s){ty:TypeId}{len:Nat}{parts:List (Nat×Value)}{C:Value->SS->Prop}(h:jq P mk ty len parts s C):∃v t' s',dD (P ()) m ty len parts=some (v,t')/\Le s' (jC X t')/\C v s':=by
 unfold jq at h;unfold dD;split at h
 ·rename_i hu
  split at h
  ·rename_i n z hn hz
   simp only[hu,hn,hz];obtain⟨hb,h⟩:=jf h;rw[hb];simp only[cond_true];split at h
   ·rename_i cs hcs
    simp only[hcs];obtain⟨hok,h⟩:=jf h;obtain⟨v,t',s',hv,hl,hC⟩:=hm _ _ _ _ hok h;rw[hv];split at hC
    ·exact⟨_,_,_,rfl,hl,hC⟩
    ·exact hC.elim
   ·exact h.elim
  ·exact h.elim
 ·exact h.elim
end
end Go.Sim
namespace Go.Sim
theorem qt{b:Bool}{A B:Prop}(h:cond b A B):(b=true/\A)\/(b=false/\B):=by
 cases b with
 |true=>exact .inl ⟨rfl,h⟩
 |false=>exact .inr ⟨rfl,h⟩
theorem Cc{b:Bool}{x y:Unit->Prop}(h:mh b x y):(b=true/\x ())\/(b=false/\y ()):=by
 cases b with
 |true=>exact .inl ⟨rfl,h⟩
 |false=>exact .inr ⟨rfl,h⟩
theorem Dh{P:Program}{h:af}{t:TypeId}{x k v:Value}{r ok:Bool}(hl:jo P h t x k true=some (.tuple #[v,.bool r],h)):jo P h t x k ok=some (tU ok v r,h):=by
 unfold jo at hl ⊢;split at hl
 ·split at hl
  ·rename_i kd z es h1 h2 h3
   cases hb:(gE kd && vg k)with
   |false=>rw[hb]at hl;cases hl
   |true=>
    rw[hb]at hl;simp only[cond_true]at hl ⊢;split at hl
    ·simp only[tU,cond_true,oi,pj,Value.tuple.injEq,and_true]at hl
     simp at hl;obtain⟨rfl,rfl⟩:=hl;rfl
    ·simp only[tU,cond_true,oi,pj,Value.tuple.injEq,and_true]at hl
     simp at hl;obtain⟨rfl,rfl⟩:=hl;rfl
    ·cases hl
  ·cases hl
 ·cases hl
theorem Il{P:Program}{h h':af}(e:h'.m=h.m)(src dst:TypeId)(a:Option Addr)(n:Nat):ms P h' src dst a n=ms P h src dst a n:=by
 unfold ms af.readG af.cells?;rw[e]
theorem yf{P:Unit->Program}{H0:bg}{F0:aM}{X:af->af}{mk:i7}{m:jK}{s:SS}{t:St}{loc:Bool}{o:Op}{C:Value->SS->Prop}(hX:AS X)(hs:Le s (jC X t))(hm:GM X mk m s)(hsm:small o=true\/∀h,X h=h)(h:gC P (aT (P ()) H0 F0) mk loc o s C) :
  ∃v t' s',fe (P ()) m loc o t=some (v,t')/\Le s' (jC X t')/\C v s':=by
 have E1:∀{x:Operand} {v:Value},ev s x=some v->bq t x=some v:=fun hx=>by
  have:=hs.ev hx;rename_i x v;cases x<;>exact this
 have E2:∀{x:List Operand} {v:List Value},evs s x=some v->fG t x=some v:=by
  intro x
  induction x with
  |nil=>intro v hx;exact hx
  |cons x r ih=>
   intro v hx;simp only[evs]at hx;split at hx
   ·rename_i u hu
    split at hx
    ·rename_i l hl
     simp only[fG,E1 hu,ih hl];exact hx
    ·cases hx
   ·cases hx
 have E3:∀{x:Option Operand} {v:Option Value},nj s x=some v->gR t x=some v:=by
  intro x v hx;cases x with
  |none=>exact hx
  |some x=>
   simp only[nj]at hx;split at hx
   ·rename_i u hu
    simp only[gR,E1 hu];exact hx
   ·cases hx
 have E4:∀{x:List (Nat×Operand)} {v:List (Nat×Value)},iH s x=some v->eO t x=some v:=by
  intro x
  induction x with
  |nil=>intro v hx;exact hx
  |cons x r ih=>
   obtain⟨i,x⟩:=x;intro v hx;simp only[iH]at hx;split at hx
   ·rename_i u hu
    split at hx
    ·rename_i l hl
     simp only[eO,E1 hu,ih hl];exact hx
    ·cases hx
   ·cases hx
 unfold gC at h;split at h
 ·split at h
  ·rename_i v hv;exact⟨v,t,s,by simp only[fe,E1 hv],hs,h⟩
  ·exact h.elim
 ·split at h
  ·rename_i v hv;exact⟨v,t,s,by simp only[fe,E1 hv],hs,h⟩
  ·exact h.elim
 ·split at h
  ·rename_i b hb
   rcases Cc h with ⟨rfl,h1⟩|⟨rfl,h1⟩
   ·clear h
    split at h1
    ·rename_i v hv;exact⟨v,t,s,by simp only[fe,E1 hb,E1 hv],hs,h1⟩
    ·exact h1.elim
   ·clear h
    split at h1
    ·rename_i v hv;exact⟨v,t,s,by simp only[fe,E1 hb,E1 hv],hs,h1⟩
    ·exact h1.elim
  ·exact h.elim
 ·split at h
  ·rename_i z n hz hn
   obtain⟨hok,h⟩:=jf h;obtain⟨v,t',s',hv,hl,hC⟩:=hm _ _ _ _ hok h;exact⟨v,t',s',by simp only[fe,hz,hn,hv],hl,hC⟩
  ·exact h.elim
 ·split at h
  ·rename_i z n hz hn
   obtain⟨hok,h⟩:=jf h;obtain⟨v,t',s',hv,hl,hC⟩:=hm _ _ _ _ hok h;exact⟨v,t',s',by simp only[fe,E1 hz,hn,hv],hl,hC⟩
  ·exact h.elim
 ·split at h
  ·rename_i l hl
   split at h
   ·rename_i v hv;exact⟨v,t,s,by simp only[fe,E4 hl,hv],hs,h⟩
   ·exact h.elim
  ·exact h.elim
 ·split at h
  ·rename_i l hl
   obtain⟨v,t',s',hv,hle,hC⟩:=su hm h;exact⟨v,t',s',by simp only[fe,E4 hl,hv],hle,hC⟩
  ·exact h.elim
 ·split at h
  ·rename_i a ha
   obtain⟨v,hv,hC⟩:=wm hX hs h;exact⟨v,t,s,by simp only[fe,E1 ha,hv],hs,hC⟩
  ·exact h.elim
 ·split at h
  ·rename_i a v ha hv
   obtain⟨t',s',hst,hl,hC⟩:=AQ hX hs h;exact⟨_,t',s',by simp only[fe,E1 ha,E1 hv,hst],hl,hC⟩
  ·exact h.elim
 ·split at h
  ·rename_i a ha
   exact⟨_,t,s,by simp only[fe,E1 ha],hs,h⟩
  ·rename_i f first captured ha
   exact⟨_,t,s,by simp only[fe,E1 ha],hs,h⟩
  ·exact h.elim
 ·split at h
  ·rename_i a b ha hb
   obtain⟨v,hv,hC⟩:=GI h;exact⟨v,t,s,by simp only[fe,E1 ha,E1 hb,hv],hs,hC⟩
  ·exact h.elim
 ·split at h
  ·rename_i a ha
   obtain⟨v,hv,h⟩:=Ia h;exact⟨v,t,s,by simp only[fe,E1 ha,hv],hs,h⟩
  ·exact h.elim
 ·split at h
  ·rename_i a n c ha
   split at h
   ·obtain⟨b,h1,h⟩:=h
    have h1':ms (P ()) s.h _ _ a n=some (.string b):=h1;have em:s.h.m=t.h.m:=by rw[<-hs.h];exact hX.m _
    rw[Il em]at h1';exact⟨.string b,t,s,by simp only[fe,E1 ha,h1'],hs,h⟩
   ·exact h.elim
  ·rename_i a hne ha
   obtain⟨v,hv,h⟩:=DA h;refine⟨v,t,s,?_,hs,h⟩;simp only[fe,E1 ha];cases a<;>first|exact absurd rfl (hne _ _ _)|simp only[hv]
  ·exact h.elim
 ·split at h
  ·rename_i f l r hl hr
   obtain⟨hb,h⟩:=jf h;exact⟨_,t,s,by simp only[fe,E2 hl,E2 hr,hb,cond_true],hs,h⟩
  ·exact h.elim
 ·split at h
  ·rename_i a b ha hb
   obtain⟨v,t',s',hv,hle,hC⟩:=uD hm h;exact⟨v,t',s',by simp only[fe,E1 ha,E1 hb,hv],hle,hC⟩
  ·exact h.elim
 ·split at h
  ·rename_i v a b c hv ha hb hc
   obtain⟨r,hr,hC⟩:=BL h;exact⟨r,t,s,by simp only[fe,E1 hv,E3 ha,E3 hb,E3 hc,hr],hs,hC⟩
  ·exact h.elim
 ·split at h
  ·rename_i v hv
   obtain⟨r,hr,h⟩:=tC h;exact⟨r,t,s,by simp only[fe,E1 hv,hr],hs,h⟩
  ·exact h.elim
 ·split at h
  ·rename_i v hv
   split at h
   ·rename_i r hr;exact⟨r,t,s,by simp only[fe,E1 hv,hr],hs,h⟩
   ·exact h.elim
  ·exact h.elim
 ·split at h
  ·rename_i v j hv hj
   obtain⟨r,hr,hC⟩:=uE h;exact⟨r,t,s,by simp only[fe,E1 hv,E1 hj,hr],hs,hC⟩
  ·exact h.elim
 ·split at h
  ·rename_i v j hv hj
   obtain⟨r,hr,hC⟩:=Bn h;exact⟨r,t,s,by simp only[fe,E1 hv,E1 hj,hr],hs,hC⟩
  ·exact h.elim
 ·split at h
  ·rename_i vs hvs
   split at h
   ·rename_i v hv;exact⟨v,t,s,by simp only[fe,E1 hvs,hv],hs,h⟩
   ·exact h.elim
  ·exact h.elim
 ·rename_i b args argTypes
  split at h
  ·rename_i l hl
   split at h
   ·split at h
    ·rename_i ty hty
     obtain⟨v,hv,h⟩:=E6 h;exact⟨v,t,s,by simp only[fe,E2 hl,hty,hv],hs,h⟩
    ·exact h.elim
   ·rename_i a n c
    split at h
    ·rename_i ty hty
     split at h
     ·rename_i e hu
      obtain⟨h1,h⟩:=h;have h1':c<aI:=h1;exact⟨.int .i64 c,t,s,by simp only[fe,E2 hl,hty,I7,hu,da h1',cond_true],hs,h⟩
     ·exact h.elim
    ·exact h.elim
   ·obtain⟨v,hv,h⟩:=yH h
    exact⟨v,t,s,by simp only[fe,E2 hl,hv],hs,h⟩
   ·obtain⟨v,hv,h⟩:=zg h
    exact⟨v,t,s,by simp only[fe,E2 hl,hv],hs,h⟩
   ·have hx:∀h,X h=h:=by
     rcases hsm with h|h
     ·simp[small,bB]at h
     ·exact h
    obtain⟨a,n,c,h',ha,hC⟩:=h;have e:t.h=s.h:=by rw[<-hs.h];exact(hx _).symm
    rw[<-e]at ha;exact⟨_,{ t with h:=h' },{ s with h:=h' },by simp only[fe,E2 hl,ha,bF],⟨hs.env,hs.K,hs.kn,hx _⟩,hC⟩
   ·have hx:∀h,X h=h:=by
     rcases hsm with h|h
     ·simp[small,bB]at h
     ·exact h
    obtain⟨n,h',ha,hC⟩:=h;have e:t.h=s.h:=by rw[<-hs.h];exact(hx _).symm
    rw[<-e]at ha;exact⟨_,{ t with h:=h' },{ s with h:=h' },by simp only[fe,E2 hl,ha,bF],⟨hs.env,hs.K,hs.kn,hx _⟩,hC⟩
   ·have hx:∀h,X h=h:=by
     rcases hsm with h|h
     ·simp[small,bB]at h
     ·exact h
    obtain⟨h',ha,hC⟩:=h;have e:t.h=s.h:=by rw[<-hs.h];exact(hx _).symm
    have ha':o8 (P ()) s.h argTypes.toList _=some (undef,h'):=ha;rw[<-e]at ha';exact⟨_,{ t with h:=h' },{ s with h:=h' },by simp only[fe,E2 hl,ha',bF],⟨hs.env,hs.K,hs.kn,hx _⟩,hC⟩
   ·exact h.elim
  ·exact h.elim
 ·have hx:∀h,X h=h:=by
   rcases hsm with h|h
   ·simp[small,bB]at h
   ·exact h
  have e:t.h=s.h:=by rw[<-hs.h];exact(hx _).symm
  refine⟨.map (some t.h.next),{ t with h:=t.h.pushB (.map []) },{ s with h:=s.h.pushB (.map []) },by simp only[fe,bF],⟨hs.env,hs.K,hs.kn,by show X (t.h.pushB (.map []))=_;rw[hx,e]⟩,?_⟩;rw[e];exact h
 ·rename_i tt xx ii ok
  have hx:∀h,X h=h:=by
   rcases hsm with h|h
   ·simp[small,bB]at h
   ·exact h
  have e:t.h=s.h:=by rw[<-hs.h];exact(hx _).symm
  split at h
  ·rename_i kt et a b hu hv hj
   obtain⟨v,r,h1,h⟩:=xq h;have h1':=Dh (ok:=ok) h1;rw[<-e]at h1';exact⟨_,t,s,by simp only[fe,E1 hv,E1 hj,h1',bF],hs,h⟩
  ·exact h.elim
 ·have hx:∀h,X h=h:=by
   rcases hsm with h|h
   ·simp[small,bB]at h
   ·exact h
  have e:t.h=s.h:=by rw[<-hs.h];exact(hx _).symm
  split at h
  ·rename_i a b c ha hb hc
   obtain⟨h',h1,h⟩:=h;have h1':jp (P ()) s.h _ a b c=some (undef,h'):=h1;rw[<-e]at h1';exact⟨_,{ t with h:=h' },{ s with h:=h' },by simp only[fe,E1 ha,E1 hb,E1 hc,h1',bF],⟨hs.env,hs.K,hs.kn,hx _⟩,h⟩
  ·exact h.elim
 ·have hx:∀h,X h=h:=by
   rcases hsm with h|h
   ·simp[small,bB]at h
   ·exact h
  have e:t.h=s.h:=by rw[<-hs.h];exact(hx _).symm
  split at h
  ·rename_i a b c ha hb hc
   obtain⟨h',h1,h⟩:=h;have h1':jp (P ()) s.h _ a b c=some (undef,h'):=h1;rw[<-e]at h1';exact⟨_,{ t with h:=h' },{ s with h:=h' },by simp only[fe,E1 ha,E1 hb,E1 hc,h1',bF],⟨hs.env,hs.K,hs.kn,hx _⟩,h⟩
  ·exact h.elim
 ·exact h.elim
theorem Le.put{s:SS}{t:St}(h:Le s t){nt:Nat}{d:Option Tmp}{v:Value}{C:SS->Prop}(hp:vE nt s d v C):∃t' s',o9 nt t d v=some t'/\Le s' t'/\C s'/\t'.h=t.h:=by
 unfold vE at hp;unfold o9;split at hp
 ·exact⟨t,s,rfl,h,hp,rfl⟩
 ·rename_i d
  obtain⟨hb,hp⟩:=jf hp;simp only[hb,cond_true];refine⟨_,{ s with env:=(d,v) :: s.env },rfl,⟨fun i u hu=>?_,h.K,h.kn,h.h⟩,hp,rfl⟩;rw[jm]at hu;show(t.env.set d v).get i=some u;rw[cg.get_set];by_cases e:d=i
  ·rw[if_pos e]at hu ⊢;exact hu
  ·rw[if_neg e]at hu ⊢;exact h.env _ _ hu
theorem Le.callee{s:SS}{t:St}(h:Le s t){c:Call}{r:FuncId×List Value}(hc:iI (fun y=>aN+y) s c=some r):jk t c=some r:=by
 unfold iI at hc;unfold jk;split at hc
 ·rename_i x hx
  simp only[hx];split at hc
  ·rename_i f first captured l he hl
   simp only[h.ev he,h.evs hl];exact hc
  ·rename_i y u1 u2 l he hl
   simp only[h.ev he,h.evs hl];exact hc
  ·cases hc
 ·cases hc
theorem Le.same{s:SS}{t:St}(h:Le s t){d:Nat}{v:Value}(hd:lk s.env d=some v):Le { s with env:=(d,v) :: s.env } t:=
 ⟨fun i u hu=>by
  rw[jm]at hu;by_cases e:d=i
  ·subst e;rw[if_pos rfl]at hu;rw[<-hu];exact h.env _ _ hd
  ·rw[if_neg e]at hu;exact h.env _ _ hu,h.K,h.kn,h.h⟩
theorem ul{ops:Array Oper}{o:Oper}{s:SS}{t:St}{go skip:SS->Prop}(h:Le s t)(hw:ml ops o s go skip) :
  (gU ops o t=some true/\∃s',Le s' t/\s'.h=s.h/\s'.kn=s.kn/\go s')\/(gU ops o t=some false/\∃s',Le s' t/\s'.h=s.h/\s'.kn=s.kn/\skip s'):=by
 unfold ml at hw;unfold gU;split at hw
 ·rename_i hg
  rw[hg];exact .inl ⟨rfl,s,h,rfl,rfl,hw⟩
 ·rename_i j want hg
  simp only[hg];split at hw
  ·rename_i d hd
   simp only[hd];split at hw
   ·rename_i b hb
    simp only[h.env _ _ hb];cases want with
    |true=>
     simp only[]at hw;rcases Cc hw with ⟨rfl,hw2⟩|⟨rfl,hw2⟩
     ·exact .inl ⟨by simp,_,h.same hb,rfl,rfl,hw2⟩
     ·exact .inr ⟨by simp,_,h.same hb,rfl,rfl,hw2⟩
    |false=>
     simp only[]at hw;rcases Cc hw with ⟨rfl,hw2⟩|⟨rfl,hw2⟩
     ·exact .inr ⟨by simp,_,h.same hb,rfl,rfl,hw2⟩
     ·exact .inl ⟨by simp,_,h.same hb,rfl,rfl,hw2⟩
   ·rename_i vs hvs
    simp only[h.env _ _ hvs];obtain⟨hb,hw⟩:=jf hw;rw[hb];exact .inr ⟨rfl,s,h,rfl,rfl,hw⟩
   ·exact hw.elim
  ·exact hw.elim
theorem Iw{P0:Program}{H0:bg}{F0:aM}(s:SS)(t:St)(hs:Le s t):GM (fun h=>h) (HT (aT P0 H0 F0)) t.new s:=by
 intro loc es cs C hok h;unfold HT at h;unfold St.new;rw[hok];simp only[cond_true];cases loc with
 |true=>
  simp only[mh,cond_true]at h ⊢;have e:t.kn=s.kn:=hs.kn;refine⟨_,_,{ s with kn:=s.kn+1,K:=(s.kn,cs) :: s.K },rfl,⟨hs.env,fun i v hv=>?_,by simp[jC,e],hs.h⟩,by rw[e];exact h⟩;rw[jm]at hv;show(t.K.set t.kn cs).get i=some v;rw[cg.get_set,e];by_cases e:s.kn=i
  ·rw[if_pos e]at hv ⊢;exact hv
  ·rw[if_neg e]at hv ⊢;exact hs.K _ _ hv
 |false=>
  simp only[mh,cond_false]at h ⊢;have e:t.h=s.h:=hs.h;exact⟨_,_,{ s with h:=s.h.push es cs },rfl,⟨hs.env,hs.K,hs.kn,by show t.h.push es cs=_;rw[e]⟩,by rw[e];exact h⟩
theorem wA{P0:Program}{H0:bg}{F0:aM}{X:af->af}(hX:AS X)(id tag:Nat)(s:SS)(t:St)(hs:Le s (jC X t)):GM X (qU (aT P0 H0 F0) id tag) (t.newAt id tag) s:=by
 intro loc es cs C hok h;unfold qU at h;unfold St.newAt;rw[hok];simp only[cond_true];cases loc with
 |true=>
  simp only[mh,cond_true]at h ⊢;refine⟨_,_,{ s with K:=(tag,cs) :: s.K },rfl,⟨hs.env,fun i v hv=>?_,hs.kn,hs.h⟩,h⟩;rw[jm]at hv;show(t.K.set tag cs).get i=some v;rw[cg.get_set];by_cases e:tag=i
  ·rw[if_pos e]at hv ⊢;exact hv
  ·rw[if_neg e]at hv ⊢;exact hs.K _ _ hv
 |false=>
  simp only[mh,cond_false]at h ⊢;refine⟨_,_,{ s with h:=s.h.putAt id es cs },rfl,⟨hs.env,hs.K,hs.kn,?_⟩,h⟩;have:=hX.putAt t.h id es cs;show X (t.h.putAt id es cs)=_;rw[this];rw[show X t.h=s.h from hs.h]
end Go.Sim
namespace Go.Sim
variable{P:Unit->Program}{H:bg}{F:aM}{V:kR}
theorem qe{f:FuncId}{nt:Nat}{ops:Array Oper}:∀(l:List Oper) (s:SS) (t:St) (Q:SS->Prop),Le s t->rP P H (aT (P ()) H F) f nt ops l s Q->
  ∃n t' s',jz (P ()) H (bR (P ()) H F n).call f nt ops l t=some t'/\Le s' t'/\Q s'
 | [],s,t,Q,hs,h=>⟨0,t,s,rfl,hs,h⟩
 |o :: rest,s,t,Q,hs,h=>by
  simp only[rP]at h;simp only[jz];rcases ul hs h with ⟨hw,s1,hs1,e1,e2,h⟩|⟨hw,s1,hs1,e1,e2,h⟩
  ·simp only[hw]
   unfold CY at h;split at h
   ·rename_i c hc
    split at h
    ·rename_i g args hg
     obtain⟨v,h',⟨n1,hr⟩,h⟩:=h.ex;have h:=uR h;have hs2:Le { s1 with h:=h' } { t with h:=h' }:=⟨hs1.env,hs1.K,hs1.kn,rfl⟩;obtain⟨t3,s3,hp,hs3,h,_⟩:=hs2.put h;obtain⟨n2,t4,s4,ho,hs4,hQ⟩:=qe rest s3 t3 Q hs3 h;refine⟨max n1 n2,t4,s4,?_,hs4,hQ⟩;have hone:o7 (P ()) H (bR (P ()) H F (max n1 n2)).call f o t=some (v,{ t with h:=h' }):=by
      unfold o7;simp only[hc,iz,hs1.callee hg];have:(bR (P ()) H F (max n1 n2)).call g args t.h=some (v,h'):=by
       rw[hs1.h];exact(iM (Nat.le_max_left n1 n2)).call _ _ _ _ hr
      simp only[this]
     simp only[hone,hp];exact nR (iM (Nat.le_max_right n1 n2)).call _ _ _ ho
    ·exact h.elim
   ·rename_i hc
    obtain⟨v,t2,s2,ho,hs2,h⟩:=yf (m:=t.new) AS.id (by exact hs1) (Iw s1 t hs1) (.inr fun _=>rfl) h;obtain⟨t3,s3,hp,hs3,h,_⟩:=Le.put (t:=t2) hs2 h;obtain⟨n2,t4,s4,ho2,hs4,hQ⟩:=qe rest s3 t3 Q hs3 h;refine⟨n2,t4,s4,?_,hs4,hQ⟩;have hone:o7 (P ()) H (bR (P ()) H F n2).call f o t=some (v,t2):=by
     unfold o7;simp only[hc];exact ho
    simp only[hone,hp];exact ho2
  ·simp only[hw]
   obtain⟨t3,s3,hp,hs3,h,_⟩:=hs1.put h;obtain⟨n2,t4,s4,ho2,hs4,hQ⟩:=qe rest s3 t3 Q hs3 h;refine⟨n2,t4,s4,?_,hs4,hQ⟩;simp only[hp];exact ho2
theorem od{id tag:Nat}{t t1:St}{loc:Bool}{es:Nat}{cs:List Value}{v:Value}(h:t.newAt id tag loc es cs=some (v,t1)):t1.h.low=t.h.low:=by
 unfold St.newAt at h;cases hok:cs.all aA with
 |false=>rw[hok]at h;cases h
 |true=>
  rw[hok]at h;cases loc with
  |true=>simp only[cond_true,oi,pj]at h;obtain⟨_,rfl⟩:=h;rfl
  |false=>simp only[cond_true,cond_false,oi,pj]at h;obtain⟨_,rfl⟩:=h;rfl
theorem vJ{id tag:Nat}{t t1:St}{ty:TypeId}{l c v:Value}(h:dR (P ()) (t.newAt id tag) ty l c=some (v,t1)):t1.h.low=t.h.low:=by
 unfold dR at h;split at h
 ·split at h
  ·split at h
   ·split at h
    ·rename_i a s' hm
     simp only[oi,pj]at h;obtain⟨_,rfl⟩:=h;exact od hm
    ·cases h
   ·cases h
  ·cases h
 ·cases h
theorem uc{id tag:Nat}{t t1:St}{ty:TypeId}{len:Nat}{parts:List (Nat×Value)}{v:Value}(h:dD (P ()) (t.newAt id tag) ty len parts=some (v,t1)):t1.h.low=t.h.low:=by
 unfold dD at h;split at h
 ·split at h
  ·rename_i n z _ _
   cases hb:(Nat.ble (len*n) 16777216 && Nat.beq z.cells.toList.length n && Nat.ble len 16777216)with
   |false=>rw[hb]at h;cases h
   |true=>
    rw[hb]at h;simp only[cond_true]at h;split at h
    ·split at h
     ·rename_i a s' hm
      simp only[oi,pj]at h;obtain⟨_,rfl⟩:=h;exact od hm
     ·cases h
    ·cases h
  ·cases h
 ·cases h
theorem It {id tag : Nat} {t t1 : St} {loc : Bool} {o : Op} {v : Value} (hsm : small o = true) (hst : gp o = false) (h : fe (P ()) (t.newAt id tag) loc o t = some (v, t1)) : t1.h.low = t.h.low := by
  unfold fe at h
  split at h
  case h_4 => split at h <;> first | exact od h | cases h
  case h_5 => split at h <;> first | exact od h | cases h
  case h_7 => split at h <;> first | exact uc h | cases h
  case h_15 => split at h <;> first | exact vJ h | cases h
  case h_9 => simp [gp] at hst
  case h_23 => simp [small, bB] at hsm
  case h_24 => simp [small, bB] at hsm
  case h_25 => simp [small, bB] at hsm
  case h_26 => simp [small, bB] at hsm
  case h_22 =>
    rename_i b args argTypes
    cases b <;> simp [small, bB] at hsm
    all_goals
      (split at h
       · rename_i l hl
         rcases l with _ | ⟨x, _ | ⟨y, r⟩⟩
         all_goals
           (simp only [] at h
            repeat' split at h
            all_goals first
              | (cases h; done)
              | (cases h; rfl))
       · cases h)
  all_goals
    (repeat' split at h
     all_goals first
       | (cases h; done)
       | (cases h; rfl)
       | (simp only [oi, pj] at h; obtain ⟨_, rfl⟩ := h; rfl)
       | (rename_i l r _ _; cases hb : (l.all cP && r.all cP) <;> rw [hb] at h <;> first | (cases h; done) | (cases h; rfl)))
theorem Ef{lim:Nat}{x:FP}{wx:Bool}{y:FP}{wy:Bool}{C:Prop}(h:tx (aT (P ()) H F) lim x wx y wy C):bN lim x wx y wy=false/\C:=by
 unfold tx at h;split at h
 ·exact⟨rfl,h⟩
 ·split at h
  ·exact⟨rfl,h⟩
  ·exact h.elim
 ·split at h
  ·exact⟨rfl,h⟩
  ·exact h.elim
 ·rename_i l b
  split at h
  ·exact⟨rfl,h⟩
  ·rcases qt h with ⟨rfl,h2⟩|⟨rfl,h2⟩
   ·exact⟨by simp[bN],h2⟩
   obtain⟨⟨rfl,rfl,h1⟩,h3⟩:=h2;refine⟨?_,h3⟩;rcases h1 with h1|h1
   ·cases h1
   ·simp[bN,da h1]
  ·rename_i c
   rcases qt h with ⟨rfl,h2⟩|⟨rfl,h2⟩
   ·exact⟨by simp[bN],h2⟩
   obtain⟨⟨rfl,h0,h1⟩,h3⟩:=h2;refine⟨?_,h3⟩;rcases h1 with h1|h1
   ·cases h1
   ·rcases h0 with rfl|h0
    ·simp[bN,da h1]
    ·simp[bN,da h1,nI,h0]
  ·rename_i l' b'
   rcases qt h with ⟨e,h1⟩|⟨e,h1⟩
   ·rcases qt h1 with ⟨e2,h2⟩|⟨e2,h2⟩
    ·exact⟨by have h3:b≠b':=h2.1;simp[bN,same,nI,h3],h2.2⟩
    ·exact⟨by simp[bN,same,e2],h2⟩
   ·exact⟨by simp[bN,e],h1⟩
  ·rename_i l' b'
   rcases qt h with ⟨e2,h2⟩|⟨e2,h2⟩
   ·exact⟨by have h3:b≠b':=h2.1;simp[bN,same,nI,h3],h2.2⟩
   ·exact⟨by simp[bN,same,e2],h2⟩
 ·rename_i l b
  split at h
  ·exact⟨rfl,h⟩
  ·obtain⟨rfl,h⟩:=h
   exact⟨rfl,h⟩
  ·rename_i c
   obtain⟨⟨_,h0,_⟩,h3⟩:=h;refine⟨?_,h3⟩;rcases h0 with rfl|h0
   ·simp[bN]
   ·simp[bN,nI,h0]
  ·rename_i l' b'
   rcases qt h with ⟨e2,h2⟩|⟨e2,h2⟩
   ·exact⟨by have h3:b≠b':=h2.1;simp[bN,same,nI,h3],h2.2⟩
   ·exact⟨by simp[bN,same,e2],h2⟩
  ·rename_i l' b'
   rcases qt h with ⟨e2,h2⟩|⟨e2,h2⟩
   ·exact⟨by have h3:b≠b':=h2.1;simp[bN,same,nI,h3],h2.2⟩
   ·exact⟨by simp[bN,same,e2],h2⟩
theorem mI{ops:Array Oper}{lim p:Nat}{x:FP}{wx:Bool}:∀{r:List (Nat×FP×Bool)} {C:Prop},gT (aT (P ()) H F) ops lim p x wx r C->
  r.all (fun(q,y,wy)=>!(bN lim x wx y wy) || qT (Region.before ops) p q)=true/\C
 | [],C,h=>⟨rfl,h⟩
 |(q,y,wy) :: r,C,h=>by
  simp only[gT]at h;rcases qt h with ⟨e,h⟩|⟨e,h⟩
  ·obtain⟨h1,h2⟩:=mI h
   exact⟨by simp only[List.all_cons,e,Bool.or_true,Bool.true_and];exact h1,h2⟩
  ·obtain⟨h0,h⟩:=Ef h
   obtain⟨h1,h2⟩:=mI h;exact⟨by simp only[List.all_cons,h0,Bool.not_false,Bool.true_or,Bool.true_and];exact h1,h2⟩
theorem tm{ops:Array Oper}{lim:Nat}:∀{r:List (Nat×FP×Bool)} {C:Prop},ot (aT (P ()) H F) ops lim r C->yK ops lim r=true/\C
 | [],C,h=>⟨rfl,h⟩
 |(p,x,wx) :: r,C,h=>by
  simp only[ot]at h;obtain⟨h1,h⟩:=mI h;obtain⟨h2,h⟩:=tm h;refine⟨?_,h⟩;unfold yK at h2 ⊢;simp only[wq,h2,Bool.and_true];exact h1
theorem KB{s:SS}{t:St}(hs:Le s t){o:Op}{loc:Bool}{id tag:Nat}(hsm:small o=true)(h:∀x,(∃ty,o=.load ty x)\/(∃ty y,o=.store ty x y)\/(∃src dst,o=.convert src dst x)->(ev s x).isSome=true):dx o loc id tag t=Jr o loc id tag s:=by
 unfold dx Jr;cases hp:bB o with
 |true=>rfl
 |false=>
  simp only[cond_false];cases o<;>try rfl
  ·rename_i ty x
   have:=h x (.inl ⟨ty,rfl⟩);cases hv:ev s x with
   |none=>rw[hv]at this;cases this
   |some v=>
    simp only[hs.ev hv,hv];cases v<;>rfl
  ·rename_i ty x y
   have:=h x (.inr (.inl ⟨ty,y,rfl⟩));cases hv:ev s x with
   |none=>rw[hv]at this;cases this
   |some v=>
    simp only[hs.ev hv,hv];cases v<;>rfl
  ·rename_i src dst x
   have:=h x (.inr (.inr ⟨src,dst,rfl⟩));cases hv:ev s x with
   |none=>rw[hv]at this;cases this
   |some v=>
    simp only[hs.ev hv,hv];cases v<;>first|rfl|(rename_i a n c;cases a<;>rfl)
  ·rename_i c
   exfalso;have:bB (.call c)=true:=hsm;rw[hp]at this;cases this
theorem IZ{mk:i7}{s:SS}{loc:Bool}{o:Op}{C:Value->SS->Prop}(h:gC P (aT (P ()) H F) mk loc o s C):∀x,(∃ty,o=.load ty x)\/(∃ty y,o=.store ty x y)\/(∃src dst,o=.convert src dst x)->(ev s x).isSome=true:=by
 rintro x (⟨ty,rfl⟩|⟨ty,y,rfl⟩|⟨src,dst,rfl⟩)
 ·simp only[gC]at h
  split at h
  ·rename_i a ha;rw[ha];rfl
  ·exact h.elim
 ·simp only[gC]at h
  split at h
  ·rename_i a v ha hv;rw[ha];rfl
  ·exact h.elim
 ·simp only[gC]at h
  split at h
  ·rename_i a n c ha;rw[ha];rfl
  ·rename_i a _ ha;rw[ha];rfl
  ·exact h.elim
theorem Ey{o:Op}{c:Call}(h:dr o=some c){loc:Bool}{id tag:Nat}{t:St}:dx o loc id tag t=.all/\gp o=false:=by
 unfold dr at h;split at h
 ·rename_i c'
  split at h
  ·rename_i x hx
   obtain⟨callee,args,tys⟩:=c';subst hx;exact⟨rfl,rfl⟩
  ·cases h
 ·cases h
theorem Ap{o:Op}(h:small o=false){loc:Bool}{id tag:Nat}{s:SS}{t:St}(hs:Le s t){mk:i7}{C:Value->SS->Prop}{h2:af}(hw:gC P (aT (P ()) H F) mk loc o { s with h:=h2 } C):dx o loc id tag t=Jr o loc id tag s/\gp o=false:=by
 unfold dx Jr;have hp:bB o=false:=by
  unfold small at h;split at h
  all_goals first|(cases h;done)|exact h
 rw[hp];simp only[cond_false];cases o<;>first|(simp[small]at h;done)|exact⟨rfl,rfl⟩|skip
 rename_i c;refine⟨?_,rfl⟩;obtain⟨callee,args,tys⟩:=c;cases callee<;>try rfl
 rename_i b;cases b<;>try rfl
 simp only[]
 congr 2
 simp only[gC]at hw;cases ha:args.toList with
 |nil=>rfl
 |cons x r=>
  rw[ha]at hw;have evE:∀x,ev { s with h:=h2 } x=ev s x:=fun x=>by cases x<;>rfl
  simp only[evs,evE]at hw;show bq t x=ev s x;cases hx:ev s x with
  |none=>rw[hx]at hw;exact hw.elim
  |some v=>exact hs.ev hx
theorem kV(hF:aP F){f:FuncId}{nt:Nat}{ops:Array Oper}{base kbase:Nat}:∀(l:List Nat) (i:Nat) (s:SS) (t:St) (Q:SS->List (Nat×FP×Bool)->Prop),Le s t->t.h.low<=t.h.next->base<=t.h.next->iZ P H (aT (P ()) H F) f nt ops base kbase l i s Q->
  ∃n t' s' fps,oE (P ()) H (bR (P ()) H F n).call f nt ops base kbase l i t=some (t',fps)/\Le s' t'/\Q s' fps
 | [],i,s,t,Q,hs,hl,hb,h=>⟨0,t,s,[],rfl,hs,h⟩
 |p :: rest,i,s,t,Q,hs,hl,hb,h=>by
  simp only[iZ]at h;simp only[oE];split at h
  ·exact h.elim
  ·rename_i o hop
   simp only[hop];rcases ul hs h with ⟨hw,s1,hs1,e1,e2,h⟩|⟨hw,s1,hs1,e1,e2,h⟩
   ·simp only[hw]
    have hfr:(t.fresh).h=(aT (P ()) H F).fresh s1.h:=by
     rw[<-hs1.h];rfl
    split at h
    ·rename_i c hc
     split at h
     ·rename_i g args hg
      obtain⟨v,h',⟨n1,hr⟩,h⟩:=h.ex;have h:=uR h;have hk:bz t.h.next t.fresh.h h':=by
       have:=(fK hF n1).2.2 _ _ _ _ _ hr;rw[<-hfr]at this;exact this
      have hs2:Le { s1 with h:=(aT (P ()) H F).lowered s1.h h' } (St.lowered { t with h:=h' } t.h.low):=⟨hs1.env,hs1.K,hs1.kn,by show af.lowered h' t.h.low=af.lowered h' s1.h.low;rw[hs1.h]⟩;obtain⟨t3,s3,hp,hs3,h,eh⟩:=hs2.put h;have k2:bz base t.h t3.h:=by rw[eh];exact ic (s1:={ t with h:=h' }) (hk.mono hb)
      obtain⟨n2,t4,s4,fps,ho,hs4,hQ⟩:=kV hF rest (i+1) s3 t3 _ hs3 (Nat.le_trans k2.low (Nat.le_trans hl k2.next)) (Nat.le_trans hb k2.next) h;refine⟨max n1 n2,t4,s4,_,?_,hs4,hQ⟩;have hone:iv (P ()) H (bR (P ()) H F (max n1 n2)).call f (base+i) (kbase+i) o t.fresh=some (v,{ t with h:=h' }):=by
       unfold iv;have hs1':Le { s1 with h:=t.fresh.h } t.fresh:=⟨hs1.env,hs1.K,hs1.kn,rfl⟩;have hg':iI (fun y=>aN+y) { s1 with h:=t.fresh.h } c=some (g,args):=by
        have evE:∀x,ev { s1 with h:=t.fresh.h } x=ev s1 x:=fun x=>by cases x<;>rfl
        have evsE:∀l,evs { s1 with h:=t.fresh.h } l=evs s1 l:=fun l=>by
         induction l with
         |nil=>rfl
         |cons x r ih=>simp only[evs,evE,ih]
        have:=hg;unfold iI at this ⊢;simp only[evE,evsE];exact this
       have hca:jk t.fresh c=some (g,args):=hs1'.callee hg';simp only[hc,iz,hca];have:(bR (P ()) H F (max n1 n2)).call g args t.fresh.h=some (v,h'):=by
        rw[hfr];exact(iM (Nat.le_max_left n1 n2)).call _ _ _ _ hr
       simp only[this];rfl
      simp only[hone,hp,n8 (iM (Nat.le_max_right n1 n2)).call _ _ _ _ ho];obtain⟨f1,f2⟩:=Ey (o:=o.op) hc (loc:=dC H f o) (id:=base+i) (tag:=kbase+i) (t:=t);rw[f1,f2,Bool.false_or,hs1.h];rfl
     ·exact h.elim
    ·rename_i hc
     rcases qt h with ⟨hsm,h⟩|⟨hsm,h⟩
     rotate_left
     ·have hs1':Le { s1 with h:=(aT (P ()) H F).fresh s1.h } t.fresh:=⟨hs1.env,hs1.K,hs1.kn,hfr⟩
      have hw0:=h;obtain⟨v,t2,s2,ho,hs2,h⟩:=yf (m:=t.fresh.newAt (base+i) (kbase+i)) AS.id (t:=t.fresh) hs1' (wA AS.id (base+i) (kbase+i) _ t.fresh hs1') (.inr fun _=>rfl) h;have hone:∀n,iv (P ()) H (bR (P ()) H F n).call f (base+i) (kbase+i) o t.fresh=some (v,t2):=by
       intro n;unfold iv;simp only[hc];exact ho
      have hk:bz base t.fresh.h t2.h:=qQ (fK hF 0).2.2 hb (Nat.le_add_right _ _) (hone 0);have hs3:Le { s2 with h:=(aT (P ()) H F).lowered s1.h s2.h } (t2.lowered t.h.low):=⟨hs2.env,hs2.K,hs2.kn,by
       show af.lowered t2.h t.h.low=af.lowered s2.h s1.h.low;rw[hs1.h,show t2.h=s2.h from hs2.h]⟩
      obtain⟨t3,s3,hp,hs3,h,eh⟩:=hs3.put h;have k2:bz base t.h t3.h:=by rw[eh];exact ic hk
      obtain⟨n2,t4,s4,fps,ho2,hs4,hQ⟩:=kV hF rest (i+1) s3 t3 _ hs3 (Nat.le_trans k2.low (Nat.le_trans hl k2.next)) (Nat.le_trans hb k2.next) h;refine⟨n2,t4,s4,_,?_,hs4,hQ⟩;simp only[hone,hp,ho2];obtain⟨f1,f2⟩:=Ap hsm (loc:=dC H f o) (id:=base+i) (tag:=kbase+i) hs1 hw0;rw[f1,f2,Bool.false_or,hs1.h,show t2.h=s2.h from hs2.h];rfl
     have hX:=AS.lowered t.h.low;have hsX:Le s1 (jC (fun h=>h.lowered t.h.low) t.fresh):=⟨hs1.env,hs1.K,hs1.kn,by
      show af.lowered t.fresh.h t.h.low=s1.h;rw[<-hs1.h];have:Nat.min t.h.low t.h.next=t.h.low:=Nat.min_eq_left hl;show({ next:=t.h.next,low:=Nat.min t.h.low t.h.next,m:=t.h.m }:af)=t.h;rw[this]⟩
     have hev:=IZ h;obtain⟨v,t2,s2,ho,hs2,h⟩:=yf (m:=t.fresh.newAt (base+i) (kbase+i)) hX hsX (wA hX (base+i) (kbase+i) s1 t.fresh hsX) (.inl hsm) h;have hone:∀n,iv (P ()) H (bR (P ()) H F n).call f (base+i) (kbase+i) o t.fresh=some (v,t2):=by
      intro n;unfold iv;simp only[hc];exact ho
     have hk:bz base t.fresh.h t2.h:=qQ (fK hF 0).2.2 hb (Nat.le_add_right _ _) (hone 0);obtain⟨t3,s3,hp,hs3,h,eh⟩:=Le.put (t:=t2.lowered t.h.low) hs2 h;have k2:bz base t.h t3.h:=by rw[eh];exact ic hk
     obtain⟨n2,t4,s4,fps,ho2,hs4,hQ⟩:=kV hF rest (i+1) s3 t3 _ hs3 (Nat.le_trans k2.low (Nat.le_trans hl k2.next)) (Nat.le_trans hb k2.next) h;refine⟨n2,t4,s4,_,?_,hs4,hQ⟩;simp only[hone,hp,ho2];rw[KB hs1 hsm hev];have hfl:(gp o.op || Nat.blt t2.h.low t.h.next)=gp o.op:=by
      cases hst:gp o.op with
      |true=>rfl
      |false=>
       rw[It hsm hst ho];exact bT (Nat.le_refl _)
     rw[hfl];rfl
   ·simp only[hw]
    obtain⟨t3,s3,hp,hs3,h,eh⟩:=hs1.put h;obtain⟨n2,t4,s4,fps,ho2,hs4,hQ⟩:=kV hF rest (i+1) s3 t3 _ hs3 (by rw[eh];exact hl) (by rw[eh];exact hb) h;refine⟨n2,t4,s4,_,?_,hs4,hQ⟩;simp only[hp,ho2]
theorem Dt(hF:aP F){f:FuncId}{nt:Nat}{ops:Array Oper}{s:SS}{t:St}{Q:SS->Prop}(hs:Le s t)(hl:t.h.low<=t.h.next)(h:xM P H (aT (P ()) H F) f nt ops s Q) :
  ∃n t' s',oH (P ()) H (bR (P ()) H F n).call f nt ops t=some t'/\Le s' t'/\Q s':=by
 unfold xM at h;obtain⟨hd,h⟩:=jf h;have hs1:Le { s with kn:=s.kn+ops.size,h:=s.h.bump ops.size } (t.keepNos ops.size):=⟨hs.env,hs.K,by show t.kn+ops.size=_;rw[hs.kn],by show af.bump t.h ops.size=_;rw[hs.h]⟩;obtain⟨n,t',s',fps,ho,hs',h⟩:=kV hF _ _ _ _ _ hs1 (by show t.h.low<=t.h.next+ops.size;omega) (by show s.h.next<=t.h.next+ops.size;rw[hs.h];omega) h;obtain⟨hf,h⟩:=tm h;refine⟨n,t',s',?_,hs',h⟩;unfold oH;have ho':oE (P ()) H (bR (P ()) H F n).call f nt ops t.h.next t.kn (dX ops) 0 (t.keepNos ops.size)=some (t',fps):=by
  rw[hs.h,hs.kn];exact ho
 have hf':yK ops (t.h.next+ops.size) fps=true:=by rw[hs.h];exact hf
 simp only[hd,cond_true,ho',hf']
theorem jM{α:Type}{b:Bool}{x y:α}(h:(bif b then some x else none)=some y):b=true/\x=y:=by
 cases b with
 |true=>exact⟨rfl,by simpa using h⟩
 |false=>cases h
theorem xw{α:Type}{b:Bool}{x:α}(h:b=true):(bif b then some x else none)=some x:=by rw[h];rfl
theorem zY{f:FuncId}{c:Code}{kn:Nat}{s s0:SS}{t:St}(hs:Le s t)(h:C6 H f c kn s=some s0):∃t0,AN H f c kn t=some t0/\Le s0 t0/\t0.h=t.h:=by
 unfold C6 at h;unfold AN;split at h
 ·rename_i hk
  simp only[oi]at h;subst h;rw[hk];exact⟨t,rfl,hs,rfl⟩
 ·rename_i l hk
  rw[hk];obtain⟨hb,rfl⟩:=jM h
  ·simp only[Bool.and_eq_true]at hb
   have key:∀(ks:List Tmp) (acc:cg Value) (i:Nat),(fJ t.env ks acc).get i=if i∈ks/\(t.env.get i).isSome then t.env.get i else acc.get i:=by
    intro ks
    induction ks with
    |nil=>intro acc i;simp[fJ]
    |cons k ks ih=>
     intro acc i;simp only[fJ];split
     ·rename_i v hv
      rw[ih,cg.get_set];by_cases e:k=i
      ·subst e;simp[hv]
      ·have:¬i=k:=fun h=>e h.symm
       simp[e,this]
     ·rename_i hv
      rw[ih];by_cases e:k=i
      ·subst e;simp[hv]
      ·have:¬i=k:=fun h=>e h.symm
       simp[this]
   refine⟨{ t with env:=fJ t.env l .leaf,kn:=kn },?_,⟨?_,fun i v hv=>hs.K i v (nA _ _ _ _ hv),rfl,hs.h⟩,?_⟩
   ·refine xw ?_
    rw[show Nat.ble kn t.kn=true by rw[hs.kn];exact hb.1,Bool.true_and,List.all_eq_true];intro i hi;have h1:=List.all_eq_true.1 hb.2 i hi;split at h1
    ·rename_i v hv
     rw[key,if_pos ⟨hi,by rw[hs.env _ _ hv];rfl⟩,hs.env _ _ hv];exact h1
    ·cases h1
   ·intro i v hv
    have hm:∀(ks:List Tmp),lk (mK s.env ks) i=some v->i∈ks:=by
     intro ks
     induction ks with
     |nil=>intro h;cases h
     |cons k ks ih=>
      intro h;simp only[mK]at h;split at h
      ·rw[jm]at h
       by_cases e:k=i
       ·simp[e]
       ·rw[if_neg e]at h;simp[ih h]
      ·simp[ih h]
    have h2:=hs.env _ _ (nA _ _ _ _ hv);show(fJ t.env l .leaf).get i=some v;rw[key,if_pos ⟨hm _ hv,by rw[h2];rfl⟩];exact h2
   ·rfl
theorem rM{B:Nat}{h h':af}(k:bz B h h')(hl:h.low<=h.next):h'.low<=h'.next:=Nat.le_trans k.low (Nat.le_trans hl k.next)
theorem B4(hF:aP F){f:FuncId}{fn:Func}{c0:Code}(hfn:(P ()).funcs[f]?=some fn)(hc0:fn.body=some c0):∀(c:Code) (s:SS) (t:St) (Q:Exit->SS->Prop),((∀b∈be c,b∈be c0)/\(∀r∈bk c,r∈bk c0))->Le s t->t.h.low<=t.h.next->wM P H (aT (P ()) H F) V f fn.ntmps c s Q->∃x t' s',mX (P ()) H F f fn.ntmps c t x t'/\Le s' t'/\Q x s':=by
 have hrk:∀{c:Code} {t t':St} {x:Exit},mX (P ()) H F f fn.ntmps c t x t'->t.h.low<=t.h.next->t'.h.low<=t'.h.next:=by
  rintro c t t' x ⟨n,hn⟩ hl;exact rM ((fK hF n).1 _ _ _ _ _ _ hn) hl
 intro c
 induction c with
 |skip=>intro s t Q hin hs hl h;exact⟨_,_,_,mX.skip,hs,h⟩
 |ret=>intro s t Q hin hs hl h;exact⟨_,_,_,mX.ret,hs,h⟩
 |exit id=>intro s t Q hin hs hl h;exact⟨_,_,_,mX.exit,hs.pruned _,h⟩
 |seq a b iha ihb=>
  intro s t Q hin hs hl h;simp only[wM]at h;obtain⟨x,t1,s1,h1,hs1,h⟩:=iha _ _ _ ⟨fun b hb=>hin.1 b (by simp only[be,List.mem_append];exact .inl hb),fun b hb=>hin.2 b (by simp only[bk,List.mem_append];exact .inl hb)⟩ hs hl h;unfold En at h;split at h
  ·obtain⟨y,t2,s2,h2,hs2,h⟩:=ihb _ _ _ ⟨fun b hb=>hin.1 b (by simp only[be,List.mem_append];exact .inr hb),fun b hb=>hin.2 b (by simp only[bk,List.mem_append];exact .inr hb)⟩ hs1 (hrk h1 hl) h
   exact⟨_,_,_,mX.seq h1 h2,hs2,h⟩
  ·rename_i hx
   exact⟨_,_,_,mX.seqOut h1 hx,hs1,h⟩
 |cond x a b iha ihb=>
  intro s t Q hin hs hl h;simp only[wM]at h;split at h
  ·rename_i v hv
   rcases Cc h with ⟨rfl,h1⟩|⟨rfl,h1⟩
   ·obtain⟨y,t2,s2,h2,hs2,h3⟩:=iha _ _ _ ⟨fun b hb=>hin.1 b (by simp only[be,List.mem_append];exact .inl hb),fun b hb=>hin.2 b (by simp only[bk,List.mem_append];exact .inl hb)⟩ hs hl h1
    exact⟨_,_,_,mX.cond (hs.ev hv) h2,hs2,h3⟩
   ·obtain⟨y,t2,s2,h2,hs2,h3⟩:=ihb _ _ _ ⟨fun b hb=>hin.1 b (by simp only[be,List.mem_append];exact .inr hb),fun b hb=>hin.2 b (by simp only[bk,List.mem_append];exact .inr hb)⟩ hs hl h1
    exact⟨_,_,_,mX.cond (hs.ev hv) h2,hs2,h3⟩
  ·exact h.elim
 |block id b ihb=>
  intro s t Q hin hs hl h;simp only[wM]at h;obtain⟨x,t1,s1,h1,hs1,h⟩:=ihb _ _ _ ⟨fun b hb=>hin.1 b hb,fun b hb=>hin.2 b hb⟩ hs hl h;have h0:=mX.block (id:=id) h1;cases x with
  |exit id'=>
   simp only[BY]at h h0;cases hb:Nat.beq id' id with
   |true=>rw[hb]at h h0;exact⟨_,_,s1,h0,hs1,h⟩
   |false=>rw[hb]at h h0;exact⟨_,_,s1,h0,hs1,h⟩
  |normal=>exact⟨_,_,s1,h0,hs1,h⟩
  |ret=>exact⟨_,_,s1,h0,hs1,h⟩
  |goto l=>exact⟨_,_,s1,h0,hs1,h⟩
  |panic=>exact⟨_,_,s1,h0,hs1,h⟩
  |outgrown=>exact⟨_,_,s1,h0,hs1,h⟩
 |loop b ihb=>
  intro s t Q hin hs hl h;simp only[wM]at h;split at h
  ·rename_i s0 hn
   obtain⟨t0,hn0,hs0,eh⟩:=zY hs hn;have hw:WH (P ()) H F f fn.ntmps b s.kn (Sim.pruned s0 (V.loop f (cX b))) Q:=h fn c0 b hfn hc0 (hin.1 b (by simp[be])) rfl;obtain⟨x,t',s',⟨n,hh⟩,hs',hQ⟩:=hw.ex t0 (hs0.pruned _) (by rw[eh];exact hl);refine⟨x,t',s',mX.loop ⟨n+1,?_⟩,hs',hQ⟩;show na H (bR (P ()) H F n) f fn.ntmps b t.kn t=_;unfold na;rw[hs.kn,hn0];exact hh
  ·exact h.elim
 |region id ops draw=>
  intro s t Q hin hs hl h;simp only[wM]at h;cases draw with
  |true=>
   simp only[cond_true]at h;obtain⟨n,t',s',hd,hs',hQ⟩:=Dt hF (hs.pruned _) hl h;refine⟨_,t',s',⟨n+1,?_⟩,hs',hQ⟩;show li (P ()) H (bR (P ()) H F n) f fn.ntmps (.region id ops true) t=_;unfold li;simp only[cond_true,hd]
  |false=>
   simp only[cond_false]at h;obtain⟨n,t',s',hd,hs',hQ⟩:=qe _ _ _ _ (hs.pruned _) h;refine⟨_,t',s',⟨n+1,?_⟩,hs',hQ⟩;show li (P ()) H (bR (P ()) H F n) f fn.ntmps (.region id ops false) t=_;unfold li;simp only[cond_false,hd]
 |rangeFunc x ps as bo _ _=>
  intro s t Q hin hs hl h;have hw:WR (P ()) H F f fn.ntmps x ps as bo s Q:=h fn c0 x ps as bo hfn hc0 (hin.2 _ (by simp[bk])) rfl;exact hw.ex t hs hl
 |scope=>intro s t Q hin hs hl h;exact h.elim
 |label=>intro s t Q hin hs hl h;exact h.elim
 |goto=>intro s t Q hin hs hl h;exact h.elim
 |refuse=>intro s t Q hin hs hl h;exact h.elim
theorem WH.round(hF:aP F){f:FuncId}{fn:Func}{c0:Code}(hfn:(P ()).funcs[f]?=some fn)(hc0:fn.body=some c0){b:Code}(hb:b∈be c0)(hsub:(∀b'∈be b,b'∈be c0)/\(∀r∈bk b,r∈bk c0)){kn:Nat}{s:SS}{Q:Exit->SS->Prop}(h:sB P H (aT (P ()) H F) V f fn.ntmps b kn s Q):WH (P ()) H F f fn.ntmps b kn s Q:=by
 refine⟨fun t hs hl=>?_⟩;unfold sB at h;obtain⟨x,t1,s1,⟨n1,h1⟩,hs1,h⟩:=B4 hF hfn hc0 _ _ _ _ hsub hs hl h;unfold En at h;have hl1:t1.h.low<=t1.h.next:=rM ((fK hF n1).1 _ _ _ _ _ _ h1) hl;split at h
 ·split at h
  ·rename_i s2 hn
   obtain⟨t0,hn0,hs0,eh⟩:=zY hs1 hn;have hw:WH (P ()) H F f fn.ntmps b kn (Sim.pruned s2 (V.loop f (cX b))) Q:=h fn c0 b hfn hc0 hb rfl;obtain⟨y,t',s',⟨n2,hh⟩,hs',hQ⟩:=hw.ex t0 (hs0.pruned _) (by rw[eh];exact hl1);refine⟨y,t',s',⟨max n1 (n2+1),?_⟩,hs',hQ⟩;rw[(iM (Nat.le_max_left n1 (n2+1))).run _ _ _ _ _ h1];simp only[];refine(iM (Nat.le_max_right n1 (n2+1))).loop _ _ _ _ _ _ ?_;show na H (bR (P ()) H F n2) f fn.ntmps b kn t1=_;unfold na;rw[hn0];exact hh
  ·exact h.elim
 ·rename_i hx
  refine⟨x,t1,s1,⟨n1,?_⟩,hs1,h⟩;rw[h1];cases x<;>first|rfl|exact absurd rfl hx
theorem vM:∀(c b b':Code),b∈be c->b'∈be b->b'∈be c:=by
 intro c
 induction c with
 |seq a b iha ihb=>
  intro x y hx hy;simp only[be,List.mem_append]at hx ⊢;exact hx.imp (fun h=>iha _ _ h hy) (fun h=>ihb _ _ h hy)
 |cond _ a b iha ihb=>
  intro x y hx hy;simp only[be,List.mem_append]at hx ⊢;exact hx.imp (fun h=>iha _ _ h hy) (fun h=>ihb _ _ h hy)
 |block _ b ihb=>intro x y hx hy;exact ihb _ _ hx hy
 |loop b ihb=>
  intro x y hx hy;simp only[be,List.mem_cons]at hx ⊢;rcases hx with rfl|hx
  ·exact .inr hy
  ·exact .inr (ihb _ _ hx hy)
 |rangeFunc _ _ a b iha ihb=>
  intro x y hx hy;simp only[be,List.mem_append]at hx ⊢;exact hx.imp (fun h=>iha _ _ h hy) (fun h=>ihb _ _ h hy)
 |_=>intro x y hx hy;simp[be]at hx
theorem cK:∀(c:Code),aY c=true->bk c=[]
 | .seq a b,h=>by simp only[aY,Bool.and_eq_true]at h;simp[bk,cK a h.1,cK b h.2]
 | .cond _ a b,h=>by simp only[aY,Bool.and_eq_true]at h;simp[bk,cK a h.1,cK b h.2]
 | .block _ b,h=>by simp only[aY]at h;simp[bk,cK b h]
 | .loop b,h=>by simp only[aY]at h;simp[bk,cK b h]
 | .rangeFunc _ _ _ _,h=>by simp[aY]at h
 | .skip,_=>rfl
 | .ret,_=>rfl
 | .exit _,_=>rfl
 | .region _ _ _,_=>rfl
 | .scope _,_=>rfl
 | .label _,_=>rfl
 | .goto _,_=>rfl
 | .refuse _,_=>rfl
def tF(r:Operand×Array Tmp×Code×Code):Prop:=aY r.2.2.1=true/\aY r.2.2.2=true
theorem y8:∀(c b:Code),b∈be c->(∀r∈bk c,tF r)->∀r∈bk b,r∈bk c:=by
 intro c
 induction c with
 |seq a b iha ihb=>
  intro x hx hp r hr;simp only[be,List.mem_append]at hx;simp only[bk,List.mem_append]at hp ⊢;exact hx.imp (fun h=>iha _ h (fun r hr=>hp r (.inl hr)) r hr) (fun h=>ihb _ h (fun r hr=>hp r (.inr hr)) r hr)
 |cond _ a b iha ihb=>
  intro x hx hp r hr;simp only[be,List.mem_append]at hx;simp only[bk,List.mem_append]at hp ⊢;exact hx.imp (fun h=>iha _ h (fun r hr=>hp r (.inl hr)) r hr) (fun h=>ihb _ h (fun r hr=>hp r (.inr hr)) r hr)
 |block _ b ihb=>intro x hx hp r hr;exact ihb _ hx hp r hr
 |loop b ihb=>
  intro x hx hp r hr;simp only[be,List.mem_cons]at hx;rcases hx with rfl|hx
  ·exact hr
  ·exact ihb _ hx hp r hr
 |rangeFunc x0 ps a b iha ihb=>
  intro x hx hp r hr;obtain⟨h1,h2⟩:=hp (x0,ps,a,b) (by simp[bk]);simp only[be,List.mem_append]at hx;exfalso;rcases hx with hx|hx
  ·have:=iha x hx (fun r hr=>by rw[cK a h1]at hr;cases hr) r hr
   rw[cK a h1]at this;cases this
  ·have:=ihb x hx (fun r hr=>by rw[cK b h2]at hr;cases hr) r hr
   rw[cK b h2]at this;cases this
 |_=>intro x hx hp r hr;simp[be]at hx
def setL:List (Nat×Value)->List Tmp->List Value->List (Nat×Value)
 |e,t :: ts,v :: vs=>setL ((t,v) :: e) ts vs
 |e,_,_=>e
theorem uA{s:SS}{t:St}(hs:Le s t):∀(r:List ResultVar) (C:List Value->Prop),mw P (aT (P ()) H F) s r C->∃l,si (P ()) t r=some l/\C l
 | [],C,h=>⟨[],rfl,h⟩
 | .tmp i :: r,C,h=>by
  simp only[mw]at h;simp only[si];split at h
  ·rename_i v hv
   obtain⟨l,hl,hC⟩:=uA hs r _ h;simp only[hs.env _ _ hv,hl];exact⟨_,rfl,hC⟩
  ·exact h.elim
 | .cell a ty :: r,C,h=>by
  simp only[mw]at h;simp only[si];split at h
  ·rename_i x hx
   obtain⟨v,hv,h⟩:=wm AS.id (t:=t) hs h;obtain⟨l,hl,hC⟩:=uA hs r _ h;simp only[hs.env _ _ hx,hv,hl];exact⟨_,rfl,hC⟩
  ·exact h.elim
theorem xJ:∀(l:List Value) (i:Nat) (acc:List (Nat×Value)),dN l i (E acc)=E (oM l i acc)
 | [],i,acc=>rfl
 |v :: r,i,acc=>by
  simp only[dN,oM];exact xJ r (i+1) ((i,v) :: acc)
theorem Cp(s:SS):Le s ⟨E s.env,s.kn,E s.K,s.h⟩:=⟨fun i v h=>by rw[Jg];exact h,fun i v h=>by rw[Jg];exact h,rfl,rfl⟩
theorem WC.body(hF:aP F){g:FuncId}{fn:Func}{args:List Value}{h:af}{Q:Value->af->Prop}(hg:g<aN)(hf:(P ()).funcs[g]?=some fn)(hn:F g args h=none)(hl:h.low<=h.next)(hw:yM P H (aT (P ()) H F) V g fn args h Q):WC (P ()) H F g args h Q:=by
 unfold yM at hw;split at hw
 ·rename_i c hb
  obtain⟨x,t',s',hr,hs',hQ⟩:=B4 hF hf hb c _ _ _ ⟨fun _ h=>h,fun _ h=>h⟩ (Cp ⟨oM args 0 [],0,[],h⟩) hl hw;have hr':mX (P ()) H F g fn.ntmps c { env:=dN args 0 .leaf,kn:=0,K:=.leaf,h:=h } x t':=by
   have e:=xJ args 0 [];simp only[E]at e;rw[e];exact hr
  have fin:∀(C:List Value->Prop),(∀l,C l->l.all cP=true/\Q (ip l) s'.h)->mw P (aT (P ()) H F) s' fn.results.toList C->∃v h',sj (P ()) fn t'=some (v,h')/\Q v h':=by
   intro C hC hres;obtain⟨l,hl2,hc⟩:=uA hs' _ _ hres;obtain⟨h1,h2⟩:=hC l hc;refine⟨_,_,?_,h2⟩;unfold sj;simp only[hl2,h1,cond_true,hs'.h]
  unfold JH at hQ;split at hQ
  ·obtain⟨v,h',he,hq⟩:=fin _ (fun l hl=>jf hl) hQ
   exact⟨⟨v,h',Hy.body hn hg hf hb hr' (.inl rfl) he,hq⟩⟩
  ·obtain⟨v,h',he,hq⟩:=fin _ (fun l hl=>jf hl) hQ
   exact⟨⟨v,h',Hy.body hn hg hf hb hr' (.inr rfl) he,hq⟩⟩
  ·exact hQ.elim
 ·exact hw.elim
structure EF(P:Unit->Program)(H:bg)(F:aM)(A:bj):Prop where
 eq:A=aT (P ()) H F
 keep:aP F
theorem EF.body{A:bj}(hA:EF P H F A)(V:kR){g:FuncId}{fn:Func}{args:List Value}{h:af}{Q:Value->af->Prop}(hg:g<aN)(hf:(P ()).funcs[g]?=some fn)(hn:F g args h=none)(hl:h.low<=h.next)(hw:yM P H A V g fn args h Q):A.call g args h Q:=by
 have e:=hA.eq;subst e;exact WC.body hA.keep hg hf hn hl hw
theorem EF.round{A:bj}(hA:EF P H F A)(V:kR){f:FuncId}{fn:Func}(hfn:(P ()).funcs[f]?=some fn){key kn:Nat}{s:SS}{Q:Exit->SS->Prop}(hw:wV P H A V f fn key kn s Q):A.head f key kn s Q:=by
 have e:=hA.eq;subst e;intro fn' c b h1 h2 h3 h4;rw[hfn]at h1;obtain rfl:=Option.some.inj h1;unfold wV at hw;rw[h2]at hw;simp only[]at hw;have hm:b∈(be c).filter (fun b=>Nat.beq (cX b) key):=by
  rw[List.mem_filter];exact⟨h3,by subst h4;simp⟩
 split at hw
 ·rename_i b' hb'
  rw[hb']at hm;simp only[List.mem_singleton]at hm;subst hm;exact WH.round hA.keep hfn h2 h3 ⟨fun b' hb'=>vM _ _ _ h3 hb',y8 _ _ h3 hw.1⟩ hw.2
 ·exact hw.elim
theorem EF.prim{A:bj}(hA:EF P H F A){g:FuncId}{args:List Value}{h h':af}{v:Value}{Q:Value->af->Prop}(hp:F g args h=some (v,h'))(hq:Q v h')(hg:g<aN:=by decide):A.call g args h Q:=by
 have e:=hA.eq;subst e;exact⟨⟨v,h',⟨1,by simp only[bR,mA,show Nat.ble aN g=false from dl hg,cond_false,hp]⟩,hq⟩⟩
