import Derived.Orders
import Derived.Laws.Cells
import Derived.Laws.CopyRow
import Derived.Laws.World
import Derived.Laws.StructEq
import Derived.Laws.Tables
import Derived.ChangeKeysEq
import Derived.RangeFuncRecord
set_option linter.unusedSimpArgs false
set_option linter.unusedVariables false
theorem om{p:Prop}(h:p:=by omega):p:=h
namespace Go.cV
theorem o8{G:Nat->Prop}(step:∀m,(∀k,m=k+1->G k)->G m):∀m,G m
 |0=>step 0 (fun k h=>by cases h)
 |m+1=>step (m+1) (fun k h=>by cases h;exact o8 step m)
theorem oi{α:Type _}(a b:α):(some a=some b)=(a=b):=Option.some.injEq a b
theorem pj{α:Type _}{β:Type _}(a:α)(b:β)(c:α)(d:β):((a,b)=(c,d))=(a=c/\b=d):=Prod.mk.injEq a b c d
inductive cW(α:Type) where
 |leaf
 |node (l:cW α) (v:Option α) (r:cW α)
namespace cW
variable{α:Type}
def get:cW α->Nat->Option α
 | .leaf,_=>none
 | .node l v r,n=>bif Nat.beq n 0 then v else bif Nat.beq (n % 2) 1 then l.get (n / 2)else r.get (n / 2-1)
def left:cW α->cW α | .leaf=>.leaf | .node l _ _=>l
def zQ:cW α->Option α | .leaf=>none | .node _ v _=>v
def right:cW α->cW α | .leaf=>.leaf | .node _ _ r=>r
def KU:(fuel:Nat)->cW α->Nat->α->cW α
 |0,t,_,_=>t
 |f+1,t,n,x=>
  bif Nat.beq n 0 then .node t.left (some x) t.right
  else bif Nat.beq (n % 2) 1 then .node (KU f t.left (n / 2) x) t.zQ t.right
  else .node t.left t.zQ (KU f t.right (n / 2-1) x)
def set(t:cW α)(n:Nat)(x:α):cW α:=KU (n+1) t n x
def dL(p:α->Bool):cW α->cW α
 | .leaf=>.leaf
 | .node l v r=>.node (l.dL p) (match v with|some x=>bif p x then some x else none|none=>none) (r.dL p)
end cW
inductive C7 where
 |dead
 |live (wr:Bool) (es:Nat) (cells:List Value)
 |map (es:List (Value×Value))
 |loop (st:LoopState) (nQ:Option Code) (f:FuncId) (nt:Nat) (env:cW Value) (ps:List Tmp) (assign body:Code)
def C7.alive:C7->Bool
 | .dead=>false
 |_=>true
structure af where
 next:Nat
 low:Nat
 m:cW C7
def aS:Nat:=9223372036854775808
def cO(c:Nat):Nat:=c % aS
def az(es m:Nat):Nat:=aS*(es+1)+m
def af.cells?(h:af)(b:Nat):Option (List Value):=
 match h.m.get b with
 |some (.live _ _ cs)=>some cs
 |_=>none
def af.push(h:af)(es:Nat)(cs:List Value):af:=
 { next:=h.next+1,low:=h.low,m:=h.m.set h.next (.live true es cs) }
def af.gW(h:af)(b:C7):af:={ next:=h.next+1,low:=h.low,m:=h.m.set h.next b }
def af.jl(h:af)(id:Nat)(b:C7):af:={ next:=h.next,low:=Nat.min h.low id,m:=h.m.set id b }
def ke(cs:List Value)(off n:Nat):Option (List Value):=
 let r:=(cs.drop off).take n
 bif Nat.beq r.length n then some r else none
def mM(cs:List Value)(off:Nat)(vs:List Value):Option (List Value):=
 bif Nat.ble (off+vs.length) cs.length then some (cs.take off++(vs++cs.drop (off+vs.length)))else none
def aF:Value->Bool
 | .agg _ | .tuple _ | .chan _=>false
 | .pointer (some a)=>a.spot.isNone
 |_=>true
def bm:Value->Bool
 | .bool _ | .int _ _ | .string _ | .pointer none | .map none | .nilFunc | .nilIface=>true
 | .slice none 0 0=>true
 |_=>false
def flat:Value->Bool
 | .agg cs=>cs.toList.all bm
 | .tuple cs=>cs.toList.isEmpty
 |v=>bm v
structure St where
 env:cW Value
 kn:Nat
 K:cW (List Value)
 h:af
def St.cells?(s:St)(a:Addr):Option (List Value):=
 match a.spot with
 |none=>s.h.cells? a.block
 |some _=>bif Nat.blt a.block s.kn then s.K.get a.block else none
def St.read(s:St)(a:Addr)(n:Nat):Option (List Value):=
 match s.cells? a with
 |some cs=>ke cs a.off n
 |none=>none
def af.write(h:af)(b off:Nat)(vs:List Value):Option af:=
 match h.m.get b with
 |some (.live true es cs)=>
  match mM cs off vs with
  |some lE=>some { next:=h.next,low:=Nat.min h.low b,m:=h.m.set b (.live true es lE) }
  |none=>none
 |_=>none
def af.kill(h:af)(b:Nat):af:={ next:=h.next,low:=Nat.min h.low b,m:=h.m.set b .dead }
def St.write(s:St)(a:Addr)(vs:List Value):Option St:=
 bif vs.all aF then
  match a.spot with
  |none=>
   match s.h.write a.block a.off vs with
   |some h=>some { s with h:=h }
   |none=>none
  |some _=>
   bif Nat.blt a.block s.kn then
    match s.K.get a.block with
    |some cs=>
     match mM cs a.off vs with
     |some lE=>some { s with K:=s.K.set a.block lE }
     |none=>none
    |none=>none
   else none
 else none
def af.aN(h:af)(a:Addr)(n:Nat):Option (List Value):=
 match a.spot with
 |none=>
  match h.cells? a.block with
  |some cs=>ke cs a.off n
  |none=>none
 |some _=>none
def af.iA(h:af)(a:Addr)(vs:List Value):Option af:=
 match a.spot with
 |none=>bif vs.all aF then h.write a.block a.off vs else none
 |some _=>none
def St.new(s:St)(loc:Bool)(es:Nat)(cs:List Value):Option (Value×St):=
 bif cs.all aF then
  bif loc then some (.pointer (some ⟨s.kn,0,some 0⟩),{ s with kn:=s.kn+1,K:=s.K.set s.kn cs })
  else some (.pointer (some ⟨s.h.next,0,none⟩),{ s with h:=s.h.push es cs })
 else none
abbrev lK:=Bool->Nat->List Value->Option (Value×St)
def St.newAt(s:St)(id tag:Nat)(loc:Bool)(es:Nat)(cs:List Value):Option (Value×St):=
 bif cs.all aF then
  bif loc then some (.pointer (some ⟨tag,0,some 0⟩),{ s with K:=s.K.set tag cs })
  else some (.pointer (some ⟨id,0,none⟩),{ s with h:={ s.h with m:=s.h.m.set id (.live true es cs) } })
 else none
def gi(a:Addr)(n:Nat):Addr:={ a with off:=a.off+n }
def iP(P:Program)(t:TypeId):Option Bool:=
 match P.underlying t with
 |some (.struct _)=>some true
 |some (.array _ _)=>some true
 |some _=>some false
 |none=>none
def bY(P:Program)(t:TypeId):Option Nat:=
 match P.info? t with
 |some i=>some i.size
 |none=>none
def iv(P:Program)(t:TypeId):Option Value:=
 match P.info? t with
 |some i=>
  match i.zero with
  |some z=>bif flat z then some z else none
  |none=>none
 |none=>none
def pC(P:Program)(t:TypeId):Option Nat:=
 match P.info? t with
 |some i=>some i.bytes
 |none=>none
def sT(P:Program)(s:St)(t:TypeId)(a:Addr):Option Value:=
 match iP P t with
 |some true=>
  match bY P t with
  |some n=>
   match s.read a n with
   |some l=>some (.agg l.toArray)
   |none=>none
  |none=>none
 |some false=>
  match s.read a 1 with
  |some (v :: _)=>some v
  |_=>none
 |none=>none
def mN(P:Program)(s:St)(t:TypeId)(a:Addr)(v:Value):Option St:=
 match bY P t with
 |some n=>bif Nat.beq v.cells.toList.length n then s.write a v.cells.toList else none
 |none=>none
def kL(P:Program)(t:TypeId)(cs:Array Value)(off:Nat):Option Value:=
 match iP P t with
 |some true=>
  match bY P t with
  |some n=>
   match ke cs.toList off n with
   |some l=>some (.agg l.toArray)
   |none=>none
  |none=>none
 |some false=>cs.toList[off]?
 |none=>none
def bE(z:List Value):Nat->List Value
 |0=>[]
 |n+1=>z++bE z n
def iI(place:Nat->Option (Nat×Nat)):List Value->List (Nat×Value)->Option (List Value)
 |cells,[]=>some cells
 |cells,(i,v) :: rest=>
  match place i with
  |some (off,size)=>
   bif Nat.beq v.cells.toList.length size && v.cells.toList.all aF then
    match mM cells off v.cells.toList with
    |some cs=>iI place cs rest
    |none=>none
   else none
  |none=>none
def iV(P:Program)(fs:List Field)(i:Nat):Option (Nat×Nat):=
 match fs[i]? with
 |some f=>
  match bY P f.type with
  |some n=>some (f.offset,n)
  |none=>none
 |none=>none
def ux(P:Program)(t:TypeId)(parts:List (Nat×Value)):Option Value:=
 match iv P t with
 |some z=>
  match P.underlying t with
  |some (.struct fs)=>
   bif fs.toList.all (fun f=>(P.info? f.type).isSome)then
    match iI (iV P fs.toList) z.cells.toList parts with
    |some cs=>some (.agg cs.toArray)
    |none=>none
   else none
  |some (.array _ e)=>
   match bY P e with
   |some n=>
    match iI (fun i=>some (i*n,n)) z.cells.toList parts with
    |some cs=>some (.agg cs.toArray)
    |none=>none
   |none=>none
  |_=>none
 |none=>none
def fg(P:Program)(mk:lK)(t:TypeId)(len:Nat)(parts:List (Nat×Value)):Option (Value×St):=
 match P.underlying t with
 |some (.slice e)=>
  match bY P e,iv P e with
  |some n,some z=>
   bif Nat.ble (len*n) 16777216 && Nat.beq z.cells.toList.length n && Nat.ble len 16777216 then
    match iI (fun i=>some (i*n,n)) (bE z.cells.toList len) parts with
    |some cs=>
     match mk false n cs with
     |some (.pointer (some a),s')=>some (.slice (some a) len len,s')
     |_=>none
    |none=>none
   else none
  |_,_=>none
 |_=>none
def vi(op:BinOp)(k:IntKind)(a b:Int):Option Value:=
 match op with
 | .add=>some (.int k (k.wrap (a+b)))
 | .sub=>some (.int k (k.wrap (a-b)))
 | .mul=>some (.int k (k.wrap (a*b)))
 | .quo=>if b=0 then none else some (.int k (k.wrap (a.tdiv b)))
 | .rem=>if b=0 then none else some (.int k (a.tmod b))
 | .and=>some (.int k (k.wrap (BitVec.ofInt k.bits a &&& BitVec.ofInt k.bits b).toNat))
 | .or=>some (.int k (k.wrap (BitVec.ofInt k.bits a ||| BitVec.ofInt k.bits b).toNat))
 | .xor=>some (.int k (k.wrap (BitVec.ofInt k.bits a ^^^ BitVec.ofInt k.bits b).toNat))
 | .andNot=>some (.int k (k.wrap (BitVec.ofInt k.bits a &&& ~~~ BitVec.ofInt k.bits b).toNat))
 | .eql=>some (.bool (a == b))
 | .neq=>some (.bool (a != b))
 | .lss=>some (.bool (decide (a<b)))
 | .leq=>some (.bool (decide (a<=b)))
 | .gtr=>some (.bool (decide (a>b)))
 | .geq=>some (.bool (decide (a≥b)))
 |_=>none
def qL(op:BinOp)(k:IntKind)(x y:Int):Option Value:=
 if y<0 then none else
 match op with
 | .shl=>some (.int k (k.wrap (x*2 ^ (min y.toNat k.bits))))
 | .shr=>some (.int k (x.fdiv (2 ^ (min y.toNat k.bits))))
 |_=>none
def C8(op:BinOp)(x y:ByteArray):Option Value:=
 match op with
 | .eql=>some (.bool (x.toList == y.toList))
 | .neq=>some (.bool !(x.toList == y.toList))
 | .lss=>some (.bool (Op.bytesLess x.toList y.toList))
 | .leq=>some (.bool (Op.bytesLess x.toList y.toList || x.toList == y.toList))
 | .gtr=>some (.bool !(Op.bytesLess x.toList y.toList || x.toList == y.toList))
 | .geq=>some (.bool !(Op.bytesLess x.toList y.toList))
 | .add=>bif Nat.ble (x.size+y.size) 1073741824 then some (.string (x++y))else none
 |_=>none
def px(P:Program):Nat->TypeId->Value->Value->Option Bool
 |0,_,_,_=>none
 |d+1,t,x,y=>
  match P.underlying t,x,y with
  |some .bool,.bool a,.bool b=>some (a == b)
  |some (.int _),.int k a,.int k' b=>if k=k' then some (a == b)else none
  |some .string,.string a,.string b=>some (a == b)
  |some (.struct fs),.agg xs,.agg ys=>
   bif P.stoodInHeld t then none else
   fs.toList.foldr (fun f acc=>
    if f.name = "_" then none else
    match kL P f.type xs f.offset,kL P f.type ys f.offset with
    |some u,some v=>
     match px P d f.type u v with
     |some true=>acc
     |some false=>some false
     |none=>none
    |_,_=>none) (some true)
  |some (.array len e),.agg xs,.agg ys=>
   match bY P e with
   |some n=>
    (List.range len).foldr (fun i acc=>
     match kL P e xs (i*n),kL P e ys (i*n)with
     |some u,some v=>
      match px P d e u v with
      |some true=>acc
      |some false=>some false
      |none=>none
     |_,_=>none) (some true)
   |none=>none
  |some (.slice _),.slice none _ _,.slice b _ _=>some b.isNone
  |some (.slice _),.slice (some _) _ _,.slice none _ _=>some false
  |some (.pointer _),.pointer none,.pointer b=>some b.isNone
  |some (.pointer _),.pointer (some _),.pointer none=>some false
  |some (.map _ _),.map none,.map b=>some b.isNone
  |some (.map _ _),.map (some _),.map none=>some false
  |some (.func _ _ _),.nilFunc,.nilFunc=>some true
  |some (.func _ _ _),.nilFunc,.func _ _ _=>some false
  |some (.func _ _ _),.func _ _ _,.nilFunc=>some false
  |_,_,_=>none
def aaE:BinOp->Bool
 | .eql | .neq=>true
 |_=>false
def jo:Value->Value->Bool
 | .agg _,.agg _=>true
 | .slice _ _ _,.slice _ _ _=>true
 | .pointer _,.pointer _=>true
 | .map _,.map _=>true
 | .nilFunc,.nilFunc=>true
 | .nilFunc,.func _ _ _=>true
 | .func _ _ _,.nilFunc=>true
 |_,_=>false
def wo(P:Program)(op:BinOp)(t:TypeId)(x y:Value):Option Value:=
 bif jo x y && !(P.eqGuardType P.depth t)then
  match op with
  | .eql=>match px P 30 t x y with|some b=>some (.bool b)|none=>none
  | .neq=>match px P 30 t x y with|some b=>some (.bool !b)|none=>none
  |_=>none
 else none
def wZ(P:Program)(op:BinOp)(t:TypeId)(x y:Value):Option Value:=
 match x,y with
 | .int k a,.int k' b=>
  match op with
  | .shl=>qL .shl k a b
  | .shr=>qL .shr k a b
  |op=>if k=k' then vi op k a b else none
 | .string a,.string b=>C8 op a b
 | .bool a,.bool b=>
  match op,P.underlying t with
  | .eql,some .bool=>some (.bool (a == b))
  | .neq,some .bool=>some (.bool !(a == b))
  |_,_=>none
 |x,y=>wo P op t x y
def U4(op:UnOp)(x:Value):Option Value:=
 match op,x with
 | .neg,.int k n=>some (.int k (k.wrap (0-n)))
 | .xor,.int k n=>some (.int k (k.wrap (BitVec.ofInt k.bits (if k.signed then -1 else k.max) ^^^ BitVec.ofInt k.bits n).toNat))
 | .not,.bool b=>some (.bool !b)
 |_,_=>none
def C9(P:Program)(src dst:TypeId)(x:Value):Option Value:=
 match P.underlying src,P.underlying dst,x with
 |some _,some (.int k),.int _ n=>some (.int k (k.wrap n))
 |some _,some .string,.string s=>some (.string s)
 |_,_,_=>none
def bound(v:Value)(y:Nat):Option Nat:=
 match v with
 | .int _ i=>if 0<=i/\i<=y then some i.toNat else none
 |_=>none
def gH(mx:Option Value)(c:Nat):Option Nat:=
 match mx with
 |some v=>bound v c
 |none=>some c
def iM(hi mx:Option Value)(len m:Nat):Option Nat:=
 match hi,mx with
 |some v,_=>bound v m
 |none,none=>some len
 |none,some _=>none
def ik(lo:Option Value)(h:Nat):Option Nat:=
 match lo with
 |some v=>bound v h
 |none=>some 0
def lL(a:Option Addr)(len c size:Nat)(lo hi mx:Option Value):Option Value:=
 match gH mx (cO c)with
 |none=>none
 |some m=>
  match iM hi mx len m with
  |none=>none
  |some h=>
   match ik lo h with
   |none=>none
   |some l=>
    bif Nat.ble h m then
     bif Nat.blt c aS || mx.isSome then
      some (.slice (bif Nat.beq m l then a else a.map (gi · (l*size))) (h-l) (m-l))
     else bif Nat.beq l 0 then some (.slice a h c)
     else bif Nat.blt l m && Nat.beq (c / aS) (size+1)then some (.slice (a.map (gi · (l*size))) (h-l) (az size (m-l)))
     else bif Nat.beq l m then some (.slice (some ⟨0,0,some 0⟩) 0 aS)else none
    else none
def gO(P:Program)(t:TypeId)(x:Value)(lo hi mx:Option Value):Option Value:=
 match P.underlying t,x with
 |some .string,.string s=>
  match mx with
  |some _=>none
  |none=>
   match iM hi none s.size s.size with
   |none=>none
   |some h=>
    match ik lo h with
    |none=>none
    |some l=>some (.string (s.extract l h))
 |some (.slice e),.slice a len c=>
  match bY P e with
  |some n=>lL a len c n lo hi mx
  |none=>none
 |some (.array n e),.pointer (some a)=>
  match a.spot,bY P e with
  |none,some z=>bif Nat.blt n aS then lL (some a) n n z lo hi mx else none
  |_,_=>none
 |_,_=>none
def lM(P:Program)(t:TypeId)(x:Value)(f:Nat):Option Value:=
 match P.underlying t,x with
 |some (.struct fs),.pointer (some a)=>
  match fs.toList[f]? with
  |some fd=>
   match bY P fd.type with
   |some n=>bif Nat.beq n 0 then none else some (.pointer (some (gi a fd.offset)))
   |none=>none
  |none=>none
 |_,_=>none
def uy(P:Program)(t:TypeId)(x:Value)(f:Nat):Option Value:=
 match P.underlying t,x with
 |some (.struct fs),.agg cs=>
  match fs.toList[f]? with
  |some fd=>kL P fd.type cs fd.offset
  |none=>none
 |_,_=>none
def lO(P:Program)(t:TypeId)(x ix:Value):Option Value:=
 match P.underlying t,x,ix with
 |some (.array len e),.pointer (some a),.int _ i=>
  match bY P e with
  |some n=>if 0<=i/\i<len then some (.pointer (some (gi a (i.toNat*n))))else none
  |none=>none
 |some (.slice e),.slice (some a) len _,.int _ i=>
  match bY P e with
  |some n=>if 0<=i/\i<len then some (.pointer (some (gi a (i.toNat*n))))else none
  |none=>none
 |_,_,_=>none
def w6(P:Program)(t:TypeId)(x ix:Value):Option Value:=
 match P.underlying t,x,ix with
 |some (.array len e),.agg cs,.int _ i=>
  match bY P e with
  |some n=>if 0<=i/\i<len then kL P e cs (i.toNat*n)else none
  |none=>none
 |some .string,.string s,.int _ i=>
  if 0<=i then
   match s[i.toNat]? with
   |some b=>some (.int .u8 b.toNat)
   |none=>none
  else none
 |_,_,_=>none
def fP(P:Program)(mk:lK)(t:TypeId)(l c:Value):Option (Value×St):=
 match P.underlying t,l,c with
 |some (.slice e),.int _ l,.int _ c=>
  match bY P e,iv P e,pC P e with
  |some n,some z,some by_=>
   if 0<=l/\l<=c/\c<=1073741824/\by_<=16384/\z.cells.toList.length=n then
    match mk false n (bE z.cells.toList c.toNat)with
    |some (.pointer (some a),s')=>some (.slice (some a) l.toNat c.toNat,s')
    |_=>none
   else none
  |_,_,_=>none
 |_,_,_=>none
def KV(P:Program)(t:TypeId)(x:Value):Option Value:=
 match P.underlying t,x with
 |some .string,.string s=>some (.int .i64 s.size)
 |some (.array n _),_=>some (.int .i64 n)
 |some (.slice _),.slice _ n _=>some (.int .i64 n)
 |some (.pointer e),_=>
  match P.underlying e with
  |some (.array n _)=>some (.int .i64 n)
  |_=>none
 |_,_=>none
def w7:Value->Value->Option Value
 | .int k x,.int _ y=>some (.int k (if y>x then y else x))
 |_,_=>none
def w8:Value->Value->Option Value
 | .int k x,.int _ y=>some (.int k (if y<x then y else x))
 |_,_=>none
def rK(f:Value->Value->Option Value):Value->List Value->Option Value
 |x,[]=>some x
 |x,y :: r=>
  match f x y with
  |some z=>rK f z r
  |none=>none
def jK(P:Program)(h:af)(e size:Nat)(iW:Bool)(x:Value):Option (Nat×List Value):=
 bif iW then
  match x,iv P e,pC P e with
  | .int _ n,some z,some by_=>if 0<=n/\n<=1073741824/\by_<=16384/\z.cells.toList.length=size then some (n.toNat,bE z.cells.toList n.toNat)else none
  |_,_,_=>none
 else
  match x with
  | .slice (some a) n _=>
   match h.aN a (n*size)with
   |some l=>some (n,l)
   |none=>bif a.spot.isSome && Nat.beq n 0 then some (0,[])else none
  | .slice none n _=>bif Nat.beq n 0 then some (0,[])else none
  | .string b=>some (b.size,b.data.toList.map fun c=>.int .u8 c.toNat)
  |_=>none
def cZ:Option TypeDesc->Bool
 |some (.int _)=>true
 |_=>false
def cQ(P:Program)(h:af)(ts:List TypeId)(args:List Value):Option (Value×af):=
 match ts,args with
 | [t,xt],[.slice base len c,x]=>
  match P.underlying t with
  |some (.slice e)=>
   match bY P e,pC P e,P.underlying xt,iv P e with
   |some size,some by_,some xd,some z=>
    match jK P h e size (cZ (some xd)) x with
    |some (n,news)=>
     bif Nat.ble (len+n) (cO c)then
      match base with
      |some a=>
       match h.iA (gi a (len*size)) news with
       |some h'=>some (.slice base (len+n) c,h')
       |none=>bif a.spot.isSome && Nat.beq n 0 && news.isEmpty then some (.slice base len c,h)else none
      |none=>some (.slice none (len+n) c,h)
     else bif Nat.ble (len+n) 1073741824 && Nat.ble by_ 16384 && news.all aF && Nat.beq z.cells.toList.length size && Nat.beq news.length (n*size)then
      match base with
      |none=>
       bif Nat.beq len 0 then
        some (.slice (some ⟨h.next,0,none⟩) (len+n) (az size (len+n)),h.push size news)
       else none
      |some a=>
       match a.spot,h.aN a (len*size)with
       |none,some cI=>
        bif Nat.blt c aS then
         bif cI.all aF then some (.slice (some ⟨h.next,0,none⟩) (len+n) (az size (len+n)),h.push size (cI++news))else none
        else bif cI.all aF then
         match h.m.get a.block with
         |some (.live true es _)=>
          bif Nat.beq es size then
           some (.slice (some ⟨h.next,0,none⟩) (len+n) (az size (len+n)),(h.kill a.block).push size (cI++news))
          else none
         |_=>none
        else none
       |some _,_=>bif Nat.beq c 0 then some (.slice (some ⟨h.next,0,none⟩) (len+n) (az size (len+n)),h.push size news)else none
       |_,_=>none
     else none
    |none=>none
   |_,_,_,_=>none
  |_=>none
 |_,_=>none
def sU(P:Program)(h:af)(ts:List TypeId)(args:List Value):Option (Value×af):=
 match ts,args with
 | [t,_],[.slice base len _,x]=>
  match P.underlying t with
  |some (.slice e)=>
   match bY P e with
   |some size=>
    match x with
    | .slice (some b) n _=>
     match h.aN b (Nat.min n len*size)with
     |some l=>
      match base with
      |some a=>
       match h.iA a l with
       |some h'=>some (.int .i64 (Nat.min n len:Nat),h')
       |none=>bif a.spot.isSome then some (.int .i64 0,h)else none
      |none=>some (.int .i64 (Nat.min n len:Nat),h)
     |none=>bif b.spot.isSome && Nat.beq n 0 then some (.int .i64 0,h)else none
    | .slice none n _=>bif Nat.beq n 0 then some (.int .i64 0,h)else none
    |_=>none
   |none=>none
  |_=>none
 |_,_=>none
def bytesOf:List Value->Option (List UInt8)
 | []=>some []
 | .int .u8 n :: r=>
  match bytesOf r with
  |some l=>some (UInt8.ofNat n.toNat :: l)
  |none=>none
 |_=>none
def oQ(P:Program)(h:af)(src dst:TypeId)(a:Option Addr)(n:Nat):Option Value:=
 match P.underlying src,P.underlying dst with
 |some (.slice e),some .string=>
  match P.underlying e with
  |some (.int .u8)=>
   match a with
   |none=>some (.string .empty)
   |some a=>
    match h.aN a n with
    |some l=>
     match bytesOf l with
     |some bs=>some (.string ⟨bs.toArray⟩)
     |none=>none
    |none=>bif a.spot.isSome && Nat.beq n 0 then some (.string .empty)else none
  |_=>none
 |_,_=>none
def O7(P:Program)(t:TypeId)(x:Value):Option Value:=
 match P.underlying t,x with
 |some (.slice _),.slice _ _ c=>bif Nat.blt c aS then some (.int .i64 c)else none
 |_,_=>none
def r8(P:Program)(h:af)(ts:List TypeId)(args:List Value):Option (Value×af):=
 match ts,args with
 | [t],[.slice base len _]=>
  match P.underlying t with
  |some (.slice e)=>
   match base with
   |none=>some (undef,h)
   |some a=>
    bif Nat.beq len 0 then some (undef,h)else
    match iv P e with
    |some z=>
     match h.iA a (bE z.cells.toList len)with
     |some h'=>some (undef,h')
     |none=>none
    |none=>none
  |_=>none
 |_,_=>none
def bT(s:St):Option (Value×af)->Option (Value×St)
 |some (v,h)=>some (v,{ s with h:=h })
 |none=>none
def dA:Value->Bool
 | .pointer (some a)=>a.spot.isNone
 |_=>true
def iQ:TypeDesc->Bool
 | .int _ | .string | .bool=>true
 |_=>false
def isKey:Value->Bool
 | .int _ _ | .string _ | .bool _=>true
 |_=>false
def w9(kind:TypeDesc)(k:Value):List (Value×Value)->Nat->Option (Option (Nat×Value))
 | [],_=>some none
 |e :: es,i=>
  match Instr.sameNow kind k e.1 with
  |some true=>some (some (i,e.2))
  |some false=>w9 kind k es (i+1)
  |none=>none
def xg(h:af):Value->Option (List (Value×Value))
 | .map none=>some []
 | .map (some id)=>
  match h.m.get id with
  |some (.map es)=>some es
  |_=>none
 |_=>none
def found(ok:Bool)(v:Value)(b:Bool):Value:=bif ok then .tuple #[v,.bool b] else v
def kT(P:Program)(h:af)(t:TypeId)(x k:Value)(ok:Bool):Option (Value×af):=
 match P.underlying t with
 |some (.map kt et)=>
  match P.underlying kt,iv P et,xg h x with
  |some kd,some z,some es=>
   bif iQ kd && isKey k then
    match w9 kd k es 0 with
    |some (some (_,v))=>some (found ok v true,h)
    |some none=>some (found ok z false,h)
    |none=>none
   else none
  |_,_,_=>none
 |_=>none
def kU(P:Program)(h:af)(t:TypeId)(x k v:Value):Option (Value×af):=
 match P.underlying t,x with
 |some (.map kt _),.map (some id)=>
  match P.underlying kt,h.m.get id with
  |some kd,some (.map es)=>
   bif iQ kd && isKey k && dA v then
    match w9 kd k es 0 with
    |some (some (i,_))=>some (undef,h.jl id (.map (es.set i (k,v))))
    |some none=>some (undef,h.jl id (.map (es++[(k,v)])))
    |none=>none
   else none
  |_,_=>none
 |_,_=>none
def bJ(s:St):Operand->Option Value
 | .tmp t=>s.env.get t
 | .const v=>bif flat v then some v else none
 | .global _=>none
 | .func f=>some (.func (.func f) #[] #[])
def gX(s:St):List Operand->Option (List Value)
 | []=>some []
 |x :: r=>
  match bJ s x with
  |some v=>
   match gX s r with
   |some l=>some (v :: l)
   |none=>none
  |none=>none
def jq(s:St):Option Operand->Option (Option Value)
 |none=>some none
 |some x=>
  match bJ s x with
  |some v=>some (some v)
  |none=>none
def gm(s:St):List (Nat×Operand)->Option (List (Nat×Value))
 | []=>some []
 |(i,x) :: r=>
  match bJ s x with
  |some v=>
   match gm s r with
   |some l=>some ((i,v) :: l)
   |none=>none
  |none=>none
def gE(P:Program)(mk:lK)(loc:Bool)(o:Op)(s:St):Option (Value×St):=
 match o with
 | .move x=>match bJ s x with|some v=>some (v,s)|none=>none
 | .assign x=>match bJ s x with|some v=>some (v,s)|none=>none
 | .pick c a b=>
  match bJ s c with
  |some (.bool true)=>match bJ s a with|some v=>some (v,s)|none=>none
  |some (.bool false)=>match bJ s b with|some v=>some (v,s)|none=>none
  |_=>none
 | .alloc e=>
  match iv P e,bY P e with
  |some z,some n=>mk loc n z.cells.toList
  |_,_=>none
 | .box e x=>
  match bJ s x,bY P e with
  |some v,some n=>mk loc n v.cells.toList
  |_,_=>none
 | .build t parts=>
  match gm s parts.toList with
  |some l=>match ux P t l with|some v=>some (v,s)|none=>none
  |none=>none
 | .buildSlice t len parts=>
  match gm s parts.toList with
  |some l=>fg P mk t len l
  |none=>none
 | .load t x=>
  match bJ s x with
  |some (.pointer (some a))=>match sT P s t a with|some v=>some (v,s)|none=>none
  |_=>none
 | .store t x y=>
  match bJ s x,bJ s y with
  |some (.pointer (some a)),some v=>match mN P s t a v with|some s'=>some (undef,s')|none=>none
  |_,_=>none
 | .nilCheck x=>
  match bJ s x with
  |some (.pointer (some a))=>some (.pointer (some a),s)
  |some (.func (.func f) first captured)=>some (.func (.func f) first captured,s)
  |_=>none
 | .binOp op t x y _=>
  match bJ s x,bJ s y with
  |some a,some b=>match wZ P op t a b with|some v=>some (v,s)|none=>none
  |_,_=>none
 | .unOp op _ x=>
  match bJ s x with
  |some a=>match U4 op a with|some v=>some (v,s)|none=>none
  |none=>none
 | .convert src dst x=>
  match bJ s x with
  |some (.slice a n _)=>match oQ P s.h src dst a n with|some v=>some (v,s)|none=>none
  |some a=>match C9 P src dst a with|some v=>some (v,s)|none=>none
  |none=>none
 | .makeFunc fn first captured=>
  match fn,gX s first.toList,gX s captured.toList with
  | .func f,some l,some r=>bif l.all dA && r.all dA then some (.func (.func f) l.toArray r.toArray,s)else none
  |_,_,_=>none
 | .makeSlice t l c=>
  match bJ s l,bJ s c with
  |some a,some b=>fP P mk t a b
  |_,_=>none
 | .slice t x lo hi mx=>
  match bJ s x,jq s lo,jq s hi,jq s mx with
  |some v,some a,some b,some c=>match gO P t v a b c with|some r=>some (r,s)|none=>none
  |_,_,_,_=>none
 | .fieldAddr t x f=>
  match bJ s x with
  |some v=>match lM P t v f with|some r=>some (r,s)|none=>none
  |none=>none
 | .field t x f=>
  match bJ s x with
  |some v=>match uy P t v f with|some r=>some (r,s)|none=>none
  |none=>none
 | .indexAddr t x i=>
  match bJ s x,bJ s i with
  |some v,some j=>match lO P t v j with|some r=>some (r,s)|none=>none
  |_,_=>none
 | .index t x i=>
  match bJ s x,bJ s i with
  |some v,some j=>match w6 P t v j with|some r=>some (r,s)|none=>none
  |_,_=>none
 | .extract x i=>
  match bJ s x with
  |some (.tuple vs)=>match vs.toList[i]? with|some v=>some (v,s)|none=>none
  |_=>none
 | .call { callee:=.builtin b,args,argTypes }=>
  match gX s args.toList with
  |some l=>
   match b,l with
   | .len,[x]=>match argTypes.toList with | [t]=>(match KV P t x with|some v=>some (v,s)|none=>none)|_=>none
   | .cap,[x]=>match argTypes.toList with | [t]=>(match O7 P t x with|some v=>some (v,s)|none=>none)|_=>none
   | .max,x :: r=>match rK w7 x r with|some v=>some (v,s)|none=>none
   | .min,x :: r=>match rK w8 x r with|some v=>some (v,s)|none=>none
   | .append,l=>bT s (cQ P s.h argTypes.toList l)
   | .copy,l=>bT s (sU P s.h argTypes.toList l)
   | .clear,l=>bT s (r8 P s.h argTypes.toList l)
   |_,_=>none
  |none=>none
 | .makeMap _ none=>bT s (some (.map (some s.h.next),s.h.gW (.map [])))
 | .lookup t x i ok=>
  match bJ s x,bJ s i with
  |some a,some b=>bT s (kT P s.h t a b ok)
  |_,_=>none
 | .mapUpdate t m k x=>
  match bJ s m,bJ s k,bJ s x with
  |some a,some b,some c=>bT s (kU P s.h t a b c)
  |_,_,_=>none
 | .insert t m k x=>
  match bJ s m,bJ s k,bJ s x with
  |some a,some b,some c=>bT s (kU P s.h t a b c)
  |_,_,_=>none
 |_=>none
def bM:Op->Bool
 | .move _ | .assign _ | .pick .. | .build .. | .nilCheck _ | .binOp .. | .unOp .. | .makeFunc .. | .slice .. | .fieldAddr .. | .field .. | .indexAddr .. | .index .. | .extract ..=>true
 | .call { callee:=.builtin .len,.. } | .call { callee:=.builtin .cap,.. } | .call { callee:=.builtin .max,.. } | .call { callee:=.builtin .min,.. }=>true
 |_=>false
def iN:Op->Bool
 | .store ..=>true
 |_=>false
def prec(b:Array Nat)(p q:Nat):Bool:=(b.getD q 0).testBit p
def shares (ops : Array Oper) (x y : Oper) : Bool :=
  (match x.dst with
   | some d => (y.looksAt ops).contains d || y.dst == some d
   | none => false) ||
  (match y.dst with
   | some d => (x.looksAt ops).contains d
   | none => false)
def Hu:Op->Bool
 | .load .. | .store .. | .alloc _ | .box .. | .buildSlice .. | .makeSlice .. | .convert ..=>false
 |o=>!bM o
def Da(o:Op)(loc:Bool):Bool:=
 match o with
 | .alloc _ | .box _ _=>!loc
 | .buildSlice _ _ _ | .makeSlice _ _ _=>true
 |_=>false
def Dc(o:Op)(loc:Bool):Bool:=
 match o with
 | .alloc _ | .box _ _=>loc
 |_=>false
def KW(ops:Array Oper)(done:List Nat):Option Nat:=
 let ready:=(List.range ops.size).filter fun i=>!(done.contains i) && (match ops[i]? with|some o=>o.after.toList.all (fun e=>!(Region.binds .any e) || done.contains e.on)|none=>false)
 match ready.find? (fun i=>match ops[i]? with|some o=>!(Hu o.op)|none=>false)with
 |some i=>some i
 |none=>ready.head?
def AA(ops:Array Oper):Nat->List Nat->List Nat
 |0,done=>done.reverse
 |n+1,done=>
  match KW ops done with
  |some i=>AA ops n (i :: done)
  |none=>done.reverse
def fY(ops:Array Oper):List Nat:=AA ops ops.size []
def AB{α:Type}(p:α->α->Bool):List α->Bool
 | []=>true
 |x :: l=>l.all (p x) && AB p l
def nR(ops:Array Oper)(l:List Nat):Bool:=
 Nat.beq l.length ops.size && (List.range ops.size).all (fun i=>l.contains i) &&
 (ops.toList.zipIdx.all fun(o,i)=>o.after.toList.all (fun e=>!(Region.binds .any e) || Nat.blt e.on i)) &&
 AB (fun p q=>(!(Nat.beq p q)) && (match ops[p]?,ops[q]? with|some x,some y=>!(shares ops x y) || prec (Region.before ops) p q|_,_=>false)) l
inductive FP where
 |none
 |block (loc:Bool) (b:Nat)
 |new (loc:Bool) (b:Nat)
 |all
 |app (b:Nat)
def FP.fw:FP->Bool
 | .all=>true
 | .app _=>true
 |_=>false
def FP.KX:FP->Nat->Bool
 | .app c,b=>Nat.beq b c
 |_,_=>true
def Dd:Option Value->Nat
 |some (.slice (some a) _ _)=>a.block
 |_=>0
def De(s:St):List Operand->Option Value
 |x :: _=>bJ s x
 | []=>none
def dS(o:Op)(loc:Bool)(id tag:Nat)(s:St):FP:=
 bif bM o then .none else
 match o with
 | .alloc _ | .box _ _=>bif loc then .new true tag else .new false id
 | .buildSlice _ _ _ | .makeSlice _ _ _=>.new false id
 | .load _ x | .store _ x _=>
  match bJ s x with
  |some (.pointer (some a))=>.block a.spot.isSome a.block
  |_=>.all
 | .convert _ _ x=>
  match bJ s x with
  |some (.slice (some a) _ _)=>bif a.spot.isNone then .block false a.block else .none
  |_=>.none
 | .call { callee:=.builtin .append,args,argTypes }=>.app (Dd (De s args.toList))
 |_=>.all
def same(l l':Bool)(b b':Nat):Bool:=(l == l') && Nat.beq b b'
def cD(dD:Nat):FP->Bool->FP->Bool->Bool
 | .none,_,_,_=>false
 |_,_,.none,_=>false
 | .all,_,_,_=>true
 | .app _,_,_,_=>true
 | .block l b,wx,.all,wy=>!l && (wx || wy || !(Nat.blt b dD))
 | .block l b,wx,.app c,wy=>!l && (wx || (wy && Nat.beq b c) || !(Nat.blt b dD))
 | .new _ _,_,.all,wy=>wy
 | .new _ b,_,.app c,wy=>wy && Nat.beq b c
 | .block l b,wx,.block l' b',wy=>(wx || wy) && same l l' b b'
 | .block l b,_,.new l' b',_=>same l l' b b'
 | .new l b,_,.block l' b',_=>same l l' b b'
 | .new l b,_,.new l' b',_=>same l l' b b'
def Df(ops:Array Oper)(dD:Nat)(iB:List (Nat×FP×Bool)):Bool:=
 AB (fun(p,x,wx) (q,y,wy)=>!(cD dD x wx y wy) || prec (Region.before ops) p q) iB
def restrict(env:cW Value):List Tmp->cW Value->cW Value
 | [],acc=>acc
 |t :: r,acc=>
  match env.get t with
  |some v=>restrict env r (acc.set t v)
  |none=>restrict env r acc
def sV(kn:Nat):Value->Bool
 | .pointer (some a)=>a.spot.isNone || Nat.blt a.block kn
 |_=>true
structure Hint where
 loc:FuncId->Tmp->Bool
 dL:FuncId->Nat->Option (List Tmp)
def Bs:Hint:={ loc:=fun _ _=>false,dL:=fun _ _=>none }
def keyOf:Code->Nat
 | .region id _ _=>id
 | .seq a _=>keyOf a
 | .block _ c=>keyOf c
 | .loop c=>keyOf c+1000
 | .scope c=>keyOf c
 |_=>0
def norm(H:Hint)(f:FuncId)(c:Code)(kn:Nat)(s:St):Option St:=
 match H.dL f (keyOf c)with
 |none=>some s
 |some l=>
  let env:=restrict s.env l .leaf
  bif Nat.ble kn s.kn && l.all (fun t=>match env.get t with|some v=>sV kn v|none=>true)then some { s with env:=env,kn:=kn } else none
def se(nt:Nat)(s:St)(dst:Option Tmp)(v:Value):Option St:=
 match dst with
 |none=>some s
 |some d=>bif Nat.blt d nt then some { s with env:=s.env.set d v } else none
def jr(ops:Array Oper)(o:Oper)(s:St):Option Bool:=
 match o.guard with
 |none=>some true
 |some (j,want)=>
  match (ops[j]?).bind (·.dst)with
  |some d=>
   match s.env.get d with
   |some (.bool b)=>some (b == want)
   |some (.tuple vs)=>bif vs.toList.isEmpty then some false else none
   |_=>none
  |none=>none
def fM:List Value->Nat->cW Value->cW Value
 | [],_,acc=>acc
 |v :: r,i,acc=>fM r (i+1) (acc.set i v)
def vU(P:Program)(s:St):List ResultVar->Option (List Value)
 | []=>some []
 | .tmp t :: r=>
  match s.env.get t with
  |some v=>match vU P s r with|some l=>some (v :: l)|none=>none
  |none=>none
 | .cell a t :: r=>
  match s.env.get a with
  |some (.pointer (some x))=>
   match sT P s t x with
   |some v=>match vU P s r with|some l=>some (v :: l)|none=>none
   |none=>none
  |_=>none
def js:List Value->Value
 | [v]=>v
 |l=>.tuple l.toArray
abbrev bg:=FuncId->List Value->af->Option (Value×af)
def aW:Nat:=4611686018427387904
def kV(s:St)(c:Call):Option (FuncId×List Value):=
 match c.callee with
 | .value x=>
  match bJ s x,gX s c.args.toList with
  |some (.func (.func f) first captured),some l=>bif l.all dA && Nat.blt f aW then some (f,first.toList++l++captured.toList)else none
  |some (.func (.yield y) _ _),some l=>bif l.all dA then some (aW+y,l)else none
  |_,_=>none
 |_=>none
structure Rec where
 run:FuncId->Nat->Code->St->Option (Exit×St)
 loop:FuncId->Nat->Code->Nat->St->Option (Exit×St)
 call:FuncId->List Value->af->Option (Value×af)
abbrev cF:=FuncId->List Value->af->Option (Value×af)
def jM(call:cF)(c:Call)(s:St):Option (Value×St):=
 match kV s c with
 |some (g,args)=>
  match call g args s.h with
  |some (v,h)=>some (v,{ s with h:=h })
  |none=>none
 |none=>none
def dU:Op->Option Call
 | .call c=>
  match c.callee with
  | .value _=>some c
  |_=>none
 |_=>none
def fj(H:Hint)(f:FuncId)(o:Oper):Bool:=
 match o.dst with
 |some d=>H.loc f d
 |none=>false
def sf(P:Program)(H:Hint)(call:cF)(f:FuncId)(o:Oper)(s:St):Option (Value×St):=
 match dU o.op with
 |some c=>jM call c s
 |none=>gE P s.new (fj H f o) o.op s
def lP(P:Program)(H:Hint)(call:cF)(f:FuncId)(nt:Nat)(ops:Array Oper):List Oper->St->Option St
 | [],s=>some s
 |o :: rest,s=>
  match jr ops o s with
  |some true=>
   match sf P H call f o s with
   |some (v,s')=>
    match se nt s' o.dst v with
    |some qM=>lP P H call f nt ops rest qM
    |none=>none
   |none=>none
  |some false=>
   match se nt s o.dst undef with
   |some s'=>lP P H call f nt ops rest s'
   |none=>none
  |none=>none
def St.fresh(s:St):St:={ s with h:={ s.h with low:=s.h.next } }
def St.aB(s:St)(low:Nat):St:={ s with h:={ s.h with low:=Nat.min low s.h.low } }
def jI(P:Program)(H:Hint)(call:cF)(f:FuncId)(id tag:Nat)(o:Oper)(s:St):Option (Value×St):=
 match dU o.op with
 |some c=>jM call c s
 |none=>gE P (s.newAt id tag) (fj H f o) o.op s
def rF(P:Program)(H:Hint)(call:cF)(f:FuncId)(nt:Nat)(ops:Array Oper)(base aP:Nat):List Nat->Nat->St->Option (St×List (Nat×FP×Bool))
 | [],_,s=>some (s,[])
 |p :: rest,i,s=>
  match ops[p]? with
  |none=>none
  |some o=>
   match jr ops o s with
   |some true=>
    match jI P H call f (base+i) (aP+i) o s.fresh with
    |some (v,s')=>
     match se nt (s'.aB s.h.low) o.dst v with
     |some qM=>
      match rF P H call f nt ops base aP rest (i+1) qM with
      |some (r,iB)=>some (r,(p,dS o.op (fj H f o) (base+i) (aP+i) s,iN o.op || Nat.blt s'.h.low s.h.next) :: iB)
      |none=>none
     |none=>none
    |none=>none
   |some false=>
    match se nt s o.dst undef with
    |some s'=>
     match rF P H call f nt ops base aP rest (i+1) s' with
     |some (r,iB)=>some (r,(p,.none,false) :: iB)
     |none=>none
    |none=>none
   |none=>none
def St.jt(s:St)(n:Nat):St:={ s with kn:=s.kn+n,h:={ s.h with next:=s.h.next+n } }
def rL(P:Program)(H:Hint)(call:cF)(f:FuncId)(nt:Nat)(ops:Array Oper)(s:St):Option St:=
 bif nR ops (fY ops)then
  match rF P H call f nt ops s.h.next s.kn (fY ops) 0 (s.jt ops.size)with
  |some (s',iB)=>bif Df ops (s.h.next+ops.size) iB then some s' else none
  |none=>none
 else none
def bD:Code->Bool
 | .rangeFunc _ _ _ _=>false
 | .seq a b=>bD a && bD b
 | .cond _ a b=>bD a && bD b
 | .block _ c=>bD c
 | .loop c=>bD c
 | .scope c=>bD c
 |_=>true
def uz(s:St):Option Code->Option (Exit×St)
 |none=>some (.normal,s)
 |some .ret=>some (.ret,s)
 |some (.exit id)=>some (.exit id,s)
 |_=>none
def wq(P:Program)(g:FuncId):Bool:=
 match P.funcs[g]? with
 |some fn=>fn.body.isSome
 |none=>false
def pD(P:Program)(call:cF)(f:FuncId)(nt:Nat)(x:Operand)(ps:Array Tmp)(assign body:Code)(s:St):Option (Exit×St):=
 bif bD assign && bD body then
  match bJ s x with
  |some (.func (.func g) first captured)=>
   bif Nat.blt g aW && wq P g then
    match call g (first.toList++[.func (.yield s.h.next) #[] #[]]++captured.toList) (s.h.gW (.loop .ready none f nt (s.env.dL dA) ps.toList assign body))with
    |some (_,h)=>
     match h.m.get s.h.next with
     |some (.loop .ready nQ _ _ _ _ _ _)=>uz { s with h:=h.jl s.h.next .dead } nQ
     |some (.loop .done nQ _ _ _ _ _ _)=>uz { s with h:=h.jl s.h.next .dead } nQ
     |_=>none
    |none=>none
   else none
  |_=>none
 else none
def qN:cW Value->List Tmp->List Value->cW Value
 |env,t :: ts,v :: vs=>qN (env.set t v) ts vs
 |env,_,_=>env
def kf(y:Nat)(h:af)(jump:Option Code):Option (Value×af):=
 match h.m.get y with
 |some (.loop _ _ f nt env ps assign body)=>some (.bool jump.isNone,h.jl y (.loop (match jump with|none=>.ready|some _=>.done) jump f nt env ps assign body))
 |_=>none
def pE(run:FuncId->Nat->Code->St->Option (Exit×St))(y:Nat)(args:List Value)(h:af):Option (Value×af):=
 match h.m.get y with
 |some (.loop .ready _ f nt env ps assign body)=>
  bif Nat.beq args.length ps.length && ps.all (fun t=>Nat.blt t nt) && bD assign && bD body then
   match run f nt assign { env:=qN env ps args,kn:=0,K:=.leaf,h:=h } with
   |some (.normal,s1)=>
    match s1.h.m.get y with
    |some (.loop .ready sW f1 OJ zR OL kW sX)=>
     match run f nt body { s1 with h:=s1.h.jl y (.loop .busy sW f1 OJ zR OL kW sX) } with
     |some (.normal,s2)=>kf y s2.h none
     |some (.ret,s2)=>kf y s2.h (some .ret)
     |some (.exit id,s2)=>kf y s2.h (some (.exit id))
     |_=>none
    |_=>none
   |_=>none
  else none
 |_=>none
def nS(P:Program)(H:Hint)(r:Rec)(f:FuncId)(nt:Nat)(c:Code)(s:St):Option (Exit×St):=
 match c with
 | .skip=>some (.normal,s)
 | .ret=>some (.ret,s)
 | .exit id=>some (.exit id,s)
 | .seq a b=>
  match r.run f nt a s with
  |some (.normal,s')=>r.run f nt b s'
  |x=>x
 | .cond x a b=>
  match bJ s x with
  |some (.bool t)=>r.run f nt (bif t then a else b) s
  |_=>none
 | .block id b=>
  match r.run f nt b s with
  |some (.exit pF,s')=>bif Nat.beq pF id then some (.normal,s')else some (.exit pF,s')
  |x=>x
 | .loop b=>r.loop f nt b s.kn s
 | .region _ ops draw=>
  match (bif draw then rL P H r.call f nt ops s else lP P H r.call f nt ops ops.toList s)with
  |some s'=>some (.normal,s')
  |none=>none
 | .rangeFunc x ps assign body=>pD P r.call f nt x ps assign body s
 |_=>none
def pG(H:Hint)(r:Rec)(f:FuncId)(nt:Nat)(b:Code)(kn:Nat)(s:St):Option (Exit×St):=
 match norm H f b kn s with
 |none=>none
 |some s=>
  match r.run f nt b s with
  |some (.normal,s')=>r.loop f nt b kn s'
  |x=>x
def vV(P:Program)(fn:Func)(s:St):Option (Value×af):=
 match vU P s fn.results.toList with
 |some l=>bif l.all dA then some (js l,s.h)else none
 |none=>none
def oR(P:Program)(F:bg)(r:Rec)(g:FuncId)(args:List Value)(h:af):Option (Value×af):=
 bif Nat.ble aW g then pE r.run (g-aW) args h else
 match F g args h with
 |some x=>some x
 |none=>
  match P.funcs[g]? with
  |some fn=>
   match fn.body with
   |some c=>
    match r.run g fn.ntmps c { env:=fM args 0 .leaf,kn:=0,K:=.leaf,h:=h } with
    |some (.normal,s)=>vV P fn s
    |some (.ret,s)=>vV P fn s
    |_=>none
   |none=>none
  |none=>none
def cE(P:Program)(H:Hint)(F:bg):Nat->Rec
 |0=>⟨fun _ _ _ _=>none,fun _ _ _ _ _=>none,fun _ _ _=>none⟩
 |n+1=>⟨nS P H (cE P H F n),pG H (cE P H F n),oR P F (cE P H F n)⟩
def sY:bg:=fun _ _ _=>none
end Go.cV
namespace Go.cV
namespace cW
variable{α:Type}
theorem I2(t:cW α)(n:Nat):t.get n=bif Nat.beq n 0 then t.zQ else bif Nat.beq (n % 2) 1 then t.left.get (n / 2)else t.right.get (n / 2-1):=by
 cases t with
 |leaf=>simp only[get,zQ,left,right];cases Nat.beq n 0<;>cases Nat.beq (n % 2) 1<;>rfl
 |node l v r=>rfl
theorem sZ(l:cW α)(v:Option α)(r:cW α)(n:Nat):(cW.node l v r).get n=bif Nat.beq n 0 then v else bif Nat.beq (n % 2) 1 then l.get (n / 2)else r.get (n / 2-1):=rfl
theorem KY(x:α):∀(fuel:Nat) (t:cW α) (n m:Nat),n<fuel->(KU fuel t n x).get m=if n=m then some x else t.get m:=by
 intro fuel
 induction fuel with
 |zero=>intro t n m h;omega
 |succ f ih=>
  intro t n m h;rw[I2 t m];unfold KU;cases hn:Nat.beq n 0 with
  |true=>
   have xh:n=0:=Nat.eq_of_beq_eq_true hn;subst xh;simp only[cond_true,sZ];cases hm:Nat.beq m 0 with
   |true=>have:=Nat.eq_of_beq_eq_true hm;subst this;simp
   |false=>have:=Nat.ne_of_beq_eq_false hm;simp[Ne.symm this]
  |false=>
   have xh:=Nat.ne_of_beq_eq_false hn;simp only[cond_false];cases ho:Nat.beq (n % 2) 1 with
   |true=>
    have YW:n % 2=1:=Nat.eq_of_beq_eq_true ho;simp only[cond_true,sZ];cases hm:Nat.beq m 0 with
    |true=>have:=Nat.eq_of_beq_eq_true hm;subst this;simp[xh]
    |false=>
     simp only[cond_false];cases U5:Nat.beq (m % 2) 1 with
     |true=>
      have QZ:m % 2=1:=Nat.eq_of_beq_eq_true U5;simp only[cond_true];rw[ih t.left (n / 2) (m / 2) (by omega)];by_cases e:n=m
      ·simp[e]
      ·have:¬n / 2=m / 2:=by omega
       simp[e,this]
     |false=>
      have hme:=Nat.ne_of_beq_eq_false U5;simp only[cond_false];have:¬n=m:=by intro e;subst e;exact hme YW
      simp[this]
   |false=>
    have U6:=Nat.ne_of_beq_eq_false ho;simp only[cond_false,sZ];cases hm:Nat.beq m 0 with
    |true=>have:=Nat.eq_of_beq_eq_true hm;subst this;simp[xh]
    |false=>
     have O8:=Nat.ne_of_beq_eq_false hm;simp only[cond_false];cases U5:Nat.beq (m % 2) 1 with
     |true=>
      have QZ:m % 2=1:=Nat.eq_of_beq_eq_true U5;simp only[cond_true];have:¬n=m:=by intro e;subst e;exact U6 QZ
      simp[this]
     |false=>
      have hme:=Nat.ne_of_beq_eq_false U5;simp only[cond_false];rw[ih t.right (n / 2-1) (m / 2-1) (by omega)];by_cases e:n=m
      ·simp[e]
      ·have:¬n / 2-1=m / 2-1:=by omega
       simp[e,this]
theorem bO(t:cW α)(n m:Nat)(x:α):(t.set n x).get m=if n=m then some x else t.get m:=KY x (n+1) t n m (by omega)
theorem gY(t:cW α)(n:Nat)(x:α):(t.set n x).get n=some x:=by rw[bO];simp
theorem xi(p:α->Bool):∀(t:cW α) (n:Nat) (x:α),(t.dL p).get n=some x->t.get n=some x/\p x=true
 | .leaf,n,x,h=>by simp[dL,get]at h
 | .node l v r,n,x,h=>by
  simp only[dL,sZ]at h ⊢;cases h0:Nat.beq n 0 with
  |true=>
   simp only[h0,cond_true]at h ⊢;cases v with
   |none=>cases h
   |some y=>
    cases hp:p y with
    |false=>simp[hp]at h
    |true=>simp[hp]at h;subst h;exact⟨rfl,hp⟩
  |false=>
   simp only[h0,cond_false]at h ⊢;cases h1:Nat.beq (n % 2) 1 with
   |true=>simp only[h1,cond_true]at h ⊢;exact xi p l _ x h
   |false=>simp only[h1,cond_false]at h ⊢;exact xi p r _ x h
theorem aT(t:cW α){n m:Nat}(x:α)(h:n≠m):(t.set n x).get m=t.get m:=by rw[bO];simp[h]
theorem xj(g:Nat->Option α):∀N,∃t:cW α,∀n,t.get n=if n<N then g n else none
 |0=>⟨.leaf,fun n=>by simp[get]⟩
 |N+1=>by
  obtain⟨t,ht⟩:=xj g N;cases hg:g N with
  |none=>
   refine⟨t,fun n=>?_⟩;rw[ht n];by_cases h:n<N
   ·simp[h,show n<N+1 by omega]
   ·by_cases h':n=N
    ·subst h';simp[hg]
    ·simp[h,show ¬n<N+1 by omega]
  |some x=>
   refine⟨t.set N x,fun n=>?_⟩;rw[bO,ht n];by_cases h':N=n
   ·subst h';simp[hg]
   ·by_cases h:n<N
    ·simp[h',h,show n<N+1 by omega]
    ·simp[h',h,show ¬n<N+1 by omega]
end cW
structure Loc where
 b:Nat
 o:Nat
 AD:Nat
 es:Nat
inductive VG(g:Nat->Option Loc):Value->Value->Prop
 |flat (v:Value) (h:bm v=true):VG g v v
 |zS (c:Value):VG g (.chan none) c
 |ptr (a:Addr) (L:Loc) (hs:a.spot=none) (h:g a.block=some L):VG g (.pointer (some a)) (.pointer (some ⟨L.b,L.o+a.off,none⟩))
 |gP (a:Addr) (L:Loc) (len c:Nat) (hs:a.spot=none) (h:g a.block=some L) (hc:c<aS):VG g (.slice (some a) len c) (.slice (some ⟨L.b,L.o+a.off,none⟩) len c)
 |gZ (a:Addr) (L:Loc) (len m c:Nat) (hs:a.spot=none) (h:g a.block=some L) (hm:m<=c) (Q1:m<aS) (ht:L.o+a.off+c*L.es<=L.AD):VG g (.slice (some a) len (az L.es m)) (.slice (some ⟨L.b,L.o+a.off,none⟩) len c)
 |kC (a a':Addr) (x:Nat) (hs:a.spot=some x):VG g (.slice (some a) 0 0) (.slice (some a') 0 0)
 |jN (a a':Addr) (x c:Nat) (hs:a.spot=some x):VG g (.slice (some a) 0 aS) (.slice (some a') 0 c)
 |xk (id:Nat) (L:Loc) (h:g id=some L):VG g (.map (some id)) (.map (some L.b))
 |yield (y:Nat) (L:Loc) (h:g y=some L):VG g (.func (.yield y) #[] #[]) (.func (.yield L.b) #[] #[])
 |func (f:FuncId) (x y x' y':Array Value) (hx:x.toList.length=x'.toList.length) (hy:y.toList.length=y'.toList.length)
   (h1:∀(i:Nat) (u v:Value),x.toList[i]?=some u->x'.toList[i]?=some v->VG g u v) (h2:∀(i:Nat) (u v:Value),y.toList[i]?=some u->y'.toList[i]?=some v->VG g u v):VG g (.func (.func f) x y) (.func (.func f) x' y')
 |agg (x x':Array Value) (hx:x.toList.length=x'.toList.length) (h1:∀(i:Nat) (u v:Value),x.toList[i]?=some u->x'.toList[i]?=some v->VG g u v):VG g (.agg x) (.agg x')
 |tuple (x x':Array Value) (hx:x.toList.length=x'.toList.length) (h1:∀(i:Nat) (u v:Value),x.toList[i]?=some u->x'.toList[i]?=some v->VG g u v):VG g (.tuple x) (.tuple x')
structure dM where
 g:Nat->Option Loc
 l:Nat->Option Loc
inductive VR(J:dM):Value->Value->Prop
 |c7 (v c:Value) (h:VG J.g v c):VR J v c
 |loc (a:Addr) (x:Nat) (L:Loc) (hs:a.spot=some x) (h:J.l a.block=some L):VR J (.pointer (some a)) (.pointer (some ⟨L.b,L.o+a.off,none⟩))
def fJ(g:Nat->Option Loc)(l l':List Value):Prop:=l.length=l'.length/\∀(i:Nat) (u v:Value),l[i]?=some u->l'[i]?=some v->VG g u v
theorem VG.mono{g g':Nat->Option Loc}(hg:∀id L,g id=some L->g' id=some L){v c:Value}(h:VG g v c):VG g' v c:=by
 induction h with
 |flat v h=>exact .flat v h
 |zS c=>exact .zS c
 |ptr a L hs h=>exact .ptr a L hs (hg _ _ h)
 |gP a L len c hs h hc=>exact .gP a L len c hs (hg _ _ h) hc
 |gZ a L len m c hs h hm Q1 ht=>exact .gZ a L len m c hs (hg _ _ h) hm Q1 ht
 |kC a a' x hs=>exact .kC a a' x hs
 |jN a a' x c hs=>exact .jN a a' x c hs
 |xk id L h=>exact .xk id L (hg _ _ h)
 |yield y L h=>exact .yield y L (hg _ _ h)
 |func fn x y x' y' hx hy h1 h2 YX YY=>exact .func fn x y x' y' hx hy YX YY
 |agg x x' hx h1 ih=>exact .agg x x' hx ih
 |tuple x x' hx h1 ih=>exact .tuple x x' hx ih
theorem fJ.mono{g g':Nat->Option Loc}(hg:∀id L,g id=some L->g' id=some L){l l':List Value}(h:fJ g l l'):fJ g' l l':=
 ⟨h.1,fun i u v hu hv=>(h.2 i u v hu hv).mono hg⟩
theorem fJ.nil(g:Nat->Option Loc):fJ g [] []:=⟨rfl,fun i u v h=>by simp at h⟩
theorem fJ.cons{g:Nat->Option Loc}{u v:Value}{l l':List Value}(h:VG g u v)(hl:fJ g l l'):fJ g (u :: l) (v :: l'):=by
 refine⟨by simp[hl.1],fun i x y hx hy=>?_⟩;cases i with
 |zero=>simp at hx hy;subst hx;subst hy;exact h
 |succ i=>simp at hx hy;exact hl.2 i x y hx hy
theorem fJ.head{g:Nat->Option Loc}{u:Value}{l c:List Value}(h:fJ g (u :: l) c):∃v l',c=v :: l'/\VG g u v/\fJ g l l':=by
 cases c with
 |nil=>have:=h.1;simp at this
 |cons v l'=>exact⟨v,l',rfl,h.2 0 u v rfl rfl,⟨by have:=h.1;simpa using this,fun i x y hx hy=>h.2 (i+1) x y (by simpa using hx) (by simpa using hy)⟩⟩
theorem fJ.iX{g:Nat->Option Loc}{c:List Value}(h:fJ g [] c):c=[]:=by
 cases c with
 |nil=>rfl
 |cons _ _=>have:=h.1;simp at this
theorem fJ.append{g:Nat->Option Loc}{a b c d:List Value}(h:fJ g a c)(h':fJ g b d):fJ g (a++b) (c++d):=by
 induction a generalizing c with
 |nil=>rw[h.iX];exact h'
 |cons u a ih=>obtain⟨v,l',rfl,hv,hl⟩:=h.head;exact .cons hv (ih hl)
theorem fJ.take{g:Nat->Option Loc}{a c:List Value}(h:fJ g a c)(n:Nat):fJ g (a.take n) (c.take n):=by
 refine⟨by simp[h.1],fun i x y hx hy=>?_⟩;rw[List.getElem?_take]at hx hy;by_cases hi:i<n
 ·simp[hi]at hx hy;exact h.2 i x y hx hy
 ·simp[hi]at hx
theorem fJ.drop{g:Nat->Option Loc}{a c:List Value}(h:fJ g a c)(n:Nat):fJ g (a.drop n) (c.drop n):=by
 refine⟨by simp[h.1],fun i x y hx hy=>?_⟩;rw[List.getElem?_drop]at hx hy;exact h.2 _ x y hx hy
theorem fJ.agg{g:Nat->Option Loc}{l l':List Value}(h:fJ g l l'):VG g (.agg l.toArray) (.agg l'.toArray):=.agg _ _ (by simpa using h.1) (fun i u v hu hv=>h.2 i u v (by simpa using hu) (by simpa using hv))
theorem fJ.tuple{g:Nat->Option Loc}{l l':List Value}(h:fJ g l l'):VG g (.tuple l.toArray) (.tuple l'.toArray):=.tuple _ _ (by simpa using h.1) (fun i u v hu hv=>h.2 i u v (by simpa using hu) (by simpa using hv))
theorem fJ.flat{g:Nat->Option Loc}{l:List Value}(h:l.all bm=true):fJ g l l:=by
 refine⟨rfl,fun i u v hu hv=>?_⟩;rw[hu]at hv;obtain rfl:=Option.some.inj hv;exact .flat u (by simp only[List.all_eq_true]at h;exact h u (List.mem_of_getElem? hu))
theorem VG.of_flat{g:Nat->Option Loc}{v:Value}(h:cV.flat v=true):VG g v v:=by
 cases v with
 |agg cs=>simp only[cV.flat]at h;have:=fJ.flat (g:=g) h;exact .agg _ _ rfl this.2
 |tuple cs=>
  simp only[cV.flat]at h;refine .tuple _ _ rfl fun i u v hu hv=>?_
  simp only[List.isEmpty_iff]at h;rw[h]at hu;simp at hu
 |_=>exact .flat _ (by simpa[cV.flat]using h)
section inv
variable{g:Nat->Option Loc}{c:Value}
theorem VG.bool{b:Bool}(h:VG g (.bool b) c):c=.bool b:=by cases h;rfl
theorem VG.int{k:IntKind}{n:Int}(h:VG g (.int k n) c):c=.int k n:=by cases h;rfl
theorem VG.string{s:ByteArray}(h:VG g (.string s) c):c=.string s:=by cases h;rfl
theorem VG.pH(h:VG g (.pointer none) c):c=.pointer none:=by cases h;rfl
theorem VG.nilFunc(h:VG g .nilFunc c):c=.nilFunc:=by cases h;rfl
theorem VG.Bu(h:VG g (.map none) c):c=.map none:=by cases h;rfl
theorem VG.fx{n m:Nat}(h:VG g (.slice none n m) c):n=0/\m=0/\c=.slice none 0 0:=by
 cases h with
 |flat _ h=>unfold bm at h;split at h<;>simp_all
theorem VG.Dg{x:Array Value}(h:VG g (.agg x) c):∃y,c=.agg y/\fJ g x.toList y.toList:=by
 cases h with
 |flat _ h=>simp[bm]at h
 |agg _ x' hx h1=>exact⟨x',rfl,hx,h1⟩
theorem VG.KZ{x:Array Value}(h:VG g (.tuple x) c):∃y,c=.tuple y/\fJ g x.toList y.toList:=by
 cases h with
 |flat _ h=>simp[bm]at h
 |tuple _ x' hx h1=>exact⟨x',rfl,hx,h1⟩
theorem VG.K0{f:FuncId}{x y:Array Value}(h:VG g (.func (.func f) x y) c):∃x' y',c=.func (.func f) x' y'/\fJ g x.toList x'.toList/\fJ g y.toList y'.toList:=by
 cases h with
 |flat _ h=>simp[bm]at h
 |func _ _ _ x' y' hx hy h1 h2=>exact⟨x',y',rfl,⟨hx,h1⟩,⟨hy,h2⟩⟩
theorem VG.wu{fn:Fn}{x y:Array Value}(h:VG g (.func fn x y) c):∃Q2 x' y',c=.func Q2 x' y':=by
 cases h with
 |flat _ h=>simp[bm]at h
 |func _ _ _ x' y' hx hy h1 h2=>exact⟨_,x',y',rfl⟩
 |yield _ _ _=>exact⟨_,_,_,rfl⟩
theorem VG.O9{id:Nat}(h:VG g (.map (some id)) c):∃L,g id=some L/\c=.map (some L.b):=by
 cases h with
 |flat _ h=>simp[bm]at h
 |xk _ L h=>exact⟨L,h,rfl⟩
theorem VG.Sd{y:Nat}{u v:Array Value}(h:VG g (.func (.yield y) u v) c):∃L,g y=some L/\c=.func (.yield L.b) #[] #[]/\u=#[]/\v=#[]:=by
 cases h with
 |flat _ h=>simp[bm]at h
 |yield _ L h=>exact⟨L,h,rfl,rfl,rfl⟩
theorem VG.pI{a:Addr}(h:VG g (.pointer (some a)) c):a.spot=none/\∃L,g a.block=some L/\c=.pointer (some ⟨L.b,L.o+a.off,none⟩):=by
 cases h with
 |flat _ h=>simp[bm]at h
 |ptr _ L hs h=>exact⟨hs,L,h,rfl⟩
theorem VG.dV{a:Addr}{len k:Nat}(h:VG g (.slice (some a) len k) c):(a.spot=none/\∃L c',g a.block=some L/\c=.slice (some ⟨L.b,L.o+a.off,none⟩) len c' /\
  ((k<aS/\c'=k)\/∃m,k=az L.es m/\m<aS/\m<=c'/\L.o+a.off+c'*L.es<=L.AD))\/(len=0/\(∃x,a.spot=some x)/\∃a' c',c=.slice (some a') 0 c'/\(k=0/\c'=0\/k=aS)):=by
 cases h with
 |flat _ h=>simp[bm]at h
 |gP _ L _ _ hs h hc=>exact .inl ⟨hs,L,k,h,rfl,.inl ⟨hc,rfl⟩⟩
 |gZ _ L _ m c' hs h hm Q1 ht=>exact .inl ⟨hs,L,c',h,rfl,.inr ⟨m,rfl,Q1,hm,ht⟩⟩
 |kC _ a' x hs=>exact .inr ⟨rfl,⟨x,hs⟩,a',0,rfl,.inl ⟨rfl,rfl⟩⟩
 |jN _ a' x c' hs=>exact .inr ⟨rfl,⟨x,hs⟩,a',c',rfl,.inr rfl⟩
theorem VG.pJ{a:Addr}{len k:Nat}(h:VG g (.slice (some a) len k) c)(hs:a.spot=none):a.spot=none/\∃L c',g a.block=some L/\c=.slice (some ⟨L.b,L.o+a.off,none⟩) len c' /\
  ((k<aS/\c'=k)\/∃m,k=az L.es m/\m<aS/\m<=c'/\L.o+a.off+c'*L.es<=L.AD):=by
 rcases h.dV with h|⟨_,⟨x,h⟩,_⟩
 ·exact h
 ·rw[hs]at h;cases h
theorem VG.Se{a:Addr}{len k:Nat}(h:VG g (.slice (some a) len k) c)(hk:len≠0\/k≠0/\k≠aS):a.spot=none/\∃L c',g a.block=some L/\c=.slice (some ⟨L.b,L.o+a.off,none⟩) len c' /\
  ((k<aS/\c'=k)\/∃m,k=az L.es m/\m<aS/\m<=c'/\L.o+a.off+c'*L.es<=L.AD):=by
 rcases h.dV with h|⟨h1,_,_,_,_,h2⟩
 ·exact h
 ·omega
theorem VG.Sf(h:VG g undef c):c=undef:=by
 obtain⟨y,rfl,hy⟩:=VG.KZ h;have:=hy.iX;simp at this;simp[undef,this]
end inv
theorem gp:0<aS:=by unfold aS;omega
theorem ft{a b:Nat}(h:b<a):Nat.ble a b=false:=by
 cases hb:Nat.ble a b with
 |false=>rfl
 |true=>have:=Nat.le_of_ble_eq_true hb;omega
theorem bz{a b:Nat}(h:a<=b):Nat.ble a b=true:=Nat.ble_eq_true_of_le h
theorem eE{a b:Nat}(h:a<b):Nat.blt a b=true:=Nat.ble_eq_true_of_le h
theorem cJ{a b:Nat}(h:b<=a):Nat.blt a b=false:=ft (by omega)
theorem fu{c:Nat}(h:c<aS):cO c=c:=Nat.mod_eq_of_lt h
theorem cA{es m:Nat}(h:m<aS):cO (az es m)=m:=by
 unfold cO az;rw[Nat.mul_add_mod];exact Nat.mod_eq_of_lt h
theorem dB(es m:Nat):aS<=az es m:=by
 unfold az;have:aS*1<=aS*(es+1):=Nat.mul_le_mul_left _ (by omega);omega
theorem kg{es m:Nat}(h:m<aS):az es m / aS=es+1:=by
 unfold az;rw[Nat.mul_add_div gp,Nat.div_eq_of_lt h]
theorem VG.iJ{g:Nat->Option Loc}{a:Option Addr}{len k:Nat}{c:Value}(h:VG g (.slice a len k) c):∃a' c',c=.slice a' len c'/\cO k<=c':=by
 cases a with
 |none=>obtain⟨rfl,rfl,rfl⟩:=h.fx;exact⟨none,0,rfl,by rw[fu gp];exact Nat.le_refl _⟩
 |some a=>
  rcases h.dV with ⟨_,L,c',_,rfl,h2⟩|⟨rfl,_,a',c',rfl,hk⟩
  rotate_left
  ·refine⟨_,c',rfl,?_⟩
   rcases hk with ⟨rfl,rfl⟩|rfl
   ·rw[fu gp];exact Nat.le_refl _
   ·simp[cO]
  refine⟨_,c',rfl,?_⟩;rcases h2 with ⟨h2,rfl⟩|⟨m,rfl,h2,h3,_⟩
  ·rw[fu h2];exact Nat.le_refl _
  ·rw[cA h2];exact h3
theorem VR.pK{J:dM}{v c:Value}(h:VR J v c)(hn:dA v=true):VG J.g v c:=by
 cases h with
 |c7 _ _ h=>exact h
 |loc a x L hs h=>simp[dA,hs]at hn
def dM.at(J:dM)(a:Addr):Option Loc:=
 match a.spot with
 |none=>J.g a.block
 |some _=>J.l a.block
theorem VR.pI{J:dM}{a:Addr}{c:Value}(h:VR J (.pointer (some a)) c):∃L,J.at a=some L/\c=.pointer (some ⟨L.b,L.o+a.off,none⟩):=by
 cases h with
 |c7 _ _ h=>obtain⟨hs,L,hL,rfl⟩:=h.pI;exact⟨L,by simp[dM.at,hs,hL],rfl⟩
 |loc _ x L hs h=>exact⟨L,by simp[dM.at,hs,h],rfl⟩
theorem VR.K3{J:dM}{a:Addr}{L:Loc}(h:J.at a=some L)(n:Nat):VR J (.pointer (some (gi a n))) (.pointer (some ⟨L.b,L.o+a.off+n,none⟩)):=by
 cases hs:a.spot with
 |none=>
  simp only[dM.at,hs]at h;have:=VG.ptr (g:=J.g) (gi a n) L (by simp[gi,hs]) (by simpa[gi]using h);exact .c7 _ _ (by simpa[gi,Nat.add_assoc]using this)
 |some x=>
  simp only[dM.at,hs]at h;have:=VR.loc (J:=J) (gi a n) x L (by simp[gi,hs]) (by simpa[gi]using h);simpa[gi,Nat.add_assoc]using this
theorem VR.aZ{J:dM}{v c:Value}(h:VR J v c)(hv:∀a,v≠.pointer (some a)):VG J.g v c:=by
 cases h with
 |c7 _ _ h=>exact h
 |loc a x L hs h=>exact absurd rfl (hv a)
theorem zT{v:Value}(h:bm v=true):v.oneCell'=true:=by
 cases v<;>simp_all [bm,Value.oneCell']
theorem VG.Hv{g:Nat->Option Loc}{v c:Value}(h:VG g v c)(hv:aF v=true):c.oneCell'=true:=by
 cases h with
 |flat _ h=>exact zT h
 |zS=>simp[aF]at hv
 |agg=>simp[aF]at hv
 |tuple=>simp[aF]at hv
 |_=>rfl
theorem VR.cells{J:dM}{v c:Value}(h:VR J v c)(hv:v.cells.toList.all aF=true):fJ J.g v.cells.toList c.cells.toList:=by
 cases h with
 |loc a x L hs h=>simp[Value.cells,aF,hs]at hv
 |c7 _ _ h=>
  cases h with
  |agg x x' hx h1=>exact⟨hx,h1⟩
  |zS=>simp[Value.cells,aF]at hv
  |flat v h=>
   cases v with
   |agg=>simp[bm]at h
   |_=>exact .cons (.flat _ h) (.nil _)
  |ptr a L hs h=>exact .cons (.ptr a L hs h) (.nil _)
  |gP a L len c hs h hc=>exact .cons (.gP a L len c hs h hc) (.nil _)
  |gZ a L len m c hs h hm Q1 ht=>exact .cons (.gZ a L len m c hs h hm Q1 ht) (.nil _)
  |kC a a' x hs=>exact .cons (.kC a a' x hs) (.nil _)
  |jN a a' x c hs=>exact .cons (.jN a a' x c hs) (.nil _)
  |xk id L h=>exact .cons (.xk id L h) (.nil _)
  |yield y L h=>exact .cons (.yield y L h) (.nil _)
  |func fn x y x' y' hx hy h1 h2=>exact .cons (.func fn x y x' y' hx hy h1 h2) (.nil _)
  |tuple x x' hx h1=>exact .cons (.tuple x x' hx h1) (.nil _)
def CR(g:Nat->Option Loc)(cells:List Value)(cs:Array Value)(o:Nat):Prop:=∀(i:Nat) (v:Value),cells[i]?=some v->∃c,cs[o+i]?=some c/\VG g v c
theorem CR.mono{g g':Nat->Option Loc}(hg:∀id L,g id=some L->g' id=some L){cells:List Value}{cs:Array Value}{o:Nat}(h:CR g cells cs o):CR g' cells cs o:=
 fun i v hv=>let⟨c,h1,h2⟩:=h i v hv;⟨c,h1,h2.mono hg⟩
theorem CR.Bv{g:Nat->Option Loc}{cells cs:List Value}(h:fJ g cells cs):CR g cells cs.toArray 0:=fun i v hv=>by
 have hi:i<cs.length:=by rw[<-h.1];exact(List.getElem?_eq_some_iff.1 hv).1
 exact⟨cs[i],by simp[hi],h.2 i v _ hv (by simp[hi])⟩
theorem CR.size{g:Nat->Option Loc}{cells:List Value}{cs:Array Value}{o:Nat}(h:CR g cells cs o)(eO:cells≠[]):o+cells.length<=cs.size:=by
 have hl:0<cells.length:=List.length_pos_iff.2 eO;obtain⟨c,hc,_⟩:=h (cells.length-1) (cells[cells.length-1]'(by omega)) (by simp);have:=(Array.getElem?_eq_some_iff.1 hc).1;omega
theorem nT{cs:List Value}{off n:Nat}{l:List Value}(h:ke cs off n=some l):l.length=n/\∀i,i<n->l[i]?=cs[off+i]?:=by
 unfold ke at h;simp only[]at h;cases hb:Nat.beq ((cs.drop off).take n).length n with
 |false=>rw[hb]at h;simp at h
 |true=>
  rw[hb]at h;simp only[cond_true,oi]at h;subst h;have hl:=Nat.eq_of_beq_eq_true hb;exact⟨hl,fun i hi=>by rw[List.getElem?_take,if_pos hi,List.getElem?_drop]⟩
theorem CR.read{g:Nat->Option Loc}{cells:List Value}{cs:Array Value}{o off n:Nat}{l:List Value}(h:CR g cells cs o)(hl:ke cells off n=some l) :
  ∃l',fJ g l l'/\l'.length=n/\∀(j:Nat) (v:Value),l'[j]?=some v->cs[o+off+j]?=some v:=by
 obtain⟨h1,h2⟩:=nT hl;refine⟨(List.range n).map fun j=>(cs[o+off+j]?).getD undef,⟨by simp[h1],fun i u v hu hv=>?_⟩,by simp,fun j v hv=>?_⟩
 ·have hi:i<n:=by rw[<-h1];exact(List.getElem?_eq_some_iff.1 hu).1
  rw[h2 i hi]at hu;obtain⟨c,hc,hg⟩:=h _ _ hu;simp only[List.getElem?_map,List.getElem?_range hi,Option.map_some,oi]at hv;rw[<-hv,Nat.add_assoc,hc];exact hg
 ·have hj:j<n:=by have:=(List.getElem?_eq_some_iff.1 hv).1;simpa using this
  simp only[List.getElem?_map,List.getElem?_range hj,Option.map_some,oi]at hv;have hx:cells[off+j]?=some (l[j]'(by omega)):=by rw[<-h2 j hj];simp[h1,hj]
  obtain⟨c,hc,_⟩:=h _ _ hx;rw[Nat.add_assoc,hc]at hv ⊢;simp at hv;rw[hv]
theorem mw{cs:List Value}{off:Nat}{vs lE:List Value}(h:mM cs off vs=some lE):off+vs.length<=cs.length/\lE=cs.take off++(vs++cs.drop (off+vs.length)):=by
 unfold mM at h;cases hb:Nat.ble (off+vs.length) cs.length with
 |false=>rw[hb]at h;simp at h
 |true=>rw[hb]at h;simp only[cond_true,oi]at h;exact⟨Nat.le_of_ble_eq_true hb,h.symm⟩
def iR(cs:Array Value)(at_:Nat)(vs:List Value):Array Value:=(cs.toList.take at_++vs++cs.toList.drop (at_+vs.length)).toArray
theorem pL{cs:Array Value}{at_:Nat}{vs:List Value}(h:at_+vs.length<=cs.size):(iR cs at_ vs).size=cs.size:=by
 simp[iR];omega
theorem lQ{cs:Array Value}{at_:Nat}{vs:List Value}(h:at_+vs.length<=cs.size)(i:Nat) :
  (iR cs at_ vs)[i]?=if at_<=i/\i<at_+vs.length then vs[i-at_]? else cs[i]?:=by
 simp only[iR,List.getElem?_toArray];have ht:(cs.toList.take at_).length=at_:=by simp;omega
 by_cases h1:i<at_
 ·rw[List.append_assoc,List.getElem?_append_left (by omega),List.getElem?_take,if_pos h1,if_neg (by omega)]
  simp
 ·by_cases h2:i<at_+vs.length
  ·rw[List.append_assoc,List.getElem?_append_right (by omega),ht,List.getElem?_append_left (by omega),if_pos ⟨by omega,h2⟩]
  ·rw[List.getElem?_append_right (by simp;omega),List.getElem?_drop,if_neg (by omega)]
   simp only[List.length_append,ht];rw[show at_+vs.length+(i-(at_+vs.length))=i by omega];simp
theorem CR.put{g:Nat->Option Loc}{cells:List Value}{cs:Array Value}{o off:Nat}{vs us jO:List Value}(h:CR g cells cs o)(hv:fJ g vs us)(hs:mM cells off vs=some jO)
  (hz:o+off+us.length<=cs.size):CR g jO (iR cs (o+off) us) o:=by
 obtain⟨h1,rfl⟩:=mw hs;intro i v hi;have ht:(cells.take off).length=off:=by simp;omega
 rw[lQ hz];by_cases c1:i<off
 ·rw[List.getElem?_append_left (by omega),List.getElem?_take,if_pos c1]at hi
  rw[if_neg (by omega)];exact h i v hi
 ·by_cases c2:i<off+vs.length
  ·rw[List.getElem?_append_right (by omega),ht,List.getElem?_append_left (by omega)]at hi
   rw[if_pos ⟨by omega,by rw[<-hv.1];omega⟩,show o+i-(o+off)=i-off by omega];have dW:i-off<us.length:=by rw[<-hv.1];omega
   exact⟨us[i-off],by simp[dW],hv.2 _ _ _ hi (by simp[dW])⟩
  ·rw[List.getElem?_append_right (by omega),ht,List.getElem?_append_right (by omega),List.getElem?_drop]at hi
   rw[if_neg (by rw[<-hv.1];omega)];exact h i v (by rw[<-hi];congr 1;omega)
def MR(g:Nat->Option Loc)(es:List (Value×Value))(mA:List MapEntry):Prop:=
 es.length=mA.length/\∀(i:Nat) (e:Value×Value) (c:MapEntry),es[i]?=some e->mA[i]?=some c->c.key=e.1/\VG g e.2 c.val
def TR(g:Nat->Option Loc)(env:cW Value)(tmps:Array Value):Prop:=∀t v,env.get t=some v->t<tmps.size/\VG g v (tmps.getD t undef)
def BR(g:Nat->Option Loc)(b:C7)(L:Loc)(o:Option Obj):Prop:=
 match b with
 | .dead=>True
 | .live wr es cells=>L.es=es/\∃cs e fr,o=some (.cells cs e fr)/\CR g cells cs L.o/\(wr=true->fr=(0,0))
 | .map es=>∃mA clock,o=some (.map mA clock)/\MR g es mA.toList
 | .loop st nQ _ nt env ps assign body=>∃fn tmps params D,o=some (.loop { state:=st,pending:=nQ,fn:=fn,tmps:=tmps,params:=params,assign:=assign,body:=body,defers:=D })/\params.toList=ps/\nt<=tmps.size/\TR g env tmps
theorem MR.mono{g g':Nat->Option Loc}(hg:∀id L,g id=some L->g' id=some L){es:List (Value×Value)}{mA:List MapEntry}(h:MR g es mA):MR g' es mA:=
 ⟨h.1,fun i e c he hc=>⟨(h.2 i e c he hc).1,(h.2 i e c he hc).2.mono hg⟩⟩
theorem TR.mono{g g':Nat->Option Loc}(hg:∀id L,g id=some L->g' id=some L){env:cW Value}{tmps:Array Value}(h:TR g env tmps):TR g' env tmps:=
 fun t v hv=>⟨(h t v hv).1,(h t v hv).2.mono hg⟩
theorem BR.mono{g g':Nat->Option Loc}(hg:∀id L,g id=some L->g' id=some L){b:C7}{L:Loc}{o:Option Obj}(h:BR g b L o):BR g' b L o:=by
 cases b with
 |dead=>trivial
 |live wr es cells=>obtain⟨h1,cs,e,fr,h2,h3,h4⟩:=h;exact⟨h1,cs,e,fr,h2,h3.mono hg,h4⟩
 |map es=>obtain⟨mA,clock,h1,h2⟩:=h;exact⟨mA,clock,h1,h2.mono hg⟩
 |loop st nQ f nt env ps assign body=>obtain⟨fn,tmps,params,D,h1,h2,h3,h4⟩:=h;exact⟨fn,tmps,params,D,h1,h2,h3,h4.mono hg⟩
structure HR(J:dM)(s:St)(w:World):Prop where
 cU:∀id L,J.g id=some L->id<s.h.next
 dm:∀id L,J.g id=some L->∃o,w.heap[L.b]?=some o/\∀cs e fr,o=.cells cs e fr->cs.size=L.AD
 cK:∀id L b,J.g id=some L->s.h.m.get id=some b->BR J.g b L w.heap[L.b]?
 dn:∀id pF L L' b b',J.g id=some L->J.g pF=some L'->s.h.m.get id=some b->s.h.m.get pF=some b'->b.alive=true->b'.alive=true->L.b=L'.b->id=pF
 fe:∀t L,J.l t=some L->t<s.kn
 dX:∀t L,J.l t=some L->∃cs e,w.heap[L.b]?=some (.cells cs e (0,0))/\∀cells,s.K.get t=some cells->CR J.g cells cs L.o
 ff:∀t t' L L',J.l t=some L->J.l t'=some L'->L.b=L'.b->t=t'
 sep:∀id t L L',J.g id=some L->J.l t=some L'->L.b≠L'.b
structure Good(J:dM)(s:St)(w:World)(J':dM)(s':St)(w':World):Prop where
 hr:HR J' s' w'
 mono:∀id L,J.g id=some L->J'.g id=some L
 next:s.h.next<=s'.h.next
 low:s'.h.low<=s.h.low
 size:w.heap.size<=w'.heap.size
 os:w'.os=w.os
 tape:w'.tape=w.tape
 output:w'.output=w.output
 fresh:∀id L,J'.g id=some L->J.g id=none->w.heap.size<=L.b\/∃Fm L0,J.g Fm=some L0/\L0.b=L.b/\s'.h.low<=Fm
 cL:∀t L,J'.l t=some L->w.heap.size<=L.b\/∃t0 L0,J.l t0=some L0/\L0.b=L.b
 frame:∀b,b<w.heap.size->(∀id L,J.g id=some L->L.b=b->id<s'.h.low)->(∀t L,J.l t=some L->L.b≠b)->w'.heap[b]?=w.heap[b]?
theorem HR.lt{J:dM}{s:St}{w:World}(h:HR J s w){id:Nat}{L:Loc}(hL:J.g id=some L):L.b<w.heap.size:=by
 obtain⟨o,hw,_⟩:=h.dm id L hL;exact(Array.getElem?_eq_some_iff.1 hw).1
theorem HR.K4{J:dM}{s:St}{w:World}(h:HR J s w){t:Nat}{L:Loc}(hL:J.l t=some L):L.b<w.heap.size:=by
 obtain⟨cs,e,hw,_⟩:=h.dX t L hL;exact(Array.getElem?_eq_some_iff.1 hw).1
theorem Good.refl{J:dM}{s:St}{w:World}(h:HR J s w):Good J s w J s w where
 hr:=h
 mono:=fun _ _ h=>h
 next:=Nat.le_refl _
 low:=Nat.le_refl _
 size:=Nat.le_refl _
 os:=rfl
 tape:=rfl
 output:=rfl
 fresh:=fun id L h1 h2=>by rw[h2]at h1;cases h1
 cL:=fun t L h1=>.inr ⟨t,L,h1,rfl⟩
 frame:=fun _ _ _ _=>rfl
theorem Good.trans{J J1 J2:dM}{s s1 s2:St}{w w1 w2:World}(h:Good J s w J1 s1 w1)(k:Good J1 s1 w1 J2 s2 w2):Good J s w J2 s2 w2 where
 hr:=k.hr
 mono:=fun id L hL=>k.mono _ _ (h.mono _ _ hL)
 next:=Nat.le_trans h.next k.next
 low:=Nat.le_trans k.low h.low
 size:=Nat.le_trans h.size k.size
 os:=k.os.trans h.os
 tape:=k.tape.trans h.tape
 output:=k.output.trans h.output
 fresh:=fun id L hL hn=>by
  cases h1:J1.g id with
  |some L1=>
   have:=k.mono _ _ h1;rw[hL]at this;obtain rfl:=Option.some.inj this;exact(h.fresh id L h1 hn).imp (fun q=>q) fun⟨Fm,L0,x,y,z⟩=>⟨Fm,L0,x,y,Nat.le_trans k.low z⟩
  |none=>
   rcases k.fresh id L hL h1 with b|⟨Fm,L0,x,y,z⟩
   ·exact .inl (Nat.le_trans h.size b)
   ·cases h0:J.g Fm with
    |some L00=>
     have:=h.mono _ _ h0;rw[x]at this;obtain rfl:=Option.some.inj this;exact .inr ⟨Fm,L0,h0,y,z⟩
    |none=>
     rcases h.fresh Fm L0 x h0 with b'|⟨id1,L1,x1,y1,z1⟩
     ·exact .inl (by rw[<-y];exact b')
     ·exact .inr ⟨id1,L1,x1,y1.trans y,Nat.le_trans k.low z1⟩
 cL:=fun t L hL=>by
  rcases k.cL t L hL with a|⟨t0,L0,x,y⟩
  ·exact .inl (Nat.le_trans h.size a)
  ·rcases h.cL t0 L0 x with a|⟨t1,L1,x1,y1⟩
   ·exact .inl (by rw[<-y];exact a)
   ·exact .inr ⟨t1,L1,x1,y1.trans y⟩
 frame:=fun b hb hg hl=>by
  have e1:=h.frame b hb (fun id L hL e=>Nat.lt_of_lt_of_le (hg id L hL e) k.low) hl;have e2:=k.frame b (Nat.lt_of_lt_of_le hb h.size) (fun id L hL e=>by
    cases h0:J.g id with
    |some L0=>
     have:=h.mono _ _ h0;rw[hL]at this;obtain rfl:=Option.some.inj this;exact hg id L h0 e
    |none=>
     rcases h.fresh id L hL h0 with q|⟨Fm,L0,x,y,z⟩
     ·omega
     ·have:=hg Fm L0 x (y.trans e)
      have:=k.low;omega)
   (fun t L hL e=>by
    rcases h.cL t L hL with a|⟨t0,L0,x,y⟩
    ·omega
    ·exact hl t0 L0 x (y.trans e))
  rw[e2,e1]
def ER(J:dM)(s:St)(a:Act):Prop:=∀t v,s.env.get t=some v->t<a.tmps.size/\VR J v (a.tmps.getD t undef)
theorem ER.eval{J:dM}{s:St}{a:Act}(h:ER J s a){x:Operand}{v:Value}(hx:bJ s x=some v):VR J v (a.eval x):=by
 cases x with
 |tmp t=>exact(h t v hx).2
 |const c=>
  simp only[bJ]at hx;cases hf:cV.flat c with
  |false=>rw[hf]at hx;simp at hx
  |true=>
   rw[hf]at hx;simp only[cond_true,oi]at hx;subst hx;exact .c7 _ _ (VG.of_flat hf)
 |global g=>simp[bJ]at hx
 |func f=>
  simp only[bJ,oi]at hx;subst hx;exact .c7 _ _ (.func _ _ _ _ _ rfl rfl (fun i u v h=>by simp at h) (fun i u v h=>by simp at h))
theorem VR.mono{J J':dM}(hg:∀id L,J.g id=some L->J'.g id=some L)(hl:∀t L,J.l t=some L->J'.l t=some L){v c:Value}(h:VR J v c):VR J' v c:=by
 cases h with
 |c7 _ _ h=>exact .c7 _ _ (h.mono hg)
 |loc a x L hs h=>exact .loc a x L hs (hl _ _ h)
theorem ER.mono{J J':dM}{s:St}{a:Act}(hg:∀id L,J.g id=some L->J'.g id=some L)(hl:∀t L,J.l t=some L->J'.l t=some L)(h:ER J s a):ER J' s a:=
 fun t v hv=>⟨(h t v hv).1,(h t v hv).2.mono hg hl⟩
end Go.cV
namespace Go.cV
theorem live_of_cells?{h:af}{b:Nat}{cs:List Value}(hc:h.cells? b=some cs):∃wr es,h.m.get b=some (.live wr es cs):=by
 unfold af.cells? at hc;split at hc
 ·rename_i wr es lE hm;simp at hc;subst hc;exact⟨wr,es,hm⟩
 ·cases hc
theorem HR.cells{J:dM}{s:St}{w:World}(h:HR J s w){a:Addr}{L:Loc}(hL:J.at a=some L){cells:List Value}(hc:s.cells? a=some cells) :
  ∃cs e fr,w.heap[L.b]?=some (.cells cs e fr)/\CR J.g cells cs L.o:=by
 unfold St.cells? at hc;unfold dM.at at hL;cases hs:a.spot with
 |none=>
  simp only[hs]at hc hL;obtain⟨wr,es,hm⟩:=live_of_cells? hc;obtain⟨_,cs,e,fr,hw,Bw,_⟩:=h.cK _ _ _ hL hm;exact⟨cs,e,fr,hw,Bw⟩
 |some x=>
  simp only[hs]at hc hL;cases hb:Nat.blt a.block s.kn with
  |false=>rw[hb]at hc;simp at hc
  |true=>
   rw[hb]at hc;simp only[cond_true]at hc;obtain⟨cs,e,hw,Bw⟩:=h.dX _ _ hL;exact⟨cs,e,(0,0),hw,Bw _ hc⟩
theorem ju(b o n:Nat):(⟨b,o,none⟩:Addr).add n=⟨b,o+n,none⟩:=by
 unfold Addr.add;split
 ·simp_all
 ·rfl
theorem HR.read{J:dM}{s:St}{w:World}(h:HR J s w){a:Addr}{L:Loc}(hL:J.at a=some L){n:Nat}{l:List Value}(hr:s.read a n=some l) :
  ∃l',fJ J.g l l'/\l'.length=n/\∀(j:Nat) (v:Value),l'[j]?=some v->w.cell? ((⟨L.b,L.o+a.off,none⟩:Addr).add j)=some v:=by
 unfold St.read at hr;split at hr
 ·rename_i cells hc
  obtain⟨cs,e,fr,hw,Bw⟩:=h.cells hL hc;obtain⟨l',h1,h2,h3⟩:=Bw.read hr;refine⟨l',h1,h2,fun j v hv=>?_⟩;rw[ju];simp only[World.cell?,hw];simpa using h3 j v hv
 ·cases hr
theorem iS{s:St}{a:Addr}{n:Nat}{l:List Value}(h:s.h.aN a n=some l):a.spot=none/\s.read a n=some l:=by
 unfold af.aN at h;split at h
 ·rename_i hs;refine⟨hs,?_⟩;unfold St.read St.cells?;rw[hs];exact h
 ·cases h
theorem iY{s:St}{h':af}{a:Addr}{l:List Value}(h:s.h.iA a l=some h'):a.spot=none/\s.write a l=some { s with h:=h' }:=by
 unfold af.iA at h;split at h
 ·rename_i hs
  refine⟨hs,?_⟩;unfold St.write;cases hc:l.all aF with
  |false=>rw[hc]at h;simp at h
  |true=>rw[hc]at h;simp only[cond_true]at h ⊢;rw[hs];simp only[h]
 ·cases h
section
variable{P:Program}{w:World}{t:TypeId}
theorem aL{d:TypeDesc}(h:P.underlying t=some d):(underlying t).run P w=.ok d w:=run_underlying h w
theorem nU{b:Bool}(h:iP P t=some b):(isAgg t).run P w=.ok b w:=by
 unfold iP at h;unfold isAgg;split at h<;>first|(cases h;done)|(rename_i hu;simp only[oi]at h;subst h;simp only[Sem.run_bind,aL hu,Result.andThen_ok];first|rfl|(split<;>first|rfl|simp_all))
theorem cg{n:Nat}(h:bY P t=some n):(sizeOf t).run P w=.ok n w:=by
 unfold bY at h;split at h
 ·rename_i i hi;simp only[oi]at h;subst h;simp[sizeOf,typeInfo,hi]
 ·cases h
theorem il{i:TypeInfo}(h:P.info? t=some i):(typeInfo t).run P w=.ok i w:=by simp[typeInfo,h]
theorem fQ{z:Value}(h:iv P t=some z):cV.flat z=true/\∃i,P.info? t=some i/\i.zero=some z:=by
 unfold iv at h;split at h
 ·rename_i i hi
  split at h
  ·rename_i z' hz
   cases hf:cV.flat z' with
   |false=>rw[hf]at h;simp at h
   |true=>rw[hf]at h;simp at h;subst h;exact⟨hf,i,hi,hz⟩
  ·cases h
 ·cases h
theorem gq{z:Value}(h:iv P t=some z):(zeroValue t).run P w=.ok z w:=by
 obtain⟨_,i,hi,hz⟩:=fQ h;simp[zeroValue,il hi,hz]
theorem pM{n:Nat}(h:pC P t=some n):∃i,P.info? t=some i/\i.bytes=n:=by
 unfold pC at h;split at h
 ·rename_i i hi;simp at h;exact⟨i,hi,h⟩
 ·cases h
theorem xu{n:Nat}(h:bY P t=some n):∃i,P.info? t=some i/\i.size=n:=by
 unfold bY at h;split at h
 ·rename_i i hi;simp at h;exact⟨i,hi,h⟩
 ·cases h
end
theorem FD{z:Value}(h:cV.flat z=true):z.cells.toList.all bm=true\/z.cells.toList=[undef]:=by
 cases z with
 |agg cs=>exact .inl (by simpa[cV.flat,Value.cells]using h)
 |tuple cs=>
  right;simp only[cV.flat,List.isEmpty_iff]at h;have:cs=#[]:=by simpa using h
  simp[Value.cells,undef,this]
 |_=>exact .inl (by simp[Value.cells];simpa[cV.flat]using h)
theorem lS{g:Nat->Option Loc}{z:Value}(h:cV.flat z=true):fJ g z.cells.toList z.cells.toList:=by
 rcases FD h with h1|h1
 ·exact fJ.flat h1
 ·rw[h1];exact .cons (VG.of_flat (by simp[undef,cV.flat])) (.nil _)
theorem AE{P:Program}{J:dM}{s:St}{w:World}(h:HR J s w){t:TypeId}{a:Addr}{L:Loc}(hL:J.at a=some L){v:Value}(hv:sT P s t a=some v) :
  ∃c,(loadVar t ⟨L.b,L.o+a.off,none⟩).run P w=.ok c w/\VG J.g v c:=by
 unfold sT at hv;split at hv
 ·rename_i FE
  split at hv
  ·rename_i n hn
   split at hv
   ·rename_i l hl
    simp only[oi]at hv;subst hv;obtain⟨l',h1,h2,h3⟩:=h.read hL hl;refine⟨.agg l'.toArray,?_,h1.agg⟩;have:=run_loadCells_list (P:=P) w ⟨L.b,L.o+a.off,none⟩ l' h3;rw[h2]at this;simp[loadVar,nU FE,cg hn,this]
   ·cases hv
  ·cases hv
 ·rename_i FE
  split at hv
  ·rename_i x r hl
   simp only[oi]at hv;subst hv;obtain⟨l',h1,h2,h3⟩:=h.read hL hl;obtain⟨y,l'',rfl,hy,_⟩:=h1.head;refine⟨y,?_,hy⟩;have:=h3 0 y rfl;rw[ju,Nat.add_zero]at this;simp[loadVar,nU FE,this]
  ·cases hv
 ·cases hv
theorem HR.put{J:dM}{s s':St}{w:World}(h:HR J s w){a:Addr}{L:Loc}(hL:J.at a=some L){vs us:List Value}(hs:s.write a vs=some s')(hv:fJ J.g vs us) :
  ∃cs e,w.heap[L.b]?=some (.cells cs e (0,0))/\(L.o+a.off+us.length<=cs.size\/us=[])/\(∀v∈us,v.oneCell'=true) /\
   (L.o+a.off+us.length<=cs.size->Good J s w J s' (w.setRow L.b (iR cs (L.o+a.off) us)))/\(us=[]->Good J s w J s' w)/\s'.env=s.env/\s'.h.next=s.h.next:=by
 unfold St.write at hs;cases fF:vs.all aF with
 |false=>rw[fF]at hs;simp at hs
 |true=>
  rw[fF]at hs;simp only[cond_true]at hs;have o9:∀v∈us,v.oneCell'=true:=by
   intro v YZ;obtain⟨i,hi⟩:=List.mem_iff_getElem?.1 YZ;have dW:i<vs.length:=by rw[hv.1];exact(List.getElem?_eq_some_iff.1 hi).1
   simp only[List.all_eq_true]at fF;exact(hv.2 i vs[i] v (by simp[dW]) hi).Hv (fF _ (List.getElem_mem dW))
  cases jH:a.spot with
  |none=>
   simp only[jH]at hs;simp only[dM.at,jH]at hL;split at hs
   ·rename_i h' Sg
    simp only[oi]at hs;subst hs;unfold af.write at Sg;split at Sg
    ·rename_i es cells hm
     split at Sg
     ·rename_i jO C0
      simp only[oi]at Sg;subst Sg;obtain⟨uA,cs,e,fr,hw,Bw,vj⟩:=h.cK _ _ _ hL hm;obtain rfl:=vj rfl;obtain⟨Sh,Si⟩:=mw C0;have ar:Nat.min s.h.low a.block<=s.h.low:=Nat.min_le_left _ _;have key:∀vk,vk.size=cs.size->CR J.g jO vk L.o->Good J s w J { s with h:={ next:=s.h.next,low:=Nat.min s.h.low a.block,m:=s.h.m.set a.block (.live true es jO) } } (w.setRow L.b vk):=by
       intro vk uB K5;refine { hr:=?_,mono:=fun _ _ h=>h,next:=Nat.le_refl _,low:=ar,size:=by simp,os:=rfl,tape:=rfl,output:=rfl,fresh:=(fun id L h1 h2=>by rw[h2]at h1;cases h1),cL:=fun t L h1=>.inr ⟨t,L,h1,rfl⟩,frame:=?_ }
       ·refine { cU:=h.cU,dm:=?_,cK:=?_,dn:=?_,fe:=h.fe,dX:=?_,ff:=h.ff,sep:=h.sep }
        ·intro id L1 h1
         by_cases hb:L1.b=L.b
         ·obtain⟨o2,hx,hy⟩:=h.dm _ _ h1
          rw[hb,hw]at hx;obtain rfl:=Option.some.inj hx;have:=hy _ _ _ rfl;exact⟨.cells vk e (0,0),by rw[hb];exact setRow_heap w L.b cs vk e _ hw,fun c9 e9 f9 q=>by cases q;omega⟩
         ·rw[setRow_other w _ _ _ hb];exact h.dm _ _ h1
        ·intro id L1 b1 h1 h2
         simp only[cW.bO]at h2;by_cases mq:a.block=id
         ·subst mq
          rw[hL]at h1;obtain rfl:=Option.some.inj h1;simp only[if_true,oi]at h2;subst h2;exact⟨uA,vk,e,(0,0),setRow_heap w L.b cs vk e _ hw,K5,fun _=>rfl⟩
         ·simp only[mq,if_false]at h2
          cases K6:b1.alive with
          |false=>cases b1<;>first|trivial|(simp[C7.alive]at K6)
          |true=>
           have eO:L1.b≠L.b:=fun hb=>mq (h.dn _ _ _ _ _ _ hL h1 hm h2 rfl K6 hb.symm)
           rw[setRow_other w _ _ _ eO];exact h.cK _ _ _ h1 h2
        ·intro id pF L1 L2 b1 b2 h1 h2 h3 h4 zG Dh hb
         simp only[cW.bO]at h3 h4;have l3:∃b,s.h.m.get id=some b/\b.alive=true:=by
          by_cases mq:a.block=id
          ·subst mq;exact⟨_,hm,rfl⟩
          ·simp only[mq,if_false]at h3;exact⟨_,h3,zG⟩
         have l4:∃b,s.h.m.get pF=some b/\b.alive=true:=by
          by_cases mq:a.block=pF
          ·subst mq;exact⟨_,hm,rfl⟩
          ·simp only[mq,if_false]at h4;exact⟨_,h4,Dh⟩
         obtain⟨_,l3,v3⟩:=l3;obtain⟨_,l4,v4⟩:=l4;exact h.dn _ _ _ _ _ _ h1 h2 l3 l4 v3 v4 hb
        ·intro t L1 h1
         have eO:L1.b≠L.b:=fun hb=>h.sep _ _ _ _ hL h1 hb.symm
         rw[setRow_other w _ _ _ eO];exact h.dX _ _ h1
       ·intro b hb hg hl
        have:b≠L.b:=fun e=>by
         have h1:=hg a.block L hL e.symm;have h2:Nat.min s.h.low a.block<=a.block:=Nat.min_le_right _ _;simp only[]at h1;omega
        exact setRow_other w _ _ _ this
      refine⟨cs,e,hw,?_,o9,?_,?_,rfl,rfl⟩
      ·cases us with
       |nil=>exact .inr rfl
       |cons u us'=>
        left;have eO:cells≠[]:=by
         intro e0;subst e0;have h9:=hv.1;have h8:a.off+vs.length<=0:=Sh;simp only[List.length_cons]at h9;omega
        have:=Bw.size eO;have:=hv.1;omega
      ·intro hz
       exact key _ (pL hz) (Bw.put hv C0 hz)
      ·intro hu
       subst hu;have Y2:vs=[]:=by have:=hv.1;simpa using this
       subst Y2;have Fo:jO=cells:=by rw[Si];simp
       subst Fo;have:=key cs rfl Bw;rw[setRow_self w L.b cs e _ hw]at this;exact this
     ·cases Sg
    ·cases Sg
   ·cases hs
  |some x=>
   simp only[jH]at hs;simp only[dM.at,jH]at hL;cases hb:Nat.blt a.block s.kn with
   |false=>rw[hb]at hs;simp at hs
   |true=>
    rw[hb]at hs;simp only[cond_true]at hs;split at hs
    ·rename_i cells hK
     split at hs
     ·rename_i jO C0
      simp only[oi]at hs;subst hs;obtain⟨cs,e,hw,Y3⟩:=h.dX _ _ hL;have Bw:=Y3 _ hK;obtain⟨Sh,Si⟩:=mw C0;have key:∀vk,vk.size=cs.size->CR J.g jO vk L.o->Good J s w J { s with K:=s.K.set a.block jO } (w.setRow L.b vk):=by
       intro vk uB K5;refine { hr:=?_,mono:=fun _ _ h=>h,next:=Nat.le_refl _,low:=Nat.le_refl _,size:=by simp,os:=rfl,tape:=rfl,output:=rfl,fresh:=(fun id L h1 h2=>by rw[h2]at h1;cases h1),cL:=fun t L h1=>.inr ⟨t,L,h1,rfl⟩,frame:=?_ }
       ·refine { cU:=h.cU,dm:=?_,cK:=?_,dn:=h.dn,fe:=h.fe,dX:=?_,ff:=h.ff,sep:=h.sep }
        ·intro id L1 h1
         rw[setRow_other w _ _ _ (h.sep _ _ _ _ h1 hL)];exact h.dm _ _ h1
        ·intro id L1 b1 h1 h2
         rw[setRow_other w _ _ _ (h.sep _ _ _ _ h1 hL)];exact h.cK _ _ _ h1 h2
        ·intro t L1 h1
         by_cases ht:a.block=t
         ·subst ht
          rw[hL]at h1;obtain rfl:=Option.some.inj h1;refine⟨vk,e,setRow_heap w L.b cs vk e _ hw,fun c1 U7=>?_⟩;simp only[cW.gY,oi]at U7;subst U7;exact K5
         ·have eO:L1.b≠L.b:=fun hb=>ht (h.ff _ _ _ _ hL h1 hb.symm)
          rw[setRow_other w _ _ _ eO];obtain⟨c2,e2,hx,hy⟩:=h.dX _ _ h1;exact⟨c2,e2,hx,fun c1 U7=>hy c1 (by rw[cW.aT _ _ ht]at U7;exact U7)⟩
       ·intro b hb hg hl
        exact setRow_other w _ _ _ (fun e=>hl _ _ hL e.symm)
      refine⟨cs,e,hw,?_,o9,?_,?_,rfl,rfl⟩
      ·cases us with
       |nil=>exact .inr rfl
       |cons u us'=>
        left;have eO:cells≠[]:=by
         intro e0;subst e0;have h9:=hv.1;have h8:a.off+vs.length<=0:=Sh;simp only[List.length_cons]at h9;omega
        have:=Bw.size eO;have:=hv.1;omega
      ·intro hz
       exact key _ (pL hz) (Bw.put hv C0 hz)
      ·intro hu
       subst hu;have Y2:vs=[]:=by have:=hv.1;simpa using this
       subst Y2;have Fo:jO=cells:=by rw[Si];simp
       subst Fo;have:=key cs rfl Bw;rw[setRow_self w L.b cs e _ hw]at this;exact this
     ·cases hs
    ·cases hs
theorem HR.write{P:Program}{J:dM}{s s':St}{w:World}(h:HR J s w){a:Addr}{L:Loc}(hL:J.at a=some L){vs us:List Value}(hs:s.write a vs=some s')(hv:fJ J.g vs us) :
  ∃w',(storeCells ⟨L.b,L.o+a.off,none⟩ us).run P w=.ok () w'/\Good J s w J s' w'/\s'.env=s.env/\s'.h.next=s.h.next:=by
 obtain⟨cs,e,hw,hz,o9,hG,hN,he,hn⟩:=h.put hL hs hv;rcases hz with hz|hz
 ·refine⟨_,?_,hG hz,he,hn⟩
  have:=run_storeCells_at (P:=P) L.b (L.o+a.off) e us 0 cs w hw (by simpa using hz) o9;simpa[iR]using this
 ·subst hz
  exact⟨w,by simp[storeCells],hN rfl,he,hn⟩
theorem HR.newAt{J:dM}{s s':St}{w:World}(h:HR J s w){id tag:Nat}{loc:Bool}(hI:loc=false->id<s.h.next/\J.g id=none)(U8:loc=true->tag<s.kn/\J.l tag=none){es:Nat}{cells:List Value}{cs:Array Value}{v:Value}(hs:s.newAt id tag loc es cells=some (v,s'))(hv:CR J.g cells cs 0)(e:TypeId) :
  ∃J',Good J s w J' s' (w.alloc (.cells cs e))/\(∀t L,J.l t=some L->J'.l t=some L)/\VR J' v (.pointer (some ⟨w.heap.size,0,none⟩))/\s'.env=s.env/\s'.h.next=s.h.next /\
   (loc=false->v=.pointer (some ⟨id,0,none⟩)/\J'.g id=some ⟨w.heap.size,0,cs.size,es⟩)/\(∀k L,J'.g k=some L->J.g k=some L\/(loc=false/\k=id))/\(∀t L,J'.l t=some L->J.l t=some L\/(loc=true/\t=tag/\v=.pointer (some ⟨tag,0,some 0⟩))):=by
 unfold St.newAt at hs;cases fF:cells.all aF with
 |false=>rw[fF]at hs;simp at hs
 |true=>
  rw[fF]at hs;simp only[cond_true]at hs;have pe:(w.alloc (.cells cs e)).heap[w.heap.size]?=some (.cells cs e (0,0)):=by show(w.heap.push _)[w.heap.size]?=_;simp
  have hold:∀k,k<w.heap.size->(w.alloc (.cells cs e)).heap[k]?=w.heap[k]?:=fun k hk=>by show(w.heap.push _)[k]?=_;rw[Array.getElem?_push,if_neg (by omega)]
  have U9:(w.alloc (.cells cs e)).heap.size=w.heap.size+1:=by show(w.heap.push _).size=_;simp
  cases loc with
  |false=>
   simp only[cond_false,oi,pj]at hs;obtain⟨rfl,rfl⟩:=hs;obtain⟨mq,hJ⟩:=hI rfl
   let L:Loc:=⟨w.heap.size,0,cs.size,es⟩
   let g':Nat->Option Loc:=fun k=>if k=id then some L else J.g k
   have vW:∀k L1,J.g k=some L1->g' k=some L1:=fun k L1 h1=>by
    have eO:¬k=id:=fun e=>by rw[e,hJ]at h1;cases h1
    simp only[g',eO,if_false,h1]
   have b8:∀k L1,g' k=some L1->(k=id/\L1=L)\/(k≠id/\J.g k=some L1):=fun k L1 h1=>by
    by_cases hk:k=id
    ·left;simp only[g',hk,if_true,oi]at h1;exact⟨hk,h1.symm⟩
    ·right;simp only[g',hk,if_false]at h1;exact⟨hk,h1⟩
   refine⟨⟨g',J.l⟩,?_,fun t L h=>h,?_,rfl,rfl,fun _=>⟨rfl,by simp[g',L]⟩,fun k L1 hk=>(b8 k L1 hk).elim (fun q=>.inr ⟨rfl,q.1⟩) (fun q=>.inl q.2),fun t L h=>.inl h⟩
   ·refine { hr:=?_,mono:=vW,next:=Nat.le_refl _,low:=Nat.le_refl _,size:=by omega,os:=rfl,tape:=rfl,output:=rfl,fresh:=?_,cL:=fun t L h1=>.inr ⟨t,L,h1,rfl⟩,frame:=fun b hb _ _=>hold b hb }
    ·refine { cU:=?_,dm:=?_,cK:=?_,dn:=?_,fe:=h.fe,dX:=?_,ff:=h.ff,sep:=?_ }
     ·intro k L1 h1
      rcases b8 k L1 h1 with ⟨rfl,_⟩|⟨_,h1⟩
      ·exact mq
      ·exact h.cU _ _ h1
     ·intro k L1 h1
      rcases b8 k L1 h1 with ⟨rfl,rfl⟩|⟨_,h1⟩
      ·exact⟨_,pe,fun c9 e9 f9 q=>by cases q;simp[L]⟩
      ·rw[hold _ (h.lt h1)];exact h.dm _ _ h1
     ·intro k L1 b1 h1 h2
      simp only[cW.bO]at h2;rcases b8 k L1 h1 with ⟨rfl,rfl⟩|⟨eO,h1⟩
      ·simp only[if_true,oi]at h2
       subst h2;exact⟨rfl,_,_,_,pe,hv.mono vW,fun _=>rfl⟩
      ·simp only[Ne.symm eO,if_false]at h2
       have:=(h.cK _ _ _ h1 h2).mono vW;rw[hold _ (h.lt h1)];exact this
     ·intro k k' L1 L2 b1 b2 h1 h2 h3 h4 zG Dh hb
      simp only[cW.bO]at h3 h4;rcases b8 k L1 h1 with ⟨Fp,KK⟩|⟨eO,h1⟩<;>rcases b8 k' L2 h2 with ⟨K7,Va⟩|⟨FF,h2⟩
      ·rw[Fp,K7]
      ·have:=h.lt h2;rw[KK]at hb;simp only[L]at hb;omega
      ·have:=h.lt h1;rw[Va]at hb;simp only[L]at hb;omega
      ·simp only[Ne.symm eO,if_false]at h3
       simp only[Ne.symm FF,if_false]at h4;exact h.dn _ _ _ _ _ _ h1 h2 h3 h4 zG Dh hb
     ·intro t L1 h1
      obtain⟨Sj,e1,a1,a2⟩:=h.dX _ _ h1;exact⟨Sj,e1,by rw[hold _ (h.K4 h1)];exact a1,fun c hc=>(a2 c hc).mono vW⟩
     ·intro k t L1 L2 h1 h2 hb
      rcases b8 k L1 h1 with ⟨rfl,rfl⟩|⟨_,h1⟩
      ·have:=h.K4 h2;simp only[L]at hb;omega
      ·exact h.sep _ _ _ _ h1 h2 hb
    ·intro k L1 h1 h2
     rcases b8 k L1 h1 with ⟨rfl,rfl⟩|⟨_,h1⟩
     ·exact .inl (Nat.le_refl _)
     ·rw[h2]at h1;cases h1
   ·have:=VG.ptr (g:=g') ⟨id,0,none⟩ L rfl (by simp[g'])
    exact .c7 _ _ (by simpa[L]using this)
  |true=>
   simp only[cond_true,oi,pj]at hs;obtain⟨rfl,rfl⟩:=hs;obtain⟨Sk,hT⟩:=U8 rfl
   let L:Loc:=⟨w.heap.size,0,cs.size,es⟩
   let l':Nat->Option Loc:=fun t=>if t=tag then some L else J.l t
   have K8:∀t L1,J.l t=some L1->l' t=some L1:=fun t L1 h1=>by
    have eO:¬t=tag:=fun e=>by rw[e,hT]at h1;cases h1
    simp only[l',eO,if_false,h1]
   have b8:∀t L1,l' t=some L1->(t=tag/\L1=L)\/(t≠tag/\J.l t=some L1):=fun t L1 h1=>by
    by_cases hk:t=tag
    ·left;simp only[l',hk,if_true,oi]at h1;exact⟨hk,h1.symm⟩
    ·right;simp only[l',hk,if_false]at h1;exact⟨hk,h1⟩
   refine⟨⟨J.g,l'⟩,?_,K8,?_,rfl,rfl,(fun h=>by cases h),fun k L h=>.inl h,fun t L1 ht=>(b8 t L1 ht).elim (fun q=>.inr ⟨rfl,q.1,rfl⟩) (fun q=>.inl q.2)⟩
   ·refine { hr:=?_,mono:=fun _ _ h=>h,next:=Nat.le_refl _,low:=Nat.le_refl _,size:=by omega,os:=rfl,tape:=rfl,output:=rfl,fresh:=(fun id L1 h1 h2=>by rw[h2]at h1;cases h1),cL:=?_,frame:=fun b hb _ _=>hold b hb }
    ·refine { cU:=h.cU,dm:=?_,cK:=?_,dn:=h.dn,fe:=?_,dX:=?_,ff:=?_,sep:=?_ }
     ·intro id L1 h1
      rw[hold _ (h.lt h1)];exact h.dm _ _ h1
     ·intro k L1 b1 h1 h2
      rw[hold _ (h.lt h1)];exact h.cK _ _ _ h1 h2
     ·intro t L1 h1
      rcases b8 t L1 h1 with ⟨rfl,_⟩|⟨_,h1⟩
      ·exact Sk
      ·exact h.fe _ _ h1
     ·intro t L1 h1
      rcases b8 t L1 h1 with ⟨rfl,rfl⟩|⟨eO,h1⟩
      ·refine⟨_,_,pe,fun c hc=>?_⟩
       simp only[cW.gY,oi]at hc;subst hc;exact hv
      ·obtain⟨Sj,e1,a1,a2⟩:=h.dX _ _ h1
       refine⟨Sj,e1,by rw[hold _ (h.K4 h1)];exact a1,fun c hc=>a2 c ?_⟩;rw[cW.aT _ _ (Ne.symm eO)]at hc;exact hc
     ·intro t t' L1 L2 h1 h2 hb
      rcases b8 t L1 h1 with ⟨Fp,KK⟩|⟨eO,h1⟩<;>rcases b8 t' L2 h2 with ⟨K7,Va⟩|⟨FF,h2⟩
      ·rw[Fp,K7]
      ·have:=h.K4 h2;rw[KK]at hb;simp only[L]at hb;omega
      ·have:=h.K4 h1;rw[Va]at hb;simp only[L]at hb;omega
      ·exact h.ff _ _ _ _ h1 h2 hb
     ·intro id t L1 L2 h1 h2 hb
      rcases b8 t L2 h2 with ⟨rfl,rfl⟩|⟨_,h2⟩
      ·have:=h.lt h1;simp only[L]at hb;omega
      ·exact h.sep _ _ _ _ h1 h2 hb
    ·intro t L1 h1
     rcases b8 t L1 h1 with ⟨rfl,rfl⟩|⟨_,h1⟩
     ·exact .inl (Nat.le_refl _)
     ·exact .inr ⟨t,L1,h1,rfl⟩
   ·have:=VR.loc (J:=⟨J.g,l'⟩) ⟨tag,0,some 0⟩ 0 L rfl (by simp[l'])
    simpa[L]using this
theorem Good.jt {J : dM} {s : St} {w : World} (h : HR J s w) (n m : Nat) : Good J s w J { s with kn := s.kn + m, h := { s.h with next := s.h.next + n } } w where
  hr := { cU := fun id L hL => by have := h.cU _ _ hL; simp only []; omega, dm := h.dm, cK := h.cK, dn := h.dn,
          fe := fun t L hL => by have := h.fe _ _ hL; simp only []; omega, dX := h.dX, ff := h.ff, sep := h.sep }
  mono := fun _ _ h => h
  next := by simp
  low := Nat.le_refl _
  size := Nat.le_refl _
  os := rfl
  tape := rfl
  output := rfl
  fresh := (fun id L h1 h2 => by rw [h2] at h1; cases h1)
  cL := fun t L h1 => .inr ⟨t, L, h1, rfl⟩
  frame := fun _ _ _ _ => rfl
def fG(R:Nat->Prop)(g g':Nat->Option Loc):Prop:=∀k L,g' k=some L->g k=some L\/R k
theorem fG.refl(R:Nat->Prop)(g:Nat->Option Loc):fG R g g:=fun _ _ h=>.inl h
theorem fG.mono{R R':Nat->Prop}{g g':Nat->Option Loc}(h:fG R g g')(hr:∀k,R k->R' k):fG R' g g':=fun k L hk=>(h k L hk).imp (fun q=>q) (hr k)
theorem fG.trans{R:Nat->Prop}{g g' g'':Nat->Option Loc}(h:fG R g g')(k:fG R g' g''):fG R g g'':=fun i L hi=>by
 rcases k i L hi with q|q
 ·exact h i L q
 ·exact .inr q
def Hw(mk:lK)(k:Nat):Prop:=∃es cells s',mk false es cells=some (.pointer (some ⟨k,0,none⟩),s')
def K9(mk:lK)(t:Nat):Prop:=∃es cells s',mk true es cells=some (.pointer (some ⟨t,0,some 0⟩),s')
def AF(J:dM)(s:St)(w:World)(mk:lK):Prop:=∀(loc:Bool) (es:Nat) (cells:List Value) (cs:Array Value) (v:Value) (s':St) (e:TypeId),mk loc es cells=some (v,s')->CR J.g cells cs 0->
 ∃J',Good J s w J' s' (w.alloc (.cells cs e))/\(∀t L,J.l t=some L->J'.l t=some L)/\VR J' v (.pointer (some ⟨w.heap.size,0,none⟩))/\s'.env=s.env /\
  (loc=false->∃id,v=.pointer (some ⟨id,0,none⟩)/\J'.g id=some ⟨w.heap.size,0,cs.size,es⟩)/\fG (fun k=>loc=false/\Hw mk k) J.g J'.g/\fG (fun t=>loc=true/\K9 mk t) J.l J'.l
theorem HR.Hx{J:dM}{s:St}{w:World}(h:HR J s w){id tag:Nat}(mq:id<s.h.next)(hJ:J.g id=none)(Sk:tag<s.kn)(hT:J.l tag=none):AF J s w (s.newAt id tag):=by
 intro loc es cells cs v s' e hs hv;obtain⟨J',a1,a2,a3,a4,_,a6,a7,a8⟩:=h.newAt (fun _=>⟨mq,hJ⟩) (fun _=>⟨Sk,hT⟩) hs hv e;refine⟨J',a1,a2,a3,a4,fun hl=>⟨id,a6 hl⟩,fun k L hk=>(a7 k L hk).imp (fun q=>q) ?_,fun t L ht=>(a8 t L ht).imp (fun q=>q) ?_⟩
 ·rintro⟨hl,rfl⟩
  have:=(a6 hl).1;subst hl;subst this;exact⟨rfl,_,_,_,hs⟩
 ·rintro⟨hl,rfl,rfl⟩
  subst hl;exact⟨rfl,_,_,_,hs⟩
theorem HR.new{J:dM}{s s':St}{w:World}(h:HR J s w){loc:Bool}{es:Nat}{cells:List Value}{cs:Array Value}{v:Value}(hs:s.new loc es cells=some (v,s'))(hv:CR J.g cells cs 0)(e:TypeId) :
  ∃J',Good J s w J' s' (w.alloc (.cells cs e))/\(∀t L,J.l t=some L->J'.l t=some L)/\VR J' v (.pointer (some ⟨w.heap.size,0,none⟩))/\s'.env=s.env /\
   (loc=false->v=.pointer (some ⟨s.h.next,0,none⟩)/\J'.g s.h.next=some ⟨w.heap.size,0,cs.size,es⟩)/\(∀k L,J'.g k=some L->J.g k=some L\/(loc=false/\k=s.h.next))/\(∀t L,J'.l t=some L->J.l t=some L\/(loc=true/\t=s.kn/\v=.pointer (some ⟨s.kn,0,some 0⟩))):=by
 have hJ:J.g s.h.next=none:=by
  cases hx:J.g s.h.next with
  |none=>rfl
  |some L=>have:=h.cU _ _ hx;omega
 have hT:J.l s.kn=none:=by
  cases hx:J.l s.kn with
  |none=>rfl
  |some L=>have:=h.fe _ _ hx;omega
 unfold St.new at hs;cases fF:cells.all aF with
 |false=>rw[fF]at hs;simp at hs
 |true=>
  rw[fF]at hs;simp only[cond_true]at hs;cases loc with
  |false=>
   simp only[cond_false,oi,pj]at hs;obtain⟨rfl,rfl⟩:=hs;have hk:=Good.jt h 1 0;obtain⟨J',a1,a2,a3,a4,a5,a6,a7,a8⟩:=hk.hr.newAt (id:=s.h.next) (tag:=s.kn) (loc:=false) (fun _=>⟨by simp,hJ⟩) (fun h=>by cases h) (es:=es) (by unfold St.newAt;rw[fF];rfl) hv e;exact⟨J',hk.trans a1,a2,a3,rfl,a6,a7,a8⟩
  |true=>
   simp only[cond_true,oi,pj]at hs;obtain⟨rfl,rfl⟩:=hs;have hk:=Good.jt h 0 1;obtain⟨J',a1,a2,a3,a4,a5,a6,a7,a8⟩:=hk.hr.newAt (id:=s.h.next) (tag:=s.kn) (loc:=true) (fun h=>by cases h) (fun _=>⟨by simp,hT⟩) (es:=es) (by unfold St.newAt;rw[fF];rfl) hv e;exact⟨J',hk.trans a1,a2,a3,rfl,(fun h=>by cases h),a7,a8⟩
theorem HR.Vb{J:dM}{s:St}{w:World}(h:HR J s w):AF J s w s.new:=by
 intro loc es cells cs v s' e hs hv;obtain⟨J',a1,a2,a3,a4,a6,a7,a8⟩:=h.new hs hv e;refine⟨J',a1,a2,a3,a4,fun hl=>⟨s.h.next,a6 hl⟩,fun k L hk=>(a7 k L hk).imp (fun q=>q) ?_,fun t L ht=>(a8 t L ht).imp (fun q=>q) ?_⟩
 ·rintro⟨hl,rfl⟩
  have:=(a6 hl).1;subst hl;subst this;exact⟨rfl,_,_,_,hs⟩
 ·rintro⟨hl,rfl,rfl⟩
  subst hl;exact⟨rfl,_,_,_,hs⟩
end Go.cV
namespace Go.cV
variable{P:Program}{w:World}{g:Nat->Option Loc}
theorem lF{t:TypeId}{cs lE:Array Value}{off:Nat}{v:Value}(h:kL P t cs off=some v)(hc:fJ g cs.toList lE.toList) :
  ∃c,(part t lE off).run P w=.ok c w/\VG g v c:=by
 unfold kL at h;split at h
 ·rename_i ha
  split at h
  ·rename_i n hn
   split at h
   ·rename_i l hl
    simp only[oi]at h;subst h;refine⟨.agg (lE.extract off (off+n)),by simp[part,nU ha,cg hn],?_⟩;unfold ke at hl;simp only[]at hl;cases hb:Nat.beq ((cs.toList.drop off).take n).length n with
    |false=>rw[hb]at hl;simp at hl
    |true=>
     rw[hb]at hl;simp only[cond_true,oi]at hl;subst hl;have:=((hc.drop off).take n).agg;have e:lE.extract off (off+n)=((lE.toList.drop off).take n).toArray:=by
      apply Array.ext';simp[Array.toList_extract,List.extract]
     rw[e];exact this
   ·cases h
  ·cases h
 ·rename_i ha
  have dW:off<lE.toList.length:=by rw[<-hc.1];exact(List.getElem?_eq_some_iff.1 h).1
  have hx:lE[off]?=some (lE.toList[off]):=by simp at dW ⊢
  refine⟨lE.toList[off],by simp[part,nU ha,hx],hc.2 off v _ h (by simp at dW ⊢)⟩
 ·cases h
theorem FG{J:dM}{t:TypeId}{x cx v:Value}{f:Nat}(h:uy P t x f=some v)(hx:VR J x cx):∃c,(Instr.field t cx f).run P w=.ok c w/\VG J.g v c:=by
 unfold uy at h;split at h
 ·rename_i fs cs hu
  split at h
  ·rename_i fd hf
   obtain⟨y,rfl,hy⟩:=(hx.aZ (fun a=>by simp)).Dg;obtain⟨c,h1,h2⟩:=lF (w:=w) h hy;have La:fs[f]?=some fd:=by simpa using hf
   exact⟨c,by simp[Instr.field,aL hu,La,asAgg,h1],h2⟩
  ·cases h
 ·cases h
theorem FH{J:dM}{t:TypeId}{x cx ix ci v:Value}(h:w6 P t x ix=some v)(hx:VR J x cx)(hi:VR J ix ci):∃c,(Instr.index t cx ci).run P w=.ok c w/\VG J.g v c:=by
 unfold w6 at h;split at h
 ·rename_i len e cs k i hu
  split at h
  ·rename_i n hn
   split at h
   ·rename_i dW
    obtain⟨y,rfl,hy⟩:=(hx.aZ (fun a=>by simp)).Dg;obtain rfl:=(hi.aZ (fun a=>by simp)).int;obtain⟨c,h1,h2⟩:=lF (w:=w) h hy;exact⟨c,by simp[Instr.index,asIntOf,aL hu,dW.1,dW.2,cg hn,h1],h2⟩
   ·cases h
  ·cases h
 ·rename_i s k i hu
  split at h
  ·rename_i dW
   split at h
   ·rename_i b hb
    simp only[oi]at h;subst h;obtain rfl:=(hx.aZ (fun a=>by simp)).string;obtain rfl:=(hi.aZ (fun a=>by simp)).int;exact⟨_,by simp[Instr.index,asIntOf,aL hu,dW,hb],.flat _ rfl⟩
   ·cases h
  ·cases h
 ·cases h
theorem Lc{J:dM}{t ty:TypeId}{x cx v:Value}(h:KV P t x=some v)(hx:VR J x cx):(Builtin.len_ #[t] ty #[cx]).run P w=.ok v w/\bm v=true:=by
 unfold KV at h;split at h
 ·rename_i hu
  simp only[oi]at h;subst h;obtain rfl:=(hx.aZ (fun a=>by simp)).string;exact⟨by simp[Builtin.len_,aL hu,goInt],rfl⟩
 ·rename_i hu
  simp only[oi]at h;subst h;exact⟨by simp[Builtin.len_,aL hu,goInt],rfl⟩
 ·rename_i e a n c hu
  simp only[oi]at h;subst h;obtain⟨a',c',rfl,_⟩:=(hx.aZ (fun a=>by simp)).iJ;exact⟨by simp[Builtin.len_,aL hu,goInt],rfl⟩
 ·rename_i e x hu
  split at h
  ·rename_i n e' Sl
   simp only[oi]at h;subst h;exact⟨by simp[Builtin.len_,aL hu,aL Sl,goInt],rfl⟩
  ·cases h
 ·cases h
theorem Lf{J:dM}{t ty:TypeId}{x cx v:Value}(h:O7 P t x=some v)(hx:VR J x cx):(Builtin.cap_ #[t] ty #[cx]).run P w=.ok v w/\bm v=true:=by
 unfold O7 at h;split at h
 ·rename_i e a n c hu
  cases hb:Nat.blt c aS with
  |false=>rw[hb]at h;simp at h
  |true=>
   rw[hb]at h;simp only[cond_true,oi]at h;subst h;have hc:c<aS:=Nat.le_of_ble_eq_true hb;have Fo:∃a',cx=.slice a' n c:=by
    cases a with
    |none=>obtain⟨rfl,rfl,rfl⟩:=(hx.aZ (fun a=>by simp)).fx;exact⟨_,rfl⟩
    |some a=>
     rcases(hx.aZ (fun a=>by simp)).dV with ⟨_,L,c2,_,rfl,q⟩|⟨rfl,_,a2,c2,rfl,q⟩
     ·rcases q with ⟨_,rfl⟩|⟨m',rfl,_⟩
      ·exact⟨_,rfl⟩
      ·have:=dB L.es m';omega
     ·rcases q with ⟨rfl,rfl⟩|rfl
      ·exact⟨_,rfl⟩
      ·omega
   obtain⟨a',rfl⟩:=Fo;exact⟨by simp[Builtin.cap_,aL hu,goInt],rfl⟩
 ·cases h
theorem Pa{J:dM}{op:UnOp}{x cx v:Value}(h:U4 op x=some v)(hx:VR J x cx):(Op.unary op cx).run P w=.ok v w/\bm v=true:=by
 unfold U4 at h;split at h
 ·simp only[oi]at h;subst h
  obtain rfl:=(hx.aZ (fun a=>by simp)).int;exact⟨by simp[Op.unary,Op.intArith],rfl⟩
 ·simp only[oi]at h;subst h
  obtain rfl:=(hx.aZ (fun a=>by simp)).int;exact⟨by simp[Op.unary,Op.intBits],rfl⟩
 ·simp only[oi]at h;subst h
  obtain rfl:=(hx.aZ (fun a=>by simp)).bool;exact⟨by simp[Op.unary],rfl⟩
 ·cases h
theorem I3{J:dM}{src dst:TypeId}{x cx v:Value}(h:C9 P src dst x=some v)(hx:VR J x cx):(convert src dst cx).run P w=.ok v w/\bm v=true:=by
 unfold C9 at h;split at h
 ·rename_i d k k' n h1 h2
  simp only[oi]at h;subst h;obtain rfl:=(hx.aZ (fun a=>by simp)).int;exact⟨by simp[convert,aL h1,aL h2,Conv.intToInt],rfl⟩
 ·rename_i d s h1 h2
  simp only[oi]at h;subst h;obtain rfl:=(hx.aZ (fun a=>by simp)).string;exact⟨by simp[convert,aL h1,aL h2],rfl⟩
 ·cases h
theorem I4{x y v:Value}(h:w7 x y=some v):(Builtin.max2 x y).run P w=.ok v w/\bm v=true:=by
 unfold w7 at h;split at h
 ·simp only[oi]at h;subst h;exact⟨by simp[Builtin.max2],rfl⟩
 ·cases h
theorem I5{x y v:Value}(h:w8 x y=some v):(Builtin.min2 x y).run P w=.ok v w/\bm v=true:=by
 unfold w8 at h;split at h
 ·simp only[oi]at h;subst h;exact⟨by simp[Builtin.min2],rfl⟩
 ·cases h
theorem FJ{x y v:Value}(h:w7 x y=some v):(∃k n,x=.int k n)/\(∃k n,y=.int k n)/\∃k n,v=.int k n:=by
 unfold w7 at h;split at h
 ·simp only[oi]at h;subst h;exact⟨⟨_,_,rfl⟩,⟨_,_,rfl⟩,⟨_,_,rfl⟩⟩
 ·cases h
theorem FL{x y v:Value}(h:w8 x y=some v):(∃k n,x=.int k n)/\(∃k n,y=.int k n)/\∃k n,v=.int k n:=by
 unfold w8 at h;split at h
 ·simp only[oi]at h;subst h;exact⟨⟨_,_,rfl⟩,⟨_,_,rfl⟩,⟨_,_,rfl⟩⟩
 ·cases h
theorem uC{f:Value->Value->Option Value}{F:Value->Value->Sem Value}(hf:∀x y v,f x y=some v->(F x y).run P w=.ok v w)(hi:∀x y v,f x y=some v->(∃k n,x=.int k n)/\(∃k n,y=.int k n)/\∃k n,v=.int k n){J:dM} :
  ∀(r cr:List Value) (x cx v:Value),rK f x r=some v->VR J x cx->(r.length=cr.length/\∀(i:Nat) (a b:Value),r[i]?=some a->cr[i]?=some b->VR J a b)->∃c,(cr.foldlM F cx).run P w=.ok c w/\VR J v c
 | [],cr,x,cx,v,h,hx,hr=>by
  simp only[rK,oi]at h;subst h;have:cr=[]:=by have:=hr.1;cases cr<;>simp_all
  subst this;exact⟨cx,by simp,hx⟩
 |y :: r,cr,x,cx,v,h,hx,hr=>by
  cases cr with
  |nil=>have:=hr.1;simp at this
  |cons cy cr=>
   simp only[rK]at h;split at h
   ·rename_i z hz
    obtain⟨⟨k1,n1,rfl⟩,⟨k2,n2,rfl⟩,⟨k3,n3,rfl⟩⟩:=hi _ _ _ hz;obtain rfl:=(hx.aZ (fun a=>by simp)).int;obtain rfl:=((hr.2 0 _ _ rfl rfl).aZ (fun a=>by simp)).int;obtain⟨c,h1,h2⟩:=uC hf hi r cr (.int k3 n3) (.int k3 n3) v h (.c7 _ _ (.flat _ rfl)) ⟨by have:=hr.1;simpa using this,fun i a b ha hb=>hr.2 (i+1) a b (by simpa using ha) (by simpa using hb)⟩;exact⟨c,by simp[List.foldlM_cons,hf _ _ _ hz,h1],h2⟩
   ·cases h
theorem Pb:∀(d:Nat) (t:TypeId) (x y cx cy:Value) (b:Bool) (d':Nat),px P d t x y=some b->VG g x cx->VG g y cy->d<=d'->(Op.equalIn d' t cx cy).run P w=.ok b w:=by
 intro d
 induction d with
 |zero=>intro t x y cx cy b d' h;simp[px]at h
 |succ d ih=>
  intro t x y cx cy b d' h hx hy hd;obtain⟨d',rfl⟩:∃k,d'=k+1:=⟨d'-1,by omega⟩;have xw:d<=d':=by omega
  unfold px at h;split at h
  ·rename_i a b hu
   simp only[oi]at h;subst h;obtain rfl:=hx.bool;obtain rfl:=hy.bool;simp[Op.equalIn,aL hu]
  ·rename_i k0 k a k' b hu
   split at h
   ·rename_i hk
    simp only[oi]at h;subst h;obtain rfl:=hx.int;obtain rfl:=hy.int;simp[Op.equalIn,aL hu,hk]
   ·cases h
  ·rename_i a b hu
   simp only[oi]at h;subst h;obtain rfl:=hx.string;obtain rfl:=hy.string;simp[Op.equalIn,aL hu]
  ·rename_i fs xs ys hu
   cases uD:P.stoodInHeld t with
   |true=>rw[uD]at h;simp at h
   |false=>
    rw[uD]at h;simp only[cond_false]at h;obtain⟨Y4,rfl,Y5⟩:=hx.Dg;obtain⟨Y6,rfl,Vc⟩:=hy.Dg;have Y7:P.fieldsOf t=fs:=by simp[Program.fieldsOf,hu]
    rw[run_equalIn_struct w d' t Y4 Y6 (by rw[Y7];exact hu) uD,Y7];generalize fs.toList=l at h;clear hu Y7
    induction l generalizing b with
    |nil=>simp only[List.foldr_nil,oi]at h;subst h;simp[Op.eqFields]
    |cons f l Y8=>
     simp only[List.foldr_cons]at h;split at h
     ·cases h
     ·rename_i cG
      split at h
      ·rename_i u v Vd zG
       obtain⟨cu,p1,p2⟩:=lF (w:=w) Vd Y5;obtain⟨cv,q1,q2⟩:=lF (w:=w) zG Vc;split at h
       ·rename_i he
        have e1:=ih f.type u v cu cv true d' he p2 q2 xw;simp only[Op.eqFields,ne_eq,cG,not_false_eq_true,if_true,Sem.run_bind,p1,q1,e1,Result.andThen_ok];simpa using Y8 b h
       ·rename_i he
        have e1:=ih f.type u v cu cv false d' he p2 q2 xw;simp only[oi]at h;subst h;simp[Op.eqFields,cG,p1,q1,e1]
       ·cases h
      ·cases h
  ·rename_i len e xs ys hu
   split at h
   ·rename_i n hn
    obtain⟨Y4,rfl,Y5⟩:=hx.Dg;obtain⟨Y6,rfl,Vc⟩:=hy.Dg;obtain⟨i,hi,um⟩:=xu hn;have Di:P.cellsOf e=n:=by simp[Program.cellsOf,hi,um]
    rw[run_equalIn_array w d' Y4 Y6 hu hi,Di];generalize List.range len=l at h;clear hu
    induction l generalizing b with
    |nil=>simp only[List.foldr_nil,oi]at h;subst h;simp[Op.eqItems]
    |cons j l Y8=>
     simp only[List.foldr_cons]at h;split at h
     ·rename_i u v Vd zG
      obtain⟨cu,p1,p2⟩:=lF (w:=w) Vd Y5;obtain⟨cv,q1,q2⟩:=lF (w:=w) zG Vc;split at h
      ·rename_i he
       have e1:=ih e u v cu cv true d' he p2 q2 xw;simp only[Op.eqItems,Sem.run_bind,p1,q1,e1,Result.andThen_ok];simpa using Y8 b h
      ·rename_i he
       have e1:=ih e u v cu cv false d' he p2 q2 xw;simp only[oi]at h;subst h;simp[Op.eqItems,p1,q1,e1]
      ·cases h
     ·cases h
   ·cases h
  ·rename_i e n c bb n' c' hu
   simp only[oi]at h;subst h;obtain⟨rfl,rfl,rfl⟩:=hx.fx;cases bb with
   |none=>obtain⟨rfl,rfl,rfl⟩:=hy.fx;simp[Op.equalIn,aL hu]
   |some a=>rcases hy.dV with ⟨_,L,c2,_,rfl,_⟩|⟨rfl,_,a',c2,rfl,_⟩<;>simp[Op.equalIn,aL hu]
  ·rename_i e a n c n' c' hu
   simp only[oi]at h;subst h;obtain⟨rfl,rfl,rfl⟩:=hy.fx;rcases hx.dV with ⟨_,L,c2,_,rfl,_⟩|⟨rfl,_,a',c2,rfl,_⟩<;>simp[Op.equalIn,aL hu]
  ·rename_i e bb hu
   simp only[oi]at h;subst h;obtain rfl:=hx.pH;cases bb with
   |none=>obtain rfl:=hy.pH;simp[Op.equalIn,aL hu]
   |some a=>obtain⟨_,L,_,rfl⟩:=hy.pI;simp[Op.equalIn,aL hu]
  ·rename_i e a hu
   simp only[oi]at h;subst h;obtain⟨_,L,_,rfl⟩:=hx.pI;obtain rfl:=hy.pH;simp[Op.equalIn,aL hu]
  ·rename_i k e bb hu
   simp only[oi]at h;subst h;obtain rfl:=hx.Bu;cases bb with
   |none=>obtain rfl:=hy.Bu;simp[Op.equalIn,aL hu]
   |some a=>obtain⟨L,_,rfl⟩:=hy.O9;simp[Op.equalIn,aL hu]
  ·rename_i k e a hu
   simp only[oi]at h;subst h;obtain rfl:=hy.Bu;obtain⟨L,_,rfl⟩:=hx.O9;simp[Op.equalIn,aL hu]
  ·rename_i hu
   simp only[oi]at h;subst h;obtain rfl:=hx.nilFunc;obtain rfl:=hy.nilFunc;simp[Op.equalIn,aL hu]
  ·rename_i hu
   simp only[oi]at h;subst h;obtain rfl:=hx.nilFunc;obtain⟨Q2,x',y',rfl⟩:=hy.wu;simp[Op.equalIn,aL hu]
  ·rename_i hu
   simp only[oi]at h;subst h;obtain rfl:=hy.nilFunc;obtain⟨Q2,x',y',rfl⟩:=hx.wu;simp[Op.equalIn,aL hu]
  ·cases h
theorem I6 {op : BinOp} {k : IntKind} {a b : Int} {v : Value} {t : TypeId} {X Y : Operand} (h : vi op k a b = some v) :
    (do eqGuard op t X Y (.int k a) (.int k b); binOp op t (.int k a) (.int k b)).run P w = .ok v w ∧ bm v = true := by
  unfold vi at h
  split at h
  all_goals first
    | (cases h; done)
    | (simp only [oi] at h; subst h; exact ⟨by simp [eqGuard, binOp, Op.intArith, Op.intDiv, Op.intBits, Op.intCmp], rfl⟩)
    | (split at h
       · cases h
       · rename_i hb; simp only [oi] at h; subst h; exact ⟨by simp [eqGuard, binOp, Op.intDiv, hb], rfl⟩)
theorem I7 {op : BinOp} {a b : ByteArray} {v : Value} {t : TypeId} {X Y : Operand} (h : C8 op a b = some v) :
    (do eqGuard op t X Y (.string a) (.string b); binOp op t (.string a) (.string b)).run P w = .ok v w ∧ bm v = true := by
  unfold C8 at h
  split at h
  all_goals first
    | (cases h; done)
    | (simp only [oi] at h; subst h; exact ⟨by simp [eqGuard, binOp, Op.stringOp], rfl⟩)
    | (cases hb : Nat.ble (a.size + b.size) 1073741824 with
       | false => rw [hb] at h; simp at h
       | true =>
         rw [hb] at h
         simp only [cond_true, oi] at h
         subst h
         have := Nat.le_of_ble_eq_true hb
         refine ⟨?_, rfl⟩
         have e : ¬ (((a.size + b.size : Nat) : Int) > IntKind.i64.max) := by
           have : IntKind.i64.max = 9223372036854775807 := by decide
           rw [this]; omega
         simp only [eqGuard, binOp, Op.stringOp, e]
         simp)
theorem s7{op:BinOp}{t:TypeId}{X Y:Operand}{cx cy:Value}(hg:P.eqGuardType P.depth t=false)(hn:cx≠.nilIface):(eqGuard op t X Y cx cy).run P w=.ok () w:=by
 by_cases ho:op=.eql\/op=.neq
 ·rcases ho with rfl|rfl
  ·cases cx with
   |nilIface=>exact absurd rfl hn
   |agg x=>cases cy<;>simp[eqGuard,hg]
   |_=>simp[eqGuard]
  ·cases cx with
   |nilIface=>exact absurd rfl hn
   |agg x=>cases cy<;>simp[eqGuard,hg]
   |_=>simp[eqGuard]
 ·cases op<;>first|(exfalso;simp at ho;done)|simp[eqGuard]
theorem vl{op:BinOp}{k k':IntKind}{a b:Int}{v:Value}{t:TypeId}{X Y:Operand}(ho:op=.shl\/op=.shr)(h:qL op k a b=some v) :
  (do eqGuard op t X Y (.int k a) (.int k' b);binOp op t (.int k a) (.int k' b)).run P w=.ok v w/\bm v=true:=by
 unfold qL at h;split at h
 ·cases h
 ·rename_i hb
  rcases ho with rfl|rfl
  ·simp only[oi]at h;subst h;exact⟨by simp[eqGuard,binOp,Op.shift,hb],rfl⟩
  ·simp only[oi]at h;subst h;exact⟨by simp[eqGuard,binOp,Op.shift,hb],rfl⟩
theorem Dj{J:dM}{x y cx cy:Value}(h:jo x y=true)(hx:VR J x cx)(hy:VR J y cy):jo cx cy=true:=by
 unfold jo at h;split at h
 ·obtain⟨_,rfl,_⟩:=(hx.aZ (fun a=>by simp)).Dg
  obtain⟨_,rfl,_⟩:=(hy.aZ (fun a=>by simp)).Dg;rfl
 ·obtain⟨_,_,rfl,_⟩:=(hx.aZ (fun a=>by simp)).iJ
  obtain⟨_,_,rfl,_⟩:=(hy.aZ (fun a=>by simp)).iJ;rfl
 ·rename_i a b
  cases a with
  |none=>
   obtain rfl:=(hx.aZ (fun a=>by simp)).pH;cases b with
   |none=>obtain rfl:=(hy.aZ (fun a=>by simp)).pH;rfl
   |some b=>obtain⟨_,_,rfl⟩:=hy.pI;rfl
  |some a=>
   obtain⟨_,_,rfl⟩:=hx.pI;cases b with
   |none=>obtain rfl:=(hy.aZ (fun a=>by simp)).pH;rfl
   |some b=>obtain⟨_,_,rfl⟩:=hy.pI;rfl
 ·rename_i a b
  have h1:=hx.aZ (fun a=>by simp);have h2:=hy.aZ (fun a=>by simp);cases h1<;>cases h2<;>rfl
 ·obtain rfl:=(hx.aZ (fun a=>by simp)).nilFunc
  obtain rfl:=(hy.aZ (fun a=>by simp)).nilFunc;rfl
 ·obtain rfl:=(hx.aZ (fun a=>by simp)).nilFunc
  obtain⟨_,_,_,rfl⟩:=(hy.aZ (fun a=>by simp)).wu;rfl
 ·obtain⟨_,_,_,rfl⟩:=(hx.aZ (fun a=>by simp)).wu
  obtain rfl:=(hy.aZ (fun a=>by simp)).nilFunc;rfl
 ·cases h
theorem Dk{t:TypeId}{cx cy:Value}(h:jo cx cy=true):cx≠.nilIface/\binOp .eql t cx cy=(do pure (.bool (<-Op.equal t cx cy)))/\binOp .neq t cx cy=(do pure (.bool (!(<-Op.equal t cx cy)))):=by
 unfold jo at h;split at h
 all_goals first|(cases h;done)|exact⟨by simp,rfl,rfl⟩
theorem Lg{d:Nat}{t:TypeId}{a:Addr}{b:Bool}(h:px P (d+1) t (.pointer (some a)) (.pointer none)=some b):b=false/\∃e,P.underlying t=some (.pointer e):=by
 unfold px at h;split at h<;>first|(simp_all;done)|grind
theorem Lh{d:Nat}{t:TypeId}{a:Addr}{b:Bool}(h:px P (d+1) t (.pointer none) (.pointer (some a))=some b):b=false/\∃e,P.underlying t=some (.pointer e):=by
 unfold px at h;split at h<;>first|(simp_all;done)|grind
theorem Li{d:Nat}{t:TypeId}{a a':Addr}{b:Bool}(h:px P (d+1) t (.pointer (some a)) (.pointer (some a'))=some b):False:=by
 unfold px at h;split at h<;>first|(simp_all;done)|grind
theorem AG{J:dM}{t:TypeId}{x y cx cy:Value}{b:Bool}(hs:jo x y=true)(he:px P 30 t x y=some b)(hx:VR J x cx)(hy:VR J y cy):(Op.equal t cx cy).run P w=.ok b w:=by
 show(Op.equalIn (9999+1) t cx cy).run P w=.ok b w;have h30:30<=9999+1:=by omega
 generalize 9999=dd at h30;by_cases Y9:∃a,x=.pointer (some a)
 ·obtain⟨a,rfl⟩:=Y9
  obtain⟨L,_,rfl⟩:=hx.pI;unfold jo at hs;split at hs<;>first|(cases hs;done)|skip
  all_goals first|(rename_i q;cases q;done)|skip
  rename_i a' b' ha;cases ha;cases b' with
  |some b'=>exact(Li (d:=29) he).elim
  |none=>
   obtain rfl:=(hy.aZ (fun a=>by simp)).pH;obtain⟨rfl,e,hu⟩:=Lg (d:=29) he;simp[Op.equalIn,aL hu]
 ·have gx:=hx.aZ (fun a e=>Y9 ⟨a,e⟩)
  by_cases hpy:∃a,y=.pointer (some a)
  ·obtain⟨a,rfl⟩:=hpy
   obtain⟨L,_,rfl⟩:=hy.pI;unfold jo at hs;split at hs<;>first|(cases hs;done)|skip
   all_goals first|(rename_i q;cases q;done)|skip
   rename_i a' b' ha;cases ha;cases a' with
   |some a'=>exact absurd ⟨_,rfl⟩ Y9
   |none=>
    obtain rfl:=gx.pH;obtain⟨rfl,e,hu⟩:=Lh (d:=29) he;simp[Op.equalIn,aL hu]
  ·exact Pb 30 t x y cx cy b (dd+1) he gx (hy.aZ (fun a e=>hpy ⟨a,e⟩)) h30
theorem Dm{J:dM}{op:BinOp}{t:TypeId}{x y cx cy v:Value}{X Y:Operand}(h:wo P op t x y=some v)(hx:VR J x cx)(hy:VR J y cy) :
  (do eqGuard op t X Y cx cy;binOp op t cx cy).run P w=.ok v w/\bm v=true:=by
 unfold wo at h;cases hc:(jo x y && !(P.eqGuardType P.depth t))with
 |false=>rw[hc]at h;simp at h
 |true=>
  rw[hc]at h;simp only[cond_true]at h;simp only[Bool.and_eq_true,Bool.not_eq_true']at hc;obtain⟨hs,hg⟩:=hc;obtain⟨h1,h2,h3⟩:=Dk (t:=t) (Dj hs hx hy);split at h
  ·split at h
   ·rename_i b he
    simp only[oi]at h;subst h;exact⟨by rw[Sem.run_bind,s7 hg h1,Result.andThen_ok,h2];simp[AG hs he hx hy],rfl⟩
   ·cases h
  ·split at h
   ·rename_i b he
    simp only[oi]at h;subst h;exact⟨by rw[Sem.run_bind,s7 hg h1,Result.andThen_ok,h3];simp[AG hs he hx hy],rfl⟩
   ·cases h
  ·cases h
theorem Lj{J:dM}{op:BinOp}{t:TypeId}{x y cx cy v:Value}{X Y:Operand}(h:wZ P op t x y=some v)(hx:VR J x cx)(hy:VR J y cy) :
  (do eqGuard op t X Y cx cy;binOp op t cx cy).run P w=.ok v w/\bm v=true:=by
 unfold wZ at h;split at h
 ·rename_i k a k' b
  obtain rfl:=(hx.aZ (fun a=>by simp)).int;obtain rfl:=(hy.aZ (fun a=>by simp)).int;split at h
  ·exact vl (.inl rfl) h
  ·exact vl (.inr rfl) h
  ·split at h
   ·rename_i hk;subst hk;exact I6 h
   ·cases h
 ·obtain rfl:=(hx.aZ (fun a=>by simp)).string
  obtain rfl:=(hy.aZ (fun a=>by simp)).string;exact I7 h
 ·rename_i a b
  obtain rfl:=(hx.aZ (fun a=>by simp)).bool;obtain rfl:=(hy.aZ (fun a=>by simp)).bool;split at h
  ·rename_i hu
   simp only[oi]at h;subst h;have he:(Op.equal t (.bool a) (.bool b)).run P w=.ok (a == b) w:=run_equalIn_bool w 9999 t a b hu;have e1:eqGuard .eql t X Y (.bool a) (.bool b)=pure ():=rfl;have e2:binOp .eql t (.bool a) (.bool b)=(do pure (.bool (<-Op.equal t (.bool a) (.bool b)))):=rfl;exact⟨by rw[e1,e2];simp[he],rfl⟩
  ·rename_i hu
   simp only[oi]at h;subst h;have he:(Op.equal t (.bool a) (.bool b)).run P w=.ok (a == b) w:=run_equalIn_bool w 9999 t a b hu;have e1:eqGuard .neq t X Y (.bool a) (.bool b)=pure ():=rfl;have e2:binOp .neq t (.bool a) (.bool b)=(do pure (.bool (!(<-Op.equal t (.bool a) (.bool b))))):=rfl;exact⟨by rw[e1,e2];simp[he],rfl⟩
  ·cases h
 ·exact Dm h hx hy
