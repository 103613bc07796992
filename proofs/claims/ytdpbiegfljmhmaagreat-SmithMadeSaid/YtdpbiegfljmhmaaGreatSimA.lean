import Derived.Orders
import Derived.Laws.Cells
import Derived.Laws.CopyRow
import Derived.Laws.World
import Derived.Laws.StructEq
import Derived.Laws.Tables
import Derived.ChangeKeysEq
import Derived.RangeFuncRecord
set_option linter.unusedSimpArgs false
set_option linter.unusedVariables false
theorem om{p:Prop}(h:p:=by omega):p:=h
namespace Go.cS
theorem oG{G:Nat->Prop}(step:∀m,(∀k,m=k+1->G k)->G m):∀m,G m
 |0=>step 0 (fun k h=>by cases h)
 |m+1=>step (m+1) (fun k h=>by cases h;exact oG step m)
theorem oi{α:Type _}(a b:α):(some a=some b)=(a=b):=Option.some.injEq a b
theorem pj{α:Type _}{β:Type _}(a:α)(b:β)(c:α)(d:β):((a,b)=(c,d))=(a=c/\b=d):=Prod.mk.injEq a b c d
inductive cQ(α:Type) where
 |leaf
 |node (l:cQ α) (v:Option α) (r:cQ α)
namespace cQ
variable{α:Type}
def get:cQ α->Nat->Option α
 | .leaf,_=>none
 | .node l v r,n=>bif Nat.beq n 0 then v else bif Nat.beq (n % 2) 1 then l.get (n / 2)else r.get (n / 2-1)
def left:cQ α->cQ α | .leaf=>.leaf | .node l _ _=>l
def zd:cQ α->Option α | .leaf=>none | .node _ v _=>v
def right:cQ α->cQ α | .leaf=>.leaf | .node _ _ r=>r
def J8:(fuel:Nat)->cQ α->Nat->α->cQ α
 |0,t,_,_=>t
 |f+1,t,n,x=>
  bif Nat.beq n 0 then .node t.left (some x) t.right
  else bif Nat.beq (n % 2) 1 then .node (J8 f t.left (n / 2) x) t.zd t.right
  else .node t.left t.zd (J8 f t.right (n / 2-1) x)
def set(t:cQ α)(n:Nat)(x:α):cQ α:=J8 (n+1) t n x
def dG(p:α->Bool):cQ α->cQ α
 | .leaf=>.leaf
 | .node l v r=>.node (l.dG p) (match v with|some x=>bif p x then some x else none|none=>none) (r.dG p)
end cQ
inductive Cq where
 |dead
 |live (wr:Bool) (es:Nat) (cells:List Value)
 |map (es:List (Value×Value))
 |loop (st:LoopState) (ni:Option Code) (f:FuncId) (nt:Nat) (env:cQ Value) (ps:List Tmp) (assign body:Code)
def Cq.alive:Cq->Bool
 | .dead=>false
 |_=>true
structure af where
 next:Nat
 low:Nat
 m:cQ Cq
def aR:Nat:=9223372036854775808
def cL(c:Nat):Nat:=c % aR
def aw(es m:Nat):Nat:=aR*(es+1)+m
def af.cells?(h:af)(b:Nat):Option (List Value):=
 match h.m.get b with
 |some (.live _ _ cs)=>some cs
 |_=>none
def af.push(h:af)(es:Nat)(cs:List Value):af:=
 { next:=h.next+1,low:=h.low,m:=h.m.set h.next (.live true es cs) }
def af.gO(h:af)(b:Cq):af:={ next:=h.next+1,low:=h.low,m:=h.m.set h.next b }
def af.iW(h:af)(id:Nat)(b:Cq):af:={ next:=h.next,low:=Nat.min h.low id,m:=h.m.set id b }
def jR(cs:List Value)(off n:Nat):Option (List Value):=
 let r:=(cs.drop off).take n
 bif Nat.beq r.length n then some r else none
def mr(cs:List Value)(off:Nat)(vs:List Value):Option (List Value):=
 bif Nat.ble (off+vs.length) cs.length then some (cs.take off++(vs++cs.drop (off+vs.length)))else none
def aE:Value->Bool
 | .agg _ | .tuple _ | .chan _=>false
 | .pointer (some a)=>a.spot.isNone
 |_=>true
def bk:Value->Bool
 | .bool _ | .int _ _ | .string _ | .pointer none | .map none | .nilFunc | .nilIface=>true
 | .slice none 0 0=>true
 |_=>false
def flat:Value->Bool
 | .agg cs=>cs.toList.all bk
 | .tuple cs=>cs.toList.isEmpty
 |v=>bk v
structure St where
 env:cQ Value
 kn:Nat
 K:cQ (List Value)
 h:af
def St.cells?(s:St)(a:Addr):Option (List Value):=
 match a.spot with
 |none=>s.h.cells? a.block
 |some _=>bif Nat.blt a.block s.kn then s.K.get a.block else none
def St.read(s:St)(a:Addr)(n:Nat):Option (List Value):=
 match s.cells? a with
 |some cs=>jR cs a.off n
 |none=>none
def af.write(h:af)(b off:Nat)(vs:List Value):Option af:=
 match h.m.get b with
 |some (.live true es cs)=>
  match mr cs off vs with
  |some kR=>some { next:=h.next,low:=Nat.min h.low b,m:=h.m.set b (.live true es kR) }
  |none=>none
 |_=>none
def af.kill(h:af)(b:Nat):af:={ next:=h.next,low:=Nat.min h.low b,m:=h.m.set b .dead }
def St.write(s:St)(a:Addr)(vs:List Value):Option St:=
 bif vs.all aE then
  match a.spot with
  |none=>
   match s.h.write a.block a.off vs with
   |some h=>some { s with h:=h }
   |none=>none
  |some _=>
   bif Nat.blt a.block s.kn then
    match s.K.get a.block with
    |some cs=>
     match mr cs a.off vs with
     |some kR=>some { s with K:=s.K.set a.block kR }
     |none=>none
    |none=>none
   else none
 else none
def af.aM(h:af)(a:Addr)(n:Nat):Option (List Value):=
 match a.spot with
 |none=>
  match h.cells? a.block with
  |some cs=>jR cs a.off n
  |none=>none
 |some _=>none
def af.ik(h:af)(a:Addr)(vs:List Value):Option af:=
 match a.spot with
 |none=>bif vs.all aE then h.write a.block a.off vs else none
 |some _=>none
def St.new(s:St)(loc:Bool)(es:Nat)(cs:List Value):Option (Value×St):=
 bif cs.all aE then
  bif loc then some (.pointer (some ⟨s.kn,0,some 0⟩),{ s with kn:=s.kn+1,K:=s.K.set s.kn cs })
  else some (.pointer (some ⟨s.h.next,0,none⟩),{ s with h:=s.h.push es cs })
 else none
abbrev kY:=Bool->Nat->List Value->Option (Value×St)
def St.newAt(s:St)(id tag:Nat)(loc:Bool)(es:Nat)(cs:List Value):Option (Value×St):=
 bif cs.all aE then
  bif loc then some (.pointer (some ⟨tag,0,some 0⟩),{ s with K:=s.K.set tag cs })
  else some (.pointer (some ⟨id,0,none⟩),{ s with h:={ s.h with m:=s.h.m.set id (.live true es cs) } })
 else none
def fT(a:Addr)(n:Nat):Addr:={ a with off:=a.off+n }
def iE(P:Program)(t:TypeId):Option Bool:=
 match P.underlying t with
 |some (.struct _)=>some true
 |some (.array _ _)=>some true
 |some _=>some false
 |none=>none
def bS(P:Program)(t:TypeId):Option Nat:=
 match P.info? t with
 |some i=>some i.size
 |none=>none
def ia(P:Program)(t:TypeId):Option Value:=
 match P.info? t with
 |some i=>
  match i.zero with
  |some z=>bif flat z then some z else none
  |none=>none
 |none=>none
def oP(P:Program)(t:TypeId):Option Nat:=
 match P.info? t with
 |some i=>some i.bytes
 |none=>none
def sq(P:Program)(s:St)(t:TypeId)(a:Addr):Option Value:=
 match iE P t with
 |some true=>
  match bS P t with
  |some n=>
   match s.read a n with
   |some l=>some (.agg l.toArray)
   |none=>none
  |none=>none
 |some false=>
  match s.read a 1 with
  |some (v :: _)=>some v
  |_=>none
 |none=>none
def mu(P:Program)(s:St)(t:TypeId)(a:Addr)(v:Value):Option St:=
 match bS P t with
 |some n=>bif Nat.beq v.cells.toList.length n then s.write a v.cells.toList else none
 |none=>none
def kB(P:Program)(t:TypeId)(cs:Array Value)(off:Nat):Option Value:=
 match iE P t with
 |some true=>
  match bS P t with
  |some n=>
   match jR cs.toList off n with
   |some l=>some (.agg l.toArray)
   |none=>none
  |none=>none
 |some false=>cs.toList[off]?
 |none=>none
def bB(z:List Value):Nat->List Value
 |0=>[]
 |n+1=>z++bB z n
def iw(place:Nat->Option (Nat×Nat)):List Value->List (Nat×Value)->Option (List Value)
 |cells,[]=>some cells
 |cells,(i,v) :: rest=>
  match place i with
  |some (off,size)=>
   bif Nat.beq v.cells.toList.length size && v.cells.toList.all aE then
    match mr cells off v.cells.toList with
    |some cs=>iw place cs rest
    |none=>none
   else none
  |none=>none
def iJ(P:Program)(fs:List Field)(i:Nat):Option (Nat×Nat):=
 match fs[i]? with
 |some f=>
  match bS P f.type with
  |some n=>some (f.offset,n)
  |none=>none
 |none=>none
def tL(P:Program)(t:TypeId)(parts:List (Nat×Value)):Option Value:=
 match ia P t with
 |some z=>
  match P.underlying t with
  |some (.struct fs)=>
   bif fs.toList.all (fun f=>(P.info? f.type).isSome)then
    match iw (iJ P fs.toList) z.cells.toList parts with
    |some cs=>some (.agg cs.toArray)
    |none=>none
   else none
  |some (.array _ e)=>
   match bS P e with
   |some n=>
    match iw (fun i=>some (i*n,n)) z.cells.toList parts with
    |some cs=>some (.agg cs.toArray)
    |none=>none
   |none=>none
  |_=>none
 |none=>none
def eQ(P:Program)(mk:kY)(t:TypeId)(len:Nat)(parts:List (Nat×Value)):Option (Value×St):=
 match P.underlying t with
 |some (.slice e)=>
  match bS P e,ia P e with
  |some n,some z=>
   bif Nat.ble (len*n) 16777216 && Nat.beq z.cells.toList.length n && Nat.ble len 16777216 then
    match iw (fun i=>some (i*n,n)) (bB z.cells.toList len) parts with
    |some cs=>
     match mk false n cs with
     |some (.pointer (some a),s')=>some (.slice (some a) len len,s')
     |_=>none
    |none=>none
   else none
  |_,_=>none
 |_=>none
def uH(op:BinOp)(k:IntKind)(a b:Int):Option Value:=
 match op with
 | .add=>some (.int k (k.wrap (a+b)))
 | .sub=>some (.int k (k.wrap (a-b)))
 | .mul=>some (.int k (k.wrap (a*b)))
 | .quo=>if b=0 then none else some (.int k (k.wrap (a.tdiv b)))
 | .rem=>if b=0 then none else some (.int k (a.tmod b))
 | .and=>some (.int k (k.wrap (BitVec.ofInt k.bits a &&& BitVec.ofInt k.bits b).toNat))
 | .or=>some (.int k (k.wrap (BitVec.ofInt k.bits a ||| BitVec.ofInt k.bits b).toNat))
 | .xor=>some (.int k (k.wrap (BitVec.ofInt k.bits a ^^^ BitVec.ofInt k.bits b).toNat))
 | .andNot=>some (.int k (k.wrap (BitVec.ofInt k.bits a &&& ~~~ BitVec.ofInt k.bits b).toNat))
 | .eql=>some (.bool (a == b))
 | .neq=>some (.bool (a != b))
 | .lss=>some (.bool (decide (a<b)))
 | .leq=>some (.bool (decide (a<=b)))
 | .gtr=>some (.bool (decide (a>b)))
 | .geq=>some (.bool (decide (a≥b)))
 |_=>none
def qg(op:BinOp)(k:IntKind)(x y:Int):Option Value:=
 if y<0 then none else
 match op with
 | .shl=>some (.int k (k.wrap (x*2 ^ (min y.toNat k.bits))))
 | .shr=>some (.int k (x.fdiv (2 ^ (min y.toNat k.bits))))
 |_=>none
def Cr(op:BinOp)(x y:ByteArray):Option Value:=
 match op with
 | .eql=>some (.bool (x.toList == y.toList))
 | .neq=>some (.bool !(x.toList == y.toList))
 | .lss=>some (.bool (Op.bytesLess x.toList y.toList))
 | .leq=>some (.bool (Op.bytesLess x.toList y.toList || x.toList == y.toList))
 | .gtr=>some (.bool !(Op.bytesLess x.toList y.toList || x.toList == y.toList))
 | .geq=>some (.bool !(Op.bytesLess x.toList y.toList))
 | .add=>bif Nat.ble (x.size+y.size) 1073741824 then some (.string (x++y))else none
 |_=>none
def oM(P:Program):Nat->TypeId->Value->Value->Option Bool
 |0,_,_,_=>none
 |d+1,t,x,y=>
  match P.underlying t,x,y with
  |some .bool,.bool a,.bool b=>some (a == b)
  |some (.int _),.int k a,.int k' b=>if k=k' then some (a == b)else none
  |some .string,.string a,.string b=>some (a == b)
  |some (.struct fs),.agg xs,.agg ys=>
   bif P.stoodInHeld t then none else
   fs.toList.foldr (fun f acc=>
    if f.name = "_" then none else
    match kB P f.type xs f.offset,kB P f.type ys f.offset with
    |some u,some v=>
     match oM P d f.type u v with
     |some true=>acc
     |some false=>some false
     |none=>none
    |_,_=>none) (some true)
  |some (.array len e),.agg xs,.agg ys=>
   match bS P e with
   |some n=>
    (List.range len).foldr (fun i acc=>
     match kB P e xs (i*n),kB P e ys (i*n)with
     |some u,some v=>
      match oM P d e u v with
      |some true=>acc
      |some false=>some false
      |none=>none
     |_,_=>none) (some true)
   |none=>none
  |some (.slice _),.slice none _ _,.slice b _ _=>some b.isNone
  |some (.slice _),.slice (some _) _ _,.slice none _ _=>some false
  |some (.pointer _),.pointer none,.pointer b=>some b.isNone
  |some (.pointer _),.pointer (some _),.pointer none=>some false
  |some (.map _ _),.map none,.map b=>some b.isNone
  |some (.map _ _),.map (some _),.map none=>some false
  |some (.func _ _ _),.nilFunc,.nilFunc=>some true
  |some (.func _ _ _),.nilFunc,.func _ _ _=>some false
  |some (.func _ _ _),.func _ _ _,.nilFunc=>some false
  |_,_,_=>none
def aac:BinOp->Bool
 | .eql | .neq=>true
 |_=>false
def iZ:Value->Value->Bool
 | .agg _,.agg _=>true
 | .slice _ _ _,.slice _ _ _=>true
 | .pointer _,.pointer _=>true
 | .map _,.map _=>true
 | .nilFunc,.nilFunc=>true
 | .nilFunc,.func _ _ _=>true
 | .func _ _ _,.nilFunc=>true
 |_,_=>false
def vK(P:Program)(op:BinOp)(t:TypeId)(x y:Value):Option Value:=
 bif iZ x y && !(P.eqGuardType P.depth t)then
  match op with
  | .eql=>match oM P 30 t x y with|some b=>some (.bool b)|none=>none
  | .neq=>match oM P 30 t x y with|some b=>some (.bool !b)|none=>none
  |_=>none
 else none
def wv(P:Program)(op:BinOp)(t:TypeId)(x y:Value):Option Value:=
 match x,y with
 | .int k a,.int k' b=>
  match op with
  | .shl=>qg .shl k a b
  | .shr=>qg .shr k a b
  |op=>if k=k' then uH op k a b else none
 | .string a,.string b=>Cr op a b
 | .bool a,.bool b=>
  match op,P.underlying t with
  | .eql,some .bool=>some (.bool (a == b))
  | .neq,some .bool=>some (.bool !(a == b))
  |_,_=>none
 |x,y=>vK P op t x y
def T8(op:UnOp)(x:Value):Option Value:=
 match op,x with
 | .neg,.int k n=>some (.int k (k.wrap (0-n)))
 | .xor,.int k n=>some (.int k (k.wrap (BitVec.ofInt k.bits (if k.signed then -1 else k.max) ^^^ BitVec.ofInt k.bits n).toNat))
 | .not,.bool b=>some (.bool !b)
 |_,_=>none
def Cs(P:Program)(src dst:TypeId)(x:Value):Option Value:=
 match P.underlying src,P.underlying dst,x with
 |some _,some (.int k),.int _ n=>some (.int k (k.wrap n))
 |some _,some .string,.string s=>some (.string s)
 |_,_,_=>none
def bound(v:Value)(y:Nat):Option Nat:=
 match v with
 | .int _ i=>if 0<=i/\i<=y then some i.toNat else none
 |_=>none
def gq(mx:Option Value)(c:Nat):Option Nat:=
 match mx with
 |some v=>bound v c
 |none=>some c
def iB(hi mx:Option Value)(len m:Nat):Option Nat:=
 match hi,mx with
 |some v,_=>bound v m
 |none,none=>some len
 |none,some _=>none
def gX(lo:Option Value)(h:Nat):Option Nat:=
 match lo with
 |some v=>bound v h
 |none=>some 0
def kZ(a:Option Addr)(len c size:Nat)(lo hi mx:Option Value):Option Value:=
 match gq mx (cL c)with
 |none=>none
 |some m=>
  match iB hi mx len m with
  |none=>none
  |some h=>
   match gX lo h with
   |none=>none
   |some l=>
    bif Nat.ble h m then
     bif Nat.blt c aR || mx.isSome then
      some (.slice (bif Nat.beq m l then a else a.map (fT · (l*size))) (h-l) (m-l))
     else bif Nat.beq l 0 then some (.slice a h c)
     else bif Nat.blt l m && Nat.beq (c / aR) (size+1)then some (.slice (a.map (fT · (l*size))) (h-l) (aw size (m-l)))
     else bif Nat.beq l m then some (.slice (some ⟨0,0,some 0⟩) 0 aR)else none
    else none
def gF(P:Program)(t:TypeId)(x:Value)(lo hi mx:Option Value):Option Value:=
 match P.underlying t,x with
 |some .string,.string s=>
  match mx with
  |some _=>none
  |none=>
   match iB hi none s.size s.size with
   |none=>none
   |some h=>
    match gX lo h with
    |none=>none
    |some l=>some (.string (s.extract l h))
 |some (.slice e),.slice a len c=>
  match bS P e with
  |some n=>kZ a len c n lo hi mx
  |none=>none
 |some (.array n e),.pointer (some a)=>
  match a.spot,bS P e with
  |none,some z=>bif Nat.blt n aR then kZ (some a) n n z lo hi mx else none
  |_,_=>none
 |_,_=>none
def k9(P:Program)(t:TypeId)(x:Value)(f:Nat):Option Value:=
 match P.underlying t,x with
 |some (.struct fs),.pointer (some a)=>
  match fs.toList[f]? with
  |some fd=>
   match bS P fd.type with
   |some n=>bif Nat.beq n 0 then none else some (.pointer (some (fT a fd.offset)))
   |none=>none
  |none=>none
 |_,_=>none
def tM(P:Program)(t:TypeId)(x:Value)(f:Nat):Option Value:=
 match P.underlying t,x with
 |some (.struct fs),.agg cs=>
  match fs.toList[f]? with
  |some fd=>kB P fd.type cs fd.offset
  |none=>none
 |_,_=>none
def lg(P:Program)(t:TypeId)(x ix:Value):Option Value:=
 match P.underlying t,x,ix with
 |some (.array len e),.pointer (some a),.int _ i=>
  match bS P e with
  |some n=>if 0<=i/\i<len then some (.pointer (some (fT a (i.toNat*n))))else none
  |none=>none
 |some (.slice e),.slice (some a) len _,.int _ i=>
  match bS P e with
  |some n=>if 0<=i/\i<len then some (.pointer (some (fT a (i.toNat*n))))else none
  |none=>none
 |_,_,_=>none
def wz(P:Program)(t:TypeId)(x ix:Value):Option Value:=
 match P.underlying t,x,ix with
 |some (.array len e),.agg cs,.int _ i=>
  match bS P e with
  |some n=>if 0<=i/\i<len then kB P e cs (i.toNat*n)else none
  |none=>none
 |some .string,.string s,.int _ i=>
  if 0<=i then
   match s[i.toNat]? with
   |some b=>some (.int .u8 b.toNat)
   |none=>none
  else none
 |_,_,_=>none
def fJ(P:Program)(mk:kY)(t:TypeId)(l c:Value):Option (Value×St):=
 match P.underlying t,l,c with
 |some (.slice e),.int _ l,.int _ c=>
  match bS P e,ia P e,oP P e with
  |some n,some z,some by_=>
   if 0<=l/\l<=c/\c<=1073741824/\by_<=16384/\z.cells.toList.length=n then
    match mk false n (bB z.cells.toList c.toNat)with
    |some (.pointer (some a),s')=>some (.slice (some a) l.toNat c.toNat,s')
    |_=>none
   else none
  |_,_,_=>none
 |_,_,_=>none
def J9(P:Program)(t:TypeId)(x:Value):Option Value:=
 match P.underlying t,x with
 |some .string,.string s=>some (.int .i64 s.size)
 |some (.array n _),_=>some (.int .i64 n)
 |some (.slice _),.slice _ n _=>some (.int .i64 n)
 |some (.pointer e),_=>
  match P.underlying e with
  |some (.array n _)=>some (.int .i64 n)
  |_=>none
 |_,_=>none
def wA:Value->Value->Option Value
 | .int k x,.int _ y=>some (.int k (if y>x then y else x))
 |_,_=>none
def wB:Value->Value->Option Value
 | .int k x,.int _ y=>some (.int k (if y<x then y else x))
 |_,_=>none
def qV(f:Value->Value->Option Value):Value->List Value->Option Value
 |x,[]=>some x
 |x,y :: r=>
  match f x y with
  |some z=>qV f z r
  |none=>none
def jy(P:Program)(h:af)(e size:Nat)(iK:Bool)(x:Value):Option (Nat×List Value):=
 bif iK then
  match x,ia P e,oP P e with
  | .int _ n,some z,some by_=>if 0<=n/\n<=1073741824/\by_<=16384/\z.cells.toList.length=size then some (n.toNat,bB z.cells.toList n.toNat)else none
  |_,_,_=>none
 else
  match x with
  | .slice (some a) n _=>
   match h.aM a (n*size)with
   |some l=>some (n,l)
   |none=>bif a.spot.isSome && Nat.beq n 0 then some (0,[])else none
  | .slice none n _=>bif Nat.beq n 0 then some (0,[])else none
  | .string b=>some (b.size,b.data.toList.map fun c=>.int .u8 c.toNat)
  |_=>none
def cT:Option TypeDesc->Bool
 |some (.int _)=>true
 |_=>false
def cN(P:Program)(h:af)(ts:List TypeId)(args:List Value):Option (Value×af):=
 match ts,args with
 | [t,xt],[.slice base len c,x]=>
  match P.underlying t with
  |some (.slice e)=>
   match bS P e,oP P e,P.underlying xt,ia P e with
   |some size,some by_,some xd,some z=>
    match jy P h e size (cT (some xd)) x with
    |some (n,news)=>
     bif Nat.ble (len+n) (cL c)then
      match base with
      |some a=>
       match h.ik (fT a (len*size)) news with
       |some h'=>some (.slice base (len+n) c,h')
       |none=>bif a.spot.isSome && Nat.beq n 0 && news.isEmpty then some (.slice base len c,h)else none
      |none=>some (.slice none (len+n) c,h)
     else bif Nat.ble (len+n) 1073741824 && Nat.ble by_ 16384 && news.all aE && Nat.beq z.cells.toList.length size && Nat.beq news.length (n*size)then
      match base with
      |none=>
       bif Nat.beq len 0 then
        some (.slice (some ⟨h.next,0,none⟩) (len+n) (aw size (len+n)),h.push size news)
       else none
      |some a=>
       match a.spot,h.aM a (len*size)with
       |none,some cJ=>
        bif Nat.blt c aR then
         bif cJ.all aE then some (.slice (some ⟨h.next,0,none⟩) (len+n) (aw size (len+n)),h.push size (cJ++news))else none
        else bif cJ.all aE then
         match h.m.get a.block with
         |some (.live true es _)=>
          bif Nat.beq es size then
           some (.slice (some ⟨h.next,0,none⟩) (len+n) (aw size (len+n)),(h.kill a.block).push size (cJ++news))
          else none
         |_=>none
        else none
       |some _,_=>bif Nat.beq c 0 then some (.slice (some ⟨h.next,0,none⟩) (len+n) (aw size (len+n)),h.push size news)else none
       |_,_=>none
     else none
    |none=>none
   |_,_,_,_=>none
  |_=>none
 |_,_=>none
def ss(P:Program)(h:af)(ts:List TypeId)(args:List Value):Option (Value×af):=
 match ts,args with
 | [t,_],[.slice base len _,x]=>
  match P.underlying t with
  |some (.slice e)=>
   match bS P e with
   |some size=>
    match x with
    | .slice (some b) n _=>
     match h.aM b (Nat.min n len*size)with
     |some l=>
      match base with
      |some a=>
       match h.ik a l with
       |some h'=>some (.int .i64 (Nat.min n len:Nat),h')
       |none=>bif a.spot.isSome then some (.int .i64 0,h)else none
      |none=>some (.int .i64 (Nat.min n len:Nat),h)
     |none=>bif b.spot.isSome && Nat.beq n 0 then some (.int .i64 0,h)else none
    | .slice none n _=>bif Nat.beq n 0 then some (.int .i64 0,h)else none
    |_=>none
   |none=>none
  |_=>none
 |_,_=>none
def bytesOf:List Value->Option (List UInt8)
 | []=>some []
 | .int .u8 n :: r=>
  match bytesOf r with
  |some l=>some (UInt8.ofNat n.toNat :: l)
  |none=>none
 |_=>none
def oq(P:Program)(h:af)(src dst:TypeId)(a:Option Addr)(n:Nat):Option Value:=
 match P.underlying src,P.underlying dst with
 |some (.slice e),some .string=>
  match P.underlying e with
  |some (.int .u8)=>
   match a with
   |none=>some (.string .empty)
   |some a=>
    match h.aM a n with
    |some l=>
     match bytesOf l with
     |some bs=>some (.string ⟨bs.toArray⟩)
     |none=>none
    |none=>bif a.spot.isSome && Nat.beq n 0 then some (.string .empty)else none
  |_=>none
 |_,_=>none
def N8(P:Program)(t:TypeId)(x:Value):Option Value:=
 match P.underlying t,x with
 |some (.slice _),.slice _ _ c=>bif Nat.blt c aR then some (.int .i64 c)else none
 |_,_=>none
def rC(P:Program)(h:af)(ts:List TypeId)(args:List Value):Option (Value×af):=
 match ts,args with
 | [t],[.slice base len _]=>
  match P.underlying t with
  |some (.slice e)=>
   match base with
   |none=>some (undef,h)
   |some a=>
    bif Nat.beq len 0 then some (undef,h)else
    match ia P e with
    |some z=>
     match h.ik a (bB z.cells.toList len)with
     |some h'=>some (undef,h')
     |none=>none
    |none=>none
  |_=>none
 |_,_=>none
def bO(s:St):Option (Value×af)->Option (Value×St)
 |some (v,h)=>some (v,{ s with h:=h })
 |none=>none
def dr:Value->Bool
 | .pointer (some a)=>a.spot.isNone
 |_=>true
def iF:TypeDesc->Bool
 | .int _ | .string | .bool=>true
 |_=>false
def isKey:Value->Bool
 | .int _ _ | .string _ | .bool _=>true
 |_=>false
def wC(kind:TypeDesc)(k:Value):List (Value×Value)->Nat->Option (Option (Nat×Value))
 | [],_=>some none
 |e :: es,i=>
  match Instr.sameNow kind k e.1 with
  |some true=>some (some (i,e.2))
  |some false=>wC kind k es (i+1)
  |none=>none
def wD(h:af):Value->Option (List (Value×Value))
 | .map none=>some []
 | .map (some id)=>
  match h.m.get id with
  |some (.map es)=>some es
  |_=>none
 |_=>none
def found(ok:Bool)(v:Value)(b:Bool):Value:=bif ok then .tuple #[v,.bool b] else v
def kH(P:Program)(h:af)(t:TypeId)(x k:Value)(ok:Bool):Option (Value×af):=
 match P.underlying t with
 |some (.map kt et)=>
  match P.underlying kt,ia P et,wD h x with
  |some kd,some z,some es=>
   bif iF kd && isKey k then
    match wC kd k es 0 with
    |some (some (_,v))=>some (found ok v true,h)
    |some none=>some (found ok z false,h)
    |none=>none
   else none
  |_,_,_=>none
 |_=>none
def kI(P:Program)(h:af)(t:TypeId)(x k v:Value):Option (Value×af):=
 match P.underlying t,x with
 |some (.map kt _),.map (some id)=>
  match P.underlying kt,h.m.get id with
  |some kd,some (.map es)=>
   bif iF kd && isKey k && dr v then
    match wC kd k es 0 with
    |some (some (i,_))=>some (undef,h.iW id (.map (es.set i (k,v))))
    |some none=>some (undef,h.iW id (.map (es++[(k,v)])))
    |none=>none
   else none
  |_,_=>none
 |_,_=>none
def bH(s:St):Operand->Option Value
 | .tmp t=>s.env.get t
 | .const v=>bif flat v then some v else none
 | .global _=>none
 | .func f=>some (.func (.func f) #[] #[])
def gP(s:St):List Operand->Option (List Value)
 | []=>some []
 |x :: r=>
  match bH s x with
  |some v=>
   match gP s r with
   |some l=>some (v :: l)
   |none=>none
  |none=>none
def jc(s:St):Option Operand->Option (Option Value)
 |none=>some none
 |some x=>
  match bH s x with
  |some v=>some (some v)
  |none=>none
def fU(s:St):List (Nat×Operand)->Option (List (Nat×Value))
 | []=>some []
 |(i,x) :: r=>
  match bH s x with
  |some v=>
   match fU s r with
   |some l=>some ((i,v) :: l)
   |none=>none
  |none=>none
def gm(P:Program)(mk:kY)(loc:Bool)(o:Op)(s:St):Option (Value×St):=
 match o with
 | .move x=>match bH s x with|some v=>some (v,s)|none=>none
 | .assign x=>match bH s x with|some v=>some (v,s)|none=>none
 | .pick c a b=>
  match bH s c with
  |some (.bool true)=>match bH s a with|some v=>some (v,s)|none=>none
  |some (.bool false)=>match bH s b with|some v=>some (v,s)|none=>none
  |_=>none
 | .alloc e=>
  match ia P e,bS P e with
  |some z,some n=>mk loc n z.cells.toList
  |_,_=>none
 | .box e x=>
  match bH s x,bS P e with
  |some v,some n=>mk loc n v.cells.toList
  |_,_=>none
 | .build t parts=>
  match fU s parts.toList with
  |some l=>match tL P t l with|some v=>some (v,s)|none=>none
  |none=>none
 | .buildSlice t len parts=>
  match fU s parts.toList with
  |some l=>eQ P mk t len l
  |none=>none
 | .load t x=>
  match bH s x with
  |some (.pointer (some a))=>match sq P s t a with|some v=>some (v,s)|none=>none
  |_=>none
 | .store t x y=>
  match bH s x,bH s y with
  |some (.pointer (some a)),some v=>match mu P s t a v with|some s'=>some (undef,s')|none=>none
  |_,_=>none
 | .nilCheck x=>
  match bH s x with
  |some (.pointer (some a))=>some (.pointer (some a),s)
  |some (.func (.func f) first captured)=>some (.func (.func f) first captured,s)
  |_=>none
 | .binOp op t x y _=>
  match bH s x,bH s y with
  |some a,some b=>match wv P op t a b with|some v=>some (v,s)|none=>none
  |_,_=>none
 | .unOp op _ x=>
  match bH s x with
  |some a=>match T8 op a with|some v=>some (v,s)|none=>none
  |none=>none
 | .convert src dst x=>
  match bH s x with
  |some (.slice a n _)=>match oq P s.h src dst a n with|some v=>some (v,s)|none=>none
  |some a=>match Cs P src dst a with|some v=>some (v,s)|none=>none
  |none=>none
 | .makeFunc fn first captured=>
  match fn,gP s first.toList,gP s captured.toList with
  | .func f,some l,some r=>bif l.all dr && r.all dr then some (.func (.func f) l.toArray r.toArray,s)else none
  |_,_,_=>none
 | .makeSlice t l c=>
  match bH s l,bH s c with
  |some a,some b=>fJ P mk t a b
  |_,_=>none
 | .slice t x lo hi mx=>
  match bH s x,jc s lo,jc s hi,jc s mx with
  |some v,some a,some b,some c=>match gF P t v a b c with|some r=>some (r,s)|none=>none
  |_,_,_,_=>none
 | .fieldAddr t x f=>
  match bH s x with
  |some v=>match k9 P t v f with|some r=>some (r,s)|none=>none
  |none=>none
 | .field t x f=>
  match bH s x with
  |some v=>match tM P t v f with|some r=>some (r,s)|none=>none
  |none=>none
 | .indexAddr t x i=>
  match bH s x,bH s i with
  |some v,some j=>match lg P t v j with|some r=>some (r,s)|none=>none
  |_,_=>none
 | .index t x i=>
  match bH s x,bH s i with
  |some v,some j=>match wz P t v j with|some r=>some (r,s)|none=>none
  |_,_=>none
 | .extract x i=>
  match bH s x with
  |some (.tuple vs)=>match vs.toList[i]? with|some v=>some (v,s)|none=>none
  |_=>none
 | .call { callee:=.builtin b,args,argTypes }=>
  match gP s args.toList with
  |some l=>
   match b,l with
   | .len,[x]=>match argTypes.toList with | [t]=>(match J9 P t x with|some v=>some (v,s)|none=>none)|_=>none
   | .cap,[x]=>match argTypes.toList with | [t]=>(match N8 P t x with|some v=>some (v,s)|none=>none)|_=>none
   | .max,x :: r=>match qV wA x r with|some v=>some (v,s)|none=>none
   | .min,x :: r=>match qV wB x r with|some v=>some (v,s)|none=>none
   | .append,l=>bO s (cN P s.h argTypes.toList l)
   | .copy,l=>bO s (ss P s.h argTypes.toList l)
   | .clear,l=>bO s (rC P s.h argTypes.toList l)
   |_,_=>none
  |none=>none
 | .makeMap _ none=>bO s (some (.map (some s.h.next),s.h.gO (.map [])))
 | .lookup t x i ok=>
  match bH s x,bH s i with
  |some a,some b=>bO s (kH P s.h t a b ok)
  |_,_=>none
 | .mapUpdate t m k x=>
  match bH s m,bH s k,bH s x with
  |some a,some b,some c=>bO s (kI P s.h t a b c)
  |_,_,_=>none
 | .insert t m k x=>
  match bH s m,bH s k,bH s x with
  |some a,some b,some c=>bO s (kI P s.h t a b c)
  |_,_,_=>none
 |_=>none
def bK:Op->Bool
 | .move _ | .assign _ | .pick .. | .build .. | .nilCheck _ | .binOp .. | .unOp .. | .makeFunc .. | .slice .. | .fieldAddr .. | .field .. | .indexAddr .. | .index .. | .extract ..=>true
 | .call { callee:=.builtin .len,.. } | .call { callee:=.builtin .cap,.. } | .call { callee:=.builtin .max,.. } | .call { callee:=.builtin .min,.. }=>true
 |_=>false
def iC:Op->Bool
 | .store ..=>true
 |_=>false
def prec(b:Array Nat)(p q:Nat):Bool:=(b.getD q 0).testBit p
def shares (ops : Array Oper) (x y : Oper) : Bool :=
  (match x.dst with
   | some d => (y.looksAt ops).contains d || y.dst == some d
   | none => false) ||
  (match y.dst with
   | some d => (x.looksAt ops).contains d
   | none => false)
def GH:Op->Bool
 | .load .. | .store .. | .alloc _ | .box .. | .buildSlice .. | .makeSlice .. | .convert ..=>false
 |o=>!bK o
def Ct(o:Op)(loc:Bool):Bool:=
 match o with
 | .alloc _ | .box _ _=>!loc
 | .buildSlice _ _ _ | .makeSlice _ _ _=>true
 |_=>false
def Cu(o:Op)(loc:Bool):Bool:=
 match o with
 | .alloc _ | .box _ _=>loc
 |_=>false
def Ka(ops:Array Oper)(done:List Nat):Option Nat:=
 let ready:=(List.range ops.size).filter fun i=>!(done.contains i) && (match ops[i]? with|some o=>o.after.toList.all (fun e=>!(Region.binds .any e) || done.contains e.on)|none=>false)
 match ready.find? (fun i=>match ops[i]? with|some o=>!(GH o.op)|none=>false)with
 |some i=>some i
 |none=>ready.head?
def zM(ops:Array Oper):Nat->List Nat->List Nat
 |0,done=>done.reverse
 |n+1,done=>
  match Ka ops done with
  |some i=>zM ops n (i :: done)
  |none=>done.reverse
def fQ(ops:Array Oper):List Nat:=zM ops ops.size []
def zN{α:Type}(p:α->α->Bool):List α->Bool
 | []=>true
 |x :: l=>l.all (p x) && zN p l
def nj(ops:Array Oper)(l:List Nat):Bool:=
 Nat.beq l.length ops.size && (List.range ops.size).all (fun i=>l.contains i) &&
 (ops.toList.zipIdx.all fun(o,i)=>o.after.toList.all (fun e=>!(Region.binds .any e) || Nat.blt e.on i)) &&
 zN (fun p q=>(!(Nat.beq p q)) && (match ops[p]?,ops[q]? with|some x,some y=>!(shares ops x y) || prec (Region.before ops) p q|_,_=>false)) l
inductive FP where
 |none
 |block (loc:Bool) (b:Nat)
 |new (loc:Bool) (b:Nat)
 |all
 |app (b:Nat)
def FP.fj:FP->Bool
 | .all=>true
 | .app _=>true
 |_=>false
def FP.Kb:FP->Nat->Bool
 | .app c,b=>Nat.beq b c
 |_,_=>true
def Cv:Option Value->Nat
 |some (.slice (some a) _ _)=>a.block
 |_=>0
def Cw(s:St):List Operand->Option Value
 |x :: _=>bH s x
 | []=>none
def dO(o:Op)(loc:Bool)(id tag:Nat)(s:St):FP:=
 bif bK o then .none else
 match o with
 | .alloc _ | .box _ _=>bif loc then .new true tag else .new false id
 | .buildSlice _ _ _ | .makeSlice _ _ _=>.new false id
 | .load _ x | .store _ x _=>
  match bH s x with
  |some (.pointer (some a))=>.block a.spot.isSome a.block
  |_=>.all
 | .convert _ _ x=>
  match bH s x with
  |some (.slice (some a) _ _)=>bif a.spot.isNone then .block false a.block else .none
  |_=>.none
 | .call { callee:=.builtin .append,args,argTypes }=>.app (Cv (Cw s args.toList))
 |_=>.all
def same(l l':Bool)(b b':Nat):Bool:=(l == l') && Nat.beq b b'
def cA(dD:Nat):FP->Bool->FP->Bool->Bool
 | .none,_,_,_=>false
 |_,_,.none,_=>false
 | .all,_,_,_=>true
 | .app _,_,_,_=>true
 | .block l b,wx,.all,wy=>!l && (wx || wy || !(Nat.blt b dD))
 | .block l b,wx,.app c,wy=>!l && (wx || (wy && Nat.beq b c) || !(Nat.blt b dD))
 | .new _ _,_,.all,wy=>wy
 | .new _ b,_,.app c,wy=>wy && Nat.beq b c
 | .block l b,wx,.block l' b',wy=>(wx || wy) && same l l' b b'
 | .block l b,_,.new l' b',_=>same l l' b b'
 | .new l b,_,.block l' b',_=>same l l' b b'
 | .new l b,_,.new l' b',_=>same l l' b b'
def Cx(ops:Array Oper)(dD:Nat)(il:List (Nat×FP×Bool)):Bool:=
 zN (fun(p,x,wx) (q,y,wy)=>!(cA dD x wx y wy) || prec (Region.before ops) p q) il
def restrict(env:cQ Value):List Tmp->cQ Value->cQ Value
 | [],acc=>acc
 |t :: r,acc=>
  match env.get t with
  |some v=>restrict env r (acc.set t v)
  |none=>restrict env r acc
def su(kn:Nat):Value->Bool
 | .pointer (some a)=>a.spot.isNone || Nat.blt a.block kn
 |_=>true
structure Hint where
 loc:FuncId->Tmp->Bool
 dG:FuncId->Nat->Option (List Tmp)
def AJ:Hint:={ loc:=fun _ _=>false,dG:=fun _ _=>none }
def keyOf:Code->Nat
 | .region id _ _=>id
 | .seq a _=>keyOf a
 | .block _ c=>keyOf c
 | .loop c=>keyOf c+1000
 | .scope c=>keyOf c
 |_=>0
def norm(H:Hint)(f:FuncId)(c:Code)(kn:Nat)(s:St):Option St:=
 match H.dG f (keyOf c)with
 |none=>some s
 |some l=>
  let env:=restrict s.env l .leaf
  bif Nat.ble kn s.kn && l.all (fun t=>match env.get t with|some v=>su kn v|none=>true)then some { s with env:=env,kn:=kn } else none
def rD(nt:Nat)(s:St)(dst:Option Tmp)(v:Value):Option St:=
 match dst with
 |none=>some s
 |some d=>bif Nat.blt d nt then some { s with env:=s.env.set d v } else none
def jd(ops:Array Oper)(o:Oper)(s:St):Option Bool:=
 match o.guard with
 |none=>some true
 |some (j,want)=>
  match (ops[j]?).bind (·.dst)with
  |some d=>
   match s.env.get d with
   |some (.bool b)=>some (b == want)
   |some (.tuple vs)=>bif vs.toList.isEmpty then some false else none
   |_=>none
  |none=>none
def fH:List Value->Nat->cQ Value->cQ Value
 | [],_,acc=>acc
 |v :: r,i,acc=>fH r (i+1) (acc.set i v)
def vo(P:Program)(s:St):List ResultVar->Option (List Value)
 | []=>some []
 | .tmp t :: r=>
  match s.env.get t with
  |some v=>match vo P s r with|some l=>some (v :: l)|none=>none
  |none=>none
 | .cell a t :: r=>
  match s.env.get a with
  |some (.pointer (some x))=>
   match sq P s t x with
   |some v=>match vo P s r with|some l=>some (v :: l)|none=>none
   |none=>none
  |_=>none
def je:List Value->Value
 | [v]=>v
 |l=>.tuple l.toArray
abbrev aZ:=FuncId->List Value->af->Option (Value×af)
def aV:Nat:=4611686018427387904
def kJ(s:St)(c:Call):Option (FuncId×List Value):=
 match c.callee with
 | .value x=>
  match bH s x,gP s c.args.toList with
  |some (.func (.func f) first captured),some l=>bif l.all dr && Nat.blt f aV then some (f,first.toList++l++captured.toList)else none
  |some (.func (.yield y) _ _),some l=>bif l.all dr then some (aV+y,l)else none
  |_,_=>none
 |_=>none
structure Rec where
 run:FuncId->Nat->Code->St->Option (Exit×St)
 loop:FuncId->Nat->Code->Nat->St->Option (Exit×St)
 call:FuncId->List Value->af->Option (Value×af)
abbrev cD:=FuncId->List Value->af->Option (Value×af)
def jB(call:cD)(c:Call)(s:St):Option (Value×St):=
 match kJ s c with
 |some (g,args)=>
  match call g args s.h with
  |some (v,h)=>some (v,{ s with h:=h })
  |none=>none
 |none=>none
def dP:Op->Option Call
 | .call c=>
  match c.callee with
  | .value _=>some c
  |_=>none
 |_=>none
def eV(H:Hint)(f:FuncId)(o:Oper):Bool:=
 match o.dst with
 |some d=>H.loc f d
 |none=>false
def rE(P:Program)(H:Hint)(call:cD)(f:FuncId)(o:Oper)(s:St):Option (Value×St):=
 match dP o.op with
 |some c=>jB call c s
 |none=>gm P s.new (eV H f o) o.op s
def lj(P:Program)(H:Hint)(call:cD)(f:FuncId)(nt:Nat)(ops:Array Oper):List Oper->St->Option St
 | [],s=>some s
 |o :: rest,s=>
  match jd ops o s with
  |some true=>
   match rE P H call f o s with
   |some (v,s')=>
    match rD nt s' o.dst v with
    |some qh=>lj P H call f nt ops rest qh
    |none=>none
   |none=>none
  |some false=>
   match rD nt s o.dst undef with
   |some s'=>lj P H call f nt ops rest s'
   |none=>none
  |none=>none
def St.fresh(s:St):St:={ s with h:={ s.h with low:=s.h.next } }
def St.az(s:St)(low:Nat):St:={ s with h:={ s.h with low:=Nat.min low s.h.low } }
def jx(P:Program)(H:Hint)(call:cD)(f:FuncId)(id tag:Nat)(o:Oper)(s:St):Option (Value×St):=
 match dP o.op with
 |some c=>jB call c s
 |none=>gm P (s.newAt id tag) (eV H f o) o.op s
def qN(P:Program)(H:Hint)(call:cD)(f:FuncId)(nt:Nat)(ops:Array Oper)(base aO:Nat):List Nat->Nat->St->Option (St×List (Nat×FP×Bool))
 | [],_,s=>some (s,[])
 |p :: rest,i,s=>
  match ops[p]? with
  |none=>none
  |some o=>
   match jd ops o s with
   |some true=>
    match jx P H call f (base+i) (aO+i) o s.fresh with
    |some (v,s')=>
     match rD nt (s'.az s.h.low) o.dst v with
     |some qh=>
      match qN P H call f nt ops base aO rest (i+1) qh with
      |some (r,il)=>some (r,(p,dO o.op (eV H f o) (base+i) (aO+i) s,iC o.op || Nat.blt s'.h.low s.h.next) :: il)
      |none=>none
     |none=>none
    |none=>none
   |some false=>
    match rD nt s o.dst undef with
    |some s'=>
     match qN P H call f nt ops base aO rest (i+1) s' with
     |some (r,il)=>some (r,(p,.none,false) :: il)
     |none=>none
    |none=>none
   |none=>none
def St.jf(s:St)(n:Nat):St:={ s with kn:=s.kn+n,h:={ s.h with next:=s.h.next+n } }
def qW(P:Program)(H:Hint)(call:cD)(f:FuncId)(nt:Nat)(ops:Array Oper)(s:St):Option St:=
 bif nj ops (fQ ops)then
  match qN P H call f nt ops s.h.next s.kn (fQ ops) 0 (s.jf ops.size)with
  |some (s',il)=>bif Cx ops (s.h.next+ops.size) il then some s' else none
  |none=>none
 else none
def bA:Code->Bool
 | .rangeFunc _ _ _ _=>false
 | .seq a b=>bA a && bA b
 | .cond _ a b=>bA a && bA b
 | .block _ c=>bA c
 | .loop c=>bA c
 | .scope c=>bA c
 |_=>true
def tN(s:St):Option Code->Option (Exit×St)
 |none=>some (.normal,s)
 |some .ret=>some (.ret,s)
 |some (.exit id)=>some (.exit id,s)
 |_=>none
def vL(P:Program)(g:FuncId):Bool:=
 match P.funcs[g]? with
 |some fn=>fn.body.isSome
 |none=>false
def oQ(P:Program)(call:cD)(f:FuncId)(nt:Nat)(x:Operand)(ps:Array Tmp)(assign body:Code)(s:St):Option (Exit×St):=
 bif bA assign && bA body then
  match bH s x with
  |some (.func (.func g) first captured)=>
   bif Nat.blt g aV && vL P g then
    match call g (first.toList++[.func (.yield s.h.next) #[] #[]]++captured.toList) (s.h.gO (.loop .ready none f nt (s.env.dG dr) ps.toList assign body))with
    |some (_,h)=>
     match h.m.get s.h.next with
     |some (.loop .ready ni _ _ _ _ _ _)=>tN { s with h:=h.iW s.h.next .dead } ni
     |some (.loop .done ni _ _ _ _ _ _)=>tN { s with h:=h.iW s.h.next .dead } ni
     |_=>none
    |none=>none
   else none
  |_=>none
 else none
def qi:cQ Value->List Tmp->List Value->cQ Value
 |env,t :: ts,v :: vs=>qi (env.set t v) ts vs
 |env,_,_=>env
def jS(y:Nat)(h:af)(jump:Option Code):Option (Value×af):=
 match h.m.get y with
 |some (.loop _ _ f nt env ps assign body)=>some (.bool jump.isNone,h.iW y (.loop (match jump with|none=>.ready|some _=>.done) jump f nt env ps assign body))
 |_=>none
def oR(run:FuncId->Nat->Code->St->Option (Exit×St))(y:Nat)(args:List Value)(h:af):Option (Value×af):=
 match h.m.get y with
 |some (.loop .ready _ f nt env ps assign body)=>
  bif Nat.beq args.length ps.length && ps.all (fun t=>Nat.blt t nt) && bA assign && bA body then
   match run f nt assign { env:=qi env ps args,kn:=0,K:=.leaf,h:=h } with
   |some (.normal,s1)=>
    match s1.h.m.get y with
    |some (.loop .ready sz f1 NK ze NM kK sA)=>
     match run f nt body { s1 with h:=s1.h.iW y (.loop .busy sz f1 NK ze NM kK sA) } with
     |some (.normal,s2)=>jS y s2.h none
     |some (.ret,s2)=>jS y s2.h (some .ret)
     |some (.exit id,s2)=>jS y s2.h (some (.exit id))
     |_=>none
    |_=>none
   |_=>none
  else none
 |_=>none
def nk(P:Program)(H:Hint)(r:Rec)(f:FuncId)(nt:Nat)(c:Code)(s:St):Option (Exit×St):=
 match c with
 | .skip=>some (.normal,s)
 | .ret=>some (.ret,s)
 | .exit id=>some (.exit id,s)
 | .seq a b=>
  match r.run f nt a s with
  |some (.normal,s')=>r.run f nt b s'
  |x=>x
 | .cond x a b=>
  match bH s x with
  |some (.bool t)=>r.run f nt (bif t then a else b) s
  |_=>none
 | .block id b=>
  match r.run f nt b s with
  |some (.exit oS,s')=>bif Nat.beq oS id then some (.normal,s')else some (.exit oS,s')
  |x=>x
 | .loop b=>r.loop f nt b s.kn s
 | .region _ ops draw=>
  match (bif draw then qW P H r.call f nt ops s else lj P H r.call f nt ops ops.toList s)with
  |some s'=>some (.normal,s')
  |none=>none
 | .rangeFunc x ps assign body=>oQ P r.call f nt x ps assign body s
 |_=>none
def oT(H:Hint)(r:Rec)(f:FuncId)(nt:Nat)(b:Code)(kn:Nat)(s:St):Option (Exit×St):=
 match norm H f b kn s with
 |none=>none
 |some s=>
  match r.run f nt b s with
  |some (.normal,s')=>r.loop f nt b kn s'
  |x=>x
def vp(P:Program)(fn:Func)(s:St):Option (Value×af):=
 match vo P s fn.results.toList with
 |some l=>bif l.all dr then some (je l,s.h)else none
 |none=>none
def ot(P:Program)(F:aZ)(r:Rec)(g:FuncId)(args:List Value)(h:af):Option (Value×af):=
 bif Nat.ble aV g then oR r.run (g-aV) args h else
 match F g args h with
 |some x=>some x
 |none=>
  match P.funcs[g]? with
  |some fn=>
   match fn.body with
   |some c=>
    match r.run g fn.ntmps c { env:=fH args 0 .leaf,kn:=0,K:=.leaf,h:=h } with
    |some (.normal,s)=>vp P fn s
    |some (.ret,s)=>vp P fn s
    |_=>none
   |none=>none
  |none=>none
def cB(P:Program)(H:Hint)(F:aZ):Nat->Rec
 |0=>⟨fun _ _ _ _=>none,fun _ _ _ _ _=>none,fun _ _ _=>none⟩
 |n+1=>⟨nk P H (cB P H F n),oT H (cB P H F n),ot P F (cB P H F n)⟩
def sB:aZ:=fun _ _ _=>none
end Go.cS
namespace Go.cS
namespace cQ
variable{α:Type}
theorem Ic(t:cQ α)(n:Nat):t.get n=bif Nat.beq n 0 then t.zd else bif Nat.beq (n % 2) 1 then t.left.get (n / 2)else t.right.get (n / 2-1):=by
 cases t with
 |leaf=>simp only[get,zd,left,right];cases Nat.beq n 0<;>cases Nat.beq (n % 2) 1<;>rfl
 |node l v r=>rfl
theorem sC(l:cQ α)(v:Option α)(r:cQ α)(n:Nat):(cQ.node l v r).get n=bif Nat.beq n 0 then v else bif Nat.beq (n % 2) 1 then l.get (n / 2)else r.get (n / 2-1):=rfl
theorem Kc(x:α):∀(fuel:Nat) (t:cQ α) (n m:Nat),n<fuel->(J8 fuel t n x).get m=if n=m then some x else t.get m:=by
 intro fuel
 induction fuel with
 |zero=>intro t n m h;omega
 |succ f ih=>
  intro t n m h;rw[Ic t m];unfold J8;cases hn:Nat.beq n 0 with
  |true=>
   have wE:n=0:=Nat.eq_of_beq_eq_true hn;subst wE;simp only[cond_true,sC];cases hm:Nat.beq m 0 with
   |true=>have:=Nat.eq_of_beq_eq_true hm;subst this;simp
   |false=>have:=Nat.ne_of_beq_eq_false hm;simp[Ne.symm this]
  |false=>
   have wE:=Nat.ne_of_beq_eq_false hn;simp only[cond_false];cases ho:Nat.beq (n % 2) 1 with
   |true=>
    have XR:n % 2=1:=Nat.eq_of_beq_eq_true ho;simp only[cond_true,sC];cases hm:Nat.beq m 0 with
    |true=>have:=Nat.eq_of_beq_eq_true hm;subst this;simp[wE]
    |false=>
     simp only[cond_false];cases T9:Nat.beq (m % 2) 1 with
     |true=>
      have Qe:m % 2=1:=Nat.eq_of_beq_eq_true T9;simp only[cond_true];rw[ih t.left (n / 2) (m / 2) (by omega)];by_cases e:n=m
      ·simp[e]
      ·have:¬n / 2=m / 2:=by omega
       simp[e,this]
     |false=>
      have hme:=Nat.ne_of_beq_eq_false T9;simp only[cond_false];have:¬n=m:=by intro e;subst e;exact hme XR
      simp[this]
   |false=>
    have Ua:=Nat.ne_of_beq_eq_false ho;simp only[cond_false,sC];cases hm:Nat.beq m 0 with
    |true=>have:=Nat.eq_of_beq_eq_true hm;subst this;simp[wE]
    |false=>
     have N9:=Nat.ne_of_beq_eq_false hm;simp only[cond_false];cases T9:Nat.beq (m % 2) 1 with
     |true=>
      have Qe:m % 2=1:=Nat.eq_of_beq_eq_true T9;simp only[cond_true];have:¬n=m:=by intro e;subst e;exact Ua Qe
      simp[this]
     |false=>
      have hme:=Nat.ne_of_beq_eq_false T9;simp only[cond_false];rw[ih t.right (n / 2-1) (m / 2-1) (by omega)];by_cases e:n=m
      ·simp[e]
      ·have:¬n / 2-1=m / 2-1:=by omega
       simp[e,this]
theorem bL(t:cQ α)(n m:Nat)(x:α):(t.set n x).get m=if n=m then some x else t.get m:=Kc x (n+1) t n m (by omega)
theorem gQ(t:cQ α)(n:Nat)(x:α):(t.set n x).get n=some x:=by rw[bL];simp
theorem wF(p:α->Bool):∀(t:cQ α) (n:Nat) (x:α),(t.dG p).get n=some x->t.get n=some x/\p x=true
 | .leaf,n,x,h=>by simp[dG,get]at h
 | .node l v r,n,x,h=>by
  simp only[dG,sC]at h ⊢;cases h0:Nat.beq n 0 with
  |true=>
   simp only[h0,cond_true]at h ⊢;cases v with
   |none=>cases h
   |some y=>
    cases hp:p y with
    |false=>simp[hp]at h
    |true=>simp[hp]at h;subst h;exact⟨rfl,hp⟩
  |false=>
   simp only[h0,cond_false]at h ⊢;cases h1:Nat.beq (n % 2) 1 with
   |true=>simp only[h1,cond_true]at h ⊢;exact wF p l _ x h
   |false=>simp only[h1,cond_false]at h ⊢;exact wF p r _ x h
theorem aS(t:cQ α){n m:Nat}(x:α)(h:n≠m):(t.set n x).get m=t.get m:=by rw[bL];simp[h]
theorem wG(g:Nat->Option α):∀N,∃t:cQ α,∀n,t.get n=if n<N then g n else none
 |0=>⟨.leaf,fun n=>by simp[get]⟩
 |N+1=>by
  obtain⟨t,ht⟩:=wG g N;cases hg:g N with
  |none=>
   refine⟨t,fun n=>?_⟩;rw[ht n];by_cases h:n<N
   ·simp[h,show n<N+1 by omega]
   ·by_cases h':n=N
    ·subst h';simp[hg]
    ·simp[h,show ¬n<N+1 by omega]
  |some x=>
   refine⟨t.set N x,fun n=>?_⟩;rw[bL,ht n];by_cases h':N=n
   ·subst h';simp[hg]
   ·by_cases h:n<N
    ·simp[h',h,show n<N+1 by omega]
    ·simp[h',h,show ¬n<N+1 by omega]
end cQ
structure Loc where
 b:Nat
 o:Nat
 zO:Nat
 es:Nat
inductive VG(g:Nat->Option Loc):Value->Value->Prop
 |flat (v:Value) (h:bk v=true):VG g v v
 |zf (c:Value):VG g (.chan none) c
 |ptr (a:Addr) (L:Loc) (hs:a.spot=none) (h:g a.block=some L):VG g (.pointer (some a)) (.pointer (some ⟨L.b,L.o+a.off,none⟩))
 |gG (a:Addr) (L:Loc) (len c:Nat) (hs:a.spot=none) (h:g a.block=some L) (hc:c<aR):VG g (.slice (some a) len c) (.slice (some ⟨L.b,L.o+a.off,none⟩) len c)
 |gR (a:Addr) (L:Loc) (len m c:Nat) (hs:a.spot=none) (h:g a.block=some L) (hm:m<=c) (Qf:m<aR) (ht:L.o+a.off+c*L.es<=L.zO):VG g (.slice (some a) len (aw L.es m)) (.slice (some ⟨L.b,L.o+a.off,none⟩) len c)
 |ko (a a':Addr) (x:Nat) (hs:a.spot=some x):VG g (.slice (some a) 0 0) (.slice (some a') 0 0)
 |jC (a a':Addr) (x c:Nat) (hs:a.spot=some x):VG g (.slice (some a) 0 aR) (.slice (some a') 0 c)
 |wH (id:Nat) (L:Loc) (h:g id=some L):VG g (.map (some id)) (.map (some L.b))
 |yield (y:Nat) (L:Loc) (h:g y=some L):VG g (.func (.yield y) #[] #[]) (.func (.yield L.b) #[] #[])
 |func (f:FuncId) (x y x' y':Array Value) (hx:x.toList.length=x'.toList.length) (hy:y.toList.length=y'.toList.length)
   (h1:∀(i:Nat) (u v:Value),x.toList[i]?=some u->x'.toList[i]?=some v->VG g u v) (h2:∀(i:Nat) (u v:Value),y.toList[i]?=some u->y'.toList[i]?=some v->VG g u v):VG g (.func (.func f) x y) (.func (.func f) x' y')
 |agg (x x':Array Value) (hx:x.toList.length=x'.toList.length) (h1:∀(i:Nat) (u v:Value),x.toList[i]?=some u->x'.toList[i]?=some v->VG g u v):VG g (.agg x) (.agg x')
 |tuple (x x':Array Value) (hx:x.toList.length=x'.toList.length) (h1:∀(i:Nat) (u v:Value),x.toList[i]?=some u->x'.toList[i]?=some v->VG g u v):VG g (.tuple x) (.tuple x')
structure dI where
 g:Nat->Option Loc
 l:Nat->Option Loc
inductive VR(J:dI):Value->Value->Prop
 |cU (v c:Value) (h:VG J.g v c):VR J v c
 |loc (a:Addr) (x:Nat) (L:Loc) (hs:a.spot=some x) (h:J.l a.block=some L):VR J (.pointer (some a)) (.pointer (some ⟨L.b,L.o+a.off,none⟩))
def fF(g:Nat->Option Loc)(l l':List Value):Prop:=l.length=l'.length/\∀(i:Nat) (u v:Value),l[i]?=some u->l'[i]?=some v->VG g u v
theorem VG.mono{g g':Nat->Option Loc}(hg:∀id L,g id=some L->g' id=some L){v c:Value}(h:VG g v c):VG g' v c:=by
 induction h with
 |flat v h=>exact .flat v h
 |zf c=>exact .zf c
 |ptr a L hs h=>exact .ptr a L hs (hg _ _ h)
 |gG a L len c hs h hc=>exact .gG a L len c hs (hg _ _ h) hc
 |gR a L len m c hs h hm Qf ht=>exact .gR a L len m c hs (hg _ _ h) hm Qf ht
 |ko a a' x hs=>exact .ko a a' x hs
 |jC a a' x c hs=>exact .jC a a' x c hs
 |wH id L h=>exact .wH id L (hg _ _ h)
 |yield y L h=>exact .yield y L (hg _ _ h)
 |func fn x y x' y' hx hy h1 h2 XS XT=>exact .func fn x y x' y' hx hy XS XT
 |agg x x' hx h1 ih=>exact .agg x x' hx ih
 |tuple x x' hx h1 ih=>exact .tuple x x' hx ih
theorem fF.mono{g g':Nat->Option Loc}(hg:∀id L,g id=some L->g' id=some L){l l':List Value}(h:fF g l l'):fF g' l l':=
 ⟨h.1,fun i u v hu hv=>(h.2 i u v hu hv).mono hg⟩
theorem fF.nil(g:Nat->Option Loc):fF g [] []:=⟨rfl,fun i u v h=>by simp at h⟩
theorem fF.cons{g:Nat->Option Loc}{u v:Value}{l l':List Value}(h:VG g u v)(hl:fF g l l'):fF g (u :: l) (v :: l'):=by
 refine⟨by simp[hl.1],fun i x y hx hy=>?_⟩;cases i with
 |zero=>simp at hx hy;subst hx;subst hy;exact h
 |succ i=>simp at hx hy;exact hl.2 i x y hx hy
theorem fF.head{g:Nat->Option Loc}{u:Value}{l c:List Value}(h:fF g (u :: l) c):∃v l',c=v :: l'/\VG g u v/\fF g l l':=by
 cases c with
 |nil=>have:=h.1;simp at this
 |cons v l'=>exact⟨v,l',rfl,h.2 0 u v rfl rfl,⟨by have:=h.1;simpa using this,fun i x y hx hy=>h.2 (i+1) x y (by simpa using hx) (by simpa using hy)⟩⟩
theorem fF.iL{g:Nat->Option Loc}{c:List Value}(h:fF g [] c):c=[]:=by
 cases c with
 |nil=>rfl
 |cons _ _=>have:=h.1;simp at this
theorem fF.append{g:Nat->Option Loc}{a b c d:List Value}(h:fF g a c)(h':fF g b d):fF g (a++b) (c++d):=by
 induction a generalizing c with
 |nil=>rw[h.iL];exact h'
 |cons u a ih=>obtain⟨v,l',rfl,hv,hl⟩:=h.head;exact .cons hv (ih hl)
theorem fF.take{g:Nat->Option Loc}{a c:List Value}(h:fF g a c)(n:Nat):fF g (a.take n) (c.take n):=by
 refine⟨by simp[h.1],fun i x y hx hy=>?_⟩;rw[List.getElem?_take]at hx hy;by_cases hi:i<n
 ·simp[hi]at hx hy;exact h.2 i x y hx hy
 ·simp[hi]at hx
theorem fF.drop{g:Nat->Option Loc}{a c:List Value}(h:fF g a c)(n:Nat):fF g (a.drop n) (c.drop n):=by
 refine⟨by simp[h.1],fun i x y hx hy=>?_⟩;rw[List.getElem?_drop]at hx hy;exact h.2 _ x y hx hy
theorem fF.agg{g:Nat->Option Loc}{l l':List Value}(h:fF g l l'):VG g (.agg l.toArray) (.agg l'.toArray):=.agg _ _ (by simpa using h.1) (fun i u v hu hv=>h.2 i u v (by simpa using hu) (by simpa using hv))
theorem fF.tuple{g:Nat->Option Loc}{l l':List Value}(h:fF g l l'):VG g (.tuple l.toArray) (.tuple l'.toArray):=.tuple _ _ (by simpa using h.1) (fun i u v hu hv=>h.2 i u v (by simpa using hu) (by simpa using hv))
theorem fF.flat{g:Nat->Option Loc}{l:List Value}(h:l.all bk=true):fF g l l:=by
 refine⟨rfl,fun i u v hu hv=>?_⟩;rw[hu]at hv;obtain rfl:=Option.some.inj hv;exact .flat u (by simp only[List.all_eq_true]at h;exact h u (List.mem_of_getElem? hu))
theorem VG.of_flat{g:Nat->Option Loc}{v:Value}(h:cS.flat v=true):VG g v v:=by
 cases v with
 |agg cs=>simp only[cS.flat]at h;have:=fF.flat (g:=g) h;exact .agg _ _ rfl this.2
 |tuple cs=>
  simp only[cS.flat]at h;refine .tuple _ _ rfl fun i u v hu hv=>?_
  simp only[List.isEmpty_iff]at h;rw[h]at hu;simp at hu
 |_=>exact .flat _ (by simpa[cS.flat]using h)
section inv
variable{g:Nat->Option Loc}{c:Value}
theorem VG.bool{b:Bool}(h:VG g (.bool b) c):c=.bool b:=by cases h;rfl
theorem VG.int{k:IntKind}{n:Int}(h:VG g (.int k n) c):c=.int k n:=by cases h;rfl
theorem VG.string{s:ByteArray}(h:VG g (.string s) c):c=.string s:=by cases h;rfl
theorem VG.oU(h:VG g (.pointer none) c):c=.pointer none:=by cases h;rfl
theorem VG.nilFunc(h:VG g .nilFunc c):c=.nilFunc:=by cases h;rfl
theorem VG.AK(h:VG g (.map none) c):c=.map none:=by cases h;rfl
theorem VG.ft{n m:Nat}(h:VG g (.slice none n m) c):n=0/\m=0/\c=.slice none 0 0:=by
 cases h with
 |flat _ h=>unfold bk at h;split at h<;>simp_all
theorem VG.Cy{x:Array Value}(h:VG g (.agg x) c):∃y,c=.agg y/\fF g x.toList y.toList:=by
 cases h with
 |flat _ h=>simp[bk]at h
 |agg _ x' hx h1=>exact⟨x',rfl,hx,h1⟩
theorem VG.Kd{x:Array Value}(h:VG g (.tuple x) c):∃y,c=.tuple y/\fF g x.toList y.toList:=by
 cases h with
 |flat _ h=>simp[bk]at h
 |tuple _ x' hx h1=>exact⟨x',rfl,hx,h1⟩
theorem VG.Ke{f:FuncId}{x y:Array Value}(h:VG g (.func (.func f) x y) c):∃x' y',c=.func (.func f) x' y'/\fF g x.toList x'.toList/\fF g y.toList y'.toList:=by
 cases h with
 |flat _ h=>simp[bk]at h
 |func _ _ _ x' y' hx hy h1 h2=>exact⟨x',y',rfl,⟨hx,h1⟩,⟨hy,h2⟩⟩
theorem VG.vM{fn:Fn}{x y:Array Value}(h:VG g (.func fn x y) c):∃Qg x' y',c=.func Qg x' y':=by
 cases h with
 |flat _ h=>simp[bk]at h
 |func _ _ _ x' y' hx hy h1 h2=>exact⟨_,x',y',rfl⟩
 |yield _ _ _=>exact⟨_,_,_,rfl⟩
theorem VG.Oa{id:Nat}(h:VG g (.map (some id)) c):∃L,g id=some L/\c=.map (some L.b):=by
 cases h with
 |flat _ h=>simp[bk]at h
 |wH _ L h=>exact⟨L,h,rfl⟩
theorem VG.Rk{y:Nat}{u v:Array Value}(h:VG g (.func (.yield y) u v) c):∃L,g y=some L/\c=.func (.yield L.b) #[] #[]/\u=#[]/\v=#[]:=by
 cases h with
 |flat _ h=>simp[bk]at h
 |yield _ L h=>exact⟨L,h,rfl,rfl,rfl⟩
theorem VG.oV{a:Addr}(h:VG g (.pointer (some a)) c):a.spot=none/\∃L,g a.block=some L/\c=.pointer (some ⟨L.b,L.o+a.off,none⟩):=by
 cases h with
 |flat _ h=>simp[bk]at h
 |ptr _ L hs h=>exact⟨hs,L,h,rfl⟩
theorem VG.dQ{a:Addr}{len k:Nat}(h:VG g (.slice (some a) len k) c):(a.spot=none/\∃L c',g a.block=some L/\c=.slice (some ⟨L.b,L.o+a.off,none⟩) len c' /\
  ((k<aR/\c'=k)\/∃m,k=aw L.es m/\m<aR/\m<=c'/\L.o+a.off+c'*L.es<=L.zO))\/(len=0/\(∃x,a.spot=some x)/\∃a' c',c=.slice (some a') 0 c'/\(k=0/\c'=0\/k=aR)):=by
 cases h with
 |flat _ h=>simp[bk]at h
 |gG _ L _ _ hs h hc=>exact .inl ⟨hs,L,k,h,rfl,.inl ⟨hc,rfl⟩⟩
 |gR _ L _ m c' hs h hm Qf ht=>exact .inl ⟨hs,L,c',h,rfl,.inr ⟨m,rfl,Qf,hm,ht⟩⟩
 |ko _ a' x hs=>exact .inr ⟨rfl,⟨x,hs⟩,a',0,rfl,.inl ⟨rfl,rfl⟩⟩
 |jC _ a' x c' hs=>exact .inr ⟨rfl,⟨x,hs⟩,a',c',rfl,.inr rfl⟩
theorem VG.oW{a:Addr}{len k:Nat}(h:VG g (.slice (some a) len k) c)(hs:a.spot=none):a.spot=none/\∃L c',g a.block=some L/\c=.slice (some ⟨L.b,L.o+a.off,none⟩) len c' /\
  ((k<aR/\c'=k)\/∃m,k=aw L.es m/\m<aR/\m<=c'/\L.o+a.off+c'*L.es<=L.zO):=by
 rcases h.dQ with h|⟨_,⟨x,h⟩,_⟩
 ·exact h
 ·rw[hs]at h;cases h
theorem VG.Rm{a:Addr}{len k:Nat}(h:VG g (.slice (some a) len k) c)(hk:len≠0\/k≠0/\k≠aR):a.spot=none/\∃L c',g a.block=some L/\c=.slice (some ⟨L.b,L.o+a.off,none⟩) len c' /\
  ((k<aR/\c'=k)\/∃m,k=aw L.es m/\m<aR/\m<=c'/\L.o+a.off+c'*L.es<=L.zO):=by
 rcases h.dQ with h|⟨h1,_,_,_,_,h2⟩
 ·exact h
 ·omega
theorem VG.Rn(h:VG g undef c):c=undef:=by
 obtain⟨y,rfl,hy⟩:=VG.Kd h;have:=hy.iL;simp at this;simp[undef,this]
end inv
theorem fV:0<aR:=by unfold aR;omega
theorem fe{a b:Nat}(h:b<a):Nat.ble a b=false:=by
 cases hb:Nat.ble a b with
 |false=>rfl
 |true=>have:=Nat.le_of_ble_eq_true hb;omega
theorem bm{a b:Nat}(h:a<=b):Nat.ble a b=true:=Nat.ble_eq_true_of_le h
theorem dW{a b:Nat}(h:a<b):Nat.blt a b=true:=Nat.ble_eq_true_of_le h
theorem cF{a b:Nat}(h:b<=a):Nat.blt a b=false:=fe (by omega)
theorem ff{c:Nat}(h:c<aR):cL c=c:=Nat.mod_eq_of_lt h
theorem cg{es m:Nat}(h:m<aR):cL (aw es m)=m:=by
 unfold cL aw;rw[Nat.mul_add_mod];exact Nat.mod_eq_of_lt h
theorem dv(es m:Nat):aR<=aw es m:=by
 unfold aw;have:aR*1<=aR*(es+1):=Nat.mul_le_mul_left _ (by omega);omega
theorem jT{es m:Nat}(h:m<aR):aw es m / aR=es+1:=by
 unfold aw;rw[Nat.mul_add_div fV,Nat.div_eq_of_lt h]
theorem VG.iy{g:Nat->Option Loc}{a:Option Addr}{len k:Nat}{c:Value}(h:VG g (.slice a len k) c):∃a' c',c=.slice a' len c'/\cL k<=c':=by
 cases a with
 |none=>obtain⟨rfl,rfl,rfl⟩:=h.ft;exact⟨none,0,rfl,by rw[ff fV];exact Nat.le_refl _⟩
 |some a=>
  rcases h.dQ with ⟨_,L,c',_,rfl,h2⟩|⟨rfl,_,a',c',rfl,hk⟩
  rotate_left
  ·refine⟨_,c',rfl,?_⟩
   rcases hk with ⟨rfl,rfl⟩|rfl
   ·rw[ff fV];exact Nat.le_refl _
   ·simp[cL]
  refine⟨_,c',rfl,?_⟩;rcases h2 with ⟨h2,rfl⟩|⟨m,rfl,h2,h3,_⟩
  ·rw[ff h2];exact Nat.le_refl _
  ·rw[cg h2];exact h3
theorem VR.oX{J:dI}{v c:Value}(h:VR J v c)(hn:dr v=true):VG J.g v c:=by
 cases h with
 |cU _ _ h=>exact h
 |loc a x L hs h=>simp[dr,hs]at hn
def dI.at(J:dI)(a:Addr):Option Loc:=
 match a.spot with
 |none=>J.g a.block
 |some _=>J.l a.block
theorem VR.oV{J:dI}{a:Addr}{c:Value}(h:VR J (.pointer (some a)) c):∃L,J.at a=some L/\c=.pointer (some ⟨L.b,L.o+a.off,none⟩):=by
 cases h with
 |cU _ _ h=>obtain⟨hs,L,hL,rfl⟩:=h.oV;exact⟨L,by simp[dI.at,hs,hL],rfl⟩
 |loc _ x L hs h=>exact⟨L,by simp[dI.at,hs,h],rfl⟩
theorem VR.Kf{J:dI}{a:Addr}{L:Loc}(h:J.at a=some L)(n:Nat):VR J (.pointer (some (fT a n))) (.pointer (some ⟨L.b,L.o+a.off+n,none⟩)):=by
 cases hs:a.spot with
 |none=>
  simp only[dI.at,hs]at h;have:=VG.ptr (g:=J.g) (fT a n) L (by simp[fT,hs]) (by simpa[fT]using h);exact .cU _ _ (by simpa[fT,Nat.add_assoc]using this)
 |some x=>
  simp only[dI.at,hs]at h;have:=VR.loc (J:=J) (fT a n) x L (by simp[fT,hs]) (by simpa[fT]using h);simpa[fT,Nat.add_assoc]using this
theorem VR.aY{J:dI}{v c:Value}(h:VR J v c)(hv:∀a,v≠.pointer (some a)):VG J.g v c:=by
 cases h with
 |cU _ _ h=>exact h
 |loc a x L hs h=>exact absurd rfl (hv a)
theorem zg{v:Value}(h:bk v=true):v.oneCell'=true:=by
 cases v<;>simp_all [bk,Value.oneCell']
theorem VG.GI{g:Nat->Option Loc}{v c:Value}(h:VG g v c)(hv:aE v=true):c.oneCell'=true:=by
 cases h with
 |flat _ h=>exact zg h
 |zf=>simp[aE]at hv
 |agg=>simp[aE]at hv
 |tuple=>simp[aE]at hv
 |_=>rfl
theorem VR.cells{J:dI}{v c:Value}(h:VR J v c)(hv:v.cells.toList.all aE=true):fF J.g v.cells.toList c.cells.toList:=by
 cases h with
 |loc a x L hs h=>simp[Value.cells,aE,hs]at hv
 |cU _ _ h=>
  cases h with
  |agg x x' hx h1=>exact⟨hx,h1⟩
  |zf=>simp[Value.cells,aE]at hv
  |flat v h=>
   cases v with
   |agg=>simp[bk]at h
   |_=>exact .cons (.flat _ h) (.nil _)
  |ptr a L hs h=>exact .cons (.ptr a L hs h) (.nil _)
  |gG a L len c hs h hc=>exact .cons (.gG a L len c hs h hc) (.nil _)
  |gR a L len m c hs h hm Qf ht=>exact .cons (.gR a L len m c hs h hm Qf ht) (.nil _)
  |ko a a' x hs=>exact .cons (.ko a a' x hs) (.nil _)
  |jC a a' x c hs=>exact .cons (.jC a a' x c hs) (.nil _)
  |wH id L h=>exact .cons (.wH id L h) (.nil _)
  |yield y L h=>exact .cons (.yield y L h) (.nil _)
  |func fn x y x' y' hx hy h1 h2=>exact .cons (.func fn x y x' y' hx hy h1 h2) (.nil _)
  |tuple x x' hx h1=>exact .cons (.tuple x x' hx h1) (.nil _)
def CR(g:Nat->Option Loc)(cells:List Value)(cs:Array Value)(o:Nat):Prop:=∀(i:Nat) (v:Value),cells[i]?=some v->∃c,cs[o+i]?=some c/\VG g v c
theorem CR.mono{g g':Nat->Option Loc}(hg:∀id L,g id=some L->g' id=some L){cells:List Value}{cs:Array Value}{o:Nat}(h:CR g cells cs o):CR g' cells cs o:=
 fun i v hv=>let⟨c,h1,h2⟩:=h i v hv;⟨c,h1,h2.mono hg⟩
theorem CR.AL{g:Nat->Option Loc}{cells cs:List Value}(h:fF g cells cs):CR g cells cs.toArray 0:=fun i v hv=>by
 have hi:i<cs.length:=by rw[<-h.1];exact(List.getElem?_eq_some_iff.1 hv).1
 exact⟨cs[i],by simp[hi],h.2 i v _ hv (by simp[hi])⟩
theorem CR.size{g:Nat->Option Loc}{cells:List Value}{cs:Array Value}{o:Nat}(h:CR g cells cs o)(dX:cells≠[]):o+cells.length<=cs.size:=by
 have hl:0<cells.length:=List.length_pos_iff.2 dX;obtain⟨c,hc,_⟩:=h (cells.length-1) (cells[cells.length-1]'(by omega)) (by simp);have:=(Array.getElem?_eq_some_iff.1 hc).1;omega
theorem nu{cs:List Value}{off n:Nat}{l:List Value}(h:jR cs off n=some l):l.length=n/\∀i,i<n->l[i]?=cs[off+i]?:=by
 unfold jR at h;simp only[]at h;cases hb:Nat.beq ((cs.drop off).take n).length n with
 |false=>rw[hb]at h;simp at h
 |true=>
  rw[hb]at h;simp only[cond_true,oi]at h;subst h;have hl:=Nat.eq_of_beq_eq_true hb;exact⟨hl,fun i hi=>by rw[List.getElem?_take,if_pos hi,List.getElem?_drop]⟩
theorem CR.read{g:Nat->Option Loc}{cells:List Value}{cs:Array Value}{o off n:Nat}{l:List Value}(h:CR g cells cs o)(hl:jR cells off n=some l) :
  ∃l',fF g l l'/\l'.length=n/\∀(j:Nat) (v:Value),l'[j]?=some v->cs[o+off+j]?=some v:=by
 obtain⟨h1,h2⟩:=nu hl;refine⟨(List.range n).map fun j=>(cs[o+off+j]?).getD undef,⟨by simp[h1],fun i u v hu hv=>?_⟩,by simp,fun j v hv=>?_⟩
 ·have hi:i<n:=by rw[<-h1];exact(List.getElem?_eq_some_iff.1 hu).1
  rw[h2 i hi]at hu;obtain⟨c,hc,hg⟩:=h _ _ hu;simp only[List.getElem?_map,List.getElem?_range hi,Option.map_some,oi]at hv;rw[<-hv,Nat.add_assoc,hc];exact hg
 ·have hj:j<n:=by have:=(List.getElem?_eq_some_iff.1 hv).1;simpa using this
  simp only[List.getElem?_map,List.getElem?_range hj,Option.map_some,oi]at hv;have hx:cells[off+j]?=some (l[j]'(by omega)):=by rw[<-h2 j hj];simp[h1,hj]
  obtain⟨c,hc,_⟩:=h _ _ hx;rw[Nat.add_assoc,hc]at hv ⊢;simp at hv;rw[hv]
theorem l7{cs:List Value}{off:Nat}{vs kR:List Value}(h:mr cs off vs=some kR):off+vs.length<=cs.length/\kR=cs.take off++(vs++cs.drop (off+vs.length)):=by
 unfold mr at h;cases hb:Nat.ble (off+vs.length) cs.length with
 |false=>rw[hb]at h;simp at h
 |true=>rw[hb]at h;simp only[cond_true,oi]at h;exact⟨Nat.le_of_ble_eq_true hb,h.symm⟩
def iG(cs:Array Value)(at_:Nat)(vs:List Value):Array Value:=(cs.toList.take at_++vs++cs.toList.drop (at_+vs.length)).toArray
theorem oY{cs:Array Value}{at_:Nat}{vs:List Value}(h:at_+vs.length<=cs.size):(iG cs at_ vs).size=cs.size:=by
 simp[iG];omega
theorem lr{cs:Array Value}{at_:Nat}{vs:List Value}(h:at_+vs.length<=cs.size)(i:Nat) :
  (iG cs at_ vs)[i]?=if at_<=i/\i<at_+vs.length then vs[i-at_]? else cs[i]?:=by
 simp only[iG,List.getElem?_toArray];have ht:(cs.toList.take at_).length=at_:=by simp;omega
 by_cases h1:i<at_
 ·rw[List.append_assoc,List.getElem?_append_left (by omega),List.getElem?_take,if_pos h1,if_neg (by omega)]
  simp
 ·by_cases h2:i<at_+vs.length
  ·rw[List.append_assoc,List.getElem?_append_right (by omega),ht,List.getElem?_append_left (by omega),if_pos ⟨by omega,h2⟩]
  ·rw[List.getElem?_append_right (by simp;omega),List.getElem?_drop,if_neg (by omega)]
   simp only[List.length_append,ht];rw[show at_+vs.length+(i-(at_+vs.length))=i by omega];simp
theorem CR.put{g:Nat->Option Loc}{cells:List Value}{cs:Array Value}{o off:Nat}{vs us jD:List Value}(h:CR g cells cs o)(hv:fF g vs us)(hs:mr cells off vs=some jD)
  (hz:o+off+us.length<=cs.size):CR g jD (iG cs (o+off) us) o:=by
 obtain⟨h1,rfl⟩:=l7 hs;intro i v hi;have ht:(cells.take off).length=off:=by simp;omega
 rw[lr hz];by_cases c1:i<off
 ·rw[List.getElem?_append_left (by omega),List.getElem?_take,if_pos c1]at hi
  rw[if_neg (by omega)];exact h i v hi
 ·by_cases c2:i<off+vs.length
  ·rw[List.getElem?_append_right (by omega),ht,List.getElem?_append_left (by omega)]at hi
   rw[if_pos ⟨by omega,by rw[<-hv.1];omega⟩,show o+i-(o+off)=i-off by omega];have dR:i-off<us.length:=by rw[<-hv.1];omega
   exact⟨us[i-off],by simp[dR],hv.2 _ _ _ hi (by simp[dR])⟩
  ·rw[List.getElem?_append_right (by omega),ht,List.getElem?_append_right (by omega),List.getElem?_drop]at hi
   rw[if_neg (by rw[<-hv.1];omega)];exact h i v (by rw[<-hi];congr 1;omega)
def MR(g:Nat->Option Loc)(es:List (Value×Value))(l8:List MapEntry):Prop:=
 es.length=l8.length/\∀(i:Nat) (e:Value×Value) (c:MapEntry),es[i]?=some e->l8[i]?=some c->c.key=e.1/\VG g e.2 c.val
def TR(g:Nat->Option Loc)(env:cQ Value)(tmps:Array Value):Prop:=∀t v,env.get t=some v->t<tmps.size/\VG g v (tmps.getD t undef)
def BR(g:Nat->Option Loc)(b:Cq)(L:Loc)(o:Option Obj):Prop:=
 match b with
 | .dead=>True
 | .live wr es cells=>L.es=es/\∃cs e fr,o=some (.cells cs e fr)/\CR g cells cs L.o/\(wr=true->fr=(0,0))
 | .map es=>∃l8 clock,o=some (.map l8 clock)/\MR g es l8.toList
 | .loop st ni _ nt env ps assign body=>∃fn tmps params D,o=some (.loop { state:=st,pending:=ni,fn:=fn,tmps:=tmps,params:=params,assign:=assign,body:=body,defers:=D })/\params.toList=ps/\nt<=tmps.size/\TR g env tmps
theorem MR.mono{g g':Nat->Option Loc}(hg:∀id L,g id=some L->g' id=some L){es:List (Value×Value)}{l8:List MapEntry}(h:MR g es l8):MR g' es l8:=
 ⟨h.1,fun i e c he hc=>⟨(h.2 i e c he hc).1,(h.2 i e c he hc).2.mono hg⟩⟩
theorem TR.mono{g g':Nat->Option Loc}(hg:∀id L,g id=some L->g' id=some L){env:cQ Value}{tmps:Array Value}(h:TR g env tmps):TR g' env tmps:=
 fun t v hv=>⟨(h t v hv).1,(h t v hv).2.mono hg⟩
theorem BR.mono{g g':Nat->Option Loc}(hg:∀id L,g id=some L->g' id=some L){b:Cq}{L:Loc}{o:Option Obj}(h:BR g b L o):BR g' b L o:=by
 cases b with
 |dead=>trivial
 |live wr es cells=>obtain⟨h1,cs,e,fr,h2,h3,h4⟩:=h;exact⟨h1,cs,e,fr,h2,h3.mono hg,h4⟩
 |map es=>obtain⟨l8,clock,h1,h2⟩:=h;exact⟨l8,clock,h1,h2.mono hg⟩
 |loop st ni f nt env ps assign body=>obtain⟨fn,tmps,params,D,h1,h2,h3,h4⟩:=h;exact⟨fn,tmps,params,D,h1,h2,h3,h4.mono hg⟩
structure HR(J:dI)(s:St)(w:World):Prop where
 cP:∀id L,J.g id=some L->id<s.h.next
 dg:∀id L,J.g id=some L->∃o,w.heap[L.b]?=some o/\∀cs e fr,o=.cells cs e fr->cs.size=L.zO
 cG:∀id L b,J.g id=some L->s.h.m.get id=some b->BR J.g b L w.heap[L.b]?
 dh:∀id oS L L' b b',J.g id=some L->J.g oS=some L'->s.h.m.get id=some b->s.h.m.get oS=some b'->b.alive=true->b'.alive=true->L.b=L'.b->id=oS
 eE:∀t L,J.l t=some L->t<s.kn
 dS:∀t L,J.l t=some L->∃cs e,w.heap[L.b]?=some (.cells cs e (0,0))/\∀cells,s.K.get t=some cells->CR J.g cells cs L.o
 eO:∀t t' L L',J.l t=some L->J.l t'=some L'->L.b=L'.b->t=t'
 sep:∀id t L L',J.g id=some L->J.l t=some L'->L.b≠L'.b
structure Good(J:dI)(s:St)(w:World)(J':dI)(s':St)(w':World):Prop where
 hr:HR J' s' w'
 mono:∀id L,J.g id=some L->J'.g id=some L
 next:s.h.next<=s'.h.next
 low:s'.h.low<=s.h.low
 size:w.heap.size<=w'.heap.size
 os:w'.os=w.os
 tape:w'.tape=w.tape
 output:w'.output=w.output
 fresh:∀id L,J'.g id=some L->J.g id=none->w.heap.size<=L.b\/∃EB L0,J.g EB=some L0/\L0.b=L.b/\s'.h.low<=EB
 cH:∀t L,J'.l t=some L->w.heap.size<=L.b\/∃t0 L0,J.l t0=some L0/\L0.b=L.b
 frame:∀b,b<w.heap.size->(∀id L,J.g id=some L->L.b=b->id<s'.h.low)->(∀t L,J.l t=some L->L.b≠b)->w'.heap[b]?=w.heap[b]?
theorem HR.lt{J:dI}{s:St}{w:World}(h:HR J s w){id:Nat}{L:Loc}(hL:J.g id=some L):L.b<w.heap.size:=by
 obtain⟨o,hw,_⟩:=h.dg id L hL;exact(Array.getElem?_eq_some_iff.1 hw).1
theorem HR.Kg{J:dI}{s:St}{w:World}(h:HR J s w){t:Nat}{L:Loc}(hL:J.l t=some L):L.b<w.heap.size:=by
 obtain⟨cs,e,hw,_⟩:=h.dS t L hL;exact(Array.getElem?_eq_some_iff.1 hw).1
theorem Good.refl{J:dI}{s:St}{w:World}(h:HR J s w):Good J s w J s w where
 hr:=h
 mono:=fun _ _ h=>h
 next:=Nat.le_refl _
 low:=Nat.le_refl _
 size:=Nat.le_refl _
 os:=rfl
 tape:=rfl
 output:=rfl
 fresh:=fun id L h1 h2=>by rw[h2]at h1;cases h1
 cH:=fun t L h1=>.inr ⟨t,L,h1,rfl⟩
 frame:=fun _ _ _ _=>rfl
theorem Good.trans{J J1 J2:dI}{s s1 s2:St}{w w1 w2:World}(h:Good J s w J1 s1 w1)(k:Good J1 s1 w1 J2 s2 w2):Good J s w J2 s2 w2 where
 hr:=k.hr
 mono:=fun id L hL=>k.mono _ _ (h.mono _ _ hL)
 next:=Nat.le_trans h.next k.next
 low:=Nat.le_trans k.low h.low
 size:=Nat.le_trans h.size k.size
 os:=k.os.trans h.os
 tape:=k.tape.trans h.tape
 output:=k.output.trans h.output
 fresh:=fun id L hL hn=>by
  cases h1:J1.g id with
  |some L1=>
   have:=k.mono _ _ h1;rw[hL]at this;obtain rfl:=Option.some.inj this;exact(h.fresh id L h1 hn).imp (fun q=>q) fun⟨EB,L0,x,y,z⟩=>⟨EB,L0,x,y,Nat.le_trans k.low z⟩
  |none=>
   rcases k.fresh id L hL h1 with b|⟨EB,L0,x,y,z⟩
   ·exact .inl (Nat.le_trans h.size b)
   ·cases h0:J.g EB with
    |some L00=>
     have:=h.mono _ _ h0;rw[x]at this;obtain rfl:=Option.some.inj this;exact .inr ⟨EB,L0,h0,y,z⟩
    |none=>
     rcases h.fresh EB L0 x h0 with b'|⟨id1,L1,x1,y1,z1⟩
     ·exact .inl (by rw[<-y];exact b')
     ·exact .inr ⟨id1,L1,x1,y1.trans y,Nat.le_trans k.low z1⟩
 cH:=fun t L hL=>by
  rcases k.cH t L hL with a|⟨t0,L0,x,y⟩
  ·exact .inl (Nat.le_trans h.size a)
  ·rcases h.cH t0 L0 x with a|⟨t1,L1,x1,y1⟩
   ·exact .inl (by rw[<-y];exact a)
   ·exact .inr ⟨t1,L1,x1,y1.trans y⟩
 frame:=fun b hb hg hl=>by
  have e1:=h.frame b hb (fun id L hL e=>Nat.lt_of_lt_of_le (hg id L hL e) k.low) hl;have e2:=k.frame b (Nat.lt_of_lt_of_le hb h.size) (fun id L hL e=>by
    cases h0:J.g id with
    |some L0=>
     have:=h.mono _ _ h0;rw[hL]at this;obtain rfl:=Option.some.inj this;exact hg id L h0 e
    |none=>
     rcases h.fresh id L hL h0 with q|⟨EB,L0,x,y,z⟩
     ·omega
     ·have:=hg EB L0 x (y.trans e)
      have:=k.low;omega)
   (fun t L hL e=>by
    rcases h.cH t L hL with a|⟨t0,L0,x,y⟩
    ·omega
    ·exact hl t0 L0 x (y.trans e))
  rw[e2,e1]
def ER(J:dI)(s:St)(a:Act):Prop:=∀t v,s.env.get t=some v->t<a.tmps.size/\VR J v (a.tmps.getD t undef)
theorem ER.eval{J:dI}{s:St}{a:Act}(h:ER J s a){x:Operand}{v:Value}(hx:bH s x=some v):VR J v (a.eval x):=by
 cases x with
 |tmp t=>exact(h t v hx).2
 |const c=>
  simp only[bH]at hx;cases hf:cS.flat c with
  |false=>rw[hf]at hx;simp at hx
  |true=>
   rw[hf]at hx;simp only[cond_true,oi]at hx;subst hx;exact .cU _ _ (VG.of_flat hf)
 |global g=>simp[bH]at hx
 |func f=>
  simp only[bH,oi]at hx;subst hx;exact .cU _ _ (.func _ _ _ _ _ rfl rfl (fun i u v h=>by simp at h) (fun i u v h=>by simp at h))
theorem VR.mono{J J':dI}(hg:∀id L,J.g id=some L->J'.g id=some L)(hl:∀t L,J.l t=some L->J'.l t=some L){v c:Value}(h:VR J v c):VR J' v c:=by
 cases h with
 |cU _ _ h=>exact .cU _ _ (h.mono hg)
 |loc a x L hs h=>exact .loc a x L hs (hl _ _ h)
theorem ER.mono{J J':dI}{s:St}{a:Act}(hg:∀id L,J.g id=some L->J'.g id=some L)(hl:∀t L,J.l t=some L->J'.l t=some L)(h:ER J s a):ER J' s a:=
 fun t v hv=>⟨(h t v hv).1,(h t v hv).2.mono hg hl⟩
end Go.cS
namespace Go.cS
theorem live_of_cells?{h:af}{b:Nat}{cs:List Value}(hc:h.cells? b=some cs):∃wr es,h.m.get b=some (.live wr es cs):=by
 unfold af.cells? at hc;split at hc
 ·rename_i wr es kR hm;simp at hc;subst hc;exact⟨wr,es,hm⟩
 ·cases hc
theorem HR.cells{J:dI}{s:St}{w:World}(h:HR J s w){a:Addr}{L:Loc}(hL:J.at a=some L){cells:List Value}(hc:s.cells? a=some cells) :
  ∃cs e fr,w.heap[L.b]?=some (.cells cs e fr)/\CR J.g cells cs L.o:=by
 unfold St.cells? at hc;unfold dI.at at hL;cases hs:a.spot with
 |none=>
  simp only[hs]at hc hL;obtain⟨wr,es,hm⟩:=live_of_cells? hc;obtain⟨_,cs,e,fr,hw,AM,_⟩:=h.cG _ _ _ hL hm;exact⟨cs,e,fr,hw,AM⟩
 |some x=>
  simp only[hs]at hc hL;cases hb:Nat.blt a.block s.kn with
  |false=>rw[hb]at hc;simp at hc
  |true=>
   rw[hb]at hc;simp only[cond_true]at hc;obtain⟨cs,e,hw,AM⟩:=h.dS _ _ hL;exact⟨cs,e,(0,0),hw,AM _ hc⟩
theorem jg(b o n:Nat):(⟨b,o,none⟩:Addr).add n=⟨b,o+n,none⟩:=by
 unfold Addr.add;split
 ·simp_all
 ·rfl
theorem HR.read{J:dI}{s:St}{w:World}(h:HR J s w){a:Addr}{L:Loc}(hL:J.at a=some L){n:Nat}{l:List Value}(hr:s.read a n=some l) :
  ∃l',fF J.g l l'/\l'.length=n/\∀(j:Nat) (v:Value),l'[j]?=some v->w.cell? ((⟨L.b,L.o+a.off,none⟩:Addr).add j)=some v:=by
 unfold St.read at hr;split at hr
 ·rename_i cells hc
  obtain⟨cs,e,fr,hw,AM⟩:=h.cells hL hc;obtain⟨l',h1,h2,h3⟩:=AM.read hr;refine⟨l',h1,h2,fun j v hv=>?_⟩;rw[jg];simp only[World.cell?,hw];simpa using h3 j v hv
 ·cases hr
theorem iH{s:St}{a:Addr}{n:Nat}{l:List Value}(h:s.h.aM a n=some l):a.spot=none/\s.read a n=some l:=by
 unfold af.aM at h;split at h
 ·rename_i hs;refine⟨hs,?_⟩;unfold St.read St.cells?;rw[hs];exact h
 ·cases h
theorem iM{s:St}{h':af}{a:Addr}{l:List Value}(h:s.h.ik a l=some h'):a.spot=none/\s.write a l=some { s with h:=h' }:=by
 unfold af.ik at h;split at h
 ·rename_i hs
  refine⟨hs,?_⟩;unfold St.write;cases hc:l.all aE with
  |false=>rw[hc]at h;simp at h
  |true=>rw[hc]at h;simp only[cond_true]at h ⊢;rw[hs];simp only[h]
 ·cases h
section
variable{P:Program}{w:World}{t:TypeId}
theorem aK{d:TypeDesc}(h:P.underlying t=some d):(underlying t).run P w=.ok d w:=run_underlying h w
theorem nA{b:Bool}(h:iE P t=some b):(isAgg t).run P w=.ok b w:=by
 unfold iE at h;unfold isAgg;split at h<;>first|(cases h;done)|(rename_i hu;simp only[oi]at h;subst h;simp only[Sem.run_bind,aK hu,Result.andThen_ok];first|rfl|(split<;>first|rfl|simp_all))
theorem b8{n:Nat}(h:bS P t=some n):(sizeOf t).run P w=.ok n w:=by
 unfold bS at h;split at h
 ·rename_i i hi;simp only[oi]at h;subst h;simp[sizeOf,typeInfo,hi]
 ·cases h
theorem gY{i:TypeInfo}(h:P.info? t=some i):(typeInfo t).run P w=.ok i w:=by simp[typeInfo,h]
theorem fK{z:Value}(h:ia P t=some z):cS.flat z=true/\∃i,P.info? t=some i/\i.zero=some z:=by
 unfold ia at h;split at h
 ·rename_i i hi
  split at h
  ·rename_i z' hz
   cases hf:cS.flat z' with
   |false=>rw[hf]at h;simp at h
   |true=>rw[hf]at h;simp at h;subst h;exact⟨hf,i,hi,hz⟩
  ·cases h
 ·cases h
theorem fW{z:Value}(h:ia P t=some z):(zeroValue t).run P w=.ok z w:=by
 obtain⟨_,i,hi,hz⟩:=fK h;simp[zeroValue,gY hi,hz]
theorem oZ{n:Nat}(h:oP P t=some n):∃i,P.info? t=some i/\i.bytes=n:=by
 unfold oP at h;split at h
 ·rename_i i hi;simp at h;exact⟨i,hi,h⟩
 ·cases h
theorem wI{n:Nat}(h:bS P t=some n):∃i,P.info? t=some i/\i.size=n:=by
 unfold bS at h;split at h
 ·rename_i i hi;simp at h;exact⟨i,hi,h⟩
 ·cases h
end
theorem ET{z:Value}(h:cS.flat z=true):z.cells.toList.all bk=true\/z.cells.toList=[undef]:=by
 cases z with
 |agg cs=>exact .inl (by simpa[cS.flat,Value.cells]using h)
 |tuple cs=>
  right;simp only[cS.flat,List.isEmpty_iff]at h;have:cs=#[]:=by simpa using h
  simp[Value.cells,undef,this]
 |_=>exact .inl (by simp[Value.cells];simpa[cS.flat]using h)
theorem lu{g:Nat->Option Loc}{z:Value}(h:cS.flat z=true):fF g z.cells.toList z.cells.toList:=by
 rcases ET h with h1|h1
 ·exact fF.flat h1
 ·rw[h1];exact .cons (VG.of_flat (by simp[undef,cS.flat])) (.nil _)
theorem zP{P:Program}{J:dI}{s:St}{w:World}(h:HR J s w){t:TypeId}{a:Addr}{L:Loc}(hL:J.at a=some L){v:Value}(hv:sq P s t a=some v) :
  ∃c,(loadVar t ⟨L.b,L.o+a.off,none⟩).run P w=.ok c w/\VG J.g v c:=by
 unfold sq at hv;split at hv
 ·rename_i EU
  split at hv
  ·rename_i n hn
   split at hv
   ·rename_i l hl
    simp only[oi]at hv;subst hv;obtain⟨l',h1,h2,h3⟩:=h.read hL hl;refine⟨.agg l'.toArray,?_,h1.agg⟩;have:=run_loadCells_list (P:=P) w ⟨L.b,L.o+a.off,none⟩ l' h3;rw[h2]at this;simp[loadVar,nA EU,b8 hn,this]
   ·cases hv
  ·cases hv
 ·rename_i EU
  split at hv
  ·rename_i x r hl
   simp only[oi]at hv;subst hv;obtain⟨l',h1,h2,h3⟩:=h.read hL hl;obtain⟨y,l'',rfl,hy,_⟩:=h1.head;refine⟨y,?_,hy⟩;have:=h3 0 y rfl;rw[jg,Nat.add_zero]at this;simp[loadVar,nA EU,this]
  ·cases hv
 ·cases hv
theorem HR.put{J:dI}{s s':St}{w:World}(h:HR J s w){a:Addr}{L:Loc}(hL:J.at a=some L){vs us:List Value}(hs:s.write a vs=some s')(hv:fF J.g vs us) :
  ∃cs e,w.heap[L.b]?=some (.cells cs e (0,0))/\(L.o+a.off+us.length<=cs.size\/us=[])/\(∀v∈us,v.oneCell'=true) /\
   (L.o+a.off+us.length<=cs.size->Good J s w J s' (w.setRow L.b (iG cs (L.o+a.off) us)))/\(us=[]->Good J s w J s' w)/\s'.env=s.env/\s'.h.next=s.h.next:=by
 unfold St.write at hs;cases fz:vs.all aE with
 |false=>rw[fz]at hs;simp at hs
 |true=>
  rw[fz]at hs;simp only[cond_true]at hs;have oH:∀v∈us,v.oneCell'=true:=by
   intro v XU;obtain⟨i,hi⟩:=List.mem_iff_getElem?.1 XU;have dR:i<vs.length:=by rw[hv.1];exact(List.getElem?_eq_some_iff.1 hi).1
   simp only[List.all_eq_true]at fz;exact(hv.2 i vs[i] v (by simp[dR]) hi).GI (fz _ (List.getElem_mem dR))
  cases iY:a.spot with
  |none=>
   simp only[iY]at hs;simp only[dI.at,iY]at hL;split at hs
   ·rename_i h' Rp
    simp only[oi]at hs;subst hs;unfold af.write at Rp;split at Rp
    ·rename_i es cells hm
     split at Rp
     ·rename_i jD Cj
      simp only[oi]at Rp;subst Rp;obtain⟨tO,cs,e,fr,hw,AM,uJ⟩:=h.cG _ _ _ hL hm;obtain rfl:=uJ rfl;obtain⟨Rq,Rr⟩:=l7 Cj;have aq:Nat.min s.h.low a.block<=s.h.low:=Nat.min_le_left _ _;have key:∀uK,uK.size=cs.size->CR J.g jD uK L.o->Good J s w J { s with h:={ next:=s.h.next,low:=Nat.min s.h.low a.block,m:=s.h.m.set a.block (.live true es jD) } } (w.setRow L.b uK):=by
       intro uK tP Kh;refine { hr:=?_,mono:=fun _ _ h=>h,next:=Nat.le_refl _,low:=aq,size:=by simp,os:=rfl,tape:=rfl,output:=rfl,fresh:=(fun id L h1 h2=>by rw[h2]at h1;cases h1),cH:=fun t L h1=>.inr ⟨t,L,h1,rfl⟩,frame:=?_ }
       ·refine { cP:=h.cP,dg:=?_,cG:=?_,dh:=?_,eE:=h.eE,dS:=?_,eO:=h.eO,sep:=h.sep }
        ·intro id L1 h1
         by_cases hb:L1.b=L.b
         ·obtain⟨o2,hx,hy⟩:=h.dg _ _ h1
          rw[hb,hw]at hx;obtain rfl:=Option.some.inj hx;have:=hy _ _ _ rfl;exact⟨.cells uK e (0,0),by rw[hb];exact setRow_heap w L.b cs uK e _ hw,fun c9 e9 f9 q=>by cases q;omega⟩
         ·rw[setRow_other w _ _ _ hb];exact h.dg _ _ h1
        ·intro id L1 b1 h1 h2
         simp only[cQ.bL]at h2;by_cases lP:a.block=id
         ·subst lP
          rw[hL]at h1;obtain rfl:=Option.some.inj h1;simp only[if_true,oi]at h2;subst h2;exact⟨tO,uK,e,(0,0),setRow_heap w L.b cs uK e _ hw,Kh,fun _=>rfl⟩
         ·simp only[lP,if_false]at h2
          cases Ki:b1.alive with
          |false=>cases b1<;>first|trivial|(simp[Cq.alive]at Ki)
          |true=>
           have dX:L1.b≠L.b:=fun hb=>lP (h.dh _ _ _ _ _ _ hL h1 hm h2 rfl Ki hb.symm)
           rw[setRow_other w _ _ _ dX];exact h.cG _ _ _ h1 h2
        ·intro id oS L1 L2 b1 b2 h1 h2 h3 h4 yW Cz hb
         simp only[cQ.bL]at h3 h4;have l3:∃b,s.h.m.get id=some b/\b.alive=true:=by
          by_cases lP:a.block=id
          ·subst lP;exact⟨_,hm,rfl⟩
          ·simp only[lP,if_false]at h3;exact⟨_,h3,yW⟩
         have l4:∃b,s.h.m.get oS=some b/\b.alive=true:=by
          by_cases lP:a.block=oS
          ·subst lP;exact⟨_,hm,rfl⟩
          ·simp only[lP,if_false]at h4;exact⟨_,h4,Cz⟩
         obtain⟨_,l3,v3⟩:=l3;obtain⟨_,l4,v4⟩:=l4;exact h.dh _ _ _ _ _ _ h1 h2 l3 l4 v3 v4 hb
        ·intro t L1 h1
         have dX:L1.b≠L.b:=fun hb=>h.sep _ _ _ _ hL h1 hb.symm
         rw[setRow_other w _ _ _ dX];exact h.dS _ _ h1
       ·intro b hb hg hl
        have:b≠L.b:=fun e=>by
         have h1:=hg a.block L hL e.symm;have h2:Nat.min s.h.low a.block<=a.block:=Nat.min_le_right _ _;simp only[]at h1;omega
        exact setRow_other w _ _ _ this
      refine⟨cs,e,hw,?_,oH,?_,?_,rfl,rfl⟩
      ·cases us with
       |nil=>exact .inr rfl
       |cons u us'=>
        left;have dX:cells≠[]:=by
         intro e0;subst e0;have h9:=hv.1;have h8:a.off+vs.length<=0:=Rq;simp only[List.length_cons]at h9;omega
        have:=AM.size dX;have:=hv.1;omega
      ·intro hz
       exact key _ (oY hz) (AM.put hv Cj hz)
      ·intro hu
       subst hu;have XV:vs=[]:=by have:=hv.1;simpa using this
       subst XV;have EC:jD=cells:=by rw[Rr];simp
       subst EC;have:=key cs rfl AM;rw[setRow_self w L.b cs e _ hw]at this;exact this
     ·cases Rp
    ·cases Rp
   ·cases hs
  |some x=>
   simp only[iY]at hs;simp only[dI.at,iY]at hL;cases hb:Nat.blt a.block s.kn with
   |false=>rw[hb]at hs;simp at hs
   |true=>
    rw[hb]at hs;simp only[cond_true]at hs;split at hs
    ·rename_i cells hK
     split at hs
     ·rename_i jD Cj
      simp only[oi]at hs;subst hs;obtain⟨cs,e,hw,XW⟩:=h.dS _ _ hL;have AM:=XW _ hK;obtain⟨Rq,Rr⟩:=l7 Cj;have key:∀uK,uK.size=cs.size->CR J.g jD uK L.o->Good J s w J { s with K:=s.K.set a.block jD } (w.setRow L.b uK):=by
       intro uK tP Kh;refine { hr:=?_,mono:=fun _ _ h=>h,next:=Nat.le_refl _,low:=Nat.le_refl _,size:=by simp,os:=rfl,tape:=rfl,output:=rfl,fresh:=(fun id L h1 h2=>by rw[h2]at h1;cases h1),cH:=fun t L h1=>.inr ⟨t,L,h1,rfl⟩,frame:=?_ }
       ·refine { cP:=h.cP,dg:=?_,cG:=?_,dh:=h.dh,eE:=h.eE,dS:=?_,eO:=h.eO,sep:=h.sep }
        ·intro id L1 h1
         rw[setRow_other w _ _ _ (h.sep _ _ _ _ h1 hL)];exact h.dg _ _ h1
        ·intro id L1 b1 h1 h2
         rw[setRow_other w _ _ _ (h.sep _ _ _ _ h1 hL)];exact h.cG _ _ _ h1 h2
        ·intro t L1 h1
         by_cases ht:a.block=t
         ·subst ht
          rw[hL]at h1;obtain rfl:=Option.some.inj h1;refine⟨uK,e,setRow_heap w L.b cs uK e _ hw,fun c1 Ub=>?_⟩;simp only[cQ.gQ,oi]at Ub;subst Ub;exact Kh
         ·have dX:L1.b≠L.b:=fun hb=>ht (h.eO _ _ _ _ hL h1 hb.symm)
          rw[setRow_other w _ _ _ dX];obtain⟨c2,e2,hx,hy⟩:=h.dS _ _ h1;exact⟨c2,e2,hx,fun c1 Ub=>hy c1 (by rw[cQ.aS _ _ ht]at Ub;exact Ub)⟩
       ·intro b hb hg hl
        exact setRow_other w _ _ _ (fun e=>hl _ _ hL e.symm)
      refine⟨cs,e,hw,?_,oH,?_,?_,rfl,rfl⟩
      ·cases us with
       |nil=>exact .inr rfl
       |cons u us'=>
        left;have dX:cells≠[]:=by
         intro e0;subst e0;have h9:=hv.1;have h8:a.off+vs.length<=0:=Rq;simp only[List.length_cons]at h9;omega
        have:=AM.size dX;have:=hv.1;omega
      ·intro hz
       exact key _ (oY hz) (AM.put hv Cj hz)
      ·intro hu
       subst hu;have XV:vs=[]:=by have:=hv.1;simpa using this
       subst XV;have EC:jD=cells:=by rw[Rr];simp
       subst EC;have:=key cs rfl AM;rw[setRow_self w L.b cs e _ hw]at this;exact this
     ·cases hs
    ·cases hs
theorem HR.write{P:Program}{J:dI}{s s':St}{w:World}(h:HR J s w){a:Addr}{L:Loc}(hL:J.at a=some L){vs us:List Value}(hs:s.write a vs=some s')(hv:fF J.g vs us) :
  ∃w',(storeCells ⟨L.b,L.o+a.off,none⟩ us).run P w=.ok () w'/\Good J s w J s' w'/\s'.env=s.env/\s'.h.next=s.h.next:=by
 obtain⟨cs,e,hw,hz,oH,hG,hN,he,hn⟩:=h.put hL hs hv;rcases hz with hz|hz
 ·refine⟨_,?_,hG hz,he,hn⟩
  have:=run_storeCells_at (P:=P) L.b (L.o+a.off) e us 0 cs w hw (by simpa using hz) oH;simpa[iG]using this
 ·subst hz
  exact⟨w,by simp[storeCells],hN rfl,he,hn⟩
theorem HR.newAt{J:dI}{s s':St}{w:World}(h:HR J s w){id tag:Nat}{loc:Bool}(hI:loc=false->id<s.h.next/\J.g id=none)(Uc:loc=true->tag<s.kn/\J.l tag=none){es:Nat}{cells:List Value}{cs:Array Value}{v:Value}(hs:s.newAt id tag loc es cells=some (v,s'))(hv:CR J.g cells cs 0)(e:TypeId) :
  ∃J',Good J s w J' s' (w.alloc (.cells cs e))/\(∀t L,J.l t=some L->J'.l t=some L)/\VR J' v (.pointer (some ⟨w.heap.size,0,none⟩))/\s'.env=s.env/\s'.h.next=s.h.next /\
   (loc=false->v=.pointer (some ⟨id,0,none⟩)/\J'.g id=some ⟨w.heap.size,0,cs.size,es⟩)/\(∀k L,J'.g k=some L->J.g k=some L\/(loc=false/\k=id))/\(∀t L,J'.l t=some L->J.l t=some L\/(loc=true/\t=tag/\v=.pointer (some ⟨tag,0,some 0⟩))):=by
 unfold St.newAt at hs;cases fz:cells.all aE with
 |false=>rw[fz]at hs;simp at hs
 |true=>
  rw[fz]at hs;simp only[cond_true]at hs;have oI:(w.alloc (.cells cs e)).heap[w.heap.size]?=some (.cells cs e (0,0)):=by show(w.heap.push _)[w.heap.size]?=_;simp
  have hold:∀k,k<w.heap.size->(w.alloc (.cells cs e)).heap[k]?=w.heap[k]?:=fun k hk=>by show(w.heap.push _)[k]?=_;rw[Array.getElem?_push,if_neg (by omega)]
  have Ud:(w.alloc (.cells cs e)).heap.size=w.heap.size+1:=by show(w.heap.push _).size=_;simp
  cases loc with
  |false=>
   simp only[cond_false,oi,pj]at hs;obtain⟨rfl,rfl⟩:=hs;obtain⟨lP,hJ⟩:=hI rfl
   let L:Loc:=⟨w.heap.size,0,cs.size,es⟩
   let g':Nat->Option Loc:=fun k=>if k=id then some L else J.g k
   have vr:∀k L1,J.g k=some L1->g' k=some L1:=fun k L1 h1=>by
    have dX:¬k=id:=fun e=>by rw[e,hJ]at h1;cases h1
    simp only[g',dX,if_false,h1]
   have bV:∀k L1,g' k=some L1->(k=id/\L1=L)\/(k≠id/\J.g k=some L1):=fun k L1 h1=>by
    by_cases hk:k=id
    ·left;simp only[g',hk,if_true,oi]at h1;exact⟨hk,h1.symm⟩
    ·right;simp only[g',hk,if_false]at h1;exact⟨hk,h1⟩
   refine⟨⟨g',J.l⟩,?_,fun t L h=>h,?_,rfl,rfl,fun _=>⟨rfl,by simp[g',L]⟩,fun k L1 hk=>(bV k L1 hk).elim (fun q=>.inr ⟨rfl,q.1⟩) (fun q=>.inl q.2),fun t L h=>.inl h⟩
   ·refine { hr:=?_,mono:=vr,next:=Nat.le_refl _,low:=Nat.le_refl _,size:=by omega,os:=rfl,tape:=rfl,output:=rfl,fresh:=?_,cH:=fun t L h1=>.inr ⟨t,L,h1,rfl⟩,frame:=fun b hb _ _=>hold b hb }
    ·refine { cP:=?_,dg:=?_,cG:=?_,dh:=?_,eE:=h.eE,dS:=?_,eO:=h.eO,sep:=?_ }
     ·intro k L1 h1
      rcases bV k L1 h1 with ⟨rfl,_⟩|⟨_,h1⟩
      ·exact lP
      ·exact h.cP _ _ h1
     ·intro k L1 h1
      rcases bV k L1 h1 with ⟨rfl,rfl⟩|⟨_,h1⟩
      ·exact⟨_,oI,fun c9 e9 f9 q=>by cases q;simp[L]⟩
      ·rw[hold _ (h.lt h1)];exact h.dg _ _ h1
     ·intro k L1 b1 h1 h2
      simp only[cQ.bL]at h2;rcases bV k L1 h1 with ⟨rfl,rfl⟩|⟨dX,h1⟩
      ·simp only[if_true,oi]at h2
       subst h2;exact⟨rfl,_,_,_,oI,hv.mono vr,fun _=>rfl⟩
      ·simp only[Ne.symm dX,if_false]at h2
       have:=(h.cG _ _ _ h1 h2).mono vr;rw[hold _ (h.lt h1)];exact this
     ·intro k k' L1 L2 b1 b2 h1 h2 h3 h4 yW Cz hb
      simp only[cQ.bL]at h3 h4;rcases bV k L1 h1 with ⟨ED,JV⟩|⟨dX,h1⟩<;>rcases bV k' L2 h2 with ⟨Kj,Ue⟩|⟨EV,h2⟩
      ·rw[ED,Kj]
      ·have:=h.lt h2;rw[JV]at hb;simp only[L]at hb;omega
      ·have:=h.lt h1;rw[Ue]at hb;simp only[L]at hb;omega
      ·simp only[Ne.symm dX,if_false]at h3
       simp only[Ne.symm EV,if_false]at h4;exact h.dh _ _ _ _ _ _ h1 h2 h3 h4 yW Cz hb
     ·intro t L1 h1
      obtain⟨Rs,e1,a1,a2⟩:=h.dS _ _ h1;exact⟨Rs,e1,by rw[hold _ (h.Kg h1)];exact a1,fun c hc=>(a2 c hc).mono vr⟩
     ·intro k t L1 L2 h1 h2 hb
      rcases bV k L1 h1 with ⟨rfl,rfl⟩|⟨_,h1⟩
      ·have:=h.Kg h2;simp only[L]at hb;omega
      ·exact h.sep _ _ _ _ h1 h2 hb
    ·intro k L1 h1 h2
     rcases bV k L1 h1 with ⟨rfl,rfl⟩|⟨_,h1⟩
     ·exact .inl (Nat.le_refl _)
     ·rw[h2]at h1;cases h1
   ·have:=VG.ptr (g:=g') ⟨id,0,none⟩ L rfl (by simp[g'])
    exact .cU _ _ (by simpa[L]using this)
  |true=>
   simp only[cond_true,oi,pj]at hs;obtain⟨rfl,rfl⟩:=hs;obtain⟨Rt,hT⟩:=Uc rfl
   let L:Loc:=⟨w.heap.size,0,cs.size,es⟩
   let l':Nat->Option Loc:=fun t=>if t=tag then some L else J.l t
   have Kk:∀t L1,J.l t=some L1->l' t=some L1:=fun t L1 h1=>by
    have dX:¬t=tag:=fun e=>by rw[e,hT]at h1;cases h1
    simp only[l',dX,if_false,h1]
   have bV:∀t L1,l' t=some L1->(t=tag/\L1=L)\/(t≠tag/\J.l t=some L1):=fun t L1 h1=>by
    by_cases hk:t=tag
    ·left;simp only[l',hk,if_true,oi]at h1;exact⟨hk,h1.symm⟩
    ·right;simp only[l',hk,if_false]at h1;exact⟨hk,h1⟩
   refine⟨⟨J.g,l'⟩,?_,Kk,?_,rfl,rfl,(fun h=>by cases h),fun k L h=>.inl h,fun t L1 ht=>(bV t L1 ht).elim (fun q=>.inr ⟨rfl,q.1,rfl⟩) (fun q=>.inl q.2)⟩
   ·refine { hr:=?_,mono:=fun _ _ h=>h,next:=Nat.le_refl _,low:=Nat.le_refl _,size:=by omega,os:=rfl,tape:=rfl,output:=rfl,fresh:=(fun id L1 h1 h2=>by rw[h2]at h1;cases h1),cH:=?_,frame:=fun b hb _ _=>hold b hb }
    ·refine { cP:=h.cP,dg:=?_,cG:=?_,dh:=h.dh,eE:=?_,dS:=?_,eO:=?_,sep:=?_ }
     ·intro id L1 h1
      rw[hold _ (h.lt h1)];exact h.dg _ _ h1
     ·intro k L1 b1 h1 h2
      rw[hold _ (h.lt h1)];exact h.cG _ _ _ h1 h2
     ·intro t L1 h1
      rcases bV t L1 h1 with ⟨rfl,_⟩|⟨_,h1⟩
      ·exact Rt
      ·exact h.eE _ _ h1
     ·intro t L1 h1
      rcases bV t L1 h1 with ⟨rfl,rfl⟩|⟨dX,h1⟩
      ·refine⟨_,_,oI,fun c hc=>?_⟩
       simp only[cQ.gQ,oi]at hc;subst hc;exact hv
      ·obtain⟨Rs,e1,a1,a2⟩:=h.dS _ _ h1
       refine⟨Rs,e1,by rw[hold _ (h.Kg h1)];exact a1,fun c hc=>a2 c ?_⟩;rw[cQ.aS _ _ (Ne.symm dX)]at hc;exact hc
     ·intro t t' L1 L2 h1 h2 hb
      rcases bV t L1 h1 with ⟨ED,JV⟩|⟨dX,h1⟩<;>rcases bV t' L2 h2 with ⟨Kj,Ue⟩|⟨EV,h2⟩
      ·rw[ED,Kj]
      ·have:=h.Kg h2;rw[JV]at hb;simp only[L]at hb;omega
      ·have:=h.Kg h1;rw[Ue]at hb;simp only[L]at hb;omega
      ·exact h.eO _ _ _ _ h1 h2 hb
     ·intro id t L1 L2 h1 h2 hb
      rcases bV t L2 h2 with ⟨rfl,rfl⟩|⟨_,h2⟩
      ·have:=h.lt h1;simp only[L]at hb;omega
      ·exact h.sep _ _ _ _ h1 h2 hb
    ·intro t L1 h1
     rcases bV t L1 h1 with ⟨rfl,rfl⟩|⟨_,h1⟩
     ·exact .inl (Nat.le_refl _)
     ·exact .inr ⟨t,L1,h1,rfl⟩
   ·have:=VR.loc (J:=⟨J.g,l'⟩) ⟨tag,0,some 0⟩ 0 L rfl (by simp[l'])
    simpa[L]using this
theorem Good.jf {J : dI} {s : St} {w : World} (h : HR J s w) (n m : Nat) : Good J s w J { s with kn := s.kn + m, h := { s.h with next := s.h.next + n } } w where
  hr := { cP := fun id L hL => by have := h.cP _ _ hL; simp only []; omega, dg := h.dg, cG := h.cG, dh := h.dh,
          eE := fun t L hL => by have := h.eE _ _ hL; simp only []; omega, dS := h.dS, eO := h.eO, sep := h.sep }
  mono := fun _ _ h => h
  next := by simp
  low := Nat.le_refl _
  size := Nat.le_refl _
  os := rfl
  tape := rfl
  output := rfl
  fresh := (fun id L h1 h2 => by rw [h2] at h1; cases h1)
  cH := fun t L h1 => .inr ⟨t, L, h1, rfl⟩
  frame := fun _ _ _ _ => rfl
def fD(R:Nat->Prop)(g g':Nat->Option Loc):Prop:=∀k L,g' k=some L->g k=some L\/R k
theorem fD.refl(R:Nat->Prop)(g:Nat->Option Loc):fD R g g:=fun _ _ h=>.inl h
theorem fD.mono{R R':Nat->Prop}{g g':Nat->Option Loc}(h:fD R g g')(hr:∀k,R k->R' k):fD R' g g':=fun k L hk=>(h k L hk).imp (fun q=>q) (hr k)
theorem fD.trans{R:Nat->Prop}{g g' g'':Nat->Option Loc}(h:fD R g g')(k:fD R g' g''):fD R g g'':=fun i L hi=>by
 rcases k i L hi with q|q
 ·exact h i L q
 ·exact .inr q
def GJ(mk:kY)(k:Nat):Prop:=∃es cells s',mk false es cells=some (.pointer (some ⟨k,0,none⟩),s')
def Kl(mk:kY)(t:Nat):Prop:=∃es cells s',mk true es cells=some (.pointer (some ⟨t,0,some 0⟩),s')
def zQ(J:dI)(s:St)(w:World)(mk:kY):Prop:=∀(loc:Bool) (es:Nat) (cells:List Value) (cs:Array Value) (v:Value) (s':St) (e:TypeId),mk loc es cells=some (v,s')->CR J.g cells cs 0->
 ∃J',Good J s w J' s' (w.alloc (.cells cs e))/\(∀t L,J.l t=some L->J'.l t=some L)/\VR J' v (.pointer (some ⟨w.heap.size,0,none⟩))/\s'.env=s.env /\
  (loc=false->∃id,v=.pointer (some ⟨id,0,none⟩)/\J'.g id=some ⟨w.heap.size,0,cs.size,es⟩)/\fD (fun k=>loc=false/\GJ mk k) J.g J'.g/\fD (fun t=>loc=true/\Kl mk t) J.l J'.l
theorem HR.GK{J:dI}{s:St}{w:World}(h:HR J s w){id tag:Nat}(lP:id<s.h.next)(hJ:J.g id=none)(Rt:tag<s.kn)(hT:J.l tag=none):zQ J s w (s.newAt id tag):=by
 intro loc es cells cs v s' e hs hv;obtain⟨J',a1,a2,a3,a4,_,a6,a7,a8⟩:=h.newAt (fun _=>⟨lP,hJ⟩) (fun _=>⟨Rt,hT⟩) hs hv e;refine⟨J',a1,a2,a3,a4,fun hl=>⟨id,a6 hl⟩,fun k L hk=>(a7 k L hk).imp (fun q=>q) ?_,fun t L ht=>(a8 t L ht).imp (fun q=>q) ?_⟩
 ·rintro⟨hl,rfl⟩
  have:=(a6 hl).1;subst hl;subst this;exact⟨rfl,_,_,_,hs⟩
 ·rintro⟨hl,rfl,rfl⟩
  subst hl;exact⟨rfl,_,_,_,hs⟩
theorem HR.new{J:dI}{s s':St}{w:World}(h:HR J s w){loc:Bool}{es:Nat}{cells:List Value}{cs:Array Value}{v:Value}(hs:s.new loc es cells=some (v,s'))(hv:CR J.g cells cs 0)(e:TypeId) :
  ∃J',Good J s w J' s' (w.alloc (.cells cs e))/\(∀t L,J.l t=some L->J'.l t=some L)/\VR J' v (.pointer (some ⟨w.heap.size,0,none⟩))/\s'.env=s.env /\
   (loc=false->v=.pointer (some ⟨s.h.next,0,none⟩)/\J'.g s.h.next=some ⟨w.heap.size,0,cs.size,es⟩)/\(∀k L,J'.g k=some L->J.g k=some L\/(loc=false/\k=s.h.next))/\(∀t L,J'.l t=some L->J.l t=some L\/(loc=true/\t=s.kn/\v=.pointer (some ⟨s.kn,0,some 0⟩))):=by
 have hJ:J.g s.h.next=none:=by
  cases hx:J.g s.h.next with
  |none=>rfl
  |some L=>have:=h.cP _ _ hx;omega
 have hT:J.l s.kn=none:=by
  cases hx:J.l s.kn with
  |none=>rfl
  |some L=>have:=h.eE _ _ hx;omega
 unfold St.new at hs;cases fz:cells.all aE with
 |false=>rw[fz]at hs;simp at hs
 |true=>
  rw[fz]at hs;simp only[cond_true]at hs;cases loc with
  |false=>
   simp only[cond_false,oi,pj]at hs;obtain⟨rfl,rfl⟩:=hs;have hk:=Good.jf h 1 0;obtain⟨J',a1,a2,a3,a4,a5,a6,a7,a8⟩:=hk.hr.newAt (id:=s.h.next) (tag:=s.kn) (loc:=false) (fun _=>⟨by simp,hJ⟩) (fun h=>by cases h) (es:=es) (by unfold St.newAt;rw[fz];rfl) hv e;exact⟨J',hk.trans a1,a2,a3,rfl,a6,a7,a8⟩
  |true=>
   simp only[cond_true,oi,pj]at hs;obtain⟨rfl,rfl⟩:=hs;have hk:=Good.jf h 0 1;obtain⟨J',a1,a2,a3,a4,a5,a6,a7,a8⟩:=hk.hr.newAt (id:=s.h.next) (tag:=s.kn) (loc:=true) (fun h=>by cases h) (fun _=>⟨by simp,hT⟩) (es:=es) (by unfold St.newAt;rw[fz];rfl) hv e;exact⟨J',hk.trans a1,a2,a3,rfl,(fun h=>by cases h),a7,a8⟩
theorem HR.Uf{J:dI}{s:St}{w:World}(h:HR J s w):zQ J s w s.new:=by
 intro loc es cells cs v s' e hs hv;obtain⟨J',a1,a2,a3,a4,a6,a7,a8⟩:=h.new hs hv e;refine⟨J',a1,a2,a3,a4,fun hl=>⟨s.h.next,a6 hl⟩,fun k L hk=>(a7 k L hk).imp (fun q=>q) ?_,fun t L ht=>(a8 t L ht).imp (fun q=>q) ?_⟩
 ·rintro⟨hl,rfl⟩
  have:=(a6 hl).1;subst hl;subst this;exact⟨rfl,_,_,_,hs⟩
 ·rintro⟨hl,rfl,rfl⟩
  subst hl;exact⟨rfl,_,_,_,hs⟩
end Go.cS
namespace Go.cS
variable{P:Program}{w:World}{g:Nat->Option Loc}
theorem kS{t:TypeId}{cs kR:Array Value}{off:Nat}{v:Value}(h:kB P t cs off=some v)(hc:fF g cs.toList kR.toList) :
  ∃c,(part t kR off).run P w=.ok c w/\VG g v c:=by
 unfold kB at h;split at h
 ·rename_i ha
  split at h
  ·rename_i n hn
   split at h
   ·rename_i l hl
    simp only[oi]at h;subst h;refine⟨.agg (kR.extract off (off+n)),by simp[part,nA ha,b8 hn],?_⟩;unfold jR at hl;simp only[]at hl;cases hb:Nat.beq ((cs.toList.drop off).take n).length n with
    |false=>rw[hb]at hl;simp at hl
    |true=>
     rw[hb]at hl;simp only[cond_true,oi]at hl;subst hl;have:=((hc.drop off).take n).agg;have e:kR.extract off (off+n)=((kR.toList.drop off).take n).toArray:=by
      apply Array.ext';simp[Array.toList_extract,List.extract]
     rw[e];exact this
   ·cases h
  ·cases h
 ·rename_i ha
  have dR:off<kR.toList.length:=by rw[<-hc.1];exact(List.getElem?_eq_some_iff.1 h).1
  have hx:kR[off]?=some (kR.toList[off]):=by simp at dR ⊢
  refine⟨kR.toList[off],by simp[part,nA ha,hx],hc.2 off v _ h (by simp at dR ⊢)⟩
 ·cases h
theorem EW{J:dI}{t:TypeId}{x cx v:Value}{f:Nat}(h:tM P t x f=some v)(hx:VR J x cx):∃c,(Instr.field t cx f).run P w=.ok c w/\VG J.g v c:=by
 unfold tM at h;split at h
 ·rename_i fs cs hu
  split at h
  ·rename_i fd hf
   obtain⟨y,rfl,hy⟩:=(hx.aY (fun a=>by simp)).Cy;obtain⟨c,h1,h2⟩:=kS (w:=w) h hy;have Ob:fs[f]?=some fd:=by simpa using hf
   exact⟨c,by simp[Instr.field,aK hu,Ob,asAgg,h1],h2⟩
  ·cases h
 ·cases h
theorem EX{J:dI}{t:TypeId}{x cx ix ci v:Value}(h:wz P t x ix=some v)(hx:VR J x cx)(hi:VR J ix ci):∃c,(Instr.index t cx ci).run P w=.ok c w/\VG J.g v c:=by
 unfold wz at h;split at h
 ·rename_i len e cs k i hu
  split at h
  ·rename_i n hn
   split at h
   ·rename_i dR
    obtain⟨y,rfl,hy⟩:=(hx.aY (fun a=>by simp)).Cy;obtain rfl:=(hi.aY (fun a=>by simp)).int;obtain⟨c,h1,h2⟩:=kS (w:=w) h hy;exact⟨c,by simp[Instr.index,asIntOf,aK hu,dR.1,dR.2,b8 hn,h1],h2⟩
   ·cases h
  ·cases h
 ·rename_i s k i hu
  split at h
  ·rename_i dR
   split at h
   ·rename_i b hb
    simp only[oi]at h;subst h;obtain rfl:=(hx.aY (fun a=>by simp)).string;obtain rfl:=(hi.aY (fun a=>by simp)).int;exact⟨_,by simp[Instr.index,asIntOf,aK hu,dR,hb],.flat _ rfl⟩
   ·cases h
  ·cases h
 ·cases h
theorem Km{J:dI}{t ty:TypeId}{x cx v:Value}(h:J9 P t x=some v)(hx:VR J x cx):(Builtin.len_ #[t] ty #[cx]).run P w=.ok v w/\bk v=true:=by
 unfold J9 at h;split at h
 ·rename_i hu
  simp only[oi]at h;subst h;obtain rfl:=(hx.aY (fun a=>by simp)).string;exact⟨by simp[Builtin.len_,aK hu,goInt],rfl⟩
 ·rename_i hu
  simp only[oi]at h;subst h;exact⟨by simp[Builtin.len_,aK hu,goInt],rfl⟩
 ·rename_i e a n c hu
  simp only[oi]at h;subst h;obtain⟨a',c',rfl,_⟩:=(hx.aY (fun a=>by simp)).iy;exact⟨by simp[Builtin.len_,aK hu,goInt],rfl⟩
 ·rename_i e x hu
  split at h
  ·rename_i n e' Ru
   simp only[oi]at h;subst h;exact⟨by simp[Builtin.len_,aK hu,aK Ru,goInt],rfl⟩
  ·cases h
 ·cases h
theorem Kn{J:dI}{t ty:TypeId}{x cx v:Value}(h:N8 P t x=some v)(hx:VR J x cx):(Builtin.cap_ #[t] ty #[cx]).run P w=.ok v w/\bk v=true:=by
 unfold N8 at h;split at h
 ·rename_i e a n c hu
  cases hb:Nat.blt c aR with
  |false=>rw[hb]at h;simp at h
  |true=>
   rw[hb]at h;simp only[cond_true,oi]at h;subst h;have hc:c<aR:=Nat.le_of_ble_eq_true hb;have EC:∃a',cx=.slice a' n c:=by
    cases a with
    |none=>obtain⟨rfl,rfl,rfl⟩:=(hx.aY (fun a=>by simp)).ft;exact⟨_,rfl⟩
    |some a=>
     rcases(hx.aY (fun a=>by simp)).dQ with ⟨_,L,c2,_,rfl,q⟩|⟨rfl,_,a2,c2,rfl,q⟩
     ·rcases q with ⟨_,rfl⟩|⟨m',rfl,_⟩
      ·exact⟨_,rfl⟩
      ·have:=dv L.es m';omega
     ·rcases q with ⟨rfl,rfl⟩|rfl
      ·exact⟨_,rfl⟩
      ·omega
   obtain⟨a',rfl⟩:=EC;exact⟨by simp[Builtin.cap_,aK hu,goInt],rfl⟩
 ·cases h
theorem Oc{J:dI}{op:UnOp}{x cx v:Value}(h:T8 op x=some v)(hx:VR J x cx):(Op.unary op cx).run P w=.ok v w/\bk v=true:=by
 unfold T8 at h;split at h
 ·simp only[oi]at h;subst h
  obtain rfl:=(hx.aY (fun a=>by simp)).int;exact⟨by simp[Op.unary,Op.intArith],rfl⟩
 ·simp only[oi]at h;subst h
  obtain rfl:=(hx.aY (fun a=>by simp)).int;exact⟨by simp[Op.unary,Op.intBits],rfl⟩
 ·simp only[oi]at h;subst h
  obtain rfl:=(hx.aY (fun a=>by simp)).bool;exact⟨by simp[Op.unary],rfl⟩
 ·cases h
theorem Ie{J:dI}{src dst:TypeId}{x cx v:Value}(h:Cs P src dst x=some v)(hx:VR J x cx):(convert src dst cx).run P w=.ok v w/\bk v=true:=by
 unfold Cs at h;split at h
 ·rename_i d k k' n h1 h2
  simp only[oi]at h;subst h;obtain rfl:=(hx.aY (fun a=>by simp)).int;exact⟨by simp[convert,aK h1,aK h2,Conv.intToInt],rfl⟩
 ·rename_i d s h1 h2
  simp only[oi]at h;subst h;obtain rfl:=(hx.aY (fun a=>by simp)).string;exact⟨by simp[convert,aK h1,aK h2],rfl⟩
 ·cases h
theorem Ig{x y v:Value}(h:wA x y=some v):(Builtin.max2 x y).run P w=.ok v w/\bk v=true:=by
 unfold wA at h;split at h
 ·simp only[oi]at h;subst h;exact⟨by simp[Builtin.max2],rfl⟩
 ·cases h
theorem Ih{x y v:Value}(h:wB x y=some v):(Builtin.min2 x y).run P w=.ok v w/\bk v=true:=by
 unfold wB at h;split at h
 ·simp only[oi]at h;subst h;exact⟨by simp[Builtin.min2],rfl⟩
 ·cases h
theorem EY{x y v:Value}(h:wA x y=some v):(∃k n,x=.int k n)/\(∃k n,y=.int k n)/\∃k n,v=.int k n:=by
 unfold wA at h;split at h
 ·simp only[oi]at h;subst h;exact⟨⟨_,_,rfl⟩,⟨_,_,rfl⟩,⟨_,_,rfl⟩⟩
 ·cases h
theorem EZ{x y v:Value}(h:wB x y=some v):(∃k n,x=.int k n)/\(∃k n,y=.int k n)/\∃k n,v=.int k n:=by
 unfold wB at h;split at h
 ·simp only[oi]at h;subst h;exact⟨⟨_,_,rfl⟩,⟨_,_,rfl⟩,⟨_,_,rfl⟩⟩
 ·cases h
theorem tQ{f:Value->Value->Option Value}{F:Value->Value->Sem Value}(hf:∀x y v,f x y=some v->(F x y).run P w=.ok v w)(hi:∀x y v,f x y=some v->(∃k n,x=.int k n)/\(∃k n,y=.int k n)/\∃k n,v=.int k n){J:dI} :
  ∀(r cr:List Value) (x cx v:Value),qV f x r=some v->VR J x cx->(r.length=cr.length/\∀(i:Nat) (a b:Value),r[i]?=some a->cr[i]?=some b->VR J a b)->∃c,(cr.foldlM F cx).run P w=.ok c w/\VR J v c
 | [],cr,x,cx,v,h,hx,hr=>by
  simp only[qV,oi]at h;subst h;have:cr=[]:=by have:=hr.1;cases cr<;>simp_all
  subst this;exact⟨cx,by simp,hx⟩
 |y :: r,cr,x,cx,v,h,hx,hr=>by
  cases cr with
  |nil=>have:=hr.1;simp at this
  |cons cy cr=>
   simp only[qV]at h;split at h
   ·rename_i z hz
    obtain⟨⟨k1,n1,rfl⟩,⟨k2,n2,rfl⟩,⟨k3,n3,rfl⟩⟩:=hi _ _ _ hz;obtain rfl:=(hx.aY (fun a=>by simp)).int;obtain rfl:=((hr.2 0 _ _ rfl rfl).aY (fun a=>by simp)).int;obtain⟨c,h1,h2⟩:=tQ hf hi r cr (.int k3 n3) (.int k3 n3) v h (.cU _ _ (.flat _ rfl)) ⟨by have:=hr.1;simpa using this,fun i a b ha hb=>hr.2 (i+1) a b (by simpa using ha) (by simpa using hb)⟩;exact⟨c,by simp[List.foldlM_cons,hf _ _ _ hz,h1],h2⟩
   ·cases h
theorem Od:∀(d:Nat) (t:TypeId) (x y cx cy:Value) (b:Bool) (d':Nat),oM P d t x y=some b->VG g x cx->VG g y cy->d<=d'->(Op.equalIn d' t cx cy).run P w=.ok b w:=by
 intro d
 induction d with
 |zero=>intro t x y cx cy b d' h;simp[oM]at h
 |succ d ih=>
  intro t x y cx cy b d' h hx hy hd;obtain⟨d',rfl⟩:∃k,d'=k+1:=⟨d'-1,by omega⟩;have wJ:d<=d':=by omega
  unfold oM at h;split at h
  ·rename_i a b hu
   simp only[oi]at h;subst h;obtain rfl:=hx.bool;obtain rfl:=hy.bool;simp[Op.equalIn,aK hu]
  ·rename_i k0 k a k' b hu
   split at h
   ·rename_i hk
    simp only[oi]at h;subst h;obtain rfl:=hx.int;obtain rfl:=hy.int;simp[Op.equalIn,aK hu,hk]
   ·cases h
  ·rename_i a b hu
   simp only[oi]at h;subst h;obtain rfl:=hx.string;obtain rfl:=hy.string;simp[Op.equalIn,aK hu]
  ·rename_i fs xs ys hu
   cases tU:P.stoodInHeld t with
   |true=>rw[tU]at h;simp at h
   |false=>
    rw[tU]at h;simp only[cond_false]at h;obtain⟨XX,rfl,XY⟩:=hx.Cy;obtain⟨XZ,rfl,Ug⟩:=hy.Cy;have X0:P.fieldsOf t=fs:=by simp[Program.fieldsOf,hu]
    rw[run_equalIn_struct w d' t XX XZ (by rw[X0];exact hu) tU,X0];generalize fs.toList=l at h;clear hu X0
    induction l generalizing b with
    |nil=>simp only[List.foldr_nil,oi]at h;subst h;simp[Op.eqFields]
    |cons f l X3=>
     simp only[List.foldr_cons]at h;split at h
     ·cases h
     ·rename_i cE
      split at h
      ·rename_i u v Uh yW
       obtain⟨cu,p1,p2⟩:=kS (w:=w) Uh XY;obtain⟨cv,q1,q2⟩:=kS (w:=w) yW Ug;split at h
       ·rename_i he
        have e1:=ih f.type u v cu cv true d' he p2 q2 wJ;simp only[Op.eqFields,ne_eq,cE,not_false_eq_true,if_true,Sem.run_bind,p1,q1,e1,Result.andThen_ok];simpa using X3 b h
       ·rename_i he
        have e1:=ih f.type u v cu cv false d' he p2 q2 wJ;simp only[oi]at h;subst h;simp[Op.eqFields,cE,p1,q1,e1]
       ·cases h
      ·cases h
  ·rename_i len e xs ys hu
   split at h
   ·rename_i n hn
    obtain⟨XX,rfl,XY⟩:=hx.Cy;obtain⟨XZ,rfl,Ug⟩:=hy.Cy;obtain⟨i,hi,tH⟩:=wI hn;have CA:P.cellsOf e=n:=by simp[Program.cellsOf,hi,tH]
    rw[run_equalIn_array w d' XX XZ hu hi,CA];generalize List.range len=l at h;clear hu
    induction l generalizing b with
    |nil=>simp only[List.foldr_nil,oi]at h;subst h;simp[Op.eqItems]
    |cons j l X3=>
     simp only[List.foldr_cons]at h;split at h
     ·rename_i u v Uh yW
      obtain⟨cu,p1,p2⟩:=kS (w:=w) Uh XY;obtain⟨cv,q1,q2⟩:=kS (w:=w) yW Ug;split at h
      ·rename_i he
       have e1:=ih e u v cu cv true d' he p2 q2 wJ;simp only[Op.eqItems,Sem.run_bind,p1,q1,e1,Result.andThen_ok];simpa using X3 b h
      ·rename_i he
       have e1:=ih e u v cu cv false d' he p2 q2 wJ;simp only[oi]at h;subst h;simp[Op.eqItems,p1,q1,e1]
      ·cases h
     ·cases h
   ·cases h
  ·rename_i e n c bb n' c' hu
   simp only[oi]at h;subst h;obtain⟨rfl,rfl,rfl⟩:=hx.ft;cases bb with
   |none=>obtain⟨rfl,rfl,rfl⟩:=hy.ft;simp[Op.equalIn,aK hu]
   |some a=>rcases hy.dQ with ⟨_,L,c2,_,rfl,_⟩|⟨rfl,_,a',c2,rfl,_⟩<;>simp[Op.equalIn,aK hu]
  ·rename_i e a n c n' c' hu
   simp only[oi]at h;subst h;obtain⟨rfl,rfl,rfl⟩:=hy.ft;rcases hx.dQ with ⟨_,L,c2,_,rfl,_⟩|⟨rfl,_,a',c2,rfl,_⟩<;>simp[Op.equalIn,aK hu]
  ·rename_i e bb hu
   simp only[oi]at h;subst h;obtain rfl:=hx.oU;cases bb with
   |none=>obtain rfl:=hy.oU;simp[Op.equalIn,aK hu]
   |some a=>obtain⟨_,L,_,rfl⟩:=hy.oV;simp[Op.equalIn,aK hu]
  ·rename_i e a hu
   simp only[oi]at h;subst h;obtain⟨_,L,_,rfl⟩:=hx.oV;obtain rfl:=hy.oU;simp[Op.equalIn,aK hu]
  ·rename_i k e bb hu
   simp only[oi]at h;subst h;obtain rfl:=hx.AK;cases bb with
   |none=>obtain rfl:=hy.AK;simp[Op.equalIn,aK hu]
   |some a=>obtain⟨L,_,rfl⟩:=hy.Oa;simp[Op.equalIn,aK hu]
  ·rename_i k e a hu
   simp only[oi]at h;subst h;obtain rfl:=hy.AK;obtain⟨L,_,rfl⟩:=hx.Oa;simp[Op.equalIn,aK hu]
  ·rename_i hu
   simp only[oi]at h;subst h;obtain rfl:=hx.nilFunc;obtain rfl:=hy.nilFunc;simp[Op.equalIn,aK hu]
  ·rename_i hu
   simp only[oi]at h;subst h;obtain rfl:=hx.nilFunc;obtain⟨Qg,x',y',rfl⟩:=hy.vM;simp[Op.equalIn,aK hu]
  ·rename_i hu
   simp only[oi]at h;subst h;obtain rfl:=hy.nilFunc;obtain⟨Qg,x',y',rfl⟩:=hx.vM;simp[Op.equalIn,aK hu]
  ·cases h
theorem Ii {op : BinOp} {k : IntKind} {a b : Int} {v : Value} {t : TypeId} {X Y : Operand} (h : uH op k a b = some v) :
    (do eqGuard op t X Y (.int k a) (.int k b); binOp op t (.int k a) (.int k b)).run P w = .ok v w ∧ bk v = true := by
  unfold uH at h
  split at h
  all_goals first
    | (cases h; done)
    | (simp only [oi] at h; subst h; exact ⟨by simp [eqGuard, binOp, Op.intArith, Op.intDiv, Op.intBits, Op.intCmp], rfl⟩)
    | (split at h
       · cases h
       · rename_i hb; simp only [oi] at h; subst h; exact ⟨by simp [eqGuard, binOp, Op.intDiv, hb], rfl⟩)
theorem Ij {op : BinOp} {a b : ByteArray} {v : Value} {t : TypeId} {X Y : Operand} (h : Cr op a b = some v) :
    (do eqGuard op t X Y (.string a) (.string b); binOp op t (.string a) (.string b)).run P w = .ok v w ∧ bk v = true := by
  unfold Cr at h
  split at h
  all_goals first
    | (cases h; done)
    | (simp only [oi] at h; subst h; exact ⟨by simp [eqGuard, binOp, Op.stringOp], rfl⟩)
    | (cases hb : Nat.ble (a.size + b.size) 1073741824 with
       | false => rw [hb] at h; simp at h
       | true =>
         rw [hb] at h
         simp only [cond_true, oi] at h
         subst h
         have := Nat.le_of_ble_eq_true hb
         refine ⟨?_, rfl⟩
         have e : ¬ (((a.size + b.size : Nat) : Int) > IntKind.i64.max) := by
           have : IntKind.i64.max = 9223372036854775807 := by decide
           rw [this]; omega
         simp only [eqGuard, binOp, Op.stringOp, e]
         simp)
theorem sD{op:BinOp}{t:TypeId}{X Y:Operand}{cx cy:Value}(hg:P.eqGuardType P.depth t=false)(hn:cx≠.nilIface):(eqGuard op t X Y cx cy).run P w=.ok () w:=by
 by_cases ho:op=.eql\/op=.neq
 ·rcases ho with rfl|rfl
  ·cases cx with
   |nilIface=>exact absurd rfl hn
   |agg x=>cases cy<;>simp[eqGuard,hg]
   |_=>simp[eqGuard]
  ·cases cx with
   |nilIface=>exact absurd rfl hn
   |agg x=>cases cy<;>simp[eqGuard,hg]
   |_=>simp[eqGuard]
 ·cases op<;>first|(exfalso;simp at ho;done)|simp[eqGuard]
theorem uL{op:BinOp}{k k':IntKind}{a b:Int}{v:Value}{t:TypeId}{X Y:Operand}(ho:op=.shl\/op=.shr)(h:qg op k a b=some v) :
  (do eqGuard op t X Y (.int k a) (.int k' b);binOp op t (.int k a) (.int k' b)).run P w=.ok v w/\bk v=true:=by
 unfold qg at h;split at h
 ·cases h
 ·rename_i hb
  rcases ho with rfl|rfl
  ·simp only[oi]at h;subst h;exact⟨by simp[eqGuard,binOp,Op.shift,hb],rfl⟩
  ·simp only[oi]at h;subst h;exact⟨by simp[eqGuard,binOp,Op.shift,hb],rfl⟩
theorem CB{J:dI}{x y cx cy:Value}(h:iZ x y=true)(hx:VR J x cx)(hy:VR J y cy):iZ cx cy=true:=by
 unfold iZ at h;split at h
 ·obtain⟨_,rfl,_⟩:=(hx.aY (fun a=>by simp)).Cy
  obtain⟨_,rfl,_⟩:=(hy.aY (fun a=>by simp)).Cy;rfl
 ·obtain⟨_,_,rfl,_⟩:=(hx.aY (fun a=>by simp)).iy
  obtain⟨_,_,rfl,_⟩:=(hy.aY (fun a=>by simp)).iy;rfl
 ·rename_i a b
  cases a with
  |none=>
   obtain rfl:=(hx.aY (fun a=>by simp)).oU;cases b with
   |none=>obtain rfl:=(hy.aY (fun a=>by simp)).oU;rfl
   |some b=>obtain⟨_,_,rfl⟩:=hy.oV;rfl
  |some a=>
   obtain⟨_,_,rfl⟩:=hx.oV;cases b with
   |none=>obtain rfl:=(hy.aY (fun a=>by simp)).oU;rfl
   |some b=>obtain⟨_,_,rfl⟩:=hy.oV;rfl
 ·rename_i a b
  have h1:=hx.aY (fun a=>by simp);have h2:=hy.aY (fun a=>by simp);cases h1<;>cases h2<;>rfl
 ·obtain rfl:=(hx.aY (fun a=>by simp)).nilFunc
  obtain rfl:=(hy.aY (fun a=>by simp)).nilFunc;rfl
 ·obtain rfl:=(hx.aY (fun a=>by simp)).nilFunc
  obtain⟨_,_,_,rfl⟩:=(hy.aY (fun a=>by simp)).vM;rfl
 ·obtain⟨_,_,_,rfl⟩:=(hx.aY (fun a=>by simp)).vM
  obtain rfl:=(hy.aY (fun a=>by simp)).nilFunc;rfl
 ·cases h
theorem CC{t:TypeId}{cx cy:Value}(h:iZ cx cy=true):cx≠.nilIface/\binOp .eql t cx cy=(do pure (.bool (<-Op.equal t cx cy)))/\binOp .neq t cx cy=(do pure (.bool (!(<-Op.equal t cx cy)))):=by
 unfold iZ at h;split at h
 all_goals first|(cases h;done)|exact⟨by simp,rfl,rfl⟩
theorem Ko{d:Nat}{t:TypeId}{a:Addr}{b:Bool}(h:oM P (d+1) t (.pointer (some a)) (.pointer none)=some b):b=false/\∃e,P.underlying t=some (.pointer e):=by
 unfold oM at h;split at h<;>first|(simp_all;done)|grind
theorem Kp{d:Nat}{t:TypeId}{a:Addr}{b:Bool}(h:oM P (d+1) t (.pointer none) (.pointer (some a))=some b):b=false/\∃e,P.underlying t=some (.pointer e):=by
 unfold oM at h;split at h<;>first|(simp_all;done)|grind
theorem Kq{d:Nat}{t:TypeId}{a a':Addr}{b:Bool}(h:oM P (d+1) t (.pointer (some a)) (.pointer (some a'))=some b):False:=by
 unfold oM at h;split at h<;>first|(simp_all;done)|grind
theorem zR{J:dI}{t:TypeId}{x y cx cy:Value}{b:Bool}(hs:iZ x y=true)(he:oM P 30 t x y=some b)(hx:VR J x cx)(hy:VR J y cy):(Op.equal t cx cy).run P w=.ok b w:=by
 show(Op.equalIn (9999+1) t cx cy).run P w=.ok b w;have h30:30<=9999+1:=by omega
 generalize 9999=dd at h30;by_cases X4:∃a,x=.pointer (some a)
 ·obtain⟨a,rfl⟩:=X4
  obtain⟨L,_,rfl⟩:=hx.oV;unfold iZ at hs;split at hs<;>first|(cases hs;done)|skip
  all_goals first|(rename_i q;cases q;done)|skip
  rename_i a' b' ha;cases ha;cases b' with
  |some b'=>exact(Kq (d:=29) he).elim
  |none=>
   obtain rfl:=(hy.aY (fun a=>by simp)).oU;obtain⟨rfl,e,hu⟩:=Ko (d:=29) he;simp[Op.equalIn,aK hu]
 ·have gx:=hx.aY (fun a e=>X4 ⟨a,e⟩)
  by_cases hpy:∃a,y=.pointer (some a)
  ·obtain⟨a,rfl⟩:=hpy
   obtain⟨L,_,rfl⟩:=hy.oV;unfold iZ at hs;split at hs<;>first|(cases hs;done)|skip
   all_goals first|(rename_i q;cases q;done)|skip
   rename_i a' b' ha;cases ha;cases a' with
   |some a'=>exact absurd ⟨_,rfl⟩ X4
   |none=>
    obtain rfl:=gx.oU;obtain⟨rfl,e,hu⟩:=Kp (d:=29) he;simp[Op.equalIn,aK hu]
  ·exact Od 30 t x y cx cy b (dd+1) he gx (hy.aY (fun a e=>hpy ⟨a,e⟩)) h30
theorem CD{J:dI}{op:BinOp}{t:TypeId}{x y cx cy v:Value}{X Y:Operand}(h:vK P op t x y=some v)(hx:VR J x cx)(hy:VR J y cy) :
  (do eqGuard op t X Y cx cy;binOp op t cx cy).run P w=.ok v w/\bk v=true:=by
 unfold vK at h;cases hc:(iZ x y && !(P.eqGuardType P.depth t))with
 |false=>rw[hc]at h;simp at h
 |true=>
  rw[hc]at h;simp only[cond_true]at h;simp only[Bool.and_eq_true,Bool.not_eq_true']at hc;obtain⟨hs,hg⟩:=hc;obtain⟨h1,h2,h3⟩:=CC (t:=t) (CB hs hx hy);split at h
  ·split at h
   ·rename_i b he
    simp only[oi]at h;subst h;exact⟨by rw[Sem.run_bind,sD hg h1,Result.andThen_ok,h2];simp[zR hs he hx hy],rfl⟩
   ·cases h
  ·split at h
   ·rename_i b he
    simp only[oi]at h;subst h;exact⟨by rw[Sem.run_bind,sD hg h1,Result.andThen_ok,h3];simp[zR hs he hx hy],rfl⟩
   ·cases h
  ·cases h
theorem Kr{J:dI}{op:BinOp}{t:TypeId}{x y cx cy v:Value}{X Y:Operand}(h:wv P op t x y=some v)(hx:VR J x cx)(hy:VR J y cy) :
  (do eqGuard op t X Y cx cy;binOp op t cx cy).run P w=.ok v w/\bk v=true:=by
 unfold wv at h;split at h
 ·rename_i k a k' b
  obtain rfl:=(hx.aY (fun a=>by simp)).int;obtain rfl:=(hy.aY (fun a=>by simp)).int;split at h
  ·exact uL (.inl rfl) h
  ·exact uL (.inr rfl) h
  ·split at h
   ·rename_i hk;subst hk;exact Ii h
   ·cases h
 ·obtain rfl:=(hx.aY (fun a=>by simp)).string
  obtain rfl:=(hy.aY (fun a=>by simp)).string;exact Ij h
 ·rename_i a b
  obtain rfl:=(hx.aY (fun a=>by simp)).bool;obtain rfl:=(hy.aY (fun a=>by simp)).bool;split at h
  ·rename_i hu
   simp only[oi]at h;subst h;have he:(Op.equal t (.bool a) (.bool b)).run P w=.ok (a == b) w:=run_equalIn_bool w 9999 t a b hu;have e1:eqGuard .eql t X Y (.bool a) (.bool b)=pure ():=rfl;have e2:binOp .eql t (.bool a) (.bool b)=(do pure (.bool (<-Op.equal t (.bool a) (.bool b)))):=rfl;exact⟨by rw[e1,e2];simp[he],rfl⟩
  ·rename_i hu
   simp only[oi]at h;subst h;have he:(Op.equal t (.bool a) (.bool b)).run P w=.ok (a == b) w:=run_equalIn_bool w 9999 t a b hu;have e1:eqGuard .neq t X Y (.bool a) (.bool b)=pure ():=rfl;have e2:binOp .neq t (.bool a) (.bool b)=(do pure (.bool (!(<-Op.equal t (.bool a) (.bool b))))):=rfl;exact⟨by rw[e1,e2];simp[he],rfl⟩
  ·cases h
 ·exact CD h hx hy
