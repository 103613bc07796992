import Derived.Test.YtdpbiegfljmhmaaSimD
set_option linter.unusedSimpArgs false
set_option linter.unusedVariables false
namespace Go.cY
def E{α:Type}:List (Nat×α)->cW α
 | []=>.leaf
 |(t,v) :: l=>(E l).set t v
def lk{α:Type}:List (Nat×α)->Nat->Option α
 | [],_=>none
 |(a,v) :: l,t=>bif Nat.beq a t then some v else lk l t
def qy{α:Type}(l:List (Nat×α)):List Nat->List (Nat×α)
 | []=>[]
 |t :: r=>
  match lk l t with
  |some v=>(t,v) :: qy l r
  |none=>qy l r
structure SS where
 env:List (Nat×Value)
 kn:Nat
 K:List (Nat×List Value)
 h:af
structure Le(s:SS)(t:St):Prop where
 env:∀(i:Nat) (v:Value),lk s.env i=some v->t.env.get i=some v
 K:∀(i:Nat) (v:List Value),lk s.K i=some v->t.K.get i=some v
 kn:t.kn=s.kn
 h:t.h=s.h
structure Live where
 loop:FuncId->Nat->Option (List Tmp)
 dh:FuncId->Nat->Option (List Tmp)
 PT:FuncId->Nat->Option (List Tmp)
def fork(b:Bool)(x y:Unit->Prop):Prop:=
 match b with
 |true=>x ()
 |false=>y ()
def fZ(s:SS):Option (List Tmp)->SS
 |none=>s
 |some l=>{ s with env:=qy s.env l }
inductive Sv where
 |int (k:IntKind)
 |bool
 |str
 |slice
 |ptr
 |any
def Ea:Option TypeDesc->Sv
 |some (.int k)=>.int k
 |some .bool=>.bool
 |some .string=>.str
 |some (.slice _)=>.slice
 |some (.pointer _)=>.ptr
 |_=>.any
def fR(P:Unit->Program):Nat->TypeId->List Sv
 |0,_=>[]
 |d+1,t=>
  match (P ()).underlying t with
  |some (.struct fs)=>fs.toList.flatMap fun f=>fR P d f.type
  |some (.array n e)=>(List.replicate n (fR P d e)).flatten
  |x=>[Ea x]
def WD:Sv->(Value->Prop)->Prop
 | .int k,C=>∃n:Int,C (.int k n)
 | .bool,C=>∃b:Bool,C (.bool b)
 | .str,C=>∃s:ByteArray,C (.string s)
 | .slice,C=>∃(a:Option Addr) (n c:Nat),C (.slice a n c)
 | .ptr,C=>∃b o:Nat,C (.pointer (some ⟨b,o,none⟩))
 | .any,C=>∃v:Value,C v
def WE:List Sv->(List Value->Prop)->Prop
 | [],C=>C []
 |s :: r,C=>WD s fun v=>WE r fun l=>C (v :: l)
def RV(P:Unit->Program)(t:TypeId)(C:Value->Prop):Prop:=
 match iQ (P ()) t with
 |some true=>WE (fR P 12 t) fun l=>C (.agg l.toArray)
 |_=>WD (Ea ((P ()).underlying t)) C
def Mn(P:Unit->Program):List TypeId->(List Value->Prop)->Prop
 | [],C=>C []
 |t :: r,C=>RV P t fun v=>Mn P r fun l=>C (v :: l)
def seen(P:Unit->Program)(t:TypeId)(v:Value)(C:Value->Prop):Prop:=
 match (P ()).underlying t with
 |some (.tuple ts)=>Mn P ts.toList fun l=>v=.tuple l.toArray/\C (.tuple l.toArray)
 |_=>RV P t fun u=>v=u/\C u
structure WC(P:Program)(H:Hint)(F:bk)(g:FuncId)(args:List Value)(h:af)(Q:Value->af->Prop):Prop where
 ex:∃v h',Pe P H F g args h v h'/\Q v h'
def Head(P:Program)(H:Hint)(F:bk)(f:FuncId)(nt:Nat)(b:Code)(kn:Nat)(s:St)(x:Exit)(s':St):Prop:=
 ∃n,(match (cH P H F n).run f nt b s with
  |some (.normal,s1)=>(cH P H F n).loop f nt b kn s1
  |r=>r)=some (x,s')
structure WH(P:Program)(H:Hint)(F:bk)(f:FuncId)(nt:Nat)(b:Code)(kn:Nat)(s:SS)(Q:Exit->SS->Prop):Prop where
 ex:∀t,Le s t->t.h.low<=t.h.next->∃x t' s',Head P H F f nt b kn t x t'/\Le s' t'/\Q x s'
def bG:Code->List Code
 | .seq a b=>bG a++bG b
 | .cond _ a b=>bG a++bG b
 | .block _ b=>bG b
 | .loop b=>b :: bG b
 | .rangeFunc _ _ a b=>bG a++bG b
 |_=>[]
def bH:Code->List (Operand×Array Tmp×Code×Code)
 | .seq a b=>bH a++bH b
 | .cond _ a b=>bH a++bH b
 | .block _ b=>bH b
 | .loop b=>bH b
 | .rangeFunc x ps a b=>[(x,ps,a,b)]
 |_=>[]
structure WR(P:Program)(H:Hint)(F:bk)(f:FuncId)(nt:Nat)(x:Operand)(ps:Array Tmp)(as bo:Code)(s:SS)(Q:Exit->SS->Prop):Prop where
 ex:∀t,Le s t->t.h.low<=t.h.next->∃e t' s',qx P H F f nt (.rangeFunc x ps as bo) t e t'/\Le s' t'/\Q e s'
structure bI where
 call:FuncId->List Value->af->(Value->af->Prop)->Prop
 head:FuncId->Nat->Nat->SS->(Exit->SS->Prop)->Prop
 arith:BinOp->IntKind->Int->Int->Int
 cmp:BinOp->Int->Int->Bool
 GI:BinOp->ByteArray->ByteArray->Bool
 gM:Bool->Bool
 mK:Bool->Bool->Bool
 conv:IntKind->Int->Int
 neg:IntKind->Int->Int
 imax:Int->Int->Int
 B8:Int->Int->Int
 ofNat:Nat->Int
 Tu:ByteArray->Int
 place:Nat->Int->Nat->Nat
 Pf:Int->Nat->Prop
 nz:Int->Prop
 Tv:Int->Prop
 rd:af->Nat->Nat->Nat->List Value->Prop
 wr:af->Nat->Nat->List Value->af->Prop
 push:af->Nat->List Value->af
 next:af->Nat
 Eb:Int->Int->Prop
 nat:Int->Nat
 kM:List Value->Int->List Value
 WG:ByteArray->ByteArray->(ByteArray->Prop)->Prop
 A9:TypeId->Array Value->Array Value->(Bool->Prop)->Prop
 cut:Nat->Int->Prop
 Ec:TypeId->Value->Option Value->Option Value->Option Value->(Option Addr->Nat->Nat->Prop)->Prop
 WI:TypeId->ByteArray->Option Value->Option Value->(ByteArray->Prop)->Prop
 tJ:ByteArray->Int->(Int->Prop)->Prop
 part:TypeId->Array Value->Nat->Value->Prop
 app:List TypeId->List Value->af->(Option Addr->Nat->Nat->af->Prop)->Prop
 WJ:List TypeId->List Value->af->(Int->af->Prop)->Prop
 putAt:af->Nat->Nat->List Value->af
 fresh:af->af
 aw:af->af->af
 aG:af->Nat->af
 wrote:af->af->Bool
 bT:Nat->Nat->Nat
 lt:Nat->Nat->Prop
 ne:Nat->Nat->Prop
 ph:Bool->Bool->Bool->Nat->Nat->Prop
 pt:Bool->Bool->Bool->Nat->Nat->Nat->Prop
 va:(Unit->Prop)->Prop
 yn:Nat->Nat
 yO:FuncId->Nat->SS->(Exit->SS->Prop)->Prop
 WK:TypeId->Value->Value->af->Value->Bool->Prop
 Tw:TypeId->Value->Value->Value->af->af->Prop
 WL:af->af
 bytes:TypeId->TypeId->Option Addr->Nat->af->ByteArray->Prop
 clr:List TypeId->List Value->af->af->Prop
def af.putAt(h:af)(id es:Nat)(cs:List Value):af:={ h with m:=h.m.set id (.live true es cs) }
def af.cP(h:af):af:={ h with low:=h.next }
def af.aw(h:af)(low:Nat):af:={ h with low:=Nat.min low h.low }
def af.aG(h:af)(n:Nat):af:={ h with next:=h.next+n }
def Tx(op:BinOp)(k:IntKind)(a b:Int):Int:=
 match op with
 | .add=>k.wrap (a+b)
 | .sub=>k.wrap (a-b)
 | .mul=>k.wrap (a*b)
 | .quo=>k.wrap (a.tdiv b)
 | .rem=>a.tmod b
 | .and=>k.wrap (BitVec.ofInt k.bits a &&& BitVec.ofInt k.bits b).toNat
 | .or=>k.wrap (BitVec.ofInt k.bits a ||| BitVec.ofInt k.bits b).toNat
 | .xor=>k.wrap (BitVec.ofInt k.bits a ^^^ BitVec.ofInt k.bits b).toNat
 | .andNot=>k.wrap (BitVec.ofInt k.bits a &&& ~~~ BitVec.ofInt k.bits b).toNat
 | .shl=>k.wrap (a*2 ^ (min b.toNat k.bits))
 | .shr=>a.fdiv (2 ^ (min b.toNat k.bits))
 |_=>0
def aan(op:BinOp)(a b:Int):Bool:=
 match op with
 | .eql=>a == b
 | .neq=>a != b
 | .lss=>decide (a<b)
 | .leq=>decide (a<=b)
 | .gtr=>decide (a>b)
 | .geq=>decide (a≥b)
 |_=>false
def aao(op:BinOp)(x y:ByteArray):Bool:=
 match op with
 | .eql=>x.toList == y.toList
 | .neq=>!(x.toList == y.toList)
 | .lss=>Op.bytesLess x.toList y.toList
 | .leq=>Op.bytesLess x.toList y.toList || x.toList == y.toList
 | .gtr=>!(Op.bytesLess x.toList y.toList || x.toList == y.toList)
 | .geq=>!(Op.bytesLess x.toList y.toList)
 |_=>false
def bz(P:Program)(H:Hint)(F:bk):bI where
 call:=WC P H F
 head:=fun f key kn s Q=>∀fn c b,P.funcs[f]?=some fn->fn.body=some c->b∈bG c->keyOf b=key->WH P H F f fn.ntmps b kn s Q
 arith:=Tx
 cmp:=aan
 GI:=aao
 gM:=fun b=>!b
 mK:=fun a b=>a == b
 conv:=fun k n=>k.wrap n
 neg:=fun k n=>k.wrap (0-n)
 imax:=fun x y=>if y>x then y else x
 B8:=fun x y=>if y<x then y else x
 ofNat:=fun n=>n
 Tu:=fun s=>s.size
 place:=fun o i n=>o+i.toNat*n
 Pf:=fun i n=>0<=i/\i<n
 nz:=fun b=>b≠0
 Tv:=fun b=>0<=b
 rd:=fun h b o n l=>h.aM ⟨b,o,none⟩ n=some l
 wr:=fun h b o vs h'=>h.write b o vs=some h'
 push:=fun h es cs=>h.push es cs
 next:=fun h=>h.next
 Eb:=fun l c=>0<=l/\l<=c/\c<=1073741824
 nat:=fun i=>i.toNat
 kM:=fun z c=>bF z c.toNat
 WG:=fun a b C=>a.size+b.size<=1073741824/\C (a++b)
 A9:=fun t a b C=>P.eqGuardType P.depth t=false/\∃r,pI P 30 t (.agg a) (.agg b)=some r/\C r
 cut:=fun c j=>0<=j/\j<=cL c
 Ec:=fun t x lo hi mx C=>∃a' n' c',gQ P t x lo hi mx=some (.slice a' n' c')/\C a' n' c'
 WI:=fun t x lo hi C=>∃r,gQ P t (.string x) lo hi none=some (.string r)/\C r
 tJ:=fun s i C=>0<=i/\∃b:UInt8,s[i.toNat]?=some b/\C b.toNat
 part:=fun t cs o v=>kL P t cs o=some v
 app:=fun ts l h C=>∃a n c h',cF P h ts l=some (.slice a n c,h')/\C a n c h'
 WJ:=fun ts l h C=>∃n h',te P h ts l=some (.int .i64 n,h')/\C n h'
 putAt:=af.putAt
 fresh:=af.cP
 aw:=fun h h'=>h'.aw h.low
 aG:=af.aG
 wrote:=fun h h'=>Nat.blt h'.low h.next
 bT:=fun a b=>a+b
 lt:=fun a b=>a<b
 ne:=fun a b=>a≠b
 ph:=fun wx wy l b dI=>wx=false/\wy=false/\(l=true\/b<dI)
 pt:=fun wx wy l b dI c=>wx=false/\(wy=false\/b≠c)/\(l=true\/b<dI)
 va:=fun f=>f ()
 yn:=fun y=>aX+y
 yO:=fun f key s Q=>∀fn c x ps as bo,P.funcs[f]?=some fn->fn.body=some c->(x,ps,as,bo)∈bH c->keyOf as=key->WR P H F f fn.ntmps x ps as bo s Q
 WK:=fun t m k h v b=>kS P h t m k true=some (.tuple #[v,.bool b],h)
 Tw:=fun t m k v h h'=>kT P h t m k v=some (undef,h')
 WL:=fun h=>h.gW (.map [])
 bytes:=fun src dst a n h s=>o8 P h src dst a n=some (.string s)
 clr:=fun ts l h h'=>sE P h ts l=some (undef,h')
def ev(s:SS):Operand->Option Value
 | .tmp t=>lk s.env t
 | .const v=>bif flat v then some v else none
 | .global _=>none
 | .func f=>some (.func (.func f) #[] #[])
def Af(s:SS):List Operand->Option (List Value)
 | []=>some []
 |x :: r=>
  match ev s x with
  |some v=>
   match Af s r with
   |some l=>some (v :: l)
   |none=>none
  |none=>none
def qA(s:SS):Option Operand->Option (Option Value)
 |none=>some none
 |some x=>
  match ev s x with
  |some v=>some (some v)
  |none=>none
def j6(s:SS):List (Nat×Operand)->Option (List (Nat×Value))
 | []=>some []
 |(i,x) :: r=>
  match ev s x with
  |some v=>
   match j6 s r with
   |some l=>some ((i,v) :: l)
   |none=>none
  |none=>none
abbrev kF:=Bool->Nat->List Value->SS->(Value->SS->Prop)->Prop
def PU(A:bI):kF:=fun loc es cs s C=>
 fork loc (fun _=>C (.pointer (some ⟨s.kn,0,some 0⟩)) { s with kn:=s.kn+1,K:=(s.kn,cs) :: s.K })
  (fun _=>C (.pointer (some ⟨A.next s.h,0,none⟩)) { s with h:=A.push s.h es cs })
def vc(A:bI)(id tag:Nat):kF:=fun loc es cs s C=>
 fork loc (fun _=>C (.pointer (some ⟨tag,0,some 0⟩)) { s with K:=(tag,cs) :: s.K })
  (fun _=>C (.pointer (some ⟨id,0,none⟩)) { s with h:=A.putAt s.h id es cs })
def m7(A:bI)(s:SS)(a:Addr)(n:Nat)(views:List Sv)(C:List Value->Prop):Prop:=
 match a.spot with
 |none=>WE views fun l=>A.rd s.h a.block a.off n l/\C l
 |some _=>
  bif Nat.blt a.block s.kn then
   match lk s.K a.block with
   |some cs=>
    match ke cs a.off n with
    |some l=>C l
    |none=>False
   |none=>False
  else False
def qB(P:Unit->Program)(A:bI)(s:SS)(t:TypeId)(a:Addr)(C:Value->Prop):Prop:=
 match iQ (P ()) t with
 |some true=>
  match bY (P ()) t with
  |some n=>m7 A s a n (fR P 12 t) fun l=>C (.agg l.toArray)
  |none=>False
 |some false=>m7 A s a 1 [Ea ((P ()).underlying t)] fun l=>
  match l with
  | [v]=>C v
  |_=>False
 |none=>False
def wQ(A:bI)(s:SS)(a:Addr)(vs:List Value)(C:SS->Prop):Prop:=
 bif vs.all aE then
  match a.spot with
  |none=>∃h',A.wr s.h a.block a.off vs h'/\C { s with h:=h' }
  |some _=>
   bif Nat.blt a.block s.kn then
    match lk s.K a.block with
    |some cs=>
     match mS cs a.off vs with
     |some lr=>C { s with K:=(a.block,lr) :: s.K }
     |none=>False
    |none=>False
   else False
 else False
def wR(P:Unit->Program)(A:bI)(s:SS)(t:TypeId)(a:Addr)(v:Value)(C:SS->Prop):Prop:=
 match bY (P ()) t with
 |some n=>bif Nat.beq v.cells.toList.length n then wQ A s a v.cells.toList C else False
 |none=>False
def iC(k k':IntKind):Bool:=decide (k=k')
def Mo(A:bI)(op:BinOp)(k k':IntKind)(a b:Int)(C:Value->Prop):Prop:=
 match op with
 | .shl=>A.Tv b/\A.va fun _=>C (.int k (A.arith .shl k a b))
 | .shr=>A.Tv b/\A.va fun _=>C (.int k (A.arith .shr k a b))
 | .quo=>bif iC k k' then(A.nz b/\A.va fun _=>C (.int k (A.arith .quo k a b)))else False
 | .rem=>bif iC k k' then(A.nz b/\A.va fun _=>C (.int k (A.arith .rem k a b)))else False
 | .add=>bif iC k k' then C (.int k (A.arith .add k a b))else False
 | .sub=>bif iC k k' then C (.int k (A.arith .sub k a b))else False
 | .mul=>bif iC k k' then C (.int k (A.arith .mul k a b))else False
 | .and=>bif iC k k' then C (.int k (A.arith .and k a b))else False
 | .or=>bif iC k k' then C (.int k (A.arith .or k a b))else False
 | .xor=>bif iC k k' then C (.int k (A.arith .xor k a b))else False
 | .andNot=>bif iC k k' then C (.int k (A.arith .andNot k a b))else False
 | .eql=>bif iC k k' then C (.bool (A.cmp .eql a b))else False
 | .neq=>bif iC k k' then C (.bool (A.cmp .neq a b))else False
 | .lss=>bif iC k k' then C (.bool (A.cmp .lss a b))else False
 | .leq=>bif iC k k' then C (.bool (A.cmp .leq a b))else False
 | .gtr=>bif iC k k' then C (.bool (A.cmp .gtr a b))else False
 | .geq=>bif iC k k' then C (.bool (A.cmp .geq a b))else False
def Mp(A:bI)(op:BinOp)(a b:ByteArray)(C:Value->Prop):Prop:=
 match op with
 | .add=>A.WG a b fun c=>C (.string c)
 | .eql=>C (.bool (A.GI .eql a b))
 | .neq=>C (.bool (A.GI .neq a b))
 | .lss=>C (.bool (A.GI .lss a b))
 | .leq=>C (.bool (A.GI .leq a b))
 | .gtr=>C (.bool (A.GI .gtr a b))
 | .geq=>C (.bool (A.GI .geq a b))
 |_=>False
def Mq(P:Unit->Program)(A:bI)(op:BinOp)(t:TypeId)(x y:Value)(C:Value->Prop):Prop:=
 match x,y with
 | .int k a,.int k' b=>Mo A op k k' a b C
 | .string a,.string b=>Mp A op a b C
 | .bool a,.bool b=>
  match op,(P ()).underlying t with
  | .eql,some .bool=>C (.bool (A.mK a b))
  | .neq,some .bool=>C (.bool (A.gM (A.mK a b)))
  |_,_=>False
 | .agg a,.agg b=>
  match op with
  | .eql=>A.A9 t a b fun r=>C (.bool r)
  | .neq=>A.A9 t a b fun r=>C (.bool (A.gM r))
  |_=>False
 |x,y=>
  match xJ (P ()) op t x y with
  |some v=>C v
  |none=>False
def Ty(A:bI)(op:UnOp)(x:Value)(C:Value->Prop):Prop:=
 match op,x with
 | .neg,.int k n=>C (.int k (A.neg k n))
 | .not,.bool b=>C (.bool (A.gM b))
 |op,x=>
  match VM op x with
  |some v=>C v
  |none=>False
def Cb(P:Unit->Program)(A:bI)(src dst:TypeId)(x:Value)(C:Value->Prop):Prop:=
 match (P ()).underlying src,(P ()).underlying dst,x with
 |some _,some (.int k),.int _ n=>C (.int k (A.conv k n))
 |some _,some .string,.string s=>C (.string s)
 |_,_,_=>False
def yP(P:Unit->Program)(A:bI)(t:TypeId)(x:Value)(C:Value->Prop):Prop:=
 match (P ()).underlying t,x with
 |some .string,.string s=>C (.int .i64 (A.Tu s))
 |some (.array n _),_=>C (.int .i64 (A.ofNat n))
 |some (.slice _),.slice _ n _=>C (.int .i64 (A.ofNat n))
 |some (.pointer e),_=>
  match (P ()).underlying e with
  |some (.array n _)=>C (.int .i64 (A.ofNat n))
  |_=>False
 |_,_=>False
def oF(f:Int->Int->Int):Value->List Value->(Value->Prop)->Prop
 |x,[],C=>C x
 | .int k x,.int _ y :: r,C=>oF f (.int k (f x y)) r C
 |_,_,_=>False
def wS(P:Unit->Program)(A:bI)(t:TypeId)(x:Value)(lo hi mx:Option Value)(C:Value->Prop):Prop:=
 match (P ()).underlying t,x with
 |some .string,.string s=>
  match mx with
  |none=>A.WI t s lo hi fun r=>C (.string r)
  |some _=>False
 |some (.slice e),.slice a n c=>
  match lo,hi,mx with
  |none,some (.int _ j),none=>bif (bY (P ()) e).isSome then(A.cut c j/\A.va fun _=>C (.slice a (A.nat j) c))else False
  |lo,hi,mx=>A.Ec t (.slice a n c) lo hi mx fun a' n' c'=>C (.slice a' n' c')
 |some (.array _ _),.pointer (some a)=>A.Ec t (.pointer (some a)) lo hi mx fun a' n' c'=>C (.slice a' n' c')
 |_,_=>False
def kp(P:Unit->Program)(A:bI)(t:TypeId)(x ix:Value)(C:Value->Prop):Prop:=
 match (P ()).underlying t,x,ix with
 |some (.array len e),.pointer (some a),.int _ i=>
  match bY (P ()) e with
  |some n=>A.Pf i len/\A.va fun _=>C (.pointer (some ⟨a.block,A.place a.off i n,a.spot⟩))
  |none=>False
 |some (.slice e),.slice a len _,.int _ i=>
  match bY (P ()) e with
  |some n=>∃b o,a=some ⟨b,o,none⟩/\A.Pf i len/\C (.pointer (some ⟨b,A.place o i n,none⟩))
  |none=>False
 |_,_,_=>False
def mL(P:Unit->Program)(A:bI)(t:TypeId)(x:Value)(f:Nat)(C:Value->Prop):Prop:=
 match (P ()).underlying t,x with
 |some (.struct fs),.pointer (some a)=>
  match fs.toList[f]? with
  |some fd=>
   match bY (P ()) fd.type with
   |some n=>bif Nat.beq n 0 then False else
    match a.spot with
    |none=>C (.pointer (some ⟨a.block,A.bT a.off fd.offset,none⟩))
    |some x=>C (.pointer (some ⟨a.block,a.off+fd.offset,some x⟩))
   |none=>False
  |none=>False
 |_,_=>False
def Cc(P:Unit->Program)(A:bI)(t:TypeId)(x ix:Value)(C:Value->Prop):Prop:=
 match (P ()).underlying t,x,ix with
 |some (.array len e),.agg cs,.int _ i=>
  match bY (P ()) e with
  |some n=>A.Pf i len/\RV P e fun v=>A.part e cs (A.place 0 i n) v/\C v
  |none=>False
 |some .string,.string s,.int _ i=>A.tJ s i fun b=>C (.int .u8 b)
 |_,_,_=>False
def mM(P:Unit->Program)(A:bI)(mk:kF)(t:TypeId)(l c:Value)(s:SS)(C:Value->SS->Prop):Prop:=
 match (P ()).underlying t,l,c with
 |some (.slice e),.int _ l,.int _ c=>
  match bY (P ()) e,iw (P ()) e,pN (P ()) e with
  |some n,some z,some by_=>
   bif Nat.ble by_ 16384 && Nat.beq z.cells.toList.length n && z.cells.toList.all aE then
    A.Eb l c/\A.va fun _=>mk false n (A.kM z.cells.toList c) s fun v s'=>
     match v with
     | .pointer (some a)=>C (.slice (some a) (A.nat l) (A.nat c)) s'
     |_=>False
   else False
  |_,_,_=>False
 |_,_,_=>False
def kY(P:Unit->Program)(mk:kF)(t:TypeId)(len:Nat)(parts:List (Nat×Value))(s:SS)(C:Value->SS->Prop):Prop:=
 match (P ()).underlying t with
 |some (.slice e)=>
  match bY (P ()) e,iw (P ()) e with
  |some n,some z=>
   bif Nat.ble (len*n) 16777216 && Nat.beq z.cells.toList.length n && Nat.ble len 16777216 then
    match iG (fun i=>some (i*n,n)) (bF z.cells.toList len) parts with
    |some cs=>
     bif cs.all aE then
      mk false n cs s fun v s'=>
       match v with
       | .pointer (some a)=>C (.slice (some a) len len) s'
       |_=>False
     else False
    |none=>False
   else False
  |_,_=>False
 |_=>False
def wpOp(P:Unit->Program)(A:bI)(mk:kF)(loc:Bool)(o:Op)(s:SS)(C:Value->SS->Prop):Prop:=
 match o with
 | .move x=>match ev s x with|some v=>C v s|none=>False
 | .assign x=>match ev s x with|some v=>C v s|none=>False
 | .pick c a b=>
  match ev s c with
  |some (.bool t)=>fork t (fun _=>match ev s a with|some v=>C v s|none=>False) (fun _=>match ev s b with|some v=>C v s|none=>False)
  |_=>False
 | .alloc e=>
  match iw (P ()) e,bY (P ()) e with
  |some z,some n=>bif z.cells.toList.all aE then mk loc n z.cells.toList s C else False
  |_,_=>False
 | .box e x=>
  match ev s x,bY (P ()) e with
  |some v,some n=>bif v.cells.toList.all aE then mk loc n v.cells.toList s C else False
  |_,_=>False
 | .build t parts=>
  match j6 s parts.toList with
  |some l=>match uP (P ()) t l with|some v=>C v s|none=>False
  |none=>False
 | .buildSlice t len parts=>
  match j6 s parts.toList with
  |some l=>kY P mk t len l s C
  |none=>False
 | .load t x=>
  match ev s x with
  |some (.pointer (some a))=>qB P A s t a fun v=>C v s
  |_=>False
 | .store t x y=>
  match ev s x,ev s y with
  |some (.pointer (some a)),some v=>wR P A s t a v fun s'=>C undef s'
  |_,_=>False
 | .nilCheck x=>
  match ev s x with
  |some (.pointer (some a))=>C (.pointer (some a)) s
  |some (.func (.func f) first captured)=>C (.func (.func f) first captured) s
  |_=>False
 | .binOp op t x y _=>
  match ev s x,ev s y with
  |some a,some b=>Mq P A op t a b fun v=>C v s
  |_,_=>False
 | .unOp op _ x=>
  match ev s x with
  |some a=>Ty A op a fun v=>C v s
  |none=>False
 | .convert src dst x=>
  match ev s x with
  |some (.slice a n _)=>
   match (P ()).underlying dst with
   |some .string=>∃b,A.bytes src dst a n s.h b/\A.va fun _=>C (.string b) s
   |_=>False
  |some a=>Cb P A src dst a fun v=>C v s
  |none=>False
 | .makeFunc fn first captured=>
  match fn,Af s first.toList,Af s captured.toList with
  | .func f,some l,some r=>bif l.all dD && r.all dD then C (.func (.func f) l.toArray r.toArray) s else False
  |_,_,_=>False
 | .makeSlice t l c=>
  match ev s l,ev s c with
  |some a,some b=>mM P A mk t a b s C
  |_,_=>False
 | .slice t x lo hi mx=>
  match ev s x,qA s lo,qA s hi,qA s mx with
  |some v,some a,some b,some c=>wS P A t v a b c fun r=>C r s
  |_,_,_,_=>False
 | .fieldAddr t x f=>
  match ev s x with
  |some v=>mL P A t v f fun r=>C r s
  |none=>False
 | .field t x f=>
  match ev s x with
  |some v=>match uQ (P ()) t v f with|some r=>C r s|none=>False
  |none=>False
 | .indexAddr t x i=>
  match ev s x,ev s i with
  |some v,some j=>kp P A t v j fun r=>C r s
  |_,_=>False
 | .index t x i=>
  match ev s x,ev s i with
  |some v,some j=>Cc P A t v j fun r=>C r s
  |_,_=>False
 | .extract x i=>
  match ev s x with
  |some (.tuple vs)=>match vs.toList[i]? with|some v=>C v s|none=>False
  |_=>False
 | .call { callee:=.builtin b,args,argTypes }=>
  match Af s args.toList with
  |some l=>
   match b,l with
   | .len,[x]=>match argTypes.toList with | [t]=>yP P A t x fun v=>C v s|_=>False
   | .cap,[.slice _ _ c]=>match argTypes.toList with | [t]=>(match (P ()).underlying t with|some (.slice _)=>A.lt c aP/\A.va fun _=>C (.int .i64 (A.ofNat c)) s|_=>False)|_=>False
   | .max,x :: r=>oF A.imax x r fun v=>C v s
   | .min,x :: r=>oF A.B8 x r fun v=>C v s
   | .append,l=>A.app argTypes.toList l s.h fun a n c h'=>C (.slice a n c) { s with h:=h' }
   | .copy,l=>A.WJ argTypes.toList l s.h fun n h'=>C (.int .i64 n) { s with h:=h' }
   | .clear,l=>∃h',A.clr argTypes.toList l s.h h'/\A.va fun _=>C undef { s with h:=h' }
   |_,_=>False
  |none=>False
 | .makeMap _ none=>C (.map (some (A.next s.h))) { s with h:=A.WL s.h }
 | .lookup t x i ok=>
  match (P ()).underlying t,ev s x,ev s i with
  |some (.map _ e),some a,some b=>RV P e fun v=>∃r,A.WK t a b s.h v r/\A.va fun _=>C (found ok v r) s
  |_,_,_=>False
 | .mapUpdate t m k x=>
  match ev s m,ev s k,ev s x with
  |some a,some b,some c=>∃h',A.Tw t a b c s.h h'/\A.va fun _=>C undef { s with h:=h' }
  |_,_,_=>False
 | .insert t m k x=>
  match ev s m,ev s k,ev s x with
  |some a,some b,some c=>∃h',A.Tw t a b c s.h h'/\A.va fun _=>C undef { s with h:=h' }
  |_,_,_=>False
 |_=>False
def j7(yn:Nat->Nat)(s:SS)(c:Call):Option (FuncId×List Value):=
 match c.callee with
 | .value x=>
  match ev s x,Af s c.args.toList with
  |some (.func (.func f) first captured),some l=>bif l.all dD && Nat.blt f aX then some (f,first.toList++l++captured.toList)else none
  |some (.func (.yield y) _ _),some l=>bif l.all dD then some (yn y,l)else none
  |_,_=>none
 |_=>none
def Aw(nt:Nat)(s:SS)(dst:Option Tmp)(v:Value)(C:SS->Prop):Prop:=
 match dst with
 |none=>C s
 |some d=>bif Nat.blt d nt then C { s with env:=(d,v) :: s.env } else False
def rE(P:Unit->Program)(dst:Option Tmp)(t:TypeId)(v:Value)(C:Value->Prop):Prop:=
 match dst with
 |none=>C v
 |some _=>seen P t v C
def Ii(P:Unit->Program)(H:Hint)(A:bI)(f:FuncId)(o:Oper)(s:SS)(C:Value->SS->Prop):Prop:=
 match eQ o.op with
 |some c=>
  match j7 A.yn s c with
  |some (g,args)=>A.call g args s.h fun v h'=>rE P o.dst o.type v fun v=>C v { s with h:=h' }
  |none=>False
 |none=>wpOp P A (PU A) (fz H f o) o.op s C
def oG(ops:Array Oper)(o:Oper)(s:SS)(go skip:SS->Prop):Prop:=
 match o.guard with
 |none=>go s
 |some (j,want)=>
  match (ops[j]?).bind (·.dst)with
  |some d=>
   match lk s.env d with
   |some (.bool b)=>
    match want with
    |true=>fork b (fun _=>go { s with env:=(d,.bool true) :: s.env }) (fun _=>skip { s with env:=(d,.bool false) :: s.env })
    |false=>fork b (fun _=>skip { s with env:=(d,.bool true) :: s.env }) (fun _=>go { s with env:=(d,.bool false) :: s.env })
   |some (.tuple vs)=>bif vs.toList.isEmpty then skip s else False
   |_=>False
  |none=>False
def wpOps(P:Unit->Program)(H:Hint)(A:bI)(f:FuncId)(nt:Nat)(ops:Array Oper):List Oper->SS->(SS->Prop)->Prop
 | [],s,Q=>Q s
 |o :: rest,s,Q=>
  oG ops o s
   (fun s=>Ii P H A f o s fun v s'=>Aw nt s' o.dst v fun rh=>wpOps P H A f nt ops rest rh Q)
   (fun s=>Aw nt s o.dst undef fun s'=>wpOps P H A f nt ops rest s' Q)
def RW(s:SS):List Operand->Option Value
 |x :: _=>ev s x
 | []=>none
def RY(o:Op)(loc:Bool)(id tag:Nat)(s:SS):FP:=
 bif bN o then .none else
 match o with
 | .alloc _ | .box _ _=>bif loc then .new true tag else .new false id
 | .buildSlice _ _ _ | .makeSlice _ _ _=>.new false id
 | .load _ x | .store _ x _=>
  match ev s x with
  |some (.pointer (some a))=>.block a.spot.isSome a.block
  |_=>.all
 | .convert _ _ x=>
  match ev s x with
  |some (.slice (some a) _ _)=>bif a.spot.isNone then .block false a.block else .none
  |_=>.none
 | .call { callee:=.builtin .append,args,argTypes }=>.app (AS (RW s args.toList))
 |_=>.all
def small:Op->Bool
 | .load .. | .store .. | .alloc _ | .box .. | .buildSlice .. | .makeSlice .. | .convert ..=>true
 |o=>bN o
def yQ(A:bI)(dI:Nat)(x:FP)(wx:Bool)(y:FP)(wy:Bool)(C:Prop):Prop:=
 match x with
 | .none=>C
 | .all=>match y with | .none=>C|_=>False
 | .app _=>match y with | .none=>C|_=>False
 | .block l b=>
  match y with
  | .none=>C
  | .all=>cond l C (A.ph wx wy l b dI/\C)
  | .app c=>cond l C (A.pt wx wy l b dI c/\C)
  | .block l' b'=>cond (wx || wy) (cond (l == l') (A.ne b b'/\C) C) C
  | .new l' b'=>cond (l == l') (A.ne b b'/\C) C
 | .new l b=>
  match y with
  | .none=>C
  | .all=>wy=false/\C
  | .app c=>A.pt false wy l b dI c/\C
  | .block l' b'=>cond (l == l') (A.ne b b'/\C) C
  | .new l' b'=>cond (l == l') (A.ne b b'/\C) C
def jy(A:bI)(ops:Array Oper)(dI:Nat)(p:Nat)(x:FP)(wx:Bool):List (Nat×FP×Bool)->Prop->Prop
 | [],C=>C
 |(q,y,wy) :: r,C=>bif prec (Region.before ops) p q then jy A ops dI p x wx r C else yQ A dI x wx y wy (jy A ops dI p x wx r C)
def rF(A:bI)(ops:Array Oper)(dI:Nat):List (Nat×FP×Bool)->Prop->Prop
 | [],C=>C
 |(p,x,wx) :: r,C=>jy A ops dI p x wx r (rF A ops dI r C)
def kG(P:Unit->Program)(H:Hint)(A:bI)(f:FuncId)(nt:Nat)(ops:Array Oper)(base aQ:Nat):List Nat->Nat->SS->(SS->List (Nat×FP×Bool)->Prop)->Prop
 | [],_,s,Q=>Q s []
 |p :: rest,i,s,Q=>
  match ops[p]? with
  |none=>False
  |some o=>
   oG ops o s
    (fun s=>
     match eQ o.op with
     |some c=>
      match j7 A.yn s c with
      |some (g,args)=>A.call g args (A.fresh s.h) fun v h'=>rE P o.dst o.type v fun v=>
        Aw nt { s with h:=A.aw s.h h' } o.dst v fun rh=>kG P H A f nt ops base aQ rest (i+1) rh fun r iA=>Q r ((p,.all,A.wrote s.h h') :: iA)
      |none=>False
     |none=>
      bif small o.op then
       wpOp P A (vc A (A.bT base i) (aQ+i)) (fz H f o) o.op s fun v s'=>
        Aw nt s' o.dst v fun rh=>kG P H A f nt ops base aQ rest (i+1) rh fun r iA=>Q r ((p,RY o.op (fz H f o) (A.bT base i) (aQ+i) s,iO o.op) :: iA)
      else
       wpOp P A (vc A (A.bT base i) (aQ+i)) (fz H f o) o.op { s with h:=A.fresh s.h } fun v s'=>
        Aw nt { s' with h:=A.aw s.h s'.h } o.dst v fun rh=>kG P H A f nt ops base aQ rest (i+1) rh fun r iA=>Q r ((p,RY o.op (fz H f o) (A.bT base i) (aQ+i) s,A.wrote s.h s'.h) :: iA))
    (fun s=>Aw nt s o.dst undef fun s'=>kG P H A f nt ops base aQ rest (i+1) s' fun r iA=>Q r ((p,.none,false) :: iA))
def Cd(P:Unit->Program)(H:Hint)(A:bI)(f:FuncId)(nt:Nat)(ops:Array Oper)(s:SS)(Q:SS->Prop):Prop:=
 bif oe ops (gp ops)then
  kG P H A f nt ops (A.next s.h) s.kn (gp ops) 0 { s with kn:=s.kn+ops.size,h:=A.aG s.h ops.size } fun s' iA=>rF A ops (A.bT (A.next s.h) ops.size) iA (Q s')
 else False
def Ij(H:Hint)(f:FuncId)(c:Code)(kn:Nat)(s:SS):Option SS:=
 match H.bj f (keyOf c)with
 |none=>some s
 |some l=>
  bif Nat.ble kn s.kn && l.all (fun t=>match lk s.env t with|some v=>th kn v|none=>false)then some { s with env:=qy s.env l,kn:=kn,K:=qy s.K (List.range kn) } else none
def JV(next:SS->Prop)(Q:Exit->SS->Prop):Exit->SS->Prop
 | .normal,s=>next s
 |x,s=>Q x s
def GJ(id:Nat)(Q:Exit->SS->Prop):Exit->SS->Prop
 | .exit pQ,s=>fork (Nat.beq pQ id) (fun _=>Q .normal s) (fun _=>Q (.exit pQ) s)
 |x,s=>Q x s
def wpS(P:Unit->Program)(H:Hint)(A:bI)(V:Live)(f:FuncId)(nt:Nat)(c:Code)(s:SS)(Q:Exit->SS->Prop):Prop:=
 match c with
 | .skip=>Q .normal s
 | .ret=>Q .ret s
 | .exit id=>Q (.exit id) (fZ s (V.dh f id))
 | .seq a b=>wpS P H A V f nt a s (JV (fun s'=>wpS P H A V f nt b s' Q) Q)
 | .cond x a b=>
  match ev s x with
  |some (.bool t)=>fork t (fun _=>wpS P H A V f nt a s Q) (fun _=>wpS P H A V f nt b s Q)
  |_=>False
 | .block id b=>wpS P H A V f nt b s (GJ id Q)
 | .loop b=>
  match Ij H f b s.kn s with
  |some s0=>A.head f (keyOf b) s.kn (fZ s0 (V.loop f (keyOf b))) Q
  |none=>False
 | .region id ops draw=>bif draw then Cd P H A f nt ops (fZ s (V.PT f id)) (Q .normal)else wpOps P H A f nt ops ops.toList (fZ s (V.PT f id)) (Q .normal)
 | .rangeFunc _ _ as _=>A.yO f (keyOf as) s Q
 |_=>False
def wT(P:Unit->Program)(H:Hint)(A:bI)(V:Live)(f:FuncId)(nt:Nat)(b:Code)(kn:Nat)(s:SS)(Q:Exit->SS->Prop):Prop:=
 wpS P H A V f nt b s (JV (fun s'=>
   match Ij H f b kn s' with
   |some s1=>A.head f (keyOf b) kn (fZ s1 (V.loop f (keyOf b))) Q
   |none=>False) Q)
def px(P:Unit->Program)(A:bI)(s:SS):List ResultVar->(List Value->Prop)->Prop
 | [],C=>C []
 | .tmp t :: r,C=>
  match lk s.env t with
  |some v=>px P A s r fun l=>C (v :: l)
  |none=>False
 | .cell a t :: r,C=>
  match lk s.env a with
  |some (.pointer (some x))=>qB P A s t x fun v=>px P A s r fun l=>C (v :: l)
  |_=>False
def sq:List Value->Nat->List (Nat×Value)->List (Nat×Value)
 | [],_,acc=>acc
 |v :: r,i,acc=>sq r (i+1) ((i,v) :: acc)
def Ce(P:Unit->Program)(H:Hint)(A:bI)(V:Live)(f:FuncId)(fn:Func)(key kn:Nat)(s:SS)(Q:Exit->SS->Prop):Prop:=
 match fn.body with
 |some c=>
  match (bG c).filter (fun b=>Nat.beq (keyOf b) key)with
  | [b]=>(∀r∈bH c,bE r.2.2.1=true/\bE r.2.2.2=true)/\wT P H A V f fn.ntmps b kn s Q
  |_=>False
 |none=>False
def Tz(P:Unit->Program)(A:bI)(rs:List ResultVar)(Q:Value->af->Prop):Exit->SS->Prop
 | .normal,s=>px P A s rs fun l=>bif l.all dD then Q (jr l) s.h else False
 | .ret,s=>px P A s rs fun l=>bif l.all dD then Q (jr l) s.h else False
 |_,_=>False
def Ed(P:Unit->Program)(H:Hint)(A:bI)(V:Live)(g:FuncId)(fn:Func)(args:List Value)(h:af)(Q:Value->af->Prop):Prop:=
 match fn.body with
 |some c=>wpS P H A V g fn.ntmps c ⟨sq args 0 [],0,[],h⟩ (Tz P A fn.results.toList Q)
 |none=>False
end Go.cY
namespace Go.cY
theorem beq_eq(a b:Nat):Nat.beq a b=decide (a=b):=by
 cases h:Nat.beq a b with
 |true=>simp[Nat.eq_of_beq_eq_true h]
 |false=>simp[Nat.ne_of_beq_eq_false h]
theorem kO{b:Bool}{A:Prop}(h:bif b then A else False):b=true/\A:=by
 cases b with
 |true=>exact⟨rfl,h⟩
 |false=>exact h.elim
theorem RZ{α:Type}(l:List (Nat×α))(t:Nat):(E l).get t=lk l t:=by
 induction l with
 |nil=>rfl
 |cons p l ih=>
  obtain⟨a,v⟩:=p;simp only[E,lk,cW.bP,beq_eq,ih];by_cases h:a=t<;>simp[h]
theorem kZ{α:Type}(a:Nat)(v:α)(l:List (Nat×α))(t:Nat):lk ((a,v) :: l) t=if a=t then some v else lk l t:=by
 simp only[lk,beq_eq];by_cases h:a=t<;>simp[h]
theorem qC{α:Type}(l:List (Nat×α)):∀(ks:List Nat) (t:Nat) (v:α),lk (qy l ks) t=some v->lk l t=some v
 | [],t,v,h=>by cases h
 |k :: ks,t,v,h=>by
  simp only[qy]at h;split at h
  ·rename_i u hu
   rw[kZ]at h;by_cases e:k=t
   ·subst e;simp at h;subst h;exact hu
   ·rw[if_neg e]at h;exact qC l ks t v h
  ·exact qC l ks t v h
theorem Le.fZ{s:SS}{t:St}(h:Le s t)(l:Option (List Tmp)):Le (fZ s l) t:=by
 unfold cY.fZ;split
 ·exact h
 ·exact⟨fun i v hv=>h.env i v (qC _ _ _ _ hv),h.K,h.kn,h.h⟩
theorem Mr{sv:Sv}{C:Value->Prop}(h:WD sv C):∃v,C v:=by
 cases sv<;>simp only[WD]at h
 ·obtain⟨n,h⟩:=h;exact⟨_,h⟩
 ·obtain⟨n,h⟩:=h;exact⟨_,h⟩
 ·obtain⟨n,h⟩:=h;exact⟨_,h⟩
 ·obtain⟨a,n,c,h⟩:=h;exact⟨_,h⟩
 ·obtain⟨a,n,h⟩:=h;exact⟨_,h⟩
 ·exact h
theorem GK:∀{l:List Sv} {C:List Value->Prop},WE l C->∃v,C v
 | [],C,h=>⟨[],h⟩
 |s :: r,C,h=>by
  obtain⟨v,h⟩:=Mr h;obtain⟨l,h⟩:=GK h;exact⟨_,h⟩
theorem Cf{P:Unit->Program}{t:TypeId}{C:Value->Prop}(h:RV P t C):∃v,C v:=by
 unfold RV at h;split at h
 ·obtain⟨l,h⟩:=GK h;exact⟨_,h⟩
 ·exact Mr h
theorem Ik{P:Unit->Program}:∀{l:List TypeId} {C:List Value->Prop},Mn P l C->∃v,C v
 | [],C,h=>⟨[],h⟩
 |s :: r,C,h=>by
  obtain⟨v,h⟩:=Cf h;obtain⟨l,h⟩:=Ik h;exact⟨_,h⟩
theorem PV{P:Unit->Program}{t:TypeId}{v:Value}{C:Value->Prop}(h:seen P t v C):C v:=by
 unfold seen at h;split at h
 ·obtain⟨l,e,h2⟩:=Ik h;rw[e];exact h2
 ·obtain⟨l,e,h2⟩:=Cf h;rw[e];exact h2
theorem yR{P:Unit->Program}{d:Option Tmp}{t:TypeId}{v:Value}{C:Value->Prop}(h:rE P d t v C):C v:=by
 unfold rE at h;split at h
 ·exact h
 ·exact PV h
theorem Le.ev{s:SS}{t:St}(h:Le s t){x:Operand}{v:Value}(hx:ev s x=some v):bK t x=some v:=by
 cases x with
 |tmp i=>exact h.env i v hx
 |const c=>exact hx
 |global g=>cases hx
 |func f=>exact hx
theorem Le.Af{s:SS}{t:St}(h:Le s t):∀{x:List Operand} {v:List Value},Af s x=some v->gX t x=some v
 | [],v,hx=>hx
 |x :: r,v,hx=>by
  simp only[cY.Af]at hx;split at hx
  ·rename_i u hu
   split at hx
   ·rename_i l hl
    simp only[gX,h.ev hu,h.Af hl];exact hx
   ·cases hx
  ·cases hx
structure GL(X:af->af):Prop where
 m:∀h,(X h).m=h.m
 next:∀h,(X h).next=h.next
 write:∀h b o vs h2,(X h).write b o vs=some h2->∃h1,h.write b o vs=some h1/\X h1=h2
 push:∀h es cs,X (h.push es cs)=(X h).push es cs
 putAt:∀h id es cs,X (h.putAt id es cs)=(X h).putAt id es cs
theorem GL.id:GL (fun h=>h):=⟨fun _=>rfl,fun _=>rfl,fun h b o vs h2 e=>⟨h2,e,rfl⟩,fun _ _ _=>rfl,fun _ _ _ _=>rfl⟩
theorem GL.aw(L:Nat):GL (fun h=>h.aw L):=by
 refine⟨fun _=>rfl,fun _=>rfl,fun h b o vs h2 e=>?_,fun _ _ _=>rfl,fun _ _ _ _=>rfl⟩;unfold af.write at e ⊢;simp only[af.aw]at e;split at e
 ·rename_i es cs hm
  split at e
  ·rename_i lr hs
   simp only[oi]at e;refine⟨_,rfl,?_⟩;subst e;simp[af.aw,Nat.min_assoc]
  ·cases e
 ·cases e
def lV(X:af->af)(t:St):St:={ t with h:=X t.h }
def Ms(X:af->af)(mk:kF)(m:lJ)(s:SS):Prop:=
 ∀loc es cs C,cs.all aE=true->mk loc es cs s C->∃v t' s',m loc es cs=some (v,t')/\Le s' (lV X t')/\C v s'
section
variable{X:af->af}{s:SS}{t:St}{P0:Program}{H0:Hint}{F0:bk}
theorem Ba(hX:GL X)(hs:Le s (lV X t)){a:Addr}{n:Nat}{views:List Sv}{C:List Value->Prop}(h:m7 (bz P0 H0 F0) s a n views C):∃l,t.read a n=some l/\C l:=by
 unfold m7 at h;split at h
 ·rename_i jM
  obtain⟨l,YZ,hC⟩:=GK h;have hr:s.h.aM ⟨a.block,a.off,none⟩ n=some l:=YZ;refine⟨l,?_,hC⟩;unfold af.aM at hr;simp only[]at hr;unfold St.read St.cells?;rw[jM];simp only[];have e:s.h.cells? a.block=t.h.cells? a.block:=by
   rw[<-hs.h];unfold af.cells?;rw[show(lV X t).h.m=t.h.m from hX.m _]
  rw[e]at hr;exact hr
 ·rename_i x jM
  cases hb:Nat.blt a.block s.kn with
  |false=>rw[hb]at h;exact absurd h (by simp)
  |true=>
   rw[hb]at h;simp only[cond_true]at h;split at h
   ·rename_i cs wL
    split at h
    ·rename_i l hl
     refine⟨l,?_,h⟩;unfold St.read St.cells?;rw[jM];simp only[];rw[show t.kn=s.kn from hs.kn,hb,show t.K.get a.block=some cs from hs.K _ _ wL];simp only[cond_true];exact hl
    ·exact h.elim
   ·exact h.elim
theorem Bb{P:Unit->Program}(hX:GL X)(hs:Le s (lV X t)){a:Addr}{ty:TypeId}{C:Value->Prop}(h:qB P (bz P0 H0 F0) s ty a C):∃v,tc (P ()) t ty a=some v/\C v:=by
 unfold qB at h;unfold tc;split at h
 ·rename_i F7
  split at h
  ·rename_i n hn
   obtain⟨l,hr,hC⟩:=Ba hX hs h;simp only[F7,hn,hr];exact⟨_,rfl,hC⟩
  ·exact h.elim
 ·rename_i F7
  obtain⟨l,hr,hC⟩:=Ba hX hs h;simp only[F7,hr];split at hC
  ·exact⟨_,rfl,hC⟩
  ·exact hC.elim
 ·exact h.elim
theorem GM(hX:GL X)(hs:Le s (lV X t)){a:Addr}{vs:List Value}{C:SS->Prop}(h:wQ (bz P0 H0 F0) s a vs C):∃t' s',t.write a vs=some t'/\Le s' (lV X t')/\C s':=by
 unfold wQ at h;unfold St.write;cases fD:vs.all aE with
 |false=>rw[fD]at h;exact absurd h (by simp)
 |true=>
  rw[fD]at h;simp only[cond_true]at h ⊢;split at h
  ·rename_i jM
   obtain⟨h',kH,hC⟩:=h;have hw:s.h.write a.block a.off vs=some h':=kH;rw[show s.h=X t.h from hs.h.symm]at hw;obtain⟨h1,py,rfl⟩:=hX.write _ _ _ _ _ hw;simp only[jM,py];exact⟨{ t with h:=h1 },{ s with h:=X h1 },rfl,⟨hs.env,hs.K,hs.kn,rfl⟩,hC⟩
  ·rename_i x jM
   cases hb:Nat.blt a.block s.kn with
   |false=>rw[hb]at h;exact absurd h (by simp)
   |true=>
    rw[hb]at h;simp only[cond_true]at h;split at h
    ·rename_i cs wL
     split at h
     ·rename_i lr pZ
      rw[show t.kn=s.kn from hs.kn,hb,show t.K.get a.block=some cs from hs.K _ _ wL];simp only[jM,cond_true,pZ];refine⟨_,{ s with K:=(a.block,lr) :: s.K },rfl,⟨hs.env,fun i v hv=>?_,rfl,hs.h⟩,h⟩;rw[kZ]at hv;show(t.K.set a.block lr).get i=some v;rw[cW.bP];by_cases e:a.block=i
      ·rw[if_pos e]at hv ⊢;exact hv
      ·rw[if_neg e]at hv ⊢;exact hs.K _ _ hv
     ·exact h.elim
    ·exact h.elim
theorem GN{P:Unit->Program}(hX:GL X)(hs:Le s (lV X t)){a:Addr}{ty:TypeId}{v:Value}{C:SS->Prop}(h:wR P (bz P0 H0 F0) s ty a v C):∃t' s',mT (P ()) t ty a v=some t'/\Le s' (lV X t')/\C s':=by
 unfold wR at h;unfold mT;split at h
 ·rename_i n hn
  rw[hn];obtain⟨hb,h⟩:=kO h;simp only[hb,cond_true];exact GM hX hs h
 ·exact h.elim
end
theorem ve{k k':IntKind}(h:iC k k'=true):k=k':=of_decide_eq_true h
theorem Mt {P0 : Program} {H0 : Hint} {F0 : bk} {P : Unit → Program} {op : BinOp} {ty : TypeId} {k k' : IntKind} {a b : Int} {C : Value → Prop} (h : Mo (bz P0 H0 F0) op k k' a b C) : ∃ v, xJ (P ()) op ty (.int k a) (.int k' b) = some v ∧ C v := by
  unfold Mo at h
  unfold xJ
  simp only []
  split at h
  · obtain ⟨h0, hC⟩ := h
    have WM : 0 ≤ b := h0
    refine ⟨_, ?_, hC⟩
    simp only [re]; rw [if_neg om]; rfl
  · obtain ⟨h0, hC⟩ := h
    have WM : 0 ≤ b := h0
    refine ⟨_, ?_, hC⟩
    simp only [re]; rw [if_neg om]; rfl
  · obtain ⟨hk, h0, hC⟩ := kO h
    have WM : b ≠ 0 := h0
    refine ⟨_, ?_, hC⟩
    simp only [vC]; rw [if_pos (ve hk), if_neg WM]; rfl
  · obtain ⟨hk, h0, hC⟩ := kO h
    have WM : b ≠ 0 := h0
    refine ⟨_, ?_, hC⟩
    simp only [vC]; rw [if_pos (ve hk), if_neg WM]; rfl
  all_goals first
    | exact h.elim
    | (obtain ⟨hk, hC⟩ := kO h
       refine ⟨_, ?_, hC⟩
       simp only [vC]; rw [if_pos (ve hk)]; rfl)
theorem Mu{P0:Program}{H0:Hint}{F0:bk}{op:BinOp}{a b:ByteArray}{C:Value->Prop}(h:Mp (bz P0 H0 F0) op a b C):∃v,Dl op a b=some v/\C v:=by
 unfold Mp at h;split at h
 ·obtain⟨h0,hC⟩:=h
  refine⟨_,?_,hC⟩;simp only[Dl];rw[bq h0];rfl
 all_goals first
  |exact h.elim
  |exact⟨_,rfl,h⟩
theorem Mw{H0:Hint}{F0:bk}{P:Unit->Program}{op:BinOp}{ty:TypeId}{x y:Value}{C:Value->Prop}(h:Mq P (bz (P ()) H0 F0) op ty x y C):∃v,xJ (P ()) op ty x y=some v/\C v:=by
 unfold Mq at h;split at h
 ·exact Mt h
 ·exact Mu h
 ·rename_i a b
  unfold xJ;simp only[];split at h
  ·rename_i hu
   simp only[hu];exact⟨_,rfl,h⟩
  ·rename_i hu
   simp only[hu];exact⟨_,rfl,h⟩
  ·exact h.elim
 ·rename_i a b
  unfold xJ;simp only[wI,jn,Bool.true_and];split at h
  ·obtain⟨h0,r,hr,hC⟩:=h
   refine⟨_,?_,hC⟩;rw[h0];simp only[Bool.not_false,cond_true,hr]
  ·obtain⟨h0,r,hr,hC⟩:=h
   refine⟨_,?_,hC⟩;rw[h0];simp only[Bool.not_false,cond_true,hr];rfl
  ·exact h.elim
 ·split at h
  ·rename_i v hv
   exact⟨v,hv,h⟩
  ·exact h.elim
theorem PW{P0:Program}{H0:Hint}{F0:bk}{op:UnOp}{x:Value}{C:Value->Prop}(h:Ty (bz P0 H0 F0) op x C):∃v,VM op x=some v/\C v:=by
 unfold Ty at h;split at h
 ·exact⟨_,rfl,h⟩
 ·exact⟨_,rfl,h⟩
 ·split at h
  ·rename_i v hv;exact⟨v,hv,h⟩
  ·exact h.elim
theorem JW{P0:Program}{H0:Hint}{F0:bk}{P:Unit->Program}{src dst:TypeId}{x:Value}{C:Value->Prop}(h:Cb P (bz P0 H0 F0) src dst x C):∃v,Dm (P ()) src dst x=some v/\C v:=by
 unfold Cb at h;unfold Dm;split at h
 ·rename_i h1 h2
  simp only[h1,h2];exact⟨_,rfl,h⟩
 ·rename_i h1 h2
  simp only[h1,h2];exact⟨_,rfl,h⟩
 ·exact h.elim
theorem Mx{P0:Program}{H0:Hint}{F0:bk}{P:Unit->Program}{ty:TypeId}{x:Value}{C:Value->Prop}(h:yP P (bz P0 H0 F0) ty x C):∃v,Lj (P ()) ty x=some v/\C v:=by
 unfold yP at h;unfold Lj;split at h
 ·rename_i h1
  simp only[h1];exact⟨_,rfl,h⟩
 ·rename_i h1
  simp only[h1];exact⟨_,rfl,h⟩
 ·rename_i h1
  simp only[h1];exact⟨_,rfl,h⟩
 ·rename_i h1
  simp only[h1];split at h
  ·rename_i h2
   simp only[h2];exact⟨_,rfl,h⟩
  ·exact h.elim
 ·exact h.elim
theorem Ee{P0:Program}{H0:Hint}{F0:bk}:∀{r:List Value} {x:Value} {C:Value->Prop},oF (bz P0 H0 F0).imax x r C->∃v,rZ xL x r=some v/\C v
 | [],x,C,h=>by simp only[oF]at h;exact⟨x,rfl,h⟩
 |y :: r,x,C,h=>by
  unfold oF at h;split at h
  ·rename_i e;cases e
  ·rename_i k a k' b r' e
   simp only[List.cons.injEq]at e;obtain⟨rfl,rfl⟩:=e;simp only[rZ,xL];exact Ee h
  ·exact h.elim
theorem Ef{P0:Program}{H0:Hint}{F0:bk}:∀{r:List Value} {x:Value} {C:Value->Prop},oF (bz P0 H0 F0).B8 x r C->∃v,rZ xM x r=some v/\C v
 | [],x,C,h=>by simp only[oF]at h;exact⟨x,rfl,h⟩
 |y :: r,x,C,h=>by
  unfold oF at h;split at h
  ·rename_i e;cases e
  ·rename_i k a k' b r' e
   simp only[List.cons.injEq]at e;obtain⟨rfl,rfl⟩:=e;simp only[rZ,xM];exact Ef h
  ·exact h.elim
theorem GO{H0:Hint}{F0:bk}{P:Unit->Program}{ty:TypeId}{x:Value}{lo hi mx:Option Value}{C:Value->Prop}(h:wS P (bz (P ()) H0 F0) ty x lo hi mx C):∃v,gQ (P ()) ty x lo hi mx=some v/\C v:=by
 unfold wS at h;split at h
 ·split at h
  ·obtain⟨r,hr,hC⟩:=h;exact⟨_,hr,hC⟩
  ·exact h.elim
 ·rename_i e a n c hu
  split at h
  ·rename_i k j
   obtain⟨PC,⟨h0,h1⟩,hC⟩:=kO h;obtain⟨z,hz⟩:=Option.isSome_iff_exists.1 PC;refine⟨_,?_,hC⟩;unfold gQ;rw[hu];simp only[hz,lK,gI,iN,ik,bound];rw[if_pos ⟨h0,h1⟩];simp only[];rw[bq (show j.toNat<=cL c by omega)];simp only[cond_true,Option.isSome_none,Bool.or_false,Nat.sub_zero,Nat.zero_mul];have aap:a.map (fV · 0)=a:=by cases a<;>rfl
   by_cases hc:c<aP
   ·rw[dN hc,fE hc,aap]
    simp only[cond_true];cases Nat.beq c 0<;>rfl
   ·rw[cM om]
    rfl
  ·obtain⟨a',n',c',hr,hC⟩:=h;exact⟨_,hr,hC⟩
 ·obtain⟨a',n',c',hr,hC⟩:=h;exact⟨_,hr,hC⟩
 ·exact h.elim
theorem yS{P0:Program}{H0:Hint}{F0:bk}{P:Unit->Program}{ty:TypeId}{x ix:Value}{C:Value->Prop}(h:kp P (bz P0 H0 F0) ty x ix C):∃v,lM (P ()) ty x ix=some v/\C v:=by
 unfold kp at h;unfold lM;split at h
 ·rename_i hu
  split at h
  ·rename_i n hn
   obtain⟨⟨h0,h1⟩,hC⟩:=h;simp only[hu,hn];rw[if_pos ⟨h0,h1⟩];exact⟨_,rfl,hC⟩
  ·exact h.elim
 ·rename_i hu
  split at h
  ·rename_i n hn
   obtain⟨b,o,rfl,⟨h0,h1⟩,hC⟩:=h;simp only[hu,hn];rw[if_pos ⟨h0,h1⟩];exact⟨_,rfl,hC⟩
  ·exact h.elim
 ·exact h.elim
theorem yT{P0:Program}{H0:Hint}{F0:bk}{P:Unit->Program}{ty:TypeId}{x:Value}{f:Nat}{C:Value->Prop}(h:mL P (bz P0 H0 F0) ty x f C):∃v,lL (P ()) ty x f=some v/\C v:=by
 unfold mL at h;unfold lL;split at h
 ·rename_i fs a hu
  split at h
  ·rename_i fd hfd
   split at h
   ·rename_i n hn
    cases hb:Nat.beq n 0 with
    |true=>rw[hb]at h;exact h.elim
    |false=>
     rw[hb]at h;simp only[hu,hfd,hn,hb,cond_false]at h ⊢;refine⟨_,rfl,?_⟩;obtain⟨b,o,sp⟩:=a;cases sp<;>exact h
   ·exact h.elim
  ·exact h.elim
 ·exact h.elim
theorem GP{H0:Hint}{F0:bk}{P:Unit->Program}{ty:TypeId}{x ix:Value}{C:Value->Prop}(h:Cc P (bz (P ()) H0 F0) ty x ix C):∃v,xK (P ()) ty x ix=some v/\C v:=by
 unfold Cc at h;unfold xK;split at h
 ·rename_i hu
  split at h
  ·rename_i n hn
   obtain⟨⟨h0,h1⟩,hC⟩:=h;obtain⟨v,hv,hC⟩:=Cf hC;simp only[hu,hn];rw[if_pos ⟨h0,h1⟩];refine⟨v,?_,hC⟩;have Wu:kL (P ()) _ _ (0+_)=some v:=hv;rw[Nat.zero_add]at Wu;exact Wu
  ·exact h.elim
 ·rename_i hu
  obtain⟨h0,b,hb,hC⟩:=h;simp only[hu];rw[if_pos h0];simp only[hb];exact⟨_,rfl,hC⟩
 ·exact h.elim
theorem yU{z:List Value}(hz:z.all aE=true):∀n,(bF z n).all aE=true
 |0=>rfl
 |n+1=>by simp only[bF,List.all_append,hz,yU hz n,Bool.and_self]
section
variable{P:Unit->Program}{X:af->af}{mk:kF}{m:lJ}{s:SS}{t:St}{P0:Program}{H0:Hint}{F0:bk}
theorem yV(hm:Ms X mk m s){ty:TypeId}{l c:Value}{C:Value->SS->Prop}(h:mM P (bz P0 H0 F0) mk ty l c s C):∃v t' s',fW (P ()) m ty l c=some (v,t')/\Le s' (lV X t')/\C v s':=by
 unfold mM at h;unfold fW;split at h
 ·rename_i hu
  split at h
  ·rename_i n z by_ hn hz rj
   obtain⟨hb,h⟩:=kO h;simp only[Bool.and_eq_true]at hb;obtain⟨⟨FL,wz⟩,hb3⟩:=hb;obtain⟨⟨h0,h1,h2⟩,hC⟩:=h;obtain⟨v,t',s',hv,hl,hC⟩:=hm _ _ _ _ (yU hb3 _) hC;simp only[hu,hn,hz,rj];rw[if_pos ⟨h0,h1,h2,Nat.le_of_ble_eq_true FL,Nat.eq_of_beq_eq_true wz⟩];rw[hv];split at hC
   ·exact⟨_,_,_,rfl,hl,hC⟩
   ·exact hC.elim
  ·exact h.elim
 ·exact h.elim
theorem wC(hm:Ms X mk m s){ty:TypeId}{len:Nat}{parts:List (Nat×Value)}{C:Value->SS->Prop}(h:kY P mk ty len parts s C):∃v t' s',fy (P ()) m ty len parts=some (v,t')/\Le s' (lV X t')/\C v s':=by
 unfold kY at h;unfold fy;split at h
 ·rename_i hu
  split at h
  ·rename_i n z hn hz
   simp only[hu,hn,hz];obtain⟨hb,h⟩:=kO h;rw[hb];simp only[cond_true];split at h
   ·rename_i cs wL
    simp only[wL];obtain⟨fD,h⟩:=kO h;obtain⟨v,t',s',hv,hl,hC⟩:=hm _ _ _ _ fD h;rw[hv];split at hC
    ·exact⟨_,_,_,rfl,hl,hC⟩
    ·exact hC.elim
   ·exact h.elim
  ·exact h.elim
 ·exact h.elim
end
end Go.cY
namespace Go.cY
theorem tK{b:Bool}{A B:Prop}(h:cond b A B):(b=true/\A)\/(b=false/\B):=by
 cases b with
 |true=>exact .inl ⟨rfl,h⟩
 |false=>exact .inr ⟨rfl,h⟩
theorem Il{b:Bool}{x y:Unit->Prop}(h:fork b x y):(b=true/\x ())\/(b=false/\y ()):=by
 cases b with
 |true=>exact .inl ⟨rfl,h⟩
 |false=>exact .inr ⟨rfl,h⟩
theorem JX{P:Program}{h:af}{t:TypeId}{x k v:Value}{r ok:Bool}(hl:kS P h t x k true=some (.tuple #[v,.bool r],h)):kS P h t x k ok=some (found ok v r,h):=by
 unfold kS at hl ⊢;split at hl
 ·split at hl
  ·rename_i kd z es h1 h2 h3
   cases hb:(iR kd && isKey k)with
   |false=>rw[hb]at hl;cases hl
   |true=>
    rw[hb]at hl;simp only[cond_true]at hl ⊢;split at hl
    ·simp only[found,cond_true,oi,pj,Value.tuple.injEq,and_true]at hl
     simp at hl;obtain⟨rfl,rfl⟩:=hl;rfl
    ·simp only[found,cond_true,oi,pj,Value.tuple.injEq,and_true]at hl
     simp at hl;obtain⟨rfl,rfl⟩:=hl;rfl
    ·cases hl
  ·cases hl
 ·cases hl
theorem PX{P:Program}{h h':af}(e:h'.m=h.m)(src dst:TypeId)(a:Option Addr)(n:Nat):o8 P h' src dst a n=o8 P h src dst a n:=by
 unfold o8 af.aM af.cells?;rw[e]
theorem Cg{P:Unit->Program}{H0:Hint}{F0:bk}{X:af->af}{mk:kF}{m:lJ}{s:SS}{t:St}{loc:Bool}{o:Op}{C:Value->SS->Prop}(hX:GL X)(hs:Le s (lV X t))(hm:Ms X mk m s)(uL:small o=true\/∀h,X h=h)(h:wpOp P (bz (P ()) H0 F0) mk loc o s C) :
  ∃v t' s',gF (P ()) m loc o t=some (v,t')/\Le s' (lV X t')/\C v s':=by
 have E1:∀{x:Operand} {v:Value},ev s x=some v->bK t x=some v:=fun hx=>by
  have:=hs.ev hx;rename_i x v;cases x<;>exact this
 have E2:∀{x:List Operand} {v:List Value},Af s x=some v->gX t x=some v:=by
  intro x
  induction x with
  |nil=>intro v hx;exact hx
  |cons x r ih=>
   intro v hx;simp only[Af]at hx;split at hx
   ·rename_i u hu
    split at hx
    ·rename_i l hl
     simp only[gX,E1 hu,ih hl];exact hx
    ·cases hx
   ·cases hx
 have E3:∀{x:Option Operand} {v:Option Value},qA s x=some v->jo t x=some v:=by
  intro x v hx;cases x with
  |none=>exact hx
  |some x=>
   simp only[qA]at hx;split at hx
   ·rename_i u hu
    simp only[jo,E1 hu];exact hx
   ·cases hx
 have E4:∀{x:List (Nat×Operand)} {v:List (Nat×Value)},j6 s x=some v->gA t x=some v:=by
  intro x
  induction x with
  |nil=>intro v hx;exact hx
  |cons x r ih=>
   obtain⟨i,x⟩:=x;intro v hx;simp only[j6]at hx;split at hx
   ·rename_i u hu
    split at hx
    ·rename_i l hl
     simp only[gA,E1 hu,ih hl];exact hx
    ·cases hx
   ·cases hx
 unfold wpOp at h;split at h
 ·split at h
  ·rename_i v hv;exact⟨v,t,s,by simp only[gF,E1 hv],hs,h⟩
  ·exact h.elim
 ·split at h
  ·rename_i v hv;exact⟨v,t,s,by simp only[gF,E1 hv],hs,h⟩
  ·exact h.elim
 ·split at h
  ·rename_i b hb
   rcases Il h with ⟨rfl,h1⟩|⟨rfl,h1⟩
   ·clear h
    split at h1
    ·rename_i v hv;exact⟨v,t,s,by simp only[gF,E1 hb,E1 hv],hs,h1⟩
    ·exact h1.elim
   ·clear h
    split at h1
    ·rename_i v hv;exact⟨v,t,s,by simp only[gF,E1 hb,E1 hv],hs,h1⟩
    ·exact h1.elim
  ·exact h.elim
 ·split at h
  ·rename_i z n hz hn
   obtain⟨fD,h⟩:=kO h;obtain⟨v,t',s',hv,hl,hC⟩:=hm _ _ _ _ fD h;exact⟨v,t',s',by simp only[gF,hz,hn,hv],hl,hC⟩
  ·exact h.elim
 ·split at h
  ·rename_i z n hz hn
   obtain⟨fD,h⟩:=kO h;obtain⟨v,t',s',hv,hl,hC⟩:=hm _ _ _ _ fD h;exact⟨v,t',s',by simp only[gF,E1 hz,hn,hv],hl,hC⟩
  ·exact h.elim
 ·split at h
  ·rename_i l hl
   split at h
   ·rename_i v hv;exact⟨v,t,s,by simp only[gF,E4 hl,hv],hs,h⟩
   ·exact h.elim
  ·exact h.elim
 ·split at h
  ·rename_i l hl
   obtain⟨v,t',s',hv,hle,hC⟩:=wC hm h;exact⟨v,t',s',by simp only[gF,E4 hl,hv],hle,hC⟩
  ·exact h.elim
 ·split at h
  ·rename_i a ha
   obtain⟨v,hv,hC⟩:=Bb hX hs h;exact⟨v,t,s,by simp only[gF,E1 ha,hv],hs,hC⟩
  ·exact h.elim
 ·split at h
  ·rename_i a v ha hv
   obtain⟨t',s',uW,hl,hC⟩:=GN hX hs h;exact⟨_,t',s',by simp only[gF,E1 ha,E1 hv,uW],hl,hC⟩
  ·exact h.elim
 ·split at h
  ·rename_i a ha
   exact⟨_,t,s,by simp only[gF,E1 ha],hs,h⟩
  ·rename_i f first captured ha
   exact⟨_,t,s,by simp only[gF,E1 ha],hs,h⟩
  ·exact h.elim
 ·split at h
  ·rename_i a b ha hb
   obtain⟨v,hv,hC⟩:=Mw h;exact⟨v,t,s,by simp only[gF,E1 ha,E1 hb,hv],hs,hC⟩
  ·exact h.elim
 ·split at h
  ·rename_i a ha
   obtain⟨v,hv,h⟩:=PW h;exact⟨v,t,s,by simp only[gF,E1 ha,hv],hs,h⟩
  ·exact h.elim
 ·split at h
  ·rename_i a n c ha
   split at h
   ·obtain⟨b,h1,h⟩:=h
    have tz:o8 (P ()) s.h _ _ a n=some (.string b):=h1;have em:s.h.m=t.h.m:=by rw[<-hs.h];exact hX.m _
    rw[PX em]at tz;exact⟨.string b,t,s,by simp only[gF,E1 ha,tz],hs,h⟩
   ·exact h.elim
  ·rename_i a ff ha
   obtain⟨v,hv,h⟩:=JW h;refine⟨v,t,s,?_,hs,h⟩;simp only[gF,E1 ha];cases a<;>first|exact absurd rfl (ff _ _ _)|simp only[hv]
  ·exact h.elim
 ·split at h
  ·rename_i f l r hl hr
   obtain⟨hb,h⟩:=kO h;exact⟨_,t,s,by simp only[gF,E2 hl,E2 hr,hb,cond_true],hs,h⟩
  ·exact h.elim
 ·split at h
  ·rename_i a b ha hb
   obtain⟨v,t',s',hv,hle,hC⟩:=yV hm h;exact⟨v,t',s',by simp only[gF,E1 ha,E1 hb,hv],hle,hC⟩
  ·exact h.elim
 ·split at h
  ·rename_i v a b c hv ha hb hc
   obtain⟨r,hr,hC⟩:=GO h;exact⟨r,t,s,by simp only[gF,E1 hv,E3 ha,E3 hb,E3 hc,hr],hs,hC⟩
  ·exact h.elim
 ·split at h
  ·rename_i v hv
   obtain⟨r,hr,h⟩:=yT h;exact⟨r,t,s,by simp only[gF,E1 hv,hr],hs,h⟩
  ·exact h.elim
 ·split at h
  ·rename_i v hv
   split at h
   ·rename_i r hr;exact⟨r,t,s,by simp only[gF,E1 hv,hr],hs,h⟩
   ·exact h.elim
  ·exact h.elim
 ·split at h
  ·rename_i v j hv hj
   obtain⟨r,hr,hC⟩:=yS h;exact⟨r,t,s,by simp only[gF,E1 hv,E1 hj,hr],hs,hC⟩
  ·exact h.elim
 ·split at h
  ·rename_i v j hv hj
   obtain⟨r,hr,hC⟩:=GP h;exact⟨r,t,s,by simp only[gF,E1 hv,E1 hj,hr],hs,hC⟩
  ·exact h.elim
 ·split at h
  ·rename_i vs Tb
   split at h
   ·rename_i v hv;exact⟨v,t,s,by simp only[gF,E1 Tb,hv],hs,h⟩
   ·exact h.elim
  ·exact h.elim
 ·rename_i b args argTypes
  split at h
  ·rename_i l hl
   split at h
   ·split at h
    ·rename_i ty hty
     obtain⟨v,hv,h⟩:=Mx h;exact⟨v,t,s,by simp only[gF,E2 hl,hty,hv],hs,h⟩
    ·exact h.elim
   ·rename_i a n c
    split at h
    ·rename_i ty hty
     split at h
     ·rename_i e hu
      obtain⟨h1,h⟩:=h;have tz:c<aP:=h1;exact⟨.int .i64 c,t,s,by simp only[gF,E2 hl,hty,Px,hu,dN tz,cond_true],hs,h⟩
     ·exact h.elim
    ·exact h.elim
   ·obtain⟨v,hv,h⟩:=Ee h
    exact⟨v,t,s,by simp only[gF,E2 hl,hv],hs,h⟩
   ·obtain⟨v,hv,h⟩:=Ef h
    exact⟨v,t,s,by simp only[gF,E2 hl,hv],hs,h⟩
   ·have hx:∀h,X h=h:=by
     rcases uL with h|h
     ·simp[small,bN]at h
     ·exact h
    obtain⟨a,n,c,h',ha,hC⟩:=h;have e:t.h=s.h:=by rw[<-hs.h];exact(hx _).symm
    rw[<-e]at ha;exact⟨_,{ t with h:=h' },{ s with h:=h' },by simp only[gF,E2 hl,ha,bV],⟨hs.env,hs.K,hs.kn,hx _⟩,hC⟩
   ·have hx:∀h,X h=h:=by
     rcases uL with h|h
     ·simp[small,bN]at h
     ·exact h
    obtain⟨n,h',ha,hC⟩:=h;have e:t.h=s.h:=by rw[<-hs.h];exact(hx _).symm
    rw[<-e]at ha;exact⟨_,{ t with h:=h' },{ s with h:=h' },by simp only[gF,E2 hl,ha,bV],⟨hs.env,hs.K,hs.kn,hx _⟩,hC⟩
   ·have hx:∀h,X h=h:=by
     rcases uL with h|h
     ·simp[small,bN]at h
     ·exact h
    obtain⟨h',ha,hC⟩:=h;have e:t.h=s.h:=by rw[<-hs.h];exact(hx _).symm
    have R0:sE (P ()) s.h argTypes.toList _=some (undef,h'):=ha;rw[<-e]at R0;exact⟨_,{ t with h:=h' },{ s with h:=h' },by simp only[gF,E2 hl,R0,bV],⟨hs.env,hs.K,hs.kn,hx _⟩,hC⟩
   ·exact h.elim
  ·exact h.elim
 ·have hx:∀h,X h=h:=by
   rcases uL with h|h
   ·simp[small,bN]at h
   ·exact h
  have e:t.h=s.h:=by rw[<-hs.h];exact(hx _).symm
  refine⟨.map (some t.h.next),{ t with h:=t.h.gW (.map []) },{ s with h:=s.h.gW (.map []) },by simp only[gF,bV],⟨hs.env,hs.K,hs.kn,by show X (t.h.gW (.map []))=_;rw[hx,e]⟩,?_⟩;rw[e];exact h
 ·rename_i tt xx ii ok
  have hx:∀h,X h=h:=by
   rcases uL with h|h
   ·simp[small,bN]at h
   ·exact h
  have e:t.h=s.h:=by rw[<-hs.h];exact(hx _).symm
  split at h
  ·rename_i kt et a b hu hv hj
   obtain⟨v,r,h1,h⟩:=Cf h;have tz:=JX (ok:=ok) h1;rw[<-e]at tz;exact⟨_,t,s,by simp only[gF,E1 hv,E1 hj,tz,bV],hs,h⟩
  ·exact h.elim
 ·have hx:∀h,X h=h:=by
   rcases uL with h|h
   ·simp[small,bN]at h
   ·exact h
  have e:t.h=s.h:=by rw[<-hs.h];exact(hx _).symm
  split at h
  ·rename_i a b c ha hb hc
   obtain⟨h',h1,h⟩:=h;have tz:kT (P ()) s.h _ a b c=some (undef,h'):=h1;rw[<-e]at tz;exact⟨_,{ t with h:=h' },{ s with h:=h' },by simp only[gF,E1 ha,E1 hb,E1 hc,tz,bV],⟨hs.env,hs.K,hs.kn,hx _⟩,h⟩
  ·exact h.elim
 ·have hx:∀h,X h=h:=by
   rcases uL with h|h
   ·simp[small,bN]at h
   ·exact h
  have e:t.h=s.h:=by rw[<-hs.h];exact(hx _).symm
  split at h
  ·rename_i a b c ha hb hc
   obtain⟨h',h1,h⟩:=h;have tz:kT (P ()) s.h _ a b c=some (undef,h'):=h1;rw[<-e]at tz;exact⟨_,{ t with h:=h' },{ s with h:=h' },by simp only[gF,E1 ha,E1 hb,E1 hc,tz,bV],⟨hs.env,hs.K,hs.kn,hx _⟩,h⟩
  ·exact h.elim
 ·exact h.elim
theorem Le.put{s:SS}{t:St}(h:Le s t){nt:Nat}{d:Option Tmp}{v:Value}{C:SS->Prop}(hp:Aw nt s d v C):∃t' s',sF nt t d v=some t'/\Le s' t'/\C s'/\t'.h=t.h:=by
 unfold Aw at hp;unfold sF;split at hp
 ·exact⟨t,s,rfl,h,hp,rfl⟩
 ·rename_i d
  obtain⟨hb,hp⟩:=kO hp;simp only[hb,cond_true];refine⟨_,{ s with env:=(d,v) :: s.env },rfl,⟨fun i u hu=>?_,h.K,h.kn,h.h⟩,hp,rfl⟩;rw[kZ]at hu;show(t.env.set d v).get i=some u;rw[cW.bP];by_cases e:d=i
  ·rw[if_pos e]at hu ⊢;exact hu
  ·rw[if_neg e]at hu ⊢;exact h.env _ _ hu
theorem Le.callee{s:SS}{t:St}(h:Le s t){c:Call}{r:FuncId×List Value}(hc:j7 (fun y=>aX+y) s c=some r):kU t c=some r:=by
 unfold j7 at hc;unfold kU;split at hc
 ·rename_i x hx
  simp only[hx];split at hc
  ·rename_i f first captured l he hl
   simp only[h.ev he,h.Af hl];exact hc
  ·rename_i y u1 u2 l he hl
   simp only[h.ev he,h.Af hl];exact hc
  ·cases hc
 ·cases hc
theorem Le.same{s:SS}{t:St}(h:Le s t){d:Nat}{v:Value}(hd:lk s.env d=some v):Le { s with env:=(d,v) :: s.env } t:=
 ⟨fun i u hu=>by
  rw[kZ]at hu;by_cases e:d=i
  ·subst e;rw[if_pos rfl]at hu;rw[<-hu];exact h.env _ _ hd
  ·rw[if_neg e]at hu;exact h.env _ _ hu,h.K,h.kn,h.h⟩
theorem yW{ops:Array Oper}{o:Oper}{s:SS}{t:St}{go skip:SS->Prop}(h:Le s t)(hw:oG ops o s go skip) :
  (jq ops o t=some true/\∃s',Le s' t/\s'.h=s.h/\s'.kn=s.kn/\go s')\/(jq ops o t=some false/\∃s',Le s' t/\s'.h=s.h/\s'.kn=s.kn/\skip s'):=by
 unfold oG at hw;unfold jq;split at hw
 ·rename_i hg
  rw[hg];exact .inl ⟨rfl,s,h,rfl,rfl,hw⟩
 ·rename_i j want hg
  simp only[hg];split at hw
  ·rename_i d hd
   simp only[hd];split at hw
   ·rename_i b hb
    simp only[h.env _ _ hb];cases want with
    |true=>
     simp only[]at hw;rcases Il hw with ⟨rfl,n8⟩|⟨rfl,n8⟩
     ·exact .inl ⟨by simp,_,h.same hb,rfl,rfl,n8⟩
     ·exact .inr ⟨by simp,_,h.same hb,rfl,rfl,n8⟩
    |false=>
     simp only[]at hw;rcases Il hw with ⟨rfl,n8⟩|⟨rfl,n8⟩
     ·exact .inr ⟨by simp,_,h.same hb,rfl,rfl,n8⟩
     ·exact .inl ⟨by simp,_,h.same hb,rfl,rfl,n8⟩
   ·rename_i vs Tb
    simp only[h.env _ _ Tb];obtain⟨hb,hw⟩:=kO hw;rw[hb];exact .inr ⟨rfl,s,h,rfl,rfl,hw⟩
   ·exact hw.elim
  ·exact hw.elim
theorem PY{P0:Program}{H0:Hint}{F0:bk}(s:SS)(t:St)(hs:Le s t):Ms (fun h=>h) (PU (bz P0 H0 F0)) t.new s:=by
 intro loc es cs C fD h;unfold PU at h;unfold St.new;rw[fD];simp only[cond_true];cases loc with
 |true=>
  simp only[fork,cond_true]at h ⊢;have e:t.kn=s.kn:=hs.kn;refine⟨_,_,{ s with kn:=s.kn+1,K:=(s.kn,cs) :: s.K },rfl,⟨hs.env,fun i v hv=>?_,by simp[lV,e],hs.h⟩,by rw[e];exact h⟩;rw[kZ]at hv;show(t.K.set t.kn cs).get i=some v;rw[cW.bP,e];by_cases e:s.kn=i
  ·rw[if_pos e]at hv ⊢;exact hv
  ·rw[if_neg e]at hv ⊢;exact hs.K _ _ hv
 |false=>
  simp only[fork,cond_false]at h ⊢;have e:t.h=s.h:=hs.h;exact⟨_,_,{ s with h:=s.h.push es cs },rfl,⟨hs.env,hs.K,hs.kn,by show t.h.push es cs=_;rw[e]⟩,by rw[e];exact h⟩
theorem Bd{P0:Program}{H0:Hint}{F0:bk}{X:af->af}(hX:GL X)(id tag:Nat)(s:SS)(t:St)(hs:Le s (lV X t)):Ms X (vc (bz P0 H0 F0) id tag) (t.newAt id tag) s:=by
 intro loc es cs C fD h;unfold vc at h;unfold St.newAt;rw[fD];simp only[cond_true];cases loc with
 |true=>
  simp only[fork,cond_true]at h ⊢;refine⟨_,_,{ s with K:=(tag,cs) :: s.K },rfl,⟨hs.env,fun i v hv=>?_,hs.kn,hs.h⟩,h⟩;rw[kZ]at hv;show(t.K.set tag cs).get i=some v;rw[cW.bP];by_cases e:tag=i
  ·rw[if_pos e]at hv ⊢;exact hv
  ·rw[if_neg e]at hv ⊢;exact hs.K _ _ hv
 |false=>
  simp only[fork,cond_false]at h ⊢;refine⟨_,_,{ s with h:=s.h.putAt id es cs },rfl,⟨hs.env,hs.K,hs.kn,?_⟩,h⟩;have:=hX.putAt t.h id es cs;show X (t.h.putAt id es cs)=_;rw[this];rw[show X t.h=s.h from hs.h]
end Go.cY
namespace Go.cY
variable{P:Unit->Program}{H:Hint}{F:bk}{V:Live}
theorem tL{f:FuncId}{nt:Nat}{ops:Array Oper}:∀(l:List Oper) (s:SS) (t:St) (Q:SS->Prop),Le s t->wpOps P H (bz (P ()) H F) f nt ops l s Q->
  ∃n t' s',lO (P ()) H (cH (P ()) H F n).call f nt ops l t=some t'/\Le s' t'/\Q s'
 | [],s,t,Q,hs,h=>⟨0,t,s,rfl,hs,h⟩
 |o :: rest,s,t,Q,hs,h=>by
  simp only[wpOps]at h;simp only[lO];rcases yW hs h with ⟨hw,s1,gm,e1,e2,h⟩|⟨hw,s1,gm,e1,e2,h⟩
  ·simp only[hw]
   unfold Ii at h;split at h
   ·rename_i c hc
    split at h
    ·rename_i g args hg
     obtain⟨v,h',⟨n1,hr⟩,h⟩:=h.ex;have h:=yR h;have pY:Le { s1 with h:=h' } { t with h:=h' }:=⟨gm.env,gm.K,gm.kn,rfl⟩;obtain⟨t3,s3,hp,wU,h,_⟩:=pY.put h;obtain⟨n2,t4,s4,ho,Ag,hQ⟩:=tL rest s3 t3 Q wU h;refine⟨max n1 n2,t4,s4,?_,Ag,hQ⟩;have pD:sG (P ()) H (cH (P ()) H F (max n1 n2)).call f o t=some (v,{ t with h:=h' }):=by
      unfold sG;simp only[hc,jP,gm.callee hg];have:(cH (P ()) H F (max n1 n2)).call g args t.h=some (v,h'):=by
       rw[gm.h];exact(ko (Nat.le_max_left n1 n2)).call _ _ _ _ hr
      simp only[this]
     simp only[pD,hp];exact rC (ko (Nat.le_max_right n1 n2)).call _ _ _ ho
    ·exact h.elim
   ·rename_i hc
    obtain⟨v,t2,s2,ho,pY,h⟩:=Cg (m:=t.new) GL.id (by exact gm) (PY s1 t gm) (.inr fun _=>rfl) h;obtain⟨t3,s3,hp,wU,h,_⟩:=Le.put (t:=t2) pY h;obtain⟨n2,t4,s4,My,Ag,hQ⟩:=tL rest s3 t3 Q wU h;refine⟨n2,t4,s4,?_,Ag,hQ⟩;have pD:sG (P ()) H (cH (P ()) H F n2).call f o t=some (v,t2):=by
     unfold sG;simp only[hc];exact ho
    simp only[pD,hp];exact My
  ·simp only[hw]
   obtain⟨t3,s3,hp,wU,h,_⟩:=gm.put h;obtain⟨n2,t4,s4,My,Ag,hQ⟩:=tL rest s3 t3 Q wU h;refine⟨n2,t4,s4,?_,Ag,hQ⟩;simp only[hp];exact My
theorem rG{id tag:Nat}{t t1:St}{loc:Bool}{es:Nat}{cs:List Value}{v:Value}(h:t.newAt id tag loc es cs=some (v,t1)):t1.h.low=t.h.low:=by
 unfold St.newAt at h;cases fD:cs.all aE with
 |false=>rw[fD]at h;cases h
 |true=>
  rw[fD]at h;cases loc with
  |true=>simp only[cond_true,oi,pj]at h;obtain⟨_,rfl⟩:=h;rfl
  |false=>simp only[cond_true,cond_false,oi,pj]at h;obtain⟨_,rfl⟩:=h;rfl
theorem Ax{id tag:Nat}{t t1:St}{ty:TypeId}{l c v:Value}(h:fW (P ()) (t.newAt id tag) ty l c=some (v,t1)):t1.h.low=t.h.low:=by
 unfold fW at h;split at h
 ·split at h
  ·split at h
   ·split at h
    ·rename_i a s' hm
     simp only[oi,pj]at h;obtain⟨_,rfl⟩:=h;exact rG hm
    ·cases h
   ·cases h
  ·cases h
 ·cases h
theorem yX{id tag:Nat}{t t1:St}{ty:TypeId}{len:Nat}{parts:List (Nat×Value)}{v:Value}(h:fy (P ()) (t.newAt id tag) ty len parts=some (v,t1)):t1.h.low=t.h.low:=by
 unfold fy at h;split at h
 ·split at h
  ·rename_i n z _ _
   cases hb:(Nat.ble (len*n) 16777216 && Nat.beq z.cells.toList.length n && Nat.ble len 16777216)with
   |false=>rw[hb]at h;cases h
   |true=>
    rw[hb]at h;simp only[cond_true]at h;split at h
    ·split at h
     ·rename_i a s' hm
      simp only[oi,pj]at h;obtain⟨_,rfl⟩:=h;exact rG hm
     ·cases h
    ·cases h
  ·cases h
 ·cases h
theorem PZ {id tag : Nat} {t t1 : St} {loc : Bool} {o : Op} {v : Value} (uL : small o = true) (uW : iO o = false) (h : gF (P ()) (t.newAt id tag) loc o t = some (v, t1)) : t1.h.low = t.h.low := by
  unfold gF at h
  split at h
  case h_4 => split at h <;> first | exact rG h | cases h
  case h_5 => split at h <;> first | exact rG h | cases h
  case h_7 => split at h <;> first | exact yX h | cases h
  case h_15 => split at h <;> first | exact Ax h | cases h
  case h_9 => simp [iO] at uW
  case h_23 => simp [small, bN] at uL
  case h_24 => simp [small, bN] at uL
  case h_25 => simp [small, bN] at uL
  case h_26 => simp [small, bN] at uL
  case h_22 =>
    rename_i b args argTypes
    cases b <;> simp [small, bN] at uL
    all_goals
      (split at h
       · rename_i l hl
         rcases l with _ | ⟨x, _ | ⟨y, r⟩⟩
         all_goals
           (simp only [] at h
            repeat' split at h
            all_goals first
              | (cases h; done)
              | (cases h; rfl))
       · cases h)
  all_goals
    (repeat' split at h
     all_goals first
       | (cases h; done)
       | (cases h; rfl)
       | (simp only [oi, pj] at h; obtain ⟨_, rfl⟩ := h; rfl)
       | (rename_i l r _ _; cases hb : (l.all dD && r.all dD) <;> rw [hb] at h <;> first | (cases h; done) | (cases h; rfl)))
theorem JY{dI:Nat}{x:FP}{wx:Bool}{y:FP}{wy:Bool}{C:Prop}(h:yQ (bz (P ()) H F) dI x wx y wy C):cD dI x wx y wy=false/\C:=by
 unfold yQ at h;split at h
 ·exact⟨rfl,h⟩
 ·split at h
  ·exact⟨rfl,h⟩
  ·exact h.elim
 ·split at h
  ·exact⟨rfl,h⟩
  ·exact h.elim
 ·rename_i l b
  split at h
  ·exact⟨rfl,h⟩
  ·rcases tK h with ⟨rfl,h2⟩|⟨rfl,h2⟩
   ·exact⟨by simp[cD],h2⟩
   obtain⟨⟨rfl,rfl,h1⟩,h3⟩:=h2;refine⟨?_,h3⟩;rcases h1 with h1|h1
   ·cases h1
   ·simp[cD,dN h1]
  ·rename_i c
   rcases tK h with ⟨rfl,h2⟩|⟨rfl,h2⟩
   ·exact⟨by simp[cD],h2⟩
   obtain⟨⟨rfl,h0,h1⟩,h3⟩:=h2;refine⟨?_,h3⟩;rcases h1 with h1|h1
   ·cases h1
   ·rcases h0 with rfl|h0
    ·simp[cD,dN h1]
    ·simp[cD,dN h1,beq_eq,h0]
  ·rename_i l' b'
   rcases tK h with ⟨e,h1⟩|⟨e,h1⟩
   ·rcases tK h1 with ⟨e2,h2⟩|⟨e2,h2⟩
    ·exact⟨by have h3:b≠b':=h2.1;simp[cD,same,beq_eq,h3],h2.2⟩
    ·exact⟨by simp[cD,same,e2],h2⟩
   ·exact⟨by simp[cD,e],h1⟩
  ·rename_i l' b'
   rcases tK h with ⟨e2,h2⟩|⟨e2,h2⟩
   ·exact⟨by have h3:b≠b':=h2.1;simp[cD,same,beq_eq,h3],h2.2⟩
   ·exact⟨by simp[cD,same,e2],h2⟩
 ·rename_i l b
  split at h
  ·exact⟨rfl,h⟩
  ·obtain⟨rfl,h⟩:=h
   exact⟨rfl,h⟩
  ·rename_i c
   obtain⟨⟨_,h0,_⟩,h3⟩:=h;refine⟨?_,h3⟩;rcases h0 with rfl|h0
   ·simp[cD]
   ·simp[cD,beq_eq,h0]
  ·rename_i l' b'
   rcases tK h with ⟨e2,h2⟩|⟨e2,h2⟩
   ·exact⟨by have h3:b≠b':=h2.1;simp[cD,same,beq_eq,h3],h2.2⟩
   ·exact⟨by simp[cD,same,e2],h2⟩
  ·rename_i l' b'
   rcases tK h with ⟨e2,h2⟩|⟨e2,h2⟩
   ·exact⟨by have h3:b≠b':=h2.1;simp[cD,same,beq_eq,h3],h2.2⟩
   ·exact⟨by simp[cD,same,e2],h2⟩
theorem qD{ops:Array Oper}{dI p:Nat}{x:FP}{wx:Bool}:∀{r:List (Nat×FP×Bool)} {C:Prop},jy (bz (P ()) H F) ops dI p x wx r C->
  r.all (fun(q,y,wy)=>!(cD dI x wx y wy) || prec (Region.before ops) p q)=true/\C
 | [],C,h=>⟨rfl,h⟩
 |(q,y,wy) :: r,C,h=>by
  simp only[jy]at h;rcases tK h with ⟨e,h⟩|⟨e,h⟩
  ·obtain⟨h1,h2⟩:=qD h
   exact⟨by simp only[List.all_cons,e,Bool.or_true,Bool.true_and];exact h1,h2⟩
  ·obtain⟨h0,h⟩:=JY h
   obtain⟨h1,h2⟩:=qD h;exact⟨by simp only[List.all_cons,h0,Bool.not_false,Bool.true_or,Bool.true_and];exact h1,h2⟩
theorem yY{ops:Array Oper}{dI:Nat}:∀{r:List (Nat×FP×Bool)} {C:Prop},rF (bz (P ()) H F) ops dI r C->Dt ops dI r=true/\C
 | [],C,h=>⟨rfl,h⟩
 |(p,x,wx) :: r,C,h=>by
  simp only[rF]at h;obtain⟨h1,h⟩:=qD h;obtain⟨h2,h⟩:=yY h;refine⟨?_,h⟩;unfold Dt at h2 ⊢;simp only[AR,h2,Bool.and_true];exact h1
theorem WO{s:SS}{t:St}(hs:Le s t){o:Op}{loc:Bool}{id tag:Nat}(uL:small o=true)(h:∀x,(∃ty,o=.load ty x)\/(∃ty y,o=.store ty x y)\/(∃src dst,o=.convert src dst x)->(ev s x).isSome=true):eO o loc id tag t=RY o loc id tag s:=by
 unfold eO RY;cases hp:bN o with
 |true=>rfl
 |false=>
  simp only[cond_false];cases o<;>try rfl
  ·rename_i ty x
   have:=h x (.inl ⟨ty,rfl⟩);cases hv:ev s x with
   |none=>rw[hv]at this;cases this
   |some v=>
    simp only[hs.ev hv,hv];cases v<;>rfl
  ·rename_i ty x y
   have:=h x (.inr (.inl ⟨ty,y,rfl⟩));cases hv:ev s x with
   |none=>rw[hv]at this;cases this
   |some v=>
    simp only[hs.ev hv,hv];cases v<;>rfl
  ·rename_i src dst x
   have:=h x (.inr (.inr ⟨src,dst,rfl⟩));cases hv:ev s x with
   |none=>rw[hv]at this;cases this
   |some v=>
    simp only[hs.ev hv,hv];cases v<;>first|rfl|(rename_i a n c;cases a<;>rfl)
  ·rename_i c
   exfalso;have:bN (.call c)=true:=uL;rw[hp]at this;cases this
theorem P2{mk:kF}{s:SS}{loc:Bool}{o:Op}{C:Value->SS->Prop}(h:wpOp P (bz (P ()) H F) mk loc o s C):∀x,(∃ty,o=.load ty x)\/(∃ty y,o=.store ty x y)\/(∃src dst,o=.convert src dst x)->(ev s x).isSome=true:=by
 rintro x (⟨ty,rfl⟩|⟨ty,y,rfl⟩|⟨src,dst,rfl⟩)
 ·simp only[wpOp]at h
  split at h
  ·rename_i a ha;rw[ha];rfl
  ·exact h.elim
 ·simp only[wpOp]at h
  split at h
  ·rename_i a v ha hv;rw[ha];rfl
  ·exact h.elim
 ·simp only[wpOp]at h
  split at h
  ·rename_i a n c ha;rw[ha];rfl
  ·rename_i a _ ha;rw[ha];rfl
  ·exact h.elim
theorem JZ{o:Op}{c:Call}(h:eQ o=some c){loc:Bool}{id tag:Nat}{t:St}:eO o loc id tag t=.all/\iO o=false:=by
 unfold eQ at h;split at h
 ·rename_i c'
  split at h
  ·rename_i x hx
   obtain⟨callee,args,tys⟩:=c';subst hx;exact⟨rfl,rfl⟩
  ·cases h
 ·cases h
theorem Eg{o:Op}(h:small o=false){loc:Bool}{id tag:Nat}{s:SS}{t:St}(hs:Le s t){mk:kF}{C:Value->SS->Prop}{h2:af}(hw:wpOp P (bz (P ()) H F) mk loc o { s with h:=h2 } C):eO o loc id tag t=RY o loc id tag s/\iO o=false:=by
 unfold eO RY;have hp:bN o=false:=by
  unfold small at h;split at h
  all_goals first|(cases h;done)|exact h
 rw[hp];simp only[cond_false];cases o<;>first|(simp[small]at h;done)|exact⟨rfl,rfl⟩|skip
 rename_i c;refine⟨?_,rfl⟩;obtain⟨callee,args,tys⟩:=c;cases callee<;>try rfl
 rename_i b;cases b<;>try rfl
 simp only[]
 congr 2
 simp only[wpOp]at hw;cases ha:args.toList with
 |nil=>rfl
 |cons x r=>
  rw[ha]at hw;have Y3:∀x,ev { s with h:=h2 } x=ev s x:=fun x=>by cases x<;>rfl
  simp only[Af,Y3]at hw;show bK t x=ev s x;cases hx:ev s x with
  |none=>rw[hx]at hw;exact hw.elim
  |some v=>exact hs.ev hx
theorem nK(hF:aY F){f:FuncId}{nt:Nat}{ops:Array Oper}{base aQ:Nat}:∀(l:List Nat) (i:Nat) (s:SS) (t:St) (Q:SS->List (Nat×FP×Bool)->Prop),Le s t->t.h.low<=t.h.next->base<=t.h.next->kG P H (bz (P ()) H F) f nt ops base aQ l i s Q->
  ∃n t' s' iA,rT (P ()) H (cH (P ()) H F n).call f nt ops base aQ l i t=some (t',iA)/\Le s' t'/\Q s' iA
 | [],i,s,t,Q,hs,hl,hb,h=>⟨0,t,s,[],rfl,hs,h⟩
 |p :: rest,i,s,t,Q,hs,hl,hb,h=>by
  simp only[kG]at h;simp only[rT];split at h
  ·exact h.elim
  ·rename_i o Y4
   simp only[Y4];rcases yW hs h with ⟨hw,s1,gm,e1,e2,h⟩|⟨hw,s1,gm,e1,e2,h⟩
   ·simp only[hw]
    have vD:(t.fresh).h=(bz (P ()) H F).fresh s1.h:=by
     rw[<-gm.h];rfl
    split at h
    ·rename_i c hc
     split at h
     ·rename_i g args hg
      obtain⟨v,h',⟨n1,hr⟩,h⟩:=h.ex;have h:=yR h;have hk:bL t.h.next t.fresh.h h':=by
       have:=(hO hF n1).2.2 _ _ _ _ _ hr;rw[<-vD]at this;exact this
      have pY:Le { s1 with h:=(bz (P ()) H F).aw s1.h h' } (St.aw { t with h:=h' } t.h.low):=⟨gm.env,gm.K,gm.kn,by show af.aw h' t.h.low=af.aw h' s1.h.low;rw[gm.h]⟩;obtain⟨t3,s3,hp,wU,h,eh⟩:=pY.put h;have k2:bL base t.h t3.h:=by rw[eh];exact ju (s1:={ t with h:=h' }) (hk.mono hb)
      obtain⟨n2,t4,s4,iA,ho,Ag,hQ⟩:=nK hF rest (i+1) s3 t3 _ wU (Nat.le_trans k2.low (Nat.le_trans hl k2.next)) (Nat.le_trans hb k2.next) h;refine⟨max n1 n2,t4,s4,_,?_,Ag,hQ⟩;have pD:jN (P ()) H (cH (P ()) H F (max n1 n2)).call f (base+i) (aQ+i) o t.fresh=some (v,{ t with h:=h' }):=by
       unfold jN;have P3:Le { s1 with h:=t.fresh.h } t.fresh:=⟨gm.env,gm.K,gm.kn,rfl⟩;have wo:j7 (fun y=>aX+y) { s1 with h:=t.fresh.h } c=some (g,args):=by
        have Y3:∀x,ev { s1 with h:=t.fresh.h } x=ev s1 x:=fun x=>by cases x<;>rfl
        have aaq:∀l,Af { s1 with h:=t.fresh.h } l=Af s1 l:=fun l=>by
         induction l with
         |nil=>rfl
         |cons x r ih=>simp only[Af,Y3,ih]
        have:=hg;unfold j7 at this ⊢;simp only[Y3,aaq];exact this
       have hca:kU t.fresh c=some (g,args):=P3.callee wo;simp only[hc,jP,hca];have:(cH (P ()) H F (max n1 n2)).call g args t.fresh.h=some (v,h'):=by
        rw[vD];exact(ko (Nat.le_max_left n1 n2)).call _ _ _ _ hr
       simp only[this];rfl
      simp only[pD,hp,rD (ko (Nat.le_max_right n1 n2)).call _ _ _ _ ho];obtain⟨f1,f2⟩:=JZ (o:=o.op) hc (loc:=fz H f o) (id:=base+i) (tag:=aQ+i) (t:=t);rw[f1,f2,Bool.false_or,gm.h];rfl
     ·exact h.elim
    ·rename_i hc
     rcases tK h with ⟨uL,h⟩|⟨uL,h⟩
     rotate_left
     ·have P3:Le { s1 with h:=(bz (P ()) H F).fresh s1.h } t.fresh:=⟨gm.env,gm.K,gm.kn,vD⟩
      have kH:=h;obtain⟨v,t2,s2,ho,pY,h⟩:=Cg (m:=t.fresh.newAt (base+i) (aQ+i)) GL.id (t:=t.fresh) P3 (Bd GL.id (base+i) (aQ+i) _ t.fresh P3) (.inr fun _=>rfl) h;have pD:∀n,jN (P ()) H (cH (P ()) H F n).call f (base+i) (aQ+i) o t.fresh=some (v,t2):=by
       intro n;unfold jN;simp only[hc];exact ho
      have hk:bL base t.fresh.h t2.h:=uY (hO hF 0).2.2 hb (Nat.le_add_right _ _) (pD 0);have wU:Le { s2 with h:=(bz (P ()) H F).aw s1.h s2.h } (t2.aw t.h.low):=⟨pY.env,pY.K,pY.kn,by
       show af.aw t2.h t.h.low=af.aw s2.h s1.h.low;rw[gm.h,show t2.h=s2.h from pY.h]⟩
      obtain⟨t3,s3,hp,wU,h,eh⟩:=wU.put h;have k2:bL base t.h t3.h:=by rw[eh];exact ju hk
      obtain⟨n2,t4,s4,iA,My,Ag,hQ⟩:=nK hF rest (i+1) s3 t3 _ wU (Nat.le_trans k2.low (Nat.le_trans hl k2.next)) (Nat.le_trans hb k2.next) h;refine⟨n2,t4,s4,_,?_,Ag,hQ⟩;simp only[pD,hp,My];obtain⟨f1,f2⟩:=Eg uL (loc:=fz H f o) (id:=base+i) (tag:=aQ+i) gm kH;rw[f1,f2,Bool.false_or,gm.h,show t2.h=s2.h from pY.h];rfl
     have hX:=GL.aw t.h.low;have hsX:Le s1 (lV (fun h=>h.aw t.h.low) t.fresh):=⟨gm.env,gm.K,gm.kn,by
      show af.aw t.fresh.h t.h.low=s1.h;rw[<-gm.h];have:Nat.min t.h.low t.h.next=t.h.low:=Nat.min_eq_left hl;show({ next:=t.h.next,low:=Nat.min t.h.low t.h.next,m:=t.h.m }:af)=t.h;rw[this]⟩
     have RS:=P2 h;obtain⟨v,t2,s2,ho,pY,h⟩:=Cg (m:=t.fresh.newAt (base+i) (aQ+i)) hX hsX (Bd hX (base+i) (aQ+i) s1 t.fresh hsX) (.inl uL) h;have pD:∀n,jN (P ()) H (cH (P ()) H F n).call f (base+i) (aQ+i) o t.fresh=some (v,t2):=by
      intro n;unfold jN;simp only[hc];exact ho
     have hk:bL base t.fresh.h t2.h:=uY (hO hF 0).2.2 hb (Nat.le_add_right _ _) (pD 0);obtain⟨t3,s3,hp,wU,h,eh⟩:=Le.put (t:=t2.aw t.h.low) pY h;have k2:bL base t.h t3.h:=by rw[eh];exact ju hk
     obtain⟨n2,t4,s4,iA,My,Ag,hQ⟩:=nK hF rest (i+1) s3 t3 _ wU (Nat.le_trans k2.low (Nat.le_trans hl k2.next)) (Nat.le_trans hb k2.next) h;refine⟨n2,t4,s4,_,?_,Ag,hQ⟩;simp only[pD,hp,My];rw[WO gm uL RS];have Jv:(iO o.op || Nat.blt t2.h.low t.h.next)=iO o.op:=by
      cases uW:iO o.op with
      |true=>rfl
      |false=>
       rw[PZ uL uW ho];exact cM (Nat.le_refl _)
     rw[Jv];rfl
   ·simp only[hw]
    obtain⟨t3,s3,hp,wU,h,eh⟩:=gm.put h;obtain⟨n2,t4,s4,iA,My,Ag,hQ⟩:=nK hF rest (i+1) s3 t3 _ wU (by rw[eh];exact hl) (by rw[eh];exact hb) h;refine⟨n2,t4,s4,_,?_,Ag,hQ⟩;simp only[hp,My]
theorem J3(hF:aY F){f:FuncId}{nt:Nat}{ops:Array Oper}{s:SS}{t:St}{Q:SS->Prop}(hs:Le s t)(hl:t.h.low<=t.h.next)(h:Cd P H (bz (P ()) H F) f nt ops s Q) :
  ∃n t' s',r8 (P ()) H (cH (P ()) H F n).call f nt ops t=some t'/\Le s' t'/\Q s':=by
 unfold Cd at h;obtain⟨hd,h⟩:=kO h;have gm:Le { s with kn:=s.kn+ops.size,h:=s.h.aG ops.size } (t.js ops.size):=⟨hs.env,hs.K,by show t.kn+ops.size=_;rw[hs.kn],by show af.aG t.h ops.size=_;rw[hs.h]⟩;obtain⟨n,t',s',iA,ho,pZ,h⟩:=nK hF _ _ _ _ _ gm (by show t.h.low<=t.h.next+ops.size;omega) (by show s.h.next<=t.h.next+ops.size;rw[hs.h];omega) h;obtain⟨hf,h⟩:=yY h;refine⟨n,t',s',?_,pZ,h⟩;unfold r8;have my:rT (P ()) H (cH (P ()) H F n).call f nt ops t.h.next t.kn (gp ops) 0 (t.js ops.size)=some (t',iA):=by
  rw[hs.h,hs.kn];exact ho
 have Ly:Dt ops (t.h.next+ops.size) iA=true:=by rw[hs.h];exact hf
 simp only[hd,cond_true,my,Ly]
theorem ma{α:Type}{b:Bool}{x y:α}(h:(bif b then some x else none)=some y):b=true/\x=y:=by
 cases b with
 |true=>exact⟨rfl,by simpa using h⟩
 |false=>cases h
theorem Ch{α:Type}{b:Bool}{x:α}(h:b=true):(bif b then some x else none)=some x:=by rw[h];rfl
theorem Eh{f:FuncId}{c:Code}{kn:Nat}{s s0:SS}{t:St}(hs:Le s t)(h:Ij H f c kn s=some s0):∃t0,norm H f c kn t=some t0/\Le s0 t0/\t0.h=t.h:=by
 unfold Ij at h;unfold norm;split at h
 ·rename_i hk
  simp only[oi]at h;subst h;rw[hk];exact⟨t,rfl,hs,rfl⟩
 ·rename_i l hk
  rw[hk];obtain⟨hb,rfl⟩:=ma h
  ·simp only[Bool.and_eq_true]at hb
   have key:∀(ks:List Tmp) (acc:cW Value) (i:Nat),(restrict t.env ks acc).get i=if i∈ks/\(t.env.get i).isSome then t.env.get i else acc.get i:=by
    intro ks
    induction ks with
    |nil=>intro acc i;simp[restrict]
    |cons k ks ih=>
     intro acc i;simp only[restrict];split
     ·rename_i v hv
      rw[ih,cW.bP];by_cases e:k=i
      ·subst e;simp[hv]
      ·have:¬i=k:=fun h=>e h.symm
       simp[e,this]
     ·rename_i hv
      rw[ih];by_cases e:k=i
      ·subst e;simp[hv]
      ·have:¬i=k:=fun h=>e h.symm
       simp[this]
   refine⟨{ t with env:=restrict t.env l .leaf,kn:=kn },?_,⟨?_,fun i v hv=>hs.K i v (qC _ _ _ _ hv),rfl,hs.h⟩,?_⟩
   ·refine Ch ?_
    rw[show Nat.ble kn t.kn=true by rw[hs.kn];exact hb.1,Bool.true_and,List.all_eq_true];intro i hi;have h1:=List.all_eq_true.1 hb.2 i hi;split at h1
    ·rename_i v hv
     rw[key,if_pos ⟨hi,by rw[hs.env _ _ hv];rfl⟩,hs.env _ _ hv];exact h1
    ·cases h1
   ·intro i v hv
    have hm:∀(ks:List Tmp),lk (qy s.env ks) i=some v->i∈ks:=by
     intro ks
     induction ks with
     |nil=>intro h;cases h
     |cons k ks ih=>
      intro h;simp only[qy]at h;split at h
      ·rw[kZ]at h
       by_cases e:k=i
       ·simp[e]
       ·rw[if_neg e]at h;simp[ih h]
      ·simp[ih h]
    have h2:=hs.env _ _ (qC _ _ _ _ hv);show(restrict t.env l .leaf).get i=some v;rw[key,if_pos ⟨hm _ hv,by rw[h2];rfl⟩];exact h2
   ·rfl
theorem vQ{B:Nat}{h h':af}(k:bL B h h')(hl:h.low<=h.next):h'.low<=h'.next:=Nat.le_trans k.low (Nat.le_trans hl k.next)
theorem GQ(hF:aY F){f:FuncId}{fn:Func}{c0:Code}(Ae:(P ()).funcs[f]?=some fn)(uM:fn.body=some c0):∀(c:Code) (s:SS) (t:St) (Q:Exit->SS->Prop),((∀b∈bG c,b∈bG c0)/\(∀r∈bH c,r∈bH c0))->Le s t->t.h.low<=t.h.next->wpS P H (bz (P ()) H F) V f fn.ntmps c s Q->∃x t' s',qx (P ()) H F f fn.ntmps c t x t'/\Le s' t'/\Q x s':=by
 have hrk:∀{c:Code} {t t':St} {x:Exit},qx (P ()) H F f fn.ntmps c t x t'->t.h.low<=t.h.next->t'.h.low<=t'.h.next:=by
  rintro c t t' x ⟨n,hn⟩ hl;exact vQ ((hO hF n).1 _ _ _ _ _ _ hn) hl
 intro c
 induction c with
 |skip=>intro s t Q uK hs hl h;exact⟨_,_,_,qx.skip,hs,h⟩
 |ret=>intro s t Q uK hs hl h;exact⟨_,_,_,qx.ret,hs,h⟩
 |exit id=>intro s t Q uK hs hl h;exact⟨_,_,_,qx.exit,hs.fZ _,h⟩
 |seq a b Cj s8=>
  intro s t Q uK hs hl h;simp only[wpS]at h;obtain⟨x,t1,s1,h1,gm,h⟩:=Cj _ _ _ ⟨fun b hb=>uK.1 b (by simp only[bG,List.mem_append];exact .inl hb),fun b hb=>uK.2 b (by simp only[bH,List.mem_append];exact .inl hb)⟩ hs hl h;unfold JV at h;split at h
  ·obtain⟨y,t2,s2,h2,pY,h⟩:=s8 _ _ _ ⟨fun b hb=>uK.1 b (by simp only[bG,List.mem_append];exact .inr hb),fun b hb=>uK.2 b (by simp only[bH,List.mem_append];exact .inr hb)⟩ gm (hrk h1 hl) h
   exact⟨_,_,_,qx.seq h1 h2,pY,h⟩
  ·rename_i hx
   exact⟨_,_,_,qx.Tt h1 hx,gm,h⟩
 |cond x a b Cj s8=>
  intro s t Q uK hs hl h;simp only[wpS]at h;split at h
  ·rename_i v hv
   rcases Il h with ⟨rfl,h1⟩|⟨rfl,h1⟩
   ·obtain⟨y,t2,s2,h2,pY,h3⟩:=Cj _ _ _ ⟨fun b hb=>uK.1 b (by simp only[bG,List.mem_append];exact .inl hb),fun b hb=>uK.2 b (by simp only[bH,List.mem_append];exact .inl hb)⟩ hs hl h1
    exact⟨_,_,_,qx.cond (hs.ev hv) h2,pY,h3⟩
   ·obtain⟨y,t2,s2,h2,pY,h3⟩:=s8 _ _ _ ⟨fun b hb=>uK.1 b (by simp only[bG,List.mem_append];exact .inr hb),fun b hb=>uK.2 b (by simp only[bH,List.mem_append];exact .inr hb)⟩ hs hl h1
    exact⟨_,_,_,qx.cond (hs.ev hv) h2,pY,h3⟩
  ·exact h.elim
 |block id b s8=>
  intro s t Q uK hs hl h;simp only[wpS]at h;obtain⟨x,t1,s1,h1,gm,h⟩:=s8 _ _ _ ⟨fun b hb=>uK.1 b hb,fun b hb=>uK.2 b hb⟩ hs hl h;have h0:=qx.block (id:=id) h1;cases x with
  |exit pQ=>
   simp only[GJ]at h h0;cases hb:Nat.beq pQ id with
   |true=>rw[hb]at h h0;exact⟨_,_,s1,h0,gm,h⟩
   |false=>rw[hb]at h h0;exact⟨_,_,s1,h0,gm,h⟩
  |normal=>exact⟨_,_,s1,h0,gm,h⟩
  |ret=>exact⟨_,_,s1,h0,gm,h⟩
  |goto l=>exact⟨_,_,s1,h0,gm,h⟩
  |panic=>exact⟨_,_,s1,h0,gm,h⟩
  |outgrown=>exact⟨_,_,s1,h0,gm,h⟩
 |loop b s8=>
  intro s t Q uK hs hl h;simp only[wpS]at h;split at h
  ·rename_i s0 hn
   obtain⟨t0,xQ,WB,eh⟩:=Eh hs hn;have hw:WH (P ()) H F f fn.ntmps b s.kn (cY.fZ s0 (V.loop f (keyOf b))) Q:=h fn c0 b Ae uM (uK.1 b (by simp[bG])) rfl;obtain⟨x,t',s',⟨n,hh⟩,pZ,hQ⟩:=hw.ex t0 (WB.fZ _) (by rw[eh];exact hl);refine⟨x,t',s',qx.loop ⟨n+1,?_⟩,pZ,hQ⟩;show pR H (cH (P ()) H F n) f fn.ntmps b t.kn t=_;unfold pR;rw[hs.kn,xQ];exact hh
  ·exact h.elim
 |region id ops draw=>
  intro s t Q uK hs hl h;simp only[wpS]at h;cases draw with
  |true=>
   simp only[cond_true]at h;obtain⟨n,t',s',hd,pZ,hQ⟩:=J3 hF (hs.fZ _) hl h;refine⟨_,t',s',⟨n+1,?_⟩,pZ,hQ⟩;show og (P ()) H (cH (P ()) H F n) f fn.ntmps (.region id ops true) t=_;unfold og;simp only[cond_true,hd]
  |false=>
   simp only[cond_false]at h;obtain⟨n,t',s',hd,pZ,hQ⟩:=tL _ _ _ _ (hs.fZ _) h;refine⟨_,t',s',⟨n+1,?_⟩,pZ,hQ⟩;show og (P ()) H (cH (P ()) H F n) f fn.ntmps (.region id ops false) t=_;unfold og;simp only[cond_false,hd]
 |rangeFunc x ps as bo _ _=>
  intro s t Q uK hs hl h;have hw:WR (P ()) H F f fn.ntmps x ps as bo s Q:=h fn c0 x ps as bo Ae uM (uK.2 _ (by simp[bH])) rfl;exact hw.ex t hs hl
 |scope=>intro s t Q uK hs hl h;exact h.elim
 |label=>intro s t Q uK hs hl h;exact h.elim
 |goto=>intro s t Q uK hs hl h;exact h.elim
 |refuse=>intro s t Q uK hs hl h;exact h.elim
theorem WH.round(hF:aY F){f:FuncId}{fn:Func}{c0:Code}(Ae:(P ()).funcs[f]?=some fn)(uM:fn.body=some c0){b:Code}(hb:b∈bG c0)(aar:(∀b'∈bG b,b'∈bG c0)/\(∀r∈bH b,r∈bH c0)){kn:Nat}{s:SS}{Q:Exit->SS->Prop}(h:wT P H (bz (P ()) H F) V f fn.ntmps b kn s Q):WH (P ()) H F f fn.ntmps b kn s Q:=by
 refine⟨fun t hs hl=>?_⟩;unfold wT at h;obtain⟨x,t1,s1,⟨n1,h1⟩,gm,h⟩:=GQ hF Ae uM _ _ _ _ aar hs hl h;unfold JV at h;have Ah:t1.h.low<=t1.h.next:=vQ ((hO hF n1).1 _ _ _ _ _ _ h1) hl;split at h
 ·split at h
  ·rename_i s2 hn
   obtain⟨t0,xQ,WB,eh⟩:=Eh gm hn;have hw:WH (P ()) H F f fn.ntmps b kn (cY.fZ s2 (V.loop f (keyOf b))) Q:=h fn c0 b Ae uM hb rfl;obtain⟨y,t',s',⟨n2,hh⟩,pZ,hQ⟩:=hw.ex t0 (WB.fZ _) (by rw[eh];exact Ah);refine⟨y,t',s',⟨max n1 (n2+1),?_⟩,pZ,hQ⟩;rw[(ko (Nat.le_max_left n1 (n2+1))).run _ _ _ _ _ h1];simp only[];refine(ko (Nat.le_max_right n1 (n2+1))).loop _ _ _ _ _ _ ?_;show pR H (cH (P ()) H F n2) f fn.ntmps b kn t1=_;unfold pR;rw[xQ];exact hh
  ·exact h.elim
 ·rename_i hx
  refine⟨x,t1,s1,⟨n1,?_⟩,gm,h⟩;rw[h1];cases x<;>first|rfl|exact absurd rfl hx
theorem Ay:∀(c b b':Code),b∈bG c->b'∈bG b->b'∈bG c:=by
 intro c
 induction c with
 |seq a b Cj s8=>
  intro x y hx hy;simp only[bG,List.mem_append]at hx ⊢;exact hx.imp (fun h=>Cj _ _ h hy) (fun h=>s8 _ _ h hy)
 |cond _ a b Cj s8=>
  intro x y hx hy;simp only[bG,List.mem_append]at hx ⊢;exact hx.imp (fun h=>Cj _ _ h hy) (fun h=>s8 _ _ h hy)
 |block _ b s8=>intro x y hx hy;exact s8 _ _ hx hy
 |loop b s8=>
  intro x y hx hy;simp only[bG,List.mem_cons]at hx ⊢;rcases hx with rfl|hx
  ·exact .inr hy
  ·exact .inr (s8 _ _ hx hy)
 |rangeFunc _ _ a b Cj s8=>
  intro x y hx hy;simp only[bG,List.mem_append]at hx ⊢;exact hx.imp (fun h=>Cj _ _ h hy) (fun h=>s8 _ _ h hy)
 |_=>intro x y hx hy;simp[bG]at hx
theorem dr:∀(c:Code),bE c=true->bH c=[]
 | .seq a b,h=>by simp only[bE,Bool.and_eq_true]at h;simp[bH,dr a h.1,dr b h.2]
 | .cond _ a b,h=>by simp only[bE,Bool.and_eq_true]at h;simp[bH,dr a h.1,dr b h.2]
 | .block _ b,h=>by simp only[bE]at h;simp[bH,dr b h]
 | .loop b,h=>by simp only[bE]at h;simp[bH,dr b h]
 | .rangeFunc _ _ _ _,h=>by simp[bE]at h
 | .skip,_=>rfl
 | .ret,_=>rfl
 | .exit _,_=>rfl
 | .region _ _ _,_=>rfl
 | .scope _,_=>rfl
 | .label _,_=>rfl
 | .goto _,_=>rfl
 | .refuse _,_=>rfl
def yZ(r:Operand×Array Tmp×Code×Code):Prop:=bE r.2.2.1=true/\bE r.2.2.2=true
theorem Ei:∀(c b:Code),b∈bG c->(∀r∈bH c,yZ r)->∀r∈bH b,r∈bH c:=by
 intro c
 induction c with
 |seq a b Cj s8=>
  intro x hx hp r hr;simp only[bG,List.mem_append]at hx;simp only[bH,List.mem_append]at hp ⊢;exact hx.imp (fun h=>Cj _ h (fun r hr=>hp r (.inl hr)) r hr) (fun h=>s8 _ h (fun r hr=>hp r (.inr hr)) r hr)
 |cond _ a b Cj s8=>
  intro x hx hp r hr;simp only[bG,List.mem_append]at hx;simp only[bH,List.mem_append]at hp ⊢;exact hx.imp (fun h=>Cj _ h (fun r hr=>hp r (.inl hr)) r hr) (fun h=>s8 _ h (fun r hr=>hp r (.inr hr)) r hr)
 |block _ b s8=>intro x hx hp r hr;exact s8 _ hx hp r hr
 |loop b s8=>
  intro x hx hp r hr;simp only[bG,List.mem_cons]at hx;rcases hx with rfl|hx
  ·exact hr
  ·exact s8 _ hx hp r hr
 |rangeFunc x0 ps a b Cj s8=>
  intro x hx hp r hr;obtain⟨h1,h2⟩:=hp (x0,ps,a,b) (by simp[bH]);simp only[bG,List.mem_append]at hx;exfalso;rcases hx with hx|hx
  ·have:=Cj x hx (fun r hr=>by rw[dr a h1]at hr;cases hr) r hr
   rw[dr a h1]at this;cases this
  ·have:=s8 x hx (fun r hr=>by rw[dr b h2]at hr;cases hr) r hr
   rw[dr b h2]at this;cases this
 |_=>intro x hx hp r hr;simp[bG]at hx
def mX:List (Nat×Value)->List Tmp->List Value->List (Nat×Value)
 |e,t :: ts,v :: vs=>mX ((t,v) :: e) ts vs
 |e,_,_=>e
theorem y5{s:SS}{t:St}(hs:Le s t):∀(r:List ResultVar) (C:List Value->Prop),px P (bz (P ()) H F) s r C->∃l,wk (P ()) t r=some l/\C l
 | [],C,h=>⟨[],rfl,h⟩
 | .tmp i :: r,C,h=>by
  simp only[px]at h;simp only[wk];split at h
  ·rename_i v hv
   obtain⟨l,hl,hC⟩:=y5 hs r _ h;simp only[hs.env _ _ hv,hl];exact⟨_,rfl,hC⟩
  ·exact h.elim
 | .cell a ty :: r,C,h=>by
  simp only[px]at h;simp only[wk];split at h
  ·rename_i x hx
   obtain⟨v,hv,h⟩:=Bb GL.id (t:=t) hs h;obtain⟨l,hl,hC⟩:=y5 hs r _ h;simp only[hs.env _ _ hx,hv,hl];exact⟨_,rfl,hC⟩
  ·exact h.elim
theorem Ck:∀(l:List Value) (i:Nat) (acc:List (Nat×Value)),fS l i (E acc)=E (sq l i acc)
 | [],i,acc=>rfl
 |v :: r,i,acc=>by
  simp only[fS,sq];exact Ck r (i+1) ((i,v) :: acc)
theorem Im(s:SS):Le s ⟨E s.env,s.kn,E s.K,s.h⟩:=⟨fun i v h=>by rw[RZ];exact h,fun i v h=>by rw[RZ];exact h,rfl,rfl⟩
theorem WC.body(hF:aY F){g:FuncId}{fn:Func}{args:List Value}{h:af}{Q:Value->af->Prop}(hg:g<aX)(hf:(P ()).funcs[g]?=some fn)(hn:F g args h=none)(hl:h.low<=h.next)(hw:Ed P H (bz (P ()) H F) V g fn args h Q):WC (P ()) H F g args h Q:=by
 unfold Ed at hw;split at hw
 ·rename_i c hb
  obtain⟨x,t',s',hr,pZ,hQ⟩:=GQ hF hf hb c _ _ _ ⟨fun _ h=>h,fun _ h=>h⟩ (Im ⟨sq args 0 [],0,[],h⟩) hl hw;have wD:qx (P ()) H F g fn.ntmps c { env:=fS args 0 .leaf,kn:=0,K:=.leaf,h:=h } x t':=by
   have e:=Ck args 0 [];simp only[E]at e;rw[e];exact hr
  have fin:∀(C:List Value->Prop),(∀l,C l->l.all dD=true/\Q (jr l) s'.h)->px P (bz (P ()) H F) s' fn.results.toList C->∃v h',wm (P ()) fn t'=some (v,h')/\Q v h':=by
   intro C hC At;obtain⟨l,BM,hc⟩:=y5 pZ _ _ At;obtain⟨h1,h2⟩:=hC l hc;refine⟨_,_,?_,h2⟩;unfold wm;simp only[BM,h1,cond_true,pZ.h]
  unfold Tz at hQ;split at hQ
  ·obtain⟨v,h',he,hq⟩:=fin _ (fun l hl=>kO hl) hQ
   exact⟨⟨v,h',Pe.body hn hg hf hb wD (.inl rfl) he,hq⟩⟩
  ·obtain⟨v,h',he,hq⟩:=fin _ (fun l hl=>kO hl) hQ
   exact⟨⟨v,h',Pe.body hn hg hf hb wD (.inr rfl) he,hq⟩⟩
  ·exact hQ.elim
 ·exact hw.elim
structure AOK(P:Unit->Program)(H:Hint)(F:bk)(A:bI):Prop where
 eq:A=bz (P ()) H F
 bj:aY F
theorem AOK.body{A:bI}(hA:AOK P H F A)(V:Live){g:FuncId}{fn:Func}{args:List Value}{h:af}{Q:Value->af->Prop}(hg:g<aX)(hf:(P ()).funcs[g]?=some fn)(hn:F g args h=none)(hl:h.low<=h.next)(hw:Ed P H A V g fn args h Q):A.call g args h Q:=by
 have e:=hA.eq;subst e;exact WC.body hA.bj hg hf hn hl hw
theorem AOK.round{A:bI}(hA:AOK P H F A)(V:Live){f:FuncId}{fn:Func}(Ae:(P ()).funcs[f]?=some fn){key kn:Nat}{s:SS}{Q:Exit->SS->Prop}(hw:Ce P H A V f fn key kn s Q):A.head f key kn s Q:=by
 have e:=hA.eq;subst e;intro RH c b h1 h2 h3 h4;rw[Ae]at h1;obtain rfl:=Option.some.inj h1;unfold Ce at hw;rw[h2]at hw;simp only[]at hw;have hm:b∈(bG c).filter (fun b=>Nat.beq (keyOf b) key):=by
  rw[List.mem_filter];exact⟨h3,by subst h4;simp⟩
 split at hw
 ·rename_i b' uX
  rw[uX]at hm;simp only[List.mem_singleton]at hm;subst hm;exact WH.round hA.bj Ae h2 h3 ⟨fun b' uX=>Ay _ _ _ h3 uX,Ei _ _ h3 hw.1⟩ hw.2
 ·exact hw.elim
theorem AOK.Mz{A:bI}(hA:AOK P H F A){g:FuncId}{args:List Value}{h h':af}{v:Value}{Q:Value->af->Prop}(hp:F g args h=some (v,h'))(hq:Q v h')(hg:g<aX:=by decide):A.call g args h Q:=by
 have e:=hA.eq;subst e;exact⟨⟨v,h',⟨1,by simp only[cH,o9,show Nat.ble aX g=false from dU hg,cond_false,hp]⟩,hq⟩⟩
