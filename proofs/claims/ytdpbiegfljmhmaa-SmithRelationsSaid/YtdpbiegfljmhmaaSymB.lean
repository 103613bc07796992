import Derived.Test.YtdpbiegfljmhmaaSymA
set_option linter.unusedSimpArgs false
set_option linter.unusedVariables false
namespace Go.Sim
inductive ROp where
 |old (o:Op)
 |new (n:Nat) (cs:List Value)
 |box (n:Nat) (x:Operand)
 |build (z:List Value) (parts:List (Nat×Nat×Operand))
 |buildSlice (n len:Nat) (z:List Value) (parts:List (Nat×Nat×Operand))
 |load (n:Nat) (vs:List Sv) (x:Operand)
 |load1 (v:Sv) (x:Operand)
 |store (n:Nat) (x y:Operand)
 |convI (k:IntKind) (x:Operand)
 |mkSlice (n:Nat) (z:List Value) (l c:Operand)
 |cutS (t:TypeId) (x:Operand) (lo hi mx:Option Operand)
 |fieldAddr (off:Nat) (x:Operand)
 |fieldN (off n:Nat) (x:Operand)
 |field1 (off:Nat) (x:Operand)
 |ixS (n:Nat) (x i:Operand)
 |ixA (len n:Nat) (x i:Operand)
 |lenS (x:Operand)
 |lenStr (x:Operand)
def places3(place:Nat->Option (Nat×Nat)):List (Nat×Operand)->Option (List (Nat×Nat×Operand))
 | []=>some []
 |(i,x) :: r=>
  match place i with
  |some (o,n)=>
   match places3 place r with
   |some l=>some ((o,n,x) :: l)
   |none=>none
  |none=>none
def evParts3(s:SS):List (Nat×Nat×Operand)->Option (List (Nat×Nat×Value))
 | []=>some []
 |(o,n,x) :: r=>
  match ev s x with
  |some v=>
   match evParts3 s r with
   |some l=>some ((o,n,v) :: l)
   |none=>none
  |none=>none
def putR:List Value->List (Nat×Nat×Value)->Option (List Value)
 |cells,[]=>some cells
 |cells,(off,size,v) :: rest=>
  bif Nat.beq v.cells.toList.length size && v.cells.toList.all cellOK then
   match splice cells off v.cells.toList with
   |some cs=>putR cs rest
   |none=>none
  else none
theorem places3_ok{place:Nat->Option (Nat×Nat)}{s:SS}:∀{l:List (Nat×Operand)} {l3:List (Nat×Nat×Operand)},places3 place l=some l3->
  (evParts s l=none/\evParts3 s l3=none)\/∃lv lv3,evParts s l=some lv/\evParts3 s l3=some lv3/\∀cells,putParts place cells lv=putR cells lv3
 | [],l3,h=>by
  simp only[places3,oi]at h;subst h;exact .inr ⟨[],[],rfl,rfl,fun _=>rfl⟩
 |(i,x) :: r,l3,h=>by
  simp only[places3]at h;split at h
  ·rename_i o n hp
   split at h
   ·rename_i l hl
    simp only[oi]at h;subst h;cases hx:ev s x with
    |none=>exact .inl ⟨by simp only[evParts,hx],by simp only[evParts3,hx]⟩
    |some v=>
     rcases places3_ok (s:=s) hl with ⟨h1,h2⟩|⟨lv,lv3,h1,h2,h3⟩
     ·exact .inl ⟨by simp only[evParts,hx,h1],by simp only[evParts3,hx,h2]⟩
     ·refine .inr ⟨(i,v) :: lv,(o,n,v) :: lv3,by simp only[evParts,hx,h1],by simp only[evParts3,hx,h2],fun cells=>?_⟩
      simp only[putParts,putR,hp];cases hb:(Nat.beq v.cells.toList.length n && v.cells.toList.all cellOK)with
      |false=>rfl
      |true=>
       simp only[cond_true];cases hs:splice cells o v.cells.toList with
       |none=>rfl
       |some cs=>exact h3 cs
   ·cases h
  ·cases h
def wpROp(P:Unit->Program)(A:Atoms)(mk:SMaker)(loc:Bool)(r:ROp)(s:SS)(C:Value->SS->Prop):Prop:=
 match r with
 | .old o=>wpOp P A mk loc o s C
 | .new n cs=>mk loc n cs s C
 | .box n x=>
  match ev s x with
  |some v=>bif v.cells.toList.all cellOK then mk loc n v.cells.toList s C else False
  |none=>False
 | .build z parts=>
  match evParts3 s parts with
  |some l=>match putR z l with|some cs=>C (.agg cs.toArray) s|none=>False
  |none=>False
 | .buildSlice n len z parts=>
  match evParts3 s parts with
  |some l=>
   match putR z l with
   |some cs=>
    bif cs.all cellOK then
     mk false n cs s fun v s'=>
      match v with
      | .pointer (some a)=>C (.slice (some a) len len) s'
      |_=>False
    else False
   |none=>False
  |none=>False
 | .load n vs x=>
  match ev s x with
  |some (.pointer (some a))=>wpRead A s a n vs fun l=>C (.agg l.toArray) s
  |_=>False
 | .load1 v x=>
  match ev s x with
  |some (.pointer (some a))=>wpRead A s a 1 [v] fun l=>
   match l with
   | [v]=>C v s
   |_=>False
  |_=>False
 | .store n x y=>
  match ev s x,ev s y with
  |some (.pointer (some a)),some v=>bif Nat.beq v.cells.toList.length n then wpWrite A s a v.cells.toList (fun s'=>C undef s')else False
  |_,_=>False
 | .convI k x=>
  match ev s x with
  |some (.int _ n)=>C (.int k (A.conv k n)) s
  |_=>False
 | .mkSlice n z l c=>
  match ev s l,ev s c with
  |some (.int _ l),some (.int _ c)=>
   A.mkOK l c/\A.brk fun _=>mk false n (A.zeros z c) s fun v s'=>
    match v with
    | .pointer (some a)=>C (.slice (some a) (A.nat l) (A.nat c)) s'
    |_=>False
  |_,_=>False
 | .cutS t x lo hi mx=>
  match ev s x,evOpt s lo,evOpt s hi,evOpt s mx with
  |some (.slice a n c),some lo,some hi,some mx=>
   match lo,hi,mx with
   |none,some (.int _ j),none=>A.cut c j/\A.brk fun _=>C (.slice a (A.nat j) c) s
   |lo,hi,mx=>A.slc t (.slice a n c) lo hi mx fun a' n' c'=>C (.slice a' n' c') s
  |_,_,_,_=>False
 | .fieldAddr off x=>
  match ev s x with
  |some (.pointer (some a))=>
   match a.spot with
   |none=>C (.pointer (some ⟨a.block,A.addN a.off off,none⟩)) s
   |some x=>C (.pointer (some ⟨a.block,a.off+off,some x⟩)) s
  |_=>False
 | .fieldN off n x=>
  match ev s x with
  |some (.agg cs)=>match readN cs.toList off n with|some l=>C (.agg l.toArray) s|none=>False
  |_=>False
 | .field1 off x=>
  match ev s x with
  |some (.agg cs)=>match cs.toList[off]? with|some v=>C v s|none=>False
  |_=>False
 | .ixS n x i=>
  match ev s x,ev s i with
  |some (.slice a len _),some (.int _ i)=>∃b o,a=some ⟨b,o,none⟩/\A.inR i len/\C (.pointer (some ⟨b,A.place o i n,none⟩)) s
  |_,_=>False
 | .ixA len n x i=>
  match ev s x,ev s i with
  |some (.pointer (some a)),some (.int _ i)=>A.inR i len/\A.brk fun _=>C (.pointer (some ⟨a.block,A.place a.off i n,a.spot⟩)) s
  |_,_=>False
 | .lenS x=>
  match ev s x with
  |some (.slice _ n _)=>C (.int .i64 (A.ofNat n)) s
  |_=>False
 | .lenStr x=>
  match ev s x with
  |some (.string b)=>C (.int .i64 (A.slen b)) s
  |_=>False
def resOp(P:Program)(o:Op):ROp:=
 match o with
 | .alloc e=>
  match zeroT P e,sizeT P e with
  |some z,some n=>bif z.cells.toList.all cellOK then .new n z.cells.toList else .old o
  |_,_=>.old o
 | .box e x=>match sizeT P e with|some n=>.box n x|none=>.old o
 | .build t parts=>
  match zeroT P t,P.underlying t with
  |some z,some (.struct fs)=>
   bif fs.toList.all (fun f=>(P.info? f.type).isSome)then
    match places3 (fieldPlaces P fs.toList) parts.toList with
    |some l=>.build z.cells.toList l
    |none=>.old o
   else .old o
  |some z,some (.array _ e)=>
   match sizeT P e with
   |some n=>
    match places3 (fun i=>some (i*n,n)) parts.toList with
    |some l=>.build z.cells.toList l
    |none=>.old o
   |none=>.old o
  |_,_=>.old o
 | .buildSlice t len parts=>
  match P.underlying t with
  |some (.slice e)=>
   match sizeT P e,zeroT P e with
   |some n,some z=>
    bif Nat.ble (len*n) 16777216 && Nat.beq z.cells.toList.length n && Nat.ble len 16777216 then
     match places3 (fun i=>some (i*n,n)) parts.toList with
     |some l=>.buildSlice n len (copies z.cells.toList len) l
     |none=>.old o
    else .old o
   |_,_=>.old o
  |_=>.old o
 | .load t x=>
  match isAggB P t with
  |some true=>match sizeT P t with|some n=>.load n (cellViews (fun _=>P) 12 t) x|none=>.old o
  |some false=>.load1 (svOf (P.underlying t)) x
  |none=>.old o
 | .store t x y=>match sizeT P t with|some n=>.store n x y|none=>.old o
 | .convert src dst x=>
  match P.underlying src,P.underlying dst with
  |some _,some (.int k)=>.convI k x
  |_,_=>.old o
 | .makeSlice t l c=>
  match P.underlying t with
  |some (.slice e)=>
   match sizeT P e,zeroT P e,bytesT P e with
   |some n,some z,some by_=>bif Nat.ble by_ 16384 && Nat.beq z.cells.toList.length n && z.cells.toList.all cellOK then .mkSlice n z.cells.toList l c else .old o
   |_,_,_=>.old o
  |_=>.old o
 | .slice t x lo hi mx=>
  match P.underlying t with
  |some (.slice e)=>bif (sizeT P e).isSome then .cutS t x lo hi mx else .old o
  |_=>.old o
 | .fieldAddr t x f=>
  match P.underlying t with
  |some (.struct fs)=>
   match fs.toList[f]? with
   |some fd=>match sizeT P fd.type with|some n=>bif Nat.beq n 0 then .old o else .fieldAddr fd.offset x|none=>.old o
   |none=>.old o
  |_=>.old o
 | .field t x f=>
  match P.underlying t with
  |some (.struct fs)=>
   match fs.toList[f]? with
   |some fd=>
    match isAggB P fd.type with
    |some true=>match sizeT P fd.type with|some n=>.fieldN fd.offset n x|none=>.old o
    |some false=>.field1 fd.offset x
    |none=>.old o
   |none=>.old o
  |_=>.old o
 | .indexAddr t x i=>
  match P.underlying t with
  |some (.slice e)=>match sizeT P e with|some n=>.ixS n x i|none=>.old o
  |some (.array len e)=>match sizeT P e with|some n=>.ixA len n x i|none=>.old o
  |_=>.old o
 | .call { callee:=.builtin .len,args,argTypes }=>
  match args.toList,argTypes.toList with
  | [x],[t]=>
   match P.underlying t with
   |some (.slice _)=>.lenS x
   |some .string=>.lenStr x
   |_=>.old o
  |_,_=>.old o
 |_=>.old o
set_option maxHeartbeats 1000000 in
theorem resOp_eq(P:Unit->Program)(A:Atoms)(mk:SMaker)(loc:Bool)(o:Op)(s:SS)(C:Value->SS->Prop):wpROp P A mk loc (resOp (P ()) o) s C=wpOp P A mk loc o s C:=by
 unfold resOp;split
 ·
  split
  ·rename_i z n hz hn
   cases hb:z.cells.toList.all cellOK with
   |false=>rfl
   |true=>simp only[cond_true,wpROp,wpOp,hz,hn,hb]
  ·rfl
 ·
  split
  ·rename_i n hn
   simp only[wpROp,wpOp,hn];cases ev s _<;>rfl
  ·rfl
 ·
  split
  ·rename_i z fs hz hu
   cases hb:fs.toList.all (fun f=>((P ()).info? f.type).isSome)with
   |false=>rfl
   |true=>
    simp only[cond_true];split
    ·rename_i l hl
     simp only[wpROp,wpOp,buildA,hz,hu,hb,cond_true];rcases places3_ok (s:=s) hl with ⟨h1,h2⟩|⟨lv,lv3,h1,h2,h3⟩
     ·rw[h1,h2]
     ·rw[h1,h2]
      simp only[h3];cases putR z.cells.toList lv3<;>rfl
    ·rfl
  ·rename_i z x e hz hu
   split
   ·rename_i n hn
    split
    ·rename_i l hl
     simp only[wpROp,wpOp,buildA,hz,hu,hn];rcases places3_ok (s:=s) hl with ⟨h1,h2⟩|⟨lv,lv3,h1,h2,h3⟩
     ·rw[h1,h2]
     ·rw[h1,h2]
      simp only[h3];cases putR z.cells.toList lv3<;>rfl
    ·rfl
   ·rfl
  ·rfl
 ·
  split
  ·rename_i e hu
   split
   ·rename_i n z hn hz
    cases hb:(Nat.ble (_*n) 16777216 && Nat.beq z.cells.toList.length n && Nat.ble _ 16777216)with
    |false=>rfl
    |true=>
     simp only[cond_true];split
     ·rename_i l hl
      simp only[wpROp,wpOp,wpBuildSlice,hu,hn,hz,hb,cond_true];rcases places3_ok (s:=s) hl with ⟨h1,h2⟩|⟨lv,lv3,h1,h2,h3⟩
      ·rw[h1,h2]
      ·rw[h1,h2]
       simp only[h3];cases putR _ lv3 with
       |none=>rfl
       |some cs=>
        refine congrArg (fun K=>bif cs.all cellOK then mk false n cs s K else False) (funext fun v=>funext fun s'=>?_);cases v with
        |pointer a=>cases a<;>rfl
        |_=>rfl
     ·rfl
   ·rfl
  ·rfl
 ·
  split
  ·rename_i ha
   split
   ·rename_i n hn
    simp only[wpROp,wpOp,wpLoad,ha,hn];rfl
   ·rfl
  ·rename_i ha
   simp only[wpROp,wpOp,wpLoad,ha];cases ev s _ with
   |none=>rfl
   |some v=>
    cases v with
    |pointer a=>
     cases a with
     |none=>rfl
     |some a=>
      refine congrArg (wpRead A s a 1 [svOf ((P ()).underlying _)]) (funext fun l=>?_);cases l with
      |nil=>rfl
      |cons v r=>cases r<;>rfl
    |_=>rfl
  ·rfl
 ·
  split
  ·rename_i n hn
   simp only[wpROp,wpOp,wpStore,hn];cases ev s _ with
   |none=>rfl
   |some v=>
    cases ev s _ with
    |none=>
     cases v with
     |pointer a=>cases a<;>rfl
     |_=>rfl
    |some u=>
     cases v with
     |pointer a=>cases a<;>rfl
     |_=>rfl
  ·rfl
 ·
  split
  ·rename_i d k h1 h2
   simp only[wpROp,wpOp,wpConv,h1,h2];cases ev s _ with
   |none=>rfl
   |some v=>cases v<;>rfl
  ·rfl
 ·
  split
  ·rename_i e hu
   split
   ·rename_i n z by_ hn hz hy
    cases hb:(Nat.ble by_ 16384 && Nat.beq z.cells.toList.length n && z.cells.toList.all cellOK)with
    |false=>rfl
    |true=>
     simp only[cond_true,wpROp,wpOp,wpMakeSlice,hu,hn,hz,hy,hb];cases ev s _ with
     |none=>rfl
     |some v=>
      cases ev s _ with
      |none=>cases v<;>rfl
      |some u=>
       cases v with
       |int k l=>
        cases u with
        |int k' c=>
         simp only[hn,hz,hy,hb,cond_true];refine congrArg (fun K=>A.mkOK l c/\A.brk fun _=>mk false n (A.zeros z.cells.toList c) s K) (funext fun v=>funext fun s'=>?_);cases v with
         |pointer a=>cases a<;>rfl
         |_=>rfl
        |_=>rfl
       |_=>cases u<;>rfl
   ·rfl
  ·rfl
 ·
  split
  ·rename_i e hu
   cases hb:(sizeT (P ()) e).isSome with
   |false=>rfl
   |true=>
    simp only[cond_true,wpROp,wpOp,wpSlice,hu,hb];cases ev s _ with
    |none=>rfl
    |some v=>
     cases evOpt s _ with
     |none=>cases v<;>rfl
     |some a=>
      cases evOpt s _ with
      |none=>cases v<;>rfl
      |some b=>
       cases evOpt s _ with
       |none=>cases v<;>rfl
       |some c=>
        cases v with
        |slice ad n cc=>
         simp only[hb,cond_true];cases a with
         |some a=>cases b<;>cases c<;>rfl
         |none=>
          cases b with
          |none=>cases c<;>rfl
          |some b=>
           cases c with
           |some c=>cases b<;>rfl
           |none=>cases b<;>rfl
        |_=>rfl
  ·rfl
 ·
  split
  ·rename_i fs hu
   split
   ·rename_i fd hf
    split
    ·rename_i n hn
     cases hb:Nat.beq n 0 with
     |true=>rfl
     |false=>
      simp only[cond_false,wpROp,wpOp,wpFieldAddr,hu,hf,hn,hb];cases ev s _ with
      |none=>rfl
      |some v=>
       cases v with
       |pointer a=>
        cases a with
        |none=>rfl
        |some a=>simp only[hf,hn,hb,cond_false];cases a.spot<;>rfl
       |_=>rfl
    ·rfl
   ·rfl
  ·rfl
 ·
  split
  ·rename_i fs hu
   split
   ·rename_i fd hf
    split
    ·rename_i ha
     split
     ·rename_i n hn
      simp only[wpROp,wpOp,fieldA,partA,hu,hf,ha,hn];cases ev s _ with
      |none=>rfl
      |some v=>
       cases v with
       |agg cs=>simp only[hf,ha,hn];cases readN cs.toList fd.offset n<;>rfl
       |_=>rfl
     ·rfl
    ·rename_i ha
     simp only[wpROp,wpOp,fieldA,partA,hu,hf,ha];cases ev s _ with
     |none=>rfl
     |some v=>
      cases v with
      |agg cs=>simp only[hf,ha];cases cs.toList[fd.offset]?<;>rfl
      |_=>rfl
    ·rfl
   ·rfl
  ·rfl
 ·
  split
  ·rename_i e hu
   split
   ·rename_i n hn
    simp only[wpROp,wpOp,wpIndexAddr,hu,hn];cases ev s _ with
    |none=>rfl
    |some v=>
     cases ev s _ with
     |none=>cases v<;>rfl
     |some u=>cases v<;>cases u<;>first|rfl|simp only[hn]
   ·rfl
  ·rename_i len e hu
   split
   ·rename_i n hn
    simp only[wpROp,wpOp,wpIndexAddr,hu,hn];cases ev s _ with
    |none=>rfl
    |some v=>
     cases ev s _ with
     |none=>
      cases v with
      |pointer a=>cases a<;>rfl
      |_=>rfl
     |some u=>
      cases v with
      |pointer a=>cases a<;>cases u<;>first|rfl|simp only[hn]
      |_=>cases u<;>rfl
   ·rfl
  ·rfl
 ·
  split
  ·rename_i args argTypes x t hx ht
   split
   ·rename_i e hu
    simp only[wpROp,wpOp,hx,ht,evs,wpLen,hu];cases ev s _ with
    |none=>rfl
    |some v=>simp only[wpLen,hu];cases v<;>rfl
   ·rename_i hu
    simp only[wpROp,wpOp,hx,ht,evs,wpLen,hu];cases ev s _ with
    |none=>rfl
    |some v=>simp only[wpLen,hu];cases v<;>rfl
   ·rfl
  ·rfl
 ·rfl
end Go.Sim
namespace Go.Sim
inductive VV where
 |agg (l:List Sv)
 |one (v:Sv)
inductive RView where
 |tup (l:List VV)
 |val (v:VV)
def exVV:VV->(Value->Prop)->Prop
 | .agg l,C=>exL l fun l=>C (.agg l.toArray)
 | .one v,C=>exS v C
def exVVs:List VV->(List Value->Prop)->Prop
 | [],C=>C []
 |t :: r,C=>exVV t fun v=>exVVs r fun l=>C (v :: l)
def seenR:RView->Value->(Value->Prop)->Prop
 | .tup l,v,C=>exVVs l fun l=>v=.tuple l.toArray/\C (.tuple l.toArray)
 | .val t,v,C=>exVV t fun u=>v=u/\C u
def seenForR(w:Option RView)(v:Value)(C:Value->Prop):Prop:=
 match w with
 |none=>C v
 |some w=>seenR w v C
def vvOf(P:Program)(t:TypeId):VV:=
 match isAggB P t with
 |some true=>.agg (cellViews (fun _=>P) 12 t)
 |_=>.one (svOf (P.underlying t))
def rview(P:Program)(t:TypeId):RView:=
 match P.underlying t with
 |some (.tuple ts)=>.tup (ts.toList.map (vvOf P))
 |_=>.val (vvOf P t)
theorem cellViews_eq(P:Unit->Program):∀(d:Nat) (t:TypeId),cellViews (fun _=>P ()) d t=cellViews P d t
 |0,_=>rfl
 |d+1,t=>by
  unfold cellViews;have ih:=cellViews_eq P d;have ih':cellViews (fun _=>P ()) d=cellViews P d:=funext ih;rw[ih']
theorem vvOf_eq(P:Unit->Program)(t:TypeId)(C:Value->Prop):exVV (vvOf (P ()) t) C=exV P t C:=by
 unfold vvOf exV;cases isAggB (P ()) t with
 |none=>rfl
 |some b=>
  cases b with
  |false=>rfl
  |true=>simp only[exVV,cellViews_eq]
theorem vvOfs_eq(P:Unit->Program):∀(ts:List TypeId) (C:List Value->Prop),exVVs (ts.map (vvOf (P ()))) C=exVs P ts C
 | [],C=>rfl
 |t :: r,C=>by
  simp only[List.map_cons,exVVs,exVs,vvOf_eq];exact congrArg _ (funext fun v=>vvOfs_eq P r _)
theorem rview_eq(P:Unit->Program)(t:TypeId)(v:Value)(C:Value->Prop):seenR (rview (P ()) t) v C=seen P t v C:=by
 unfold rview seen;cases(P ()).underlying t with
 |none=>exact vvOf_eq P _ _
 |some d=>cases d<;>first|exact vvOfs_eq P _ _|exact vvOf_eq P _ _
inductive RDo where
 |op (loc:Bool) (r:ROp)
 |call (x:Operand) (args:List Operand) (v:Option RView)
structure ROper where
 dst:Option Nat
 guard:Option (Nat×Bool)
 act:RDo
def calleeR(yn:Nat->Nat)(s:SS)(x:Operand)(args:List Operand):Option (FuncId×List Value):=
 match ev s x,evs s args with
 |some (.func (.func f) first captured),some l=>bif l.all noLoc && Nat.blt f yieldBase then some (f,first.toList++l++captured.toList)else none
 |some (.func (.yield y) _ _),some l=>bif l.all noLoc then some (yn y,l)else none
 |_,_=>none
def wpDo(P:Unit->Program)(A:Atoms)(a:RDo)(s:SS)(C:Value->SS->Prop):Prop:=
 match a with
 | .op loc r=>wpROp P A (newS A) loc r s C
 | .call x args w=>
  match calleeR A.yn s x args with
  |some (g,l)=>A.call g l s.h fun v h'=>seenForR w v fun v=>C v { s with h:=h' }
  |none=>False
def putR'(s:SS)(dst:Option Tmp)(v:Value)(C:SS->Prop):Prop:=
 match dst with
 |none=>C s
 |some d=>C { s with env:=(d,v) :: s.env }
def wpGuardR(g:Option (Nat×Bool))(s:SS)(go skip:SS->Prop):Prop:=
 match g with
 |none=>go s
 |some (d,want)=>
  match lk s.env d with
  |some (.bool b)=>
   match want with
   |true=>fork b (fun _=>go { s with env:=(d,.bool true) :: s.env }) (fun _=>skip { s with env:=(d,.bool false) :: s.env })
   |false=>fork b (fun _=>skip { s with env:=(d,.bool true) :: s.env }) (fun _=>go { s with env:=(d,.bool false) :: s.env })
  |some (.tuple vs)=>bif vs.toList.isEmpty then skip s else False
  |_=>False
def wpOpsR(P:Unit->Program)(A:Atoms):List ROper->SS->(SS->Prop)->Prop
 | [],s,Q=>Q s
 |o :: rest,s,Q=>
  wpGuardR o.guard s
   (fun s=>wpDo P A o.act s fun v s'=>putR' s' o.dst v fun s''=>wpOpsR P A rest s'' Q)
   (fun s=>putR' s o.dst undef fun s'=>wpOpsR P A rest s' Q)
def resGuard(ops:Array Oper)(o:Oper):Option (Option (Nat×Bool)):=
 match o.guard with
 |none=>some none
 |some (j,want)=>
  match (ops[j]?).bind (·.dst)with
  |some d=>some (some (d,want))
  |none=>none
def resDo(P:Program)(H:Hint)(f:FuncId)(o:Oper):RDo:=
 match isCall o.op with
 |some c=>
  match c.callee with
  | .value x=>.call x c.args.toList (match o.dst with|none=>none|some _=>some (rview P o.type))
  |_=>.op false (.old o.op)
 |none=>.op (locOf H f o) (resOp P o.op)
def resOper(P:Program)(H:Hint)(f:FuncId)(nt:Nat)(ops:Array Oper)(o:Oper):Option ROper:=
 match resGuard ops o with
 |some g=>bif (match o.dst with|none=>true|some d=>Nat.blt d nt)then some ⟨o.dst,g,resDo P H f o⟩else none
 |none=>none
def resOpers(P:Program)(H:Hint)(f:FuncId)(nt:Nat)(ops:Array Oper):List Oper->Option (List ROper)
 | []=>some []
 |o :: r=>
  match resOper P H f nt ops o with
  |some x=>
   match resOpers P H f nt ops r with
   |some l=>some (x :: l)
   |none=>none
  |none=>none
theorem isCall_value{o:Op}{c:Call}(h:isCall o=some c):∃x,c.callee=.value x:=by
 unfold isCall at h;split at h
 ·split at h
  ·rename_i x hx;simp only[oi]at h;subst h;exact⟨x,hx⟩
  ·cases h
 ·cases h
theorem resGuard_eq{ops:Array Oper}{o:Oper}{g:Option (Nat×Bool)}(h:resGuard ops o=some g)(s:SS)(go skip:SS->Prop):wpGuardR g s go skip=wpGuard ops o s go skip:=by
 unfold resGuard at h;unfold wpGuard;split at h
 ·rename_i hg
  simp only[oi]at h;subst h;rw[hg];rfl
 ·rename_i j want hg
  rw[hg];simp only[];split at h
  ·rename_i d hd
   simp only[oi]at h;subst h;rw[hd];simp only[wpGuardR];cases lk s.env d with
   |none=>rfl
   |some v=>cases v<;>first|rfl|(cases want<;>rfl)
  ·cases h
theorem put_eq{nt:Nat}{s:SS}{dst:Option Tmp}{v:Value}{C:SS->Prop}(h:(match dst with|none=>true|some d=>Nat.blt d nt)=true):putR' s dst v C=putS nt s dst v C:=by
 unfold putR' putS;cases dst with
 |none=>rfl
 |some d=>simp only[]at h;simp only[h,cond_true]
theorem seenFor_eq(P:Unit->Program)(dst:Option Tmp)(t:TypeId)(v:Value)(C:Value->Prop):seenForR (match dst with|none=>none|some _=>some (rview (P ()) t)) v C=seenFor P dst t v C:=by
 unfold seenFor;cases dst with
 |none=>rfl
 |some d=>exact rview_eq P t v C
theorem callee_eq{c:Call}{x:Operand}(h:c.callee=.value x)(yn:Nat->Nat)(s:SS):calleeR yn s x c.args.toList=calleeS yn s c:=by
 unfold calleeS calleeR;rw[h];simp only[];cases ev s x with
 |none=>rfl
 |some v=>
  cases v with
  |func fn first captured=>cases fn<;>cases evs s c.args.toList<;>rfl
  |_=>cases evs s c.args.toList<;>rfl
theorem resDo_eq(P:Unit->Program)(H:Hint)(A:Atoms)(f:FuncId)(o:Oper)(s:SS)(C:Value->SS->Prop):wpDo P A (resDo (P ()) H f o) s C=wpOne P H A f o s C:=by
 unfold resDo wpOne;cases hc:isCall o.op with
 |none=>exact resOp_eq P A _ _ _ _ _
 |some c=>
  obtain⟨x,hx⟩:=isCall_value hc;simp only[hx,wpDo,callee_eq hx,seenFor_eq];cases calleeS A.yn s c<;>rfl
theorem resOpers_eq(P:Unit->Program)(H:Hint)(A:Atoms)(f:FuncId)(nt:Nat)(ops:Array Oper):∀(l:List Oper) (r:List ROper),resOpers (P ()) H f nt ops l=some r->∀(s:SS) (Q:SS->Prop),wpOpsR P A r s Q=wpOps P H A f nt ops l s Q
 | [],r,h,s,Q=>by
  simp only[resOpers,oi]at h;subst h;rfl
 |o :: l,r,h,s,Q=>by
  simp only[resOpers]at h;split at h
  ·rename_i x hx
   split at h
   ·rename_i r' hr
    simp only[oi]at h;subst h;unfold resOper at hx;split at hx
    ·rename_i g hg
     obtain⟨hb,hx⟩:=condSome hx;subst hx;have ih:wpOpsR P A r'=wpOps P H A f nt ops l:=funext fun s=>funext fun Q=>resOpers_eq P H A f nt ops l r' hr s Q
     simp only[wpOpsR,wpOps,resGuard_eq hg,put_eq hb,resDo_eq,ih]
    ·cases hx
   ·cases h
  ·cases h
inductive FK where
 |none
 |new (loc:Bool)
 |blk (x:Operand)
 |cvt (x:Operand)
 |all
 |app (l:List Operand)
structure DOper where
 o:ROper
 p:Nat
 kind:FK
 pr:List Nat
 st:Bool
 sm:Bool
def fkOf(o:Op)(loc:Bool):FK:=
 bif pureOp o then .none else
 match o with
 | .alloc _ | .box _ _=>.new loc
 | .buildSlice _ _ _ | .makeSlice _ _ _=>.new false
 | .load _ x | .store _ x _=>.blk x
 | .convert _ _ x=>.cvt x
 | .call { callee:=.builtin .append,args,argTypes }=>.app args.toList
 |_=>.all
def fpK(k:FK)(id tag:Nat)(s:SS):FP:=
 match k with
 | .none=>.none
 | .new loc=>bif loc then .new true tag else .new false id
 | .blk x=>
  match ev s x with
  |some (.pointer (some a))=>.block a.spot.isSome a.block
  |_=>.all
 | .cvt x=>
  match ev s x with
  |some (.slice (some a) _ _)=>bif a.spot.isNone then .block false a.block else .none
  |_=>.none
 | .all=>.all
 | .app l=>.app (baseN (headS s l))
theorem fpK_eq(o:Op)(loc:Bool)(id tag:Nat)(s:SS):fpK (fkOf o loc) id tag s=fpS o loc id tag s:=by
 unfold fkOf fpS;cases pureOp o with
 |true=>rfl
 |false=>
  simp only[cond_false];cases o with
  |load t x=>
   simp only[fpK];cases ev s x with
   |none=>rfl
   |some v=>cases v with
    |pointer a=>cases a<;>rfl
    |_=>rfl
  |store t x y=>
   simp only[fpK];cases ev s x with
   |none=>rfl
   |some v=>cases v with
    |pointer a=>cases a<;>rfl
    |_=>rfl
  |convert t u x=>
   simp only[fpK];cases ev s x with
   |none=>rfl
   |some v=>cases v with
    |slice a n c=>cases a<;>rfl
    |_=>rfl
  |call c=>
   obtain⟨callee,args,tys⟩:=c;cases callee with
   |builtin b=>cases b<;>rfl
   |_=>rfl
  |_=>rfl
abbrev FpL:=List (Nat×List Nat×FP×Bool)
def addFp(p:Nat)(pr:List Nat)(x:FP)(w:Bool)(l:FpL):FpL:=
 match x with
 | .none=>l
 |x=>(p,pr,x,w) :: l
def addAcc(p:Nat)(pr:List Nat)(x:FP)(w:Bool)(acc:FpL):FpL:=
 match x with
 | .none=>acc
 |x=>acc++[(p,pr,x,w)]
theorem fork_cond(b:Bool)(X Y:Prop):fork b (fun _=>X) (fun _=>Y)=cond b X Y:=by cases b<;>rfl
def wpOpsDR(P:Unit->Program)(A:Atoms)(base kbase:Nat):List DOper->Nat->SS->FpL->(SS->FpL->Prop)->Prop
 | [],_,s,acc,Q=>Q s acc
 |d :: rest,i,s,acc,Q=>
  wpGuardR d.o.guard s
   (fun s=>
    match d.o.act with
    | .call x args w=>
     match calleeR A.yn s x args with
     |some (g,l)=>A.call g l (A.fresh s.h) fun v h'=>seenForR w v fun v=>
       putR' { s with h:=A.lowered s.h h' } d.o.dst v fun s''=>wpOpsDR P A base kbase rest (i+1) s'' (acc++[(d.p,d.pr,.all,A.wrote s.h h')]) Q
     |none=>False
    | .op loc r=>
     fork d.sm
      (fun _=>wpROp P A (newAtS A (A.addN base i) (kbase+i)) loc r s fun v s'=>
       putR' s' d.o.dst v fun s''=>wpOpsDR P A base kbase rest (i+1) s'' (addAcc d.p d.pr (fpK d.kind (A.addN base i) (kbase+i) s) d.st acc) Q)
      (fun _=>wpROp P A (newAtS A (A.addN base i) (kbase+i)) loc r { s with h:=A.fresh s.h } fun v s'=>
       putR' { s' with h:=A.lowered s.h s'.h } d.o.dst v fun s''=>wpOpsDR P A base kbase rest (i+1) s'' (addAcc d.p d.pr (fpK d.kind (A.addN base i) (kbase+i) s) (A.wrote s.h s'.h) acc) Q))
   (fun s=>putR' s d.o.dst undef fun s'=>wpOpsDR P A base kbase rest (i+1) s' acc Q)
def memN(q:Nat):List Nat->Bool
 | []=>false
 |a :: l=>bif Nat.beq q a then true else memN q l
def apartAllR(A:Atoms)(lim:Nat)(pr:List Nat)(x:FP)(wx:Bool):FpL->Prop->Prop
 | [],C=>C
 |(q,_,y,wy) :: r,C=>fork (memN q pr) (fun _=>apartAllR A lim pr x wx r C) (fun _=>apartP A lim x wx y wy (apartAllR A lim pr x wx r C))
def apartR(A:Atoms)(lim:Nat):FpL->Prop->Prop
 | [],C=>C
 |(_,pr,x,wx) :: r,C=>apartAllR A lim pr x wx r (apartR A lim r C)
def wpDrawR(P:Unit->Program)(A:Atoms)(n:Nat)(ds:List DOper)(s:SS)(Q:SS->Prop):Prop:=
 wpOpsDR P A (A.next s.h) s.kn ds 0 { s with kn:=s.kn+n,h:=A.bump s.h n } [] fun s' fps=>apartR A (A.addN (A.next s.h) n) fps (Q s')
def prs(b:Array Nat)(n p:Nat):List Nat:=(List.range n).filter (fun q=>prec b p q)
def resD(P:Program)(H:Hint)(f:FuncId)(nt:Nat)(ops:Array Oper)(b:Array Nat):List Nat->Option (List DOper)
 | []=>some []
 |p :: r=>
  match ops[p]? with
  |some o=>
   match resOper P H f nt ops o with
   |some x=>
    match resD P H f nt ops b r with
    |some l=>some (⟨x,p,fkOf o.op (locOf H f o),prs b ops.size p,isStore o.op,small o.op⟩ :: l)
    |none=>none
   |none=>none
  |none=>none
theorem memN_mem(q:Nat):∀l:List Nat,memN q l=decide (q∈l)
 | []=>by simp[memN]
 |a :: l=>by
  unfold memN;rw[memN_mem q l];cases h:Nat.beq q a with
  |true=>have:=Nat.eq_of_beq_eq_true h;subst this;simp
  |false=>have:=Nat.ne_of_beq_eq_false h;simp[this]
theorem memN_prs{b:Array Nat}{n p q:Nat}(h:q<n):memN q (prs b n p)=prec b p q:=by
 rw[memN_mem];unfold prs;simp only[List.mem_filter,List.mem_range,h,true_and];cases prec b p q<;>rfl
def tagFp(b:Array Nat)(n:Nat):List (Nat×FP×Bool)->FpL
 | []=>[]
 |(p,x,w) :: l=>addFp p (prs b n p) x w (tagFp b n l)
theorem apartAll_none(A:Atoms)(ops:Array Oper)(lim p:Nat)(wx:Bool):∀(l:List (Nat×FP×Bool)) (C:Prop),apartAll A ops lim p .none wx l C=C
 | [],C=>rfl
 |(q,y,wy) :: l,C=>by
  unfold apartAll;rw[apartAll_none A ops lim p wx l C];cases prec (Region.before ops) p q<;>rfl
theorem apartP_none(A:Atoms)(lim:Nat)(x:FP)(wx wy:Bool)(C:Prop):apartP A lim x wx .none wy C=C:=by
 cases x<;>rfl
theorem apartAll_eq(A:Atoms)(ops:Array Oper)(lim p:Nat)(x:FP)(wx:Bool):∀(l:List (Nat×FP×Bool)) (C:Prop),(∀e∈l,e.1<ops.size)->
  apartAllR A lim (prs (Region.before ops) ops.size p) x wx (tagFp (Region.before ops) ops.size l) C=apartAll A ops lim p x wx l C
 | [],C,_=>rfl
 |(q,y,wy) :: l,C,h=>by
  have hq:q<ops.size:=h (q,y,wy) List.mem_cons_self;have ih:=apartAll_eq A ops lim p x wx l C (fun e he=>h e (List.mem_cons_of_mem _ he));unfold apartAll tagFp;cases y with
  |none=>
   simp only[addFp,apartP_none];rw[ih];cases prec (Region.before ops) p q<;>rfl
  |block l' b'=>simp only[addFp,apartAllR,fork_cond,memN_prs hq,ih]
  |new l' b'=>simp only[addFp,apartAllR,fork_cond,memN_prs hq,ih]
  |all=>simp only[addFp,apartAllR,fork_cond,memN_prs hq,ih]
  |app c=>simp only[addFp,apartAllR,fork_cond,memN_prs hq,ih]
theorem apart_eq(A:Atoms)(ops:Array Oper)(lim:Nat):∀(l:List (Nat×FP×Bool)) (C:Prop),(∀e∈l,e.1<ops.size)->apartR A lim (tagFp (Region.before ops) ops.size l) C=apartP' A ops lim l C
 | [],C,_=>rfl
 |(p,x,wx) :: l,C,h=>by
  have hl:∀e∈l,e.1<ops.size:=fun e he=>h e (List.mem_cons_of_mem _ he)
  have ih:=apart_eq A ops lim l C hl;unfold apartP' tagFp;cases x with
  |none=>simp only[addFp,apartAll_none];exact ih
  |block l' b'=>simp only[addFp,apartR,ih];exact apartAll_eq A ops lim p _ wx l _ hl
  |new l' b'=>simp only[addFp,apartR,ih];exact apartAll_eq A ops lim p _ wx l _ hl
  |all=>simp only[addFp,apartR,ih];exact apartAll_eq A ops lim p _ wx l _ hl
  |app c=>simp only[addFp,apartR,ih];exact apartAll_eq A ops lim p _ wx l _ hl
theorem resD_eq(P:Unit->Program)(H:Hint)(A:Atoms)(f:FuncId)(nt:Nat)(ops:Array Oper)(base kbase:Nat):∀(l:List Nat) (ds:List DOper),resD (P ()) H f nt ops (Region.before ops) l=some ds->
  ∀(i:Nat) (s:SS) (acc:FpL) (Q:SS->List (Nat×FP×Bool)->Prop) (Q':SS->FpL->Prop),(∀r fps,(∀e∈fps,e.1<ops.size)->Q' r (acc++tagFp (Region.before ops) ops.size fps)=Q r fps)->
  wpOpsDR P A base kbase ds i s acc Q'=wpOpsD P H A f nt ops base kbase l i s Q
 | [],ds,h,i,s,acc,Q,Q',hq=>by
  simp only[resD,oi]at h;subst h;have:=hq s [] (fun e he=>by cases he);rw[tagFp,List.append_nil]at this;exact this
 |p :: l,ds,h,i,s,acc,Q,Q',hq=>by
  simp only[resD]at h;split at h
  ·rename_i o ho
   split at h
   ·rename_i x hx
    split at h
    ·rename_i r hr
     simp only[oi]at h;subst h;have hp:p<ops.size:=(Array.getElem?_eq_some_iff.1 ho).1;unfold resOper at hx;split at hx
     ·rename_i g hg
      obtain⟨hb,hx⟩:=condSome hx;subst hx;have ih:=resD_eq P H A f nt ops base kbase l r hr;have app:∀(fp:FP) (w:Bool) (fps:FpL),addAcc p (prs (Region.before ops) ops.size p) fp w acc++fps=acc++addFp p (prs (Region.before ops) ops.size p) fp w fps:=fun fp w fps=>by
       cases fp<;>simp[addAcc,addFp]
      have step:∀(s'':SS) (fp:FP) (w:Bool),wpOpsDR P A base kbase r (i+1) s'' (addAcc p (prs (Region.before ops) ops.size p) fp w acc) Q'=wpOpsD P H A f nt ops base kbase l (i+1) s'' (fun r fps=>Q r ((p,fp,w) :: fps)):=fun s'' fp w=>
       ih (i+1) s'' _ _ _ (fun r fps hf=>by
        rw[app];exact hq r ((p,fp,w) :: fps) (fun e he=>by
         rcases List.mem_cons.1 he with rfl|he
         ·exact hp
         ·exact hf e he))
      have skip:∀(s'':SS),wpOpsDR P A base kbase r (i+1) s'' acc Q'=wpOpsD P H A f nt ops base kbase l (i+1) s'' (fun r fps=>Q r ((p,.none,false) :: fps)):=fun s''=>step s'' .none false
      have all:∀(s'':SS) (w:Bool),wpOpsDR P A base kbase r (i+1) s'' (acc++[(p,prs (Region.before ops) ops.size p,.all,w)]) Q'=wpOpsD P H A f nt ops base kbase l (i+1) s'' (fun r fps=>Q r ((p,.all,w) :: fps)):=fun s'' w=>step s'' .all w
      simp only[wpOpsDR,wpOpsD,fork_cond,ho,resGuard_eq hg,put_eq hb,skip,fpK_eq,step,all];refine congrArg (fun K=>wpGuard ops o s K _) (funext fun s=>?_);unfold resDo;cases hc:isCall o.op with
      |none=>simp only[resOp_eq]
      |some c=>
       obtain⟨x,hx⟩:=isCall_value hc;simp only[hx,callee_eq hx,seenFor_eq];cases calleeS A.yn s c<;>rfl
     ·cases hx
    ·cases h
   ·cases h
  ·cases h
inductive RCode where
 |skip
 |ret
 |exit (id:Nat) (l:Option (List Tmp))
 |seq (a b:RCode)
 |cond (x:Operand) (a b:RCode)
 |block (id:Nat) (b:RCode)
 |loop (key:Nat) (keep l:Option (List Tmp))
 |reg (l:Option (List Tmp)) (ops:List ROper)
 |draw (l:Option (List Tmp)) (n:Nat) (ops:List DOper)
 |range (key:Nat)
def normR(keep:Option (List Tmp))(kn:Nat)(s:SS):Option SS:=
 match keep with
 |none=>some s
 |some l=>
  bif Nat.ble kn s.kn && l.all (fun t=>match lk s.env t with|some v=>locBelow kn v|none=>false)then some { s with env:=pickL s.env l,kn:=kn,K:=pickL s.K (List.range kn) } else none
def wpRS(P:Unit->Program)(A:Atoms)(f:FuncId)(c:RCode)(s:SS)(Q:Exit->SS->Prop):Prop:=
 match c with
 | .skip=>Q .normal s
 | .ret=>Q .ret s
 | .exit id l=>Q (.exit id) (pruned s l)
 | .seq a b=>wpRS P A f a s (seqK (fun s'=>wpRS P A f b s' Q) Q)
 | .cond x a b=>
  match ev s x with
  |some (.bool t)=>fork t (fun _=>wpRS P A f a s Q) (fun _=>wpRS P A f b s Q)
  |_=>False
 | .block id b=>wpRS P A f b s (blockK id Q)
 | .loop key keep l=>
  match normR keep s.kn s with
  |some s0=>A.head f key s.kn (pruned s0 l) Q
  |none=>False
 | .reg l ops=>fork (Nat.ble 10 ops.length) (fun _=>A.brk (fun _=>wpOpsR P A ops (pruned s l) (Q .normal))) (fun _=>wpOpsR P A ops (pruned s l) (Q .normal))
 | .draw l n ops=>A.brk fun _=>wpDrawR P A n ops (pruned s l) fun s'=>A.brk fun _=>Q .normal s'
 | .range key=>A.rng f key s Q
def resCode(P:Program)(H:Hint)(V:Live)(f:FuncId)(nt:Nat):Code->Option RCode
 | .skip=>some .skip
 | .ret=>some .ret
 | .exit id=>some (.exit id (V.blk f id))
 | .seq a b=>
  match resCode P H V f nt a,resCode P H V f nt b with
  |some x,some y=>some (.seq x y)
  |_,_=>none
 | .cond c a b=>
  match resCode P H V f nt a,resCode P H V f nt b with
  |some x,some y=>some (.cond c x y)
  |_,_=>none
 | .block id b=>match resCode P H V f nt b with|some x=>some (.block id x)|none=>none
 | .loop b=>some (.loop (keyOf b) (H.keep f (keyOf b)) (V.loop f (keyOf b)))
 | .region id ops draw=>
  bif draw then
   bif drawOK ops (orderOf ops)then
    match resD P H f nt ops (Region.before ops) (orderOf ops)with
    |some l=>some (.draw (V.reg f id) ops.size l)
    |none=>none
   else none
  else
   match resOpers P H f nt ops ops.toList with
   |some l=>some (.reg (V.reg f id) l)
   |none=>none
 | .rangeFunc _ _ as _=>some (.range (keyOf as))
 |_=>none
theorem resCode_eq(P:Unit->Program)(H:Hint)(A:Atoms)(hbrk:∀f,A.brk f=f ())(V:Live)(f:FuncId)(nt:Nat):∀(c:Code) (r:RCode),resCode (P ()) H V f nt c=some r->∀(s:SS) (Q:Exit->SS->Prop),wpRS P A f r s Q=wpS P H A V f nt c s Q:=by
 intro c
 induction c with
 |skip=>intro r h s Q;simp only[resCode,oi]at h;subst h;rfl
 |ret=>intro r h s Q;simp only[resCode,oi]at h;subst h;rfl
 |exit id=>intro r h s Q;simp only[resCode,oi]at h;subst h;rfl
 |seq a b iha ihb=>
  intro r h s Q;simp only[resCode]at h;split at h
  ·rename_i x y hx hy
   simp only[oi]at h;subst h;have eb:(fun s'=>wpRS P A f y s' Q)=(fun s'=>wpS P H A V f nt b s' Q):=funext fun s'=>ihb y hy s' Q
   simp only[wpRS,wpS];rw[eb];exact iha x hx s _
  ·cases h
 |cond c a b iha ihb=>
  intro r h s Q;simp only[resCode]at h;split at h
  ·rename_i x y hx hy
   simp only[oi]at h;subst h;simp only[wpRS,wpS];cases ev s c with
   |none=>rfl
   |some v=>
    cases v with
    |bool t=>simp only[iha x hx,ihb y hy]
    |_=>rfl
  ·cases h
 |block id b ih=>
  intro r h s Q;simp only[resCode]at h;split at h
  ·rename_i x hx
   simp only[oi]at h;subst h;exact ih x hx s _
  ·cases h
 |loop b ih=>intro r h s Q;simp only[resCode,oi]at h;subst h;rfl
 |region id ops draw=>
  intro r h s Q;simp only[resCode]at h;cases draw with
  |true=>
   simp only[cond_true]at h;obtain⟨hb,h⟩:drawOK ops (orderOf ops)=true/\(match resD (P ()) H f nt ops (Region.before ops) (orderOf ops)with|some l=>some (RCode.draw (V.reg f id) ops.size l)|none=>none)=some r:=by
    cases hb:drawOK ops (orderOf ops)with
    |false=>rw[hb]at h;cases h
    |true=>rw[hb]at h;exact⟨rfl,h⟩
   split at h
   ·rename_i l hl
    simp only[oi]at h;subst h;simp only[wpRS,wpS,cond_true,wpDraw,wpDrawR,hb,hbrk];exact resD_eq P H A f nt ops _ _ (orderOf ops) l hl 0 _ [] _ _ (fun r fps hf=>by rw[List.nil_append];exact apart_eq A ops _ fps _ hf)
   ·cases h
  |false=>
   simp only[cond_false]at h;split at h
   ·rename_i l hl
    simp only[oi]at h;subst h;simp only[wpRS,wpS,cond_false,hbrk,fork_cond,Bool.cond_self];exact resOpers_eq P H A f nt ops ops.toList l hl _ _
   ·cases h
 |rangeFunc x ps as bo _ _=>intro r h s Q;simp only[resCode,oi]at h;subst h;rfl
 |_=>intro r h;cases h
inductive RRes where
 |tmp (t:Tmp)
 |agg (t:Tmp) (n:Nat) (vs:List Sv)
 |one (t:Tmp) (v:Sv)
structure RLoop where
 keep:Option (List Tmp)
 l:Option (List Tmp)
 body:RCode
structure RRange where
 x:Operand
 ps:List Tmp
 as:RCode
 bo:RCode
structure RFun where
 body:RCode
 res:List RRes
 loops:List (Nat×RLoop)
 ranges:List (Nat×RRange)
def wpResR(A:Atoms)(s:SS):List RRes->(List Value->Prop)->Prop
 | [],C=>C []
 | .tmp t :: r,C=>
  match lk s.env t with
  |some v=>wpResR A s r fun l=>C (v :: l)
  |none=>False
 | .agg a n vs :: r,C=>
  match lk s.env a with
  |some (.pointer (some x))=>wpRead A s x n vs fun l=>wpResR A s r fun l'=>C (.agg l.toArray :: l')
  |_=>False
 | .one a v :: r,C=>
  match lk s.env a with
  |some (.pointer (some x))=>wpRead A s x 1 [v] fun l=>
   match l with
   | [v]=>wpResR A s r fun l'=>C (v :: l')
   |_=>False
  |_=>False
def resRes(P:Program):List ResultVar->Option (List RRes)
 | []=>some []
 | .tmp t :: r=>match resRes P r with|some l=>some (.tmp t :: l)|none=>none
 | .cell a t :: r=>
  match resRes P r with
  |some l=>
   match isAggB P t with
   |some true=>match sizeT P t with|some n=>some (.agg a n (cellViews (fun _=>P) 12 t) :: l)|none=>none
   |some false=>some (.one a (svOf (P.underlying t)) :: l)
   |none=>none
  |none=>none
theorem resRes_eq(P:Unit->Program)(A:Atoms)(s:SS):∀(rs:List ResultVar) (l:List RRes),resRes (P ()) rs=some l->∀C,wpResR A s l C=wpRes P A s rs C
 | [],l,h,C=>by simp only[resRes,oi]at h;subst h;rfl
 | .tmp t :: r,l,h,C=>by
  simp only[resRes]at h;split at h
  ·rename_i l' hl
   simp only[oi]at h;subst h;simp only[wpResR,wpRes,resRes_eq P A s r l' hl];cases lk s.env t<;>rfl
  ·cases h
 | .cell a t :: r,l,h,C=>by
  simp only[resRes]at h;split at h
  ·rename_i l' hl
   have ih:=resRes_eq P A s r l' hl;split at h
   ·rename_i ha
    split at h
    ·rename_i n hn
     simp only[oi]at h;subst h;simp only[wpResR,wpRes,ih,wpLoad,ha,hn,cellViews_eq];cases lk s.env a with
     |none=>rfl
     |some v=>
      cases v with
      |pointer x=>cases x<;>rfl
      |_=>rfl
    ·cases h
   ·rename_i ha
    simp only[oi]at h;subst h;simp only[wpResR,wpRes,ih,wpLoad,ha];cases lk s.env a with
    |none=>rfl
    |some v=>
     cases v with
     |pointer x=>
      cases x with
      |none=>rfl
      |some x=>
       refine congrArg (wpRead A s x 1 [svOf ((P ()).underlying t)]) (funext fun l=>?_);cases l with
       |nil=>rfl
       |cons v r=>cases r<;>rfl
     |_=>rfl
   ·cases h
  ·cases h
def resLoops(P:Program)(H:Hint)(V:Live)(f:FuncId)(nt:Nat):List Code->Option (List (Nat×RLoop))
 | []=>some []
 |b :: r=>
  match resCode P H V f nt b,resLoops P H V f nt r with
  |some x,some l=>bif (r.all fun c=>!(Nat.beq (keyOf c) (keyOf b)))then some ((keyOf b,⟨H.keep f (keyOf b),V.loop f (keyOf b),x⟩) :: l)else none
  |_,_=>none
def resRanges(P:Program)(H:Hint)(V:Live)(f:FuncId)(nt:Nat):List (Operand×Array Tmp×Code×Code)->Option (List (Nat×RRange))
 | []=>some []
 |(x,ps,as,bo) :: r=>
  match resCode P H V f nt as,resCode P H V f nt bo,resRanges P H V f nt r with
  |some a,some b,some l=>bif (r.all fun c=>!(Nat.beq (keyOf c.2.2.1) (keyOf as))) && noRange as && noRange bo && ps.toList.all (fun t=>Nat.blt t nt)then some ((keyOf as,⟨x,ps.toList,a,b⟩) :: l)else none
  |_,_,_=>none
def resFun(P:Program)(H:Hint)(V:Live)(f:FuncId)(fn:Func):Option RFun:=
 match fn.body with
 |some c=>
  match resCode P H V f fn.ntmps c,resRes P fn.results.toList,resLoops P H V f fn.ntmps (loopsOf c),resRanges P H V f fn.ntmps (rangesOf c)with
  |some b,some r,some l,some g=>some ⟨b,r,l,g⟩
  |_,_,_,_=>none
 |none=>none
theorem resRanges_plain{P:Program}{H:Hint}{V:Live}{f:FuncId}{nt:Nat}:∀{l:List (Operand×Array Tmp×Code×Code)} {ls:List (Nat×RRange)},resRanges P H V f nt l=some ls->∀r∈l,plainRange r
 | [],ls,h,r,hr=>by cases hr
 |(x,ps,as,bo) :: l,ls,h,r,hr=>by
  simp only[resRanges]at h;split at h
  ·rename_i a b l' ha hb hl
   obtain⟨hc,h⟩:=condSome h;simp only[Bool.and_eq_true]at hc;rcases List.mem_cons.1 hr with rfl|hr
   ·exact⟨hc.1.1.2,hc.1.2⟩
   ·exact resRanges_plain hl r hr
  ·cases h
def endR(A:Atoms)(rs:List RRes)(Q:Value->AHeap->Prop):Exit->SS->Prop
 | .normal,s=>wpResR A s rs fun l=>bif l.all noLoc then Q (resultA l) s.h else False
 | .ret,s=>wpResR A s rs fun l=>bif l.all noLoc then Q (resultA l) s.h else False
 |_,_=>False
def wpFunR(P:Unit->Program)(A:Atoms)(g:FuncId)(r:RFun)(args:List Value)(h:AHeap)(Q:Value->AHeap->Prop):Prop:=
 wpRS P A g r.body ⟨argsL args 0 [],0,[],h⟩ (endR A r.res Q)
def wpHeadR(P:Unit->Program)(A:Atoms)(f:FuncId)(r:RFun)(key kn:Nat)(s:SS)(Q:Exit->SS->Prop):Prop:=
 match lk r.loops key with
 |some b=>wpRS P A f b.body s (seqK (fun s'=>
   match normR b.keep kn s' with
   |some s1=>A.head f key kn (pruned s1 b.l) Q
   |none=>False) Q)
 |none=>False
theorem endR_eq(P:Unit->Program)(A:Atoms){rs:List ResultVar}{l:List RRes}(h:resRes (P ()) rs=some l)(Q:Value->AHeap->Prop):endR A l Q=endK P A rs Q:=by
 funext x s
 cases x<;>first|rfl|exact resRes_eq P A s rs l h _
theorem resFun_eq{P:Unit->Program}{H:Hint}{V:Live}{g:FuncId}{fn:Func}{r:RFun}(h:resFun (P ()) H V g fn=some r){A:Atoms}(hbrk:∀f,A.brk f=f ()){args:List Value}{hp:AHeap}{Q:Value->AHeap->Prop}(hw:wpFunR P A g r args hp Q):wpFun P H A V g fn args hp Q:=by
 unfold resFun at h;unfold wpFun;split at h
 ·rename_i c hc
  rw[hc];simp only[];split at h
  ·rename_i b rs l gs hb hr hl hgs
   simp only[oi]at h;subst h;unfold wpFunR at hw;rw[endR_eq P A hr]at hw;rw[resCode_eq P H A hbrk V g fn.ntmps c b hb]at hw;exact hw
  ·cases h
 ·cases h
theorem resLoops_find{P:Program}{H:Hint}{V:Live}{f:FuncId}{nt:Nat}:∀{l:List Code} {ls:List (Nat×RLoop)},resLoops P H V f nt l=some ls->∀{key:Nat} {x:RLoop},lk ls key=some x->
  ∃b,l.filter (fun b=>Nat.beq (keyOf b) key)=[b]/\keyOf b=key/\resCode P H V f nt b=some x.body/\x.keep=H.keep f key/\x.l=V.loop f key
 | [],ls,h,key,x,hx=>by
  simp only[resLoops,oi]at h;subst h;cases hx
 |b :: r,ls,h,key,x,hx=>by
  simp only[resLoops]at h;split at h
  ·rename_i y l hy hl
   obtain⟨hb,h⟩:=condSome h;subst h;simp only[lk]at hx;cases hk:Nat.beq (keyOf b) key with
   |true=>
    rw[hk]at hx;simp only[cond_true,oi]at hx;subst hx;have e:=Nat.eq_of_beq_eq_true hk;refine⟨b,?_,e,hy,by rw[e],by rw[e]⟩;rw[List.filter_cons_of_pos (by simpa using hk)]
    congr 1
    rw[List.filter_eq_nil_iff];intro c hc;have:=List.all_eq_true.1 hb c hc;rw[<-e];have h9:Nat.beq (keyOf c) (keyOf b)=false:=by
     cases h8:Nat.beq (keyOf c) (keyOf b)with
     |false=>rfl
     |true=>rw[h8]at this;cases this
    rw[h9];exact Bool.false_ne_true
   |false=>
    rw[hk]at hx;simp only[cond_false]at hx;obtain⟨b',h1,h2⟩:=resLoops_find hl hx;refine⟨b',?_,h2⟩;rw[List.filter_cons_of_neg (by rw[hk];exact Bool.false_ne_true)];exact h1
  ·cases h
theorem resHead_eq{P:Unit->Program}{H:Hint}{V:Live}{f:FuncId}{fn:Func}{r:RFun}(h:resFun (P ()) H V f fn=some r){A:Atoms}(hbrk:∀f,A.brk f=f ()){key kn:Nat}{s:SS}{Q:Exit->SS->Prop}(hw:wpHeadR P A f r key kn s Q):wpHead P H A V f fn key kn s Q:=by
 unfold resFun at h;unfold wpHead;split at h
 ·rename_i c hc
  rw[hc];simp only[];split at h
  ·rename_i b rs l gs hb hr hl hgs
   simp only[oi]at h;subst h;unfold wpHeadR at hw;simp only[]at hw;split at hw
   ·rename_i x hx
    obtain⟨b',h1,h2,h3,h4,h5⟩:=resLoops_find hl hx;rw[h1];simp only[];unfold wpRound;rw[resCode_eq P H A hbrk V f fn.ntmps b' x.body h3]at hw;rw[h4,h5]at hw;subst h2;exact⟨resRanges_plain hgs,hw⟩
   ·exact hw.elim
  ·cases h
 ·cases h
theorem AOK.bodyR{P:Unit->Program}{H:Hint}{F:Prims}{A:Atoms}(hA:AOK P H F A){V:Live}{g:FuncId}{fn:Func}{r:RFun}{args:List Value}{h:AHeap}{Q:Value->AHeap->Prop}(hf:(P ()).funcs[g]?=some fn)(hr:resFun (P ()) H V g fn=some r)(hn:F g args h=none)(hl:h.low<=h.next)(hw:wpFunR P A g r args h Q)(hg:g<yieldBase:=by decide):A.call g args h Q:=
 hA.body V hg hf hn hl (resFun_eq hr (fun f=>by rw[hA.eq];rfl) hw)
theorem AOK.roundR{P:Unit->Program}{H:Hint}{F:Prims}{A:Atoms}(hA:AOK P H F A){V:Live}{f:FuncId}{fn:Func}{r:RFun}(hfn:(P ()).funcs[f]?=some fn)(hr:resFun (P ()) H V f fn=some r){key kn:Nat}{s:SS}{Q:Exit->SS->Prop}(hw:wpHeadR P A f r key kn s Q):A.head f key kn s Q:=
 hA.round V hfn (resHead_eq hr (fun f=>by rw[hA.eq];rfl) hw)
