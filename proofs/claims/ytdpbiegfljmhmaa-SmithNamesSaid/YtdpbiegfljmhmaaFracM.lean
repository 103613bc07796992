import Derived.Test.YtdpbiegfljmhmaaSymA
set_option linter.unusedSimpArgs false
set_option linter.unusedVariables false
namespace Go.cL
inductive Vy where
 |cJ (o:Op)
 |new (n:Nat) (cs:List Value)
 |box (n:Nat) (x:Operand)
 |build (z:List Value) (parts:List (Nat×Nat×Operand))
 |buildSlice (n len:Nat) (z:List Value) (parts:List (Nat×Nat×Operand))
 |load (n:Nat) (vs:List Sv) (x:Operand)
 |bq (v:Sv) (x:Operand)
 |store (n:Nat) (x y:Operand)
 |ng (k:IntKind) (x:Operand)
 |mkSlice (n:Nat) (z:List Value) (l c:Operand)
 |Qr (t:TypeId) (x:Operand) (lo hi mx:Option Operand)
 |fieldAddr (off:Nat) (x:Operand)
 |M9 (off n:Nat) (x:Operand)
 |Na (off:Nat) (x:Operand)
 |yI (n:Nat) (x i:Operand)
 |wo (len n:Nat) (x i:Operand)
 |yO (x:Operand)
 |Nb (x:Operand)
def oh(place:Nat->Option (Nat×Nat)):List (Nat×Operand)->Option (List (Nat×Nat×Operand))
 | []=>some []
 |(i,x) :: r=>
  match place i with
  |some (o,n)=>
   match oh place r with
   |some l=>some ((o,n,x) :: l)
   |none=>none
  |none=>none
def kg(s:SS):List (Nat×Nat×Operand)->Option (List (Nat×Nat×Value))
 | []=>some []
 |(o,n,x) :: r=>
  match ev s x with
  |some v=>
   match kg s r with
   |some l=>some ((o,n,v) :: l)
   |none=>none
  |none=>none
def EE:List Value->List (Nat×Nat×Value)->Option (List Value)
 |cells,[]=>some cells
 |cells,(off,size,v) :: rest=>
  bif Nat.beq v.cells.toList.length size && v.cells.toList.all aD then
   match mF cells off v.cells.toList with
   |some cs=>EE cs rest
   |none=>none
  else none
theorem oq{place:Nat->Option (Nat×Nat)}{s:SS}:∀{l:List (Nat×Operand)} {l3:List (Nat×Nat×Operand)},oh place l=some l3->
  (jS s l=none/\kg s l3=none)\/∃lv Pw,jS s l=some lv/\kg s l3=some Pw/\∀cells,iD place cells lv=EE cells Pw
 | [],l3,h=>by
  simp only[oh,oi]at h;subst h;exact .inr ⟨[],[],rfl,rfl,fun _=>rfl⟩
 |(i,x) :: r,l3,h=>by
  simp only[oh]at h;split at h
  ·rename_i o n hp
   split at h
   ·rename_i l hl
    simp only[oi]at h;subst h;cases hx:ev s x with
    |none=>exact .inl ⟨by simp only[jS,hx],by simp only[kg,hx]⟩
    |some v=>
     rcases oq (s:=s) hl with ⟨h1,h2⟩|⟨lv,Pw,h1,h2,h3⟩
     ·exact .inl ⟨by simp only[jS,hx,h1],by simp only[kg,hx,h2]⟩
     ·refine .inr ⟨(i,v) :: lv,(o,n,v) :: Pw,by simp only[jS,hx,h1],by simp only[kg,hx,h2],fun cells=>?_⟩
      simp only[iD,EE,hp];cases hb:(Nat.beq v.cells.toList.length n && v.cells.toList.all aD)with
      |false=>rfl
      |true=>
       simp only[cond_true];cases hs:mF cells o v.cells.toList with
       |none=>rfl
       |some cs=>exact h3 cs
   ·cases h
  ·cases h
def im(P:Unit->Program)(A:bI)(mk:kB)(loc:Bool)(r:Vy)(s:SS)(C:Value->SS->Prop):Prop:=
 match r with
 | .cJ o=>wpOp P A mk loc o s C
 | .new n cs=>mk loc n cs s C
 | .box n x=>
  match ev s x with
  |some v=>bif v.cells.toList.all aD then mk loc n v.cells.toList s C else False
  |none=>False
 | .build z parts=>
  match kg s parts with
  |some l=>match EE z l with|some cs=>C (.agg cs.toArray) s|none=>False
  |none=>False
 | .buildSlice n len z parts=>
  match kg s parts with
  |some l=>
   match EE z l with
   |some cs=>
    bif cs.all aD then
     mk false n cs s fun v s'=>
      match v with
      | .pointer (some a)=>C (.slice (some a) len len) s'
      |_=>False
    else False
   |none=>False
  |none=>False
 | .load n vs x=>
  match ev s x with
  |some (.pointer (some a))=>mK A s a n vs fun l=>C (.agg l.toArray) s
  |_=>False
 | .bq v x=>
  match ev s x with
  |some (.pointer (some a))=>mK A s a 1 [v] fun l=>
   match l with
   | [v]=>C v s
   |_=>False
  |_=>False
 | .store n x y=>
  match ev s x,ev s y with
  |some (.pointer (some a)),some v=>bif Nat.beq v.cells.toList.length n then we A s a v.cells.toList (fun s'=>C undef s')else False
  |_,_=>False
 | .ng k x=>
  match ev s x with
  |some (.int _ n)=>C (.int k (A.conv k n)) s
  |_=>False
 | .mkSlice n z l c=>
  match ev s l,ev s c with
  |some (.int _ l),some (.int _ c)=>
   A.vL l c/\A.rU fun _=>mk false n (A.iP z c) s fun v s'=>
    match v with
    | .pointer (some a)=>C (.slice (some a) (A.nat l) (A.nat c)) s'
    |_=>False
  |_,_=>False
 | .Qr t x lo hi mx=>
  match ev s x,pU s lo,pU s hi,pU s mx with
  |some (.slice a n c),some lo,some hi,some mx=>
   match lo,hi,mx with
   |none,some (.int _ j),none=>A.cut c j/\A.rU fun _=>C (.slice a (A.nat j) c) s
   |lo,hi,mx=>A.zN t (.slice a n c) lo hi mx fun a' n' c'=>C (.slice a' n' c') s
  |_,_,_,_=>False
 | .fieldAddr off x=>
  match ev s x with
  |some (.pointer (some a))=>
   match a.spot with
   |none=>C (.pointer (some ⟨a.block,A.bZ a.off off,none⟩)) s
   |some x=>C (.pointer (some ⟨a.block,a.off+off,some x⟩)) s
  |_=>False
 | .M9 off n x=>
  match ev s x with
  |some (.agg cs)=>match jX cs.toList off n with|some l=>C (.agg l.toArray) s|none=>False
  |_=>False
 | .Na off x=>
  match ev s x with
  |some (.agg cs)=>match cs.toList[off]? with|some v=>C v s|none=>False
  |_=>False
 | .yI n x i=>
  match ev s x,ev s i with
  |some (.slice a len _),some (.int _ i)=>∃b o,a=some ⟨b,o,none⟩/\A.HY i len/\C (.pointer (some ⟨b,A.place o i n,none⟩)) s
  |_,_=>False
 | .wo len n x i=>
  match ev s x,ev s i with
  |some (.pointer (some a)),some (.int _ i)=>A.HY i len/\A.rU fun _=>C (.pointer (some ⟨a.block,A.place a.off i n,a.spot⟩)) s
  |_,_=>False
 | .yO x=>
  match ev s x with
  |some (.slice _ n _)=>C (.int .i64 (A.ofNat n)) s
  |_=>False
 | .Nb x=>
  match ev s x with
  |some (.string b)=>C (.int .i64 (A.GP b)) s
  |_=>False
def Nc(P:Program)(o:Op):Vy:=
 match o with
 | .alloc e=>
  match il P e,bY P e with
  |some z,some n=>bif z.cells.toList.all aD then .new n z.cells.toList else .cJ o
  |_,_=>.cJ o
 | .box e x=>match bY P e with|some n=>.box n x|none=>.cJ o
 | .build t parts=>
  match il P t,P.underlying t with
  |some z,some (.struct fs)=>
   bif fs.toList.all (fun f=>(P.info? f.type).isSome)then
    match oh (iR P fs.toList) parts.toList with
    |some l=>.build z.cells.toList l
    |none=>.cJ o
   else .cJ o
  |some z,some (.array _ e)=>
   match bY P e with
   |some n=>
    match oh (fun i=>some (i*n,n)) parts.toList with
    |some l=>.build z.cells.toList l
    |none=>.cJ o
   |none=>.cJ o
  |_,_=>.cJ o
 | .buildSlice t len parts=>
  match P.underlying t with
  |some (.slice e)=>
   match bY P e,il P e with
   |some n,some z=>
    bif Nat.ble (len*n) 16777216 && Nat.beq z.cells.toList.length n && Nat.ble len 16777216 then
     match oh (fun i=>some (i*n,n)) parts.toList with
     |some l=>.buildSlice n len (bF z.cells.toList len) l
     |none=>.cJ o
    else .cJ o
   |_,_=>.cJ o
  |_=>.cJ o
 | .load t x=>
  match iK P t with
  |some true=>match bY P t with|some n=>.load n (fH (fun _=>P) 12 t) x|none=>.cJ o
  |some false=>.bq (Es (P.underlying t)) x
  |none=>.cJ o
 | .store t x y=>match bY P t with|some n=>.store n x y|none=>.cJ o
 | .convert src dst x=>
  match P.underlying src,P.underlying dst with
  |some _,some (.int k)=>.ng k x
  |_,_=>.cJ o
 | .makeSlice t l c=>
  match P.underlying t with
  |some (.slice e)=>
   match bY P e,il P e,pA P e with
   |some n,some z,some by_=>bif Nat.ble by_ 16384 && Nat.beq z.cells.toList.length n && z.cells.toList.all aD then .mkSlice n z.cells.toList l c else .cJ o
   |_,_,_=>.cJ o
  |_=>.cJ o
 | .slice t x lo hi mx=>
  match P.underlying t with
  |some (.slice e)=>bif (bY P e).isSome then .Qr t x lo hi mx else .cJ o
  |_=>.cJ o
 | .fieldAddr t x f=>
  match P.underlying t with
  |some (.struct fs)=>
   match fs.toList[f]? with
   |some fd=>match bY P fd.type with|some n=>bif Nat.beq n 0 then .cJ o else .fieldAddr fd.offset x|none=>.cJ o
   |none=>.cJ o
  |_=>.cJ o
 | .field t x f=>
  match P.underlying t with
  |some (.struct fs)=>
   match fs.toList[f]? with
   |some fd=>
    match iK P fd.type with
    |some true=>match bY P fd.type with|some n=>.M9 fd.offset n x|none=>.cJ o
    |some false=>.Na fd.offset x
    |none=>.cJ o
   |none=>.cJ o
  |_=>.cJ o
 | .indexAddr t x i=>
  match P.underlying t with
  |some (.slice e)=>match bY P e with|some n=>.yI n x i|none=>.cJ o
  |some (.array len e)=>match bY P e with|some n=>.wo len n x i|none=>.cJ o
  |_=>.cJ o
 | .call { callee:=.builtin .len,args,argTypes }=>
  match args.toList,argTypes.toList with
  | [x],[t]=>
   match P.underlying t with
   |some (.slice _)=>.yO x
   |some .string=>.Nb x
   |_=>.cJ o
  |_,_=>.cJ o
 |_=>.cJ o
set_option maxHeartbeats 1000000 in
theorem EF(P:Unit->Program)(A:bI)(mk:kB)(loc:Bool)(o:Op)(s:SS)(C:Value->SS->Prop):im P A mk loc (Nc (P ()) o) s C=wpOp P A mk loc o s C:=by
 unfold Nc;split
 ·
  split
  ·rename_i z n hz hn
   cases hb:z.cells.toList.all aD with
   |false=>rfl
   |true=>simp only[cond_true,im,wpOp,hz,hn,hb]
  ·rfl
 ·
  split
  ·rename_i n hn
   simp only[im,wpOp,hn];cases ev s _<;>rfl
  ·rfl
 ·
  split
  ·rename_i z fs hz hu
   cases hb:fs.toList.all (fun f=>((P ()).info? f.type).isSome)with
   |false=>rfl
   |true=>
    simp only[cond_true];split
    ·rename_i l hl
     simp only[im,wpOp,uw,hz,hu,hb,cond_true];rcases oq (s:=s) hl with ⟨h1,h2⟩|⟨lv,Pw,h1,h2,h3⟩
     ·rw[h1,h2]
     ·rw[h1,h2]
      simp only[h3];cases EE z.cells.toList Pw<;>rfl
    ·rfl
  ·rename_i z x e hz hu
   split
   ·rename_i n hn
    split
    ·rename_i l hl
     simp only[im,wpOp,uw,hz,hu,hn];rcases oq (s:=s) hl with ⟨h1,h2⟩|⟨lv,Pw,h1,h2,h3⟩
     ·rw[h1,h2]
     ·rw[h1,h2]
      simp only[h3];cases EE z.cells.toList Pw<;>rfl
    ·rfl
   ·rfl
  ·rfl
 ·
  split
  ·rename_i e hu
   split
   ·rename_i n z hn hz
    cases hb:(Nat.ble (_*n) 16777216 && Nat.beq z.cells.toList.length n && Nat.ble _ 16777216)with
    |false=>rfl
    |true=>
     simp only[cond_true];split
     ·rename_i l hl
      simp only[im,wpOp,kU,hu,hn,hz,hb,cond_true];rcases oq (s:=s) hl with ⟨h1,h2⟩|⟨lv,Pw,h1,h2,h3⟩
      ·rw[h1,h2]
      ·rw[h1,h2]
       simp only[h3];cases EE _ Pw with
       |none=>rfl
       |some cs=>
        refine congrArg (fun K=>bif cs.all aD then mk false n cs s K else False) (funext fun v=>funext fun s'=>?_);cases v with
        |pointer a=>cases a<;>rfl
        |_=>rfl
     ·rfl
   ·rfl
  ·rfl
 ·
  split
  ·rename_i ha
   split
   ·rename_i n hn
    simp only[im,wpOp,pV,ha,hn];rfl
   ·rfl
  ·rename_i ha
   simp only[im,wpOp,pV,ha];cases ev s _ with
   |none=>rfl
   |some v=>
    cases v with
    |pointer a=>
     cases a with
     |none=>rfl
     |some a=>
      refine congrArg (mK A s a 1 [Es ((P ()).underlying _)]) (funext fun l=>?_);cases l with
      |nil=>rfl
      |cons v r=>cases r<;>rfl
    |_=>rfl
  ·rfl
 ·
  split
  ·rename_i n hn
   simp only[im,wpOp,wh,hn];cases ev s _ with
   |none=>rfl
   |some v=>
    cases ev s _ with
    |none=>
     cases v with
     |pointer a=>cases a<;>rfl
     |_=>rfl
    |some u=>
     cases v with
     |pointer a=>cases a<;>rfl
     |_=>rfl
  ·rfl
 ·
  split
  ·rename_i d k h1 h2
   simp only[im,wpOp,BU,h1,h2];cases ev s _ with
   |none=>rfl
   |some v=>cases v<;>rfl
  ·rfl
 ·
  split
  ·rename_i e hu
   split
   ·rename_i n z by_ hn hz hy
    cases hb:(Nat.ble by_ 16384 && Nat.beq z.cells.toList.length n && z.cells.toList.all aD)with
    |false=>rfl
    |true=>
     simp only[cond_true,im,wpOp,mw,hu,hn,hz,hy,hb];cases ev s _ with
     |none=>rfl
     |some v=>
      cases ev s _ with
      |none=>cases v<;>rfl
      |some u=>
       cases v with
       |int k l=>
        cases u with
        |int k' c=>
         simp only[hn,hz,hy,hb,cond_true];refine congrArg (fun K=>A.vL l c/\A.rU fun _=>mk false n (A.iP z.cells.toList c) s K) (funext fun v=>funext fun s'=>?_);cases v with
         |pointer a=>cases a<;>rfl
         |_=>rfl
        |_=>rfl
       |_=>cases u<;>rfl
   ·rfl
  ·rfl
 ·
  split
  ·rename_i e hu
   cases hb:(bY (P ()) e).isSome with
   |false=>rfl
   |true=>
    simp only[cond_true,im,wpOp,wi,hu,hb];cases ev s _ with
    |none=>rfl
    |some v=>
     cases pU s _ with
     |none=>cases v<;>rfl
     |some a=>
      cases pU s _ with
      |none=>cases v<;>rfl
      |some b=>
       cases pU s _ with
       |none=>cases v<;>rfl
       |some c=>
        cases v with
        |slice ad n cc=>
         simp only[hb,cond_true];cases a with
         |some a=>cases b<;>cases c<;>rfl
         |none=>
          cases b with
          |none=>cases c<;>rfl
          |some b=>
           cases c with
           |some c=>cases b<;>rfl
           |none=>cases b<;>rfl
        |_=>rfl
  ·rfl
 ·
  split
  ·rename_i fs hu
   split
   ·rename_i fd hf
    split
    ·rename_i n hn
     cases hb:Nat.beq n 0 with
     |true=>rfl
     |false=>
      simp only[cond_false,im,wpOp,mu,hu,hf,hn,hb];cases ev s _ with
      |none=>rfl
      |some v=>
       cases v with
       |pointer a=>
        cases a with
        |none=>rfl
        |some a=>simp only[hf,hn,hb,cond_false];cases a.spot<;>rfl
       |_=>rfl
    ·rfl
   ·rfl
  ·rfl
 ·
  split
  ·rename_i fs hu
   split
   ·rename_i fd hf
    split
    ·rename_i ha
     split
     ·rename_i n hn
      simp only[im,wpOp,ux,kG,hu,hf,ha,hn];cases ev s _ with
      |none=>rfl
      |some v=>
       cases v with
       |agg cs=>simp only[hf,ha,hn];cases jX cs.toList fd.offset n<;>rfl
       |_=>rfl
     ·rfl
    ·rename_i ha
     simp only[im,wpOp,ux,kG,hu,hf,ha];cases ev s _ with
     |none=>rfl
     |some v=>
      cases v with
      |agg cs=>simp only[hf,ha];cases cs.toList[fd.offset]?<;>rfl
      |_=>rfl
    ·rfl
   ·rfl
  ·rfl
 ·
  split
  ·rename_i e hu
   split
   ·rename_i n hn
    simp only[im,wpOp,kf,hu,hn];cases ev s _ with
    |none=>rfl
    |some v=>
     cases ev s _ with
     |none=>cases v<;>rfl
     |some u=>cases v<;>cases u<;>first|rfl|simp only[hn]
   ·rfl
  ·rename_i len e hu
   split
   ·rename_i n hn
    simp only[im,wpOp,kf,hu,hn];cases ev s _ with
    |none=>rfl
    |some v=>
     cases ev s _ with
     |none=>
      cases v with
      |pointer a=>cases a<;>rfl
      |_=>rfl
     |some u=>
      cases v with
      |pointer a=>cases a<;>cases u<;>first|rfl|simp only[hn]
      |_=>cases u<;>rfl
   ·rfl
  ·rfl
 ·
  split
  ·rename_i args argTypes x t hx ht
   split
   ·rename_i e hu
    simp only[im,wpOp,hx,ht,zL,yj,hu];cases ev s _ with
    |none=>rfl
    |some v=>simp only[yj,hu];cases v<;>rfl
   ·rename_i hu
    simp only[im,wpOp,hx,ht,zL,yj,hu];cases ev s _ with
    |none=>rfl
    |some v=>simp only[yj,hu];cases v<;>rfl
   ·rfl
  ·rfl
 ·rfl
end Go.cL
namespace Go.cL
inductive VV where
 |agg (l:List Sv)
 |one (v:Sv)
inductive yJ where
 |kL (l:List VV)
 |val (v:VV)
def Qs:VV->(Value->Prop)->Prop
 | .agg l,C=>Xe l fun l=>C (.agg l.toArray)
 | .one v,C=>Xd v C
def IA:List VV->(List Value->Prop)->Prop
 | [],C=>C []
 |t :: r,C=>Qs t fun v=>IA r fun l=>C (v :: l)
def Sw:yJ->Value->(Value->Prop)->Prop
 | .kL l,v,C=>IA l fun l=>v=.tuple l.toArray/\C (.tuple l.toArray)
 | .val t,v,C=>Qs t fun u=>v=u/\C u
def yP(w:Option yJ)(v:Value)(C:Value->Prop):Prop:=
 match w with
 |none=>C v
 |some w=>Sw w v C
def Nd(P:Program)(t:TypeId):VV:=
 match iK P t with
 |some true=>.agg (fH (fun _=>P) 12 t)
 |_=>.one (Es (P.underlying t))
def IB(P:Program)(t:TypeId):yJ:=
 match P.underlying t with
 |some (.tuple ts)=>.kL (ts.toList.map (Nd P))
 |_=>.val (Nd P t)
theorem ot(P:Unit->Program):∀(d:Nat) (t:TypeId),fH (fun _=>P ()) d t=fH P d t
 |0,_=>rfl
 |d+1,t=>by
  unfold fH;have ih:=ot P d;have Xm:fH (fun _=>P ()) d=fH P d:=funext ih;rw[Xm]
theorem Cj(P:Unit->Program)(t:TypeId)(C:Value->Prop):Qs (Nd (P ()) t) C=Sk P t C:=by
 unfold Nd Sk;cases iK (P ()) t with
 |none=>rfl
 |some b=>
  cases b with
  |false=>rfl
  |true=>simp only[Qs,ot]
theorem EG(P:Unit->Program):∀(ts:List TypeId) (C:List Value->Prop),IA (ts.map (Nd (P ()))) C=MS P ts C
 | [],C=>rfl
 |t :: r,C=>by
  simp only[List.map_cons,IA,MS,Cj];exact congrArg _ (funext fun v=>EG P r _)
theorem Nf(P:Unit->Program)(t:TypeId)(v:Value)(C:Value->Prop):Sw (IB (P ()) t) v C=seen P t v C:=by
 unfold IB seen;cases(P ()).underlying t with
 |none=>exact Cj P _ _
 |some d=>cases d<;>first|exact EG P _ _|exact Cj P _ _
inductive RDo where
 |op (loc:Bool) (r:Vy)
 |call (x:Operand) (args:List Operand) (v:Option yJ)
structure fJ where
 dst:Option Nat
 guard:Option (Nat×Bool)
 act:RDo
def wq(yn:Nat->Nat)(s:SS)(x:Operand)(args:List Operand):Option (FuncId×List Value):=
 match ev s x,zL s args with
 |some (.func (.func f) first captured),some l=>bif l.all dn && Nat.blt f aU then some (f,first.toList++l++captured.toList)else none
 |some (.func (.yield y) _ _),some l=>bif l.all dn then some (yn y,l)else none
 |_,_=>none
def Ud(P:Unit->Program)(A:bI)(a:RDo)(s:SS)(C:Value->SS->Prop):Prop:=
 match a with
 | .op loc r=>im P A (Qd A) loc r s C
 | .call x args w=>
  match wq A.yn s x args with
  |some (g,l)=>A.call g l s.h fun v h'=>yP w v fun v=>C v { s with h:=h' }
  |none=>False
def vy(s:SS)(dst:Option Tmp)(v:Value)(C:SS->Prop):Prop:=
 match dst with
 |none=>C s
 |some d=>C { s with env:=(d,v) :: s.env }
def tv(g:Option (Nat×Bool))(s:SS)(go skip:SS->Prop):Prop:=
 match g with
 |none=>go s
 |some (d,want)=>
  match lk s.env d with
  |some (.bool b)=>
   match want with
   |true=>fork b (fun _=>go { s with env:=(d,.bool true) :: s.env }) (fun _=>skip { s with env:=(d,.bool false) :: s.env })
   |false=>fork b (fun _=>skip { s with env:=(d,.bool true) :: s.env }) (fun _=>go { s with env:=(d,.bool false) :: s.env })
  |some (.tuple vs)=>bif vs.toList.isEmpty then skip s else False
  |_=>False
def sf(P:Unit->Program)(A:bI):List fJ->SS->(SS->Prop)->Prop
 | [],s,Q=>Q s
 |o :: rest,s,Q=>
  tv o.guard s
   (fun s=>Ud P A o.act s fun v s'=>vy s' o.dst v fun qG=>sf P A rest qG Q)
   (fun s=>vy s o.dst undef fun s'=>sf P A rest s' Q)
def yQ(ops:Array Oper)(o:Oper):Option (Option (Nat×Bool)):=
 match o.guard with
 |none=>some none
 |some (j,want)=>
  match (ops[j]?).bind (·.dst)with
  |some d=>some (some (d,want))
  |none=>none
def IC(P:Program)(H:Hint)(f:FuncId)(o:Oper):RDo:=
 match dN o.op with
 |some c=>
  match c.callee with
  | .value x=>.call x c.args.toList (match o.dst with|none=>none|some _=>some (IB P o.type))
  |_=>.op false (.cJ o.op)
 |none=>.op (eO H f o) (Nc P o.op)
def wu(P:Program)(H:Hint)(f:FuncId)(nt:Nat)(ops:Array Oper)(o:Oper):Option fJ:=
 match yQ ops o with
 |some g=>bif (match o.dst with|none=>true|some d=>Nat.blt d nt)then some ⟨o.dst,g,IC P H f o⟩else none
 |none=>none
def qg(P:Program)(H:Hint)(f:FuncId)(nt:Nat)(ops:Array Oper):List Oper->Option (List fJ)
 | []=>some []
 |o :: r=>
  match wu P H f nt ops o with
  |some x=>
   match qg P H f nt ops r with
   |some l=>some (x :: l)
   |none=>none
  |none=>none
theorem tw{o:Op}{c:Call}(h:dN o=some c):∃x,c.callee=.value x:=by
 unfold dN at h;split at h
 ·split at h
  ·rename_i x hx;simp only[oi]at h;subst h;exact⟨x,hx⟩
  ·cases h
 ·cases h
theorem vz{ops:Array Oper}{o:Oper}{g:Option (Nat×Bool)}(h:yQ ops o=some g)(s:SS)(go skip:SS->Prop):tv g s go skip=n7 ops o s go skip:=by
 unfold yQ at h;unfold n7;split at h
 ·rename_i hg
  simp only[oi]at h;subst h;rw[hg];rfl
 ·rename_i j want hg
  rw[hg];simp only[];split at h
  ·rename_i d hd
   simp only[oi]at h;subst h;rw[hd];simp only[tv];cases lk s.env d with
   |none=>rfl
   |some v=>cases v<;>first|rfl|(cases want<;>rfl)
  ·cases h
theorem put_eq{nt:Nat}{s:SS}{dst:Option Tmp}{v:Value}{C:SS->Prop}(h:(match dst with|none=>true|some d=>Nat.blt d nt)=true):vy s dst v C=z9 nt s dst v C:=by
 unfold vy z9;cases dst with
 |none=>rfl
 |some d=>simp only[]at h;simp only[h,cond_true]
theorem yR(P:Unit->Program)(dst:Option Tmp)(t:TypeId)(v:Value)(C:Value->Prop):yP (match dst with|none=>none|some _=>some (IB (P ()) t)) v C=qR P dst t v C:=by
 unfold qR;cases dst with
 |none=>rfl
 |some d=>exact Nf P t v C
theorem A3{c:Call}{x:Operand}(h:c.callee=.value x)(yn:Nat->Nat)(s:SS):wq yn s x c.args.toList=jT yn s c:=by
 unfold jT wq;rw[h];simp only[];cases ev s x with
 |none=>rfl
 |some v=>
  cases v with
  |func fn first captured=>cases fn<;>cases zL s c.args.toList<;>rfl
  |_=>cases zL s c.args.toList<;>rfl
theorem Ng(P:Unit->Program)(H:Hint)(A:bI)(f:FuncId)(o:Oper)(s:SS)(C:Value->SS->Prop):Ud P A (IC (P ()) H f o) s C=It P H A f o s C:=by
 unfold IC It;cases hc:dN o.op with
 |none=>exact EF P A _ _ _ _ _
 |some c=>
  obtain⟨x,hx⟩:=tw hc;simp only[hx,Ud,A3 hx,yR];cases jT A.yn s c<;>rfl
theorem vA(P:Unit->Program)(H:Hint)(A:bI)(f:FuncId)(nt:Nat)(ops:Array Oper):∀(l:List Oper) (r:List fJ),qg (P ()) H f nt ops l=some r->∀(s:SS) (Q:SS->Prop),sf P A r s Q=wpOps P H A f nt ops l s Q
 | [],r,h,s,Q=>by
  simp only[qg,oi]at h;subst h;rfl
 |o :: l,r,h,s,Q=>by
  simp only[qg]at h;split at h
  ·rename_i x hx
   split at h
   ·rename_i r' hr
    simp only[oi]at h;subst h;unfold wu at hx;split at hx
    ·rename_i g hg
     obtain⟨hb,hx⟩:=lK hx;subst hx;have ih:sf P A r'=wpOps P H A f nt ops l:=funext fun s=>funext fun Q=>vA P H A f nt ops l r' hr s Q
     simp only[sf,wpOps,vz hg,put_eq hb,Ng,ih]
    ·cases hx
   ·cases h
  ·cases h
inductive FK where
 |none
 |new (loc:Bool)
 |dx (x:Operand)
 |Pv (x:Operand)
 |all
 |app (l:List Operand)
structure yK where
 o:fJ
 p:Nat
 kind:FK
 pr:List Nat
 st:Bool
 sm:Bool
def Ue(o:Op)(loc:Bool):FK:=
 bif bN o then .none else
 match o with
 | .alloc _ | .box _ _=>.new loc
 | .buildSlice _ _ _ | .makeSlice _ _ _=>.new false
 | .load _ x | .store _ x _=>.dx x
 | .convert _ _ x=>.Pv x
 | .call { callee:=.builtin .append,args,argTypes }=>.app args.toList
 |_=>.all
def VC(k:FK)(id tag:Nat)(s:SS):FP:=
 match k with
 | .none=>.none
 | .new loc=>bif loc then .new true tag else .new false id
 | .dx x=>
  match ev s x with
  |some (.pointer (some a))=>.block a.spot.isSome a.block
  |_=>.all
 | .Pv x=>
  match ev s x with
  |some (.slice (some a) _ _)=>bif a.spot.isNone then .block false a.block else .none
  |_=>.none
 | .all=>.all
 | .app l=>.app (DJ (Sl s l))
theorem Uf(o:Op)(loc:Bool)(id tag:Nat)(s:SS):VC (Ue o loc) id tag s=Sm o loc id tag s:=by
 unfold Ue Sm;cases bN o with
 |true=>rfl
 |false=>
  simp only[cond_false];cases o with
  |load t x=>
   simp only[VC];cases ev s x with
   |none=>rfl
   |some v=>cases v with
    |pointer a=>cases a<;>rfl
    |_=>rfl
  |store t x y=>
   simp only[VC];cases ev s x with
   |none=>rfl
   |some v=>cases v with
    |pointer a=>cases a<;>rfl
    |_=>rfl
  |convert t u x=>
   simp only[VC];cases ev s x with
   |none=>rfl
   |some v=>cases v with
    |slice a n c=>cases a<;>rfl
    |_=>rfl
  |call c=>
   obtain⟨callee,args,tys⟩:=c;cases callee with
   |builtin b=>cases b<;>rfl
   |_=>rfl
  |_=>rfl
abbrev Lm:=List (Nat×List Nat×FP×Bool)
def nh(p:Nat)(pr:List Nat)(x:FP)(w:Bool)(l:Lm):Lm:=
 match x with
 | .none=>l
 |x=>(p,pr,x,w) :: l
def yS(p:Nat)(pr:List Nat)(x:FP)(w:Bool)(acc:Lm):Lm:=
 match x with
 | .none=>acc
 |x=>acc++[(p,pr,x,w)]
theorem k9(b:Bool)(X Y:Prop):fork b (fun _=>X) (fun _=>Y)=cond b X Y:=by cases b<;>rfl
def jU(P:Unit->Program)(A:bI)(base aM:Nat):List yK->Nat->SS->Lm->(SS->Lm->Prop)->Prop
 | [],_,s,acc,Q=>Q s acc
 |d :: rest,i,s,acc,Q=>
  tv d.o.guard s
   (fun s=>
    match d.o.act with
    | .call x args w=>
     match wq A.yn s x args with
     |some (g,l)=>A.call g l (A.fresh s.h) fun v h'=>yP w v fun v=>
       vy { s with h:=A.aw s.h h' } d.o.dst v fun qG=>jU P A base aM rest (i+1) qG (acc++[(d.p,d.pr,.all,A.wrote s.h h')]) Q
     |none=>False
    | .op loc r=>
     fork d.sm
      (fun _=>im P A (uF A (A.bZ base i) (aM+i)) loc r s fun v s'=>
       vy s' d.o.dst v fun qG=>jU P A base aM rest (i+1) qG (yS d.p d.pr (VC d.kind (A.bZ base i) (aM+i) s) d.st acc) Q)
      (fun _=>im P A (uF A (A.bZ base i) (aM+i)) loc r { s with h:=A.fresh s.h } fun v s'=>
       vy { s' with h:=A.aw s.h s'.h } d.o.dst v fun qG=>jU P A base aM rest (i+1) qG (yS d.p d.pr (VC d.kind (A.bZ base i) (aM+i) s) (A.wrote s.h s'.h) acc) Q))
   (fun s=>vy s d.o.dst undef fun s'=>jU P A base aM rest (i+1) s' acc Q)
def Kj(q:Nat):List Nat->Bool
 | []=>false
 |a :: l=>bif Nat.beq q a then true else Kj q l
def iX(A:bI)(dR:Nat)(pr:List Nat)(x:FP)(wx:Bool):Lm->Prop->Prop
 | [],C=>C
 |(q,_,y,wy) :: r,C=>fork (Kj q pr) (fun _=>iX A dR pr x wx r C) (fun _=>ym A dR x wx y wy (iX A dR pr x wx r C))
def sh(A:bI)(dR:Nat):Lm->Prop->Prop
 | [],C=>C
 |(_,pr,x,wx) :: r,C=>iX A dR pr x wx r (sh A dR r C)
def ID(P:Unit->Program)(A:bI)(n:Nat)(ds:List yK)(s:SS)(Q:SS->Prop):Prop:=
 jU P A (A.next s.h) s.kn ds 0 { s with kn:=s.kn+n,h:=A.aH s.h n } [] fun s' iv=>sh A (A.bZ (A.next s.h) n) iv (Q s')
def Qt(b:Array Nat)(n p:Nat):List Nat:=(List.range n).filter (fun q=>prec b p q)
def Kk(P:Program)(H:Hint)(f:FuncId)(nt:Nat)(ops:Array Oper)(b:Array Nat):List Nat->Option (List yK)
 | []=>some []
 |p :: r=>
  match ops[p]? with
  |some o=>
   match wu P H f nt ops o with
   |some x=>
    match Kk P H f nt ops b r with
    |some l=>some (⟨x,p,Ue o.op (eO H f o),Qt b ops.size p,iH o.op,small o.op⟩ :: l)
    |none=>none
   |none=>none
  |none=>none
theorem EH(q:Nat):∀l:List Nat,Kj q l=decide (q∈l)
 | []=>by simp[Kj]
 |a :: l=>by
  unfold Kj;rw[EH q l];cases h:Nat.beq q a with
  |true=>have:=Nat.eq_of_beq_eq_true h;subst this;simp
  |false=>have:=Nat.ne_of_beq_eq_false h;simp[this]
theorem tx{b:Array Nat}{n p q:Nat}(h:q<n):Kj q (Qt b n p)=prec b p q:=by
 rw[EH];unfold Qt;simp only[List.mem_filter,List.mem_range,h,true_and];cases prec b p q<;>rfl
def yT(b:Array Nat)(n:Nat):List (Nat×FP×Bool)->Lm
 | []=>[]
 |(p,x,w) :: l=>nh p (Qt b n p) x w (yT b n l)
theorem rP(A:bI)(ops:Array Oper)(dR p:Nat)(wx:Bool):∀(l:List (Nat×FP×Bool)) (C:Prop),js A ops dR p .none wx l C=C
 | [],C=>rfl
 |(q,y,wy) :: l,C=>by
  unfold js;rw[rP A ops dR p wx l C];cases prec (Region.before ops) p q<;>rfl
theorem EI(A:bI)(dR:Nat)(x:FP)(wx wy:Bool)(C:Prop):ym A dR x wx .none wy C=C:=by
 cases x<;>rfl
theorem kh(A:bI)(ops:Array Oper)(dR p:Nat)(x:FP)(wx:Bool):∀(l:List (Nat×FP×Bool)) (C:Prop),(∀e∈l,e.1<ops.size)->
  iX A dR (Qt (Region.before ops) ops.size p) x wx (yT (Region.before ops) ops.size l) C=js A ops dR p x wx l C
 | [],C,_=>rfl
 |(q,y,wy) :: l,C,h=>by
  have hq:q<ops.size:=h (q,y,wy) List.mem_cons_self;have ih:=kh A ops dR p x wx l C (fun e he=>h e (List.mem_cons_of_mem _ he));unfold js yT;cases y with
  |none=>
   simp only[nh,EI];rw[ih];cases prec (Region.before ops) p q<;>rfl
  |block l' b'=>simp only[nh,iX,k9,tx hq,ih]
  |new l' b'=>simp only[nh,iX,k9,tx hq,ih]
  |all=>simp only[nh,iX,k9,tx hq,ih]
  |app c=>simp only[nh,iX,k9,tx hq,ih]
theorem EJ(A:bI)(ops:Array Oper)(dR:Nat):∀(l:List (Nat×FP×Bool)) (C:Prop),(∀e∈l,e.1<ops.size)->sh A dR (yT (Region.before ops) ops.size l) C=qS A ops dR l C
 | [],C,_=>rfl
 |(p,x,wx) :: l,C,h=>by
  have hl:∀e∈l,e.1<ops.size:=fun e he=>h e (List.mem_cons_of_mem _ he)
  have ih:=EJ A ops dR l C hl;unfold qS yT;cases x with
  |none=>simp only[nh,rP];exact ih
  |block l' b'=>simp only[nh,sh,ih];exact kh A ops dR p _ wx l _ hl
  |new l' b'=>simp only[nh,sh,ih];exact kh A ops dR p _ wx l _ hl
  |all=>simp only[nh,sh,ih];exact kh A ops dR p _ wx l _ hl
  |app c=>simp only[nh,sh,ih];exact kh A ops dR p _ wx l _ hl
theorem IE(P:Unit->Program)(H:Hint)(A:bI)(f:FuncId)(nt:Nat)(ops:Array Oper)(base aM:Nat):∀(l:List Nat) (ds:List yK),Kk (P ()) H f nt ops (Region.before ops) l=some ds->
  ∀(i:Nat) (s:SS) (acc:Lm) (Q:SS->List (Nat×FP×Bool)->Prop) (Q':SS->Lm->Prop),(∀r iv,(∀e∈iv,e.1<ops.size)->Q' r (acc++yT (Region.before ops) ops.size iv)=Q r iv)->
  jU P A base aM ds i s acc Q'=kC P H A f nt ops base aM l i s Q
 | [],ds,h,i,s,acc,Q,Q',hq=>by
  simp only[Kk,oi]at h;subst h;have:=hq s [] (fun e he=>by cases he);rw[yT,List.append_nil]at this;exact this
 |p :: l,ds,h,i,s,acc,Q,Q',hq=>by
  simp only[Kk]at h;split at h
  ·rename_i o ho
   split at h
   ·rename_i x hx
    split at h
    ·rename_i r hr
     simp only[oi]at h;subst h;have hp:p<ops.size:=(Array.getElem?_eq_some_iff.1 ho).1;unfold wu at hx;split at hx
     ·rename_i g hg
      obtain⟨hb,hx⟩:=lK hx;subst hx;have ih:=IE P H A f nt ops base aM l r hr;have app:∀(fp:FP) (w:Bool) (iv:Lm),yS p (Qt (Region.before ops) ops.size p) fp w acc++iv=acc++nh p (Qt (Region.before ops) ops.size p) fp w iv:=fun fp w iv=>by
       cases fp<;>simp[yS,nh]
      have step:∀(qG:SS) (fp:FP) (w:Bool),jU P A base aM r (i+1) qG (yS p (Qt (Region.before ops) ops.size p) fp w acc) Q'=kC P H A f nt ops base aM l (i+1) qG (fun r iv=>Q r ((p,fp,w) :: iv)):=fun qG fp w=>
       ih (i+1) qG _ _ _ (fun r iv hf=>by
        rw[app];exact hq r ((p,fp,w) :: iv) (fun e he=>by
         rcases List.mem_cons.1 he with rfl|he
         ·exact hp
         ·exact hf e he))
      have skip:∀(qG:SS),jU P A base aM r (i+1) qG acc Q'=kC P H A f nt ops base aM l (i+1) qG (fun r iv=>Q r ((p,.none,false) :: iv)):=fun qG=>step qG .none false
      have all:∀(qG:SS) (w:Bool),jU P A base aM r (i+1) qG (acc++[(p,Qt (Region.before ops) ops.size p,.all,w)]) Q'=kC P H A f nt ops base aM l (i+1) qG (fun r iv=>Q r ((p,.all,w) :: iv)):=fun qG w=>step qG .all w
      simp only[jU,kC,k9,ho,vz hg,put_eq hb,skip,Uf,step,all];refine congrArg (fun K=>n7 ops o s K _) (funext fun s=>?_);unfold IC;cases hc:dN o.op with
      |none=>simp only[EF]
      |some c=>
       obtain⟨x,hx⟩:=tw hc;simp only[hx,A3 hx,yR];cases jT A.yn s c<;>rfl
     ·cases hx
    ·cases h
   ·cases h
  ·cases h
inductive oP where
 |skip
 |ret
 |exit (id:Nat) (l:Option (List Tmp))
 |seq (a b:oP)
 |cond (x:Operand) (a b:oP)
 |block (id:Nat) (b:oP)
 |loop (key:Nat) (dF l:Option (List Tmp))
 |Qc (l:Option (List Tmp)) (ops:List fJ)
 |draw (l:Option (List Tmp)) (n:Nat) (ops:List yK)
 |range (key:Nat)
def Sx(dF:Option (List Tmp))(kn:Nat)(s:SS):Option SS:=
 match dF with
 |none=>some s
 |some l=>
  bif Nat.ble kn s.kn && l.all (fun t=>match lk s.env t with|some v=>sT kn v|none=>false)then some { s with env:=pT s.env l,kn:=kn,K:=pT s.K (List.range kn) } else none
def uL(P:Unit->Program)(A:bI)(f:FuncId)(c:oP)(s:SS)(Q:Exit->SS->Prop):Prop:=
 match c with
 | .skip=>Q .normal s
 | .ret=>Q .ret s
 | .exit id l=>Q (.exit id) (fN s l)
 | .seq a b=>uL P A f a s (J9 (fun s'=>uL P A f b s' Q) Q)
 | .cond x a b=>
  match ev s x with
  |some (.bool t)=>fork t (fun _=>uL P A f a s Q) (fun _=>uL P A f b s Q)
  |_=>False
 | .block id b=>uL P A f b s (GR id Q)
 | .loop key dF l=>
  match Sx dF s.kn s with
  |some s0=>A.head f key s.kn (fN s0 l) Q
  |none=>False
 | .Qc l ops=>fork (Nat.ble 10 ops.length) (fun _=>A.rU (fun _=>sf P A ops (fN s l) (Q .normal))) (fun _=>sf P A ops (fN s l) (Q .normal))
 | .draw l n ops=>A.rU fun _=>ID P A n ops (fN s l) fun s'=>A.rU fun _=>Q .normal s'
 | .range key=>A.uE f key s Q
def dJ(P:Program)(H:Hint)(V:Live)(f:FuncId)(nt:Nat):Code->Option oP
 | .skip=>some .skip
 | .ret=>some .ret
 | .exit id=>some (.exit id (V.dx f id))
 | .seq a b=>
  match dJ P H V f nt a,dJ P H V f nt b with
  |some x,some y=>some (.seq x y)
  |_,_=>none
 | .cond c a b=>
  match dJ P H V f nt a,dJ P H V f nt b with
  |some x,some y=>some (.cond c x y)
  |_,_=>none
 | .block id b=>match dJ P H V f nt b with|some x=>some (.block id x)|none=>none
 | .loop b=>some (.loop (keyOf b) (H.dF f (keyOf b)) (V.loop f (keyOf b)))
 | .region id ops draw=>
  bif draw then
   bif nM ops (fS ops)then
    match Kk P H f nt ops (Region.before ops) (fS ops)with
    |some l=>some (.draw (V.Qc f id) ops.size l)
    |none=>none
   else none
  else
   match qg P H f nt ops ops.toList with
   |some l=>some (.Qc (V.Qc f id) l)
   |none=>none
 | .rangeFunc _ _ as _=>some (.range (keyOf as))
 |_=>none
theorem yU(P:Unit->Program)(H:Hint)(A:bI)(Kl:∀f,A.rU f=f ())(V:Live)(f:FuncId)(nt:Nat):∀(c:Code) (r:oP),dJ (P ()) H V f nt c=some r->∀(s:SS) (Q:Exit->SS->Prop),uL P A f r s Q=wpS P H A V f nt c s Q:=by
 intro c
 induction c with
 |skip=>intro r h s Q;simp only[dJ,oi]at h;subst h;rfl
 |ret=>intro r h s Q;simp only[dJ,oi]at h;subst h;rfl
 |exit id=>intro r h s Q;simp only[dJ,oi]at h;subst h;rfl
 |seq a b B4 sJ=>
  intro r h s Q;simp only[dJ]at h;split at h
  ·rename_i x y hx hy
   simp only[oi]at h;subst h;have eb:(fun s'=>uL P A f y s' Q)=(fun s'=>wpS P H A V f nt b s' Q):=funext fun s'=>sJ y hy s' Q
   simp only[uL,wpS];rw[eb];exact B4 x hx s _
  ·cases h
 |cond c a b B4 sJ=>
  intro r h s Q;simp only[dJ]at h;split at h
  ·rename_i x y hx hy
   simp only[oi]at h;subst h;simp only[uL,wpS];cases ev s c with
   |none=>rfl
   |some v=>
    cases v with
    |bool t=>simp only[B4 x hx,sJ y hy]
    |_=>rfl
  ·cases h
 |block id b ih=>
  intro r h s Q;simp only[dJ]at h;split at h
  ·rename_i x hx
   simp only[oi]at h;subst h;exact ih x hx s _
  ·cases h
 |loop b ih=>intro r h s Q;simp only[dJ,oi]at h;subst h;rfl
 |region id ops draw=>
  intro r h s Q;simp only[dJ]at h;cases draw with
  |true=>
   simp only[cond_true]at h;obtain⟨hb,h⟩:nM ops (fS ops)=true/\(match Kk (P ()) H f nt ops (Region.before ops) (fS ops)with|some l=>some (oP.draw (V.Qc f id) ops.size l)|none=>none)=some r:=by
    cases hb:nM ops (fS ops)with
    |false=>rw[hb]at h;cases h
    |true=>rw[hb]at h;exact⟨rfl,h⟩
   split at h
   ·rename_i l hl
    simp only[oi]at h;subst h;simp only[uL,wpS,cond_true,BW,ID,hb,Kl];exact IE P H A f nt ops _ _ (fS ops) l hl 0 _ [] _ _ (fun r iv hf=>by rw[List.nil_append];exact EJ A ops _ iv _ hf)
   ·cases h
  |false=>
   simp only[cond_false]at h;split at h
   ·rename_i l hl
    simp only[oi]at h;subst h;simp only[uL,wpS,cond_false,Kl,k9,Bool.cond_self];exact vA P H A f nt ops ops.toList l hl _ _
   ·cases h
 |rangeFunc x ps as bo _ _=>intro r h s Q;simp only[dJ,oi]at h;subst h;rfl
 |_=>intro r h;cases h
inductive Km where
 |tmp (t:Tmp)
 |agg (t:Tmp) (n:Nat) (vs:List Sv)
 |one (t:Tmp) (v:Sv)
structure IF where
 dF:Option (List Tmp)
 l:Option (List Tmp)
 body:oP
structure G6 where
 x:Operand
 ps:List Tmp
 as:oP
 bo:oP
structure lL where
 body:oP
 res:List Km
 loops:List (Nat×IF)
 aaI:List (Nat×G6)
def ou(A:bI)(s:SS):List Km->(List Value->Prop)->Prop
 | [],C=>C []
 | .tmp t :: r,C=>
  match lk s.env t with
  |some v=>ou A s r fun l=>C (v :: l)
  |none=>False
 | .agg a n vs :: r,C=>
  match lk s.env a with
  |some (.pointer (some x))=>mK A s x n vs fun l=>ou A s r fun l'=>C (.agg l.toArray :: l')
  |_=>False
 | .one a v :: r,C=>
  match lk s.env a with
  |some (.pointer (some x))=>mK A s x 1 [v] fun l=>
   match l with
   | [v]=>ou A s r fun l'=>C (v :: l')
   |_=>False
  |_=>False
def qh(P:Program):List ResultVar->Option (List Km)
 | []=>some []
 | .tmp t :: r=>match qh P r with|some l=>some (.tmp t :: l)|none=>none
 | .cell a t :: r=>
  match qh P r with
  |some l=>
   match iK P t with
   |some true=>match bY P t with|some n=>some (.agg a n (fH (fun _=>P) 12 t) :: l)|none=>none
   |some false=>some (.one a (Es (P.underlying t)) :: l)
   |none=>none
  |none=>none
theorem uM(P:Unit->Program)(A:bI)(s:SS):∀(rs:List ResultVar) (l:List Km),qh (P ()) rs=some l->∀C,ou A s l C=oN P A s rs C
 | [],l,h,C=>by simp only[qh,oi]at h;subst h;rfl
 | .tmp t :: r,l,h,C=>by
  simp only[qh]at h;split at h
  ·rename_i l' hl
   simp only[oi]at h;subst h;simp only[ou,oN,uM P A s r l' hl];cases lk s.env t<;>rfl
  ·cases h
 | .cell a t :: r,l,h,C=>by
  simp only[qh]at h;split at h
  ·rename_i l' hl
   have ih:=uM P A s r l' hl;split at h
   ·rename_i ha
    split at h
    ·rename_i n hn
     simp only[oi]at h;subst h;simp only[ou,oN,ih,pV,ha,hn,ot];cases lk s.env a with
     |none=>rfl
     |some v=>
      cases v with
      |pointer x=>cases x<;>rfl
      |_=>rfl
    ·cases h
   ·rename_i ha
    simp only[oi]at h;subst h;simp only[ou,oN,ih,pV,ha];cases lk s.env a with
    |none=>rfl
    |some v=>
     cases v with
     |pointer x=>
      cases x with
      |none=>rfl
      |some x=>
       refine congrArg (mK A s x 1 [Es ((P ()).underlying t)]) (funext fun l=>?_);cases l with
       |nil=>rfl
       |cons v r=>cases r<;>rfl
     |_=>rfl
   ·cases h
  ·cases h
def qi(P:Program)(H:Hint)(V:Live)(f:FuncId)(nt:Nat):List Code->Option (List (Nat×IF))
 | []=>some []
 |b :: r=>
  match dJ P H V f nt b,qi P H V f nt r with
  |some x,some l=>bif (r.all fun c=>!(Nat.beq (keyOf c) (keyOf b)))then some ((keyOf b,⟨H.dF f (keyOf b),V.loop f (keyOf b),x⟩) :: l)else none
  |_,_=>none
def qU(P:Program)(H:Hint)(V:Live)(f:FuncId)(nt:Nat):List (Operand×Array Tmp×Code×Code)->Option (List (Nat×G6))
 | []=>some []
 |(x,ps,as,bo) :: r=>
  match dJ P H V f nt as,dJ P H V f nt bo,qU P H V f nt r with
  |some a,some b,some l=>bif (r.all fun c=>!(Nat.beq (keyOf c.2.2.1) (keyOf as))) && bE as && bE bo && ps.toList.all (fun t=>Nat.blt t nt)then some ((keyOf as,⟨x,ps.toList,a,b⟩) :: l)else none
  |_,_,_=>none
def fE(P:Program)(H:Hint)(V:Live)(f:FuncId)(fn:Func):Option lL:=
 match fn.body with
 |some c=>
  match dJ P H V f fn.ntmps c,qh P fn.results.toList,qi P H V f fn.ntmps (bG c),qU P H V f fn.ntmps (bJ c)with
  |some b,some r,some l,some g=>some ⟨b,r,l,g⟩
  |_,_,_,_=>none
 |none=>none
theorem oQ{P:Program}{H:Hint}{V:Live}{f:FuncId}{nt:Nat}:∀{l:List (Operand×Array Tmp×Code×Code)} {ls:List (Nat×G6)},qU P H V f nt l=some ls->∀r∈l,yD r
 | [],ls,h,r,hr=>by cases hr
 |(x,ps,as,bo) :: l,ls,h,r,hr=>by
  simp only[qU]at h;split at h
  ·rename_i a b l' ha hb hl
   obtain⟨hc,h⟩:=lK h;simp only[Bool.and_eq_true]at hc;rcases List.mem_cons.1 hr with rfl|hr
   ·exact⟨hc.1.1.2,hc.1.2⟩
   ·exact oQ hl r hr
  ·cases h
def Xn(A:bI)(rs:List Km)(Q:Value->af->Prop):Exit->SS->Prop
 | .normal,s=>ou A s rs fun l=>bif l.all dn then Q (jn l) s.h else False
 | .ret,s=>ou A s rs fun l=>bif l.all dn then Q (jn l) s.h else False
 |_,_=>False
def G7(P:Unit->Program)(A:bI)(g:FuncId)(r:lL)(args:List Value)(h:af)(Q:Value->af->Prop):Prop:=
 uL P A g r.body ⟨rO args 0 [],0,[],h⟩ (Xn A r.res Q)
def Ck(P:Unit->Program)(A:bI)(f:FuncId)(r:lL)(key kn:Nat)(s:SS)(Q:Exit->SS->Prop):Prop:=
 match lk r.loops key with
 |some b=>uL P A f b.body s (J9 (fun s'=>
   match Sx b.dF kn s' with
   |some s1=>A.head f key kn (fN s1 b.l) Q
   |none=>False) Q)
 |none=>False
theorem Qu(P:Unit->Program)(A:bI){rs:List ResultVar}{l:List Km}(h:qh (P ()) rs=some l)(Q:Value->af->Prop):Xn A l Q=T2 P A rs Q:=by
 funext x s
 cases x<;>first|rfl|exact uM P A s rs l h _
theorem Kn{P:Unit->Program}{H:Hint}{V:Live}{g:FuncId}{fn:Func}{r:lL}(h:fE (P ()) H V g fn=some r){A:bI}(Kl:∀f,A.rU f=f ()){args:List Value}{hp:af}{Q:Value->af->Prop}(hw:G7 P A g r args hp Q):Et P H A V g fn args hp Q:=by
 unfold fE at h;unfold Et;split at h
 ·rename_i c hc
  rw[hc];simp only[];split at h
  ·rename_i b rs l gs hb hr hl hgs
   simp only[oi]at h;subst h;unfold G7 at hw;rw[Qu P A hr]at hw;rw[yU P H A Kl V g fn.ntmps c b hb]at hw;exact hw
  ·cases h
 ·cases h
theorem rQ{P:Program}{H:Hint}{V:Live}{f:FuncId}{nt:Nat}:∀{l:List Code} {ls:List (Nat×IF)},qi P H V f nt l=some ls->∀{key:Nat} {x:IF},lk ls key=some x->
  ∃b,l.filter (fun b=>Nat.beq (keyOf b) key)=[b]/\keyOf b=key/\dJ P H V f nt b=some x.body/\x.dF=H.dF f key/\x.l=V.loop f key
 | [],ls,h,key,x,hx=>by
  simp only[qi,oi]at h;subst h;cases hx
 |b :: r,ls,h,key,x,hx=>by
  simp only[qi]at h;split at h
  ·rename_i y l hy hl
   obtain⟨hb,h⟩:=lK h;subst h;simp only[lk]at hx;cases hk:Nat.beq (keyOf b) key with
   |true=>
    rw[hk]at hx;simp only[cond_true,oi]at hx;subst hx;have e:=Nat.eq_of_beq_eq_true hk;refine⟨b,?_,e,hy,by rw[e],by rw[e]⟩;rw[List.filter_cons_of_pos (by simpa using hk)]
    congr 1
    rw[List.filter_eq_nil_iff];intro c hc;have:=List.all_eq_true.1 hb c hc;rw[<-e];have h9:Nat.beq (keyOf c) (keyOf b)=false:=by
     cases h8:Nat.beq (keyOf c) (keyOf b)with
     |false=>rfl
     |true=>rw[h8]at this;cases this
    rw[h9];exact Bool.false_ne_true
   |false=>
    rw[hk]at hx;simp only[cond_false]at hx;obtain⟨b',h1,h2⟩:=rQ hl hx;refine⟨b',?_,h2⟩;rw[List.filter_cons_of_neg (by rw[hk];exact Bool.false_ne_true)];exact h1
  ·cases h
theorem G8{P:Unit->Program}{H:Hint}{V:Live}{f:FuncId}{fn:Func}{r:lL}(h:fE (P ()) H V f fn=some r){A:bI}(Kl:∀f,A.rU f=f ()){key kn:Nat}{s:SS}{Q:Exit->SS->Prop}(hw:Ck P A f r key kn s Q):BX P H A V f fn key kn s Q:=by
 unfold fE at h;unfold BX;split at h
 ·rename_i c hc
  rw[hc];simp only[];split at h
  ·rename_i b rs l gs hb hr hl hgs
   simp only[oi]at h;subst h;unfold Ck at hw;simp only[]at hw;split at hw
   ·rename_i x hx
    obtain⟨b',h1,h2,h3,h4,h5⟩:=rQ hl hx;rw[h1];simp only[];unfold wj;rw[yU P H A Kl V f fn.ntmps b' x.body h3]at hw;rw[h4,h5]at hw;subst h2;exact⟨oQ hgs,hw⟩
   ·exact hw.elim
  ·cases h
 ·cases h
theorem AOK.aQ{P:Unit->Program}{H:Hint}{F:bg}{A:bI}(hA:AOK P H F A){V:Live}{g:FuncId}{fn:Func}{r:lL}{args:List Value}{h:af}{Q:Value->af->Prop}(hf:(P ()).funcs[g]?=some fn)(hr:fE (P ()) H V g fn=some r)(hn:F g args h=none)(hl:h.low<=h.next)(hw:G7 P A g r args h Q)(hg:g<aU:=by decide):A.call g args h Q:=
 hA.body V hg hf hn hl (Kn hr (fun f=>by rw[hA.eq];rfl) hw)
theorem AOK.ar{P:Unit->Program}{H:Hint}{F:bg}{A:bI}(hA:AOK P H F A){V:Live}{f:FuncId}{fn:Func}{r:lL}(zK:(P ()).funcs[f]?=some fn)(hr:fE (P ()) H V f fn=some r){key kn:Nat}{s:SS}{Q:Exit->SS->Prop}(hw:Ck P A f r key kn s Q):A.head f key kn s Q:=
 hA.round V zK (G8 hr (fun f=>by rw[hA.eq];rfl) hw)
end Go.cL
namespace Go.cL
theorem br{c:Bool}{A B:Prop}(p:Prop)[Decidable p](hc:c=decide p)(h1:p->A)(h2:¬p->B):cond c A B:=by
 subst hc;by_cases h:p
 ·simp only[h,decide_true,cond_true];exact h1 h
 ·simp only[h,decide_false,cond_false];exact h2 h
structure Ext(h h':af):Prop where
 next:h.next<=h'.next
 low:h.low<=h.next->h'.low<=h'.next
 vK:Nat.min h.low h.next<=h'.low
 get:∀b,b<h.next->h'.m.get b=h.m.get b
theorem Ext.refl(h:af):Ext h h:=⟨Nat.le_refl _,fun h=>h,Nat.min_le_left _ _,fun _ _=>rfl⟩
theorem Ext.trans{a b c:af}(h:Ext a b)(k:Ext b c):Ext a c:=
 ⟨Nat.le_trans h.next k.next,fun l=>k.low (h.low l),by
  have h1:=h.vK;have h2:=k.vK;have h3:=h.next;have:Nat.min a.low a.next<=a.next:=Nat.min_le_right _ _;have h4:Nat.min a.low a.next<=Nat.min b.low b.next:=Nat.le_min.2 ⟨h1,om⟩;omega,fun i hi=>(k.get i (Nat.lt_of_lt_of_le hi h.next)).trans (h.get i hi)⟩
theorem Ext.push(h:af)(es:Nat)(cs:List Value):Ext h (h.push es cs):=
 ⟨by simp[af.push],fun l=>by simp only[af.push];omega,by simp only[af.push];exact Nat.min_le_left _ _,fun b hb=>by simp only[af.push];rw[cQ.aK _ _ om]⟩
theorem Ext.aH(h:af)(n:Nat):Ext h (h.aH n):=
 ⟨by simp[af.aH],fun l=>by simp only[af.aH];omega,by simp only[af.aH];exact Nat.min_le_left _ _,fun b hb=>rfl⟩
theorem Ext.write{h h1 h':af}(k:Ext h h1){b o:Nat}{vs:List Value}(hb:h.next<=b)(hw:h1.write b o vs=some h'):Ext h h':=by
 have kb:=bM.write (B:=0) hw;unfold af.write at hw;split at hw
 ·split at hw
  ·simp only[oi]at hw
   subst hw;refine⟨k.next,fun l=>?_,?_,fun i hi=>?_⟩
   ·have:=k.low l
    have h2:Nat.min h1.low b<=h1.low:=Nat.min_le_left _ _;show Nat.min h1.low b<=h1.next;omega
   ·have:=k.vK
    show Nat.min h.low h.next<=Nat.min h1.low b;have h2:Nat.min h.low h.next<=h.next:=Nat.min_le_right _ _;exact Nat.le_min.2 ⟨this,om⟩
   ·show(h1.m.set b _).get i=_
    rw[cQ.aK _ _ om];exact k.get i hi
  ·cases hw
 ·cases hw
theorem Ext.kill{h h1:af}(k:Ext h h1){b:Nat}(hb:h.next<=b):Ext h (h1.kill b):=by
 refine⟨k.next,fun l=>?_,?_,fun i hi=>?_⟩
 ·have:=k.low l
  have h2:Nat.min h1.low b<=h1.low:=Nat.min_le_left _ _;show Nat.min h1.low b<=h1.next;omega
 ·have:=k.vK
  show Nat.min h.low h.next<=Nat.min h1.low b;have h2:Nat.min h.low h.next<=h.next:=Nat.min_le_right _ _;exact Nat.le_min.2 ⟨this,om⟩
 ·show(h1.m.set b _).get i=_
  rw[cQ.aK _ _ om];exact k.get i hi
theorem Ext.cells{h h':af}(k:Ext h h'){b:Nat}(hb:b<h.next):h'.cells? b=h.cells? b:=by
 unfold af.cells?;rw[k.get b hb]
def Cells(h:af)(a:Option Addr)(n es:Nat)(cells:List Value):Prop:=
 match a with
 |none=>n=0/\cells=[]
 |some ad=>ad.spot=none/\ad.block<h.next/\h.aL ad (n*es)=some cells
theorem Cells.ext{h h':af}{a:Option Addr}{n es:Nat}{cells:List Value}(c:Cells h a n es cells)(k:Ext h h'):Cells h' a n es cells:=by
 cases a with
 |none=>exact c
 |some ad=>
  obtain⟨h1,h2,h3⟩:=c;refine⟨h1,Nat.lt_of_lt_of_le h2 k.next,?_⟩;unfold af.aL at h3 ⊢;rw[k.cells h2];exact h3
theorem Cells.length{h:af}{a:Option Addr}{n es:Nat}{cells:List Value}(c:Cells h a n es cells):cells.length=n*es:=by
 cases a with
 |none=>obtain⟨rfl,rfl⟩:=c;simp
 |some ad=>
  obtain⟨h1,h2,h3⟩:=c;unfold af.aL at h3;rw[h1]at h3;simp only[]at h3;split at h3
  ·exact(nO h3).1
  ·cases h3
theorem rT{cs:List Value}{off n:Nat}{l:List Value}(h:(cs.drop off).take n=l)(hl:l.length=n):jX cs off n=some l:=by
 unfold jX;simp only[h,hl];simp
theorem Dp{cs:List Value}{off n:Nat}{l:List Value}(h:jX cs off n=some l):(cs.drop off).take n=l/\l.length=n:=by
 have h1:=(nO h).1;unfold jX at h;obtain⟨_,h2⟩:=lK h;exact⟨h2,h1⟩
theorem Cells.at{h:af}{a:Option Addr}{n es:Nat}{cells:List Value}(c:Cells h a n es cells){i m:Nat}(hi:i+m<=n*es)(hm:0<m):∃b o,a=some ⟨b,o,none⟩/\b<h.next/\h.aL ⟨b,o+i,none⟩ m=some ((cells.drop i).take m):=by
 have hlen:=c.length;cases a with
 |none=>obtain⟨rfl,rfl⟩:=c;simp at hi;omega
 |some ad=>
  obtain⟨h1,h2,h3⟩:=c;obtain⟨b,o,sp⟩:=ad;simp only at h1;subst h1;refine⟨b,o,rfl,h2,?_⟩;unfold af.aL at h3 ⊢;simp only[]at h3 ⊢;split at h3
  ·rename_i cs Bs
   obtain⟨e1,e2⟩:=Dp h3;refine rT ?_ ?_
   ·subst e1
    rw[List.drop_take,List.take_take,List.drop_drop,Nat.min_eq_left om]
   ·simp only[List.length_take,List.length_drop];omega
  ·cases h3
theorem take_one{α:Type}(l:List α)(i:Nat)(x:α)(h:l[i]?=some x):(l.drop i).take 1=[x]:=by
 obtain⟨hi,rfl⟩:=List.getElem?_eq_some_iff.1 h;rw[List.drop_eq_getElem_cons hi,List.take_succ_cons,List.take_zero]
def fx(l:List Int)(i:Int):Int:=l.getD i.toNat 0
theorem wrap64{x:Int}(h1:-9223372036854775808<=x)(h2:x<9223372036854775808):IntKind.wrap .i64 x=x:=by
 unfold IntKind.wrap;simp[IntKind.bits,IntKind.signed,IntKind.min,IntKind.max];omega
theorem Wj{x:Int}(h1:0<=x)(h2:x<256):IntKind.wrap .u8 x=x:=by
 unfold IntKind.wrap;simp[IntKind.bits,IntKind.signed,IntKind.min,IntKind.max];omega
end Go.cL
namespace Go.cL
def aJ(h:af)(b es:Nat)(cells:List Value):Prop:=h.m.get b=some (.live true es cells)
theorem aJ.push(h:af)(es:Nat)(cs:List Value):aJ (h.push es cs) h.next es cs:=by
 unfold aJ af.push;simp only[];rw[cQ.gV]
theorem aJ.putAt(h:af)(id es:Nat)(cs:List Value):aJ (h.putAt id es cs) id es cs:=by
 unfold aJ af.putAt;simp only[];rw[cQ.gV]
theorem aJ.ext{h h':af}{b es:Nat}{cells:List Value}(c:aJ h b es cells)(k:Ext h h')(hb:b<h.next):aJ h' b es cells:=by
 unfold aJ;rw[k.get b hb];exact c
theorem aJ.aL{h:af}{b es:Nat}{cells:List Value}(c:aJ h b es cells){o n:Nat}(hn:o+n<=cells.length):h.aL ⟨b,o,none⟩ n=some ((cells.drop o).take n):=by
 unfold af.aL af.cells?;simp only[];rw[show h.m.get b=some (.live true es cells)from c];exact rT rfl (by simp only[List.length_take,List.length_drop];omega)
structure jV(h h':af)(b:Nat):Prop where
 next:h'.next=h.next
 low:h'.low=Nat.min h.low b
 get:∀b',b'≠b->h'.m.get b'=h.m.get b'
theorem aJ.write{h:af}{b es:Nat}{cells:List Value}(c:aJ h b es cells){o:Nat}{vs:List Value}(hn:o+vs.length<=cells.length):∃h',h.write b o vs=some h'/\aJ h' b es (cells.take o++(vs++cells.drop (o+vs.length)))/\jV h h' b:=by
 refine⟨{ next:=h.next,low:=Nat.min h.low b,m:=h.m.set b (.live true es (cells.take o++(vs++cells.drop (o+vs.length)))) },?_,?_,rfl,rfl,fun b' vl=>?_⟩
 ·unfold af.write
  rw[show h.m.get b=some (.live true es cells)from c];simp only[mF];rw[bz hn];rfl
 ·unfold aJ;simp only[];rw[cQ.gV]
 ·simp only[];rw[cQ.aK _ _ (fun e=>vl e.symm)]
theorem jV.ext{h0 h h':af}{b:Nat}(k:jV h h' b)(e:Ext h0 h)(hb:h0.next<=b):Ext h0 h':=by
 refine⟨by rw[k.next];exact e.next,fun l=>?_,?_,fun i hi=>?_⟩
 ·have:=e.low l
  rw[k.low,k.next];have h2:Nat.min h.low b<=h.low:=Nat.min_le_left _ _;omega
 ·have:=e.vK
  rw[k.low];have h2:Nat.min h0.low h0.next<=h0.next:=Nat.min_le_right _ _;exact Nat.le_min.2 ⟨this,om⟩
 ·rw[k.get i om];exact e.get i hi
theorem jV.own{h h':af}{b b' es:Nat}{cells:List Value}(k:jV h h' b)(c:aJ h b' es cells)(hb:b'≠b):aJ h' b' es cells:=by
 unfold aJ;rw[k.get b' hb];exact c
theorem Ext.az{h h':af}(e:Ext h h')(hl:h.low<=h.next):h'.low<=h'.next:=e.low hl
theorem Ext.dG(h:af):Ext h h.dG:=⟨Nat.le_refl _,fun _=>Nat.le_refl _,Nat.min_le_right _ _,fun _ _=>rfl⟩
theorem DA(h:af):h.dG.low<=h.dG.next:=Nat.le_refl _
theorem vM{h:af}(hl:h.low<=h.next):h.dG.aw h.low=h:=by
 unfold af.aw af.dG;have:Nat.min h.low h.next=h.low:=Nat.min_eq_left hl;simp only[this]
theorem zO(h:af):Nat.blt h.dG.low h.next=false:=cT (Nat.le_refl _)
theorem Ak{α:Type}(l:List α)(i:Nat)(x:α)(hi:i<l.length):l.take i++([x]++l.drop (i+1))=l.set i x:=by
 rw[List.set_eq_take_append_cons_drop,if_pos hi];simp
theorem aJ.setInt{h:af}{b es:Nat}{k:IntKind}{l:List Int}(c:aJ h b es (l.map (.int k))){i:Nat}(hi:i<l.length)(x:Int):∃h',h.write b i [.int k x]=some h'/\aJ h' b es ((l.set i x).map (.int k))/\jV h h' b:=by
 obtain⟨h',h1,h2,h3⟩:=c.write (o:=i) (vs:=[.int k x]) (by simp;omega);refine⟨h',h1,?_,h3⟩;rw[List.map_set,<-Ak _ _ _ (by simpa using hi)];exact h2
theorem aJ.getInt{h:af}{b es:Nat}{k:IntKind}{l:List Int}(c:aJ h b es (l.map (.int k))){i:Nat}(hi:i<l.length):h.aL ⟨b,i,none⟩ 1=some [.int k (l.getD i 0)]:=by
 rw[c.aL (by simp;omega),take_one _ i (.int k (l.getD i 0)) (by simp[hi])]
def nK(h:af)(es:Nat)(a:Option Addr)(n c:Nat)(cells:List Value):Prop:=
 (a=none/\n=0/\c=0/\cells=[])\/(∃b,a=some ⟨b,0,none⟩/\c=au es n/\b<h.next/\cells.length=n*es/\aJ h b es cells)
theorem nK.nil(h:af)(es:Nat):nK h es none 0 0 []:=.inl ⟨rfl,rfl,rfl,rfl⟩
theorem nK.cells{h:af}{es:Nat}{a:Option Addr}{n c:Nat}{cells:List Value}(p:nK h es a n c cells):Cells h a n es cells:=by
 rcases p with ⟨rfl,rfl,rfl,rfl⟩|⟨b,rfl,rfl,hb,hl,ho⟩
 ·exact⟨rfl,rfl⟩
 ·exact⟨rfl,hb,by rw[ho.aL om];simp[<-hl]⟩
theorem nK.ext{h h':af}{es:Nat}{a:Option Addr}{n c:Nat}{cells:List Value}(p:nK h es a n c cells)(k:Ext h h'):nK h' es a n c cells:=by
 rcases p with ⟨rfl,rfl,rfl,rfl⟩|⟨b,rfl,rfl,hb,hl,ho⟩
 ·exact .nil _ _
 ·exact .inr ⟨b,rfl,rfl,Nat.lt_of_lt_of_le hb k.next,hl,ho.ext k hb⟩
def jY(m:Nat)(a:Option Addr):Prop:=∀ad,a=some ad->m<=ad.block
theorem jY.none(m:Nat):jY m none:=fun _ h=>by cases h
structure fW(P:Program)(t e es:Nat):Prop where
 wT:P.underlying t=some (.slice e)
 size:bY P e=some es
 bytes:∃by_,pA P e=some by_/\by_<=16384
 zero:∃z,il P e=some z/\z.cells.toList.length=es
theorem AG{P:Program}{t t2 e es:Nat}(hT:fW P t e es)(Jx:P.underlying t2=some (.slice e)){h:af}{a a2:Option Addr}{n c n2 c2:Nat}{cells news:List Value}(hp:nK h es a n c cells)(hs:Cells h a2 n2 es news)(fz:cells.all aD=true)(rp:news.all aD=true)(yV:0<n2)(um:n+n2<=1000000) :
  ∃a' c' h',cO P h [t,t2] [.slice a n c,.slice a2 n2 c2]=some (.slice a' (n+n2) c',h')/\nK h' es a' (n+n2) c' (cells++news)/\(∀h0,Ext h0 h->jY h0.next a->Ext h0 h'/\jY h0.next a'):=by
 obtain⟨by_,rF,nG⟩:=hT.bytes;obtain⟨z,hz,zG⟩:=hT.zero;have sM:=hs.length;have gP:jC P h e es false (.slice a2 n2 c2)=some (n2,news):=by
  unfold jC;simp only[cond_false];cases a2 with
  |none=>obtain⟨rfl,rfl⟩:=hs;omega
  |some ad=>
   obtain⟨h1,h2,h3⟩:=hs;simp only[h3]
 unfold cO;simp only[hT.wT,hT.size,rF,Jx,hz,cV,gP];rcases hp with ⟨rfl,rfl,rfl,rfl⟩|⟨b,rfl,rfl,hb,hl,ho⟩
 ·have e1:cM 0=0:=rfl
  rw[e1,eQ om];simp only[cond_false];rw[bz (show 0+n2<=1073741824 by omega),bz nG,rp,zG,sM];simp only[Bool.and_self,Nat.beq_refl,cond_true];refine⟨_,_,_,rfl,.inr ⟨h.next,rfl,rfl,by simp[af.push],by simp[sM],?_⟩,fun h0 e0 f0=>⟨e0.trans (.push _ _ _),?_⟩⟩
  ·rw[List.nil_append];exact aJ.push _ _ _
  ·intro ad cW
   cases cW;exact e0.next
 ·have e1:cM (au es n)=n:=ct (by unfold aS;omega)
  rw[e1,eQ om];simp only[cond_false];rw[bz (show n+n2<=1073741824 by omega),bz nG,rp,zG,sM];simp only[Bool.and_self,Nat.beq_refl,cond_true];have hr:h.aL ⟨b,0,none⟩ (n*es)=some cells:=by rw[ho.aL om];simp[<-hl]
  simp only[hr];rw[cT (dr es n),fz];simp only[cond_false,cond_true];rw[show h.m.get b=some (.live true es cells)from ho];simp only[Nat.beq_refl,cond_true];refine⟨_,_,_,rfl,.inr ⟨h.next,rfl,rfl,by simp[af.push,af.kill],by simp[sM,hl,Nat.add_mul],?_⟩,fun h0 e0 f0=>⟨?_,?_⟩⟩
  ·exact aJ.push (h.kill b) es _
  ·exact(e0.kill (f0 _ rfl)).trans (.push _ _ _)
  ·intro ad cW
   cases cW;exact e0.next
theorem Ug(l:List Int){i:Int}(h0:0<=i)(h1:i<l.length):l.take (i+1).toNat=l.take i.toNat++[fx l i]:=by
 have e:(i+1).toNat=i.toNat+1:=om
 have hi:i.toNat<l.length:=om
 rw[e,List.take_add_one,List.getElem?_eq_getElem hi];unfold fx;simp[hi]
theorem IG(l:List Int){i j:Int}(hi:0<=i)(hj:0<=j)(hl:i<l.length)(x:Int):fx (l.set i.toNat x) j=if j=i then x else fx l j:=by
 unfold fx;by_cases e:j=i
 ·subst e;rw[if_pos rfl];simp[show j.toNat<l.length by omega]
 ·rw[if_neg e]
  have:i.toNat≠j.toNat:=om
  simp[List.getD_eq_getElem?_getD,List.getElem?_set_ne this]
theorem Ko{l m:List Int}(hl:l.length=m.length)(h:∀i:Int,0<=i->i<l.length->fx l i=fx m i):l=m:=by
 apply List.ext_getElem hl;intro i h1 h2;have:=h i om om;unfold fx at this;simpa[h1,h2]using this
end Go.cL
namespace Go.cL
theorem vC{P:Program}{t t2 e es:Nat}(hT:fW P t e es)(Jx:P.underlying t2=some (.slice e)){h:af}{a a2:Option Addr}{n c n2 c2:Nat}{cells news:List Value}(hp:nK h es a n c cells)(hs:Cells h a2 n2 es news)(fz:cells.all aD=true)(rp:news.all aD=true)(yV:0<n2)(um:n+n2<=1000000) :
  ∃a' c' h',cO P h [t,t2] [.slice a n c,.slice a2 n2 c2]=some (.slice a' (n+n2) c',h')/\nK h' es a' (n+n2) c' (cells++news)/\(∀h0,Ext h0 h->jY h0.next a->Ext h0 h'/\jY h0.next a')/\h.next<=h'.next/\jY h.next a'/\∀i,i<h.next->(∀ad,a=some ad->ad.block≠i)->h'.m.get i=h.m.get i:=by
 obtain⟨by_,rF,nG⟩:=hT.bytes;obtain⟨z,hz,zG⟩:=hT.zero;have sM:=hs.length;have gP:jC P h e es false (.slice a2 n2 c2)=some (n2,news):=by
  unfold jC;simp only[cond_false];cases a2 with
  |none=>obtain⟨rfl,rfl⟩:=hs;omega
  |some ad=>
   obtain⟨h1,h2,h3⟩:=hs;simp only[h3]
 unfold cO;simp only[hT.wT,hT.size,rF,Jx,hz,cV,gP];rcases hp with ⟨rfl,rfl,rfl,rfl⟩|⟨b,rfl,rfl,hb,hl,ho⟩
 ·have e1:cM 0=0:=rfl
  rw[e1,eQ om];simp only[cond_false];rw[bz (show 0+n2<=1073741824 by omega),bz nG,rp,zG,sM];simp only[Bool.and_self,Nat.beq_refl,cond_true];refine⟨_,_,_,rfl,.inr ⟨h.next,rfl,rfl,by simp[af.push],by simp[sM],?_⟩,fun h0 e0 f0=>⟨e0.trans (.push _ _ _),?_⟩,?_,?_,?_⟩
  ·rw[List.nil_append];exact aJ.push _ _ _
  ·intro ad cW
   cases cW;exact e0.next
  ·exact Nat.le_succ _
  ·intro ad cW
   cases cW;exact Nat.le_refl _
  ·intro i hi _
   show(h.m.set h.next _).get i=_;rw[cQ.aK _ _ om]
 ·have e1:cM (au es n)=n:=ct (by unfold aS;omega)
  rw[e1,eQ om];simp only[cond_false];rw[bz (show n+n2<=1073741824 by omega),bz nG,rp,zG,sM];simp only[Bool.and_self,Nat.beq_refl,cond_true];have hr:h.aL ⟨b,0,none⟩ (n*es)=some cells:=by rw[ho.aL om];simp[<-hl]
  simp only[hr];rw[cT (dr es n),fz];simp only[cond_false,cond_true];rw[show h.m.get b=some (.live true es cells)from ho];simp only[Nat.beq_refl,cond_true];refine⟨_,_,_,rfl,.inr ⟨h.next,rfl,rfl,by simp[af.push,af.kill],by simp[sM,hl,Nat.add_mul],?_⟩,fun h0 e0 f0=>⟨?_,?_⟩,?_,?_,?_⟩
  ·exact aJ.push (h.kill b) es _
  ·exact(e0.kill (f0 _ rfl)).trans (.push _ _ _)
  ·intro ad cW
   cases cW;exact e0.next
  ·exact Nat.le_succ _
  ·intro ad cW
   cases cW;exact Nat.le_refl _
  ·intro i hi dS
   show((h.m.set b _).set h.next _).get i=_;rw[cQ.aK _ _ om,cQ.aK _ _ (dS _ rfl)]
theorem aJ.gF{h h':af}{b es:Nat}{cells:List Value}(c:aJ h b es cells)(e:h'.m.get b=h.m.get b):aJ h' b es cells:=by
 unfold aJ at c ⊢;rw[e];exact c
theorem nK.gF{h h':af}{es:Nat}{a:Option Addr}{n c:Nat}{cells:List Value}(p:nK h es a n c cells)(hn:h.next<=h'.next)(e:∀ad,a=some ad->ad.block<h.next->h'.m.get ad.block=h.m.get ad.block):nK h' es a n c cells:=by
 rcases p with ⟨rfl,rfl,rfl,rfl⟩|⟨b,rfl,rfl,hb,hl,ho⟩
 ·exact .nil _ _
 ·exact .inr ⟨b,rfl,rfl,Nat.lt_of_lt_of_le hb hn,hl,ho.gF (e _ rfl hb)⟩
theorem nK.lt{h:af}{es:Nat}{a:Option Addr}{n c:Nat}{cells:List Value}(p:nK h es a n c cells):∀ad,a=some ad->ad.block<h.next:=by
 rcases p with ⟨rfl,rfl,rfl,rfl⟩|⟨b,rfl,rfl,hb,hl,ho⟩
 ·intro ad h;cases h
 ·intro ad h;cases h;exact hb
end Go.cL
namespace Go.cL
def Ge(h:af)(es b n c:Nat)(cells:List Value):Prop:=aJ h b es cells/\b<h.next/\cells.length=n*es/\((c=0/\n=0)\/c=au es n)
theorem G9{P:Program}{t t2 e es:Nat}(hT:fW P t e es)(Jx:P.underlying t2=some (.slice e)){h:af}{b n c n2 c2:Nat}{a2:Option Addr}{cells news:List Value}(hp:Ge h es b n c cells)(hs:Cells h a2 n2 es news)(fz:cells.all aD=true)(rp:news.all aD=true)(um:n+n2<=1000000) :
  ∃b' c' h',cO P h [t,t2] [.slice (some ⟨b,0,none⟩) n c,.slice a2 n2 c2]=some (.slice (some ⟨b',0,none⟩) (n+n2) c',h')/\Ge h' es b' (n+n2) c' (cells++news)/\(∀h0,Ext h0 h->h0.next<=b->Ext h0 h'/\h0.next<=b'):=by
 obtain⟨ho,hb,hl,hc⟩:=hp;obtain⟨by_,rF,nG⟩:=hT.bytes;obtain⟨z,hz,zG⟩:=hT.zero;have sM:=hs.length;have gP:jC P h e es false (.slice a2 n2 c2)=some (n2,news):=by
  unfold jC;simp only[cond_false];cases a2 with
  |none=>obtain⟨rfl,rfl⟩:=hs;simp
  |some ad=>
   obtain⟨h1,h2,h3⟩:=hs;simp only[h3]
 have Jy:cM c=n:=by
  rcases hc with ⟨rfl,rfl⟩|rfl
  ·rfl
  ·exact ct (by unfold aS;omega)
 unfold cO;simp only[hT.wT,hT.size,rF,Jx,hz,cV,gP];rw[Jy];by_cases h0:n2=0
 ·subst h0
  have:news=[]:=by simpa using sM
  subst this;obtain⟨h',hw,mD,pv⟩:=ho.write (o:=n*es) (vs:=[]) (by simp;omega);have Wf:h.iu (fV ⟨b,0,none⟩ (n*es)) []=some h':=by
   unfold af.iu fV;simp only[List.all_nil,cond_true,Nat.zero_add];exact hw
  rw[bz (show n+0<=n by omega)];simp only[cond_true,Wf];have e2:cells.take (n*es)++([]++cells.drop (n*es+([]:List Value).length))=cells:=by simp
  rw[e2]at mD;exact⟨b,c,h',rfl,⟨by simpa using mD,by rw[pv.next];exact hb,by simpa using hl,hc⟩,fun h0 e0 nE=>⟨pv.ext e0 nE,nE⟩⟩
 ·rw[eQ om]
  simp only[cond_false];rw[bz (show n+n2<=1073741824 by omega),bz nG,rp,zG,sM];simp only[Bool.and_self,Nat.beq_refl,cond_true];have hr:h.aL ⟨b,0,none⟩ (n*es)=some cells:=by rw[ho.aL om];simp[<-hl]
  simp only[hr];rcases hc with ⟨rfl,rfl⟩|rfl
  ·rw[dU (show 0<aS by unfold aS;omega),fz]
   simp only[cond_true];refine⟨_,_,_,rfl,⟨aJ.push _ _ _,by simp[af.push],by simp[hl,sM],.inr rfl⟩,fun h0 e0 nE=>⟨e0.trans (.push _ _ _),e0.next⟩⟩
  ·rw[cT (dr es n),fz]
   simp only[cond_false,cond_true];rw[show h.m.get b=some (.live true es cells)from ho];simp only[Nat.beq_refl,cond_true];refine⟨_,_,_,rfl,⟨aJ.push (h.kill b) es _,by simp[af.push,af.kill],by simp[hl,sM,Nat.add_mul],.inr rfl⟩,fun h0 e0 nE=>⟨(e0.kill nE).trans (.push _ _ _),?_⟩⟩;exact e0.next
end Go.cL
namespace Go.Proofs.Ytdpbiegfljmhmaa
def fits(q:Rat):Prop:=-1000000000000000000<=q.num/\q.num<=1000000000000000000/\(q.den:Int)<=1000000000000000000
def hH(n d:Int)(q:Rat):Prop:=n=q.num/\d=q.den/\fits q
def okF(n d:Int):Prop:=∃q,hH n d q
def oV(q:Rat)(n d e:Int):Prop:=(fits q/\n=q.num/\d=q.den/\e=0)\/(¬fits q/\n=0/\d=0/\e=16)
theorem hH.uniq{n d:Int}{p q:Rat}(h:hH n d p)(k:hH n d q):p=q:=by
 obtain⟨h1,h2,_⟩:=h;obtain⟨k1,k2,_⟩:=k;exact Rat.ext om om
theorem oV.uniq{q:Rat}{n d e n' d' e':Int}(h:oV q n d e)(k:oV q n' d' e'):n=n'/\d=d'/\e=e':=by
 rcases h with ⟨a,rfl,rfl,rfl⟩|⟨a,rfl,rfl,rfl⟩<;>rcases k with ⟨b,rfl,rfl,rfl⟩|⟨b,rfl,rfl,rfl⟩
 ·exact⟨rfl,rfl,rfl⟩
 ·exact absurd a b
 ·exact absurd b a
 ·exact⟨rfl,rfl,rfl⟩
theorem hH.den{n d:Int}{q:Rat}(h:hH n d q):1<=d:=by
 have:=q.den_pos;have:=h.2.1;omega
theorem tz(n d:Int):okF n d↔1<=d/\d<=1000000000000000000/\-1000000000000000000<=n/\n<=1000000000000000000/\Int.gcd n d=1:=by
 constructor
 ·rintro⟨q,rfl,rfl,h1,h2,h3⟩
  have:=q.den_pos;refine⟨om,h3,h1,h2,?_⟩;have:=q.reduced;unfold Nat.Coprime at this;unfold Int.gcd;simpa using this
 ·rintro⟨h1,h2,h3,h4,h5⟩
  refine⟨⟨n,d.toNat,om,?_⟩,rfl,?_,h3,h4,?_⟩
  ·unfold Nat.Coprime
   unfold Int.gcd at h5;rw[show d.toNat=d.natAbs by omega];exact h5
  ·show d=((d.toNat:Nat):Int);omega
  ·show((d.toNat:Nat):Int)<=_;omega
theorem Kp(p q:Rat):(p*q).num.natAbs=p.num.natAbs / Nat.gcd p.num.natAbs q.den*(q.num.natAbs / Nat.gcd q.num.natAbs p.den)/\(p*q).den=p.den / Nat.gcd q.num.natAbs p.den*(q.den / Nat.gcd p.num.natAbs q.den):=by
 have e:p*q=Rat.mul p q:=rfl;constructor
 ·rw[e]
  delta Rat.mul
  simp only[Int.divExact_eq_tdiv,Int.natAbs_mul,Int.natAbs_tdiv];rfl
 ·rw[e]
  delta Rat.mul
  simp
theorem Cm(q:Rat):q.num<0↔q<0:=by
 rw[<-Int.not_le,Rat.num_nonneg,Rat.not_le]
theorem IH(q:Rat):0<q.num↔0<q:=by
 have h:=Rat.num_nonneg (q:=q);have k:=Rat.num_eq_zero (q:=q);constructor
 ·intro w
  have h1:¬q=0:=fun w2=>by rw[<-k]at w2;omega
  have:=h.1 om;grind
 ·intro w
  have h1:¬q.num=0:=fun w2=>by rw[k]at w2;grind
  have:0<=q.num:=h.2 (by grind);omega
theorem Nh(p q:Rat):(p*q).num<0↔(p.num<0/\0<q.num)\/(0<p.num/\q.num<0):=by
 rw[Cm,Cm,Cm,IH,IH];rcases(show p<0\/p=0\/0<p by grind)with a|a|a
 ·have h1:p*q=(-p)*(-q):=by grind
  rw[h1,Rat.mul_neg_iff_of_pos_left (by grind)];grind
 ·subst a;simp
 ·rw[Rat.mul_neg_iff_of_pos_left a]
  grind
theorem Kq(p q:Rat){d:Nat}(hd:d=Nat.gcd p.den q.den){T:Int}(hT:T=p.num*(q.den / d:Nat)+q.num*(p.den / d:Nat)){g:Nat}(hg:g=Nat.gcd d T.natAbs) :
  (p+q).num=T / g/\(p+q).den=p.den / d*(q.den / g):=by
 have hdp:0<d:=by rw[hd];exact Nat.gcd_pos_of_pos_left _ p.den_pos
 have II:d∣p.den:=by rw[hd];exact Nat.gcd_dvd_left ..
 have Uh:d∣q.den:=by rw[hd];exact Nat.gcd_dvd_right ..
 have hz:p.den / d*q.den≠0:=Nat.ne_of_gt (Nat.mul_pos (Nat.div_pos (Nat.le_of_dvd p.den_pos II) hdp) q.den_pos);have e:p+q=Rat.normalize T (p.den / d*q.den) hz:=by
  rw[Rat.add_def,Rat.normalize_eq_iff];have e1:((p.den / d:Nat):Int)*d=p.den:=by rw[<-Int.natCast_mul,Nat.div_mul_cancel II]
  have e2:((q.den / d:Nat):Int)*d=q.den:=by rw[<-Int.natCast_mul,Nat.div_mul_cancel Uh]
  rw[hT];simp only[Int.natCast_mul];generalize ((p.den / d:Nat):Int)=u at *;generalize ((q.den / d:Nat):Int)=v at *;rw[<-e1,<-e2];grind
 have ha:=Rat.add.aux p q hd rfl rfl;simp only[]at ha;rw[<-hT]at ha;have vQ:T.natAbs.gcd (p.den / d*q.den)=g:=by rw[<-ha,hg,Nat.gcd_comm]
 rw[e,Rat.num_normalize,Rat.den_normalize,vQ];refine⟨rfl,?_⟩;have hgd:g∣q.den:=Nat.dvd_trans (by rw[hg];exact Nat.gcd_dvd_left ..) Uh;rw[Nat.mul_div_assoc _ hgd]
theorem hH.val{n d:Int}{q:Rat}(h:hH n d q):q=(n:Rat) / (d:Rat):=by
 obtain⟨rfl,rfl,_⟩:=h;have:=Rat.num_divInt_den q;rw[Rat.divInt_eq_div]at this;exact this.symm
end Go.Proofs.Ytdpbiegfljmhmaa
namespace Go.Proofs.Ytdpbiegfljmhmaa
theorem A4{y y1 y0 q:Int}(hy:y=y1*4294967296+y0):q*y=4294967296*(q*y1)+q*y0:=by rw[hy];grind
theorem ko{q y y1 y0 u d N r:Int}(hy:y=y1*4294967296+y0)(hr:r=u-q*y1)(hN:N=u*4294967296+d):q*y0>4294967296*r+d↔N<q*y:=by
 have e1:=A4 (q:=q) hy;omega
theorem ql{q y N:Int}(hy:0<y):N<q*y↔N / y<q:=(Int.ediv_lt_iff_lt_mul hy).symm
theorem A5{y y1 y0 u d N:Int}(hy:y=y1*4294967296+y0)(h1:0<y1)(h0:0<=y0)(hu:0<=u)(hd:0<=d)(II:d<4294967296)(hN:N=u*4294967296+d):N / y<=u / y1:=by
 have hyp:0<y:=om
 have hq:0<=N / y:=Int.ediv_nonneg om om;have h2:N / y*y<=N:=Int.ediv_mul_le _ om;have e1:=A4 (q:=N / y) hy;have h3:0<=N / y*y0:=Int.mul_nonneg hq h0;have h4:N / y*y1<=u:=om
 exact(Int.le_ediv_iff_mul_le h1).2 h4
theorem A6{y u d N:Int}(hy:0<y)(hu:u<y)(II:d<4294967296)(hN:N=u*4294967296+d):N / y<4294967296:=by
 rw[Int.ediv_lt_iff_lt_mul hy];omega
theorem tA{y y1 y0 u:Int}(hy:y=y1*4294967296+y0)(h1:2147483648<=y1)(h0:y0<4294967296)(hu:u<y)(hu0:0<=u):u / y1<=4294967297:=by
 have:u / y1<4294967298:=by
  rw[Int.ediv_lt_iff_lt_mul om];omega
 omega
theorem Qv{a b q r:Int}(hb:0<b)(h:a=q*b+r)(h0:0<=r)(h1:r<b):a / b=q/\a % b=r:=by
 constructor
 ·rw[h,Int.add_comm,Int.add_mul_ediv_right _ _ om,Int.ediv_eq_zero_of_lt h0 h1];omega
 ·rw[h,Int.add_comm,Int.add_mul_emod_self_right,Int.emod_eq_of_lt h0 h1]
theorem kE{a b:Int}(M N:Int)(a0:0<=a)(a1:a<=M)(b0:0<=b)(b1:b<=N):0<=a*b/\a*b<=M*N:=
 ⟨Int.mul_nonneg a0 b0,Int.mul_le_mul a1 b1 b0 om⟩
theorem Ha(x1 x0 y1 y0:Int):(x1*4294967296+x0)*(y1*4294967296+y0)=18446744073709551616*(x1*y1)+4294967296*(x1*y0)+4294967296*(x0*y1)+x0*y0:=by grind
theorem Ni{x y:Int}(Ui:0<=x)(JJ:x<18446744073709551616)(Px:0<=y)(Zz:y<18446744073709551616){a b c d t w:Int}
  (ha:a=x % 4294967296*(y % 4294967296)) (hb:b=x / 4294967296*(y % 4294967296)) (hc:c=x % 4294967296*(y / 4294967296)) (hd:d=x / 4294967296*(y / 4294967296)) (ht:t=b+a / 4294967296) (hw:w=t % 4294967296+c) :
  (0<=a/\a<=18446744065119617025)/\(0<=b/\b<=18446744065119617025)/\(0<=c/\c<=18446744065119617025)/\(0<=d/\d<=18446744065119617025)/\x*y=18446744073709551616*d+4294967296*b+4294967296*c+a/\d+t / 4294967296+w / 4294967296=x*y / 18446744073709551616:=by
 have m1:=kE 4294967295 4294967295 (a:=x % 4294967296) (b:=y % 4294967296) om om om om;have m2:=kE 4294967295 4294967295 (a:=x / 4294967296) (b:=y % 4294967296) om om om om;have m3:=kE 4294967295 4294967295 (a:=x % 4294967296) (b:=y / 4294967296) om om om om;have m4:=kE 4294967295 4294967295 (a:=x / 4294967296) (b:=y / 4294967296) om om om om;have e:=Ha (x / 4294967296) (x % 4294967296) (y / 4294967296) (y % 4294967296);rw[show x / 4294967296*4294967296+x % 4294967296=x by omega,show y / 4294967296*4294967296+y % 4294967296=y by omega,<-ha,<-hb,<-hc,<-hd]at e;rw[<-ha]at m1;rw[<-hb]at m2;rw[<-hc]at m3;rw[<-hd]at m4;refine⟨om,om,om,om,e,?_⟩;rw[e];omega
theorem Nj{X y P Q r:Int}(hP:0<P)(hy:0<y)(h:X*P=Q*(y*P)+r)(r0:0<=r)(r1:r<y*P):Q=X / y/\r / P=X % y:=by
 have hyP:0<y*P:=Int.mul_pos hy hP;obtain⟨e1,e2⟩:=Qv hyP h r0 r1;rw[Int.mul_ediv_mul_of_pos_left _ _ hP]at e1;rw[Int.mul_comm X P,Int.mul_comm y P,Int.mul_emod_mul_of_pos _ _ hP,Int.mul_comm]at e2;refine⟨e1.symm,?_⟩;rw[<-e2,Int.mul_ediv_cancel _ om]
theorem Hb{N1 y q1 q0 u1 u0 N:Int}(hy:0<y)(h1:q1=N1 / y)(h2:q0=(N1 % y*4294967296+u0) / y)(hN:N=N1*4294967296+u0):N=(q1*4294967296+q0)*y+(N1 % y*4294967296+u0) % y/\0<=(N1 % y*4294967296+u0) % y/\(N1 % y*4294967296+u0) % y<y:=by
 have a:=Int.mul_ediv_add_emod N1 y;have b:=Int.mul_ediv_add_emod (N1 % y*4294967296+u0) y;rw[<-h1]at a;rw[<-h2]at b;refine⟨?_,Int.emod_nonneg _ om,Int.emod_lt_of_pos _ hy⟩;have e:(q1*4294967296+q0)*y=4294967296*(y*q1)+y*q0:=by grind
 rw[e,hN];omega
theorem Qw{lo:Int}(h0:0<=lo){s:Nat}(hs:s<=64):lo*2 ^ s=lo / 2 ^ (64-s)*18446744073709551616+lo*2 ^ s % 18446744073709551616/\lo*2 ^ s / 18446744073709551616=lo / 2 ^ (64-s):=by
 have e:(18446744073709551616:Int)=2 ^ (64-s)*2 ^ s:=by
  rw[<-Int.pow_add,show 64-s+s=64 by omega];rfl
 have hp:(0:Int)<2 ^ s:=Int.pow_pos om;have d:lo*2 ^ s / 18446744073709551616=lo / 2 ^ (64-s):=by
  rw[e,Int.mul_ediv_mul_of_pos_left _ _ hp]
 refine⟨?_,d⟩;rw[<-d];omega
end Go.Proofs.Ytdpbiegfljmhmaa
namespace Go.Proofs.Ytdpbiegfljmhmaa
theorem tB{a b:Int}(ha:0<=a)(hb:0<=b):Int.gcd a b=Nat.gcd a.toNat b.toNat:=by
 unfold Int.gcd;rw[show a.natAbs=a.toNat by omega,show b.natAbs=b.toNat by omega]
theorem kW{a b:Nat}:((a / b:Nat):Int)=(a:Int) / (b:Int):=Int.natCast_ediv a b
theorem ni{an ad bn bd:Int}{p q:Rat}(hp:hH an ad p)(hq:hH bn bd q){d:Int}(hd:d=Int.gcd ad bd){A B T:Int}(hA:A=an.natAbs*(bd / d))(hB:B=bn.natAbs*(ad / d)){neg:Bool}
  (hT:((an<0↔bn<0)/\T=A+B/\(neg=true↔an<0))\/(¬(an<0↔bn<0)/\B<=A/\T=A-B/\(neg=true↔an<0))\/(¬(an<0↔bn<0)/\A<B/\T=B-A/\(neg=true↔bn<0)))
  {g:Int} (hg:g=Int.gcd d (T % d)):(p+q).num=(if neg=true then -(T / g)else T / g)/\((p+q).den:Int)=ad / d*(bd / g)/\0<g/\g<=d/\0<=T/\0<d/\d<=ad:=by
 obtain⟨rfl,rfl,_⟩:=hp;obtain⟨rfl,rfl,_⟩:=hq;have pd:=p.den_pos;have qd:=q.den_pos;obtain⟨D,hD⟩:∃D:Nat,D=Nat.gcd p.den q.den:=⟨_,rfl⟩;have hdD:d=D:=by rw[hd,hD];rfl
 have hDp:0<D:=by rw[hD];exact Nat.gcd_pos_of_pos_left _ pd
 have hDle:D<=p.den:=by rw[hD];exact Nat.gcd_le_left _ pd
 subst hdD;rw[<-kW]at hA hB;obtain⟨S,hS⟩:∃S:Int,S=p.num*(q.den / D:Nat)+q.num*(p.den / D:Nat):=⟨_,rfl⟩;obtain⟨G,hG⟩:∃G:Nat,G=Nat.gcd D S.natAbs:=⟨_,rfl⟩;have key:=Kq p q hD hS hG;have u0:(0:Int)<=(q.den / D:Nat):=Int.natCast_nonneg _;have v0:(0:Int)<=(p.den / D:Nat):=Int.natCast_nonneg _;have hAn:0<=A:=by rw[hA];exact Int.mul_nonneg (Int.natCast_nonneg _) u0
 have hBn:0<=B:=by rw[hB];exact Int.mul_nonneg (Int.natCast_nonneg _) v0
 have e1:p.num*(q.den / D:Nat)=if p.num<0 then -A else A:=by
  rw[hA];split
  ·rw[show(p.num.natAbs:Int)=-p.num by omega,Int.neg_mul];omega
  ·rw[show(p.num.natAbs:Int)=p.num by omega]
 have e2:q.num*(p.den / D:Nat)=if q.num<0 then -B else B:=by
  rw[hB];split
  ·rw[show(q.num.natAbs:Int)=-q.num by omega,Int.neg_mul];omega
  ·rw[show(q.num.natAbs:Int)=q.num by omega]
 rw[e1,e2]at hS;have Wp:0<=T:=by
  rcases hT with ⟨_,h,_⟩|⟨_,_,h,_⟩|⟨_,_,h,_⟩<;>omega
 have hST:S=if neg=true then -T else T:=by
  rcases hT with ⟨h,h2,h3⟩|⟨h,h1,h2,h3⟩|⟨h,h1,h2,h3⟩
  ·by_cases c:p.num<0
   ·rw[if_pos c,if_pos (h.1 c)]at hS
    rw[if_pos (h3.2 c)];omega
   ·rw[if_neg c,if_neg (fun w=>c (h.2 w))]at hS
    rw[if_neg (fun w=>c (h3.1 w))];omega
  ·by_cases c:p.num<0
   ·have c2:¬q.num<0:=fun w=>h ⟨fun _=>w,fun _=>c⟩
    rw[if_pos c,if_neg c2]at hS;rw[if_pos (h3.2 c)];omega
   ·have c2:q.num<0:=by
     by_cases w:q.num<0
     ·exact w
     ·exact absurd ⟨fun x=>absurd x c,fun x=>absurd x w⟩ h
    rw[if_neg c,if_pos c2]at hS;rw[if_neg (fun w=>c (h3.1 w))];omega
  ·by_cases c:p.num<0
   ·have c2:¬q.num<0:=fun w=>h ⟨fun _=>w,fun _=>c⟩
    rw[if_pos c,if_neg c2]at hS;rw[if_neg (fun w=>c2 (h3.1 w))];omega
   ·have c2:q.num<0:=by
     by_cases w:q.num<0
     ·exact w
     ·exact absurd ⟨fun x=>absurd x c,fun x=>absurd x w⟩ h
    rw[if_neg c,if_pos c2]at hS;rw[if_pos (h3.2 c2)];omega
 have hSa:S.natAbs=T.toNat:=by rw[hST];split<;>omega
 have hgG:g=G:=by
  rw[hg,hG,hSa];have m0:0<=T % (D:Int):=Int.emod_nonneg _ om;rw[tB om m0];have e3:(T % (D:Int)).toNat=T.toNat % D:=by
   have:((T.toNat % D:Nat):Int)=T % (D:Int):=by
    rw[Int.natCast_emod,Int.toNat_of_nonneg Wp]
   omega
  rw[e3,Int.toNat_natCast,Nat.gcd_comm,<-Nat.gcd_rec]
 have hGp:0<G:=by rw[hG];exact Nat.gcd_pos_of_pos_left _ hDp
 have hGle:G<=D:=by rw[hG];exact Nat.gcd_le_left _ hDp
 have hGd:(G:Int)∣T:=by
  have:G∣T.toNat:=by rw[<-hSa,hG];exact Nat.gcd_dvd_right ..
  have:=Int.natCast_dvd_natCast.2 this
  rwa [Int.toNat_of_nonneg Wp]at this
 subst hgG;refine⟨?_,?_,om,om,Wp,om,om⟩
 ·rw[key.1,hST]
  split
  ·rw[Int.neg_ediv_of_dvd hGd]
  ·rfl
 ·rw[key.2,Int.natCast_mul,kW,kW]
theorem EK{an ad bn bd:Int}{p q:Rat}(hp:hH an ad p)(hq:hH bn bd q){g h:Int}(hg:g=Int.gcd an.natAbs bd)(hh:h=Int.gcd bn.natAbs ad){neg:Bool}(hn:neg=true↔¬(an<0↔bn<0)) :
  (p*q).num=(if neg=true then -(an.natAbs / g*(bn.natAbs / h))else an.natAbs / g*(bn.natAbs / h))/\((p*q).den:Int)=ad / h*(bd / g)/\0<g/\g<=bd/\0<h/\h<=ad:=by
 obtain⟨rfl,rfl,_⟩:=hp;obtain⟨rfl,rfl,_⟩:=hq;have pd:=p.den_pos;have qd:=q.den_pos;have vQ:g=(Nat.gcd p.num.natAbs q.den:Nat):=hg;have zT:h=(Nat.gcd q.num.natAbs p.den:Nat):=hh;have g0:0<Nat.gcd p.num.natAbs q.den:=Nat.gcd_pos_of_pos_right _ qd;have h0:0<Nat.gcd q.num.natAbs p.den:=Nat.gcd_pos_of_pos_right _ pd;have g1:Nat.gcd p.num.natAbs q.den<=q.den:=Nat.gcd_le_right _ qd;have h1:Nat.gcd q.num.natAbs p.den<=p.den:=Nat.gcd_le_right _ pd;obtain⟨k1,k2⟩:=Kp p q;have ks:=Nh p q;rw[vQ,zT,<-kW,<-kW,<-kW,<-kW,<-Int.natCast_mul,<-Int.natCast_mul,<-k1,<-k2];refine⟨?_,rfl,om,om,om,om⟩;by_cases z:(p*q).num=0
 ·rw[z];simp
 have zp:p.num≠0:=fun w=>z (by
  have:p=0:=Rat.num_eq_zero.1 w;rw[this,Rat.zero_mul];rfl)
 have zq:q.num≠0:=fun w=>z (by
  have:q=0:=Rat.num_eq_zero.1 w;rw[this,Rat.mul_zero];rfl)
 by_cases c:neg=true
 ·rw[if_pos c]
  have:=hn.1 c;have:(p*q).num<0:=ks.2 om;omega
 ·rw[if_neg c]
  have h2:(p.num<0↔q.num<0):=Classical.byContradiction fun w=>c (hn.2 w)
  have:¬(p*q).num<0:=fun w=>by have:=ks.1 w;omega
  omega
theorem Kr{n d:Int}(hd:d≠0){g:Int}(hg:g=Int.gcd n d){neg:Bool}(hn:neg=true↔¬(n<0↔d<0)):((n:Rat) / (d:Rat)).num=(if neg=true then -((n.natAbs:Int) / g)else(n.natAbs:Int) / g)/\((((n:Rat) / (d:Rat)).den:Nat):Int)=(d.natAbs:Int) / g/\0<g/\g<=d.natAbs:=by
 have Nk:0<Int.gcd n d:=Int.gcd_pos_of_ne_zero_right _ hd;have hgd:Int.gcd n d∣d.natAbs:=by unfold Int.gcd;exact Nat.gcd_dvd_right ..
 have hgn:Int.gcd n d∣n.natAbs:=by unfold Int.gcd;exact Nat.gcd_dvd_left ..
 have hle:Int.gcd n d<=d.natAbs:=Nat.le_of_dvd om hgd;subst hg;rw[<-Rat.divInt_eq_div];have hc:Int.gcd d n=Int.gcd n d:=Int.gcd_comm ..;refine⟨?_,?_,om,om⟩
 ·rw[Rat.num_divInt,hc]
  have aaJ:((Int.gcd n d:Nat):Int)∣n:=Int.gcd_dvd_left ..;obtain⟨k,hk⟩:=aaJ;have hG:(0:Int)<(Int.gcd n d:Int):=om
  generalize (Int.gcd n d:Int)=G at *;have e1:(n.natAbs:Int)=G*k.natAbs:=by rw[hk,Int.natAbs_mul,Int.natCast_mul,show(G.natAbs:Int)=G by omega]
  have e2:(n.natAbs:Int) / G=k.natAbs:=by rw[e1,Int.mul_ediv_cancel_left _ om]
  have e3:d.sign*n / G=d.sign*k:=by rw[hk,Int.mul_left_comm,Int.mul_ediv_cancel_left _ om]
  have hs:(n<0↔k<0):=by
   rw[hk];constructor
   ·intro w
    by_cases c:k<0
    ·exact c
    ·have:=Int.mul_nonneg (show 0<=G by omega) (show 0<=k by omega)
     omega
   ·intro w
    have:=Int.mul_pos hG (show 0 < -k by omega);rw[Int.mul_neg]at this;omega
  rw[e2,e3];rcases Int.lt_trichotomy d 0 with c|c|c
  ·rw[Int.sign_eq_neg_one_of_neg c]
   by_cases w:n<0
   ·rw[if_neg (fun q=>hn.1 q ⟨fun _=>c,fun _=>w⟩)]
    omega
   ·rw[if_pos (hn.2 (fun q=>w (q.2 c)))]
    omega
  ·exact absurd c hd
  ·rw[Int.sign_eq_one_of_pos c]
   by_cases w:n<0
   ·rw[if_pos (hn.2 (fun q=>by have:=q.1 w;omega))]
    omega
   ·rw[if_neg (fun q=>hn.1 q ⟨fun x=>absurd x w,fun x=>om⟩)]
    omega
 ·rw[Rat.den_divInt,if_neg hd,hc,kW]
end Go.Proofs.Ytdpbiegfljmhmaa
namespace Go.Proofs.Ytdpbiegfljmhmaa
theorem hH.neg{n d:Int}{q:Rat}(h:hH n d q):hH (-n) d (-q):=by
 obtain⟨rfl,rfl,h1,h2,h3⟩:=h;exact⟨rfl,rfl,by unfold fits;rw[Rat.neg_num,Rat.neg_den];omega⟩
def Uj(p q:Rat):Int:=if p<q then -1 else if p=q then 0 else 1
theorem Qx{p q:Rat}{c:Int}(hc:c=if p.num*q.den<q.num*p.den then -1 else if p.num*q.den=q.num*p.den then 0 else 1):c=Uj p q:=by
 rw[hc];unfold Uj;have e1:=Rat.lt_iff p q;have e2:p=q↔p.num*q.den=q.num*p.den:=Rat.eq_iff_mul_eq_mul;by_cases h:p<q
 ·rw[if_pos h,if_pos (e1.1 h)]
 ·rw[if_neg h,if_neg (fun w=>h (e1.2 w))]
  by_cases k:p=q
  ·rw[if_pos k,if_pos (e2.1 k)]
  ·rw[if_neg k,if_neg (fun w=>k (e2.2 w))]
