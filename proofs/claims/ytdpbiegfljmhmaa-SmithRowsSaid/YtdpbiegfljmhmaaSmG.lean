import Derived.Test.YtdpbiegfljmhmaaSymA
import Derived.Test.YtdpbiegfljmhmaaSimD
set_option linter.unusedSimpArgs false
set_option linter.unusedVariables false
namespace Go.cY
inductive Vf where
 |cE (o:Op)
 |new (n:Nat) (cs:List Value)
 |box (n:Nat) (x:Operand)
 |build (z:List Value) (parts:List (Nat×Nat×Operand))
 |buildSlice (n len:Nat) (z:List Value) (parts:List (Nat×Nat×Operand))
 |load (n:Nat) (vs:List Sv) (x:Operand)
 |aF (v:Sv) (x:Operand)
 |store (n:Nat) (x y:Operand)
 |nL (k:IntKind) (x:Operand)
 |mkSlice (n:Nat) (z:List Value) (l c:Operand)
 |P7 (t:TypeId) (x:Operand) (lo hi mx:Option Operand)
 |fieldAddr (off:Nat) (x:Operand)
 |M5 (off n:Nat) (x:Operand)
 |M6 (off:Nat) (x:Operand)
 |ta (n:Nat) (x i:Operand)
 |wW (len n:Nat) (x i:Operand)
 |kq (x:Operand)
 |M7 (x:Operand)
def oL(place:Nat->Option (Nat×Nat)):List (Nat×Operand)->Option (List (Nat×Nat×Operand))
 | []=>some []
 |(i,x) :: r=>
  match place i with
  |some (o,n)=>
   match oL place r with
   |some l=>some ((o,n,x) :: l)
   |none=>none
  |none=>none
def kv(s:SS):List (Nat×Nat×Operand)->Option (List (Nat×Nat×Value))
 | []=>some []
 |(o,n,x) :: r=>
  match ev s x with
  |some v=>
   match kv s r with
   |some l=>some ((o,n,v) :: l)
   |none=>none
  |none=>none
def EH:List Value->List (Nat×Nat×Value)->Option (List Value)
 |cells,[]=>some cells
 |cells,(off,size,v) :: rest=>
  bif Nat.beq v.cells.toList.length size && v.cells.toList.all aE then
   match mS cells off v.cells.toList with
   |some cs=>EH cs rest
   |none=>none
  else none
theorem oM{place:Nat->Option (Nat×Nat)}{s:SS}:∀{l:List (Nat×Operand)} {l3:List (Nat×Nat×Operand)},oL place l=some l3->
  (j6 s l=none/\kv s l3=none)\/∃lv Pk,j6 s l=some lv/\kv s l3=some Pk/\∀cells,iG place cells lv=EH cells Pk
 | [],l3,h=>by
  simp only[oL,oi]at h;subst h;exact .inr ⟨[],[],rfl,rfl,fun _=>rfl⟩
 |(i,x) :: r,l3,h=>by
  simp only[oL]at h;split at h
  ·rename_i o n hp
   split at h
   ·rename_i l hl
    simp only[oi]at h;subst h;cases hx:ev s x with
    |none=>exact .inl ⟨by simp only[j6,hx],by simp only[kv,hx]⟩
    |some v=>
     rcases oM (s:=s) hl with ⟨h1,h2⟩|⟨lv,Pk,h1,h2,h3⟩
     ·exact .inl ⟨by simp only[j6,hx,h1],by simp only[kv,hx,h2]⟩
     ·refine .inr ⟨(i,v) :: lv,(o,n,v) :: Pk,by simp only[j6,hx,h1],by simp only[kv,hx,h2],fun cells=>?_⟩
      simp only[iG,EH,hp];cases hb:(Nat.beq v.cells.toList.length n && v.cells.toList.all aE)with
      |false=>rfl
      |true=>
       simp only[cond_true];cases hs:mS cells o v.cells.toList with
       |none=>rfl
       |some cs=>exact h3 cs
   ·cases h
  ·cases h
def iz(P:Unit->Program)(A:bI)(mk:kF)(loc:Bool)(r:Vf)(s:SS)(C:Value->SS->Prop):Prop:=
 match r with
 | .cE o=>wpOp P A mk loc o s C
 | .new n cs=>mk loc n cs s C
 | .box n x=>
  match ev s x with
  |some v=>bif v.cells.toList.all aE then mk loc n v.cells.toList s C else False
  |none=>False
 | .build z parts=>
  match kv s parts with
  |some l=>match EH z l with|some cs=>C (.agg cs.toArray) s|none=>False
  |none=>False
 | .buildSlice n len z parts=>
  match kv s parts with
  |some l=>
   match EH z l with
   |some cs=>
    bif cs.all aE then
     mk false n cs s fun v s'=>
      match v with
      | .pointer (some a)=>C (.slice (some a) len len) s'
      |_=>False
    else False
   |none=>False
  |none=>False
 | .load n vs x=>
  match ev s x with
  |some (.pointer (some a))=>m7 A s a n vs fun l=>C (.agg l.toArray) s
  |_=>False
 | .aF v x=>
  match ev s x with
  |some (.pointer (some a))=>m7 A s a 1 [v] fun l=>
   match l with
   | [v]=>C v s
   |_=>False
  |_=>False
 | .store n x y=>
  match ev s x,ev s y with
  |some (.pointer (some a)),some v=>bif Nat.beq v.cells.toList.length n then wQ A s a v.cells.toList (fun s'=>C undef s')else False
  |_,_=>False
 | .nL k x=>
  match ev s x with
  |some (.int _ n)=>C (.int k (A.conv k n)) s
  |_=>False
 | .mkSlice n z l c=>
  match ev s l,ev s c with
  |some (.int _ l),some (.int _ c)=>
   A.Eb l c/\A.va fun _=>mk false n (A.kM z c) s fun v s'=>
    match v with
    | .pointer (some a)=>C (.slice (some a) (A.nat l) (A.nat c)) s'
    |_=>False
  |_,_=>False
 | .P7 t x lo hi mx=>
  match ev s x,qA s lo,qA s hi,qA s mx with
  |some (.slice a n c),some lo,some hi,some mx=>
   match lo,hi,mx with
   |none,some (.int _ j),none=>A.cut c j/\A.va fun _=>C (.slice a (A.nat j) c) s
   |lo,hi,mx=>A.Ec t (.slice a n c) lo hi mx fun a' n' c'=>C (.slice a' n' c') s
  |_,_,_,_=>False
 | .fieldAddr off x=>
  match ev s x with
  |some (.pointer (some a))=>
   match a.spot with
   |none=>C (.pointer (some ⟨a.block,A.bT a.off off,none⟩)) s
   |some x=>C (.pointer (some ⟨a.block,a.off+off,some x⟩)) s
  |_=>False
 | .M5 off n x=>
  match ev s x with
  |some (.agg cs)=>match ke cs.toList off n with|some l=>C (.agg l.toArray) s|none=>False
  |_=>False
 | .M6 off x=>
  match ev s x with
  |some (.agg cs)=>match cs.toList[off]? with|some v=>C v s|none=>False
  |_=>False
 | .ta n x i=>
  match ev s x,ev s i with
  |some (.slice a len _),some (.int _ i)=>∃b o,a=some ⟨b,o,none⟩/\A.Pf i len/\C (.pointer (some ⟨b,A.place o i n,none⟩)) s
  |_,_=>False
 | .wW len n x i=>
  match ev s x,ev s i with
  |some (.pointer (some a)),some (.int _ i)=>A.Pf i len/\A.va fun _=>C (.pointer (some ⟨a.block,A.place a.off i n,a.spot⟩)) s
  |_,_=>False
 | .kq x=>
  match ev s x with
  |some (.slice _ n _)=>C (.int .i64 (A.ofNat n)) s
  |_=>False
 | .M7 x=>
  match ev s x with
  |some (.string b)=>C (.int .i64 (A.Tu b)) s
  |_=>False
def M8(P:Program)(o:Op):Vf:=
 match o with
 | .alloc e=>
  match iw P e,bY P e with
  |some z,some n=>bif z.cells.toList.all aE then .new n z.cells.toList else .cE o
  |_,_=>.cE o
 | .box e x=>match bY P e with|some n=>.box n x|none=>.cE o
 | .build t parts=>
  match iw P t,P.underlying t with
  |some z,some (.struct fs)=>
   bif fs.toList.all (fun f=>(P.info? f.type).isSome)then
    match oL (iV P fs.toList) parts.toList with
    |some l=>.build z.cells.toList l
    |none=>.cE o
   else .cE o
  |some z,some (.array _ e)=>
   match bY P e with
   |some n=>
    match oL (fun i=>some (i*n,n)) parts.toList with
    |some l=>.build z.cells.toList l
    |none=>.cE o
   |none=>.cE o
  |_,_=>.cE o
 | .buildSlice t len parts=>
  match P.underlying t with
  |some (.slice e)=>
   match bY P e,iw P e with
   |some n,some z=>
    bif Nat.ble (len*n) 16777216 && Nat.beq z.cells.toList.length n && Nat.ble len 16777216 then
     match oL (fun i=>some (i*n,n)) parts.toList with
     |some l=>.buildSlice n len (bF z.cells.toList len) l
     |none=>.cE o
    else .cE o
   |_,_=>.cE o
  |_=>.cE o
 | .load t x=>
  match iQ P t with
  |some true=>match bY P t with|some n=>.load n (fR (fun _=>P) 12 t) x|none=>.cE o
  |some false=>.aF (Ea (P.underlying t)) x
  |none=>.cE o
 | .store t x y=>match bY P t with|some n=>.store n x y|none=>.cE o
 | .convert src dst x=>
  match P.underlying src,P.underlying dst with
  |some _,some (.int k)=>.nL k x
  |_,_=>.cE o
 | .makeSlice t l c=>
  match P.underlying t with
  |some (.slice e)=>
   match bY P e,iw P e,pN P e with
   |some n,some z,some by_=>bif Nat.ble by_ 16384 && Nat.beq z.cells.toList.length n && z.cells.toList.all aE then .mkSlice n z.cells.toList l c else .cE o
   |_,_,_=>.cE o
  |_=>.cE o
 | .slice t x lo hi mx=>
  match P.underlying t with
  |some (.slice e)=>bif (bY P e).isSome then .P7 t x lo hi mx else .cE o
  |_=>.cE o
 | .fieldAddr t x f=>
  match P.underlying t with
  |some (.struct fs)=>
   match fs.toList[f]? with
   |some fd=>match bY P fd.type with|some n=>bif Nat.beq n 0 then .cE o else .fieldAddr fd.offset x|none=>.cE o
   |none=>.cE o
  |_=>.cE o
 | .field t x f=>
  match P.underlying t with
  |some (.struct fs)=>
   match fs.toList[f]? with
   |some fd=>
    match iQ P fd.type with
    |some true=>match bY P fd.type with|some n=>.M5 fd.offset n x|none=>.cE o
    |some false=>.M6 fd.offset x
    |none=>.cE o
   |none=>.cE o
  |_=>.cE o
 | .indexAddr t x i=>
  match P.underlying t with
  |some (.slice e)=>match bY P e with|some n=>.ta n x i|none=>.cE o
  |some (.array len e)=>match bY P e with|some n=>.wW len n x i|none=>.cE o
  |_=>.cE o
 | .call { callee:=.builtin .len,args,argTypes }=>
  match args.toList,argTypes.toList with
  | [x],[t]=>
   match P.underlying t with
   |some (.slice _)=>.kq x
   |some .string=>.M7 x
   |_=>.cE o
  |_,_=>.cE o
 |_=>.cE o
set_option maxHeartbeats 1000000 in
theorem EI(P:Unit->Program)(A:bI)(mk:kF)(loc:Bool)(o:Op)(s:SS)(C:Value->SS->Prop):iz P A mk loc (M8 (P ()) o) s C=wpOp P A mk loc o s C:=by
 unfold M8;split
 ·
  split
  ·rename_i z n hz hn
   cases hb:z.cells.toList.all aE with
   |false=>rfl
   |true=>simp only[cond_true,iz,wpOp,hz,hn,hb]
  ·rfl
 ·
  split
  ·rename_i n hn
   simp only[iz,wpOp,hn];cases ev s _<;>rfl
  ·rfl
 ·
  split
  ·rename_i z fs hz hu
   cases hb:fs.toList.all (fun f=>((P ()).info? f.type).isSome)with
   |false=>rfl
   |true=>
    simp only[cond_true];split
    ·rename_i l hl
     simp only[iz,wpOp,uP,hz,hu,hb,cond_true];rcases oM (s:=s) hl with ⟨h1,h2⟩|⟨lv,Pk,h1,h2,h3⟩
     ·rw[h1,h2]
     ·rw[h1,h2]
      simp only[h3];cases EH z.cells.toList Pk<;>rfl
    ·rfl
  ·rename_i z x e hz hu
   split
   ·rename_i n hn
    split
    ·rename_i l hl
     simp only[iz,wpOp,uP,hz,hu,hn];rcases oM (s:=s) hl with ⟨h1,h2⟩|⟨lv,Pk,h1,h2,h3⟩
     ·rw[h1,h2]
     ·rw[h1,h2]
      simp only[h3];cases EH z.cells.toList Pk<;>rfl
    ·rfl
   ·rfl
  ·rfl
 ·
  split
  ·rename_i e hu
   split
   ·rename_i n z hn hz
    cases hb:(Nat.ble (_*n) 16777216 && Nat.beq z.cells.toList.length n && Nat.ble _ 16777216)with
    |false=>rfl
    |true=>
     simp only[cond_true];split
     ·rename_i l hl
      simp only[iz,wpOp,kY,hu,hn,hz,hb,cond_true];rcases oM (s:=s) hl with ⟨h1,h2⟩|⟨lv,Pk,h1,h2,h3⟩
      ·rw[h1,h2]
      ·rw[h1,h2]
       simp only[h3];cases EH _ Pk with
       |none=>rfl
       |some cs=>
        refine congrArg (fun K=>bif cs.all aE then mk false n cs s K else False) (funext fun v=>funext fun s'=>?_);cases v with
        |pointer a=>cases a<;>rfl
        |_=>rfl
     ·rfl
   ·rfl
  ·rfl
 ·
  split
  ·rename_i ha
   split
   ·rename_i n hn
    simp only[iz,wpOp,qB,ha,hn];rfl
   ·rfl
  ·rename_i ha
   simp only[iz,wpOp,qB,ha];cases ev s _ with
   |none=>rfl
   |some v=>
    cases v with
    |pointer a=>
     cases a with
     |none=>rfl
     |some a=>
      refine congrArg (m7 A s a 1 [Ea ((P ()).underlying _)]) (funext fun l=>?_);cases l with
      |nil=>rfl
      |cons v r=>cases r<;>rfl
    |_=>rfl
  ·rfl
 ·
  split
  ·rename_i n hn
   simp only[iz,wpOp,wR,hn];cases ev s _ with
   |none=>rfl
   |some v=>
    cases ev s _ with
    |none=>
     cases v with
     |pointer a=>cases a<;>rfl
     |_=>rfl
    |some u=>
     cases v with
     |pointer a=>cases a<;>rfl
     |_=>rfl
  ·rfl
 ·
  split
  ·rename_i d k h1 h2
   simp only[iz,wpOp,Cb,h1,h2];cases ev s _ with
   |none=>rfl
   |some v=>cases v<;>rfl
  ·rfl
 ·
  split
  ·rename_i e hu
   split
   ·rename_i n z by_ hn hz hy
    cases hb:(Nat.ble by_ 16384 && Nat.beq z.cells.toList.length n && z.cells.toList.all aE)with
    |false=>rfl
    |true=>
     simp only[cond_true,iz,wpOp,mM,hu,hn,hz,hy,hb];cases ev s _ with
     |none=>rfl
     |some v=>
      cases ev s _ with
      |none=>cases v<;>rfl
      |some u=>
       cases v with
       |int k l=>
        cases u with
        |int k' c=>
         simp only[hn,hz,hy,hb,cond_true];refine congrArg (fun K=>A.Eb l c/\A.va fun _=>mk false n (A.kM z.cells.toList c) s K) (funext fun v=>funext fun s'=>?_);cases v with
         |pointer a=>cases a<;>rfl
         |_=>rfl
        |_=>rfl
       |_=>cases u<;>rfl
   ·rfl
  ·rfl
 ·
  split
  ·rename_i e hu
   cases hb:(bY (P ()) e).isSome with
   |false=>rfl
   |true=>
    simp only[cond_true,iz,wpOp,wS,hu,hb];cases ev s _ with
    |none=>rfl
    |some v=>
     cases qA s _ with
     |none=>cases v<;>rfl
     |some a=>
      cases qA s _ with
      |none=>cases v<;>rfl
      |some b=>
       cases qA s _ with
       |none=>cases v<;>rfl
       |some c=>
        cases v with
        |slice ad n cc=>
         simp only[hb,cond_true];cases a with
         |some a=>cases b<;>cases c<;>rfl
         |none=>
          cases b with
          |none=>cases c<;>rfl
          |some b=>
           cases c with
           |some c=>cases b<;>rfl
           |none=>cases b<;>rfl
        |_=>rfl
  ·rfl
 ·
  split
  ·rename_i fs hu
   split
   ·rename_i fd hf
    split
    ·rename_i n hn
     cases hb:Nat.beq n 0 with
     |true=>rfl
     |false=>
      simp only[cond_false,iz,wpOp,mL,hu,hf,hn,hb];cases ev s _ with
      |none=>rfl
      |some v=>
       cases v with
       |pointer a=>
        cases a with
        |none=>rfl
        |some a=>simp only[hf,hn,hb,cond_false];cases a.spot<;>rfl
       |_=>rfl
    ·rfl
   ·rfl
  ·rfl
 ·
  split
  ·rename_i fs hu
   split
   ·rename_i fd hf
    split
    ·rename_i ha
     split
     ·rename_i n hn
      simp only[iz,wpOp,uQ,kL,hu,hf,ha,hn];cases ev s _ with
      |none=>rfl
      |some v=>
       cases v with
       |agg cs=>simp only[hf,ha,hn];cases ke cs.toList fd.offset n<;>rfl
       |_=>rfl
     ·rfl
    ·rename_i ha
     simp only[iz,wpOp,uQ,kL,hu,hf,ha];cases ev s _ with
     |none=>rfl
     |some v=>
      cases v with
      |agg cs=>simp only[hf,ha];cases cs.toList[fd.offset]?<;>rfl
      |_=>rfl
    ·rfl
   ·rfl
  ·rfl
 ·
  split
  ·rename_i e hu
   split
   ·rename_i n hn
    simp only[iz,wpOp,kp,hu,hn];cases ev s _ with
    |none=>rfl
    |some v=>
     cases ev s _ with
     |none=>cases v<;>rfl
     |some u=>cases v<;>cases u<;>first|rfl|simp only[hn]
   ·rfl
  ·rename_i len e hu
   split
   ·rename_i n hn
    simp only[iz,wpOp,kp,hu,hn];cases ev s _ with
    |none=>rfl
    |some v=>
     cases ev s _ with
     |none=>
      cases v with
      |pointer a=>cases a<;>rfl
      |_=>rfl
     |some u=>
      cases v with
      |pointer a=>cases a<;>cases u<;>first|rfl|simp only[hn]
      |_=>cases u<;>rfl
   ·rfl
  ·rfl
 ·
  split
  ·rename_i args argTypes x t hx ht
   split
   ·rename_i e hu
    simp only[iz,wpOp,hx,ht,Af,yP,hu];cases ev s _ with
    |none=>rfl
    |some v=>simp only[yP,hu];cases v<;>rfl
   ·rename_i hu
    simp only[iz,wpOp,hx,ht,Af,yP,hu];cases ev s _ with
    |none=>rfl
    |some v=>simp only[yP,hu];cases v<;>rfl
   ·rfl
  ·rfl
 ·rfl
end Go.cY
namespace Go.cY
inductive VV where
 |agg (l:List Sv)
 |one (v:Sv)
inductive zb where
 |mr (l:List VV)
 |val (v:VV)
def Qi:VV->(Value->Prop)->Prop
 | .agg l,C=>WE l fun l=>C (.agg l.toArray)
 | .one v,C=>WD v C
def IL:List VV->(List Value->Prop)->Prop
 | [],C=>C []
 |t :: r,C=>Qi t fun v=>IL r fun l=>C (v :: l)
def R6:zb->Value->(Value->Prop)->Prop
 | .mr l,v,C=>IL l fun l=>v=.tuple l.toArray/\C (.tuple l.toArray)
 | .val t,v,C=>Qi t fun u=>v=u/\C u
def zn(w:Option zb)(v:Value)(C:Value->Prop):Prop:=
 match w with
 |none=>C v
 |some w=>R6 w v C
def M9(P:Program)(t:TypeId):VV:=
 match iQ P t with
 |some true=>.agg (fR (fun _=>P) 12 t)
 |_=>.one (Ea (P.underlying t))
def IM(P:Program)(t:TypeId):zb:=
 match P.underlying t with
 |some (.tuple ts)=>.mr (ts.toList.map (M9 P))
 |_=>.val (M9 P t)
theorem oN(P:Unit->Program):∀(d:Nat) (t:TypeId),fR (fun _=>P ()) d t=fR P d t
 |0,_=>rfl
 |d+1,t=>by
  unfold fR;have ih:=oN P d;have Xb:fR (fun _=>P ()) d=fR P d:=funext ih;rw[Xb]
theorem CA(P:Unit->Program)(t:TypeId)(C:Value->Prop):Qi (M9 (P ()) t) C=RV P t C:=by
 unfold M9 RV;cases iQ (P ()) t with
 |none=>rfl
 |some b=>
  cases b with
  |false=>rfl
  |true=>simp only[Qi,oN]
theorem EJ(P:Unit->Program):∀(ts:List TypeId) (C:List Value->Prop),IL (ts.map (M9 (P ()))) C=Mn P ts C
 | [],C=>rfl
 |t :: r,C=>by
  simp only[List.map_cons,IL,Mn,CA];exact congrArg _ (funext fun v=>EJ P r _)
theorem Na(P:Unit->Program)(t:TypeId)(v:Value)(C:Value->Prop):R6 (IM (P ()) t) v C=seen P t v C:=by
 unfold IM seen;cases(P ()).underlying t with
 |none=>exact CA P _ _
 |some d=>cases d<;>first|exact EJ P _ _|exact CA P _ _
inductive RDo where
 |op (loc:Bool) (r:Vf)
 |call (x:Operand) (args:List Operand) (v:Option zb)
structure fU where
 dst:Option Nat
 guard:Option (Nat×Bool)
 act:RDo
def wZ(yn:Nat->Nat)(s:SS)(x:Operand)(args:List Operand):Option (FuncId×List Value):=
 match ev s x,Af s args with
 |some (.func (.func f) first captured),some l=>bif l.all dD && Nat.blt f aX then some (f,first.toList++l++captured.toList)else none
 |some (.func (.yield y) _ _),some l=>bif l.all dD then some (yn y,l)else none
 |_,_=>none
def TW(P:Unit->Program)(A:bI)(a:RDo)(s:SS)(C:Value->SS->Prop):Prop:=
 match a with
 | .op loc r=>iz P A (PU A) loc r s C
 | .call x args w=>
  match wZ A.yn s x args with
  |some (g,l)=>A.call g l s.h fun v h'=>zn w v fun v=>C v { s with h:=h' }
  |none=>False
def vW(s:SS)(dst:Option Tmp)(v:Value)(C:SS->Prop):Prop:=
 match dst with
 |none=>C s
 |some d=>C { s with env:=(d,v) :: s.env }
def uf(g:Option (Nat×Bool))(s:SS)(go skip:SS->Prop):Prop:=
 match g with
 |none=>go s
 |some (d,want)=>
  match lk s.env d with
  |some (.bool b)=>
   match want with
   |true=>fork b (fun _=>go { s with env:=(d,.bool true) :: s.env }) (fun _=>skip { s with env:=(d,.bool false) :: s.env })
   |false=>fork b (fun _=>skip { s with env:=(d,.bool true) :: s.env }) (fun _=>go { s with env:=(d,.bool false) :: s.env })
  |some (.tuple vs)=>bif vs.toList.isEmpty then skip s else False
  |_=>False
def sN(P:Unit->Program)(A:bI):List fU->SS->(SS->Prop)->Prop
 | [],s,Q=>Q s
 |o :: rest,s,Q=>
  uf o.guard s
   (fun s=>TW P A o.act s fun v s'=>vW s' o.dst v fun rh=>sN P A rest rh Q)
   (fun s=>vW s o.dst undef fun s'=>sN P A rest s' Q)
def zo(ops:Array Oper)(o:Oper):Option (Option (Nat×Bool)):=
 match o.guard with
 |none=>some none
 |some (j,want)=>
  match (ops[j]?).bind (·.dst)with
  |some d=>some (some (d,want))
  |none=>none
def IN(P:Program)(H:Hint)(f:FuncId)(o:Oper):RDo:=
 match eQ o.op with
 |some c=>
  match c.callee with
  | .value x=>.call x c.args.toList (match o.dst with|none=>none|some _=>some (IM P o.type))
  |_=>.op false (.cE o.op)
 |none=>.op (fz H f o) (M8 P o.op)
def xg(P:Program)(H:Hint)(f:FuncId)(nt:Nat)(ops:Array Oper)(o:Oper):Option fU:=
 match zo ops o with
 |some g=>bif (match o.dst with|none=>true|some d=>Nat.blt d nt)then some ⟨o.dst,g,IN P H f o⟩else none
 |none=>none
def qK(P:Program)(H:Hint)(f:FuncId)(nt:Nat)(ops:Array Oper):List Oper->Option (List fU)
 | []=>some []
 |o :: r=>
  match xg P H f nt ops o with
  |some x=>
   match qK P H f nt ops r with
   |some l=>some (x :: l)
   |none=>none
  |none=>none
theorem uh{o:Op}{c:Call}(h:eQ o=some c):∃x,c.callee=.value x:=by
 unfold eQ at h;split at h
 ·split at h
  ·rename_i x hx;simp only[oi]at h;subst h;exact⟨x,hx⟩
  ·cases h
 ·cases h
theorem vX{ops:Array Oper}{o:Oper}{g:Option (Nat×Bool)}(h:zo ops o=some g)(s:SS)(go skip:SS->Prop):uf g s go skip=oG ops o s go skip:=by
 unfold zo at h;unfold oG;split at h
 ·rename_i hg
  simp only[oi]at h;subst h;rw[hg];rfl
 ·rename_i j want hg
  rw[hg];simp only[];split at h
  ·rename_i d hd
   simp only[oi]at h;subst h;rw[hd];simp only[uf];cases lk s.env d with
   |none=>rfl
   |some v=>cases v<;>first|rfl|(cases want<;>rfl)
  ·cases h
theorem put_eq{nt:Nat}{s:SS}{dst:Option Tmp}{v:Value}{C:SS->Prop}(h:(match dst with|none=>true|some d=>Nat.blt d nt)=true):vW s dst v C=Aw nt s dst v C:=by
 unfold vW Aw;cases dst with
 |none=>rfl
 |some d=>simp only[]at h;simp only[h,cond_true]
theorem zr(P:Unit->Program)(dst:Option Tmp)(t:TypeId)(v:Value)(C:Value->Prop):zn (match dst with|none=>none|some _=>some (IM (P ()) t)) v C=rE P dst t v C:=by
 unfold rE;cases dst with
 |none=>rfl
 |some d=>exact Na P t v C
theorem Bm{c:Call}{x:Operand}(h:c.callee=.value x)(yn:Nat->Nat)(s:SS):wZ yn s x c.args.toList=j7 yn s c:=by
 unfold j7 wZ;rw[h];simp only[];cases ev s x with
 |none=>rfl
 |some v=>
  cases v with
  |func fn first captured=>cases fn<;>cases Af s c.args.toList<;>rfl
  |_=>cases Af s c.args.toList<;>rfl
theorem Nb(P:Unit->Program)(H:Hint)(A:bI)(f:FuncId)(o:Oper)(s:SS)(C:Value->SS->Prop):TW P A (IN (P ()) H f o) s C=Ii P H A f o s C:=by
 unfold IN Ii;cases hc:eQ o.op with
 |none=>exact EI P A _ _ _ _ _
 |some c=>
  obtain⟨x,hx⟩:=uh hc;simp only[hx,TW,Bm hx,zr];cases j7 A.yn s c<;>rfl
theorem vY(P:Unit->Program)(H:Hint)(A:bI)(f:FuncId)(nt:Nat)(ops:Array Oper):∀(l:List Oper) (r:List fU),qK (P ()) H f nt ops l=some r->∀(s:SS) (Q:SS->Prop),sN P A r s Q=wpOps P H A f nt ops l s Q
 | [],r,h,s,Q=>by
  simp only[qK,oi]at h;subst h;rfl
 |o :: l,r,h,s,Q=>by
  simp only[qK]at h;split at h
  ·rename_i x hx
   split at h
   ·rename_i r' hr
    simp only[oi]at h;subst h;unfold xg at hx;split at hx
    ·rename_i g hg
     obtain⟨hb,hx⟩:=ma hx;subst hx;have ih:sN P A r'=wpOps P H A f nt ops l:=funext fun s=>funext fun Q=>vY P H A f nt ops l r' hr s Q
     simp only[sN,wpOps,vX hg,put_eq hb,Nb,ih]
    ·cases hx
   ·cases h
  ·cases h
inductive FK where
 |none
 |new (loc:Bool)
 |dh (x:Operand)
 |Pg (x:Operand)
 |all
 |app (l:List Operand)
structure zt where
 o:fU
 p:Nat
 kind:FK
 pr:List Nat
 st:Bool
 sm:Bool
def TX(o:Op)(loc:Bool):FK:=
 bif bN o then .none else
 match o with
 | .alloc _ | .box _ _=>.new loc
 | .buildSlice _ _ _ | .makeSlice _ _ _=>.new false
 | .load _ x | .store _ x _=>.dh x
 | .convert _ _ x=>.Pg x
 | .call { callee:=.builtin .append,args,argTypes }=>.app args.toList
 |_=>.all
def Vj(k:FK)(id tag:Nat)(s:SS):FP:=
 match k with
 | .none=>.none
 | .new loc=>bif loc then .new true tag else .new false id
 | .dh x=>
  match ev s x with
  |some (.pointer (some a))=>.block a.spot.isSome a.block
  |_=>.all
 | .Pg x=>
  match ev s x with
  |some (.slice (some a) _ _)=>bif a.spot.isNone then .block false a.block else .none
  |_=>.none
 | .all=>.all
 | .app l=>.app (AS (RW s l))
theorem TY(o:Op)(loc:Bool)(id tag:Nat)(s:SS):Vj (TX o loc) id tag s=RY o loc id tag s:=by
 unfold TX RY;cases bN o with
 |true=>rfl
 |false=>
  simp only[cond_false];cases o with
  |load t x=>
   simp only[Vj];cases ev s x with
   |none=>rfl
   |some v=>cases v with
    |pointer a=>cases a<;>rfl
    |_=>rfl
  |store t x y=>
   simp only[Vj];cases ev s x with
   |none=>rfl
   |some v=>cases v with
    |pointer a=>cases a<;>rfl
    |_=>rfl
  |convert t u x=>
   simp only[Vj];cases ev s x with
   |none=>rfl
   |some v=>cases v with
    |slice a n c=>cases a<;>rfl
    |_=>rfl
  |call c=>
   obtain⟨callee,args,tys⟩:=c;cases callee with
   |builtin b=>cases b<;>rfl
   |_=>rfl
  |_=>rfl
abbrev K9:=List (Nat×List Nat×FP×Bool)
def nO(p:Nat)(pr:List Nat)(x:FP)(w:Bool)(l:K9):K9:=
 match x with
 | .none=>l
 |x=>(p,pr,x,w) :: l
def zu(p:Nat)(pr:List Nat)(x:FP)(w:Bool)(acc:K9):K9:=
 match x with
 | .none=>acc
 |x=>acc++[(p,pr,x,w)]
theorem lF(b:Bool)(X Y:Prop):fork b (fun _=>X) (fun _=>Y)=cond b X Y:=by cases b<;>rfl
def j9(P:Unit->Program)(A:bI)(base aQ:Nat):List zt->Nat->SS->K9->(SS->K9->Prop)->Prop
 | [],_,s,acc,Q=>Q s acc
 |d :: rest,i,s,acc,Q=>
  uf d.o.guard s
   (fun s=>
    match d.o.act with
    | .call x args w=>
     match wZ A.yn s x args with
     |some (g,l)=>A.call g l (A.fresh s.h) fun v h'=>zn w v fun v=>
       vW { s with h:=A.aw s.h h' } d.o.dst v fun rh=>j9 P A base aQ rest (i+1) rh (acc++[(d.p,d.pr,.all,A.wrote s.h h')]) Q
     |none=>False
    | .op loc r=>
     fork d.sm
      (fun _=>iz P A (vc A (A.bT base i) (aQ+i)) loc r s fun v s'=>
       vW s' d.o.dst v fun rh=>j9 P A base aQ rest (i+1) rh (zu d.p d.pr (Vj d.kind (A.bT base i) (aQ+i) s) d.st acc) Q)
      (fun _=>iz P A (vc A (A.bT base i) (aQ+i)) loc r { s with h:=A.fresh s.h } fun v s'=>
       vW { s' with h:=A.aw s.h s'.h } d.o.dst v fun rh=>j9 P A base aQ rest (i+1) rh (zu d.p d.pr (Vj d.kind (A.bT base i) (aQ+i) s) (A.wrote s.h s'.h) acc) Q))
   (fun s=>vW s d.o.dst undef fun s'=>j9 P A base aQ rest (i+1) s' acc Q)
def Kj(q:Nat):List Nat->Bool
 | []=>false
 |a :: l=>bif Nat.beq q a then true else Kj q l
def jg(A:bI)(dI:Nat)(pr:List Nat)(x:FP)(wx:Bool):K9->Prop->Prop
 | [],C=>C
 |(q,_,y,wy) :: r,C=>fork (Kj q pr) (fun _=>jg A dI pr x wx r C) (fun _=>yQ A dI x wx y wy (jg A dI pr x wx r C))
def sO(A:bI)(dI:Nat):K9->Prop->Prop
 | [],C=>C
 |(_,pr,x,wx) :: r,C=>jg A dI pr x wx r (sO A dI r C)
def IP(P:Unit->Program)(A:bI)(n:Nat)(ds:List zt)(s:SS)(Q:SS->Prop):Prop:=
 j9 P A (A.next s.h) s.kn ds 0 { s with kn:=s.kn+n,h:=A.aG s.h n } [] fun s' iA=>sO A (A.bT (A.next s.h) n) iA (Q s')
def Qj(b:Array Nat)(n p:Nat):List Nat:=(List.range n).filter (fun q=>prec b p q)
def Kk(P:Program)(H:Hint)(f:FuncId)(nt:Nat)(ops:Array Oper)(b:Array Nat):List Nat->Option (List zt)
 | []=>some []
 |p :: r=>
  match ops[p]? with
  |some o=>
   match xg P H f nt ops o with
   |some x=>
    match Kk P H f nt ops b r with
    |some l=>some (⟨x,p,TX o.op (fz H f o),Qj b ops.size p,iO o.op,small o.op⟩ :: l)
    |none=>none
   |none=>none
  |none=>none
theorem EK(q:Nat):∀l:List Nat,Kj q l=decide (q∈l)
 | []=>by simp[Kj]
 |a :: l=>by
  unfold Kj;rw[EK q l];cases h:Nat.beq q a with
  |true=>have:=Nat.eq_of_beq_eq_true h;subst this;simp
  |false=>have:=Nat.ne_of_beq_eq_false h;simp[this]
theorem ui{b:Array Nat}{n p q:Nat}(h:q<n):Kj q (Qj b n p)=prec b p q:=by
 rw[EK];unfold Qj;simp only[List.mem_filter,List.mem_range,h,true_and];cases prec b p q<;>rfl
def zv(b:Array Nat)(n:Nat):List (Nat×FP×Bool)->K9
 | []=>[]
 |(p,x,w) :: l=>nO p (Qj b n p) x w (zv b n l)
theorem sA(A:bI)(ops:Array Oper)(dI p:Nat)(wx:Bool):∀(l:List (Nat×FP×Bool)) (C:Prop),jy A ops dI p .none wx l C=C
 | [],C=>rfl
 |(q,y,wy) :: l,C=>by
  unfold jy;rw[sA A ops dI p wx l C];cases prec (Region.before ops) p q<;>rfl
theorem EL(A:bI)(dI:Nat)(x:FP)(wx wy:Bool)(C:Prop):yQ A dI x wx .none wy C=C:=by
 cases x<;>rfl
theorem kx(A:bI)(ops:Array Oper)(dI p:Nat)(x:FP)(wx:Bool):∀(l:List (Nat×FP×Bool)) (C:Prop),(∀e∈l,e.1<ops.size)->
  jg A dI (Qj (Region.before ops) ops.size p) x wx (zv (Region.before ops) ops.size l) C=jy A ops dI p x wx l C
 | [],C,_=>rfl
 |(q,y,wy) :: l,C,h=>by
  have hq:q<ops.size:=h (q,y,wy) List.mem_cons_self;have ih:=kx A ops dI p x wx l C (fun e he=>h e (List.mem_cons_of_mem _ he));unfold jy zv;cases y with
  |none=>
   simp only[nO,EL];rw[ih];cases prec (Region.before ops) p q<;>rfl
  |block l' b'=>simp only[nO,jg,lF,ui hq,ih]
  |new l' b'=>simp only[nO,jg,lF,ui hq,ih]
  |all=>simp only[nO,jg,lF,ui hq,ih]
  |app c=>simp only[nO,jg,lF,ui hq,ih]
theorem EM(A:bI)(ops:Array Oper)(dI:Nat):∀(l:List (Nat×FP×Bool)) (C:Prop),(∀e∈l,e.1<ops.size)->sO A dI (zv (Region.before ops) ops.size l) C=rF A ops dI l C
 | [],C,_=>rfl
 |(p,x,wx) :: l,C,h=>by
  have hl:∀e∈l,e.1<ops.size:=fun e he=>h e (List.mem_cons_of_mem _ he)
  have ih:=EM A ops dI l C hl;unfold rF zv;cases x with
  |none=>simp only[nO,sA];exact ih
  |block l' b'=>simp only[nO,sO,ih];exact kx A ops dI p _ wx l _ hl
  |new l' b'=>simp only[nO,sO,ih];exact kx A ops dI p _ wx l _ hl
  |all=>simp only[nO,sO,ih];exact kx A ops dI p _ wx l _ hl
  |app c=>simp only[nO,sO,ih];exact kx A ops dI p _ wx l _ hl
theorem IQ(P:Unit->Program)(H:Hint)(A:bI)(f:FuncId)(nt:Nat)(ops:Array Oper)(base aQ:Nat):∀(l:List Nat) (ds:List zt),Kk (P ()) H f nt ops (Region.before ops) l=some ds->
  ∀(i:Nat) (s:SS) (acc:K9) (Q:SS->List (Nat×FP×Bool)->Prop) (Q':SS->K9->Prop),(∀r iA,(∀e∈iA,e.1<ops.size)->Q' r (acc++zv (Region.before ops) ops.size iA)=Q r iA)->
  j9 P A base aQ ds i s acc Q'=kG P H A f nt ops base aQ l i s Q
 | [],ds,h,i,s,acc,Q,Q',hq=>by
  simp only[Kk,oi]at h;subst h;have:=hq s [] (fun e he=>by cases he);rw[zv,List.append_nil]at this;exact this
 |p :: l,ds,h,i,s,acc,Q,Q',hq=>by
  simp only[Kk]at h;split at h
  ·rename_i o ho
   split at h
   ·rename_i x hx
    split at h
    ·rename_i r hr
     simp only[oi]at h;subst h;have hp:p<ops.size:=(Array.getElem?_eq_some_iff.1 ho).1;unfold xg at hx;split at hx
     ·rename_i g hg
      obtain⟨hb,hx⟩:=ma hx;subst hx;have ih:=IQ P H A f nt ops base aQ l r hr;have app:∀(fp:FP) (w:Bool) (iA:K9),zu p (Qj (Region.before ops) ops.size p) fp w acc++iA=acc++nO p (Qj (Region.before ops) ops.size p) fp w iA:=fun fp w iA=>by
       cases fp<;>simp[zu,nO]
      have step:∀(rh:SS) (fp:FP) (w:Bool),j9 P A base aQ r (i+1) rh (zu p (Qj (Region.before ops) ops.size p) fp w acc) Q'=kG P H A f nt ops base aQ l (i+1) rh (fun r iA=>Q r ((p,fp,w) :: iA)):=fun rh fp w=>
       ih (i+1) rh _ _ _ (fun r iA hf=>by
        rw[app];exact hq r ((p,fp,w) :: iA) (fun e he=>by
         rcases List.mem_cons.1 he with rfl|he
         ·exact hp
         ·exact hf e he))
      have skip:∀(rh:SS),j9 P A base aQ r (i+1) rh acc Q'=kG P H A f nt ops base aQ l (i+1) rh (fun r iA=>Q r ((p,.none,false) :: iA)):=fun rh=>step rh .none false
      have all:∀(rh:SS) (w:Bool),j9 P A base aQ r (i+1) rh (acc++[(p,Qj (Region.before ops) ops.size p,.all,w)]) Q'=kG P H A f nt ops base aQ l (i+1) rh (fun r iA=>Q r ((p,.all,w) :: iA)):=fun rh w=>step rh .all w
      simp only[j9,kG,lF,ho,vX hg,put_eq hb,skip,TY,step,all];refine congrArg (fun K=>oG ops o s K _) (funext fun s=>?_);unfold IN;cases hc:eQ o.op with
      |none=>simp only[EI]
      |some c=>
       obtain⟨x,hx⟩:=uh hc;simp only[hx,Bm hx,zr];cases j7 A.yn s c<;>rfl
     ·cases hx
    ·cases h
   ·cases h
  ·cases h
inductive pz where
 |skip
 |ret
 |exit (id:Nat) (l:Option (List Tmp))
 |seq (a b:pz)
 |cond (x:Operand) (a b:pz)
 |block (id:Nat) (b:pz)
 |loop (key:Nat) (bj l:Option (List Tmp))
 |PT (l:Option (List Tmp)) (ops:List fU)
 |draw (l:Option (List Tmp)) (n:Nat) (ops:List zt)
 |range (key:Nat)
def R7(bj:Option (List Tmp))(kn:Nat)(s:SS):Option SS:=
 match bj with
 |none=>some s
 |some l=>
  bif Nat.ble kn s.kn && l.all (fun t=>match lk s.env t with|some v=>th kn v|none=>false)then some { s with env:=qy s.env l,kn:=kn,K:=qy s.K (List.range kn) } else none
def vm(P:Unit->Program)(A:bI)(f:FuncId)(c:pz)(s:SS)(Q:Exit->SS->Prop):Prop:=
 match c with
 | .skip=>Q .normal s
 | .ret=>Q .ret s
 | .exit id l=>Q (.exit id) (fZ s l)
 | .seq a b=>vm P A f a s (JV (fun s'=>vm P A f b s' Q) Q)
 | .cond x a b=>
  match ev s x with
  |some (.bool t)=>fork t (fun _=>vm P A f a s Q) (fun _=>vm P A f b s Q)
  |_=>False
 | .block id b=>vm P A f b s (GJ id Q)
 | .loop key bj l=>
  match R7 bj s.kn s with
  |some s0=>A.head f key s.kn (fZ s0 l) Q
  |none=>False
 | .PT l ops=>fork (Nat.ble 10 ops.length) (fun _=>A.va (fun _=>sN P A ops (fZ s l) (Q .normal))) (fun _=>sN P A ops (fZ s l) (Q .normal))
 | .draw l n ops=>A.va fun _=>IP P A n ops (fZ s l) fun s'=>A.va fun _=>Q .normal s'
 | .range key=>A.yO f key s Q
def dZ(P:Program)(H:Hint)(V:Live)(f:FuncId)(nt:Nat):Code->Option pz
 | .skip=>some .skip
 | .ret=>some .ret
 | .exit id=>some (.exit id (V.dh f id))
 | .seq a b=>
  match dZ P H V f nt a,dZ P H V f nt b with
  |some x,some y=>some (.seq x y)
  |_,_=>none
 | .cond c a b=>
  match dZ P H V f nt a,dZ P H V f nt b with
  |some x,some y=>some (.cond c x y)
  |_,_=>none
 | .block id b=>match dZ P H V f nt b with|some x=>some (.block id x)|none=>none
 | .loop b=>some (.loop (keyOf b) (H.bj f (keyOf b)) (V.loop f (keyOf b)))
 | .region id ops draw=>
  bif draw then
   bif oe ops (gp ops)then
    match Kk P H f nt ops (Region.before ops) (gp ops)with
    |some l=>some (.draw (V.PT f id) ops.size l)
    |none=>none
   else none
  else
   match qK P H f nt ops ops.toList with
   |some l=>some (.PT (V.PT f id) l)
   |none=>none
 | .rangeFunc _ _ as _=>some (.range (keyOf as))
 |_=>none
theorem zw(P:Unit->Program)(H:Hint)(A:bI)(Kl:∀f,A.va f=f ())(V:Live)(f:FuncId)(nt:Nat):∀(c:Code) (r:pz),dZ (P ()) H V f nt c=some r->∀(s:SS) (Q:Exit->SS->Prop),vm P A f r s Q=wpS P H A V f nt c s Q:=by
 intro c
 induction c with
 |skip=>intro r h s Q;simp only[dZ,oi]at h;subst h;rfl
 |ret=>intro r h s Q;simp only[dZ,oi]at h;subst h;rfl
 |exit id=>intro r h s Q;simp only[dZ,oi]at h;subst h;rfl
 |seq a b Cj s8=>
  intro r h s Q;simp only[dZ]at h;split at h
  ·rename_i x y hx hy
   simp only[oi]at h;subst h;have eb:(fun s'=>vm P A f y s' Q)=(fun s'=>wpS P H A V f nt b s' Q):=funext fun s'=>s8 y hy s' Q
   simp only[vm,wpS];rw[eb];exact Cj x hx s _
  ·cases h
 |cond c a b Cj s8=>
  intro r h s Q;simp only[dZ]at h;split at h
  ·rename_i x y hx hy
   simp only[oi]at h;subst h;simp only[vm,wpS];cases ev s c with
   |none=>rfl
   |some v=>
    cases v with
    |bool t=>simp only[Cj x hx,s8 y hy]
    |_=>rfl
  ·cases h
 |block id b ih=>
  intro r h s Q;simp only[dZ]at h;split at h
  ·rename_i x hx
   simp only[oi]at h;subst h;exact ih x hx s _
  ·cases h
 |loop b ih=>intro r h s Q;simp only[dZ,oi]at h;subst h;rfl
 |region id ops draw=>
  intro r h s Q;simp only[dZ]at h;cases draw with
  |true=>
   simp only[cond_true]at h;obtain⟨hb,h⟩:oe ops (gp ops)=true/\(match Kk (P ()) H f nt ops (Region.before ops) (gp ops)with|some l=>some (pz.draw (V.PT f id) ops.size l)|none=>none)=some r:=by
    cases hb:oe ops (gp ops)with
    |false=>rw[hb]at h;cases h
    |true=>rw[hb]at h;exact⟨rfl,h⟩
   split at h
   ·rename_i l hl
    simp only[oi]at h;subst h;simp only[vm,wpS,cond_true,Cd,IP,hb,Kl];exact IQ P H A f nt ops _ _ (gp ops) l hl 0 _ [] _ _ (fun r iA hf=>by rw[List.nil_append];exact EM A ops _ iA _ hf)
   ·cases h
  |false=>
   simp only[cond_false]at h;split at h
   ·rename_i l hl
    simp only[oi]at h;subst h;simp only[vm,wpS,cond_false,Kl,lF,Bool.cond_self];exact vY P H A f nt ops ops.toList l hl _ _
   ·cases h
 |rangeFunc x ps as bo _ _=>intro r h s Q;simp only[dZ,oi]at h;subst h;rfl
 |_=>intro r h;cases h
inductive Km where
 |tmp (t:Tmp)
 |agg (t:Tmp) (n:Nat) (vs:List Sv)
 |one (t:Tmp) (v:Sv)
structure IS where
 bj:Option (List Tmp)
 l:Option (List Tmp)
 body:pz
structure G9 where
 x:Operand
 ps:List Tmp
 as:pz
 bo:pz
structure k9 where
 body:pz
 res:List Km
 loops:List (Nat×IS)
 aaD:List (Nat×G9)
def oO(A:bI)(s:SS):List Km->(List Value->Prop)->Prop
 | [],C=>C []
 | .tmp t :: r,C=>
  match lk s.env t with
  |some v=>oO A s r fun l=>C (v :: l)
  |none=>False
 | .agg a n vs :: r,C=>
  match lk s.env a with
  |some (.pointer (some x))=>m7 A s x n vs fun l=>oO A s r fun l'=>C (.agg l.toArray :: l')
  |_=>False
 | .one a v :: r,C=>
  match lk s.env a with
  |some (.pointer (some x))=>m7 A s x 1 [v] fun l=>
   match l with
   | [v]=>oO A s r fun l'=>C (v :: l')
   |_=>False
  |_=>False
def qL(P:Program):List ResultVar->Option (List Km)
 | []=>some []
 | .tmp t :: r=>match qL P r with|some l=>some (.tmp t :: l)|none=>none
 | .cell a t :: r=>
  match qL P r with
  |some l=>
   match iQ P t with
   |some true=>match bY P t with|some n=>some (.agg a n (fR (fun _=>P) 12 t) :: l)|none=>none
   |some false=>some (.one a (Ea (P.underlying t)) :: l)
   |none=>none
  |none=>none
theorem vo(P:Unit->Program)(A:bI)(s:SS):∀(rs:List ResultVar) (l:List Km),qL (P ()) rs=some l->∀C,oO A s l C=px P A s rs C
 | [],l,h,C=>by simp only[qL,oi]at h;subst h;rfl
 | .tmp t :: r,l,h,C=>by
  simp only[qL]at h;split at h
  ·rename_i l' hl
   simp only[oi]at h;subst h;simp only[oO,px,vo P A s r l' hl];cases lk s.env t<;>rfl
  ·cases h
 | .cell a t :: r,l,h,C=>by
  simp only[qL]at h;split at h
  ·rename_i l' hl
   have ih:=vo P A s r l' hl;split at h
   ·rename_i ha
    split at h
    ·rename_i n hn
     simp only[oi]at h;subst h;simp only[oO,px,ih,qB,ha,hn,oN];cases lk s.env a with
     |none=>rfl
     |some v=>
      cases v with
      |pointer x=>cases x<;>rfl
      |_=>rfl
    ·cases h
   ·rename_i ha
    simp only[oi]at h;subst h;simp only[oO,px,ih,qB,ha];cases lk s.env a with
    |none=>rfl
    |some v=>
     cases v with
     |pointer x=>
      cases x with
      |none=>rfl
      |some x=>
       refine congrArg (m7 A s x 1 [Ea ((P ()).underlying t)]) (funext fun l=>?_);cases l with
       |nil=>rfl
       |cons v r=>cases r<;>rfl
     |_=>rfl
   ·cases h
  ·cases h
def qM(P:Program)(H:Hint)(V:Live)(f:FuncId)(nt:Nat):List Code->Option (List (Nat×IS))
 | []=>some []
 |b :: r=>
  match dZ P H V f nt b,qM P H V f nt r with
  |some x,some l=>bif (r.all fun c=>!(Nat.beq (keyOf c) (keyOf b)))then some ((keyOf b,⟨H.bj f (keyOf b),V.loop f (keyOf b),x⟩) :: l)else none
  |_,_=>none
def rK(P:Program)(H:Hint)(V:Live)(f:FuncId)(nt:Nat):List (Operand×Array Tmp×Code×Code)->Option (List (Nat×G9))
 | []=>some []
 |(x,ps,as,bo) :: r=>
  match dZ P H V f nt as,dZ P H V f nt bo,rK P H V f nt r with
  |some a,some b,some l=>bif (r.all fun c=>!(Nat.beq (keyOf c.2.2.1) (keyOf as))) && bE as && bE bo && ps.toList.all (fun t=>Nat.blt t nt)then some ((keyOf as,⟨x,ps.toList,a,b⟩) :: l)else none
  |_,_,_=>none
def fJ(P:Program)(H:Hint)(V:Live)(f:FuncId)(fn:Func):Option k9:=
 match fn.body with
 |some c=>
  match dZ P H V f fn.ntmps c,qL P fn.results.toList,qM P H V f fn.ntmps (bG c),rK P H V f fn.ntmps (bH c)with
  |some b,some r,some l,some g=>some ⟨b,r,l,g⟩
  |_,_,_,_=>none
 |none=>none
theorem pC{P:Program}{H:Hint}{V:Live}{f:FuncId}{nt:Nat}:∀{l:List (Operand×Array Tmp×Code×Code)} {ls:List (Nat×G9)},rK P H V f nt l=some ls->∀r∈l,yZ r
 | [],ls,h,r,hr=>by cases hr
 |(x,ps,as,bo) :: l,ls,h,r,hr=>by
  simp only[rK]at h;split at h
  ·rename_i a b l' ha hb hl
   obtain⟨hc,h⟩:=ma h;simp only[Bool.and_eq_true]at hc;rcases List.mem_cons.1 hr with rfl|hr
   ·exact⟨hc.1.1.2,hc.1.2⟩
   ·exact pC hl r hr
  ·cases h
def Xc(A:bI)(rs:List Km)(Q:Value->af->Prop):Exit->SS->Prop
 | .normal,s=>oO A s rs fun l=>bif l.all dD then Q (jr l) s.h else False
 | .ret,s=>oO A s rs fun l=>bif l.all dD then Q (jr l) s.h else False
 |_,_=>False
def Ha(P:Unit->Program)(A:bI)(g:FuncId)(r:k9)(args:List Value)(h:af)(Q:Value->af->Prop):Prop:=
 vm P A g r.body ⟨sq args 0 [],0,[],h⟩ (Xc A r.res Q)
def CB(P:Unit->Program)(A:bI)(f:FuncId)(r:k9)(key kn:Nat)(s:SS)(Q:Exit->SS->Prop):Prop:=
 match lk r.loops key with
 |some b=>vm P A f b.body s (JV (fun s'=>
   match R7 b.bj kn s' with
   |some s1=>A.head f key kn (fZ s1 b.l) Q
   |none=>False) Q)
 |none=>False
theorem Qk(P:Unit->Program)(A:bI){rs:List ResultVar}{l:List Km}(h:qL (P ()) rs=some l)(Q:Value->af->Prop):Xc A l Q=Tz P A rs Q:=by
 funext x s
 cases x<;>first|rfl|exact vo P A s rs l h _
theorem Kn{P:Unit->Program}{H:Hint}{V:Live}{g:FuncId}{fn:Func}{r:k9}(h:fJ (P ()) H V g fn=some r){A:bI}(Kl:∀f,A.va f=f ()){args:List Value}{hp:af}{Q:Value->af->Prop}(hw:Ha P A g r args hp Q):Ed P H A V g fn args hp Q:=by
 unfold fJ at h;unfold Ed;split at h
 ·rename_i c hc
  rw[hc];simp only[];split at h
  ·rename_i b rs l gs hb hr hl hgs
   simp only[oi]at h;subst h;unfold Ha at hw;rw[Qk P A hr]at hw;rw[zw P H A Kl V g fn.ntmps c b hb]at hw;exact hw
  ·cases h
 ·cases h
theorem sB{P:Program}{H:Hint}{V:Live}{f:FuncId}{nt:Nat}:∀{l:List Code} {ls:List (Nat×IS)},qM P H V f nt l=some ls->∀{key:Nat} {x:IS},lk ls key=some x->
  ∃b,l.filter (fun b=>Nat.beq (keyOf b) key)=[b]/\keyOf b=key/\dZ P H V f nt b=some x.body/\x.bj=H.bj f key/\x.l=V.loop f key
 | [],ls,h,key,x,hx=>by
  simp only[qM,oi]at h;subst h;cases hx
 |b :: r,ls,h,key,x,hx=>by
  simp only[qM]at h;split at h
  ·rename_i y l hy hl
   obtain⟨hb,h⟩:=ma h;subst h;simp only[lk]at hx;cases hk:Nat.beq (keyOf b) key with
   |true=>
    rw[hk]at hx;simp only[cond_true,oi]at hx;subst hx;have e:=Nat.eq_of_beq_eq_true hk;refine⟨b,?_,e,hy,by rw[e],by rw[e]⟩;rw[List.filter_cons_of_pos (by simpa using hk)]
    congr 1
    rw[List.filter_eq_nil_iff];intro c hc;have:=List.all_eq_true.1 hb c hc;rw[<-e];have h9:Nat.beq (keyOf c) (keyOf b)=false:=by
     cases h8:Nat.beq (keyOf c) (keyOf b)with
     |false=>rfl
     |true=>rw[h8]at this;cases this
    rw[h9];exact Bool.false_ne_true
   |false=>
    rw[hk]at hx;simp only[cond_false]at hx;obtain⟨b',h1,h2⟩:=sB hl hx;refine⟨b',?_,h2⟩;rw[List.filter_cons_of_neg (by rw[hk];exact Bool.false_ne_true)];exact h1
  ·cases h
theorem Hb{P:Unit->Program}{H:Hint}{V:Live}{f:FuncId}{fn:Func}{r:k9}(h:fJ (P ()) H V f fn=some r){A:bI}(Kl:∀f,A.va f=f ()){key kn:Nat}{s:SS}{Q:Exit->SS->Prop}(hw:CB P A f r key kn s Q):Ce P H A V f fn key kn s Q:=by
 unfold fJ at h;unfold Ce;split at h
 ·rename_i c hc
  rw[hc];simp only[];split at h
  ·rename_i b rs l gs hb hr hl hgs
   simp only[oi]at h;subst h;unfold CB at hw;simp only[]at hw;split at hw
   ·rename_i x hx
    obtain⟨b',h1,h2,h3,h4,h5⟩:=sB hl hx;rw[h1];simp only[];unfold wT;rw[zw P H A Kl V f fn.ntmps b' x.body h3]at hw;rw[h4,h5]at hw;subst h2;exact⟨pC hgs,hw⟩
   ·exact hw.elim
  ·cases h
 ·cases h
theorem AOK.aU{P:Unit->Program}{H:Hint}{F:bk}{A:bI}(hA:AOK P H F A){V:Live}{g:FuncId}{fn:Func}{r:k9}{args:List Value}{h:af}{Q:Value->af->Prop}(hf:(P ()).funcs[g]?=some fn)(hr:fJ (P ()) H V g fn=some r)(hn:F g args h=none)(hl:h.low<=h.next)(hw:Ha P A g r args h Q)(hg:g<aX:=by decide):A.call g args h Q:=
 hA.body V hg hf hn hl (Kn hr (fun f=>by rw[hA.eq];rfl) hw)
theorem AOK.ar{P:Unit->Program}{H:Hint}{F:bk}{A:bI}(hA:AOK P H F A){V:Live}{f:FuncId}{fn:Func}{r:k9}(Ae:(P ()).funcs[f]?=some fn)(hr:fJ (P ()) H V f fn=some r){key kn:Nat}{s:SS}{Q:Exit->SS->Prop}(hw:CB P A f r key kn s Q):A.head f key kn s Q:=
 hA.round V Ae (Hb hr (fun f=>by rw[hA.eq];rfl) hw)
end Go.cY
namespace Go.Proofs.Ytdpbiegfljmhmaa.Ext
def bJ(w:Nat)(F:Nat->aS)(c:Nat):Nat->aS->aS
 |0,v=>v
 |y+1,v=>if c<aj w (F y)then(fun j=>bJ w F c y v j-bJ w F c y v (aj w (F y)) / F y (aj w (F y))*F y j)else bJ w F c y v
theorem Hc{a L R:Int}(hL:0<L)(h:a.natAbs<=(R*L).natAbs)(hR:0<=R):(a / L).natAbs<=R.natAbs:=by
 have h1:-(R*L)<=a/\a<=R*L:=by
  have:0<=R*L:=Int.mul_nonneg hR (Int.le_of_lt hL);omega
 have h2:a / L<=R:=Int.ediv_le_of_le_mul hL om;have h3:-R<=a / L:=Int.le_ediv_of_mul_le hL (by rw[Int.neg_mul];omega);omega
theorem iL{a b A B:Int}(ha:a.natAbs<=A.natAbs)(hb:b.natAbs<=B.natAbs)(hA:0<=A)(hB:0<=B):(a*b).natAbs<=(A*B).natAbs:=by
 rw[Int.natAbs_mul,Int.natAbs_mul];exact Nat.mul_le_mul ha hb
structure Old(w k a:Nat)(F:Nat->aS)(E:Int):Prop where
 le:∀z,a<=z->z<k->∀j,(F z j).natAbs<=E.natAbs
 red:∀y z,a<=y->y<z->z<k->0<=F y (aj w (F z))/\F y (aj w (F z))<F z (aj w (F z))
theorem Old.Nc{w k a a':Nat}{F:Nat->aS}{E:Int}(h:Old w k a F E)(ha:a<=a'):Old w k a' F E:=
 ⟨fun z hz hk=>h.le z om hk,fun y z hy hz hk=>h.red y z om hz hk⟩
structure aaE(w k a y:Nat)(F:Nat->aS)(E N Q:Int)(v u:aS):Prop where
 red:∀z,a<=z->z<y->0<=u (aj w (F z))/\u (aj w (F z))<F z (aj w (F z))
 lead:∀z,y<=z->a<=z->z<k->(u (aj w (F z))).natAbs<=(Q*2 ^ (y-a)*F z (aj w (F z))).natAbs
 le:∀j,(u j).natAbs<=(N+(Q*2 ^ (y-a)-Q)*E).natAbs
 cE:∀j,(∀z,a<=z->z<k->j<aj w (F z))->u j=v j
theorem sP{w k a c:Nat}{F:Nat->aS}{E N Q:Int}{v:aS}(hs:pJ w k F)(hE:0<=E)(hN:0<=N)(hQ:0<=Q)(ho:Old w k a F E)(ha:∀z,z<a->z<k->aj w (F z)<=c)(hc:∀z,a<=z->z<k->c<aj w (F z))
  (hv:∀j,(v j).natAbs<=N.natAbs) (hl:∀z,a<=z->z<k->(v (aj w (F z))).natAbs<=(Q*F z (aj w (F z))).natAbs):∀y,y<=k->aaE w k a y F E N Q v (bJ w F c y v)
 |0,_=>by
  refine⟨fun z h1 h2=>om,fun z _ h1 h2=>?_,fun j=>?_,fun j _=>rfl⟩
  ·rw[show 0-a=0 by omega,Int.pow_zero,Int.mul_one];exact hl z h1 h2
  ·rw[show 0-a=0 by omega,Int.pow_zero,Int.mul_one,show N+(Q-Q)*E=N by rw[Int.sub_self];omega];exact hv j
 |y+1,hy=>by
  have ih:=sP hs hE hN hQ ho ha hc hv hl y om;by_cases cy:a<=y
  ·have Vk:=hc y cy om
   have e:bJ w F c (y+1) v=fun j=>bJ w F c y v j-bJ w F c y v (aj w (F y)) / F y (aj w (F y))*F y j:=by
    show(if c<aj w (F y)then _ else _)=_;rw[if_pos Vk]
   rw[e];generalize bJ w F c y v=u at *;have hL:=hs.pos y om;have hp:(2:Int) ^ (y+1-a)=2 ^ (y-a)*2:=by rw[show y+1-a=(y-a)+1 by omega,Int.pow_succ]
   obtain⟨R,eR⟩:∃R,R=Q*2 ^ (y-a):=⟨_,rfl⟩;have hR:0<=R:=by rw[eR];exact Int.mul_nonneg hQ (Int.le_of_lt (Int.pow_pos om))
   have hRQ:Q<=R:=by
    rw[eR];have h1:(1:Int)<=2 ^ (y-a):=Int.pow_pos om;have:=Int.mul_le_mul_of_nonneg_left h1 hQ;omega
   have Vl:Q*2 ^ (y+1-a)=2*R:=by rw[hp,eR,<-Int.mul_assoc,Int.mul_comm]
   have hle:=ih.le;have Nd:=ih.lead;rw[<-eR]at hle Nd;have ht:=Hc hL (Nd y (Nat.le_refl _) cy om) hR;generalize hT:u (aj w (F y)) / F y (aj w (F y))=t at ht;refine⟨fun z h1 h2=>?_,fun z h0 h1 h2=>?_,fun j=>?_,fun j hj=>?_⟩
   ·by_cases ez:z=y
    ·subst ez
     show 0<=u (aj w (F z))-t*F z (aj w (F z))/\u (aj w (F z))-t*F z (aj w (F z))<F z (aj w (F z));rw[<-hT];have q1:=Int.emod_nonneg (u (aj w (F z))) (show F z (aj w (F z))≠0 by omega);have q2:=Int.emod_lt_of_pos (u (aj w (F z))) hL;have q3:=Int.emod_add_mul_ediv (u (aj w (F z))) (F z (aj w (F z)));rw[Int.mul_comm]at q3;omega
    ·show 0<=u (aj w (F z))-t*F y (aj w (F z))/\u (aj w (F z))-t*F y (aj w (F z))<F z (aj w (F z))
     rw[bD (w:=w) (v:=F y) (hs.inc z y om om),Int.mul_zero,Int.sub_zero];exact ih.red z h1 om
   ·show(u (aj w (F z))-t*F y (aj w (F z))).natAbs<=_
    rw[Vl];have q1:=Nd z om h1 h2;have q2:=ho.red y z cy om h2;have q3:(t*F y (aj w (F z))).natAbs<=(R*F z (aj w (F z))).natAbs:=iL ht om hR om;have q4:0<=R*F z (aj w (F z)):=Int.mul_nonneg hR om;rw[Int.mul_assoc];omega
   ·show(u j-t*F y j).natAbs<=_
    rw[Vl];have q1:=hle j;have q3:(t*F y j).natAbs<=(R*E).natAbs:=iL ht (ho.le y cy om j) hR hE;have q4:0<=R*E:=Int.mul_nonneg hR hE;have q5:0<=(R-Q)*E:=Int.mul_nonneg om hE;rw[show(2*R-Q)*E=(R-Q)*E+R*E by rw[<-Int.add_mul];congr 1;omega];omega
   ·show u j-t*F y j=v j
    rw[bD (w:=w) (v:=F y) (hj y cy om),Int.mul_zero,Int.sub_zero];exact ih.cE j hj
  ·have e:bJ w F c (y+1) v=bJ w F c y v:=by
    show(if c<aj w (F y)then _ else _)=_;rw[if_neg (by have:=ha y om om;omega)]
   rw[e];have e0:y+1-a=y-a:=om
   exact⟨fun z h1 h2=>om,fun z h0 h1 h2=>by rw[e0];exact ih.lead z om h1 h2,fun j=>by rw[e0];exact ih.le j,ih.cE⟩
theorem Nf{w k a c:Nat}{F:Nat->aS}{v:aS}(hs:pJ w k F)(ha:∀z,z<a->z<k->aj w (F z)<=c)(hr:∀z,a<=z->z<k->0<=v (aj w (F z))/\v (aj w (F z))<F z (aj w (F z))):∀y,y<=k->bJ w F c y v=v
 |0,_=>rfl
 |y+1,hy=>by
  have ih:=Nf hs ha hr y om;show(if c<aj w (F y)then(fun j=>bJ w F c y v j-bJ w F c y v (aj w (F y)) / F y (aj w (F y))*F y j)else bJ w F c y v)=v;rw[ih];split
  ·rename_i q
   have cy:a<=y:=by rcases Nat.lt_or_ge y a with r|r;have:=ha y r om;omega;exact r
   obtain⟨h1,h2⟩:=hr y cy om;rw[Int.ediv_eq_zero_of_lt h1 h2]
   funext j;omega
  ·rfl
theorem He{w k:Nat}{F:Nat->aS}{c r:Nat}{v:aS}(hr:r<k):∀y,y<=k->(∀z,z<y->c<aj w (F z)->z≠r)->kX w k (put F r (bJ w F c y v)) (put F r v)
 |0,_,_=>.refl _ _ _
 |y+1,hy,ff=>by
  have ih:=He (c:=c) (v:=v) hr y om (fun z hz=>ff z om);by_cases q:c<aj w (F y)
  ·have e:bJ w F c (y+1) v=fun j=>bJ w F c y v j-bJ w F c y v (aj w (F y)) / F y (aj w (F y))*F y j:=by
    show(if c<aj w (F y)then _ else _)=_;rw[if_pos q]
   have ny:=ff y om q;have h:=kX.sub (w:=w) (F:=put F r (bJ w F c y v)) (r:=r) (y:=y) hr om (fun e=>ny e.symm) (bJ w F c y v (aj w (F y)) / F y (aj w (F y)));rw[jx,show put F r (bJ w F c y v) r=bJ w F c y v by unfold put;rw[if_pos rfl],show put F r (bJ w F c y v) y=F y by unfold put;rw[if_neg ny]]at h;rw[e];exact h.trans ih
  ·have e:bJ w F c (y+1) v=bJ w F c y v:=by
    show(if c<aj w (F y)then _ else _)=_;rw[if_neg q]
   rw[e];exact ih
def mf(w:Nat)(F:Nat->aS)(c k:Nat)(v:aS):Prop:=∀y,y<k->c<aj w (F y)->∀j,(bJ w F c y v j).natAbs<=9000000000000000000/\(bJ w F c y v (aj w (F y)) / F y (aj w (F y))*F y j).natAbs<=9000000000000000000/\(bJ w F c (y+1) v j).natAbs<=9000000000000000000
theorem qN{w k a c:Nat}{F:Nat->aS}{E N Q:Int}{v:aS}(hs:pJ w k F)(hE:0<=E)(hN:0<=N)(hQ:0<=Q)(ho:Old w k a F E)(ha:∀z,z<a->z<k->aj w (F z)<=c)(hc:∀z,a<=z->z<k->c<aj w (F z))
  (hv:∀j,(v j).natAbs<=N.natAbs) (hl:∀z,a<=z->z<k->(v (aj w (F z))).natAbs<=(Q*F z (aj w (F z))).natAbs) (hka:k-a<=3) (hb:N+7*(Q*E)<=9000000000000000000):mf w F c k v/\∀j,(bJ w F c k v j).natAbs<=(N+7*(Q*E)).natAbs:=by
 have all:=sP hs hE hN hQ ho ha hc hv hl;have hQE:0<=Q*E:=Int.mul_nonneg hQ hE;have pw:∀y,y<=k->Q<=Q*2 ^ (y-a)/\Q*2 ^ (y-a)<=8*Q:=fun y hy=>by
  have:y-a=0\/y-a=1\/y-a=2\/y-a=3:=om
  rcases this with q|q|q|q<;>rw[q]
  ·rw[Int.pow_zero];omega
  ·rw[show(2:Int) ^ 1=2 from rfl];omega
  ·rw[show(2:Int) ^ 2=4 from rfl];omega
  ·rw[show(2:Int) ^ 3=8 from rfl];omega
 have le:∀y,y<=k->∀j,(bJ w F c y v j).natAbs<=(N+7*(Q*E)).natAbs:=fun y hy j=>by
  have h1:=(all y hy).le j;obtain⟨h2,h3⟩:=pw y hy;have h4:=Int.mul_le_mul_of_nonneg_right (show Q*2 ^ (y-a)-Q<=7*Q by omega) hE;have h5:=Int.mul_nonneg (show 0<=Q*2 ^ (y-a)-Q by omega) hE;rw[Int.mul_assoc]at h4;omega
 refine⟨fun y hy Vk j=>?_,le k (Nat.le_refl _)⟩;have h1:=le y om j;have h2:=le (y+1) om j;refine⟨om,?_,om⟩;have cy:a<=y:=by rcases Nat.lt_or_ge y a with r|r;have:=ha y r hy;omega;exact r
 have L:=hs.pos y hy;have h6:=(all y om).lead y (Nat.le_refl _) cy hy;have h7:=Hc L h6 (by obtain⟨h2,h3⟩:=pw y om;omega);have h8:=(pw y om).1;have h9:Q*2 ^ (y-a)<=4*Q:=by
  have:y-a=0\/y-a=1\/y-a=2:=om
  rcases this with q|q|q<;>rw[q]
  ·rw[Int.pow_zero];omega
  ·rw[show(2:Int) ^ 1=2 from rfl];omega
  ·rw[show(2:Int) ^ 2=4 from rfl];omega
 have Bn:=iL (A:=4*Q) (B:=E) (show(bJ w F c y v (aj w (F y)) / F y (aj w (F y))).natAbs<=_ by omega) (ho.le y cy hy j) om hE;rw[Int.mul_assoc]at Bn;omega
end Go.Proofs.Ytdpbiegfljmhmaa.Ext
namespace Go.Proofs.Ytdpbiegfljmhmaa.Ext
def cb(a:Nat):Int:=3673320192*7 ^ a
theorem xh(a:Nat):cb (a+1)=7*cb a:=by unfold cb;rw[Int.pow_succ];omega
theorem Ng(a:Nat):0<cb a:=by unfold cb;have:(0:Int)<7 ^ a:=Int.pow_pos om;omega
theorem uj{a b:Nat}(h:a<=b):cb a<=cb b:=by
 obtain⟨d,rfl⟩:∃d,b=a+d:=⟨b-a,om⟩;clear h
 induction d with
 |zero=>exact Int.le_refl _
 |succ d ih=>have:=Ng (a+d);rw[show a+(d+1)=a+d+1 by omega,xh];omega
theorem Ql:cb 3=1259948825856:=by decide
theorem Bp{a:Nat}(h:a<=3):cb a<=1259948825856:=by rw[<-Ql];exact uj h
def Pt(f:Nat->Int):Nat->Nat->Int
 |_,0=>1
 |a,n+1=>f a*Pt f (a+1) n
theorem sQ{f:Nat->Int}:∀(n a:Nat),(∀i,a<=i->i<a+n->0<f i)->0<Pt f a n
 |0,_,_=>by show(0:Int)<1;omega
 |n+1,a,h=>Int.mul_pos (h a om om) (sQ n (a+1) (fun i h1 h2=>h i om om))
theorem zx{f g:Nat->Int}:∀(n a:Nat),(∀i,a<=i->i<a+n->f i=g i)->Pt f a n=Pt g a n
 |0,_,_=>rfl
 |n+1,a,h=>by show f a*Pt f (a+1) n=g a*Pt g (a+1) n;rw[h a om om,zx n (a+1) (fun i h1 h2=>h i om om)]
theorem nj{x p:Int}(hx:0<=x)(hp:0<p):x<=x*p:=by
 have:=Int.mul_le_mul_of_nonneg_left (show(1:Int)<=p by omega) hx;omega
theorem CC{f:Nat->Int}{k:Nat}(h:∀i,i<k->0<f i):∀(d a:Nat),a+d<=k->Pt f (a+d) (k-(a+d))<=Pt f a (k-a)
 |0,a,_=>Int.le_refl _
 |d+1,a,hk=>by
  have ih:=CC h d (a+1) om;rw[show a+(d+1)=a+1+d by omega];refine Int.le_trans ih ?_;rw[show k-a=(k-(a+1))+1 by omega];show _<=f a*Pt f (a+1) (k-(a+1));have p:=sQ (f:=f) (k-(a+1)) (a+1) (fun i h1 h2=>h i om);rw[Int.mul_comm];exact nj (Int.le_of_lt p) (h a om)
theorem Nh(f:Nat->Int):∀(n a:Nat),Pt f a (n+1)=Pt f a n*f (a+n)
 |0,a=>by show f a*1=1*f (a+0);rw[Nat.add_zero];omega
 |n+1,a=>by
  show f a*Pt f (a+1) (n+1)=f a*Pt f (a+1) n*f (a+(n+1));rw[Nh f n (a+1),show a+1+n=a+(n+1) by omega,Int.mul_assoc]
theorem EN(f:Nat->Int):∀n,Pt f 0 n=gD f n
 |0=>rfl
 |n+1=>by rw[Nh,EN f n,Nat.zero_add];rfl
def zy(w:Nat)(F:Nat->aS):Nat->Int:=fun z=>F z (aj w (F z))
theorem pJ.parts{w k:Nat}{F:Nat->aS}(h:pJ w k F)(c:Nat):∃a,a<=k/\(∀y,y<a->aj w (F y)<c)/\∀z,a<=z->z<k->c<=aj w (F z):=by
 obtain⟨h1,h2,h3⟩:=h
 induction k with
 |zero=>exact⟨0,Nat.le_refl _,fun y hy=>om,fun z _ hz=>om⟩
 |succ k ih=>
  obtain⟨a,q1,q2,q3⟩:=ih (fun i hi=>h1 i om) (fun i hi=>h2 i om) (fun i j hi hj=>h3 i j hi om);by_cases e:aj w (F k)<c
  ·refine⟨k+1,Nat.le_refl _,fun y hy=>?_,fun z hz hk=>om⟩
   by_cases ey:y=k
   ·rw[ey];exact e
   ·have:=h3 y k om om;omega
  ·refine⟨a,om,q2,fun z hz hk=>?_⟩
   by_cases ez:z=k
   ·rw[ez];omega
   ·exact q3 z hz om
structure jm(w k:Nat)(F:Nat->aS)(v:aS)(F0:Nat->aS):Prop where
 gJ:pJ w k F
 Df:kX w (k+1) (put F k v) F0
 Ko:∀y,y<k->∀j,(F y j).natAbs<=(cb 3).natAbs
 k3:k<=3
 nz:∃d J I,(∀i,i<d->J i<w)/\prod d (rv (k+1) F0 J) (k+1) I≠0
theorem jm.lead{w k:Nat}{F:Nat->aS}{v:aS}{F0:Nat->aS}(b:jm w k F v F0):aj w v<w:=by
 obtain⟨d,J,I,h1,h2⟩:=b.nz;have:=b.Df.ne h1 h2 (r:=k) om;rw[show put F k v k=v by unfold put;rw[if_pos rfl]]at this;exact this
structure Kp(w k a:Nat)(F:Nat->aS)(v:aS)(N Q:Int):Prop where
 ak:a<=k
 lo:∀y,y<a->aj w (F y)<aj w v
 hi:∀z,a<=z->z<k->aj w v<=aj w (F z)
 cE:Old w k a F 13122
 n0:0<=N
 q1:1<=Q
 le:∀j,(v j).natAbs<=N.natAbs
 ld:∀z,a<=z->z<k->(v (aj w (F z))).natAbs<=(Q*F z (aj w (F z))).natAbs
 Ni:(N+7*(Q*13122))*Pt (zy w F) a (k-a)<=cb a
structure Nj(w k a:Nat)(F:Nat->aS)(v:aS)(n m:Int):Prop where
 ak:a<k
 lo:∀y,y<a->aj w (F y)<aj w v
 eq:aj w (F a)=aj w v
 cE:Old w k (a+1) F 13122
 xy:F a (aj w v)<v (aj w v)
 rv:∀z,a<z->z<k->0<=v (aj w (F z))/\v (aj w (F z))<F z (aj w (F z))
 rf:∀z,a<z->z<k->0<=F a (aj w (F z))/\F a (aj w (F z))<F z (aj w (F z))
 vn:∀j,((v j).natAbs:Int)+91854<=n
 fm:∀j,((F a j).natAbs:Int)+91854<=m
 Ni:(n*F a (aj w v)+m*v (aj w v))*Pt (zy w F) (a+1) (k-(a+1))<=7*cb a
theorem gE{F:Nat->aS}{k:Nat}(v:aS):put F k v k=v:=by unfold put;rw[if_pos rfl]
theorem gf{F:Nat->aS}{k i:Nat}(v:aS)(h:i≠k):put F k v i=F i:=by unfold put;rw[if_neg h]
theorem jm.low{w k:Nat}{F:Nat->aS}{v:aS}{F0:Nat->aS}(b:jm w k F v F0)(c:Nat):jm w k F (bJ w F c k v) F0:=
 ⟨b.gJ,by
  have h:=He (w:=w) (k:=k+1) (F:=F) (c:=c) (v:=v) (r:=k) om k om (fun z hz _=>om);exact h.trans b.Df,b.Ko,b.k3,b.nz⟩
theorem jm.take{w k a:Nat}{F:Nat->aS}{v:aS}{F0:Nat->aS}(b:jm w k F v F0)(ha:a<k)(q:Int):jm w k F (fun j=>v j-q*F a j) F0:=
 ⟨b.gJ,by
  have h:=kX.sub (w:=w) (k:=k+1) (F:=put F k v) (r:=k) (y:=a) om om om q;rw[jx,gE,gf v om]at h;exact h.trans b.Df,b.Ko,b.k3,b.nz⟩
theorem IT{w k a:Nat}{F:Nat->aS}{v:aS}{F0:Nat->aS}{N Q:Int}(b:jm w k F v F0)(ha:a<k)(ho:Old w k (a+1) F 13122)(hz:∀j,j<=aj w (F a)->v j=0)(hN:0<=N)(hQ:1<=Q)(le:∀j,(v j).natAbs<=N.natAbs)
  (ld:∀z,a<z->z<k->(v (aj w (F z))).natAbs<=(Q*F z (aj w (F z))).natAbs) (Ni:(N+7*(Q*13122))*Pt (zy w F) (a+1) (k-(a+1))<=7*cb a):aj w (F a)<aj w v/\∃a',Kp w k a' F v N Q:=by
 have hc:aj w (F a)<aj w v:=by
  rcases Nat.lt_or_ge (aj w (F a)) (aj w v)with q|q
  ·exact q
  ·exact absurd (hz _ q) (lU b.lead)
 refine⟨hc,?_⟩;obtain⟨a',p1,p2,p3⟩:=b.gJ.parts (aj w v);have haa:a+1<=a':=by
  rcases Nat.lt_or_ge a a' with q|q
  ·exact q
  ·have:=p3 a q ha;omega
 have hL:∀i,i<k->0<zy w F i:=fun i hi=>b.gJ.pos i hi
 obtain⟨d,rfl⟩:∃d,a'=a+1+d:=⟨a'-(a+1),om⟩;have h1:=CC hL d (a+1) p1;have h2:0<=N+7*(Q*13122):=om
 have h3:=Int.mul_le_mul_of_nonneg_left h1 h2;have h4:=uj (a:=a+1) (b:=a+1+d) om;rw[xh]at h4;exact⟨a+1+d,p1,p2,p3,ho.Nc om,hN,hQ,le,fun z h1 h2=>ld z om h2,om⟩
theorem Nk{w k a:Nat}{F:Nat->aS}{u:aS}{F0:Nat->aS}{n m:Int}(b:jm w k F u F0)(ha:a<k)(ho:Old w k (a+1) F 13122)(hz:∀j,j<aj w (F a)->u j=0)(hx:0<u (aj w (F a))/\u (aj w (F a))<F a (aj w (F a)))
  (ru:∀z,a<z->z<k->0<=u (aj w (F z))/\u (aj w (F z))<F z (aj w (F z))) (rf:∀z,a<z->z<k->0<=F a (aj w (F z))/\F a (aj w (F z))<F z (aj w (F z)))
  (un:∀j,((u j).natAbs:Int)+91854<=m) (fn:∀j,((F a j).natAbs:Int)+91854<=n) (hm:m<=cb 3)
  (Ni:(n*u (aj w (F a))+m*F a (aj w (F a)))*Pt (zy w F) (a+1) (k-(a+1))<=7*cb a):aj w u=aj w (F a)/\jm w k (put F a u) (F a) F0/\Nj w k a (put F a u) (F a) n m:=by
 have hlw:=b.gJ.lt a ha;have hl:aj w u=aj w (F a):=iI om hz (fun _=>om);have La:=gE (F:=F) (k:=a) u;have FO:∀i,i≠a->put F a u i=F i:=fun i hi=>gf u hi
 have hle:∀i,aj w (put F a u i)=aj w (F i):=fun i=>by
  by_cases e:i=a
  ·rw[e,La,hl]
  ·rw[FO i e]
 have uW:pJ w k (put F a u):=by
  refine⟨fun i hi=>by rw[hle];exact b.gJ.lt i hi,fun i hi=>?_,fun i j h1 h2=>by rw[hle,hle];exact b.gJ.inc i j h1 h2⟩;rw[hle];by_cases e:i=a
  ·rw[e,La];exact hx.1
  ·rw[FO i e];exact b.gJ.pos i hi
 have hpt:Pt (zy w (put F a u)) (a+1) (k-(a+1))=Pt (zy w F) (a+1) (k-(a+1)):=zx _ _ (fun i h1 h2=>by unfold zy;rw[FO i om]);refine⟨hl,⟨uW,?_,fun y hy j=>?_,b.k3,b.nz⟩,⟨ha,fun y hy=>?_,by rw[La];exact hl,⟨fun z h1 h2 j=>?_,fun y z h1 h2 h3=>?_⟩,?_,fun z h1 h2=>?_,fun z h1 h2=>?_,fn,fun j=>by rw[La];exact un j,?_⟩⟩
 ·have h:=kX.swap (w:=w) (k:=k+1) (F:=put F k u) (a:=a) (b:=k) om om
  have e:Pd (put F k u) a k=put (put F a u) k (F a):=by
   unfold Pd;rw[gE,gf u om,oC (show k≠a by omega),jx]
  rw[e]at h;exact h.trans b.Df
 ·by_cases e:y=a
  ·rw[e,La];have:=un j;have:=Ng 3;omega
  ·rw[FO y e];exact b.Ko y hy j
 ·rw[FO y om];exact b.gJ.inc y a hy ha
 ·rw[FO z om];exact ho.le z h1 h2 j
 ·rw[FO y om,FO z om];exact ho.red y z h1 h2 h3
 ·rw[La];exact hx.2
 ·rw[FO z om];exact rf z h1 h2
 ·rw[La,FO z om];exact ru z h1 h2
 ·rw[La,hpt];exact Ni
def Next(w k:Nat)(F0 F:Nat->aS)(a:Nat)(u2:aS):Prop:=
 (u2 (aj w (F a))=0/\aj w (F a)<aj w u2/\jm w k F u2 F0/\∃a' N Q,Kp w k a' F u2 N Q) \/
 (u2 (aj w (F a))≠0/\aj w u2=aj w (F a)/\mf w F (aj w (F a)) k u2/\aj w (bJ w F (aj w (F a)) k u2)=aj w (F a)/\bJ w F (aj w (F a)) k u2 (aj w (F a))<F a (aj w (F a))/\jm w k (put F a (bJ w F (aj w (F a)) k u2)) (F a) F0/\∃n m,Nj w k a (put F a (bJ w F (aj w (F a)) k u2)) (F a) n m)
theorem vZ{x y:Int}(hy:0<y):0<=x-x / y*y/\x-x / y*y<y:=by
 have q1:=Int.emod_nonneg x (show y≠0 by omega);have q2:=Int.emod_lt_of_pos x hy;have q3:=Int.emod_add_mul_ediv x y;rw[Int.mul_comm]at q3;omega
end Go.Proofs.Ytdpbiegfljmhmaa.Ext
namespace Go.Proofs.Ytdpbiegfljmhmaa.Ext
theorem Kp.top{w k a:Nat}{F:Nat->aS}{v:aS}{F0:Nat->aS}{N Q:Int}(b:jm w k F v F0)(h:Kp w k a F v N Q):N+7*(Q*13122)<=cb a:=by
 have p:=sQ (f:=zy w F) (k-a) a (fun i h1 h2=>b.gJ.pos i om);have:=h.Ni;have h2:=h.n0;have h3:=h.q1;have:=nj (show 0<=N+7*(Q*13122) by omega) p;omega
theorem Kp.low{w k a:Nat}{F:Nat->aS}{v:aS}{F0:Nat->aS}{N Q:Int}(b:jm w k F v F0)(h:Kp w k a F v N Q) :
  mf w F (aj w v) k v/\(∀j,(bJ w F (aj w v) k v j).natAbs<=(N+7*(Q*13122)).natAbs)/\(∀j,j<=aj w v->bJ w F (aj w v) k v j=v j)/\∀z,a<=z->z<k->aj w v<aj w (F z)->0<=bJ w F (aj w v) k v (aj w (F z))/\bJ w F (aj w v) k v (aj w (F z))<F z (aj w (F z)):=by
 have Xd:=h.top b;have hn:=h.n0;have hq:=h.q1;have hk:=b.k3;have key:∀a1,a<=a1->a1<=a+1->a1<=k->(∀z,z<a1->z<k->aj w (F z)<=aj w v)->(∀z,a1<=z->z<k->aj w v<aj w (F z))->mf w F (aj w v) k v/\(∀j,(bJ w F (aj w v) k v j).natAbs<=(N+7*(Q*13122)).natAbs)/\(∀j,j<=aj w v->bJ w F (aj w v) k v j=v j)/\∀z,a1<=z->z<k->0<=bJ w F (aj w v) k v (aj w (F z))/\bJ w F (aj w v) k v (aj w (F z))<F z (aj w (F z)):=by
  intro a1 h1 h2 h3 lo hi;have ho:=h.cE.Nc h1;have YU:∀z,a1<=z->z<k->(v (aj w (F z))).natAbs<=(Q*F z (aj w (F z))).natAbs:=fun z q1 q2=>h.ld z om q2
  obtain⟨s1,s2⟩:=qN b.gJ (E:=13122) om hn om ho lo hi h.le YU om (by have:=Bp (a:=a) (by have:=h.ak;omega);omega);have s3:=sP b.gJ (E:=13122) om hn om ho lo hi h.le YU k (Nat.le_refl _);exact⟨s1,s2,fun j hj=>s3.cE j (fun z q1 q2=>by have:=hi z q1 q2;omega),s3.red⟩
 by_cases c:a<k/\aj w (F a)=aj w v
 ·obtain⟨r1,r2,r3,r4⟩:=key (a+1) om om om (fun z q1 q2=>by
   by_cases e:z=a
   ·rw[e];omega
   ·have:=h.lo z om;omega) (fun z q1 q2=>by have:=b.gJ.inc a z om q2;omega)
  exact⟨r1,r2,r3,fun z q1 q2 q3=>r4 z (by
   rcases Nat.lt_or_ge a z with q|q
   ·omega
   ·have:z=a:=om
    subst this;omega) q2⟩
 ·obtain⟨r1,r2,r3,r4⟩:=key a om om h.ak (fun z q1 q2=>by have:=h.lo z q1;omega) (fun z q1 q2=>by
   have h1:=h.hi z q1 q2;by_cases e:aj w (F z)=aj w v
   ·exfalso
    by_cases ez:z=a
    ·subst ez;exact c ⟨q2,e⟩
    ·have:=b.gJ.inc a z om q2;have:=h.hi a om om;omega
   ·omega)
  exact⟨r1,r2,r3,fun z q1 q2 _=>r4 z q1 q2⟩
theorem Qm{w k a:Nat}{F:Nat->aS}{v:aS}{F0:Nat->aS}{N Q:Int}(b:jm w k F v F0)(h:Kp w k a F v N Q)(ha:a<k)(he:aj w (F a)=aj w v){u:aS}(eu:u=bJ w F (aj w v) k v){q:Int}(eq:q=u (aj w v) / F a (aj w v)) :
  (∀j,(q*F a j).natAbs<=9000000000000000000/\(u j-q*F a j).natAbs<=9000000000000000000)/\Next w k F0 F a (fun j=>u j-q*F a j):=by
 obtain⟨l1,l2,l3,l4⟩:=h.low b;have bu:=b.low (aj w v);have Xd:=h.top b;have hn:=h.n0;have hq:=h.q1;have hk:=b.k3;have hcb:=Bp (a:=a) om;rw[<-eu]at l2 l3 l4 bu;rw[<-he]at l3 l4 eq;have hL:=b.gJ.pos a ha;have luc:u (aj w (F a))=v (aj w (F a)):=l3 _ (Nat.le_refl _);have hqQ:q.natAbs<=Q.natAbs:=by
  rw[eq,luc];exact Hc hL (h.ld a om ha) om
 obtain⟨QE,Vm⟩:∃z,z=Q*13122:=⟨_,rfl⟩;rw[<-Vm]at Xd l2;have hQE:13122<=QE:=om
 have Vn:∀j,(q*F a j).natAbs<=QE.natAbs:=fun j=>by rw[Vm];exact iL hqQ (h.cE.le a (Nat.le_refl _) ha j) om om
 refine⟨fun j=>⟨by have:=Vn j;omega,by have:=Vn j;have:=l2 j;omega⟩,?_⟩;have b2:=bu.take ha q;have JH:∀j,(u j-q*F a j).natAbs<=(N+8*QE).natAbs:=fun j=>by have:=Vn j;have:=l2 j;omega
 have wV:∀j,j<aj w (F a)->u j-q*F a j=0:=fun j hj=>by
  rw[l3 j om,bD (w:=w) (v:=v) om,bD hj];omega
 have AF:∀z,a<z->z<k->((u (aj w (F z))-q*F a (aj w (F z))).natAbs<=((Q+1)*F z (aj w (F z))).natAbs):=fun z z1 z2=>by
  obtain⟨r1,r2⟩:=l4 z om z2 (b.gJ.inc a z z1 z2);obtain⟨r3,r4⟩:=h.cE.red a z (Nat.le_refl _) z1 z2;have r5:=iL hqQ (show(F a (aj w (F z))).natAbs<=(F z (aj w (F z))).natAbs by omega) om om;have r6:0<=Q*F z (aj w (F z)):=Int.mul_nonneg om om;rw[Int.add_mul,Int.one_mul];omega
 have ho:=h.cE.Nc (a':=a+1) om;obtain⟨x1,x2⟩:=vZ (x:=u (aj w (F a))) hL;rw[<-eq]at x1 x2;have AG:=h.Ni;rw[<-Vm,show k-a=(k-(a+1))+1 by omega]at AG;have AG:(N+7*QE)*(F a (aj w (F a))*Pt (zy w F) (a+1) (k-(a+1)))<=cb a:=AG;have hP:=sQ (f:=zy w F) (k-(a+1)) (a+1) (fun i h1 h2=>b.gJ.pos i om);generalize Xe:Pt (zy w F) (a+1) (k-(a+1))=P at AG hP;have hT:0<=N+7*QE:=om
 have bud1:(N+7*QE)*P<=cb a:=by
  refine Int.le_trans ?_ AG;refine Int.mul_le_mul_of_nonneg_left ?_ hT;rw[Int.mul_comm];exact nj (Int.le_of_lt hP) hL
 by_cases c0:u (aj w (F a))-q*F a (aj w (F a))=0
 ·left
  have fin:=IT b2 ha ho (N:=N+8*QE) (Q:=Q+1) (fun j hj=>by
   by_cases e:j=aj w (F a)
   ·rw[e];exact c0
   ·exact wV j om) om om JH AF (by
   rw[Xe,show N+8*QE+7*((Q+1)*13122)=N+15*QE+91854 by rw[Vm];omega];have:=Int.mul_le_mul_of_nonneg_right (show N+15*QE+91854<=7*(N+7*QE) by omega) (Int.le_of_lt hP);rw[Int.mul_assoc]at this;omega)
  obtain⟨f1,a',f2⟩:=fin;exact⟨c0,f1,b2,a',_,_,f2⟩
 ·right
  have hx:0<u (aj w (F a))-q*F a (aj w (F a)):=om
  have BM:aj w (fun j=>u j-q*F a j)=aj w (F a):=iI (Nat.le_of_lt (b.gJ.lt a ha)) wV (fun _=>by show u (aj w (F a))-q*F a (aj w (F a))≠0;omega);have lo:∀z,z<a+1->z<k->aj w (F z)<=aj w (F a):=fun z z1 z2=>by
   by_cases e:z=a
   ·rw[e];omega
   ·have:=b.gJ.inc z a om ha;omega
  have hi:∀z,a+1<=z->z<k->aj w (F a)<aj w (F z):=fun z z1 z2=>b.gJ.inc a z om z2
  have s1:=qN b.gJ (E:=13122) (N:=N+8*QE) (Q:=Q+1) (v:=fun j=>u j-q*F a j) om om om ho lo hi JH (fun z z1 z2=>AF z om z2) om (by rw[show(Q+1)*13122=QE+13122 by rw[Vm];omega];omega);have s2:=sP b.gJ (E:=13122) (N:=N+8*QE) (Q:=Q+1) (v:=fun j=>u j-q*F a j) om om om ho lo hi JH (fun z z1 z2=>AF z om z2) k (Nat.le_refl _);obtain⟨s1,s3⟩:=s1;have b3:=b2.low (aj w (F a));have e3:∀j,j<=aj w (F a)->bJ w F (aj w (F a)) k (fun j=>u j-q*F a j) j=u j-q*F a j:=fun j hj=>s2.cE j (fun z z1 z2=>by have:=hi z z1 z2;omega)
  have r3:=s2.red;generalize bJ w F (aj w (F a)) k (fun j=>u j-q*F a j)=u3 at *;have ec:u3 (aj w (F a))=u (aj w (F a))-q*F a (aj w (F a)):=e3 _ (Nat.le_refl _);have hm:N+29*QE<=cb 3:=by
   have h4:=uj (a:=a+1) (b:=3) om;rw[xh]at h4;omega
  obtain⟨m1,m2,m3⟩:=Nk b3 ha ho (n:=104976) (m:=N+29*QE) (fun j hj=>by rw[e3 j om];exact wV j hj) (by rw[ec];exact⟨hx,x2⟩) (fun z z1 z2=>r3 z om z2) (fun z z1 z2=>h.cE.red a z (Nat.le_refl _) z1 z2)
   (fun j=>by have:=s3 j;rw[show(Q+1)*13122=QE+13122 by rw[Vm];omega]at this;omega) (fun j=>by have:=h.cE.le a (Nat.le_refl _) ha j;omega) hm (by
   rw[Xe,ec];generalize u (aj w (F a))-q*F a (aj w (F a))=x at *;generalize hy:F a (aj w (F a))=y at *;have q1:104976*x+(N+29*QE)*y<=7*(N+7*QE)*y:=by
    have h1:=Int.mul_le_mul_of_nonneg_right (show 104976+(N+29*QE)<=7*(N+7*QE) by omega) (Int.le_of_lt hL);rw[Int.add_mul]at h1;omega
   have q2:=Int.mul_le_mul_of_nonneg_right q1 (Int.le_of_lt hP);refine Int.le_trans q2 ?_;rw[Int.mul_assoc,Int.mul_assoc];omega)
  exact⟨c0,BM,s1,m1,by rw[ec];exact x2,m2,_,_,m3⟩
theorem Nj.y0{w k a:Nat}{F:Nat->aS}{v:aS}{F0:Nat->aS}{n m:Int}(b:jm w k F v F0)(h:Nj w k a F v n m):0<F a (aj w v):=by have:=b.gJ.pos a h.ak;rw[h.eq]at this;exact this
theorem Nj.low{w k a:Nat}{F:Nat->aS}{v:aS}{F0:Nat->aS}{n m:Int}(b:jm w k F v F0)(h:Nj w k a F v n m):(∀y,y<=k->bJ w F (aj w v) y v=v)/\mf w F (aj w v) k v:=by
 have lo:∀z,z<a+1->z<k->aj w (F z)<=aj w v:=fun z z1 z2=>by
  by_cases e:z=a
  ·rw[e,h.eq];omega
  ·have:=h.lo z om;omega
 have id:=Nf (c:=aj w v) b.gJ lo (fun z z1 z2=>h.rv z om z2);refine⟨id,fun y hy hc j=>?_⟩;rw[id y om,id (y+1) om];have cy:a<y:=by
  rcases Nat.lt_or_ge a y with q|q
  ·exact q
  ·have:=lo y om hy;omega
 obtain⟨r1,r2⟩:=h.rv y cy hy;have hv:=h.vn j;have hP:=sQ (f:=zy w F) (k-(a+1)) (a+1) (fun i h1 h2=>b.gJ.pos i om);have Pm:=h.y0 b;have hx:=h.xy;have hn:0<=n:=by have:=h.vn 0;omega
 have hm:0<=m:=by have:=h.fm 0;omega
 have b1:=h.Ni;have b2:0<=n*F a (aj w v):=Int.mul_nonneg hn om;have b3:0<=m*v (aj w v):=Int.mul_nonneg hm om;have b4:=nj (show 0<=n*F a (aj w v)+m*v (aj w v) by omega) hP;have b5:=nj hn Pm;have hak:=h.ak;have hk:=b.k3;have b6:=Bp (a:=a) om;rw[Int.ediv_eq_zero_of_lt r1 r2,Int.zero_mul];omega
theorem Qn{w k a:Nat}{F:Nat->aS}{v:aS}{F0:Nat->aS}{n m:Int}(b:jm w k F v F0)(h:Nj w k a F v n m){q:Int}(eq:q=v (aj w v) / F a (aj w v)) :
  (∀j,(q*F a j).natAbs<=9000000000000000000/\(v j-q*F a j).natAbs<=9000000000000000000)/\Next w k F0 F a (fun j=>v j-q*F a j):=by
 have ha:=h.ak;have hk:=b.k3;have he:=h.eq;have hxy:=h.xy;have AG:=h.Ni;rw[<-he]at eq hxy AG;have hL:=b.gJ.pos a ha;have hn:91854<=n:=by have:=h.vn 0;omega
 have hm:91854<=m:=by have:=h.fm 0;omega
 have hP:=sQ (f:=zy w F) (k-(a+1)) (a+1) (fun i h1 h2=>b.gJ.pos i om);generalize Xe:Pt (zy w F) (a+1) (k-(a+1))=P at AG hP;obtain⟨x1,x2⟩:=vZ (x:=v (aj w (F a))) hL;rw[<-eq]at x1 x2;have Nl:1<=q:=by
  rcases Int.lt_or_le q 1 with c|c
  ·have:=Int.mul_le_mul_of_nonneg_right (show q<=0 by omega) (Int.le_of_lt hL);omega
  ·exact c
 have hqm:q*m<=m*v (aj w (F a)):=by
  rw[Int.mul_comm];refine Int.mul_le_mul_of_nonneg_left ?_ om;have:=nj (show 0<=q by omega) hL;omega
 have Y9:n+q*m<=n*F a (aj w (F a))+m*v (aj w (F a)):=by have:=nj (show 0<=n by omega) hL;omega
 have hqm0:91854<=q*m:=by
  have:=Int.mul_le_mul_of_nonneg_right Nl (show 0<=m by omega);omega
 have Jz:(n+q*m)*P<=7*cb a:=Int.le_trans (Int.mul_le_mul_of_nonneg_right Y9 (Int.le_of_lt hP)) AG;have aah:n+q*m<=7*cb a:=Int.le_trans (nj om hP) Jz;have h3:7*cb a<=cb 3:=by rw[<-xh];exact uj om
 have h3n:=Ql;have Vn:∀j,(q*F a j).natAbs+91854*q<=q*m:=fun j=>by
  rw[Int.natAbs_mul];have:=h.fm j;have h1:=Int.mul_le_mul_of_nonneg_left this (show 0<=q by omega);rw[Int.mul_add]at h1;have:((q.natAbs*(F a j).natAbs:Nat):Int)=q*((F a j).natAbs:Int):=by
   rw[Int.natCast_mul];congr 1;omega
  omega
 have JH:∀j,(v j-q*F a j).natAbs+91854+91854*q<=n+q*m:=fun j=>by have:=Vn j;have:=h.vn j;omega
 refine⟨fun j=>⟨by have:=Vn j;omega,by have:=JH j;omega⟩,?_⟩;have b2:=b.take ha q;have wV:∀j,j<aj w (F a)->v j-q*F a j=0:=fun j hj=>by
  rw[bD (w:=w) (v:=v) om,bD hj];omega
 have AF:∀z,a<z->z<k->((v (aj w (F z))-q*F a (aj w (F z))).natAbs<=(q*F z (aj w (F z))).natAbs):=fun z z1 z2=>by
  obtain⟨r1,r2⟩:=h.rv z z1 z2;obtain⟨r3,r4⟩:=h.rf z z1 z2;have r5:=Int.mul_le_mul_of_nonneg_left (Int.le_of_lt r4) (show 0<=q by omega);have r6:=Int.mul_nonneg (show 0<=q by omega) r3;have r7:=Int.mul_le_mul_of_nonneg_right Nl (show 0<=F z (aj w (F z)) by omega);omega
 have hN:(n+q*m-91854-91854*q)+7*(q*13122)<=n+q*m:=om
 have U7:0<=n+q*m-91854-91854*q:=by have:=JH 0;omega
 by_cases c0:v (aj w (F a))-q*F a (aj w (F a))=0
 ·left
  obtain⟨f1,a',f2⟩:=IT b2 ha h.cE (N:=n+q*m-91854-91854*q) (Q:=q) (fun j hj=>by
   by_cases e:j=aj w (F a)
   ·rw[e];exact c0
   ·exact wV j om) U7 Nl (fun j=>by have:=JH j;omega) AF (by
   rw[Xe];exact Int.le_trans (Int.mul_le_mul_of_nonneg_right hN (Int.le_of_lt hP)) Jz)
  exact⟨c0,f1,b2,a',_,_,f2⟩
 ·right
  have hx:0<v (aj w (F a))-q*F a (aj w (F a)):=om
  have BM:aj w (fun j=>v j-q*F a j)=aj w (F a):=iI (Nat.le_of_lt (b.gJ.lt a ha)) wV (fun _=>by show v (aj w (F a))-q*F a (aj w (F a))≠0;omega);have lo:∀z,z<a+1->z<k->aj w (F z)<=aj w (F a):=fun z z1 z2=>by
   by_cases e:z=a
   ·rw[e];omega
   ·have:=b.gJ.inc z a om ha;omega
  have hi:∀z,a+1<=z->z<k->aj w (F a)<aj w (F z):=fun z z1 z2=>b.gJ.inc a z om z2
  obtain⟨s1,s3⟩:=qN b.gJ (E:=13122) (N:=n+q*m-91854-91854*q) (Q:=q) (v:=fun j=>v j-q*F a j) om U7 om h.cE lo hi (fun j=>by have:=JH j;omega) (fun z z1 z2=>AF z om z2) om om;have s2:=sP b.gJ (E:=13122) (N:=n+q*m-91854-91854*q) (Q:=q) (v:=fun j=>v j-q*F a j) om U7 om h.cE lo hi (fun j=>by have:=JH j;omega) (fun z z1 z2=>AF z om z2) k (Nat.le_refl _);have b3:=b2.low (aj w (F a));have e3:∀j,j<=aj w (F a)->bJ w F (aj w (F a)) k (fun j=>v j-q*F a j) j=v j-q*F a j:=fun j hj=>s2.cE j (fun z z1 z2=>by have:=hi z z1 z2;omega)
  have r3:=s2.red;generalize bJ w F (aj w (F a)) k (fun j=>v j-q*F a j)=u3 at *;have ec:u3 (aj w (F a))=v (aj w (F a))-q*F a (aj w (F a)):=e3 _ (Nat.le_refl _);obtain⟨m1,m2,m3⟩:=Nk b3 ha h.cE (n:=m) (m:=n+q*m) (fun j hj=>by rw[e3 j om];exact wV j hj) (by rw[ec];exact⟨hx,x2⟩) (fun z z1 z2=>r3 z om z2) h.rf
   (fun j=>by have:=s3 j;omega) h.fm om (by
   rw[Xe,ec];have e:m*(v (aj w (F a))-q*F a (aj w (F a)))+(n+q*m)*F a (aj w (F a))=n*F a (aj w (F a))+m*v (aj w (F a)):=by
    rw[Int.mul_sub,Int.add_mul,<-Int.mul_assoc,Int.mul_comm m q];omega
   rw[e];exact AG)
  exact⟨c0,BM,s1,m1,by rw[ec];exact x2,m2,_,_,m3⟩
end Go.Proofs.Ytdpbiegfljmhmaa.Ext
namespace Go.Proofs.Ytdpbiegfljmhmaa.Ext
def jY(F:Nat->aS)(a:Nat)(v:aS):Nat->aS:=fun y=>if y<a then F y else if y=a then v else F (y-1)
theorem zA{F:Nat->aS}{a y:Nat}(v:aS)(h:y<a):jY F a v y=F y:=by unfold jY;rw[if_pos h]
theorem CD{F:Nat->aS}{a:Nat}(v:aS):jY F a v a=v:=by unfold jY;rw[if_neg om,if_pos rfl]
theorem CE{F:Nat->aS}{a y:Nat}(v:aS)(h:a<y):jY F a v y=F (y-1):=by unfold jY;rw[if_neg om,if_neg om]
theorem IU{w:Nat}{F:Nat->aS}{v:aS}:∀(d a k:Nat),a+d=k->kX w (k+1) (jY F a v) (put F k v)
 |0,a,k,h=>by
  obtain rfl:a=k:=om
  refine .of_eq (fun i hi=>?_);unfold put;by_cases c:i=a
  ·rw[if_pos c,c,CD]
  ·rw[if_neg c,zA v om]
 |d+1,a,k,h=>by
  have ih:=IU (w:=w) (F:=F) (v:=v) d (a+1) k om;have hs:=kX.swap (w:=w) (k:=k+1) (F:=jY F (a+1) v) (a:=a) (b:=a+1) om om;refine kX.trans (.of_eq (fun i hi=>?_)) (hs.trans ih);show jY F a v i=if i=a+1 then jY F (a+1) v a else if i=a then jY F (a+1) v (a+1)else jY F (a+1) v i
  by_cases c1:i=a+1
  ·rw[if_pos c1,c1,CE v om,zA v om];rfl
  ·rw[if_neg c1]
   by_cases c2:i=a
   ·rw[if_pos c2,c2,CD,CD]
   ·rw[if_neg c2]
    by_cases c3:i<a
    ·rw[zA v c3,zA v om]
    ·rw[CE v om,CE v om]
structure sR(w K i:Nat)(F F0:Nat->aS):Prop where
 gJ:pJ w K F
 Df:kX w K F F0
 Ko:∀y,y<K->∀j,(F y j).natAbs<=1259949000000
 red:∀y z,i<=y->y<z->z<K->0<=F y (aj w (F z))/\F y (aj w (F z))<F z (aj w (F z))
 k4:K<=4
 hM:∀i,i<K->∀j,(F0 i j).natAbs<=9
theorem Qo{K:Nat}(h:K<=4):K*(tG K K*9 ^ K)<=629856:=by
 have:K=0\/K=1\/K=2\/K=3\/K=4:=om
 rcases this with rfl|rfl|rfl|rfl|rfl<;>decide
theorem pJ.small{w K z:Nat}{F F0:Nat->aS}(s:pJ w K F)(l:kX w K F F0)(hM:∀i,i<K->∀j,(F0 i j).natAbs<=9)(k4:K<=4)(hz:z<K)(hr:∀m,z<m->m<K->0<=F z (aj w (F m))/\F z (aj w (F m))<F m (aj w (F m)))(j:Nat):(F z j).natAbs<=629856:=
 Nat.le_trans (kX.bound s l hM hz (fun m hm=>by
  rcases Nat.lt_trichotomy m z with q|q|q
  ·rw[bD (w:=w) (v:=F z) (s.inc m z q hz)];exact Nat.zero_le _
  ·rw[q];exact Nat.le_refl _
  ·have:=hr m q hm;omega) j) (Qo k4)
theorem sR.cE{w K i:Nat}{F F0:Nat->aS}(f:sR w K (i+1) F F0):Old w K (i+1) F 629856:=
 ⟨fun z h1 h2 j=>f.gJ.small f.Df f.hM f.k4 h2 (fun m q1 q2=>f.red z m h1 q1 q2) j,fun y z h1 h2 h3=>f.red y z h1 h2 h3⟩
theorem sR.step{w K i:Nat}{F F0:Nat->aS}(f:sR w K (i+1) F F0)(hi:i<K):mf w F (aj w (F i)) K (F i)/\sR w K i (put F i (bJ w F (aj w (F i)) K (F i))) F0:=by
 have ho:=f.cE;have lo:∀z,z<i+1->z<K->aj w (F z)<=aj w (F i):=fun z z1 z2=>by
  by_cases e:z=i
  ·rw[e];omega
  ·have:=f.gJ.inc z i om hi;omega
 have hic:∀z,i+1<=z->z<K->aj w (F i)<aj w (F z):=fun z z1 z2=>f.gJ.inc i z om z2
 have hv:∀j,(F i j).natAbs<=(1259949000000:Int).natAbs:=fun j=>f.Ko i hi j
 have hl:∀z,i+1<=z->z<K->(F i (aj w (F z))).natAbs<=(1259949000000*F z (aj w (F z))).natAbs:=fun z z1 z2=>by
  have:=f.gJ.pos z z2;have:=f.Ko i hi (aj w (F z));omega
 have k4:=f.k4;obtain⟨s1,_⟩:=qN f.gJ (E:=629856) (N:=1259949000000) (Q:=1259949000000) om om om ho lo hic hv hl om om;have s2:=sP f.gJ (E:=629856) (N:=1259949000000) (Q:=1259949000000) om om om ho lo hic hv hl K (Nat.le_refl _);refine⟨s1,?_⟩;have Xf:=He (w:=w) (k:=K) (F:=F) (c:=aj w (F i)) (v:=F i) hi K (Nat.le_refl _) (fun z _ hz e=>by rw[e]at hz;omega);rw[jw]at Xf;have e3:∀j,j<=aj w (F i)->bJ w F (aj w (F i)) K (F i) j=F i j:=fun j hj=>s2.cE j (fun z z1 z2=>by have:=hic z z1 z2;omega)
 have r3:=s2.red;generalize bJ w F (aj w (F i)) K (F i)=u at *;have La:=gE (F:=F) (k:=i) u;have FO:∀y,y≠i->put F i u y=F y:=fun y hy=>gf u hy
 have Xg:aj w u=aj w (F i):=iI (nH _ _) (fun j hj=>by rw[e3 j om];exact bD hj) (fun q=>by rw[e3 _ (Nat.le_refl _)];exact lU q);have hle:∀y,aj w (put F i u y)=aj w (F y):=fun y=>by
  by_cases e:y=i
  ·rw[e,La,Xg]
  ·rw[FO y e]
 have uW:pJ w K (put F i u):=⟨fun y hy=>by rw[hle];exact f.gJ.lt y hy,fun y hy=>by
  rw[hle];by_cases e:y=i
  ·rw[e,La,e3 _ (Nat.le_refl _)];exact f.gJ.pos i hi
  ·rw[FO y e];exact f.gJ.pos y hy,fun y z h1 h2=>by rw[hle,hle];exact f.gJ.inc y z h1 h2⟩
 have AF:∀y z,i<=y->y<z->z<K->0<=put F i u y (aj w (put F i u z))/\put F i u y (aj w (put F i u z))<put F i u z (aj w (put F i u z)):=fun y z h1 h2 h3=>by
  rw[hle,FO z om];by_cases e:y=i
  ·rw[e,La];exact r3 z om h3
  ·rw[FO y e];exact f.red y z om h2 h3
 have BM:=Xf.trans f.Df;refine⟨uW,BM,fun y hy j=>?_,AF,f.k4,f.hM⟩;by_cases e:y=i
 ·have:=uW.small BM f.hM f.k4 hy (fun m q1 q2=>AF y m om q1 q2) j
  omega
 ·rw[FO y e];exact f.Ko y hy j
theorem sR.Qp{w K:Nat}{F F0:Nat->aS}(f:sR w K 0 F F0):GC w K F:=⟨f.gJ.lt,f.gJ.pos,f.gJ.inc,fun y z h1 h2=>f.red y z (Nat.zero_le _) h1 h2⟩
theorem GC.small{w K:Nat}{F F0:Nat->aS}(h:GC w K F)(l:kX w K F F0)(hM:∀i,i<K->∀j,(F0 i j).natAbs<=9)(k4:K<=4){i:Nat}(hi:i<K)(j:Nat):(F i j).natAbs<=629856:=
 h.gJ.small l hM k4 hi (fun m q1 q2=>h.red i m q1 q2) j
theorem zB{w k a:Nat}{F:Nat->aS}{u:aS}{F0:Nat->aS}(b:jm w k F u F0)(hM:∀i,i<k+1->∀j,(F0 i j).natAbs<=9)(ak:a<=k)(lo:∀y,y<a->aj w (F y)<aj w u)(hi:∀z,a<=z->z<k->aj w u<aj w (F z))(hp:0<u (aj w u))(hu:∀j,(u j).natAbs<=1259949000000):sR w (k+1) (k+1) (jY F a u) F0:=by
 have v1:∀y,y<a->jY F a u y=F y:=fun y hy=>zA u hy
 have v2:jY F a u a=u:=CD u;have v3:∀y,a<y->jY F a u y=F (y-1):=fun y hy=>CE u hy
 have cs:∀y,y<k+1->(y<a/\jY F a u y=F y)\/(y=a/\jY F a u y=u)\/(a<y/\jY F a u y=F (y-1)):=fun y hy=>by
  rcases Nat.lt_trichotomy y a with q|q|q
  ·exact .inl ⟨q,v1 y q⟩
  ·exact .inr (.inl ⟨q,by rw[q];exact v2⟩)
  ·exact .inr (.inr ⟨q,v3 y q⟩)
 have k3:=b.k3;have c3:=Ql;refine⟨⟨fun y hy=>?_,fun y hy=>?_,fun y z h1 h2=>?_⟩,(IU (k-a) a k om).trans b.Df,fun y hy j=>?_,fun y z h1 h2 h3=>om,om,hM⟩
 ·rcases cs y hy with ⟨q,e⟩|⟨q,e⟩|⟨q,e⟩<;>rw[e]
  ·exact b.gJ.lt y om
  ·exact b.lead
  ·exact b.gJ.lt (y-1) om
 ·rcases cs y hy with ⟨q,e⟩|⟨q,e⟩|⟨q,e⟩<;>rw[e]
  ·exact b.gJ.pos y om
  ·exact hp
  ·exact b.gJ.pos (y-1) om
 ·rcases cs y om with ⟨q,e⟩|⟨q,e⟩|⟨q,e⟩<;>rw[e]<;>rcases cs z h2 with ⟨q2,e2⟩|⟨q2,e2⟩|⟨q2,e2⟩<;>rw[e2]
  ·exact b.gJ.inc y z h1 om
  ·exact lo y q
  ·rcases Nat.lt_or_ge y (z-1)with r|r
   ·exact b.gJ.inc y (z-1) r om
   ·omega
  ·omega
  ·omega
  ·exact hi (z-1) om om
  ·omega
  ·omega
  ·exact b.gJ.inc (y-1) (z-1) om om
 ·rcases cs y hy with ⟨q,e⟩|⟨q,e⟩|⟨q,e⟩<;>rw[e]
  ·have:=b.Ko y om j;omega
  ·exact hu j
  ·have:=b.Ko (y-1) om j;omega
theorem TZ{w k a:Nat}{F:Nat->aS}{u:aS}{F0:Nat->aS}(b:jm w k F u F0)(ak:a<=k)(ho:Old w k a F 13122)(lo:∀y,y<a->aj w (F y)<aj w u)(hi:∀z,a<=z->z<k->aj w u<aj w (F z))(hn:u (aj w u)<0)(hu:∀j,(u j).natAbs<=(cb 3).natAbs)
  (ru:∀z,a<=z->z<k->0<=u (aj w (F z))/\u (aj w (F z))<F z (aj w (F z))) {v:aS} (ev:v=fun j=>u j-2*u j):aj w v=aj w u/\mf w F (aj w u) k v/\jm w k F (bJ w F (aj w u) k v) F0/\aj w (bJ w F (aj w u) k v)=aj w u/\0<bJ w F (aj w u) k v (aj w u)/\∀j,(bJ w F (aj w u) k v j).natAbs<=1259949000000:=by
 have hv:∀j,v j=-(u j):=fun j=>by rw[ev];show u j-2*u j=-(u j);omega
 have b1:jm w k F v F0:=⟨b.gJ,by
  have h:=kX.neg (w:=w) (k:=k+1) (F:=put F k u) (r:=k) om;rw[jx,gE]at h;have e:(fun j=>-(u j))=v:=by funext j;rw[hv]
  rw[e]at h;exact h.trans b.Df,b.Ko,b.k3,b.nz⟩
 have hl:aj w v=aj w u:=iI (nH _ _) (fun j hj=>by rw[hv,bD hj];rfl) (fun q=>by rw[hv];have:=lU q;omega);have Zf:∀z,z<a->z<k->aj w (F z)<=aj w u:=fun z z1 _=>Nat.le_of_lt (lo z z1)
 have hN:∀j,(v j).natAbs<=(1259948825856:Int).natAbs:=fun j=>by rw[hv];have:=hu j;have:=Ql;omega
 have hQ:∀z,a<=z->z<k->(v (aj w (F z))).natAbs<=(1*F z (aj w (F z))).natAbs:=fun z z1 z2=>by rw[hv];have:=ru z z1 z2;omega
 have k3:=b.k3;obtain⟨s1,s2⟩:=qN b.gJ (E:=13122) (N:=1259948825856) (Q:=1) om om om ho Zf hi hN hQ om om;have s3:=sP b.gJ (E:=13122) (N:=1259948825856) (Q:=1) om om om ho Zf hi hN hQ k (Nat.le_refl _);have e3:∀j,j<=aj w u->bJ w F (aj w u) k v j=v j:=fun j hj=>s3.cE j (fun z z1 z2=>by have:=hi z z1 z2;omega)
 refine⟨hl,s1,b1.low _,iI (nH _ _) (fun j hj=>by rw[e3 j om,hv,bD hj];rfl) (fun q=>by rw[e3 _ (Nat.le_refl _),hv];omega),by rw[e3 _ (Nat.le_refl _),hv];omega,fun j=>by have:=s2 j;omega⟩
theorem Nm{w k:Nat}{F F0:Nat->aS}(h:GC w k F)(l:kX w k F F0)(hM:∀i,i<k+1->∀j,(F0 i j).natAbs<=9)(k3:k<=3)(nz:∃d J I,(∀i,i<d->J i<w)/\prod d (rv (k+1) F0 J) (k+1) I≠0):jm w k F (F0 k) F0/\∃a,Kp w k a F (F0 k) 9 9:=by
 have hk:k=0\/k=1\/k=2\/k=3:=om
 have FL:k*(tG k k*9 ^ k)<=13122:=by rcases hk with rfl|rfl|rfl|rfl<;>decide
 have wz:tG k k*9 ^ k<=4374:=by rcases hk with rfl|rfl|rfl|rfl<;>decide
 have uL:∀z,z<k->∀j,(F z j).natAbs<=13122:=fun z hz j=>Nat.le_trans (kX.bound h.gJ l (fun i hi=>hM i om) hz (fun m hm=>by
  rcases Nat.lt_trichotomy m z with q|q|q
  ·rw[bD (w:=w) (v:=F z) (h.inc m z q hz)];exact Nat.zero_le _
  ·rw[q];exact Nat.le_refl _
  ·have:=h.red z m q hm;omega) j) FL
 have hD:=kX.leads h.gJ l (fun i hi=>hM i om);have c3:=Ql;have b:jm w k F (F0 k) F0:=⟨h.gJ,by
  have:=l.more (F0 k);rw[jw]at this;exact this,fun y hy j=>by have:=uL y hy j;omega,k3,nz⟩
 refine⟨b,?_⟩;obtain⟨a,p1,p2,p3⟩:=h.gJ.parts (aj w (F0 k));refine⟨a,p1,p2,p3,⟨fun z _ hz j=>uL z hz j,fun y z _ h2 h3=>h.red y z h2 h3⟩,om,om,fun j=>hM k om j,fun z _ hz=>?_,?_⟩
 ·have:=h.pos z hz
  have:=hM k om (aj w (F z));omega
 ·have q1:=CC (f:=zy w F) (k:=k) (fun i hi=>h.pos i hi) a 0 om
  rw[Nat.zero_add,Nat.sub_zero,EN]at q1;have q2:gD (zy w F) k<=4374:=by
   have Wz:gD (zy w F) k<=((tG k k*9 ^ k:Nat):Int):=hD;omega
  have q3:=Int.mul_le_mul_of_nonneg_left (show Pt (zy w F) a (k-a)<=4374 by omega) (show(0:Int)<=9+7*(9*13122) by omega);have q4:=uj (a:=0) (b:=a) om;have q5:cb 0=3673320192:=by decide
  omega
end Go.Proofs.Ytdpbiegfljmhmaa.Ext
namespace Go.cY
def Ro(a:Nat)(o:Vf):fU:=⟨some a,none,.op false o⟩
def Ol(a:Nat)(o:Op):fU:=⟨some a,none,.op false (.cE o)⟩
def Mv(a b:Nat):fU:=⟨some a,none,.op false (.cE (.move (.tmp b)))⟩
def As(a b:Nat):fU:=⟨some a,none,.op false (.cE (.assign (.tmp b)))⟩
def Ac(a:Nat)(i:Int):fU:=⟨some a,none,.op false (.cE (.assign (.const (.int .i64 i))))⟩
def Ld(a b:Nat):fU:=⟨some a,none,.op false (.load 2 [.int .i64,.int .i64] (.tmp b))⟩
def L1(a b:Nat):fU:=⟨some a,none,.op false (.aF (.int .i64) (.tmp b))⟩
def Fa(a k b:Nat):fU:=⟨some a,none,.op false (.fieldAddr k (.tmp b))⟩
def Ix(a k b c:Nat):fU:=⟨some a,none,.op false (.ta k (.tmp b) (.tmp c))⟩
def Ex(a b k:Nat):fU:=⟨some a,none,.op false (.cE (.extract (.tmp b) k))⟩
def Bt(a:Nat)(o:BinOp)(t b c:Nat):fU:=⟨some a,none,.op false (.cE (.binOp o t (.tmp b) (.tmp c) t))⟩
def Bc(a:Nat)(o:BinOp)(t b:Nat)(k:IntKind)(i:Int):fU:=⟨some a,none,.op false (.cE (.binOp o t (.tmp b) (.const (.int k i)) t))⟩
def Ca(a f:Nat)(l:List Operand)(v:Option zb):fU:=⟨some a,none,.call (.func f) l v⟩
def Dr(o:fU)(p:Nat)(l:List Nat):zt:=⟨o,p,.none,l,false,true⟩
def Db(o:fU)(p b:Nat)(l:List Nat):zt:=⟨o,p,.dh (.tmp b),l,false,true⟩
end Go.cY
namespace Go.Proofs.Ytdpbiegfljmhmaa.Ext
theorem mg{w k c:Nat}{F G:Nat->aS}{v:aS}(e:∀z,z<k->G z=F z):∀y,y<=k->bJ w G c y v=bJ w F c y v
 |0,_=>rfl
 |y+1,hy=>by
  show(if c<aj w (G y)then(fun j=>bJ w G c y v j-bJ w G c y v (aj w (G y)) / G y (aj w (G y))*G y j)else bJ w G c y v)=_;rw[e y om,mg e y om];rfl
theorem mf.congr{w k c:Nat}{F G:Nat->aS}{v:aS}(e:∀z,z<k->G z=F z)(h:mf w F c k v):mf w G c k v:=fun y hy hc j=>by
 rw[e y hy]at hc ⊢;rw[mg e y om,mg e (y+1) om];exact h y hy hc j
theorem pJ.congr{w k:Nat}{F G:Nat->aS}(e:∀z,z<k->G z=F z)(h:pJ w k F):pJ w k G:=
 ⟨fun i hi=>by rw[e i hi];exact h.lt i hi,fun i hi=>by rw[e i hi];exact h.pos i hi,fun i j hi hj=>by rw[e i om,e j hj];exact h.inc i j hi hj⟩
theorem Old.congr{w k a:Nat}{F G:Nat->aS}{E:Int}(e:∀z,z<k->G z=F z)(h:Old w k a F E):Old w k a G E:=
 ⟨fun z h1 h2 j=>by rw[e z h2];exact h.le z h1 h2 j,fun y z h1 h2 h3=>by rw[e y om,e z h3];exact h.red y z h1 h2 h3⟩
theorem jm.congr{w k:Nat}{F G F0:Nat->aS}{v:aS}(e:∀z,z<k->G z=F z)(b:jm w k F v F0):jm w k G v F0:=
 ⟨b.gJ.congr e,(kX.of_eq (fun i hi=>by unfold put;split;rfl;exact e i om)).trans b.Df,fun y hy j=>by rw[e y hy];exact b.Ko y hy j,b.k3,b.nz⟩
theorem Bq{w k a:Nat}{F G:Nat->aS}(e:∀z,z<k->G z=F z)(ha:a<=k):Pt (zy w G) a (k-a)=Pt (zy w F) a (k-a):=
 zx _ _ (fun i h1 h2=>by unfold zy;rw[e i om])
theorem Kp.congr{w k a:Nat}{F G:Nat->aS}{v:aS}{N Q:Int}(e:∀z,z<k->G z=F z)(h:Kp w k a F v N Q):Kp w k a G v N Q:=
 ⟨h.ak,fun y hy=>by rw[e y (by have:=h.ak;omega)];exact h.lo y hy,fun z h1 h2=>by rw[e z h2];exact h.hi z h1 h2,h.cE.congr e,h.n0,h.q1,h.le,fun z h1 h2=>by rw[e z h2];exact h.ld z h1 h2,by rw[Bq e h.ak];exact h.Ni⟩
theorem Nj.congr{w k a:Nat}{F G:Nat->aS}{v:aS}{n m:Int}(e:∀z,z<k->G z=F z)(h:Nj w k a F v n m):Nj w k a G v n m:=
 ⟨h.ak,fun y hy=>by rw[e y (by have:=h.ak;omega)];exact h.lo y hy,by rw[e a h.ak];exact h.eq,h.cE.congr e,by rw[e a h.ak];exact h.xy,fun z h1 h2=>by rw[e z h2];exact h.rv z h1 h2,fun z h1 h2=>by rw[e z h2,e a h.ak];exact h.rf z h1 h2,h.vn,fun j=>by rw[e a h.ak];exact h.fm j,by rw[Bq e (by have:=h.ak;omega),e a h.ak];exact h.Ni⟩
structure FQ(w k:Nat)(A F0:Nat->aS)(D M:Nat):Prop where
 base:jm w k A (A k) F0
 st:(∃a N Q,Kp w k a A (A k) N Q)\/(∃a n m,Nj w k a A (A k) n m)
 m0:w-aj w (A k)<=D
 m1:∀a,a<k->aj w (A a)=aj w (A k)->(A a (aj w (A k))).toNat<=M
theorem FQ.low{w k D M:Nat}{A F0:Nat->aS}(r:FQ w k A F0 D M):mf w A (aj w (A k)) k (A k)/\jm w k A (bJ w A (aj w (A k)) k (A k)) F0:=by
 refine⟨?_,r.base.low _⟩;rcases r.st with ⟨a,N,Q,h⟩|⟨a,n,m,h⟩
 ·exact(h.low r.base).1
 ·exact(h.low r.base).2
def R8(w k:Nat)(A F0:Nat->aS)(a:Nat)(u2:aS)(D M:Nat):Prop:=
 (u2 (aj w (A a))=0/\∃D' M',D'<D/\FQ w k (put A k u2) F0 D' M') \/
 (u2 (aj w (A a))≠0/\aj w u2=aj w (A a)/\mf w A (aj w (A a)) k u2/\aj w (bJ w A (aj w (A a)) k u2)=aj w (A a)/\∃M',M'<M/\FQ w k (put (put A a (bJ w A (aj w (A a)) k u2)) k (A a)) F0 D M')
theorem FQ.next{w k a D M:Nat}{A F0:Nat->aS}{u2:aS}(ha:a<k)(he:aj w (A a)=aj w (A k))(hD:w-aj w (A a)<=D)(hM:(A a (aj w (A a))).toNat<=M)(n:Next w k F0 A a u2):R8 w k A F0 a u2 D M:=by
 rcases n with ⟨n1,n2,b,a',N,Q,f⟩|⟨n1,n2,n3,n4,n5,b,n',m',f⟩
 ·have hk:put A k u2 k=u2:=gE u2
  have e:∀z,z<k->put A k u2 z=A z:=fun z hz=>gf u2 om
  have bl:=b.lead;refine .inl ⟨n1,w-aj w u2,(cb 3).toNat,om,by rw[hk];exact b.congr e,.inl ⟨a',N,Q,by rw[hk];exact f.congr e⟩,by rw[hk];exact Nat.le_refl _,fun z hz _=>?_⟩;rw[hk,e z hz];have:=b.Ko z hz (aj w u2);have c3:=Ql;omega
 ·have h0:=b.gJ.pos a ha
  rw[gE,n4]at h0;refine .inr ⟨n1,n2,n3,n4,(bJ w A (aj w (A a)) k u2 (aj w (A a))).toNat,om,?_⟩;generalize bJ w A (aj w (A a)) k u2=u at *;have hk:put (put A a u) k (A a) k=A a:=gE _;have e:∀z,z<k->put (put A a u) k (A a) z=put A a u z:=fun z hz=>gf _ om
  have ea:put A a u a=u:=gE u;refine⟨by rw[hk];exact b.congr e,.inr ⟨a,n',m',by rw[hk];exact f.congr e⟩,by rw[hk];omega,fun z hz hle=>?_⟩;rw[hk,e z hz]at hle ⊢;by_cases c:z=a
  ·rw[c,ea];exact Nat.le_refl _
  ·exfalso
   rw[gf u c]at hle;have h1:=b.gJ.inc;rcases Nat.lt_or_gt_of_ne c with q|q
   ·have:=h1 z a q ha;rw[gf u c,ea,n4]at this;omega
   ·have:=h1 a z q hz;rw[gf u c,ea,n4]at this;omega
theorem FQ.step{w k a D M:Nat}{A F0:Nat->aS}(r:FQ w k A F0 D M)(ha:a<k)(he:aj w (A a)=aj w (A k)){u u2:aS}(eu:u=bJ w A (aj w (A k)) k (A k)){q:Int}(eq:q=u (aj w (A k)) / A a (aj w (A k)))(e2:u2=fun j=>u j-q*A a j) :
  (∀j,(u j).natAbs<=9000000000000000000/\(q*A a j).natAbs<=9000000000000000000/\(u j-q*A a j).natAbs<=9000000000000000000)/\R8 w k A F0 a u2 D M:=by
 have hM:=r.m1 a ha he;have hD:=r.m0;rw[<-he]at hM hD;have b:=r.base;have k3:=b.k3;have c3:=Ql;rcases r.st with ⟨a0,N,Q,h⟩|⟨a0,n,m,h⟩
 ·have ea:a0=a:=by
   rcases Nat.lt_trichotomy a0 a with c|c|c
   ·have:=h.hi a0 (Nat.le_refl _) om;have:=b.gJ.inc a0 a c ha;omega
   ·exact c
   ·have:=h.lo a c;omega
  subst ea;obtain⟨s1,s2⟩:=Qm b h ha he eu eq;rw[<-e2]at s2;have l2:=(h.low b).2.1;rw[<-eu]at l2;have ht:=h.top b;have hc:=Bp (a:=a0) om;have hn:=h.n0;have hq:=h.q1;exact⟨fun j=>⟨by have:=l2 j;omega,(s1 j).1,(s1 j).2⟩,FQ.next ha he hD hM s2⟩
 ·have ea:a0=a:=PS (p:=fun i=>aj w (A i)) b.gJ.inc h.ak ha (by show aj w (A a0)=aj w (A a);rw[h.eq,he])
  subst ea;have mu:=(h.low b).1 k (Nat.le_refl _);rw[mu]at eu;subst eu;obtain⟨s1,s2⟩:=Qn b h eq;rw[<-e2]at s2;have hv:∀j,(A k j).natAbs<=9000000000000000000:=fun j=>by
   have h1:=h.vn j;have hP:=sQ (f:=zy w A) (k-(a0+1)) (a0+1) (fun i h1 h2=>b.gJ.pos i om);have Pm:=h.y0 b;have hx:=h.xy;have hn:0<=n:=by have:=h.vn 0;omega
   have hm:0<=m:=by have:=h.fm 0;omega
   have b1:=h.Ni;have b2:0<=n*A a0 (aj w (A k)):=Int.mul_nonneg hn om;have b3:0<=m*A k (aj w (A k)):=Int.mul_nonneg hm om;have b4:=nj (show 0<=n*A a0 (aj w (A k))+m*A k (aj w (A k)) by omega) hP;have b5:=nj hn Pm;have b6:=Bp (a:=a0) om;omega
  exact⟨fun j=>⟨hv j,(s1 j).1,(s1 j).2⟩,FQ.next ha he hD hM s2⟩
theorem FQ.own{w k a D M:Nat}{A F0:Nat->aS}(r:FQ w k A F0 D M)(hM:∀i,i<k+1->∀j,(F0 i j).natAbs<=9)(ak:a<=k)(lo:∀y,y<a->aj w (A y)<aj w (A k))(hi:∀z,a<=z->z<k->aj w (A k)<aj w (A z)){u:aS}(eu:u=bJ w A (aj w (A k)) k (A k)) :
  aj w u=aj w (A k)/\(∀j,(u j).natAbs<=1259948825856)/\(0<u (aj w (A k))->sR w (k+1) (k+1) (jY A a u) F0) /\
  (u (aj w (A k))<0->∀v,v=(fun j=>u j-2*u j)->aj w v=aj w (A k)/\mf w A (aj w (A k)) k v/\sR w (k+1) (k+1) (jY A a (bJ w A (aj w (A k)) k v)) F0):=by
 have b:=r.base;have bu:=b.low (aj w (A k));have k3:=b.k3;have c3:=Ql;obtain⟨a0,N,Q,h⟩:∃a N Q,Kp w k a A (A k) N Q:=by
  rcases r.st with h|⟨a0,n,m,h⟩
  ·exact h
  ·exfalso
   have:=h.eq;rcases Nat.lt_or_ge a0 a with c|c
   ·have:=lo a0 c;omega
   ·have:=hi a0 c h.ak;omega
 have ea:a0=a:=by
  rcases Nat.lt_trichotomy a0 a with c|c|c
  ·have:=h.hi a0 (Nat.le_refl _) om;have:=lo a0 c;omega
  ·exact c
  ·have:=h.lo a c;have:=hi a (Nat.le_refl _) (by have:=h.ak;omega);omega
 subst ea;obtain⟨_,l2,l3,l4⟩:=h.low b;rw[<-eu]at l2 l3 l4 bu;have ht:=h.top b;have hc:=Bp (a:=a0) om;have hn:=h.n0;have hq:=h.q1;have hu:∀j,(u j).natAbs<=1259948825856:=fun j=>by have:=l2 j;omega
 have hl:aj w u=aj w (A k):=iI (nH _ _) (fun j hj=>by rw[l3 j om];exact bD hj) (fun q=>by rw[l3 _ (Nat.le_refl _)];exact lU q);refine⟨hl,hu,fun hp=>zB bu hM ak (fun y hy=>by rw[hl];exact lo y hy) (fun z z1 z2=>by rw[hl];exact hi z z1 z2) (by rw[hl];exact hp) (fun j=>by have:=hu j;omega),fun aaF v ev=>?_⟩;obtain⟨n1,n2,n3,n4,n5,n6⟩:=TZ bu ak h.cE (fun y hy=>by rw[hl];exact lo y hy) (fun z z1 z2=>by rw[hl];exact hi z z1 z2) (by rw[hl];exact aaF) (fun j=>by have:=hu j;omega) (fun z z1 z2=>l4 z z1 z2 (hi z z1 z2)) ev;rw[hl]at n1 n2 n3 n4 n5 n6;exact⟨n1,n2,zB n3 hM ak (fun y hy=>by rw[n4];exact lo y hy) (fun z z1 z2=>by rw[n4];exact hi z z1 z2) (by rw[n4];exact n5) n6⟩
theorem FQ.start{w k:Nat}{A F0:Nat->aS}(h:GC w k A)(l:kX w k A F0)(hM:∀i,i<k+1->∀j,(F0 i j).natAbs<=9)(k3:k<=3)(nz:∃d J I,(∀i,i<d->J i<w)/\prod d (rv (k+1) F0 J) (k+1) I≠0)(hk:A k=F0 k):∃D M,FQ w k A F0 D M:=by
 obtain⟨b,a,f⟩:=Nm h l hM k3 nz;rw[<-hk]at b f;refine⟨w-aj w (A k),(cb 3).toNat,b,.inl ⟨a,9,9,f⟩,Nat.le_refl _,fun z hz _=>?_⟩;have:=b.Ko z hz (aj w (A k));have c3:=Ql;omega
end Go.Proofs.Ytdpbiegfljmhmaa.Ext
