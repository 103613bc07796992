import Derived.Test.YtdpbiegfljmhmaaGreatSymA
set_option linter.unusedSimpArgs false
set_option linter.unusedVariables false
namespace Go.cS
inductive Ty where
 |cJ (o:Op)
 |new (n:Nat) (cs:List Value)
 |box (n:Nat) (x:Operand)
 |build (z:List Value) (parts:List (Nat×Nat×Operand))
 |buildSlice (n len:Nat) (z:List Value) (parts:List (Nat×Nat×Operand))
 |load (n:Nat) (vs:List Sv) (x:Operand)
 |aL (v:Sv) (x:Operand)
 |store (n:Nat) (x y:Operand)
 |mU (k:IntKind) (x:Operand)
 |mkSlice (n:Nat) (z:List Value) (l c:Operand)
 |UX (t:TypeId) (x:Operand) (lo hi mx:Option Operand)
 |fieldAddr (off:Nat) (x:Operand)
 |La (off n:Nat) (x:Operand)
 |Lc (off:Nat) (x:Operand)
 |rI (n:Nat) (x i:Operand)
 |vW (len n:Nat) (x i:Operand)
 |lS (x:Operand)
 |Lf (x:Operand)
def nO(place:Nat->Option (Nat×Nat)):List (Nat×Operand)->Option (List (Nat×Nat×Operand))
 | []=>some []
 |(i,x) :: r=>
  match place i with
  |some (o,n)=>
   match nO place r with
   |some l=>some ((o,n,x) :: l)
   |none=>none
  |none=>none
def jZ(s:SS):List (Nat×Nat×Operand)->Option (List (Nat×Nat×Value))
 | []=>some []
 |(o,n,x) :: r=>
  match ev s x with
  |some v=>
   match jZ s r with
   |some l=>some ((o,n,v) :: l)
   |none=>none
  |none=>none
def Dl:List Value->List (Nat×Nat×Value)->Option (List Value)
 |cells,[]=>some cells
 |cells,(off,size,v) :: rest=>
  bif Nat.beq v.cells.toList.length size && v.cells.toList.all aE then
   match mr cells off v.cells.toList with
   |some cs=>Dl cs rest
   |none=>none
  else none
theorem nP{place:Nat->Option (Nat×Nat)}{s:SS}:∀{l:List (Nat×Operand)} {l3:List (Nat×Nat×Operand)},nO place l=some l3->
  (jN s l=none/\jZ s l3=none)\/∃lv NS,jN s l=some lv/\jZ s l3=some NS/\∀cells,iw place cells lv=Dl cells NS
 | [],l3,h=>by
  simp only[nO,oi]at h;subst h;exact .inr ⟨[],[],rfl,rfl,fun _=>rfl⟩
 |(i,x) :: r,l3,h=>by
  simp only[nO]at h;split at h
  ·rename_i o n hp
   split at h
   ·rename_i l hl
    simp only[oi]at h;subst h;cases hx:ev s x with
    |none=>exact .inl ⟨by simp only[jN,hx],by simp only[jZ,hx]⟩
    |some v=>
     rcases nP (s:=s) hl with ⟨h1,h2⟩|⟨lv,NS,h1,h2,h3⟩
     ·exact .inl ⟨by simp only[jN,hx,h1],by simp only[jZ,hx,h2]⟩
     ·refine .inr ⟨(i,v) :: lv,(o,n,v) :: NS,by simp only[jN,hx,h1],by simp only[jZ,hx,h2],fun cells=>?_⟩
      simp only[iw,Dl,hp];cases hb:(Nat.beq v.cells.toList.length n && v.cells.toList.all aE)with
      |false=>rfl
      |true=>
       simp only[cond_true];cases hs:mr cells o v.cells.toList with
       |none=>rfl
       |some cs=>exact h3 cs
   ·cases h
  ·cases h
def ic(P:Unit->Program)(A:bF)(mk:ku)(loc:Bool)(r:Ty)(s:SS)(C:Value->SS->Prop):Prop:=
 match r with
 | .cJ o=>wpOp P A mk loc o s C
 | .new n cs=>mk loc n cs s C
 | .box n x=>
  match ev s x with
  |some v=>bif v.cells.toList.all aE then mk loc n v.cells.toList s C else False
  |none=>False
 | .build z parts=>
  match jZ s parts with
  |some l=>match Dl z l with|some cs=>C (.agg cs.toArray) s|none=>False
  |none=>False
 | .buildSlice n len z parts=>
  match jZ s parts with
  |some l=>
   match Dl z l with
   |some cs=>
    bif cs.all aE then
     mk false n cs s fun v s'=>
      match v with
      | .pointer (some a)=>C (.slice (some a) len len) s'
      |_=>False
    else False
   |none=>False
  |none=>False
 | .load n vs x=>
  match ev s x with
  |some (.pointer (some a))=>mC A s a n vs fun l=>C (.agg l.toArray) s
  |_=>False
 | .aL v x=>
  match ev s x with
  |some (.pointer (some a))=>mC A s a 1 [v] fun l=>
   match l with
   | [v]=>C v s
   |_=>False
  |_=>False
 | .store n x y=>
  match ev s x,ev s y with
  |some (.pointer (some a)),some v=>bif Nat.beq v.cells.toList.length n then vS A s a v.cells.toList (fun s'=>C undef s')else False
  |_,_=>False
 | .mU k x=>
  match ev s x with
  |some (.int _ n)=>C (.int k (A.conv k n)) s
  |_=>False
 | .mkSlice n z l c=>
  match ev s l,ev s c with
  |some (.int _ l),some (.int _ c)=>
   A.vz l c/\A.rH fun _=>mk false n (A.iK z c) s fun v s'=>
    match v with
    | .pointer (some a)=>C (.slice (some a) (A.nat l) (A.nat c)) s'
    |_=>False
  |_,_=>False
 | .UX t x lo hi mx=>
  match ev s x,pC s lo,pC s hi,pC s mx with
  |some (.slice a n c),some lo,some hi,some mx=>
   match lo,hi,mx with
   |none,some (.int _ j),none=>A.cut c j/\A.rH fun _=>C (.slice a (A.nat j) c) s
   |lo,hi,mx=>A.Ba t (.slice a n c) lo hi mx fun a' n' c'=>C (.slice a' n' c') s
  |_,_,_,_=>False
 | .fieldAddr off x=>
  match ev s x with
  |some (.pointer (some a))=>
   match a.spot with
   |none=>C (.pointer (some ⟨a.block,A.bX a.off off,none⟩)) s
   |some x=>C (.pointer (some ⟨a.block,a.off+off,some x⟩)) s
  |_=>False
 | .La off n x=>
  match ev s x with
  |some (.agg cs)=>match jR cs.toList off n with|some l=>C (.agg l.toArray) s|none=>False
  |_=>False
 | .Lc off x=>
  match ev s x with
  |some (.agg cs)=>match cs.toList[off]? with|some v=>C v s|none=>False
  |_=>False
 | .rI n x i=>
  match ev s x,ev s i with
  |some (.slice a len _),some (.int _ i)=>∃b o,a=some ⟨b,o,none⟩/\A.G6 i len/\C (.pointer (some ⟨b,A.place o i n,none⟩)) s
  |_,_=>False
 | .vW len n x i=>
  match ev s x,ev s i with
  |some (.pointer (some a)),some (.int _ i)=>A.G6 i len/\A.rH fun _=>C (.pointer (some ⟨a.block,A.place a.off i n,a.spot⟩)) s
  |_,_=>False
 | .lS x=>
  match ev s x with
  |some (.slice _ n _)=>C (.int .i64 (A.ofNat n)) s
  |_=>False
 | .Lf x=>
  match ev s x with
  |some (.string b)=>C (.int .i64 (A.Fy b)) s
  |_=>False
def Lg(P:Program)(o:Op):Ty:=
 match o with
 | .alloc e=>
  match ia P e,bS P e with
  |some z,some n=>bif z.cells.toList.all aE then .new n z.cells.toList else .cJ o
  |_,_=>.cJ o
 | .box e x=>match bS P e with|some n=>.box n x|none=>.cJ o
 | .build t parts=>
  match ia P t,P.underlying t with
  |some z,some (.struct fs)=>
   bif fs.toList.all (fun f=>(P.info? f.type).isSome)then
    match nO (iJ P fs.toList) parts.toList with
    |some l=>.build z.cells.toList l
    |none=>.cJ o
   else .cJ o
  |some z,some (.array _ e)=>
   match bS P e with
   |some n=>
    match nO (fun i=>some (i*n,n)) parts.toList with
    |some l=>.build z.cells.toList l
    |none=>.cJ o
   |none=>.cJ o
  |_,_=>.cJ o
 | .buildSlice t len parts=>
  match P.underlying t with
  |some (.slice e)=>
   match bS P e,ia P e with
   |some n,some z=>
    bif Nat.ble (len*n) 16777216 && Nat.beq z.cells.toList.length n && Nat.ble len 16777216 then
     match nO (fun i=>some (i*n,n)) parts.toList with
     |some l=>.buildSlice n len (bB z.cells.toList len) l
     |none=>.cJ o
    else .cJ o
   |_,_=>.cJ o
  |_=>.cJ o
 | .load t x=>
  match iE P t with
  |some true=>match bS P t with|some n=>.load n (fG (fun _=>P) 12 t) x|none=>.cJ o
  |some false=>.aL (De (P.underlying t)) x
  |none=>.cJ o
 | .store t x y=>match bS P t with|some n=>.store n x y|none=>.cJ o
 | .convert src dst x=>
  match P.underlying src,P.underlying dst with
  |some _,some (.int k)=>.mU k x
  |_,_=>.cJ o
 | .makeSlice t l c=>
  match P.underlying t with
  |some (.slice e)=>
   match bS P e,ia P e,oP P e with
   |some n,some z,some by_=>bif Nat.ble by_ 16384 && Nat.beq z.cells.toList.length n && z.cells.toList.all aE then .mkSlice n z.cells.toList l c else .cJ o
   |_,_,_=>.cJ o
  |_=>.cJ o
 | .slice t x lo hi mx=>
  match P.underlying t with
  |some (.slice e)=>bif (bS P e).isSome then .UX t x lo hi mx else .cJ o
  |_=>.cJ o
 | .fieldAddr t x f=>
  match P.underlying t with
  |some (.struct fs)=>
   match fs.toList[f]? with
   |some fd=>match bS P fd.type with|some n=>bif Nat.beq n 0 then .cJ o else .fieldAddr fd.offset x|none=>.cJ o
   |none=>.cJ o
  |_=>.cJ o
 | .field t x f=>
  match P.underlying t with
  |some (.struct fs)=>
   match fs.toList[f]? with
   |some fd=>
    match iE P fd.type with
    |some true=>match bS P fd.type with|some n=>.La fd.offset n x|none=>.cJ o
    |some false=>.Lc fd.offset x
    |none=>.cJ o
   |none=>.cJ o
  |_=>.cJ o
 | .indexAddr t x i=>
  match P.underlying t with
  |some (.slice e)=>match bS P e with|some n=>.rI n x i|none=>.cJ o
  |some (.array len e)=>match bS P e with|some n=>.vW len n x i|none=>.cJ o
  |_=>.cJ o
 | .call { callee:=.builtin .len,args,argTypes }=>
  match args.toList,argTypes.toList with
  | [x],[t]=>
   match P.underlying t with
   |some (.slice _)=>.lS x
   |some .string=>.Lf x
   |_=>.cJ o
  |_,_=>.cJ o
 |_=>.cJ o
set_option maxHeartbeats 1000000 in
theorem Dm(P:Unit->Program)(A:bF)(mk:ku)(loc:Bool)(o:Op)(s:SS)(C:Value->SS->Prop):ic P A mk loc (Lg (P ()) o) s C=wpOp P A mk loc o s C:=by
 unfold Lg;split
 ·
  split
  ·rename_i z n hz hn
   cases hb:z.cells.toList.all aE with
   |false=>rfl
   |true=>simp only[cond_true,ic,wpOp,hz,hn,hb]
  ·rfl
 ·
  split
  ·rename_i n hn
   simp only[ic,wpOp,hn];cases ev s _<;>rfl
  ·rfl
 ·
  split
  ·rename_i z fs hz hu
   cases hb:fs.toList.all (fun f=>((P ()).info? f.type).isSome)with
   |false=>rfl
   |true=>
    simp only[cond_true];split
    ·rename_i l hl
     simp only[ic,wpOp,tL,hz,hu,hb,cond_true];rcases nP (s:=s) hl with ⟨h1,h2⟩|⟨lv,NS,h1,h2,h3⟩
     ·rw[h1,h2]
     ·rw[h1,h2]
      simp only[h3];cases Dl z.cells.toList NS<;>rfl
    ·rfl
  ·rename_i z x e hz hu
   split
   ·rename_i n hn
    split
    ·rename_i l hl
     simp only[ic,wpOp,tL,hz,hu,hn];rcases nP (s:=s) hl with ⟨h1,h2⟩|⟨lv,NS,h1,h2,h3⟩
     ·rw[h1,h2]
     ·rw[h1,h2]
      simp only[h3];cases Dl z.cells.toList NS<;>rfl
    ·rfl
   ·rfl
  ·rfl
 ·
  split
  ·rename_i e hu
   split
   ·rename_i n z hn hz
    cases hb:(Nat.ble (_*n) 16777216 && Nat.beq z.cells.toList.length n && Nat.ble _ 16777216)with
    |false=>rfl
    |true=>
     simp only[cond_true];split
     ·rename_i l hl
      simp only[ic,wpOp,kN,hu,hn,hz,hb,cond_true];rcases nP (s:=s) hl with ⟨h1,h2⟩|⟨lv,NS,h1,h2,h3⟩
      ·rw[h1,h2]
      ·rw[h1,h2]
       simp only[h3];cases Dl _ NS with
       |none=>rfl
       |some cs=>
        refine congrArg (fun K=>bif cs.all aE then mk false n cs s K else False) (funext fun v=>funext fun s'=>?_);cases v with
        |pointer a=>cases a<;>rfl
        |_=>rfl
     ·rfl
   ·rfl
  ·rfl
 ·
  split
  ·rename_i ha
   split
   ·rename_i n hn
    simp only[ic,wpOp,pD,ha,hn];rfl
   ·rfl
  ·rename_i ha
   simp only[ic,wpOp,pD,ha];cases ev s _ with
   |none=>rfl
   |some v=>
    cases v with
    |pointer a=>
     cases a with
     |none=>rfl
     |some a=>
      refine congrArg (mC A s a 1 [De ((P ()).underlying _)]) (funext fun l=>?_);cases l with
      |nil=>rfl
      |cons v r=>cases r<;>rfl
    |_=>rfl
  ·rfl
 ·
  split
  ·rename_i n hn
   simp only[ic,wpOp,vT,hn];cases ev s _ with
   |none=>rfl
   |some v=>
    cases ev s _ with
    |none=>
     cases v with
     |pointer a=>cases a<;>rfl
     |_=>rfl
    |some u=>
     cases v with
     |pointer a=>cases a<;>rfl
     |_=>rfl
  ·rfl
 ·
  split
  ·rename_i d k h1 h2
   simp only[ic,wpOp,Bb,h1,h2];cases ev s _ with
   |none=>rfl
   |some v=>cases v<;>rfl
  ·rfl
 ·
  split
  ·rename_i e hu
   split
   ·rename_i n z by_ hn hz hy
    cases hb:(Nat.ble by_ 16384 && Nat.beq z.cells.toList.length n && z.cells.toList.all aE)with
    |false=>rfl
    |true=>
     simp only[cond_true,ic,wpOp,mh,hu,hn,hz,hy,hb];cases ev s _ with
     |none=>rfl
     |some v=>
      cases ev s _ with
      |none=>cases v<;>rfl
      |some u=>
       cases v with
       |int k l=>
        cases u with
        |int k' c=>
         simp only[hn,hz,hy,hb,cond_true];refine congrArg (fun K=>A.vz l c/\A.rH fun _=>mk false n (A.iK z.cells.toList c) s K) (funext fun v=>funext fun s'=>?_);cases v with
         |pointer a=>cases a<;>rfl
         |_=>rfl
        |_=>rfl
       |_=>cases u<;>rfl
   ·rfl
  ·rfl
 ·
  split
  ·rename_i e hu
   cases hb:(bS (P ()) e).isSome with
   |false=>rfl
   |true=>
    simp only[cond_true,ic,wpOp,vU,hu,hb];cases ev s _ with
    |none=>rfl
    |some v=>
     cases pC s _ with
     |none=>cases v<;>rfl
     |some a=>
      cases pC s _ with
      |none=>cases v<;>rfl
      |some b=>
       cases pC s _ with
       |none=>cases v<;>rfl
       |some c=>
        cases v with
        |slice ad n cc=>
         simp only[hb,cond_true];cases a with
         |some a=>cases b<;>cases c<;>rfl
         |none=>
          cases b with
          |none=>cases c<;>rfl
          |some b=>
           cases c with
           |some c=>cases b<;>rfl
           |none=>cases b<;>rfl
        |_=>rfl
  ·rfl
 ·
  split
  ·rename_i fs hu
   split
   ·rename_i fd hf
    split
    ·rename_i n hn
     cases hb:Nat.beq n 0 with
     |true=>rfl
     |false=>
      simp only[cond_false,ic,wpOp,mg,hu,hf,hn,hb];cases ev s _ with
      |none=>rfl
      |some v=>
       cases v with
       |pointer a=>
        cases a with
        |none=>rfl
        |some a=>simp only[hf,hn,hb,cond_false];cases a.spot<;>rfl
       |_=>rfl
    ·rfl
   ·rfl
  ·rfl
 ·
  split
  ·rename_i fs hu
   split
   ·rename_i fd hf
    split
    ·rename_i ha
     split
     ·rename_i n hn
      simp only[ic,wpOp,tM,kB,hu,hf,ha,hn];cases ev s _ with
      |none=>rfl
      |some v=>
       cases v with
       |agg cs=>simp only[hf,ha,hn];cases jR cs.toList fd.offset n<;>rfl
       |_=>rfl
     ·rfl
    ·rename_i ha
     simp only[ic,wpOp,tM,kB,hu,hf,ha];cases ev s _ with
     |none=>rfl
     |some v=>
      cases v with
      |agg cs=>simp only[hf,ha];cases cs.toList[fd.offset]?<;>rfl
      |_=>rfl
    ·rfl
   ·rfl
  ·rfl
 ·
  split
  ·rename_i e hu
   split
   ·rename_i n hn
    simp only[ic,wpOp,jY,hu,hn];cases ev s _ with
    |none=>rfl
    |some v=>
     cases ev s _ with
     |none=>cases v<;>rfl
     |some u=>cases v<;>cases u<;>first|rfl|simp only[hn]
   ·rfl
  ·rename_i len e hu
   split
   ·rename_i n hn
    simp only[ic,wpOp,jY,hu,hn];cases ev s _ with
    |none=>rfl
    |some v=>
     cases ev s _ with
     |none=>
      cases v with
      |pointer a=>cases a<;>rfl
      |_=>rfl
     |some u=>
      cases v with
      |pointer a=>cases a<;>cases u<;>first|rfl|simp only[hn]
      |_=>cases u<;>rfl
   ·rfl
  ·rfl
 ·
  split
  ·rename_i args argTypes x t hx ht
   split
   ·rename_i e hu
    simp only[ic,wpOp,hx,ht,yZ,xH,hu];cases ev s _ with
    |none=>rfl
    |some v=>simp only[xH,hu];cases v<;>rfl
   ·rename_i hu
    simp only[ic,wpOp,hx,ht,yZ,xH,hu];cases ev s _ with
    |none=>rfl
    |some v=>simp only[xH,hu];cases v<;>rfl
   ·rfl
  ·rfl
 ·rfl
end Go.cS
namespace Go.cS
inductive VV where
 |agg (l:List Sv)
 |one (v:Sv)
inductive xU where
 |mV (l:List VV)
 |val (v:VV)
def OL:VV->(Value->Prop)->Prop
 | .agg l,C=>UT l fun l=>C (.agg l.toArray)
 | .one v,C=>US v C
def Hc:List VV->(List Value->Prop)->Prop
 | [],C=>C []
 |t :: r,C=>OL t fun v=>Hc r fun l=>C (v :: l)
def Qy:xU->Value->(Value->Prop)->Prop
 | .mV l,v,C=>Hc l fun l=>v=.tuple l.toArray/\C (.tuple l.toArray)
 | .val t,v,C=>OL t fun u=>v=u/\C u
def xV(w:Option xU)(v:Value)(C:Value->Prop):Prop:=
 match w with
 |none=>C v
 |some w=>Qy w v C
def Lh(P:Program)(t:TypeId):VV:=
 match iE P t with
 |some true=>.agg (fG (fun _=>P) 12 t)
 |_=>.one (De (P.underlying t))
def He(P:Program)(t:TypeId):xU:=
 match P.underlying t with
 |some (.tuple ts)=>.mV (ts.toList.map (Lh P))
 |_=>.val (Lh P t)
theorem nQ(P:Unit->Program):∀(d:Nat) (t:TypeId),fG (fun _=>P ()) d t=fG P d t
 |0,_=>rfl
 |d+1,t=>by
  unfold fG;have ih:=nQ P d;have UZ:fG (fun _=>P ()) d=fG P d:=funext ih;rw[UZ]
theorem Bl(P:Unit->Program)(t:TypeId)(C:Value->Prop):OL (Lh (P ()) t) C=Qt P t C:=by
 unfold Lh Qt;cases iE (P ()) t with
 |none=>rfl
 |some b=>
  cases b with
  |false=>rfl
  |true=>simp only[OL,nQ]
theorem Dn(P:Unit->Program):∀(ts:List TypeId) (C:List Value->Prop),Hc (ts.map (Lh (P ()))) C=KX P ts C
 | [],C=>rfl
 |t :: r,C=>by
  simp only[List.map_cons,Hc,KX,Bl];exact congrArg _ (funext fun v=>Dn P r _)
theorem Li(P:Unit->Program)(t:TypeId)(v:Value)(C:Value->Prop):Qy (He (P ()) t) v C=seen P t v C:=by
 unfold He seen;cases(P ()).underlying t with
 |none=>exact Bl P _ _
 |some d=>cases d<;>first|exact Dn P _ _|exact Bl P _ _
inductive YD where
 |op (loc:Bool) (r:Ty)
 |call (x:Operand) (args:List Operand) (v:Option xU)
structure fI where
 dst:Option Nat
 guard:Option (Nat×Bool)
 act:YD
def vX(yn:Nat->Nat)(s:SS)(x:Operand)(args:List Operand):Option (FuncId×List Value):=
 match ev s x,yZ s args with
 |some (.func (.func f) first captured),some l=>bif l.all dr && Nat.blt f aV then some (f,first.toList++l++captured.toList)else none
 |some (.func (.yield y) _ _),some l=>bif l.all dr then some (yn y,l)else none
 |_,_=>none
def R3(P:Unit->Program)(A:bF)(a:YD)(s:SS)(C:Value->SS->Prop):Prop:=
 match a with
 | .op loc r=>ic P A (OB A) loc r s C
 | .call x args w=>
  match vX A.yn s x args with
  |some (g,l)=>A.call g l s.h fun v h'=>xV w v fun v=>C v { s with h:=h' }
  |none=>False
def uZ(s:SS)(dst:Option Tmp)(v:Value)(C:SS->Prop):Prop:=
 match dst with
 |none=>C s
 |some d=>C { s with env:=(d,v) :: s.env }
def sU(g:Option (Nat×Bool))(s:SS)(go skip:SS->Prop):Prop:=
 match g with
 |none=>go s
 |some (d,want)=>
  match lk s.env d with
  |some (.bool b)=>
   match want with
   |true=>fork b (fun _=>go { s with env:=(d,.bool true) :: s.env }) (fun _=>skip { s with env:=(d,.bool false) :: s.env })
   |false=>fork b (fun _=>skip { s with env:=(d,.bool true) :: s.env }) (fun _=>go { s with env:=(d,.bool false) :: s.env })
  |some (.tuple vs)=>bif vs.toList.isEmpty then skip s else False
  |_=>False
def rJ(P:Unit->Program)(A:bF):List fI->SS->(SS->Prop)->Prop
 | [],s,Q=>Q s
 |o :: rest,s,Q=>
  sU o.guard s
   (fun s=>R3 P A o.act s fun v s'=>uZ s' o.dst v fun qh=>rJ P A rest qh Q)
   (fun s=>uZ s o.dst undef fun s'=>rJ P A rest s' Q)
def xW(ops:Array Oper)(o:Oper):Option (Option (Nat×Bool)):=
 match o.guard with
 |none=>some none
 |some (j,want)=>
  match (ops[j]?).bind (·.dst)with
  |some d=>some (some (d,want))
  |none=>none
def Hg(P:Program)(H:Hint)(f:FuncId)(o:Oper):YD:=
 match dP o.op with
 |some c=>
  match c.callee with
  | .value x=>.call x c.args.toList (match o.dst with|none=>none|some _=>some (He P o.type))
  |_=>.op false (.cJ o.op)
 |none=>.op (eV H f o) (Lg P o.op)
def vY(P:Program)(H:Hint)(f:FuncId)(nt:Nat)(ops:Array Oper)(o:Oper):Option fI:=
 match xW ops o with
 |some g=>bif (match o.dst with|none=>true|some d=>Nat.blt d nt)then some ⟨o.dst,g,Hg P H f o⟩else none
 |none=>none
def pG(P:Program)(H:Hint)(f:FuncId)(nt:Nat)(ops:Array Oper):List Oper->Option (List fI)
 | []=>some []
 |o :: r=>
  match vY P H f nt ops o with
  |some x=>
   match pG P H f nt ops r with
   |some l=>some (x :: l)
   |none=>none
  |none=>none
theorem sV{o:Op}{c:Call}(h:dP o=some c):∃x,c.callee=.value x:=by
 unfold dP at h;split at h
 ·split at h
  ·rename_i x hx;simp only[oi]at h;subst h;exact⟨x,hx⟩
  ·cases h
 ·cases h
theorem u5{ops:Array Oper}{o:Oper}{g:Option (Nat×Bool)}(h:xW ops o=some g)(s:SS)(go skip:SS->Prop):sU g s go skip=nN ops o s go skip:=by
 unfold xW at h;unfold nN;split at h
 ·rename_i hg
  simp only[oi]at h;subst h;rw[hg];rfl
 ·rename_i j want hg
  rw[hg];simp only[];split at h
  ·rename_i d hd
   simp only[oi]at h;subst h;rw[hd];simp only[sU];cases lk s.env d with
   |none=>rfl
   |some v=>cases v<;>first|rfl|(cases want<;>rfl)
  ·cases h
theorem put_eq{nt:Nat}{s:SS}{dst:Option Tmp}{v:Value}{C:SS->Prop}(h:(match dst with|none=>true|some d=>Nat.blt d nt)=true):uZ s dst v C=zu nt s dst v C:=by
 unfold uZ zu;cases dst with
 |none=>rfl
 |some d=>simp only[]at h;simp only[h,cond_true]
theorem xY(P:Unit->Program)(dst:Option Tmp)(t:TypeId)(v:Value)(C:Value->Prop):xV (match dst with|none=>none|some _=>some (He (P ()) t)) v C=qw P dst t v C:=by
 unfold qw;cases dst with
 |none=>rfl
 |some d=>exact Li P t v C
theorem Ae{c:Call}{x:Operand}(h:c.callee=.value x)(yn:Nat->Nat)(s:SS):vX yn s x c.args.toList=jO yn s c:=by
 unfold jO vX;rw[h];simp only[];cases ev s x with
 |none=>rfl
 |some v=>
  cases v with
  |func fn first captured=>cases fn<;>cases yZ s c.args.toList<;>rfl
  |_=>cases yZ s c.args.toList<;>rfl
theorem Lj(P:Unit->Program)(H:Hint)(A:bF)(f:FuncId)(o:Oper)(s:SS)(C:Value->SS->Prop):R3 P A (Hg (P ()) H f o) s C=G7 P H A f o s C:=by
 unfold Hg G7;cases hc:dP o.op with
 |none=>exact Dm P A _ _ _ _ _
 |some c=>
  obtain⟨x,hx⟩:=sV hc;simp only[hx,R3,Ae hx,xY];cases jO A.yn s c<;>rfl
theorem u6(P:Unit->Program)(H:Hint)(A:bF)(f:FuncId)(nt:Nat)(ops:Array Oper):∀(l:List Oper) (r:List fI),pG (P ()) H f nt ops l=some r->∀(s:SS) (Q:SS->Prop),rJ P A r s Q=wpOps P H A f nt ops l s Q
 | [],r,h,s,Q=>by
  simp only[pG,oi]at h;subst h;rfl
 |o :: l,r,h,s,Q=>by
  simp only[pG]at h;split at h
  ·rename_i x hx
   split at h
   ·rename_i r' hr
    simp only[oi]at h;subst h;unfold vY at hx;split at hx
    ·rename_i g hg
     obtain⟨hb,hx⟩:=lF hx;subst hx;have ih:rJ P A r'=wpOps P H A f nt ops l:=funext fun s=>funext fun Q=>u6 P H A f nt ops l r' hr s Q
     simp only[rJ,wpOps,u5 hg,put_eq hb,Lj,ih]
    ·cases hx
   ·cases h
  ·cases h
inductive FK where
 |none
 |new (loc:Bool)
 |dm (x:Operand)
 |NT (x:Operand)
 |all
 |app (l:List Operand)
structure xZ where
 o:fI
 p:Nat
 kind:FK
 pr:List Nat
 st:Bool
 sm:Bool
def R4(o:Op)(loc:Bool):FK:=
 bif bK o then .none else
 match o with
 | .alloc _ | .box _ _=>.new loc
 | .buildSlice _ _ _ | .makeSlice _ _ _=>.new false
 | .load _ x | .store _ x _=>.dm x
 | .convert _ _ x=>.NT x
 | .call { callee:=.builtin .append,args,argTypes }=>.app args.toList
 |_=>.all
def Tz(k:FK)(id tag:Nat)(s:SS):FP:=
 match k with
 | .none=>.none
 | .new loc=>bif loc then .new true tag else .new false id
 | .dm x=>
  match ev s x with
  |some (.pointer (some a))=>.block a.spot.isSome a.block
  |_=>.all
 | .NT x=>
  match ev s x with
  |some (.slice (some a) _ _)=>bif a.spot.isNone then .block false a.block else .none
  |_=>.none
 | .all=>.all
 | .app l=>.app (Cv (Qu s l))
theorem R5(o:Op)(loc:Bool)(id tag:Nat)(s:SS):Tz (R4 o loc) id tag s=Qv o loc id tag s:=by
 unfold R4 Qv;cases bK o with
 |true=>rfl
 |false=>
  simp only[cond_false];cases o with
  |load t x=>
   simp only[Tz];cases ev s x with
   |none=>rfl
   |some v=>cases v with
    |pointer a=>cases a<;>rfl
    |_=>rfl
  |store t x y=>
   simp only[Tz];cases ev s x with
   |none=>rfl
   |some v=>cases v with
    |pointer a=>cases a<;>rfl
    |_=>rfl
  |convert t u x=>
   simp only[Tz];cases ev s x with
   |none=>rfl
   |some v=>cases v with
    |slice a n c=>cases a<;>rfl
    |_=>rfl
  |call c=>
   obtain⟨callee,args,tys⟩:=c;cases callee with
   |builtin b=>cases b<;>rfl
   |_=>rfl
  |_=>rfl
abbrev JY:=List (Nat×List Nat×FP×Bool)
def mW(p:Nat)(pr:List Nat)(x:FP)(w:Bool)(l:JY):JY:=
 match x with
 | .none=>l
 |x=>(p,pr,x,w) :: l
def ya(p:Nat)(pr:List Nat)(x:FP)(w:Bool)(acc:JY):JY:=
 match x with
 | .none=>acc
 |x=>acc++[(p,pr,x,w)]
theorem kV(b:Bool)(X Y:Prop):fork b (fun _=>X) (fun _=>Y)=cond b X Y:=by cases b<;>rfl
def jP(P:Unit->Program)(A:bF)(base aO:Nat):List xZ->Nat->SS->JY->(SS->JY->Prop)->Prop
 | [],_,s,acc,Q=>Q s acc
 |d :: rest,i,s,acc,Q=>
  sU d.o.guard s
   (fun s=>
    match d.o.act with
    | .call x args w=>
     match vX A.yn s x args with
     |some (g,l)=>A.call g l (A.fresh s.h) fun v h'=>xV w v fun v=>
       uZ { s with h:=A.az s.h h' } d.o.dst v fun qh=>jP P A base aO rest (i+1) qh (acc++[(d.p,d.pr,.all,A.wrote s.h h')]) Q
     |none=>False
    | .op loc r=>
     fork d.sm
      (fun _=>ic P A (ui A (A.bX base i) (aO+i)) loc r s fun v s'=>
       uZ s' d.o.dst v fun qh=>jP P A base aO rest (i+1) qh (ya d.p d.pr (Tz d.kind (A.bX base i) (aO+i) s) d.st acc) Q)
      (fun _=>ic P A (ui A (A.bX base i) (aO+i)) loc r { s with h:=A.fresh s.h } fun v s'=>
       uZ { s' with h:=A.az s.h s'.h } d.o.dst v fun qh=>jP P A base aO rest (i+1) qh (ya d.p d.pr (Tz d.kind (A.bX base i) (aO+i) s) (A.wrote s.h s'.h) acc) Q))
   (fun s=>uZ s d.o.dst undef fun s'=>jP P A base aO rest (i+1) s' acc Q)
def IV(q:Nat):List Nat->Bool
 | []=>false
 |a :: l=>bif Nat.beq q a then true else IV q l
def iR(A:bF)(dD:Nat)(pr:List Nat)(x:FP)(wx:Bool):JY->Prop->Prop
 | [],C=>C
 |(q,_,y,wy) :: r,C=>fork (IV q pr) (fun _=>iR A dD pr x wx r C) (fun _=>xI A dD x wx y wy (iR A dD pr x wx r C))
def rK(A:bF)(dD:Nat):JY->Prop->Prop
 | [],C=>C
 |(_,pr,x,wx) :: r,C=>iR A dD pr x wx r (rK A dD r C)
def Hh(P:Unit->Program)(A:bF)(n:Nat)(ds:List xZ)(s:SS)(Q:SS->Prop):Prop:=
 jP P A (A.next s.h) s.kn ds 0 { s with kn:=s.kn+n,h:=A.aG s.h n } [] fun s' il=>rK A (A.bX (A.next s.h) n) il (Q s')
def OM(b:Array Nat)(n p:Nat):List Nat:=(List.range n).filter (fun q=>prec b p q)
def IW(P:Program)(H:Hint)(f:FuncId)(nt:Nat)(ops:Array Oper)(b:Array Nat):List Nat->Option (List xZ)
 | []=>some []
 |p :: r=>
  match ops[p]? with
  |some o=>
   match vY P H f nt ops o with
   |some x=>
    match IW P H f nt ops b r with
    |some l=>some (⟨x,p,R4 o.op (eV H f o),OM b ops.size p,iC o.op,small o.op⟩ :: l)
    |none=>none
   |none=>none
  |none=>none
theorem Dq(q:Nat):∀l:List Nat,IV q l=decide (q∈l)
 | []=>by simp[IV]
 |a :: l=>by
  unfold IV;rw[Dq q l];cases h:Nat.beq q a with
  |true=>have:=Nat.eq_of_beq_eq_true h;subst this;simp
  |false=>have:=Nat.ne_of_beq_eq_false h;simp[this]
theorem sW{b:Array Nat}{n p q:Nat}(h:q<n):IV q (OM b n p)=prec b p q:=by
 rw[Dq];unfold OM;simp only[List.mem_filter,List.mem_range,h,true_and];cases prec b p q<;>rfl
def yb(b:Array Nat)(n:Nat):List (Nat×FP×Bool)->JY
 | []=>[]
 |(p,x,w) :: l=>mW p (OM b n p) x w (yb b n l)
theorem rp(A:bF)(ops:Array Oper)(dD p:Nat)(wx:Bool):∀(l:List (Nat×FP×Bool)) (C:Prop),jl A ops dD p .none wx l C=C
 | [],C=>rfl
 |(q,y,wy) :: l,C=>by
  unfold jl;rw[rp A ops dD p wx l C];cases prec (Region.before ops) p q<;>rfl
theorem Dt(A:bF)(dD:Nat)(x:FP)(wx wy:Bool)(C:Prop):xI A dD x wx .none wy C=C:=by
 cases x<;>rfl
theorem j6(A:bF)(ops:Array Oper)(dD p:Nat)(x:FP)(wx:Bool):∀(l:List (Nat×FP×Bool)) (C:Prop),(∀e∈l,e.1<ops.size)->
  iR A dD (OM (Region.before ops) ops.size p) x wx (yb (Region.before ops) ops.size l) C=jl A ops dD p x wx l C
 | [],C,_=>rfl
 |(q,y,wy) :: l,C,h=>by
  have hq:q<ops.size:=h (q,y,wy) List.mem_cons_self;have ih:=j6 A ops dD p x wx l C (fun e he=>h e (List.mem_cons_of_mem _ he));unfold jl yb;cases y with
  |none=>
   simp only[mW,Dt];rw[ih];cases prec (Region.before ops) p q<;>rfl
  |block l' b'=>simp only[mW,iR,kV,sW hq,ih]
  |new l' b'=>simp only[mW,iR,kV,sW hq,ih]
  |all=>simp only[mW,iR,kV,sW hq,ih]
  |app c=>simp only[mW,iR,kV,sW hq,ih]
theorem Du(A:bF)(ops:Array Oper)(dD:Nat):∀(l:List (Nat×FP×Bool)) (C:Prop),(∀e∈l,e.1<ops.size)->rK A dD (yb (Region.before ops) ops.size l) C=qx A ops dD l C
 | [],C,_=>rfl
 |(p,x,wx) :: l,C,h=>by
  have hl:∀e∈l,e.1<ops.size:=fun e he=>h e (List.mem_cons_of_mem _ he)
  have ih:=Du A ops dD l C hl;unfold qx yb;cases x with
  |none=>simp only[mW,rp];exact ih
  |block l' b'=>simp only[mW,rK,ih];exact j6 A ops dD p _ wx l _ hl
  |new l' b'=>simp only[mW,rK,ih];exact j6 A ops dD p _ wx l _ hl
  |all=>simp only[mW,rK,ih];exact j6 A ops dD p _ wx l _ hl
  |app c=>simp only[mW,rK,ih];exact j6 A ops dD p _ wx l _ hl
theorem Hi(P:Unit->Program)(H:Hint)(A:bF)(f:FuncId)(nt:Nat)(ops:Array Oper)(base aO:Nat):∀(l:List Nat) (ds:List xZ),IW (P ()) H f nt ops (Region.before ops) l=some ds->
  ∀(i:Nat) (s:SS) (acc:JY) (Q:SS->List (Nat×FP×Bool)->Prop) (Q':SS->JY->Prop),(∀r il,(∀e∈il,e.1<ops.size)->Q' r (acc++yb (Region.before ops) ops.size il)=Q r il)->
  jP P A base aO ds i s acc Q'=kv P H A f nt ops base aO l i s Q
 | [],ds,h,i,s,acc,Q,Q',hq=>by
  simp only[IW,oi]at h;subst h;have:=hq s [] (fun e he=>by cases he);rw[yb,List.append_nil]at this;exact this
 |p :: l,ds,h,i,s,acc,Q,Q',hq=>by
  simp only[IW]at h;split at h
  ·rename_i o ho
   split at h
   ·rename_i x hx
    split at h
    ·rename_i r hr
     simp only[oi]at h;subst h;have hp:p<ops.size:=(Array.getElem?_eq_some_iff.1 ho).1;unfold vY at hx;split at hx
     ·rename_i g hg
      obtain⟨hb,hx⟩:=lF hx;subst hx;have ih:=Hi P H A f nt ops base aO l r hr;have app:∀(fp:FP) (w:Bool) (il:JY),ya p (OM (Region.before ops) ops.size p) fp w acc++il=acc++mW p (OM (Region.before ops) ops.size p) fp w il:=fun fp w il=>by
       cases fp<;>simp[ya,mW]
      have step:∀(qh:SS) (fp:FP) (w:Bool),jP P A base aO r (i+1) qh (ya p (OM (Region.before ops) ops.size p) fp w acc) Q'=kv P H A f nt ops base aO l (i+1) qh (fun r il=>Q r ((p,fp,w) :: il)):=fun qh fp w=>
       ih (i+1) qh _ _ _ (fun r il hf=>by
        rw[app];exact hq r ((p,fp,w) :: il) (fun e he=>by
         rcases List.mem_cons.1 he with rfl|he
         ·exact hp
         ·exact hf e he))
      have skip:∀(qh:SS),jP P A base aO r (i+1) qh acc Q'=kv P H A f nt ops base aO l (i+1) qh (fun r il=>Q r ((p,.none,false) :: il)):=fun qh=>step qh .none false
      have all:∀(qh:SS) (w:Bool),jP P A base aO r (i+1) qh (acc++[(p,OM (Region.before ops) ops.size p,.all,w)]) Q'=kv P H A f nt ops base aO l (i+1) qh (fun r il=>Q r ((p,.all,w) :: il)):=fun qh w=>step qh .all w
      simp only[jP,kv,kV,ho,u5 hg,put_eq hb,skip,R5,step,all];refine congrArg (fun K=>nN ops o s K _) (funext fun s=>?_);unfold Hg;cases hc:dP o.op with
      |none=>simp only[Dm]
      |some c=>
       obtain⟨x,hx⟩:=sV hc;simp only[hx,Ae hx,xY];cases jO A.yn s c<;>rfl
     ·cases hx
    ·cases h
   ·cases h
  ·cases h
inductive oB where
 |skip
 |ret
 |exit (id:Nat) (l:Option (List Tmp))
 |seq (a b:oB)
 |cond (x:Operand) (a b:oB)
 |block (id:Nat) (b:oB)
 |loop (key:Nat) (dG l:Option (List Tmp))
 |Oz (l:Option (List Tmp)) (ops:List fI)
 |draw (l:Option (List Tmp)) (n:Nat) (ops:List xZ)
 |range (key:Nat)
def Qz(dG:Option (List Tmp))(kn:Nat)(s:SS):Option SS:=
 match dG with
 |none=>some s
 |some l=>
  bif Nat.ble kn s.kn && l.all (fun t=>match lk s.env t with|some v=>su kn v|none=>false)then some { s with env:=pB s.env l,kn:=kn,K:=pB s.K (List.range kn) } else none
def uk(P:Unit->Program)(A:bF)(f:FuncId)(c:oB)(s:SS)(Q:Exit->SS->Prop):Prop:=
 match c with
 | .skip=>Q .normal s
 | .ret=>Q .ret s
 | .exit id l=>Q (.exit id) (fM s l)
 | .seq a b=>uk P A f a s (IN (fun s'=>uk P A f b s' Q) Q)
 | .cond x a b=>
  match ev s x with
  |some (.bool t)=>fork t (fun _=>uk P A f a s Q) (fun _=>uk P A f b s Q)
  |_=>False
 | .block id b=>uk P A f b s (FA id Q)
 | .loop key dG l=>
  match Qz dG s.kn s with
  |some s0=>A.head f key s.kn (fM s0 l) Q
  |none=>False
 | .Oz l ops=>fork (Nat.ble 10 ops.length) (fun _=>A.rH (fun _=>rJ P A ops (fM s l) (Q .normal))) (fun _=>rJ P A ops (fM s l) (Q .normal))
 | .draw l n ops=>A.rH fun _=>Hh P A n ops (fM s l) fun s'=>A.rH fun _=>Q .normal s'
 | .range key=>A.uh f key s Q
def dL(P:Program)(H:Hint)(V:Live)(f:FuncId)(nt:Nat):Code->Option oB
 | .skip=>some .skip
 | .ret=>some .ret
 | .exit id=>some (.exit id (V.dm f id))
 | .seq a b=>
  match dL P H V f nt a,dL P H V f nt b with
  |some x,some y=>some (.seq x y)
  |_,_=>none
 | .cond c a b=>
  match dL P H V f nt a,dL P H V f nt b with
  |some x,some y=>some (.cond c x y)
  |_,_=>none
 | .block id b=>match dL P H V f nt b with|some x=>some (.block id x)|none=>none
 | .loop b=>some (.loop (keyOf b) (H.dG f (keyOf b)) (V.loop f (keyOf b)))
 | .region id ops draw=>
  bif draw then
   bif nj ops (fQ ops)then
    match IW P H f nt ops (Region.before ops) (fQ ops)with
    |some l=>some (.draw (V.Oz f id) ops.size l)
    |none=>none
   else none
  else
   match pG P H f nt ops ops.toList with
   |some l=>some (.Oz (V.Oz f id) l)
   |none=>none
 | .rangeFunc _ _ as _=>some (.range (keyOf as))
 |_=>none
theorem yc(P:Unit->Program)(H:Hint)(A:bF)(IX:∀f,A.rH f=f ())(V:Live)(f:FuncId)(nt:Nat):∀(c:Code) (r:oB),dL (P ()) H V f nt c=some r->∀(s:SS) (Q:Exit->SS->Prop),uk P A f r s Q=wpS P H A V f nt c s Q:=by
 intro c
 induction c with
 |skip=>intro r h s Q;simp only[dL,oi]at h;subst h;rfl
 |ret=>intro r h s Q;simp only[dL,oi]at h;subst h;rfl
 |exit id=>intro r h s Q;simp only[dL,oi]at h;subst h;rfl
 |seq a b Bj sj=>
  intro r h s Q;simp only[dL]at h;split at h
  ·rename_i x y hx hy
   simp only[oi]at h;subst h;have eb:(fun s'=>uk P A f y s' Q)=(fun s'=>wpS P H A V f nt b s' Q):=funext fun s'=>sj y hy s' Q
   simp only[uk,wpS];rw[eb];exact Bj x hx s _
  ·cases h
 |cond c a b Bj sj=>
  intro r h s Q;simp only[dL]at h;split at h
  ·rename_i x y hx hy
   simp only[oi]at h;subst h;simp only[uk,wpS];cases ev s c with
   |none=>rfl
   |some v=>
    cases v with
    |bool t=>simp only[Bj x hx,sj y hy]
    |_=>rfl
  ·cases h
 |block id b ih=>
  intro r h s Q;simp only[dL]at h;split at h
  ·rename_i x hx
   simp only[oi]at h;subst h;exact ih x hx s _
  ·cases h
 |loop b ih=>intro r h s Q;simp only[dL,oi]at h;subst h;rfl
 |region id ops draw=>
  intro r h s Q;simp only[dL]at h;cases draw with
  |true=>
   simp only[cond_true]at h;obtain⟨hb,h⟩:nj ops (fQ ops)=true/\(match IW (P ()) H f nt ops (Region.before ops) (fQ ops)with|some l=>some (oB.draw (V.Oz f id) ops.size l)|none=>none)=some r:=by
    cases hb:nj ops (fQ ops)with
    |false=>rw[hb]at h;cases h
    |true=>rw[hb]at h;exact⟨rfl,h⟩
   split at h
   ·rename_i l hl
    simp only[oi]at h;subst h;simp only[uk,wpS,cond_true,Be,Hh,hb,IX];exact Hi P H A f nt ops _ _ (fQ ops) l hl 0 _ [] _ _ (fun r il hf=>by rw[List.nil_append];exact Du A ops _ il _ hf)
   ·cases h
  |false=>
   simp only[cond_false]at h;split at h
   ·rename_i l hl
    simp only[oi]at h;subst h;simp only[uk,wpS,cond_false,IX,kV,Bool.cond_self];exact u6 P H A f nt ops ops.toList l hl _ _
   ·cases h
 |rangeFunc x ps as bo _ _=>intro r h s Q;simp only[dL,oi]at h;subst h;rfl
 |_=>intro r h;cases h
inductive IY where
 |tmp (t:Tmp)
 |agg (t:Tmp) (n:Nat) (vs:List Sv)
 |one (t:Tmp) (v:Sv)
structure Hj where
 dG:Option (List Tmp)
 l:Option (List Tmp)
 body:oB
structure FJ where
 x:Operand
 ps:List Tmp
 as:oB
 bo:oB
structure lG where
 body:oB
 res:List IY
 loops:List (Nat×Hj)
 YE:List (Nat×FJ)
def nR(A:bF)(s:SS):List IY->(List Value->Prop)->Prop
 | [],C=>C []
 | .tmp t :: r,C=>
  match lk s.env t with
  |some v=>nR A s r fun l=>C (v :: l)
  |none=>False
 | .agg a n vs :: r,C=>
  match lk s.env a with
  |some (.pointer (some x))=>mC A s x n vs fun l=>nR A s r fun l'=>C (.agg l.toArray :: l')
  |_=>False
 | .one a v :: r,C=>
  match lk s.env a with
  |some (.pointer (some x))=>mC A s x 1 [v] fun l=>
   match l with
   | [v]=>nR A s r fun l'=>C (v :: l')
   |_=>False
  |_=>False
def pH(P:Program):List ResultVar->Option (List IY)
 | []=>some []
 | .tmp t :: r=>match pH P r with|some l=>some (.tmp t :: l)|none=>none
 | .cell a t :: r=>
  match pH P r with
  |some l=>
   match iE P t with
   |some true=>match bS P t with|some n=>some (.agg a n (fG (fun _=>P) 12 t) :: l)|none=>none
   |some false=>some (.one a (De (P.underlying t)) :: l)
   |none=>none
  |none=>none
theorem um(P:Unit->Program)(A:bF)(s:SS):∀(rs:List ResultVar) (l:List IY),pH (P ()) rs=some l->∀C,nR A s l C=oz P A s rs C
 | [],l,h,C=>by simp only[pH,oi]at h;subst h;rfl
 | .tmp t :: r,l,h,C=>by
  simp only[pH]at h;split at h
  ·rename_i l' hl
   simp only[oi]at h;subst h;simp only[nR,oz,um P A s r l' hl];cases lk s.env t<;>rfl
  ·cases h
 | .cell a t :: r,l,h,C=>by
  simp only[pH]at h;split at h
  ·rename_i l' hl
   have ih:=um P A s r l' hl;split at h
   ·rename_i ha
    split at h
    ·rename_i n hn
     simp only[oi]at h;subst h;simp only[nR,oz,ih,pD,ha,hn,nQ];cases lk s.env a with
     |none=>rfl
     |some v=>
      cases v with
      |pointer x=>cases x<;>rfl
      |_=>rfl
    ·cases h
   ·rename_i ha
    simp only[oi]at h;subst h;simp only[nR,oz,ih,pD,ha];cases lk s.env a with
    |none=>rfl
    |some v=>
     cases v with
     |pointer x=>
      cases x with
      |none=>rfl
      |some x=>
       refine congrArg (mC A s x 1 [De ((P ()).underlying t)]) (funext fun l=>?_);cases l with
       |nil=>rfl
       |cons v r=>cases r<;>rfl
     |_=>rfl
   ·cases h
  ·cases h
def pI(P:Program)(H:Hint)(V:Live)(f:FuncId)(nt:Nat):List Code->Option (List (Nat×Hj))
 | []=>some []
 |b :: r=>
  match dL P H V f nt b,pI P H V f nt r with
  |some x,some l=>bif (r.all fun c=>!(Nat.beq (keyOf c) (keyOf b)))then some ((keyOf b,⟨H.dG f (keyOf b),V.loop f (keyOf b),x⟩) :: l)else none
  |_,_=>none
def qA(P:Program)(H:Hint)(V:Live)(f:FuncId)(nt:Nat):List (Operand×Array Tmp×Code×Code)->Option (List (Nat×FJ))
 | []=>some []
 |(x,ps,as,bo) :: r=>
  match dL P H V f nt as,dL P H V f nt bo,qA P H V f nt r with
  |some a,some b,some l=>bif (r.all fun c=>!(Nat.beq (keyOf c.2.2.1) (keyOf as))) && bA as && bA bo && ps.toList.all (fun t=>Nat.blt t nt)then some ((keyOf as,⟨x,ps.toList,a,b⟩) :: l)else none
  |_,_,_=>none
def fE(P:Program)(H:Hint)(V:Live)(f:FuncId)(fn:Func):Option lG:=
 match fn.body with
 |some c=>
  match dL P H V f fn.ntmps c,pH P fn.results.toList,pI P H V f fn.ntmps (bD c),qA P H V f fn.ntmps (bE c)with
  |some b,some r,some l,some g=>some ⟨b,r,l,g⟩
  |_,_,_,_=>none
 |none=>none
theorem oC{P:Program}{H:Hint}{V:Live}{f:FuncId}{nt:Nat}:∀{l:List (Operand×Array Tmp×Code×Code)} {ls:List (Nat×FJ)},qA P H V f nt l=some ls->∀r∈l,xS r
 | [],ls,h,r,hr=>by cases hr
 |(x,ps,as,bo) :: l,ls,h,r,hr=>by
  simp only[qA]at h;split at h
  ·rename_i a b l' ha hb hl
   obtain⟨hc,h⟩:=lF h;simp only[Bool.and_eq_true]at hc;rcases List.mem_cons.1 hr with rfl|hr
   ·exact⟨hc.1.1.2,hc.1.2⟩
   ·exact oC hl r hr
  ·cases h
def U1(A:bF)(rs:List IY)(Q:Value->af->Prop):Exit->SS->Prop
 | .normal,s=>nR A s rs fun l=>bif l.all dr then Q (je l) s.h else False
 | .ret,s=>nR A s rs fun l=>bif l.all dr then Q (je l) s.h else False
 |_,_=>False
def FL(P:Unit->Program)(A:bF)(g:FuncId)(r:lG)(args:List Value)(h:af)(Q:Value->af->Prop):Prop:=
 uk P A g r.body ⟨rk args 0 [],0,[],h⟩ (U1 A r.res Q)
def Bm(P:Unit->Program)(A:bF)(f:FuncId)(r:lG)(key kn:Nat)(s:SS)(Q:Exit->SS->Prop):Prop:=
 match lk r.loops key with
 |some b=>uk P A f b.body s (IN (fun s'=>
   match Qz b.dG kn s' with
   |some s1=>A.head f key kn (fM s1 b.l) Q
   |none=>False) Q)
 |none=>False
theorem ON(P:Unit->Program)(A:bF){rs:List ResultVar}{l:List IY}(h:pH (P ()) rs=some l)(Q:Value->af->Prop):U1 A l Q=R2 P A rs Q:=by
 funext x s
 cases x<;>first|rfl|exact um P A s rs l h _
theorem IZ{P:Unit->Program}{H:Hint}{V:Live}{g:FuncId}{fn:Func}{r:lG}(h:fE (P ()) H V g fn=some r){A:bF}(IX:∀f,A.rH f=f ()){args:List Value}{hp:af}{Q:Value->af->Prop}(hw:FL P A g r args hp Q):Df P H A V g fn args hp Q:=by
 unfold fE at h;unfold Df;split at h
 ·rename_i c hc
  rw[hc];simp only[];split at h
  ·rename_i b rs l gs hb hr hl hgs
   simp only[oi]at h;subst h;unfold FL at hw;rw[ON P A hr]at hw;rw[yc P H A IX V g fn.ntmps c b hb]at hw;exact hw
  ·cases h
 ·cases h
theorem rr{P:Program}{H:Hint}{V:Live}{f:FuncId}{nt:Nat}:∀{l:List Code} {ls:List (Nat×Hj)},pI P H V f nt l=some ls->∀{key:Nat} {x:Hj},lk ls key=some x->
  ∃b,l.filter (fun b=>Nat.beq (keyOf b) key)=[b]/\keyOf b=key/\dL P H V f nt b=some x.body/\x.dG=H.dG f key/\x.l=V.loop f key
 | [],ls,h,key,x,hx=>by
  simp only[pI,oi]at h;subst h;cases hx
 |b :: r,ls,h,key,x,hx=>by
  simp only[pI]at h;split at h
  ·rename_i y l hy hl
   obtain⟨hb,h⟩:=lF h;subst h;simp only[lk]at hx;cases hk:Nat.beq (keyOf b) key with
   |true=>
    rw[hk]at hx;simp only[cond_true,oi]at hx;subst hx;have e:=Nat.eq_of_beq_eq_true hk;refine⟨b,?_,e,hy,by rw[e],by rw[e]⟩;rw[List.filter_cons_of_pos (by simpa using hk)]
    congr 1
    rw[List.filter_eq_nil_iff];intro c hc;have:=List.all_eq_true.1 hb c hc;rw[<-e];have h9:Nat.beq (keyOf c) (keyOf b)=false:=by
     cases h8:Nat.beq (keyOf c) (keyOf b)with
     |false=>rfl
     |true=>rw[h8]at this;cases this
    rw[h9];exact Bool.false_ne_true
   |false=>
    rw[hk]at hx;simp only[cond_false]at hx;obtain⟨b',h1,h2⟩:=rr hl hx;refine⟨b',?_,h2⟩;rw[List.filter_cons_of_neg (by rw[hk];exact Bool.false_ne_true)];exact h1
  ·cases h
theorem FM{P:Unit->Program}{H:Hint}{V:Live}{f:FuncId}{fn:Func}{r:lG}(h:fE (P ()) H V f fn=some r){A:bF}(IX:∀f,A.rH f=f ()){key kn:Nat}{s:SS}{Q:Exit->SS->Prop}(hw:Bm P A f r key kn s Q):Bf P H A V f fn key kn s Q:=by
 unfold fE at h;unfold Bf;split at h
 ·rename_i c hc
  rw[hc];simp only[];split at h
  ·rename_i b rs l gs hb hr hl hgs
   simp only[oi]at h;subst h;unfold Bm at hw;simp only[]at hw;split at hw
   ·rename_i x hx
    obtain⟨b',h1,h2,h3,h4,h5⟩:=rr hl hx;rw[h1];simp only[];unfold vV;rw[yc P H A IX V f fn.ntmps b' x.body h3]at hw;rw[h4,h5]at hw;subst h2;exact⟨oC hgs,hw⟩
   ·exact hw.elim
  ·cases h
 ·cases h
theorem AOK.aN{P:Unit->Program}{H:Hint}{F:aZ}{A:bF}(hA:AOK P H F A){V:Live}{g:FuncId}{fn:Func}{r:lG}{args:List Value}{h:af}{Q:Value->af->Prop}(hf:(P ()).funcs[g]?=some fn)(hr:fE (P ()) H V g fn=some r)(hn:F g args h=none)(hl:h.low<=h.next)(hw:FL P A g r args h Q)(hg:g<aV:=by decide):A.call g args h Q:=
 hA.body V hg hf hn hl (IZ hr (fun f=>by rw[hA.eq];rfl) hw)
theorem AOK.ar{P:Unit->Program}{H:Hint}{F:aZ}{A:bF}(hA:AOK P H F A){V:Live}{f:FuncId}{fn:Func}{r:lG}(yY:(P ()).funcs[f]?=some fn)(hr:fE (P ()) H V f fn=some r){key kn:Nat}{s:SS}{Q:Exit->SS->Prop}(hw:Bm P A f r key kn s Q):A.head f key kn s Q:=
 hA.round V yY (FM hr (fun f=>by rw[hA.eq];rfl) hw)
