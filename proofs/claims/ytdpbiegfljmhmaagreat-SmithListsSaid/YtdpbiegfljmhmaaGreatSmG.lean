import Derived.Test.YtdpbiegfljmhmaaGreatSymA
import Derived.Test.YtdpbiegfljmhmaaGreatSimD
set_option linter.unusedSimpArgs false
set_option linter.unusedVariables false
namespace Go.cV
inductive UA where
 |cI (o:Op)
 |new (n:Nat) (cs:List Value)
 |box (n:Nat) (x:Operand)
 |build (z:List Value) (parts:List (Nat×Nat×Operand))
 |buildSlice (n len:Nat) (z:List Value) (parts:List (Nat×Nat×Operand))
 |load (n:Nat) (vs:List Sv) (x:Operand)
 |aM (v:Sv) (x:Operand)
 |store (n:Nat) (x y:Operand)
 |nF (k:IntKind) (x:Operand)
 |mkSlice (n:Nat) (z:List Value) (l c:Operand)
 |Wu (t:TypeId) (x:Operand) (lo hi mx:Option Operand)
 |fieldAddr (off:Nat) (x:Operand)
 |MY (off n:Nat) (x:Operand)
 |MZ (off:Nat) (x:Operand)
 |qY (n:Nat) (x i:Operand)
 |wH (len n:Nat) (x i:Operand)
 |lg (x:Operand)
 |M0 (x:Operand)
def oG(place:Nat->Option (Nat×Nat)):List (Nat×Operand)->Option (List (Nat×Nat×Operand))
 | []=>some []
 |(i,x) :: r=>
  match place i with
  |some (o,n)=>
   match oG place r with
   |some l=>some ((o,n,x) :: l)
   |none=>none
  |none=>none
def ky(s:SS):List (Nat×Nat×Operand)->Option (List (Nat×Nat×Value))
 | []=>some []
 |(o,n,x) :: r=>
  match ev s x with
  |some v=>
   match ky s r with
   |some l=>some ((o,n,v) :: l)
   |none=>none
  |none=>none
def Ev:List Value->List (Nat×Nat×Value)->Option (List Value)
 |cells,[]=>some cells
 |cells,(off,size,v) :: rest=>
  bif Nat.beq v.cells.toList.length size && v.cells.toList.all aF then
   match mM cells off v.cells.toList with
   |some cs=>Ev cs rest
   |none=>none
  else none
theorem oH{place:Nat->Option (Nat×Nat)}{s:SS}:∀{l:List (Nat×Operand)} {l3:List (Nat×Nat×Operand)},oG place l=some l3->
  (jZ s l=none/\ky s l3=none)\/∃lv OW,jZ s l=some lv/\ky s l3=some OW/\∀cells,iI place cells lv=Ev cells OW
 | [],l3,h=>by
  simp only[oG,oi]at h;subst h;exact .inr ⟨[],[],rfl,rfl,fun _=>rfl⟩
 |(i,x) :: r,l3,h=>by
  simp only[oG]at h;split at h
  ·rename_i o n hp
   split at h
   ·rename_i l hl
    simp only[oi]at h;subst h;cases hx:ev s x with
    |none=>exact .inl ⟨by simp only[jZ,hx],by simp only[ky,hx]⟩
    |some v=>
     rcases oH (s:=s) hl with ⟨h1,h2⟩|⟨lv,OW,h1,h2,h3⟩
     ·exact .inl ⟨by simp only[jZ,hx,h1],by simp only[ky,hx,h2]⟩
     ·refine .inr ⟨(i,v) :: lv,(o,n,v) :: OW,by simp only[jZ,hx,h1],by simp only[ky,hx,h2],fun cells=>?_⟩
      simp only[iI,Ev,hp];cases hb:(Nat.beq v.cells.toList.length n && v.cells.toList.all aF)with
      |false=>rfl
      |true=>
       simp only[cond_true];cases hs:mM cells o v.cells.toList with
       |none=>rfl
       |some cs=>exact h3 cs
   ·cases h
  ·cases h
def iy(P:Unit->Program)(A:bH)(mk:kF)(loc:Bool)(r:UA)(s:SS)(C:Value->SS->Prop):Prop:=
 match r with
 | .cI o=>wpOp P A mk loc o s C
 | .new n cs=>mk loc n cs s C
 | .box n x=>
  match ev s x with
  |some v=>bif v.cells.toList.all aF then mk loc n v.cells.toList s C else False
  |none=>False
 | .build z parts=>
  match ky s parts with
  |some l=>match Ev z l with|some cs=>C (.agg cs.toArray) s|none=>False
  |none=>False
 | .buildSlice n len z parts=>
  match ky s parts with
  |some l=>
   match Ev z l with
   |some cs=>
    bif cs.all aF then
     mk false n cs s fun v s'=>
      match v with
      | .pointer (some a)=>C (.slice (some a) len len) s'
      |_=>False
    else False
   |none=>False
  |none=>False
 | .load n vs x=>
  match ev s x with
  |some (.pointer (some a))=>mS A s a n vs fun l=>C (.agg l.toArray) s
  |_=>False
 | .aM v x=>
  match ev s x with
  |some (.pointer (some a))=>mS A s a 1 [v] fun l=>
   match l with
   | [v]=>C v s
   |_=>False
  |_=>False
 | .store n x y=>
  match ev s x,ev s y with
  |some (.pointer (some a)),some v=>bif Nat.beq v.cells.toList.length n then wD A s a v.cells.toList (fun s'=>C undef s')else False
  |_,_=>False
 | .nF k x=>
  match ev s x with
  |some (.int _ n)=>C (.int k (A.conv k n)) s
  |_=>False
 | .mkSlice n z l c=>
  match ev s l,ev s c with
  |some (.int _ l),some (.int _ c)=>
   A.v9 l c/\A.sj fun _=>mk false n (A.iW z c) s fun v s'=>
    match v with
    | .pointer (some a)=>C (.slice (some a) (A.nat l) (A.nat c)) s'
    |_=>False
  |_,_=>False
 | .Wu t x lo hi mx=>
  match ev s x,p8 s lo,p8 s hi,p8 s mx with
  |some (.slice a n c),some lo,some hi,some mx=>
   match lo,hi,mx with
   |none,some (.int _ j),none=>A.cut c j/\A.sj fun _=>C (.slice a (A.nat j) c) s
   |lo,hi,mx=>A.BS t (.slice a n c) lo hi mx fun a' n' c'=>C (.slice a' n' c') s
  |_,_,_,_=>False
 | .fieldAddr off x=>
  match ev s x with
  |some (.pointer (some a))=>
   match a.spot with
   |none=>C (.pointer (some ⟨a.block,A.bZ a.off off,none⟩)) s
   |some x=>C (.pointer (some ⟨a.block,a.off+off,some x⟩)) s
  |_=>False
 | .MY off n x=>
  match ev s x with
  |some (.agg cs)=>match ke cs.toList off n with|some l=>C (.agg l.toArray) s|none=>False
  |_=>False
 | .MZ off x=>
  match ev s x with
  |some (.agg cs)=>match cs.toList[off]? with|some v=>C v s|none=>False
  |_=>False
 | .qY n x i=>
  match ev s x,ev s i with
  |some (.slice a len _),some (.int _ i)=>∃b o,a=some ⟨b,o,none⟩/\A.HP i len/\C (.pointer (some ⟨b,A.place o i n,none⟩)) s
  |_,_=>False
 | .wH len n x i=>
  match ev s x,ev s i with
  |some (.pointer (some a)),some (.int _ i)=>A.HP i len/\A.sj fun _=>C (.pointer (some ⟨a.block,A.place a.off i n,a.spot⟩)) s
  |_,_=>False
 | .lg x=>
  match ev s x with
  |some (.slice _ n _)=>C (.int .i64 (A.ofNat n)) s
  |_=>False
 | .M0 x=>
  match ev s x with
  |some (.string b)=>C (.int .i64 (A.Gi b)) s
  |_=>False
def M3(P:Program)(o:Op):UA:=
 match o with
 | .alloc e=>
  match iv P e,bY P e with
  |some z,some n=>bif z.cells.toList.all aF then .new n z.cells.toList else .cI o
  |_,_=>.cI o
 | .box e x=>match bY P e with|some n=>.box n x|none=>.cI o
 | .build t parts=>
  match iv P t,P.underlying t with
  |some z,some (.struct fs)=>
   bif fs.toList.all (fun f=>(P.info? f.type).isSome)then
    match oG (iV P fs.toList) parts.toList with
    |some l=>.build z.cells.toList l
    |none=>.cI o
   else .cI o
  |some z,some (.array _ e)=>
   match bY P e with
   |some n=>
    match oG (fun i=>some (i*n,n)) parts.toList with
    |some l=>.build z.cells.toList l
    |none=>.cI o
   |none=>.cI o
  |_,_=>.cI o
 | .buildSlice t len parts=>
  match P.underlying t with
  |some (.slice e)=>
   match bY P e,iv P e with
   |some n,some z=>
    bif Nat.ble (len*n) 16777216 && Nat.beq z.cells.toList.length n && Nat.ble len 16777216 then
     match oG (fun i=>some (i*n,n)) parts.toList with
     |some l=>.buildSlice n len (bE z.cells.toList len) l
     |none=>.cI o
    else .cI o
   |_,_=>.cI o
  |_=>.cI o
 | .load t x=>
  match iP P t with
  |some true=>match bY P t with|some n=>.load n (fK (fun _=>P) 12 t) x|none=>.cI o
  |some false=>.aM (DY (P.underlying t)) x
  |none=>.cI o
 | .store t x y=>match bY P t with|some n=>.store n x y|none=>.cI o
 | .convert src dst x=>
  match P.underlying src,P.underlying dst with
  |some _,some (.int k)=>.nF k x
  |_,_=>.cI o
 | .makeSlice t l c=>
  match P.underlying t with
  |some (.slice e)=>
   match bY P e,iv P e,pC P e with
   |some n,some z,some by_=>bif Nat.ble by_ 16384 && Nat.beq z.cells.toList.length n && z.cells.toList.all aF then .mkSlice n z.cells.toList l c else .cI o
   |_,_,_=>.cI o
  |_=>.cI o
 | .slice t x lo hi mx=>
  match P.underlying t with
  |some (.slice e)=>bif (bY P e).isSome then .Wu t x lo hi mx else .cI o
  |_=>.cI o
 | .fieldAddr t x f=>
  match P.underlying t with
  |some (.struct fs)=>
   match fs.toList[f]? with
   |some fd=>match bY P fd.type with|some n=>bif Nat.beq n 0 then .cI o else .fieldAddr fd.offset x|none=>.cI o
   |none=>.cI o
  |_=>.cI o
 | .field t x f=>
  match P.underlying t with
  |some (.struct fs)=>
   match fs.toList[f]? with
   |some fd=>
    match iP P fd.type with
    |some true=>match bY P fd.type with|some n=>.MY fd.offset n x|none=>.cI o
    |some false=>.MZ fd.offset x
    |none=>.cI o
   |none=>.cI o
  |_=>.cI o
 | .indexAddr t x i=>
  match P.underlying t with
  |some (.slice e)=>match bY P e with|some n=>.qY n x i|none=>.cI o
  |some (.array len e)=>match bY P e with|some n=>.wH len n x i|none=>.cI o
  |_=>.cI o
 | .call { callee:=.builtin .len,args,argTypes }=>
  match args.toList,argTypes.toList with
  | [x],[t]=>
   match P.underlying t with
   |some (.slice _)=>.lg x
   |some .string=>.M0 x
   |_=>.cI o
  |_,_=>.cI o
 |_=>.cI o
set_option maxHeartbeats 1000000 in
theorem Ew(P:Unit->Program)(A:bH)(mk:kF)(loc:Bool)(o:Op)(s:SS)(C:Value->SS->Prop):iy P A mk loc (M3 (P ()) o) s C=wpOp P A mk loc o s C:=by
 unfold M3;split
 ·
  split
  ·rename_i z n hz hn
   cases hb:z.cells.toList.all aF with
   |false=>rfl
   |true=>simp only[cond_true,iy,wpOp,hz,hn,hb]
  ·rfl
 ·
  split
  ·rename_i n hn
   simp only[iy,wpOp,hn];cases ev s _<;>rfl
  ·rfl
 ·
  split
  ·rename_i z fs hz hu
   cases hb:fs.toList.all (fun f=>((P ()).info? f.type).isSome)with
   |false=>rfl
   |true=>
    simp only[cond_true];split
    ·rename_i l hl
     simp only[iy,wpOp,ux,hz,hu,hb,cond_true];rcases oH (s:=s) hl with ⟨h1,h2⟩|⟨lv,OW,h1,h2,h3⟩
     ·rw[h1,h2]
     ·rw[h1,h2]
      simp only[h3];cases Ev z.cells.toList OW<;>rfl
    ·rfl
  ·rename_i z x e hz hu
   split
   ·rename_i n hn
    split
    ·rename_i l hl
     simp only[iy,wpOp,ux,hz,hu,hn];rcases oH (s:=s) hl with ⟨h1,h2⟩|⟨lv,OW,h1,h2,h3⟩
     ·rw[h1,h2]
     ·rw[h1,h2]
      simp only[h3];cases Ev z.cells.toList OW<;>rfl
    ·rfl
   ·rfl
  ·rfl
 ·
  split
  ·rename_i e hu
   split
   ·rename_i n z hn hz
    cases hb:(Nat.ble (_*n) 16777216 && Nat.beq z.cells.toList.length n && Nat.ble _ 16777216)with
    |false=>rfl
    |true=>
     simp only[cond_true];split
     ·rename_i l hl
      simp only[iy,wpOp,kZ,hu,hn,hz,hb,cond_true];rcases oH (s:=s) hl with ⟨h1,h2⟩|⟨lv,OW,h1,h2,h3⟩
      ·rw[h1,h2]
      ·rw[h1,h2]
       simp only[h3];cases Ev _ OW with
       |none=>rfl
       |some cs=>
        refine congrArg (fun K=>bif cs.all aF then mk false n cs s K else False) (funext fun v=>funext fun s'=>?_);cases v with
        |pointer a=>cases a<;>rfl
        |_=>rfl
     ·rfl
   ·rfl
  ·rfl
 ·
  split
  ·rename_i ha
   split
   ·rename_i n hn
    simp only[iy,wpOp,qe,ha,hn];rfl
   ·rfl
  ·rename_i ha
   simp only[iy,wpOp,qe,ha];cases ev s _ with
   |none=>rfl
   |some v=>
    cases v with
    |pointer a=>
     cases a with
     |none=>rfl
     |some a=>
      refine congrArg (mS A s a 1 [DY ((P ()).underlying _)]) (funext fun l=>?_);cases l with
      |nil=>rfl
      |cons v r=>cases r<;>rfl
    |_=>rfl
  ·rfl
 ·
  split
  ·rename_i n hn
   simp only[iy,wpOp,wE,hn];cases ev s _ with
   |none=>rfl
   |some v=>
    cases ev s _ with
    |none=>
     cases v with
     |pointer a=>cases a<;>rfl
     |_=>rfl
    |some u=>
     cases v with
     |pointer a=>cases a<;>rfl
     |_=>rfl
  ·rfl
 ·
  split
  ·rename_i d k h1 h2
   simp only[iy,wpOp,BT,h1,h2];cases ev s _ with
   |none=>rfl
   |some v=>cases v<;>rfl
  ·rfl
 ·
  split
  ·rename_i e hu
   split
   ·rename_i n z by_ hn hz hy
    cases hb:(Nat.ble by_ 16384 && Nat.beq z.cells.toList.length n && z.cells.toList.all aF)with
    |false=>rfl
    |true=>
     simp only[cond_true,iy,wpOp,mG,hu,hn,hz,hy,hb];cases ev s _ with
     |none=>rfl
     |some v=>
      cases ev s _ with
      |none=>cases v<;>rfl
      |some u=>
       cases v with
       |int k l=>
        cases u with
        |int k' c=>
         simp only[hn,hz,hy,hb,cond_true];refine congrArg (fun K=>A.v9 l c/\A.sj fun _=>mk false n (A.iW z.cells.toList c) s K) (funext fun v=>funext fun s'=>?_);cases v with
         |pointer a=>cases a<;>rfl
         |_=>rfl
        |_=>rfl
       |_=>cases u<;>rfl
   ·rfl
  ·rfl
 ·
  split
  ·rename_i e hu
   cases hb:(bY (P ()) e).isSome with
   |false=>rfl
   |true=>
    simp only[cond_true,iy,wpOp,wF,hu,hb];cases ev s _ with
    |none=>rfl
    |some v=>
     cases p8 s _ with
     |none=>cases v<;>rfl
     |some a=>
      cases p8 s _ with
      |none=>cases v<;>rfl
      |some b=>
       cases p8 s _ with
       |none=>cases v<;>rfl
       |some c=>
        cases v with
        |slice ad n cc=>
         simp only[hb,cond_true];cases a with
         |some a=>cases b<;>cases c<;>rfl
         |none=>
          cases b with
          |none=>cases c<;>rfl
          |some b=>
           cases c with
           |some c=>cases b<;>rfl
           |none=>cases b<;>rfl
        |_=>rfl
  ·rfl
 ·
  split
  ·rename_i fs hu
   split
   ·rename_i fd hf
    split
    ·rename_i n hn
     cases hb:Nat.beq n 0 with
     |true=>rfl
     |false=>
      simp only[cond_false,iy,wpOp,mF,hu,hf,hn,hb];cases ev s _ with
      |none=>rfl
      |some v=>
       cases v with
       |pointer a=>
        cases a with
        |none=>rfl
        |some a=>simp only[hf,hn,hb,cond_false];cases a.spot<;>rfl
       |_=>rfl
    ·rfl
   ·rfl
  ·rfl
 ·
  split
  ·rename_i fs hu
   split
   ·rename_i fd hf
    split
    ·rename_i ha
     split
     ·rename_i n hn
      simp only[iy,wpOp,uy,kL,hu,hf,ha,hn];cases ev s _ with
      |none=>rfl
      |some v=>
       cases v with
       |agg cs=>simp only[hf,ha,hn];cases ke cs.toList fd.offset n<;>rfl
       |_=>rfl
     ·rfl
    ·rename_i ha
     simp only[iy,wpOp,uy,kL,hu,hf,ha];cases ev s _ with
     |none=>rfl
     |some v=>
      cases v with
      |agg cs=>simp only[hf,ha];cases cs.toList[fd.offset]?<;>rfl
      |_=>rfl
    ·rfl
   ·rfl
  ·rfl
 ·
  split
  ·rename_i e hu
   split
   ·rename_i n hn
    simp only[iy,wpOp,kq,hu,hn];cases ev s _ with
    |none=>rfl
    |some v=>
     cases ev s _ with
     |none=>cases v<;>rfl
     |some u=>cases v<;>cases u<;>first|rfl|simp only[hn]
   ·rfl
  ·rename_i len e hu
   split
   ·rename_i n hn
    simp only[iy,wpOp,kq,hu,hn];cases ev s _ with
    |none=>rfl
    |some v=>
     cases ev s _ with
     |none=>
      cases v with
      |pointer a=>cases a<;>rfl
      |_=>rfl
     |some u=>
      cases v with
      |pointer a=>cases a<;>cases u<;>first|rfl|simp only[hn]
      |_=>cases u<;>rfl
   ·rfl
  ·rfl
 ·
  split
  ·rename_i args argTypes x t hx ht
   split
   ·rename_i e hu
    simp only[iy,wpOp,hx,ht,zL,ym,hu];cases ev s _ with
    |none=>rfl
    |some v=>simp only[ym,hu];cases v<;>rfl
   ·rename_i hu
    simp only[iy,wpOp,hx,ht,zL,ym,hu];cases ev s _ with
    |none=>rfl
    |some v=>simp only[ym,hu];cases v<;>rfl
   ·rfl
  ·rfl
 ·rfl
end Go.cV
namespace Go.cV
inductive VV where
 |agg (l:List Sv)
 |one (v:Sv)
inductive yJ where
 |mH (l:List VV)
 |val (v:VV)
def P3:VV->(Value->Prop)->Prop
 | .agg l,C=>VQ l fun l=>C (.agg l.toArray)
 | .one v,C=>VP v C
def Ik:List VV->(List Value->Prop)->Prop
 | [],C=>C []
 |t :: r,C=>P3 t fun v=>Ik r fun l=>C (v :: l)
def RQ:yJ->Value->(Value->Prop)->Prop
 | .mH l,v,C=>Ik l fun l=>v=.tuple l.toArray/\C (.tuple l.toArray)
 | .val t,v,C=>P3 t fun u=>v=u/\C u
def yT(w:Option yJ)(v:Value)(C:Value->Prop):Prop:=
 match w with
 |none=>C v
 |some w=>RQ w v C
def M4(P:Program)(t:TypeId):VV:=
 match iP P t with
 |some true=>.agg (fK (fun _=>P) 12 t)
 |_=>.one (DY (P.underlying t))
def Il(P:Program)(t:TypeId):yJ:=
 match P.underlying t with
 |some (.tuple ts)=>.mH (ts.toList.map (M4 P))
 |_=>.val (M4 P t)
theorem oI(P:Unit->Program):∀(d:Nat) (t:TypeId),fK (fun _=>P ()) d t=fK P d t
 |0,_=>rfl
 |d+1,t=>by
  unfold fK;have ih:=oI P d;have Wv:fK (fun _=>P ()) d=fK P d:=funext ih;rw[Wv]
theorem Cs(P:Unit->Program)(t:TypeId)(C:Value->Prop):P3 (M4 (P ()) t) C=Rh P t C:=by
 unfold M4 Rh;cases iP (P ()) t with
 |none=>rfl
 |some b=>
  cases b with
  |false=>rfl
  |true=>simp only[P3,oI]
theorem Ey(P:Unit->Program):∀(ts:List TypeId) (C:List Value->Prop),Ik (ts.map (M4 (P ()))) C=LV P ts C
 | [],C=>rfl
 |t :: r,C=>by
  simp only[List.map_cons,Ik,LV,Cs];exact congrArg _ (funext fun v=>Ey P r _)
theorem M5(P:Unit->Program)(t:TypeId)(v:Value)(C:Value->Prop):RQ (Il (P ()) t) v C=seen P t v C:=by
 unfold Il seen;cases(P ()).underlying t with
 |none=>exact Cs P _ _
 |some d=>cases d<;>first|exact Ey P _ _|exact Cs P _ _
inductive RDo where
 |op (loc:Bool) (r:UA)
 |call (x:Operand) (args:List Operand) (v:Option yJ)
structure fN where
 dst:Option Nat
 guard:Option (Nat×Bool)
 act:RDo
def wJ(yn:Nat->Nat)(s:SS)(x:Operand)(args:List Operand):Option (FuncId×List Value):=
 match ev s x,zL s args with
 |some (.func (.func f) first captured),some l=>bif l.all dA && Nat.blt f aW then some (f,first.toList++l++captured.toList)else none
 |some (.func (.yield y) _ _),some l=>bif l.all dA then some (yn y,l)else none
 |_,_=>none
def To(P:Unit->Program)(A:bH)(a:RDo)(s:SS)(C:Value->SS->Prop):Prop:=
 match a with
 | .op loc r=>iy P A (Px A) loc r s C
 | .call x args w=>
  match wJ A.yn s x args with
  |some (g,l)=>A.call g l s.h fun v h'=>yT w v fun v=>C v { s with h:=h' }
  |none=>False
def vK(s:SS)(dst:Option Tmp)(v:Value)(C:SS->Prop):Prop:=
 match dst with
 |none=>C s
 |some d=>C { s with env:=(d,v) :: s.env }
def tJ(g:Option (Nat×Bool))(s:SS)(go skip:SS->Prop):Prop:=
 match g with
 |none=>go s
 |some (d,want)=>
  match lk s.env d with
  |some (.bool b)=>
   match want with
   |true=>fork b (fun _=>go { s with env:=(d,.bool true) :: s.env }) (fun _=>skip { s with env:=(d,.bool false) :: s.env })
   |false=>fork b (fun _=>skip { s with env:=(d,.bool true) :: s.env }) (fun _=>go { s with env:=(d,.bool false) :: s.env })
  |some (.tuple vs)=>bif vs.toList.isEmpty then skip s else False
  |_=>False
def sC(P:Unit->Program)(A:bH):List fN->SS->(SS->Prop)->Prop
 | [],s,Q=>Q s
 |o :: rest,s,Q=>
  tJ o.guard s
   (fun s=>To P A o.act s fun v s'=>vK s' o.dst v fun qM=>sC P A rest qM Q)
   (fun s=>vK s o.dst undef fun s'=>sC P A rest s' Q)
def yU(ops:Array Oper)(o:Oper):Option (Option (Nat×Bool)):=
 match o.guard with
 |none=>some none
 |some (j,want)=>
  match (ops[j]?).bind (·.dst)with
  |some d=>some (some (d,want))
  |none=>none
def Im(P:Program)(H:Hint)(f:FuncId)(o:Oper):RDo:=
 match dU o.op with
 |some c=>
  match c.callee with
  | .value x=>.call x c.args.toList (match o.dst with|none=>none|some _=>some (Il P o.type))
  |_=>.op false (.cI o.op)
 |none=>.op (fj H f o) (M3 P o.op)
def wK(P:Program)(H:Hint)(f:FuncId)(nt:Nat)(ops:Array Oper)(o:Oper):Option fN:=
 match yU ops o with
 |some g=>bif (match o.dst with|none=>true|some d=>Nat.blt d nt)then some ⟨o.dst,g,Im P H f o⟩else none
 |none=>none
def qy(P:Program)(H:Hint)(f:FuncId)(nt:Nat)(ops:Array Oper):List Oper->Option (List fN)
 | []=>some []
 |o :: r=>
  match wK P H f nt ops o with
  |some x=>
   match qy P H f nt ops r with
   |some l=>some (x :: l)
   |none=>none
  |none=>none
theorem tK{o:Op}{c:Call}(h:dU o=some c):∃x,c.callee=.value x:=by
 unfold dU at h;split at h
 ·split at h
  ·rename_i x hx;simp only[oi]at h;subst h;exact⟨x,hx⟩
  ·cases h
 ·cases h
theorem vL{ops:Array Oper}{o:Oper}{g:Option (Nat×Bool)}(h:yU ops o=some g)(s:SS)(go skip:SS->Prop):tJ g s go skip=oq ops o s go skip:=by
 unfold yU at h;unfold oq;split at h
 ·rename_i hg
  simp only[oi]at h;subst h;rw[hg];rfl
 ·rename_i j want hg
  rw[hg];simp only[];split at h
  ·rename_i d hd
   simp only[oi]at h;subst h;rw[hd];simp only[tJ];cases lk s.env d with
   |none=>rfl
   |some v=>cases v<;>first|rfl|(cases want<;>rfl)
  ·cases h
theorem put_eq{nt:Nat}{s:SS}{dst:Option Tmp}{v:Value}{C:SS->Prop}(h:(match dst with|none=>true|some d=>Nat.blt d nt)=true):vK s dst v C=Ab nt s dst v C:=by
 unfold vK Ab;cases dst with
 |none=>rfl
 |some d=>simp only[]at h;simp only[h,cond_true]
theorem yV(P:Unit->Program)(dst:Option Tmp)(t:TypeId)(v:Value)(C:Value->Prop):yT (match dst with|none=>none|some _=>some (Il (P ()) t)) v C=qV P dst t v C:=by
 unfold qV;cases dst with
 |none=>rfl
 |some d=>exact M5 P t v C
theorem A6{c:Call}{x:Operand}(h:c.callee=.value x)(yn:Nat->Nat)(s:SS):wJ yn s x c.args.toList=j6 yn s c:=by
 unfold j6 wJ;rw[h];simp only[];cases ev s x with
 |none=>rfl
 |some v=>
  cases v with
  |func fn first captured=>cases fn<;>cases zL s c.args.toList<;>rfl
  |_=>cases zL s c.args.toList<;>rfl
theorem M6(P:Unit->Program)(H:Hint)(A:bH)(f:FuncId)(o:Oper)(s:SS)(C:Value->SS->Prop):To P A (Im (P ()) H f o) s C=HQ P H A f o s C:=by
 unfold Im HQ;cases hc:dU o.op with
 |none=>exact Ew P A _ _ _ _ _
 |some c=>
  obtain⟨x,hx⟩:=tK hc;simp only[hx,To,A6 hx,yV];cases j6 A.yn s c<;>rfl
theorem vM(P:Unit->Program)(H:Hint)(A:bH)(f:FuncId)(nt:Nat)(ops:Array Oper):∀(l:List Oper) (r:List fN),qy (P ()) H f nt ops l=some r->∀(s:SS) (Q:SS->Prop),sC P A r s Q=wpOps P H A f nt ops l s Q
 | [],r,h,s,Q=>by
  simp only[qy,oi]at h;subst h;rfl
 |o :: l,r,h,s,Q=>by
  simp only[qy]at h;split at h
  ·rename_i x hx
   split at h
   ·rename_i r' hr
    simp only[oi]at h;subst h;unfold wK at hx;split at hx
    ·rename_i g hg
     obtain⟨hb,hx⟩:=mc hx;subst hx;have ih:sC P A r'=wpOps P H A f nt ops l:=funext fun s=>funext fun Q=>vM P H A f nt ops l r' hr s Q
     simp only[sC,wpOps,vL hg,put_eq hb,M6,ih]
    ·cases hx
   ·cases h
  ·cases h
inductive FK where
 |none
 |new (loc:Bool)
 |di (x:Operand)
 |OQ (x:Operand)
 |all
 |app (l:List Operand)
structure yW where
 o:fN
 p:Nat
 kind:FK
 pr:List Nat
 st:Bool
 sm:Bool
def Tp(o:Op)(loc:Bool):FK:=
 bif bM o then .none else
 match o with
 | .alloc _ | .box _ _=>.new loc
 | .buildSlice _ _ _ | .makeSlice _ _ _=>.new false
 | .load _ x | .store _ x _=>.di x
 | .convert _ _ x=>.OQ x
 | .call { callee:=.builtin .append,args,argTypes }=>.app args.toList
 |_=>.all
def UK(k:FK)(id tag:Nat)(s:SS):FP:=
 match k with
 | .none=>.none
 | .new loc=>bif loc then .new true tag else .new false id
 | .di x=>
  match ev s x with
  |some (.pointer (some a))=>.block a.spot.isSome a.block
  |_=>.all
 | .OQ x=>
  match ev s x with
  |some (.slice (some a) _ _)=>bif a.spot.isNone then .block false a.block else .none
  |_=>.none
 | .all=>.all
 | .app l=>.app (Dd (Ri s l))
theorem Tq(o:Op)(loc:Bool)(id tag:Nat)(s:SS):UK (Tp o loc) id tag s=Rj o loc id tag s:=by
 unfold Tp Rj;cases bM o with
 |true=>rfl
 |false=>
  simp only[cond_false];cases o with
  |load t x=>
   simp only[UK];cases ev s x with
   |none=>rfl
   |some v=>cases v with
    |pointer a=>cases a<;>rfl
    |_=>rfl
  |store t x y=>
   simp only[UK];cases ev s x with
   |none=>rfl
   |some v=>cases v with
    |pointer a=>cases a<;>rfl
    |_=>rfl
  |convert t u x=>
   simp only[UK];cases ev s x with
   |none=>rfl
   |some v=>cases v with
    |slice a n c=>cases a<;>rfl
    |_=>rfl
  |call c=>
   obtain⟨callee,args,tys⟩:=c;cases callee with
   |builtin b=>cases b<;>rfl
   |_=>rfl
  |_=>rfl
abbrev KP:=List (Nat×List Nat×FP×Bool)
def nL(p:Nat)(pr:List Nat)(x:FP)(w:Bool)(l:KP):KP:=
 match x with
 | .none=>l
 |x=>(p,pr,x,w) :: l
def yX(p:Nat)(pr:List Nat)(x:FP)(w:Bool)(acc:KP):KP:=
 match x with
 | .none=>acc
 |x=>acc++[(p,pr,x,w)]
theorem lJ(b:Bool)(X Y:Prop):fork b (fun _=>X) (fun _=>Y)=cond b X Y:=by cases b<;>rfl
def j9(P:Unit->Program)(A:bH)(base aP:Nat):List yW->Nat->SS->KP->(SS->KP->Prop)->Prop
 | [],_,s,acc,Q=>Q s acc
 |d :: rest,i,s,acc,Q=>
  tJ d.o.guard s
   (fun s=>
    match d.o.act with
    | .call x args w=>
     match wJ A.yn s x args with
     |some (g,l)=>A.call g l (A.fresh s.h) fun v h'=>yT w v fun v=>
       vK { s with h:=A.aB s.h h' } d.o.dst v fun qM=>j9 P A base aP rest (i+1) qM (acc++[(d.p,d.pr,.all,A.wrote s.h h')]) Q
     |none=>False
    | .op loc r=>
     fork d.sm
      (fun _=>iy P A (uP A (A.bZ base i) (aP+i)) loc r s fun v s'=>
       vK s' d.o.dst v fun qM=>j9 P A base aP rest (i+1) qM (yX d.p d.pr (UK d.kind (A.bZ base i) (aP+i) s) d.st acc) Q)
      (fun _=>iy P A (uP A (A.bZ base i) (aP+i)) loc r { s with h:=A.fresh s.h } fun v s'=>
       vK { s' with h:=A.aB s.h s'.h } d.o.dst v fun qM=>j9 P A base aP rest (i+1) qM (yX d.p d.pr (UK d.kind (A.bZ base i) (aP+i) s) (A.wrote s.h s'.h) acc) Q))
   (fun s=>vK s d.o.dst undef fun s'=>j9 P A base aP rest (i+1) s' acc Q)
def JV(q:Nat):List Nat->Bool
 | []=>false
 |a :: l=>bif Nat.beq q a then true else JV q l
def jj(A:bH)(dD:Nat)(pr:List Nat)(x:FP)(wx:Bool):KP->Prop->Prop
 | [],C=>C
 |(q,_,y,wy) :: r,C=>fork (JV q pr) (fun _=>jj A dD pr x wx r C) (fun _=>yo A dD x wx y wy (jj A dD pr x wx r C))
def sD(A:bH)(dD:Nat):KP->Prop->Prop
 | [],C=>C
 |(_,pr,x,wx) :: r,C=>jj A dD pr x wx r (sD A dD r C)
def Io(P:Unit->Program)(A:bH)(n:Nat)(ds:List yW)(s:SS)(Q:SS->Prop):Prop:=
 j9 P A (A.next s.h) s.kn ds 0 { s with kn:=s.kn+n,h:=A.aH s.h n } [] fun s' iB=>sD A (A.bZ (A.next s.h) n) iB (Q s')
def P4(b:Array Nat)(n p:Nat):List Nat:=(List.range n).filter (fun q=>prec b p q)
def JW(P:Program)(H:Hint)(f:FuncId)(nt:Nat)(ops:Array Oper)(b:Array Nat):List Nat->Option (List yW)
 | []=>some []
 |p :: r=>
  match ops[p]? with
  |some o=>
   match wK P H f nt ops o with
   |some x=>
    match JW P H f nt ops b r with
    |some l=>some (⟨x,p,Tp o.op (fj H f o),P4 b ops.size p,iN o.op,small o.op⟩ :: l)
    |none=>none
   |none=>none
  |none=>none
theorem Ez(q:Nat):∀l:List Nat,JV q l=decide (q∈l)
 | []=>by simp[JV]
 |a :: l=>by
  unfold JV;rw[Ez q l];cases h:Nat.beq q a with
  |true=>have:=Nat.eq_of_beq_eq_true h;subst this;simp
  |false=>have:=Nat.ne_of_beq_eq_false h;simp[this]
theorem tL{b:Array Nat}{n p q:Nat}(h:q<n):JV q (P4 b n p)=prec b p q:=by
 rw[Ez];unfold P4;simp only[List.mem_filter,List.mem_range,h,true_and];cases prec b p q<;>rfl
def yY(b:Array Nat)(n:Nat):List (Nat×FP×Bool)->KP
 | []=>[]
 |(p,x,w) :: l=>nL p (P4 b n p) x w (yY b n l)
theorem rW(A:bH)(ops:Array Oper)(dD p:Nat)(wx:Bool):∀(l:List (Nat×FP×Bool)) (C:Prop),jz A ops dD p .none wx l C=C
 | [],C=>rfl
 |(q,y,wy) :: l,C=>by
  unfold jz;rw[rW A ops dD p wx l C];cases prec (Region.before ops) p q<;>rfl
theorem EA(A:bH)(dD:Nat)(x:FP)(wx wy:Bool)(C:Prop):yo A dD x wx .none wy C=C:=by
 cases x<;>rfl
theorem kz(A:bH)(ops:Array Oper)(dD p:Nat)(x:FP)(wx:Bool):∀(l:List (Nat×FP×Bool)) (C:Prop),(∀e∈l,e.1<ops.size)->
  jj A dD (P4 (Region.before ops) ops.size p) x wx (yY (Region.before ops) ops.size l) C=jz A ops dD p x wx l C
 | [],C,_=>rfl
 |(q,y,wy) :: l,C,h=>by
  have hq:q<ops.size:=h (q,y,wy) List.mem_cons_self;have ih:=kz A ops dD p x wx l C (fun e he=>h e (List.mem_cons_of_mem _ he));unfold jz yY;cases y with
  |none=>
   simp only[nL,EA];rw[ih];cases prec (Region.before ops) p q<;>rfl
  |block l' b'=>simp only[nL,jj,lJ,tL hq,ih]
  |new l' b'=>simp only[nL,jj,lJ,tL hq,ih]
  |all=>simp only[nL,jj,lJ,tL hq,ih]
  |app c=>simp only[nL,jj,lJ,tL hq,ih]
theorem EB(A:bH)(ops:Array Oper)(dD:Nat):∀(l:List (Nat×FP×Bool)) (C:Prop),(∀e∈l,e.1<ops.size)->sD A dD (yY (Region.before ops) ops.size l) C=qW A ops dD l C
 | [],C,_=>rfl
 |(p,x,wx) :: l,C,h=>by
  have hl:∀e∈l,e.1<ops.size:=fun e he=>h e (List.mem_cons_of_mem _ he)
  have ih:=EB A ops dD l C hl;unfold qW yY;cases x with
  |none=>simp only[nL,rW];exact ih
  |block l' b'=>simp only[nL,sD,ih];exact kz A ops dD p _ wx l _ hl
  |new l' b'=>simp only[nL,sD,ih];exact kz A ops dD p _ wx l _ hl
  |all=>simp only[nL,sD,ih];exact kz A ops dD p _ wx l _ hl
  |app c=>simp only[nL,sD,ih];exact kz A ops dD p _ wx l _ hl
theorem Ip(P:Unit->Program)(H:Hint)(A:bH)(f:FuncId)(nt:Nat)(ops:Array Oper)(base aP:Nat):∀(l:List Nat) (ds:List yW),JW (P ()) H f nt ops (Region.before ops) l=some ds->
  ∀(i:Nat) (s:SS) (acc:KP) (Q:SS->List (Nat×FP×Bool)->Prop) (Q':SS->KP->Prop),(∀r iB,(∀e∈iB,e.1<ops.size)->Q' r (acc++yY (Region.before ops) ops.size iB)=Q r iB)->
  j9 P A base aP ds i s acc Q'=kG P H A f nt ops base aP l i s Q
 | [],ds,h,i,s,acc,Q,Q',hq=>by
  simp only[JW,oi]at h;subst h;have:=hq s [] (fun e he=>by cases he);rw[yY,List.append_nil]at this;exact this
 |p :: l,ds,h,i,s,acc,Q,Q',hq=>by
  simp only[JW]at h;split at h
  ·rename_i o ho
   split at h
   ·rename_i x hx
    split at h
    ·rename_i r hr
     simp only[oi]at h;subst h;have hp:p<ops.size:=(Array.getElem?_eq_some_iff.1 ho).1;unfold wK at hx;split at hx
     ·rename_i g hg
      obtain⟨hb,hx⟩:=mc hx;subst hx;have ih:=Ip P H A f nt ops base aP l r hr;have app:∀(fp:FP) (w:Bool) (iB:KP),yX p (P4 (Region.before ops) ops.size p) fp w acc++iB=acc++nL p (P4 (Region.before ops) ops.size p) fp w iB:=fun fp w iB=>by
       cases fp<;>simp[yX,nL]
      have step:∀(qM:SS) (fp:FP) (w:Bool),j9 P A base aP r (i+1) qM (yX p (P4 (Region.before ops) ops.size p) fp w acc) Q'=kG P H A f nt ops base aP l (i+1) qM (fun r iB=>Q r ((p,fp,w) :: iB)):=fun qM fp w=>
       ih (i+1) qM _ _ _ (fun r iB hf=>by
        rw[app];exact hq r ((p,fp,w) :: iB) (fun e he=>by
         rcases List.mem_cons.1 he with rfl|he
         ·exact hp
         ·exact hf e he))
      have skip:∀(qM:SS),j9 P A base aP r (i+1) qM acc Q'=kG P H A f nt ops base aP l (i+1) qM (fun r iB=>Q r ((p,.none,false) :: iB)):=fun qM=>step qM .none false
      have all:∀(qM:SS) (w:Bool),j9 P A base aP r (i+1) qM (acc++[(p,P4 (Region.before ops) ops.size p,.all,w)]) Q'=kG P H A f nt ops base aP l (i+1) qM (fun r iB=>Q r ((p,.all,w) :: iB)):=fun qM w=>step qM .all w
      simp only[j9,kG,lJ,ho,vL hg,put_eq hb,skip,Tq,step,all];refine congrArg (fun K=>oq ops o s K _) (funext fun s=>?_);unfold Im;cases hc:dU o.op with
      |none=>simp only[Ew]
      |some c=>
       obtain⟨x,hx⟩:=tK hc;simp only[hx,A6 hx,yV];cases j6 A.yn s c<;>rfl
     ·cases hx
    ·cases h
   ·cases h
  ·cases h
inductive oW where
 |skip
 |ret
 |exit (id:Nat) (l:Option (List Tmp))
 |seq (a b:oW)
 |cond (x:Operand) (a b:oW)
 |block (id:Nat) (b:oW)
 |loop (key:Nat) (dL l:Option (List Tmp))
 |Pv (l:Option (List Tmp)) (ops:List fN)
 |draw (l:Option (List Tmp)) (n:Nat) (ops:List yW)
 |range (key:Nat)
def RR(dL:Option (List Tmp))(kn:Nat)(s:SS):Option SS:=
 match dL with
 |none=>some s
 |some l=>
  bif Nat.ble kn s.kn && l.all (fun t=>match lk s.env t with|some v=>sV kn v|none=>false)then some { s with env:=pZ s.env l,kn:=kn,K:=pZ s.K (List.range kn) } else none
def uW(P:Unit->Program)(A:bH)(f:FuncId)(c:oW)(s:SS)(Q:Exit->SS->Prop):Prop:=
 match c with
 | .skip=>Q .normal s
 | .ret=>Q .ret s
 | .exit id l=>Q (.exit id) (fS s l)
 | .seq a b=>uW P A f a s (JA (fun s'=>uW P A f b s' Q) Q)
 | .cond x a b=>
  match ev s x with
  |some (.bool t)=>fork t (fun _=>uW P A f a s Q) (fun _=>uW P A f b s Q)
  |_=>False
 | .block id b=>uW P A f b s (Gk id Q)
 | .loop key dL l=>
  match RR dL s.kn s with
  |some s0=>A.head f key s.kn (fS s0 l) Q
  |none=>False
 | .Pv l ops=>fork (Nat.ble 10 ops.length) (fun _=>A.sj (fun _=>sC P A ops (fS s l) (Q .normal))) (fun _=>sC P A ops (fS s l) (Q .normal))
 | .draw l n ops=>A.sj fun _=>Io P A n ops (fS s l) fun s'=>A.sj fun _=>Q .normal s'
 | .range key=>A.uO f key s Q
def dP(P:Program)(H:Hint)(V:Live)(f:FuncId)(nt:Nat):Code->Option oW
 | .skip=>some .skip
 | .ret=>some .ret
 | .exit id=>some (.exit id (V.di f id))
 | .seq a b=>
  match dP P H V f nt a,dP P H V f nt b with
  |some x,some y=>some (.seq x y)
  |_,_=>none
 | .cond c a b=>
  match dP P H V f nt a,dP P H V f nt b with
  |some x,some y=>some (.cond c x y)
  |_,_=>none
 | .block id b=>match dP P H V f nt b with|some x=>some (.block id x)|none=>none
 | .loop b=>some (.loop (keyOf b) (H.dL f (keyOf b)) (V.loop f (keyOf b)))
 | .region id ops draw=>
  bif draw then
   bif nR ops (fY ops)then
    match JW P H f nt ops (Region.before ops) (fY ops)with
    |some l=>some (.draw (V.Pv f id) ops.size l)
    |none=>none
   else none
  else
   match qy P H f nt ops ops.toList with
   |some l=>some (.Pv (V.Pv f id) l)
   |none=>none
 | .rangeFunc _ _ as _=>some (.range (keyOf as))
 |_=>none
theorem yZ(P:Unit->Program)(H:Hint)(A:bH)(JX:∀f,A.sj f=f ())(V:Live)(f:FuncId)(nt:Nat):∀(c:Code) (r:oW),dP (P ()) H V f nt c=some r->∀(s:SS) (Q:Exit->SS->Prop),uW P A f r s Q=wpS P H A V f nt c s Q:=by
 intro c
 induction c with
 |skip=>intro r h s Q;simp only[dP,oi]at h;subst h;rfl
 |ret=>intro r h s Q;simp only[dP,oi]at h;subst h;rfl
 |exit id=>intro r h s Q;simp only[dP,oi]at h;subst h;rfl
 |seq a b B3 sR=>
  intro r h s Q;simp only[dP]at h;split at h
  ·rename_i x y hx hy
   simp only[oi]at h;subst h;have eb:(fun s'=>uW P A f y s' Q)=(fun s'=>wpS P H A V f nt b s' Q):=funext fun s'=>sR y hy s' Q
   simp only[uW,wpS];rw[eb];exact B3 x hx s _
  ·cases h
 |cond c a b B3 sR=>
  intro r h s Q;simp only[dP]at h;split at h
  ·rename_i x y hx hy
   simp only[oi]at h;subst h;simp only[uW,wpS];cases ev s c with
   |none=>rfl
   |some v=>
    cases v with
    |bool t=>simp only[B3 x hx,sR y hy]
    |_=>rfl
  ·cases h
 |block id b ih=>
  intro r h s Q;simp only[dP]at h;split at h
  ·rename_i x hx
   simp only[oi]at h;subst h;exact ih x hx s _
  ·cases h
 |loop b ih=>intro r h s Q;simp only[dP,oi]at h;subst h;rfl
 |region id ops draw=>
  intro r h s Q;simp only[dP]at h;cases draw with
  |true=>
   simp only[cond_true]at h;obtain⟨hb,h⟩:nR ops (fY ops)=true/\(match JW (P ()) H f nt ops (Region.before ops) (fY ops)with|some l=>some (oW.draw (V.Pv f id) ops.size l)|none=>none)=some r:=by
    cases hb:nR ops (fY ops)with
    |false=>rw[hb]at h;cases h
    |true=>rw[hb]at h;exact⟨rfl,h⟩
   split at h
   ·rename_i l hl
    simp only[oi]at h;subst h;simp only[uW,wpS,cond_true,BV,Io,hb,JX];exact Ip P H A f nt ops _ _ (fY ops) l hl 0 _ [] _ _ (fun r iB hf=>by rw[List.nil_append];exact EB A ops _ iB _ hf)
   ·cases h
  |false=>
   simp only[cond_false]at h;split at h
   ·rename_i l hl
    simp only[oi]at h;subst h;simp only[uW,wpS,cond_false,JX,lJ,Bool.cond_self];exact vM P H A f nt ops ops.toList l hl _ _
   ·cases h
 |rangeFunc x ps as bo _ _=>intro r h s Q;simp only[dP,oi]at h;subst h;rfl
 |_=>intro r h;cases h
inductive JY where
 |tmp (t:Tmp)
 |agg (t:Tmp) (n:Nat) (vs:List Sv)
 |one (t:Tmp) (v:Sv)
structure Iq where
 dL:Option (List Tmp)
 l:Option (List Tmp)
 body:oW
structure GN where
 x:Operand
 ps:List Tmp
 as:oW
 bo:oW
structure me where
 body:oW
 res:List JY
 loops:List (Nat×Iq)
 aad:List (Nat×GN)
def oJ(A:bH)(s:SS):List JY->(List Value->Prop)->Prop
 | [],C=>C []
 | .tmp t :: r,C=>
  match lk s.env t with
  |some v=>oJ A s r fun l=>C (v :: l)
  |none=>False
 | .agg a n vs :: r,C=>
  match lk s.env a with
  |some (.pointer (some x))=>mS A s x n vs fun l=>oJ A s r fun l'=>C (.agg l.toArray :: l')
  |_=>False
 | .one a v :: r,C=>
  match lk s.env a with
  |some (.pointer (some x))=>mS A s x 1 [v] fun l=>
   match l with
   | [v]=>oJ A s r fun l'=>C (v :: l')
   |_=>False
  |_=>False
def qA(P:Program):List ResultVar->Option (List JY)
 | []=>some []
 | .tmp t :: r=>match qA P r with|some l=>some (.tmp t :: l)|none=>none
 | .cell a t :: r=>
  match qA P r with
  |some l=>
   match iP P t with
   |some true=>match bY P t with|some n=>some (.agg a n (fK (fun _=>P) 12 t) :: l)|none=>none
   |some false=>some (.one a (DY (P.underlying t)) :: l)
   |none=>none
  |none=>none
theorem uX(P:Unit->Program)(A:bH)(s:SS):∀(rs:List ResultVar) (l:List JY),qA (P ()) rs=some l->∀C,oJ A s l C=oU P A s rs C
 | [],l,h,C=>by simp only[qA,oi]at h;subst h;rfl
 | .tmp t :: r,l,h,C=>by
  simp only[qA]at h;split at h
  ·rename_i l' hl
   simp only[oi]at h;subst h;simp only[oJ,oU,uX P A s r l' hl];cases lk s.env t<;>rfl
  ·cases h
 | .cell a t :: r,l,h,C=>by
  simp only[qA]at h;split at h
  ·rename_i l' hl
   have ih:=uX P A s r l' hl;split at h
   ·rename_i ha
    split at h
    ·rename_i n hn
     simp only[oi]at h;subst h;simp only[oJ,oU,ih,qe,ha,hn,oI];cases lk s.env a with
     |none=>rfl
     |some v=>
      cases v with
      |pointer x=>cases x<;>rfl
      |_=>rfl
    ·cases h
   ·rename_i ha
    simp only[oi]at h;subst h;simp only[oJ,oU,ih,qe,ha];cases lk s.env a with
    |none=>rfl
    |some v=>
     cases v with
     |pointer x=>
      cases x with
      |none=>rfl
      |some x=>
       refine congrArg (mS A s x 1 [DY ((P ()).underlying t)]) (funext fun l=>?_);cases l with
       |nil=>rfl
       |cons v r=>cases r<;>rfl
     |_=>rfl
   ·cases h
  ·cases h
def qB(P:Program)(H:Hint)(V:Live)(f:FuncId)(nt:Nat):List Code->Option (List (Nat×Iq))
 | []=>some []
 |b :: r=>
  match dP P H V f nt b,qB P H V f nt r with
  |some x,some l=>bif (r.all fun c=>!(Nat.beq (keyOf c) (keyOf b)))then some ((keyOf b,⟨H.dL f (keyOf b),V.loop f (keyOf b),x⟩) :: l)else none
  |_,_=>none
def rA(P:Program)(H:Hint)(V:Live)(f:FuncId)(nt:Nat):List (Operand×Array Tmp×Code×Code)->Option (List (Nat×GN))
 | []=>some []
 |(x,ps,as,bo) :: r=>
  match dP P H V f nt as,dP P H V f nt bo,rA P H V f nt r with
  |some a,some b,some l=>bif (r.all fun c=>!(Nat.beq (keyOf c.2.2.1) (keyOf as))) && bD as && bD bo && ps.toList.all (fun t=>Nat.blt t nt)then some ((keyOf as,⟨x,ps.toList,a,b⟩) :: l)else none
  |_,_,_=>none
def fH(P:Program)(H:Hint)(V:Live)(f:FuncId)(fn:Func):Option me:=
 match fn.body with
 |some c=>
  match dP P H V f fn.ntmps c,qA P fn.results.toList,qB P H V f fn.ntmps (bF c),rA P H V f fn.ntmps (bG c)with
  |some b,some r,some l,some g=>some ⟨b,r,l,g⟩
  |_,_,_,_=>none
 |none=>none
theorem oY{P:Program}{H:Hint}{V:Live}{f:FuncId}{nt:Nat}:∀{l:List (Operand×Array Tmp×Code×Code)} {ls:List (Nat×GN)},rA P H V f nt l=some ls->∀r∈l,yC r
 | [],ls,h,r,hr=>by cases hr
 |(x,ps,as,bo) :: l,ls,h,r,hr=>by
  simp only[rA]at h;split at h
  ·rename_i a b l' ha hb hl
   obtain⟨hc,h⟩:=mc h;simp only[Bool.and_eq_true]at hc;rcases List.mem_cons.1 hr with rfl|hr
   ·exact⟨hc.1.1.2,hc.1.2⟩
   ·exact oY hl r hr
  ·cases h
def Ww(A:bH)(rs:List JY)(Q:Value->af->Prop):Exit->SS->Prop
 | .normal,s=>oJ A s rs fun l=>bif l.all dA then Q (js l) s.h else False
 | .ret,s=>oJ A s rs fun l=>bif l.all dA then Q (js l) s.h else False
 |_,_=>False
def GO(P:Unit->Program)(A:bH)(g:FuncId)(r:me)(args:List Value)(h:af)(Q:Value->af->Prop):Prop:=
 uW P A g r.body ⟨rT args 0 [],0,[],h⟩ (Ww A r.res Q)
def Ct(P:Unit->Program)(A:bH)(f:FuncId)(r:me)(key kn:Nat)(s:SS)(Q:Exit->SS->Prop):Prop:=
 match lk r.loops key with
 |some b=>uW P A f b.body s (JA (fun s'=>
   match RR b.dL kn s' with
   |some s1=>A.head f key kn (fS s1 b.l) Q
   |none=>False) Q)
 |none=>False
theorem P5(P:Unit->Program)(A:bH){rs:List ResultVar}{l:List JY}(h:qA (P ()) rs=some l)(Q:Value->af->Prop):Ww A l Q=SY P A rs Q:=by
 funext x s
 cases x<;>first|rfl|exact uX P A s rs l h _
theorem JZ{P:Unit->Program}{H:Hint}{V:Live}{g:FuncId}{fn:Func}{r:me}(h:fH (P ()) H V g fn=some r){A:bH}(JX:∀f,A.sj f=f ()){args:List Value}{hp:af}{Q:Value->af->Prop}(hw:GO P A g r args hp Q):DZ P H A V g fn args hp Q:=by
 unfold fH at h;unfold DZ;split at h
 ·rename_i c hc
  rw[hc];simp only[];split at h
  ·rename_i b rs l gs hb hr hl hgs
   simp only[oi]at h;subst h;unfold GO at hw;rw[P5 P A hr]at hw;rw[yZ P H A JX V g fn.ntmps c b hb]at hw;exact hw
  ·cases h
 ·cases h
theorem rX{P:Program}{H:Hint}{V:Live}{f:FuncId}{nt:Nat}:∀{l:List Code} {ls:List (Nat×Iq)},qB P H V f nt l=some ls->∀{key:Nat} {x:Iq},lk ls key=some x->
  ∃b,l.filter (fun b=>Nat.beq (keyOf b) key)=[b]/\keyOf b=key/\dP P H V f nt b=some x.body/\x.dL=H.dL f key/\x.l=V.loop f key
 | [],ls,h,key,x,hx=>by
  simp only[qB,oi]at h;subst h;cases hx
 |b :: r,ls,h,key,x,hx=>by
  simp only[qB]at h;split at h
  ·rename_i y l hy hl
   obtain⟨hb,h⟩:=mc h;subst h;simp only[lk]at hx;cases hk:Nat.beq (keyOf b) key with
   |true=>
    rw[hk]at hx;simp only[cond_true,oi]at hx;subst hx;have e:=Nat.eq_of_beq_eq_true hk;refine⟨b,?_,e,hy,by rw[e],by rw[e]⟩;rw[List.filter_cons_of_pos (by simpa using hk)]
    congr 1
    rw[List.filter_eq_nil_iff];intro c hc;have:=List.all_eq_true.1 hb c hc;rw[<-e];have h9:Nat.beq (keyOf c) (keyOf b)=false:=by
     cases h8:Nat.beq (keyOf c) (keyOf b)with
     |false=>rfl
     |true=>rw[h8]at this;cases this
    rw[h9];exact Bool.false_ne_true
   |false=>
    rw[hk]at hx;simp only[cond_false]at hx;obtain⟨b',h1,h2⟩:=rX hl hx;refine⟨b',?_,h2⟩;rw[List.filter_cons_of_neg (by rw[hk];exact Bool.false_ne_true)];exact h1
  ·cases h
theorem GP{P:Unit->Program}{H:Hint}{V:Live}{f:FuncId}{fn:Func}{r:me}(h:fH (P ()) H V f fn=some r){A:bH}(JX:∀f,A.sj f=f ()){key kn:Nat}{s:SS}{Q:Exit->SS->Prop}(hw:Ct P A f r key kn s Q):BW P H A V f fn key kn s Q:=by
 unfold fH at h;unfold BW;split at h
 ·rename_i c hc
  rw[hc];simp only[];split at h
  ·rename_i b rs l gs hb hr hl hgs
   simp only[oi]at h;subst h;unfold Ct at hw;simp only[]at hw;split at hw
   ·rename_i x hx
    obtain⟨b',h1,h2,h3,h4,h5⟩:=rX hl hx;rw[h1];simp only[];unfold wG;rw[yZ P H A JX V f fn.ntmps b' x.body h3]at hw;rw[h4,h5]at hw;subst h2;exact⟨oY hgs,hw⟩
   ·exact hw.elim
  ·cases h
 ·cases h
theorem AOK.aO{P:Unit->Program}{H:Hint}{F:bg}{A:bH}(hA:AOK P H F A){V:Live}{g:FuncId}{fn:Func}{r:me}{args:List Value}{h:af}{Q:Value->af->Prop}(hf:(P ()).funcs[g]?=some fn)(hr:fH (P ()) H V g fn=some r)(hn:F g args h=none)(hl:h.low<=h.next)(hw:GO P A g r args h Q)(hg:g<aW:=by decide):A.call g args h Q:=
 hA.body V hg hf hn hl (JZ hr (fun f=>by rw[hA.eq];rfl) hw)
theorem AOK.au{P:Unit->Program}{H:Hint}{F:bg}{A:bH}(hA:AOK P H F A){V:Live}{f:FuncId}{fn:Func}{r:me}(zK:(P ()).funcs[f]?=some fn)(hr:fH (P ()) H V f fn=some r){key kn:Nat}{s:SS}{Q:Exit->SS->Prop}(hw:Ct P A f r key kn s Q):A.head f key kn s Q:=
 hA.round V zK (GP hr (fun f=>by rw[hA.eq];rfl) hw)
end Go.cV
namespace Go.Proofs.YtdpbiegfljmhmaaGreat.Ext
def bI(w:Nat)(F:Nat->aR)(c:Nat):Nat->aR->aR
 |0,v=>v
 |y+1,v=>if c<aj w (F y)then(fun j=>bI w F c y v j-bI w F c y v (aj w (F y)) / F y (aj w (F y))*F y j)else bI w F c y v
theorem GQ{a L R:Int}(hL:0<L)(h:a.natAbs<=(R*L).natAbs)(hR:0<=R):(a / L).natAbs<=R.natAbs:=by
 have h1:-(R*L)<=a/\a<=R*L:=by
  have:0<=R*L:=Int.mul_nonneg hR (Int.le_of_lt hL);omega
 have h2:a / L<=R:=Int.ediv_le_of_le_mul hL om;have h3:-R<=a / L:=Int.le_ediv_of_mul_le hL (by rw[Int.neg_mul];omega);omega
theorem iL{a b A B:Int}(ha:a.natAbs<=A.natAbs)(hb:b.natAbs<=B.natAbs)(hA:0<=A)(hB:0<=B):(a*b).natAbs<=(A*B).natAbs:=by
 rw[Int.natAbs_mul,Int.natAbs_mul];exact Nat.mul_le_mul ha hb
structure Old(w k a:Nat)(F:Nat->aR)(E:Int):Prop where
 le:∀z,a<=z->z<k->∀j,(F z j).natAbs<=E.natAbs
 red:∀y z,a<=y->y<z->z<k->0<=F y (aj w (F z))/\F y (aj w (F z))<F z (aj w (F z))
theorem Old.M7{w k a a':Nat}{F:Nat->aR}{E:Int}(h:Old w k a F E)(ha:a<=a'):Old w k a' F E:=
 ⟨fun z hz hk=>h.le z om hk,fun y z hy hz hk=>h.red y z om hz hk⟩
structure aae(w k a y:Nat)(F:Nat->aR)(E N Q:Int)(v u:aR):Prop where
 red:∀z,a<=z->z<y->0<=u (aj w (F z))/\u (aj w (F z))<F z (aj w (F z))
 lead:∀z,y<=z->a<=z->z<k->(u (aj w (F z))).natAbs<=(Q*2 ^ (y-a)*F z (aj w (F z))).natAbs
 le:∀j,(u j).natAbs<=(N+(Q*2 ^ (y-a)-Q)*E).natAbs
 cI:∀j,(∀z,a<=z->z<k->j<aj w (F z))->u j=v j
theorem sE{w k a c:Nat}{F:Nat->aR}{E N Q:Int}{v:aR}(hs:BP w k F)(hE:0<=E)(hN:0<=N)(hQ:0<=Q)(ho:Old w k a F E)(ha:∀z,z<a->z<k->aj w (F z)<=c)(hc:∀z,a<=z->z<k->c<aj w (F z))
  (hv:∀j,(v j).natAbs<=N.natAbs) (hl:∀z,a<=z->z<k->(v (aj w (F z))).natAbs<=(Q*F z (aj w (F z))).natAbs):∀y,y<=k->aae w k a y F E N Q v (bI w F c y v)
 |0,_=>by
  refine⟨fun z h1 h2=>om,fun z _ h1 h2=>?_,fun j=>?_,fun j _=>rfl⟩
  ·rw[show 0-a=0 by omega,Int.pow_zero,Int.mul_one];exact hl z h1 h2
  ·rw[show 0-a=0 by omega,Int.pow_zero,Int.mul_one,show N+(Q-Q)*E=N by rw[Int.sub_self];omega];exact hv j
 |y+1,hy=>by
  have ih:=sE hs hE hN hQ ho ha hc hv hl y om;by_cases cy:a<=y
  ·have UJ:=hc y cy om
   have e:bI w F c (y+1) v=fun j=>bI w F c y v j-bI w F c y v (aj w (F y)) / F y (aj w (F y))*F y j:=by
    show(if c<aj w (F y)then _ else _)=_;rw[if_pos UJ]
   rw[e];generalize bI w F c y v=u at *;have hL:=hs.pos y om;have hp:(2:Int) ^ (y+1-a)=2 ^ (y-a)*2:=by rw[show y+1-a=(y-a)+1 by omega,Int.pow_succ]
   obtain⟨R,eR⟩:∃R,R=Q*2 ^ (y-a):=⟨_,rfl⟩;have hR:0<=R:=by rw[eR];exact Int.mul_nonneg hQ (Int.le_of_lt (Int.pow_pos om))
   have hRQ:Q<=R:=by
    rw[eR];have h1:(1:Int)<=2 ^ (y-a):=Int.pow_pos om;have:=Int.mul_le_mul_of_nonneg_left h1 hQ;omega
   have UL:Q*2 ^ (y+1-a)=2*R:=by rw[hp,eR,<-Int.mul_assoc,Int.mul_comm]
   have hle:=ih.le;have M8:=ih.lead;rw[<-eR]at hle M8;have ht:=GQ hL (M8 y (Nat.le_refl _) cy om) hR;generalize hT:u (aj w (F y)) / F y (aj w (F y))=t at ht;refine⟨fun z h1 h2=>?_,fun z h0 h1 h2=>?_,fun j=>?_,fun j hj=>?_⟩
   ·by_cases ez:z=y
    ·subst ez
     show 0<=u (aj w (F z))-t*F z (aj w (F z))/\u (aj w (F z))-t*F z (aj w (F z))<F z (aj w (F z));rw[<-hT];have q1:=Int.emod_nonneg (u (aj w (F z))) (show F z (aj w (F z))≠0 by omega);have q2:=Int.emod_lt_of_pos (u (aj w (F z))) hL;have q3:=Int.emod_add_mul_ediv (u (aj w (F z))) (F z (aj w (F z)));rw[Int.mul_comm]at q3;omega
    ·show 0<=u (aj w (F z))-t*F y (aj w (F z))/\u (aj w (F z))-t*F y (aj w (F z))<F z (aj w (F z))
     rw[bB (w:=w) (v:=F y) (hs.inc z y om om),Int.mul_zero,Int.sub_zero];exact ih.red z h1 om
   ·show(u (aj w (F z))-t*F y (aj w (F z))).natAbs<=_
    rw[UL];have q1:=M8 z om h1 h2;have q2:=ho.red y z cy om h2;have q3:(t*F y (aj w (F z))).natAbs<=(R*F z (aj w (F z))).natAbs:=iL ht om hR om;have q4:0<=R*F z (aj w (F z)):=Int.mul_nonneg hR om;rw[Int.mul_assoc];omega
   ·show(u j-t*F y j).natAbs<=_
    rw[UL];have q1:=hle j;have q3:(t*F y j).natAbs<=(R*E).natAbs:=iL ht (ho.le y cy om j) hR hE;have q4:0<=R*E:=Int.mul_nonneg hR hE;have q5:0<=(R-Q)*E:=Int.mul_nonneg om hE;rw[show(2*R-Q)*E=(R-Q)*E+R*E by rw[<-Int.add_mul];congr 1;omega];omega
   ·show u j-t*F y j=v j
    rw[bB (w:=w) (v:=F y) (hj y cy om),Int.mul_zero,Int.sub_zero];exact ih.cI j hj
  ·have e:bI w F c (y+1) v=bI w F c y v:=by
    show(if c<aj w (F y)then _ else _)=_;rw[if_neg (by have:=ha y om om;omega)]
   rw[e];have e0:y+1-a=y-a:=om
   exact⟨fun z h1 h2=>om,fun z h0 h1 h2=>by rw[e0];exact ih.lead z om h1 h2,fun j=>by rw[e0];exact ih.le j,ih.cI⟩
theorem M9{w k a c:Nat}{F:Nat->aR}{v:aR}(hs:BP w k F)(ha:∀z,z<a->z<k->aj w (F z)<=c)(hr:∀z,a<=z->z<k->0<=v (aj w (F z))/\v (aj w (F z))<F z (aj w (F z))):∀y,y<=k->bI w F c y v=v
 |0,_=>rfl
 |y+1,hy=>by
  have ih:=M9 hs ha hr y om;show(if c<aj w (F y)then(fun j=>bI w F c y v j-bI w F c y v (aj w (F y)) / F y (aj w (F y))*F y j)else bI w F c y v)=v;rw[ih];split
  ·rename_i q
   have cy:a<=y:=by rcases Nat.lt_or_ge y a with r|r;have:=ha y r om;omega;exact r
   obtain⟨h1,h2⟩:=hr y cy om;rw[Int.ediv_eq_zero_of_lt h1 h2]
   funext j;omega
  ·rfl
theorem GR{w k:Nat}{F:Nat->aR}{c r:Nat}{v:aR}(hr:r<k):∀y,y<=k->(∀z,z<y->c<aj w (F z)->z≠r)->kY w k (put F r (bI w F c y v)) (put F r v)
 |0,_,_=>.refl _ _ _
 |y+1,hy,eO=>by
  have ih:=GR (c:=c) (v:=v) hr y om (fun z hz=>eO z om);by_cases q:c<aj w (F y)
  ·have e:bI w F c (y+1) v=fun j=>bI w F c y v j-bI w F c y v (aj w (F y)) / F y (aj w (F y))*F y j:=by
    show(if c<aj w (F y)then _ else _)=_;rw[if_pos q]
   have ny:=eO y om q;have h:=kY.sub (w:=w) (F:=put F r (bI w F c y v)) (r:=r) (y:=y) hr om (fun e=>ny e.symm) (bI w F c y v (aj w (F y)) / F y (aj w (F y)));rw[jy,show put F r (bI w F c y v) r=bI w F c y v by unfold put;rw[if_pos rfl],show put F r (bI w F c y v) y=F y by unfold put;rw[if_neg ny]]at h;rw[e];exact h.trans ih
  ·have e:bI w F c (y+1) v=bI w F c y v:=by
    show(if c<aj w (F y)then _ else _)=_;rw[if_neg q]
   rw[e];exact ih
def mj(w:Nat)(F:Nat->aR)(c k:Nat)(v:aR):Prop:=∀y,y<k->c<aj w (F y)->∀j,(bI w F c y v j).natAbs<=9000000000000000000/\(bI w F c y v (aj w (F y)) / F y (aj w (F y))*F y j).natAbs<=9000000000000000000/\(bI w F c (y+1) v j).natAbs<=9000000000000000000
theorem qC{w k a c:Nat}{F:Nat->aR}{E N Q:Int}{v:aR}(hs:BP w k F)(hE:0<=E)(hN:0<=N)(hQ:0<=Q)(ho:Old w k a F E)(ha:∀z,z<a->z<k->aj w (F z)<=c)(hc:∀z,a<=z->z<k->c<aj w (F z))
  (hv:∀j,(v j).natAbs<=N.natAbs) (hl:∀z,a<=z->z<k->(v (aj w (F z))).natAbs<=(Q*F z (aj w (F z))).natAbs) (hka:k-a<=3) (hb:N+7*(Q*E)<=9000000000000000000):mj w F c k v/\∀j,(bI w F c k v j).natAbs<=(N+7*(Q*E)).natAbs:=by
 have all:=sE hs hE hN hQ ho ha hc hv hl;have hQE:0<=Q*E:=Int.mul_nonneg hQ hE;have pw:∀y,y<=k->Q<=Q*2 ^ (y-a)/\Q*2 ^ (y-a)<=8*Q:=fun y hy=>by
  have:y-a=0\/y-a=1\/y-a=2\/y-a=3:=om
  rcases this with q|q|q|q<;>rw[q]
  ·rw[Int.pow_zero];omega
  ·rw[show(2:Int) ^ 1=2 from rfl];omega
  ·rw[show(2:Int) ^ 2=4 from rfl];omega
  ·rw[show(2:Int) ^ 3=8 from rfl];omega
 have le:∀y,y<=k->∀j,(bI w F c y v j).natAbs<=(N+7*(Q*E)).natAbs:=fun y hy j=>by
  have h1:=(all y hy).le j;obtain⟨h2,h3⟩:=pw y hy;have h4:=Int.mul_le_mul_of_nonneg_right (show Q*2 ^ (y-a)-Q<=7*Q by omega) hE;have h5:=Int.mul_nonneg (show 0<=Q*2 ^ (y-a)-Q by omega) hE;rw[Int.mul_assoc]at h4;omega
 refine⟨fun y hy UJ j=>?_,le k (Nat.le_refl _)⟩;have h1:=le y om j;have h2:=le (y+1) om j;refine⟨om,?_,om⟩;have cy:a<=y:=by rcases Nat.lt_or_ge y a with r|r;have:=ha y r hy;omega;exact r
 have L:=hs.pos y hy;have h6:=(all y om).lead y (Nat.le_refl _) cy hy;have h7:=GQ L h6 (by obtain⟨h2,h3⟩:=pw y om;omega);have h8:=(pw y om).1;have h9:Q*2 ^ (y-a)<=4*Q:=by
  have:y-a=0\/y-a=1\/y-a=2:=om
  rcases this with q|q|q<;>rw[q]
  ·rw[Int.pow_zero];omega
  ·rw[show(2:Int) ^ 1=2 from rfl];omega
  ·rw[show(2:Int) ^ 2=4 from rfl];omega
 have Ap:=iL (A:=4*Q) (B:=E) (show(bI w F c y v (aj w (F y)) / F y (aj w (F y))).natAbs<=_ by omega) (ho.le y cy hy j) om hE;rw[Int.mul_assoc]at Ap;omega
end Go.Proofs.YtdpbiegfljmhmaaGreat.Ext
namespace Go.Proofs.YtdpbiegfljmhmaaGreat.Ext
def cb(a:Nat):Int:=3673320192*7 ^ a
theorem wL(a:Nat):cb (a+1)=7*cb a:=by unfold cb;rw[Int.pow_succ];omega
theorem Na(a:Nat):0<cb a:=by unfold cb;have:(0:Int)<7 ^ a:=Int.pow_pos om;omega
theorem tM{a b:Nat}(h:a<=b):cb a<=cb b:=by
 obtain⟨d,rfl⟩:∃d,b=a+d:=⟨b-a,om⟩;clear h
 induction d with
 |zero=>exact Int.le_refl _
 |succ d ih=>have:=Na (a+d);rw[show a+(d+1)=a+d+1 by omega,wL];omega
theorem P6:cb 3=1259948825856:=by decide
theorem A7{a:Nat}(h:a<=3):cb a<=1259948825856:=by rw[<-P6];exact tM h
def Pt(f:Nat->Int):Nat->Nat->Int
 |_,0=>1
 |a,n+1=>f a*Pt f (a+1) n
theorem sF{f:Nat->Int}:∀(n a:Nat),(∀i,a<=i->i<a+n->0<f i)->0<Pt f a n
 |0,_,_=>by show(0:Int)<1;omega
 |n+1,a,h=>Int.mul_pos (h a om om) (sF n (a+1) (fun i h1 h2=>h i om om))
theorem zb{f g:Nat->Int}:∀(n a:Nat),(∀i,a<=i->i<a+n->f i=g i)->Pt f a n=Pt g a n
 |0,_,_=>rfl
 |n+1,a,h=>by show f a*Pt f (a+1) n=g a*Pt g (a+1) n;rw[h a om om,zb n (a+1) (fun i h1 h2=>h i om om)]
theorem mX{x p:Int}(hx:0<=x)(hp:0<p):x<=x*p:=by
 have:=Int.mul_le_mul_of_nonneg_left (show(1:Int)<=p by omega) hx;omega
theorem Cu{f:Nat->Int}{k:Nat}(h:∀i,i<k->0<f i):∀(d a:Nat),a+d<=k->Pt f (a+d) (k-(a+d))<=Pt f a (k-a)
 |0,a,_=>Int.le_refl _
 |d+1,a,hk=>by
  have ih:=Cu h d (a+1) om;rw[show a+(d+1)=a+1+d by omega];refine Int.le_trans ih ?_;rw[show k-a=(k-(a+1))+1 by omega];show _<=f a*Pt f (a+1) (k-(a+1));have p:=sF (f:=f) (k-(a+1)) (a+1) (fun i h1 h2=>h i om);rw[Int.mul_comm];exact mX (Int.le_of_lt p) (h a om)
theorem Nb(f:Nat->Int):∀(n a:Nat),Pt f a (n+1)=Pt f a n*f (a+n)
 |0,a=>by show f a*1=1*f (a+0);rw[Nat.add_zero];omega
 |n+1,a=>by
  show f a*Pt f (a+1) (n+1)=f a*Pt f (a+1) n*f (a+(n+1));rw[Nb f n (a+1),show a+1+n=a+(n+1) by omega,Int.mul_assoc]
theorem EC(f:Nat->Int):∀n,Pt f 0 n=gv f n
 |0=>rfl
 |n+1=>by rw[Nb,EC f n,Nat.zero_add];rfl
def zd(w:Nat)(F:Nat->aR):Nat->Int:=fun z=>F z (aj w (F z))
theorem BP.parts{w k:Nat}{F:Nat->aR}(h:BP w k F)(c:Nat):∃a,a<=k/\(∀y,y<a->aj w (F y)<c)/\∀z,a<=z->z<k->c<=aj w (F z):=by
 obtain⟨h1,h2,h3⟩:=h
 induction k with
 |zero=>exact⟨0,Nat.le_refl _,fun y hy=>om,fun z _ hz=>om⟩
 |succ k ih=>
  obtain⟨a,q1,q2,q3⟩:=ih (fun i hi=>h1 i om) (fun i hi=>h2 i om) (fun i j hi hj=>h3 i j hi om);by_cases e:aj w (F k)<c
  ·refine⟨k+1,Nat.le_refl _,fun y hy=>?_,fun z hz hk=>om⟩
   by_cases ey:y=k
   ·rw[ey];exact e
   ·have:=h3 y k om om;omega
  ·refine⟨a,om,q2,fun z hz hk=>?_⟩
   by_cases ez:z=k
   ·rw[ez];omega
   ·exact q3 z hz om
structure jn(w k:Nat)(F:Nat->aR)(v:aR)(F0:Nat->aR):Prop where
 gI:BP w k F
 C2:kY w (k+1) (put F k v) F0
 GM:∀y,y<k->∀j,(F y j).natAbs<=(cb 3).natAbs
 k3:k<=3
 nz:∃d J I,(∀i,i<d->J i<w)/\prod d (rv (k+1) F0 J) (k+1) I≠0
theorem jn.lead{w k:Nat}{F:Nat->aR}{v:aR}{F0:Nat->aR}(b:jn w k F v F0):aj w v<w:=by
 obtain⟨d,J,I,h1,h2⟩:=b.nz;have:=b.C2.ne h1 h2 (r:=k) om;rw[show put F k v k=v by unfold put;rw[if_pos rfl]]at this;exact this
structure J3(w k a:Nat)(F:Nat->aR)(v:aR)(N Q:Int):Prop where
 ak:a<=k
 lo:∀y,y<a->aj w (F y)<aj w v
 hi:∀z,a<=z->z<k->aj w v<=aj w (F z)
 cI:Old w k a F 13122
 n0:0<=N
 q1:1<=Q
 le:∀j,(v j).natAbs<=N.natAbs
 ld:∀z,a<=z->z<k->(v (aj w (F z))).natAbs<=(Q*F z (aj w (F z))).natAbs
 Nc:(N+7*(Q*13122))*Pt (zd w F) a (k-a)<=cb a
structure Nd(w k a:Nat)(F:Nat->aR)(v:aR)(n m:Int):Prop where
 ak:a<k
 lo:∀y,y<a->aj w (F y)<aj w v
 eq:aj w (F a)=aj w v
 cI:Old w k (a+1) F 13122
 xy:F a (aj w v)<v (aj w v)
 rv:∀z,a<z->z<k->0<=v (aj w (F z))/\v (aj w (F z))<F z (aj w (F z))
 rf:∀z,a<z->z<k->0<=F a (aj w (F z))/\F a (aj w (F z))<F z (aj w (F z))
 vn:∀j,((v j).natAbs:Int)+91854<=n
 fm:∀j,((F a j).natAbs:Int)+91854<=m
 Nc:(n*F a (aj w v)+m*v (aj w v))*Pt (zd w F) (a+1) (k-(a+1))<=7*cb a
theorem gB{F:Nat->aR}{k:Nat}(v:aR):put F k v k=v:=by unfold put;rw[if_pos rfl]
theorem fT{F:Nat->aR}{k i:Nat}(v:aR)(h:i≠k):put F k v i=F i:=by unfold put;rw[if_neg h]
theorem jn.low{w k:Nat}{F:Nat->aR}{v:aR}{F0:Nat->aR}(b:jn w k F v F0)(c:Nat):jn w k F (bI w F c k v) F0:=
 ⟨b.gI,by
  have h:=GR (w:=w) (k:=k+1) (F:=F) (c:=c) (v:=v) (r:=k) om k om (fun z hz _=>om);exact h.trans b.C2,b.GM,b.k3,b.nz⟩
theorem jn.take{w k a:Nat}{F:Nat->aR}{v:aR}{F0:Nat->aR}(b:jn w k F v F0)(ha:a<k)(q:Int):jn w k F (fun j=>v j-q*F a j) F0:=
 ⟨b.gI,by
  have h:=kY.sub (w:=w) (k:=k+1) (F:=put F k v) (r:=k) (y:=a) om om om q;rw[jy,gB,fT v om]at h;exact h.trans b.C2,b.GM,b.k3,b.nz⟩
theorem Ir{w k a:Nat}{F:Nat->aR}{v:aR}{F0:Nat->aR}{N Q:Int}(b:jn w k F v F0)(ha:a<k)(ho:Old w k (a+1) F 13122)(hz:∀j,j<=aj w (F a)->v j=0)(hN:0<=N)(hQ:1<=Q)(le:∀j,(v j).natAbs<=N.natAbs)
  (ld:∀z,a<z->z<k->(v (aj w (F z))).natAbs<=(Q*F z (aj w (F z))).natAbs) (Nc:(N+7*(Q*13122))*Pt (zd w F) (a+1) (k-(a+1))<=7*cb a):aj w (F a)<aj w v/\∃a',J3 w k a' F v N Q:=by
 have hc:aj w (F a)<aj w v:=by
  rcases Nat.lt_or_ge (aj w (F a)) (aj w v)with q|q
  ·exact q
  ·exact absurd (hz _ q) (lV b.lead)
 refine⟨hc,?_⟩;obtain⟨a',p1,p2,p3⟩:=b.gI.parts (aj w v);have haa:a+1<=a':=by
  rcases Nat.lt_or_ge a a' with q|q
  ·exact q
  ·have:=p3 a q ha;omega
 have hL:∀i,i<k->0<zd w F i:=fun i hi=>b.gI.pos i hi
 obtain⟨d,rfl⟩:∃d,a'=a+1+d:=⟨a'-(a+1),om⟩;have h1:=Cu hL d (a+1) p1;have h2:0<=N+7*(Q*13122):=om
 have h3:=Int.mul_le_mul_of_nonneg_left h1 h2;have h4:=tM (a:=a+1) (b:=a+1+d) om;rw[wL]at h4;exact⟨a+1+d,p1,p2,p3,ho.M7 om,hN,hQ,le,fun z h1 h2=>ld z om h2,om⟩
theorem Nf{w k a:Nat}{F:Nat->aR}{u:aR}{F0:Nat->aR}{n m:Int}(b:jn w k F u F0)(ha:a<k)(ho:Old w k (a+1) F 13122)(hz:∀j,j<aj w (F a)->u j=0)(hx:0<u (aj w (F a))/\u (aj w (F a))<F a (aj w (F a)))
  (ru:∀z,a<z->z<k->0<=u (aj w (F z))/\u (aj w (F z))<F z (aj w (F z))) (rf:∀z,a<z->z<k->0<=F a (aj w (F z))/\F a (aj w (F z))<F z (aj w (F z)))
  (un:∀j,((u j).natAbs:Int)+91854<=m) (fn:∀j,((F a j).natAbs:Int)+91854<=n) (hm:m<=cb 3)
  (Nc:(n*u (aj w (F a))+m*F a (aj w (F a)))*Pt (zd w F) (a+1) (k-(a+1))<=7*cb a):aj w u=aj w (F a)/\jn w k (put F a u) (F a) F0/\Nd w k a (put F a u) (F a) n m:=by
 have hlw:=b.gI.lt a ha;have hl:aj w u=aj w (F a):=iK om hz (fun _=>om);have KQ:=gB (F:=F) (k:=a) u;have Fu:∀i,i≠a->put F a u i=F i:=fun i hi=>fT u hi
 have hle:∀i,aj w (put F a u i)=aj w (F i):=fun i=>by
  by_cases e:i=a
  ·rw[e,KQ,hl]
  ·rw[Fu i e]
 have uD:BP w k (put F a u):=by
  refine⟨fun i hi=>by rw[hle];exact b.gI.lt i hi,fun i hi=>?_,fun i j h1 h2=>by rw[hle,hle];exact b.gI.inc i j h1 h2⟩;rw[hle];by_cases e:i=a
  ·rw[e,KQ];exact hx.1
  ·rw[Fu i e];exact b.gI.pos i hi
 have hpt:Pt (zd w (put F a u)) (a+1) (k-(a+1))=Pt (zd w F) (a+1) (k-(a+1)):=zb _ _ (fun i h1 h2=>by unfold zd;rw[Fu i om]);refine⟨hl,⟨uD,?_,fun y hy j=>?_,b.k3,b.nz⟩,⟨ha,fun y hy=>?_,by rw[KQ];exact hl,⟨fun z h1 h2 j=>?_,fun y z h1 h2 h3=>?_⟩,?_,fun z h1 h2=>?_,fun z h1 h2=>?_,fn,fun j=>by rw[KQ];exact un j,?_⟩⟩
 ·have h:=kY.swap (w:=w) (k:=k+1) (F:=put F k u) (a:=a) (b:=k) om om
  have e:OO (put F k u) a k=put (put F a u) k (F a):=by
   unfold OO;rw[gB,fT u om,od (show k≠a by omega),jy]
  rw[e]at h;exact h.trans b.C2
 ·by_cases e:y=a
  ·rw[e,KQ];have:=un j;have:=Na 3;omega
  ·rw[Fu y e];exact b.GM y hy j
 ·rw[Fu y om];exact b.gI.inc y a hy ha
 ·rw[Fu z om];exact ho.le z h1 h2 j
 ·rw[Fu y om,Fu z om];exact ho.red y z h1 h2 h3
 ·rw[KQ];exact hx.2
 ·rw[Fu z om];exact rf z h1 h2
 ·rw[KQ,Fu z om];exact ru z h1 h2
 ·rw[KQ,hpt];exact Nc
def Next(w k:Nat)(F0 F:Nat->aR)(a:Nat)(u2:aR):Prop:=
 (u2 (aj w (F a))=0/\aj w (F a)<aj w u2/\jn w k F u2 F0/\∃a' N Q,J3 w k a' F u2 N Q) \/
 (u2 (aj w (F a))≠0/\aj w u2=aj w (F a)/\mj w F (aj w (F a)) k u2/\aj w (bI w F (aj w (F a)) k u2)=aj w (F a)/\bI w F (aj w (F a)) k u2 (aj w (F a))<F a (aj w (F a))/\jn w k (put F a (bI w F (aj w (F a)) k u2)) (F a) F0/\∃n m,Nd w k a (put F a (bI w F (aj w (F a)) k u2)) (F a) n m)
theorem vN{x y:Int}(hy:0<y):0<=x-x / y*y/\x-x / y*y<y:=by
 have q1:=Int.emod_nonneg x (show y≠0 by omega);have q2:=Int.emod_lt_of_pos x hy;have q3:=Int.emod_add_mul_ediv x y;rw[Int.mul_comm]at q3;omega
end Go.Proofs.YtdpbiegfljmhmaaGreat.Ext
namespace Go.Proofs.YtdpbiegfljmhmaaGreat.Ext
theorem J3.top{w k a:Nat}{F:Nat->aR}{v:aR}{F0:Nat->aR}{N Q:Int}(b:jn w k F v F0)(h:J3 w k a F v N Q):N+7*(Q*13122)<=cb a:=by
 have p:=sF (f:=zd w F) (k-a) a (fun i h1 h2=>b.gI.pos i om);have:=h.Nc;have h2:=h.n0;have h3:=h.q1;have:=mX (show 0<=N+7*(Q*13122) by omega) p;omega
theorem J3.low{w k a:Nat}{F:Nat->aR}{v:aR}{F0:Nat->aR}{N Q:Int}(b:jn w k F v F0)(h:J3 w k a F v N Q) :
  mj w F (aj w v) k v/\(∀j,(bI w F (aj w v) k v j).natAbs<=(N+7*(Q*13122)).natAbs)/\(∀j,j<=aj w v->bI w F (aj w v) k v j=v j)/\∀z,a<=z->z<k->aj w v<aj w (F z)->0<=bI w F (aj w v) k v (aj w (F z))/\bI w F (aj w v) k v (aj w (F z))<F z (aj w (F z)):=by
 have Wx:=h.top b;have hn:=h.n0;have hq:=h.q1;have hk:=b.k3;have key:∀a1,a<=a1->a1<=a+1->a1<=k->(∀z,z<a1->z<k->aj w (F z)<=aj w v)->(∀z,a1<=z->z<k->aj w v<aj w (F z))->mj w F (aj w v) k v/\(∀j,(bI w F (aj w v) k v j).natAbs<=(N+7*(Q*13122)).natAbs)/\(∀j,j<=aj w v->bI w F (aj w v) k v j=v j)/\∀z,a1<=z->z<k->0<=bI w F (aj w v) k v (aj w (F z))/\bI w F (aj w v) k v (aj w (F z))<F z (aj w (F z)):=by
  intro a1 h1 h2 h3 lo hi;have ho:=h.cI.M7 h1;have X7:∀z,a1<=z->z<k->(v (aj w (F z))).natAbs<=(Q*F z (aj w (F z))).natAbs:=fun z q1 q2=>h.ld z om q2
  obtain⟨s1,s2⟩:=qC b.gI (E:=13122) om hn om ho lo hi h.le X7 om (by have:=A7 (a:=a) (by have:=h.ak;omega);omega);have s3:=sE b.gI (E:=13122) om hn om ho lo hi h.le X7 k (Nat.le_refl _);exact⟨s1,s2,fun j hj=>s3.cI j (fun z q1 q2=>by have:=hi z q1 q2;omega),s3.red⟩
 by_cases c:a<k/\aj w (F a)=aj w v
 ·obtain⟨r1,r2,r3,r4⟩:=key (a+1) om om om (fun z q1 q2=>by
   by_cases e:z=a
   ·rw[e];omega
   ·have:=h.lo z om;omega) (fun z q1 q2=>by have:=b.gI.inc a z om q2;omega)
  exact⟨r1,r2,r3,fun z q1 q2 q3=>r4 z (by
   rcases Nat.lt_or_ge a z with q|q
   ·omega
   ·have:z=a:=om
    subst this;omega) q2⟩
 ·obtain⟨r1,r2,r3,r4⟩:=key a om om h.ak (fun z q1 q2=>by have:=h.lo z q1;omega) (fun z q1 q2=>by
   have h1:=h.hi z q1 q2;by_cases e:aj w (F z)=aj w v
   ·exfalso
    by_cases ez:z=a
    ·subst ez;exact c ⟨q2,e⟩
    ·have:=b.gI.inc a z om q2;have:=h.hi a om om;omega
   ·omega)
  exact⟨r1,r2,r3,fun z q1 q2 _=>r4 z q1 q2⟩
theorem P7{w k a:Nat}{F:Nat->aR}{v:aR}{F0:Nat->aR}{N Q:Int}(b:jn w k F v F0)(h:J3 w k a F v N Q)(ha:a<k)(he:aj w (F a)=aj w v){u:aR}(eu:u=bI w F (aj w v) k v){q:Int}(eq:q=u (aj w v) / F a (aj w v)) :
  (∀j,(q*F a j).natAbs<=9000000000000000000/\(u j-q*F a j).natAbs<=9000000000000000000)/\Next w k F0 F a (fun j=>u j-q*F a j):=by
 obtain⟨l1,l2,l3,l4⟩:=h.low b;have bu:=b.low (aj w v);have Wx:=h.top b;have hn:=h.n0;have hq:=h.q1;have hk:=b.k3;have hcb:=A7 (a:=a) om;rw[<-eu]at l2 l3 l4 bu;rw[<-he]at l3 l4 eq;have hL:=b.gI.pos a ha;have luc:u (aj w (F a))=v (aj w (F a)):=l3 _ (Nat.le_refl _);have hqQ:q.natAbs<=Q.natAbs:=by
  rw[eq,luc];exact GQ hL (h.ld a om ha) om
 obtain⟨QE,UM⟩:∃z,z=Q*13122:=⟨_,rfl⟩;rw[<-UM]at Wx l2;have hQE:13122<=QE:=om
 have UN:∀j,(q*F a j).natAbs<=QE.natAbs:=fun j=>by rw[UM];exact iL hqQ (h.cI.le a (Nat.le_refl _) ha j) om om
 refine⟨fun j=>⟨by have:=UN j;omega,by have:=UN j;have:=l2 j;omega⟩,?_⟩;have b2:=bu.take ha q;have Lv:∀j,(u j-q*F a j).natAbs<=(N+8*QE).natAbs:=fun j=>by have:=UN j;have:=l2 j;omega
 have zO:∀j,j<aj w (F a)->u j-q*F a j=0:=fun j hj=>by
  rw[l3 j om,bB (w:=w) (v:=v) om,bB hj];omega
 have Ar:∀z,a<z->z<k->((u (aj w (F z))-q*F a (aj w (F z))).natAbs<=((Q+1)*F z (aj w (F z))).natAbs):=fun z z1 z2=>by
  obtain⟨r1,r2⟩:=l4 z om z2 (b.gI.inc a z z1 z2);obtain⟨r3,r4⟩:=h.cI.red a z (Nat.le_refl _) z1 z2;have r5:=iL hqQ (show(F a (aj w (F z))).natAbs<=(F z (aj w (F z))).natAbs by omega) om om;have r6:0<=Q*F z (aj w (F z)):=Int.mul_nonneg om om;rw[Int.add_mul,Int.one_mul];omega
 have ho:=h.cI.M7 (a':=a+1) om;obtain⟨x1,x2⟩:=vN (x:=u (aj w (F a))) hL;rw[<-eq]at x1 x2;have At:=h.Nc;rw[<-UM,show k-a=(k-(a+1))+1 by omega]at At;have At:(N+7*QE)*(F a (aj w (F a))*Pt (zd w F) (a+1) (k-(a+1)))<=cb a:=At;have hP:=sF (f:=zd w F) (k-(a+1)) (a+1) (fun i h1 h2=>b.gI.pos i om);generalize Wy:Pt (zd w F) (a+1) (k-(a+1))=P at At hP;have hT:0<=N+7*QE:=om
 have bud1:(N+7*QE)*P<=cb a:=by
  refine Int.le_trans ?_ At;refine Int.mul_le_mul_of_nonneg_left ?_ hT;rw[Int.mul_comm];exact mX (Int.le_of_lt hP) hL
 by_cases c0:u (aj w (F a))-q*F a (aj w (F a))=0
 ·left
  have fin:=Ir b2 ha ho (N:=N+8*QE) (Q:=Q+1) (fun j hj=>by
   by_cases e:j=aj w (F a)
   ·rw[e];exact c0
   ·exact zO j om) om om Lv Ar (by
   rw[Wy,show N+8*QE+7*((Q+1)*13122)=N+15*QE+91854 by rw[UM];omega];have:=Int.mul_le_mul_of_nonneg_right (show N+15*QE+91854<=7*(N+7*QE) by omega) (Int.le_of_lt hP);rw[Int.mul_assoc]at this;omega)
  obtain⟨f1,a',f2⟩:=fin;exact⟨c0,f1,b2,a',_,_,f2⟩
 ·right
  have hx:0<u (aj w (F a))-q*F a (aj w (F a)):=om
  have By:aj w (fun j=>u j-q*F a j)=aj w (F a):=iK (Nat.le_of_lt (b.gI.lt a ha)) zO (fun _=>by show u (aj w (F a))-q*F a (aj w (F a))≠0;omega);have lo:∀z,z<a+1->z<k->aj w (F z)<=aj w (F a):=fun z z1 z2=>by
   by_cases e:z=a
   ·rw[e];omega
   ·have:=b.gI.inc z a om ha;omega
  have hi:∀z,a+1<=z->z<k->aj w (F a)<aj w (F z):=fun z z1 z2=>b.gI.inc a z om z2
  have s1:=qC b.gI (E:=13122) (N:=N+8*QE) (Q:=Q+1) (v:=fun j=>u j-q*F a j) om om om ho lo hi Lv (fun z z1 z2=>Ar z om z2) om (by rw[show(Q+1)*13122=QE+13122 by rw[UM];omega];omega);have s2:=sE b.gI (E:=13122) (N:=N+8*QE) (Q:=Q+1) (v:=fun j=>u j-q*F a j) om om om ho lo hi Lv (fun z z1 z2=>Ar z om z2) k (Nat.le_refl _);obtain⟨s1,s3⟩:=s1;have b3:=b2.low (aj w (F a));have e3:∀j,j<=aj w (F a)->bI w F (aj w (F a)) k (fun j=>u j-q*F a j) j=u j-q*F a j:=fun j hj=>s2.cI j (fun z z1 z2=>by have:=hi z z1 z2;omega)
  have r3:=s2.red;generalize bI w F (aj w (F a)) k (fun j=>u j-q*F a j)=u3 at *;have ec:u3 (aj w (F a))=u (aj w (F a))-q*F a (aj w (F a)):=e3 _ (Nat.le_refl _);have hm:N+29*QE<=cb 3:=by
   have h4:=tM (a:=a+1) (b:=3) om;rw[wL]at h4;omega
  obtain⟨m1,m2,m3⟩:=Nf b3 ha ho (n:=104976) (m:=N+29*QE) (fun j hj=>by rw[e3 j om];exact zO j hj) (by rw[ec];exact⟨hx,x2⟩) (fun z z1 z2=>r3 z om z2) (fun z z1 z2=>h.cI.red a z (Nat.le_refl _) z1 z2)
   (fun j=>by have:=s3 j;rw[show(Q+1)*13122=QE+13122 by rw[UM];omega]at this;omega) (fun j=>by have:=h.cI.le a (Nat.le_refl _) ha j;omega) hm (by
   rw[Wy,ec];generalize u (aj w (F a))-q*F a (aj w (F a))=x at *;generalize hy:F a (aj w (F a))=y at *;have q1:104976*x+(N+29*QE)*y<=7*(N+7*QE)*y:=by
    have h1:=Int.mul_le_mul_of_nonneg_right (show 104976+(N+29*QE)<=7*(N+7*QE) by omega) (Int.le_of_lt hL);rw[Int.add_mul]at h1;omega
   have q2:=Int.mul_le_mul_of_nonneg_right q1 (Int.le_of_lt hP);refine Int.le_trans q2 ?_;rw[Int.mul_assoc,Int.mul_assoc];omega)
  exact⟨c0,By,s1,m1,by rw[ec];exact x2,m2,_,_,m3⟩
theorem Nd.y0{w k a:Nat}{F:Nat->aR}{v:aR}{F0:Nat->aR}{n m:Int}(b:jn w k F v F0)(h:Nd w k a F v n m):0<F a (aj w v):=by have:=b.gI.pos a h.ak;rw[h.eq]at this;exact this
theorem Nd.low{w k a:Nat}{F:Nat->aR}{v:aR}{F0:Nat->aR}{n m:Int}(b:jn w k F v F0)(h:Nd w k a F v n m):(∀y,y<=k->bI w F (aj w v) y v=v)/\mj w F (aj w v) k v:=by
 have lo:∀z,z<a+1->z<k->aj w (F z)<=aj w v:=fun z z1 z2=>by
  by_cases e:z=a
  ·rw[e,h.eq];omega
  ·have:=h.lo z om;omega
 have id:=M9 (c:=aj w v) b.gI lo (fun z z1 z2=>h.rv z om z2);refine⟨id,fun y hy hc j=>?_⟩;rw[id y om,id (y+1) om];have cy:a<y:=by
  rcases Nat.lt_or_ge a y with q|q
  ·exact q
  ·have:=lo y om hy;omega
 obtain⟨r1,r2⟩:=h.rv y cy hy;have hv:=h.vn j;have hP:=sF (f:=zd w F) (k-(a+1)) (a+1) (fun i h1 h2=>b.gI.pos i om);have OR:=h.y0 b;have hx:=h.xy;have hn:0<=n:=by have:=h.vn 0;omega
 have hm:0<=m:=by have:=h.fm 0;omega
 have b1:=h.Nc;have b2:0<=n*F a (aj w v):=Int.mul_nonneg hn om;have b3:0<=m*v (aj w v):=Int.mul_nonneg hm om;have b4:=mX (show 0<=n*F a (aj w v)+m*v (aj w v) by omega) hP;have b5:=mX hn OR;have hak:=h.ak;have hk:=b.k3;have b6:=A7 (a:=a) om;rw[Int.ediv_eq_zero_of_lt r1 r2,Int.zero_mul];omega
theorem P8{w k a:Nat}{F:Nat->aR}{v:aR}{F0:Nat->aR}{n m:Int}(b:jn w k F v F0)(h:Nd w k a F v n m){q:Int}(eq:q=v (aj w v) / F a (aj w v)) :
  (∀j,(q*F a j).natAbs<=9000000000000000000/\(v j-q*F a j).natAbs<=9000000000000000000)/\Next w k F0 F a (fun j=>v j-q*F a j):=by
 have ha:=h.ak;have hk:=b.k3;have he:=h.eq;have hxy:=h.xy;have At:=h.Nc;rw[<-he]at eq hxy At;have hL:=b.gI.pos a ha;have hn:91854<=n:=by have:=h.vn 0;omega
 have hm:91854<=m:=by have:=h.fm 0;omega
 have hP:=sF (f:=zd w F) (k-(a+1)) (a+1) (fun i h1 h2=>b.gI.pos i om);generalize Wy:Pt (zd w F) (a+1) (k-(a+1))=P at At hP;obtain⟨x1,x2⟩:=vN (x:=v (aj w (F a))) hL;rw[<-eq]at x1 x2;have MO:1<=q:=by
  rcases Int.lt_or_le q 1 with c|c
  ·have:=Int.mul_le_mul_of_nonneg_right (show q<=0 by omega) (Int.le_of_lt hL);omega
  ·exact c
 have hqm:q*m<=m*v (aj w (F a)):=by
  rw[Int.mul_comm];refine Int.mul_le_mul_of_nonneg_left ?_ om;have:=mX (show 0<=q by omega) hL;omega
 have Yu:n+q*m<=n*F a (aj w (F a))+m*v (aj w (F a)):=by have:=mX (show 0<=n by omega) hL;omega
 have hqm0:91854<=q*m:=by
  have:=Int.mul_le_mul_of_nonneg_right MO (show 0<=m by omega);omega
 have Jc:(n+q*m)*P<=7*cb a:=Int.le_trans (Int.mul_le_mul_of_nonneg_right Yu (Int.le_of_lt hP)) At;have Zp:n+q*m<=7*cb a:=Int.le_trans (mX om hP) Jc;have h3:7*cb a<=cb 3:=by rw[<-wL];exact tM om
 have h3n:=P6;have UN:∀j,(q*F a j).natAbs+91854*q<=q*m:=fun j=>by
  rw[Int.natAbs_mul];have:=h.fm j;have h1:=Int.mul_le_mul_of_nonneg_left this (show 0<=q by omega);rw[Int.mul_add]at h1;have:((q.natAbs*(F a j).natAbs:Nat):Int)=q*((F a j).natAbs:Int):=by
   rw[Int.natCast_mul];congr 1;omega
  omega
 have Lv:∀j,(v j-q*F a j).natAbs+91854+91854*q<=n+q*m:=fun j=>by have:=UN j;have:=h.vn j;omega
 refine⟨fun j=>⟨by have:=UN j;omega,by have:=Lv j;omega⟩,?_⟩;have b2:=b.take ha q;have zO:∀j,j<aj w (F a)->v j-q*F a j=0:=fun j hj=>by
  rw[bB (w:=w) (v:=v) om,bB hj];omega
 have Ar:∀z,a<z->z<k->((v (aj w (F z))-q*F a (aj w (F z))).natAbs<=(q*F z (aj w (F z))).natAbs):=fun z z1 z2=>by
  obtain⟨r1,r2⟩:=h.rv z z1 z2;obtain⟨r3,r4⟩:=h.rf z z1 z2;have r5:=Int.mul_le_mul_of_nonneg_left (Int.le_of_lt r4) (show 0<=q by omega);have r6:=Int.mul_nonneg (show 0<=q by omega) r3;have r7:=Int.mul_le_mul_of_nonneg_right MO (show 0<=F z (aj w (F z)) by omega);omega
 have hN:(n+q*m-91854-91854*q)+7*(q*13122)<=n+q*m:=om
 have Ur:0<=n+q*m-91854-91854*q:=by have:=Lv 0;omega
 by_cases c0:v (aj w (F a))-q*F a (aj w (F a))=0
 ·left
  obtain⟨f1,a',f2⟩:=Ir b2 ha h.cI (N:=n+q*m-91854-91854*q) (Q:=q) (fun j hj=>by
   by_cases e:j=aj w (F a)
   ·rw[e];exact c0
   ·exact zO j om) Ur MO (fun j=>by have:=Lv j;omega) Ar (by
   rw[Wy];exact Int.le_trans (Int.mul_le_mul_of_nonneg_right hN (Int.le_of_lt hP)) Jc)
  exact⟨c0,f1,b2,a',_,_,f2⟩
 ·right
  have hx:0<v (aj w (F a))-q*F a (aj w (F a)):=om
  have By:aj w (fun j=>v j-q*F a j)=aj w (F a):=iK (Nat.le_of_lt (b.gI.lt a ha)) zO (fun _=>by show v (aj w (F a))-q*F a (aj w (F a))≠0;omega);have lo:∀z,z<a+1->z<k->aj w (F z)<=aj w (F a):=fun z z1 z2=>by
   by_cases e:z=a
   ·rw[e];omega
   ·have:=b.gI.inc z a om ha;omega
  have hi:∀z,a+1<=z->z<k->aj w (F a)<aj w (F z):=fun z z1 z2=>b.gI.inc a z om z2
  obtain⟨s1,s3⟩:=qC b.gI (E:=13122) (N:=n+q*m-91854-91854*q) (Q:=q) (v:=fun j=>v j-q*F a j) om Ur om h.cI lo hi (fun j=>by have:=Lv j;omega) (fun z z1 z2=>Ar z om z2) om om;have s2:=sE b.gI (E:=13122) (N:=n+q*m-91854-91854*q) (Q:=q) (v:=fun j=>v j-q*F a j) om Ur om h.cI lo hi (fun j=>by have:=Lv j;omega) (fun z z1 z2=>Ar z om z2) k (Nat.le_refl _);have b3:=b2.low (aj w (F a));have e3:∀j,j<=aj w (F a)->bI w F (aj w (F a)) k (fun j=>v j-q*F a j) j=v j-q*F a j:=fun j hj=>s2.cI j (fun z z1 z2=>by have:=hi z z1 z2;omega)
  have r3:=s2.red;generalize bI w F (aj w (F a)) k (fun j=>v j-q*F a j)=u3 at *;have ec:u3 (aj w (F a))=v (aj w (F a))-q*F a (aj w (F a)):=e3 _ (Nat.le_refl _);obtain⟨m1,m2,m3⟩:=Nf b3 ha h.cI (n:=m) (m:=n+q*m) (fun j hj=>by rw[e3 j om];exact zO j hj) (by rw[ec];exact⟨hx,x2⟩) (fun z z1 z2=>r3 z om z2) h.rf
   (fun j=>by have:=s3 j;omega) h.fm om (by
   rw[Wy,ec];have e:m*(v (aj w (F a))-q*F a (aj w (F a)))+(n+q*m)*F a (aj w (F a))=n*F a (aj w (F a))+m*v (aj w (F a)):=by
    rw[Int.mul_sub,Int.add_mul,<-Int.mul_assoc,Int.mul_comm m q];omega
   rw[e];exact At)
  exact⟨c0,By,s1,m1,by rw[ec];exact x2,m2,_,_,m3⟩
end Go.Proofs.YtdpbiegfljmhmaaGreat.Ext
namespace Go.Proofs.YtdpbiegfljmhmaaGreat.Ext
def jT(F:Nat->aR)(a:Nat)(v:aR):Nat->aR:=fun y=>if y<a then F y else if y=a then v else F (y-1)
theorem ze{F:Nat->aR}{a y:Nat}(v:aR)(h:y<a):jT F a v y=F y:=by unfold jT;rw[if_pos h]
theorem Cv{F:Nat->aR}{a:Nat}(v:aR):jT F a v a=v:=by unfold jT;rw[if_neg om,if_pos rfl]
theorem Cw{F:Nat->aR}{a y:Nat}(v:aR)(h:a<y):jT F a v y=F (y-1):=by unfold jT;rw[if_neg om,if_neg om]
theorem Is{w:Nat}{F:Nat->aR}{v:aR}:∀(d a k:Nat),a+d=k->kY w (k+1) (jT F a v) (put F k v)
 |0,a,k,h=>by
  obtain rfl:a=k:=om
  refine .of_eq (fun i hi=>?_);unfold put;by_cases c:i=a
  ·rw[if_pos c,c,Cv]
  ·rw[if_neg c,ze v om]
 |d+1,a,k,h=>by
  have ih:=Is (w:=w) (F:=F) (v:=v) d (a+1) k om;have hs:=kY.swap (w:=w) (k:=k+1) (F:=jT F (a+1) v) (a:=a) (b:=a+1) om om;refine kY.trans (.of_eq (fun i hi=>?_)) (hs.trans ih);show jT F a v i=if i=a+1 then jT F (a+1) v a else if i=a then jT F (a+1) v (a+1)else jT F (a+1) v i
  by_cases c1:i=a+1
  ·rw[if_pos c1,c1,Cw v om,ze v om];rfl
  ·rw[if_neg c1]
   by_cases c2:i=a
   ·rw[if_pos c2,c2,Cv,Cv]
   ·rw[if_neg c2]
    by_cases c3:i<a
    ·rw[ze v c3,ze v om]
    ·rw[Cw v om,Cw v om]
structure sG(w K i:Nat)(F F0:Nat->aR):Prop where
 gI:BP w K F
 C2:kY w K F F0
 GM:∀y,y<K->∀j,(F y j).natAbs<=1259949000000
 red:∀y z,i<=y->y<z->z<K->0<=F y (aj w (F z))/\F y (aj w (F z))<F z (aj w (F z))
 k4:K<=4
 hM:∀i,i<K->∀j,(F0 i j).natAbs<=9
theorem P9{K:Nat}(h:K<=4):K*(tw K K*9 ^ K)<=629856:=by
 have:K=0\/K=1\/K=2\/K=3\/K=4:=om
 rcases this with rfl|rfl|rfl|rfl|rfl<;>decide
theorem BP.small{w K z:Nat}{F F0:Nat->aR}(s:BP w K F)(l:kY w K F F0)(hM:∀i,i<K->∀j,(F0 i j).natAbs<=9)(k4:K<=4)(hz:z<K)(hr:∀m,z<m->m<K->0<=F z (aj w (F m))/\F z (aj w (F m))<F m (aj w (F m)))(j:Nat):(F z j).natAbs<=629856:=
 Nat.le_trans (kY.bound s l hM hz (fun m hm=>by
  rcases Nat.lt_trichotomy m z with q|q|q
  ·rw[bB (w:=w) (v:=F z) (s.inc m z q hz)];exact Nat.zero_le _
  ·rw[q];exact Nat.le_refl _
  ·have:=hr m q hm;omega) j) (P9 k4)
theorem sG.cI{w K i:Nat}{F F0:Nat->aR}(f:sG w K (i+1) F F0):Old w K (i+1) F 629856:=
 ⟨fun z h1 h2 j=>f.gI.small f.C2 f.hM f.k4 h2 (fun m q1 q2=>f.red z m h1 q1 q2) j,fun y z h1 h2 h3=>f.red y z h1 h2 h3⟩
theorem sG.step{w K i:Nat}{F F0:Nat->aR}(f:sG w K (i+1) F F0)(hi:i<K):mj w F (aj w (F i)) K (F i)/\sG w K i (put F i (bI w F (aj w (F i)) K (F i))) F0:=by
 have ho:=f.cI;have lo:∀z,z<i+1->z<K->aj w (F z)<=aj w (F i):=fun z z1 z2=>by
  by_cases e:z=i
  ·rw[e];omega
  ·have:=f.gI.inc z i om hi;omega
 have hic:∀z,i+1<=z->z<K->aj w (F i)<aj w (F z):=fun z z1 z2=>f.gI.inc i z om z2
 have hv:∀j,(F i j).natAbs<=(1259949000000:Int).natAbs:=fun j=>f.GM i hi j
 have hl:∀z,i+1<=z->z<K->(F i (aj w (F z))).natAbs<=(1259949000000*F z (aj w (F z))).natAbs:=fun z z1 z2=>by
  have:=f.gI.pos z z2;have:=f.GM i hi (aj w (F z));omega
 have k4:=f.k4;obtain⟨s1,_⟩:=qC f.gI (E:=629856) (N:=1259949000000) (Q:=1259949000000) om om om ho lo hic hv hl om om;have s2:=sE f.gI (E:=629856) (N:=1259949000000) (Q:=1259949000000) om om om ho lo hic hv hl K (Nat.le_refl _);refine⟨s1,?_⟩;have Wz:=GR (w:=w) (k:=K) (F:=F) (c:=aj w (F i)) (v:=F i) hi K (Nat.le_refl _) (fun z _ hz e=>by rw[e]at hz;omega);rw[jx]at Wz;have e3:∀j,j<=aj w (F i)->bI w F (aj w (F i)) K (F i) j=F i j:=fun j hj=>s2.cI j (fun z z1 z2=>by have:=hic z z1 z2;omega)
 have r3:=s2.red;generalize bI w F (aj w (F i)) K (F i)=u at *;have KQ:=gB (F:=F) (k:=i) u;have Fu:∀y,y≠i->put F i u y=F y:=fun y hy=>fT u hy
 have WA:aj w u=aj w (F i):=iK (nk _ _) (fun j hj=>by rw[e3 j om];exact bB hj) (fun q=>by rw[e3 _ (Nat.le_refl _)];exact lV q);have hle:∀y,aj w (put F i u y)=aj w (F y):=fun y=>by
  by_cases e:y=i
  ·rw[e,KQ,WA]
  ·rw[Fu y e]
 have uD:BP w K (put F i u):=⟨fun y hy=>by rw[hle];exact f.gI.lt y hy,fun y hy=>by
  rw[hle];by_cases e:y=i
  ·rw[e,KQ,e3 _ (Nat.le_refl _)];exact f.gI.pos i hi
  ·rw[Fu y e];exact f.gI.pos y hy,fun y z h1 h2=>by rw[hle,hle];exact f.gI.inc y z h1 h2⟩
 have Ar:∀y z,i<=y->y<z->z<K->0<=put F i u y (aj w (put F i u z))/\put F i u y (aj w (put F i u z))<put F i u z (aj w (put F i u z)):=fun y z h1 h2 h3=>by
  rw[hle,Fu z om];by_cases e:y=i
  ·rw[e,KQ];exact r3 z om h3
  ·rw[Fu y e];exact f.red y z om h2 h3
 have By:=Wz.trans f.C2;refine⟨uD,By,fun y hy j=>?_,Ar,f.k4,f.hM⟩;by_cases e:y=i
 ·have:=uD.small By f.hM f.k4 hy (fun m q1 q2=>Ar y m om q1 q2) j
  omega
 ·rw[Fu y e];exact f.GM y hy j
theorem sG.PV{w K:Nat}{F F0:Nat->aR}(f:sG w K 0 F F0):Gc w K F:=⟨f.gI.lt,f.gI.pos,f.gI.inc,fun y z h1 h2=>f.red y z (Nat.zero_le _) h1 h2⟩
theorem Gc.small{w K:Nat}{F F0:Nat->aR}(h:Gc w K F)(l:kY w K F F0)(hM:∀i,i<K->∀j,(F0 i j).natAbs<=9)(k4:K<=4){i:Nat}(hi:i<K)(j:Nat):(F i j).natAbs<=629856:=
 h.gI.small l hM k4 hi (fun m q1 q2=>h.red i m q1 q2) j
theorem zf{w k a:Nat}{F:Nat->aR}{u:aR}{F0:Nat->aR}(b:jn w k F u F0)(hM:∀i,i<k+1->∀j,(F0 i j).natAbs<=9)(ak:a<=k)(lo:∀y,y<a->aj w (F y)<aj w u)(hi:∀z,a<=z->z<k->aj w u<aj w (F z))(hp:0<u (aj w u))(hu:∀j,(u j).natAbs<=1259949000000):sG w (k+1) (k+1) (jT F a u) F0:=by
 have v1:∀y,y<a->jT F a u y=F y:=fun y hy=>ze u hy
 have v2:jT F a u a=u:=Cv u;have v3:∀y,a<y->jT F a u y=F (y-1):=fun y hy=>Cw u hy
 have cs:∀y,y<k+1->(y<a/\jT F a u y=F y)\/(y=a/\jT F a u y=u)\/(a<y/\jT F a u y=F (y-1)):=fun y hy=>by
  rcases Nat.lt_trichotomy y a with q|q|q
  ·exact .inl ⟨q,v1 y q⟩
  ·exact .inr (.inl ⟨q,by rw[q];exact v2⟩)
  ·exact .inr (.inr ⟨q,v3 y q⟩)
 have k3:=b.k3;have c3:=P6;refine⟨⟨fun y hy=>?_,fun y hy=>?_,fun y z h1 h2=>?_⟩,(Is (k-a) a k om).trans b.C2,fun y hy j=>?_,fun y z h1 h2 h3=>om,om,hM⟩
 ·rcases cs y hy with ⟨q,e⟩|⟨q,e⟩|⟨q,e⟩<;>rw[e]
  ·exact b.gI.lt y om
  ·exact b.lead
  ·exact b.gI.lt (y-1) om
 ·rcases cs y hy with ⟨q,e⟩|⟨q,e⟩|⟨q,e⟩<;>rw[e]
  ·exact b.gI.pos y om
  ·exact hp
  ·exact b.gI.pos (y-1) om
 ·rcases cs y om with ⟨q,e⟩|⟨q,e⟩|⟨q,e⟩<;>rw[e]<;>rcases cs z h2 with ⟨q2,e2⟩|⟨q2,e2⟩|⟨q2,e2⟩<;>rw[e2]
  ·exact b.gI.inc y z h1 om
  ·exact lo y q
  ·rcases Nat.lt_or_ge y (z-1)with r|r
   ·exact b.gI.inc y (z-1) r om
   ·omega
  ·omega
  ·omega
  ·exact hi (z-1) om om
  ·omega
  ·omega
  ·exact b.gI.inc (y-1) (z-1) om om
 ·rcases cs y hy with ⟨q,e⟩|⟨q,e⟩|⟨q,e⟩<;>rw[e]
  ·have:=b.GM y om j;omega
  ·exact hu j
  ·have:=b.GM (y-1) om j;omega
theorem Ts{w k a:Nat}{F:Nat->aR}{u:aR}{F0:Nat->aR}(b:jn w k F u F0)(ak:a<=k)(ho:Old w k a F 13122)(lo:∀y,y<a->aj w (F y)<aj w u)(hi:∀z,a<=z->z<k->aj w u<aj w (F z))(hn:u (aj w u)<0)(hu:∀j,(u j).natAbs<=(cb 3).natAbs)
  (ru:∀z,a<=z->z<k->0<=u (aj w (F z))/\u (aj w (F z))<F z (aj w (F z))) {v:aR} (ev:v=fun j=>u j-2*u j):aj w v=aj w u/\mj w F (aj w u) k v/\jn w k F (bI w F (aj w u) k v) F0/\aj w (bI w F (aj w u) k v)=aj w u/\0<bI w F (aj w u) k v (aj w u)/\∀j,(bI w F (aj w u) k v j).natAbs<=1259949000000:=by
 have hv:∀j,v j=-(u j):=fun j=>by rw[ev];show u j-2*u j=-(u j);omega
 have b1:jn w k F v F0:=⟨b.gI,by
  have h:=kY.neg (w:=w) (k:=k+1) (F:=put F k u) (r:=k) om;rw[jy,gB]at h;have e:(fun j=>-(u j))=v:=by funext j;rw[hv]
  rw[e]at h;exact h.trans b.C2,b.GM,b.k3,b.nz⟩
 have hl:aj w v=aj w u:=iK (nk _ _) (fun j hj=>by rw[hv,bB hj];rfl) (fun q=>by rw[hv];have:=lV q;omega);have Yv:∀z,z<a->z<k->aj w (F z)<=aj w u:=fun z z1 _=>Nat.le_of_lt (lo z z1)
 have hN:∀j,(v j).natAbs<=(1259948825856:Int).natAbs:=fun j=>by rw[hv];have:=hu j;have:=P6;omega
 have hQ:∀z,a<=z->z<k->(v (aj w (F z))).natAbs<=(1*F z (aj w (F z))).natAbs:=fun z z1 z2=>by rw[hv];have:=ru z z1 z2;omega
 have k3:=b.k3;obtain⟨s1,s2⟩:=qC b.gI (E:=13122) (N:=1259948825856) (Q:=1) om om om ho Yv hi hN hQ om om;have s3:=sE b.gI (E:=13122) (N:=1259948825856) (Q:=1) om om om ho Yv hi hN hQ k (Nat.le_refl _);have e3:∀j,j<=aj w u->bI w F (aj w u) k v j=v j:=fun j hj=>s3.cI j (fun z z1 z2=>by have:=hi z z1 z2;omega)
 refine⟨hl,s1,b1.low _,iK (nk _ _) (fun j hj=>by rw[e3 j om,hv,bB hj];rfl) (fun q=>by rw[e3 _ (Nat.le_refl _),hv];omega),by rw[e3 _ (Nat.le_refl _),hv];omega,fun j=>by have:=s2 j;omega⟩
theorem Ng{w k:Nat}{F F0:Nat->aR}(h:Gc w k F)(l:kY w k F F0)(hM:∀i,i<k+1->∀j,(F0 i j).natAbs<=9)(k3:k<=3)(nz:∃d J I,(∀i,i<d->J i<w)/\prod d (rv (k+1) F0 J) (k+1) I≠0):jn w k F (F0 k) F0/\∃a,J3 w k a F (F0 k) 9 9:=by
 have hk:k=0\/k=1\/k=2\/k=3:=om
 have Fq:k*(tw k k*9 ^ k)<=13122:=by rcases hk with rfl|rfl|rfl|rfl<;>decide
 have vZ:tw k k*9 ^ k<=4374:=by rcases hk with rfl|rfl|rfl|rfl<;>decide
 have uq:∀z,z<k->∀j,(F z j).natAbs<=13122:=fun z hz j=>Nat.le_trans (kY.bound h.gI l (fun i hi=>hM i om) hz (fun m hm=>by
  rcases Nat.lt_trichotomy m z with q|q|q
  ·rw[bB (w:=w) (v:=F z) (h.inc m z q hz)];exact Nat.zero_le _
  ·rw[q];exact Nat.le_refl _
  ·have:=h.red z m q hm;omega) j) Fq
 have hD:=kY.leads h.gI l (fun i hi=>hM i om);have c3:=P6;have b:jn w k F (F0 k) F0:=⟨h.gI,by
  have:=l.more (F0 k);rw[jx]at this;exact this,fun y hy j=>by have:=uq y hy j;omega,k3,nz⟩
 refine⟨b,?_⟩;obtain⟨a,p1,p2,p3⟩:=h.gI.parts (aj w (F0 k));refine⟨a,p1,p2,p3,⟨fun z _ hz j=>uq z hz j,fun y z _ h2 h3=>h.red y z h2 h3⟩,om,om,fun j=>hM k om j,fun z _ hz=>?_,?_⟩
 ·have:=h.pos z hz
  have:=hM k om (aj w (F z));omega
 ·have q1:=Cu (f:=zd w F) (k:=k) (fun i hi=>h.pos i hi) a 0 om
  rw[Nat.zero_add,Nat.sub_zero,EC]at q1;have q2:gv (zd w F) k<=4374:=by
   have VL:gv (zd w F) k<=((tw k k*9 ^ k:Nat):Int):=hD;omega
  have q3:=Int.mul_le_mul_of_nonneg_left (show Pt (zd w F) a (k-a)<=4374 by omega) (show(0:Int)<=9+7*(9*13122) by omega);have q4:=tM (a:=0) (b:=a) om;have q5:cb 0=3673320192:=by decide
  omega
end Go.Proofs.YtdpbiegfljmhmaaGreat.Ext
namespace Go.cV
def Ro(a:Nat)(o:UA):fN:=⟨some a,none,.op false o⟩
def Ol(a:Nat)(o:Op):fN:=⟨some a,none,.op false (.cI o)⟩
def Mv(a b:Nat):fN:=⟨some a,none,.op false (.cI (.move (.tmp b)))⟩
def As(a b:Nat):fN:=⟨some a,none,.op false (.cI (.assign (.tmp b)))⟩
def Ac(a:Nat)(i:Int):fN:=⟨some a,none,.op false (.cI (.assign (.const (.int .i64 i))))⟩
def Ld(a b:Nat):fN:=⟨some a,none,.op false (.load 2 [.int .i64,.int .i64] (.tmp b))⟩
def L1(a b:Nat):fN:=⟨some a,none,.op false (.aM (.int .i64) (.tmp b))⟩
def Fa(a k b:Nat):fN:=⟨some a,none,.op false (.fieldAddr k (.tmp b))⟩
def Ix(a k b c:Nat):fN:=⟨some a,none,.op false (.qY k (.tmp b) (.tmp c))⟩
def Ex(a b k:Nat):fN:=⟨some a,none,.op false (.cI (.extract (.tmp b) k))⟩
def Bt(a:Nat)(o:BinOp)(t b c:Nat):fN:=⟨some a,none,.op false (.cI (.binOp o t (.tmp b) (.tmp c) t))⟩
def Bc(a:Nat)(o:BinOp)(t b:Nat)(k:IntKind)(i:Int):fN:=⟨some a,none,.op false (.cI (.binOp o t (.tmp b) (.const (.int k i)) t))⟩
def Ca(a f:Nat)(l:List Operand)(v:Option yJ):fN:=⟨some a,none,.call (.func f) l v⟩
def Dr(o:fN)(p:Nat)(l:List Nat):yW:=⟨o,p,.none,l,false,true⟩
def Db(o:fN)(p b:Nat)(l:List Nat):yW:=⟨o,p,.di (.tmp b),l,false,true⟩
end Go.cV
namespace Go.Proofs.YtdpbiegfljmhmaaGreat.Ext
theorem ml{w k c:Nat}{F G:Nat->aR}{v:aR}(e:∀z,z<k->G z=F z):∀y,y<=k->bI w G c y v=bI w F c y v
 |0,_=>rfl
 |y+1,hy=>by
  show(if c<aj w (G y)then(fun j=>bI w G c y v j-bI w G c y v (aj w (G y)) / G y (aj w (G y))*G y j)else bI w G c y v)=_;rw[e y om,ml e y om];rfl
theorem mj.congr{w k c:Nat}{F G:Nat->aR}{v:aR}(e:∀z,z<k->G z=F z)(h:mj w F c k v):mj w G c k v:=fun y hy hc j=>by
 rw[e y hy]at hc ⊢;rw[ml e y om,ml e (y+1) om];exact h y hy hc j
theorem BP.congr{w k:Nat}{F G:Nat->aR}(e:∀z,z<k->G z=F z)(h:BP w k F):BP w k G:=
 ⟨fun i hi=>by rw[e i hi];exact h.lt i hi,fun i hi=>by rw[e i hi];exact h.pos i hi,fun i j hi hj=>by rw[e i om,e j hj];exact h.inc i j hi hj⟩
theorem Old.congr{w k a:Nat}{F G:Nat->aR}{E:Int}(e:∀z,z<k->G z=F z)(h:Old w k a F E):Old w k a G E:=
 ⟨fun z h1 h2 j=>by rw[e z h2];exact h.le z h1 h2 j,fun y z h1 h2 h3=>by rw[e y om,e z h3];exact h.red y z h1 h2 h3⟩
theorem jn.congr{w k:Nat}{F G F0:Nat->aR}{v:aR}(e:∀z,z<k->G z=F z)(b:jn w k F v F0):jn w k G v F0:=
 ⟨b.gI.congr e,(kY.of_eq (fun i hi=>by unfold put;split;rfl;exact e i om)).trans b.C2,fun y hy j=>by rw[e y hy];exact b.GM y hy j,b.k3,b.nz⟩
theorem A8{w k a:Nat}{F G:Nat->aR}(e:∀z,z<k->G z=F z)(ha:a<=k):Pt (zd w G) a (k-a)=Pt (zd w F) a (k-a):=
 zb _ _ (fun i h1 h2=>by unfold zd;rw[e i om])
theorem J3.congr{w k a:Nat}{F G:Nat->aR}{v:aR}{N Q:Int}(e:∀z,z<k->G z=F z)(h:J3 w k a F v N Q):J3 w k a G v N Q:=
 ⟨h.ak,fun y hy=>by rw[e y (by have:=h.ak;omega)];exact h.lo y hy,fun z h1 h2=>by rw[e z h2];exact h.hi z h1 h2,h.cI.congr e,h.n0,h.q1,h.le,fun z h1 h2=>by rw[e z h2];exact h.ld z h1 h2,by rw[A8 e h.ak];exact h.Nc⟩
theorem Nd.congr{w k a:Nat}{F G:Nat->aR}{v:aR}{n m:Int}(e:∀z,z<k->G z=F z)(h:Nd w k a F v n m):Nd w k a G v n m:=
 ⟨h.ak,fun y hy=>by rw[e y (by have:=h.ak;omega)];exact h.lo y hy,by rw[e a h.ak];exact h.eq,h.cI.congr e,by rw[e a h.ak];exact h.xy,fun z h1 h2=>by rw[e z h2];exact h.rv z h1 h2,fun z h1 h2=>by rw[e z h2,e a h.ak];exact h.rf z h1 h2,h.vn,fun j=>by rw[e a h.ak];exact h.fm j,by rw[A8 e (by have:=h.ak;omega),e a h.ak];exact h.Nc⟩
structure Fv(w k:Nat)(A F0:Nat->aR)(D M:Nat):Prop where
 base:jn w k A (A k) F0
 st:(∃a N Q,J3 w k a A (A k) N Q)\/(∃a n m,Nd w k a A (A k) n m)
 m0:w-aj w (A k)<=D
 m1:∀a,a<k->aj w (A a)=aj w (A k)->(A a (aj w (A k))).toNat<=M
theorem Fv.low{w k D M:Nat}{A F0:Nat->aR}(r:Fv w k A F0 D M):mj w A (aj w (A k)) k (A k)/\jn w k A (bI w A (aj w (A k)) k (A k)) F0:=by
 refine⟨?_,r.base.low _⟩;rcases r.st with ⟨a,N,Q,h⟩|⟨a,n,m,h⟩
 ·exact(h.low r.base).1
 ·exact(h.low r.base).2
def RS(w k:Nat)(A F0:Nat->aR)(a:Nat)(u2:aR)(D M:Nat):Prop:=
 (u2 (aj w (A a))=0/\∃D' M',D'<D/\Fv w k (put A k u2) F0 D' M') \/
 (u2 (aj w (A a))≠0/\aj w u2=aj w (A a)/\mj w A (aj w (A a)) k u2/\aj w (bI w A (aj w (A a)) k u2)=aj w (A a)/\∃M',M'<M/\Fv w k (put (put A a (bI w A (aj w (A a)) k u2)) k (A a)) F0 D M')
theorem Fv.next{w k a D M:Nat}{A F0:Nat->aR}{u2:aR}(ha:a<k)(he:aj w (A a)=aj w (A k))(hD:w-aj w (A a)<=D)(hM:(A a (aj w (A a))).toNat<=M)(n:Next w k F0 A a u2):RS w k A F0 a u2 D M:=by
 rcases n with ⟨n1,n2,b,a',N,Q,f⟩|⟨n1,n2,n3,n4,n5,b,n',m',f⟩
 ·have hk:put A k u2 k=u2:=gB u2
  have e:∀z,z<k->put A k u2 z=A z:=fun z hz=>fT u2 om
  have bl:=b.lead;refine .inl ⟨n1,w-aj w u2,(cb 3).toNat,om,by rw[hk];exact b.congr e,.inl ⟨a',N,Q,by rw[hk];exact f.congr e⟩,by rw[hk];exact Nat.le_refl _,fun z hz _=>?_⟩;rw[hk,e z hz];have:=b.GM z hz (aj w u2);have c3:=P6;omega
 ·have h0:=b.gI.pos a ha
  rw[gB,n4]at h0;refine .inr ⟨n1,n2,n3,n4,(bI w A (aj w (A a)) k u2 (aj w (A a))).toNat,om,?_⟩;generalize bI w A (aj w (A a)) k u2=u at *;have hk:put (put A a u) k (A a) k=A a:=gB _;have e:∀z,z<k->put (put A a u) k (A a) z=put A a u z:=fun z hz=>fT _ om
  have ea:put A a u a=u:=gB u;refine⟨by rw[hk];exact b.congr e,.inr ⟨a,n',m',by rw[hk];exact f.congr e⟩,by rw[hk];omega,fun z hz hle=>?_⟩;rw[hk,e z hz]at hle ⊢;by_cases c:z=a
  ·rw[c,ea];exact Nat.le_refl _
  ·exfalso
   rw[fT u c]at hle;have h1:=b.gI.inc;rcases Nat.lt_or_gt_of_ne c with q|q
   ·have:=h1 z a q ha;rw[fT u c,ea,n4]at this;omega
   ·have:=h1 a z q hz;rw[fT u c,ea,n4]at this;omega
theorem Fv.step{w k a D M:Nat}{A F0:Nat->aR}(r:Fv w k A F0 D M)(ha:a<k)(he:aj w (A a)=aj w (A k)){u u2:aR}(eu:u=bI w A (aj w (A k)) k (A k)){q:Int}(eq:q=u (aj w (A k)) / A a (aj w (A k)))(e2:u2=fun j=>u j-q*A a j) :
  (∀j,(u j).natAbs<=9000000000000000000/\(q*A a j).natAbs<=9000000000000000000/\(u j-q*A a j).natAbs<=9000000000000000000)/\RS w k A F0 a u2 D M:=by
 have hM:=r.m1 a ha he;have hD:=r.m0;rw[<-he]at hM hD;have b:=r.base;have k3:=b.k3;have c3:=P6;rcases r.st with ⟨a0,N,Q,h⟩|⟨a0,n,m,h⟩
 ·have ea:a0=a:=by
   rcases Nat.lt_trichotomy a0 a with c|c|c
   ·have:=h.hi a0 (Nat.le_refl _) om;have:=b.gI.inc a0 a c ha;omega
   ·exact c
   ·have:=h.lo a c;omega
  subst ea;obtain⟨s1,s2⟩:=P7 b h ha he eu eq;rw[<-e2]at s2;have l2:=(h.low b).2.1;rw[<-eu]at l2;have ht:=h.top b;have hc:=A7 (a:=a0) om;have hn:=h.n0;have hq:=h.q1;exact⟨fun j=>⟨by have:=l2 j;omega,(s1 j).1,(s1 j).2⟩,Fv.next ha he hD hM s2⟩
 ·have ea:a0=a:=Pu (p:=fun i=>aj w (A i)) b.gI.inc h.ak ha (by show aj w (A a0)=aj w (A a);rw[h.eq,he])
  subst ea;have mq:=(h.low b).1 k (Nat.le_refl _);rw[mq]at eu;subst eu;obtain⟨s1,s2⟩:=P8 b h eq;rw[<-e2]at s2;have hv:∀j,(A k j).natAbs<=9000000000000000000:=fun j=>by
   have h1:=h.vn j;have hP:=sF (f:=zd w A) (k-(a0+1)) (a0+1) (fun i h1 h2=>b.gI.pos i om);have OR:=h.y0 b;have hx:=h.xy;have hn:0<=n:=by have:=h.vn 0;omega
   have hm:0<=m:=by have:=h.fm 0;omega
   have b1:=h.Nc;have b2:0<=n*A a0 (aj w (A k)):=Int.mul_nonneg hn om;have b3:0<=m*A k (aj w (A k)):=Int.mul_nonneg hm om;have b4:=mX (show 0<=n*A a0 (aj w (A k))+m*A k (aj w (A k)) by omega) hP;have b5:=mX hn OR;have b6:=A7 (a:=a0) om;omega
  exact⟨fun j=>⟨hv j,(s1 j).1,(s1 j).2⟩,Fv.next ha he hD hM s2⟩
theorem Fv.own{w k a D M:Nat}{A F0:Nat->aR}(r:Fv w k A F0 D M)(hM:∀i,i<k+1->∀j,(F0 i j).natAbs<=9)(ak:a<=k)(lo:∀y,y<a->aj w (A y)<aj w (A k))(hi:∀z,a<=z->z<k->aj w (A k)<aj w (A z)){u:aR}(eu:u=bI w A (aj w (A k)) k (A k)) :
  aj w u=aj w (A k)/\(∀j,(u j).natAbs<=1259948825856)/\(0<u (aj w (A k))->sG w (k+1) (k+1) (jT A a u) F0) /\
  (u (aj w (A k))<0->∀v,v=(fun j=>u j-2*u j)->aj w v=aj w (A k)/\mj w A (aj w (A k)) k v/\sG w (k+1) (k+1) (jT A a (bI w A (aj w (A k)) k v)) F0):=by
 have b:=r.base;have bu:=b.low (aj w (A k));have k3:=b.k3;have c3:=P6;obtain⟨a0,N,Q,h⟩:∃a N Q,J3 w k a A (A k) N Q:=by
  rcases r.st with h|⟨a0,n,m,h⟩
  ·exact h
  ·exfalso
   have:=h.eq;rcases Nat.lt_or_ge a0 a with c|c
   ·have:=lo a0 c;omega
   ·have:=hi a0 c h.ak;omega
 have ea:a0=a:=by
  rcases Nat.lt_trichotomy a0 a with c|c|c
  ·have:=h.hi a0 (Nat.le_refl _) om;have:=lo a0 c;omega
  ·exact c
  ·have:=h.lo a c;have:=hi a (Nat.le_refl _) (by have:=h.ak;omega);omega
 subst ea;obtain⟨_,l2,l3,l4⟩:=h.low b;rw[<-eu]at l2 l3 l4 bu;have ht:=h.top b;have hc:=A7 (a:=a0) om;have hn:=h.n0;have hq:=h.q1;have hu:∀j,(u j).natAbs<=1259948825856:=fun j=>by have:=l2 j;omega
 have hl:aj w u=aj w (A k):=iK (nk _ _) (fun j hj=>by rw[l3 j om];exact bB hj) (fun q=>by rw[l3 _ (Nat.le_refl _)];exact lV q);refine⟨hl,hu,fun hp=>zf bu hM ak (fun y hy=>by rw[hl];exact lo y hy) (fun z z1 z2=>by rw[hl];exact hi z z1 z2) (by rw[hl];exact hp) (fun j=>by have:=hu j;omega),fun aaf v ev=>?_⟩;obtain⟨n1,n2,n3,n4,n5,n6⟩:=Ts bu ak h.cI (fun y hy=>by rw[hl];exact lo y hy) (fun z z1 z2=>by rw[hl];exact hi z z1 z2) (by rw[hl];exact aaf) (fun j=>by have:=hu j;omega) (fun z z1 z2=>l4 z z1 z2 (hi z z1 z2)) ev;rw[hl]at n1 n2 n3 n4 n5 n6;exact⟨n1,n2,zf n3 hM ak (fun y hy=>by rw[n4];exact lo y hy) (fun z z1 z2=>by rw[n4];exact hi z z1 z2) (by rw[n4];exact n5) n6⟩
theorem Fv.start{w k:Nat}{A F0:Nat->aR}(h:Gc w k A)(l:kY w k A F0)(hM:∀i,i<k+1->∀j,(F0 i j).natAbs<=9)(k3:k<=3)(nz:∃d J I,(∀i,i<d->J i<w)/\prod d (rv (k+1) F0 J) (k+1) I≠0)(hk:A k=F0 k):∃D M,Fv w k A F0 D M:=by
 obtain⟨b,a,f⟩:=Ng h l hM k3 nz;rw[<-hk]at b f;refine⟨w-aj w (A k),(cb 3).toNat,b,.inl ⟨a,9,9,f⟩,Nat.le_refl _,fun z hz _=>?_⟩;have:=b.GM z hz (aj w (A k));have c3:=P6;omega
end Go.Proofs.YtdpbiegfljmhmaaGreat.Ext
