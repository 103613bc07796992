import Derived.Test.YtdpbiegfljmhmaaSymA
set_option linter.unusedSimpArgs false
set_option linter.unusedVariables false
namespace Go.Sim
inductive Kw where
 |old (o:Op)
 |new (n:Nat) (cs:List Value)
 |box (n:Nat) (x:Operand)
 |build (z:List Value) (parts:List (Nat×Nat×Operand))
 |buildSlice (n len:Nat) (z:List Value) (parts:List (Nat×Nat×Operand))
 |load (n:Nat) (vs:List Sv) (x:Operand)
 |load1 (v:Sv) (x:Operand)
 |store (n:Nat) (x y:Operand)
 |convI (k:IntKind) (x:Operand)
 |mkSlice (n:Nat) (z:List Value) (l c:Operand)
 |cutS (t:TypeId) (x:Operand) (lo hi mx:Option Operand)
 |fieldAddr (off:Nat) (x:Operand)
 |fieldN (off n:Nat) (x:Operand)
 |field1 (off:Nat) (x:Operand)
 |ixS (n:Nat) (x i:Operand)
 |ixA (len n:Nat) (x i:Operand)
 |lenS (x:Operand)
 |lenStr (x:Operand)
def lI(place:Nat->Option (Nat×Nat)):List (Nat×Operand)->Option (List (Nat×Nat×Operand))
 | []=>some []
 |(i,x) :: r=>
  match place i with
  |some (o,n)=>
   match lI place r with
   |some l=>some ((o,n,x) :: l)
   |none=>none
  |none=>none
def iT(s:SS):List (Nat×Nat×Operand)->Option (List (Nat×Nat×Value))
 | []=>some []
 |(o,n,x) :: r=>
  match ev s x with
  |some v=>
   match iT s r with
   |some l=>some ((o,n,v) :: l)
   |none=>none
  |none=>none
def yZ:List Value->List (Nat×Nat×Value)->Option (List Value)
 |cells,[]=>some cells
 |cells,(off,size,v) :: rest=>
  bif Nat.beq v.cells.toList.length size && v.cells.toList.all aA then
   match kB cells off v.cells.toList with
   |some cs=>yZ cs rest
   |none=>none
  else none
theorem lg{place:Nat->Option (Nat×Nat)}{s:SS}:∀{l:List (Nat×Operand)} {l3:List (Nat×Nat×Operand)},lI place l=some l3->
  (iH s l=none/\iT s l3=none)\/∃lv lv3,iH s l=some lv/\iT s l3=some lv3/\∀cells,fZ place cells lv=yZ cells lv3
 | [],l3,h=>by
  simp only[lI,oi]at h;subst h;exact .inr ⟨[],[],rfl,rfl,fun _=>rfl⟩
 |(i,x) :: r,l3,h=>by
  simp only[lI]at h;split at h
  ·rename_i o n hp
   split at h
   ·rename_i l hl
    simp only[oi]at h;subst h;cases hx:ev s x with
    |none=>exact .inl ⟨by simp only[iH,hx],by simp only[iT,hx]⟩
    |some v=>
     rcases lg (s:=s) hl with ⟨h1,h2⟩|⟨lv,lv3,h1,h2,h3⟩
     ·exact .inl ⟨by simp only[iH,hx,h1],by simp only[iT,hx,h2]⟩
     ·refine .inr ⟨(i,v) :: lv,(o,n,v) :: lv3,by simp only[iH,hx,h1],by simp only[iT,hx,h2],fun cells=>?_⟩
      simp only[fZ,yZ,hp];cases hb:(Nat.beq v.cells.toList.length n && v.cells.toList.all aA)with
      |false=>rfl
      |true=>
       simp only[cond_true];cases hs:kB cells o v.cells.toList with
       |none=>rfl
       |some cs=>exact h3 cs
   ·cases h
  ·cases h
def fR(P:Unit->Program)(A:bj)(mk:i7)(loc:Bool)(r:Kw)(s:SS)(C:Value->SS->Prop):Prop:=
 match r with
 | .old o=>gC P A mk loc o s C
 | .new n cs=>mk loc n cs s C
 | .box n x=>
  match ev s x with
  |some v=>bif v.cells.toList.all aA then mk loc n v.cells.toList s C else False
  |none=>False
 | .build z parts=>
  match iT s parts with
  |some l=>match yZ z l with|some cs=>C (.agg cs.toArray) s|none=>False
  |none=>False
 | .buildSlice n len z parts=>
  match iT s parts with
  |some l=>
   match yZ z l with
   |some cs=>
    bif cs.all aA then
     mk false n cs s fun v s'=>
      match v with
      | .pointer (some a)=>C (.slice (some a) len len) s'
      |_=>False
    else False
   |none=>False
  |none=>False
 | .load n vs x=>
  match ev s x with
  |some (.pointer (some a))=>kp A s a n vs fun l=>C (.agg l.toArray) s
  |_=>False
 | .load1 v x=>
  match ev s x with
  |some (.pointer (some a))=>kp A s a 1 [v] fun l=>
   match l with
   | [v]=>C v s
   |_=>False
  |_=>False
 | .store n x y=>
  match ev s x,ev s y with
  |some (.pointer (some a)),some v=>bif Nat.beq v.cells.toList.length n then sS A s a v.cells.toList (fun s'=>C undef s')else False
  |_,_=>False
 | .convI k x=>
  match ev s x with
  |some (.int _ n)=>C (.int k (A.conv k n)) s
  |_=>False
 | .mkSlice n z l c=>
  match ev s l,ev s c with
  |some (.int _ l),some (.int _ c)=>
   A.mkOK l c/\A.brk fun _=>mk false n (A.zeros z c) s fun v s'=>
    match v with
    | .pointer (some a)=>C (.slice (some a) (A.nat l) (A.nat c)) s'
    |_=>False
  |_,_=>False
 | .cutS t x lo hi mx=>
  match ev s x,nj s lo,nj s hi,nj s mx with
  |some (.slice a n c),some lo,some hi,some mx=>
   match lo,hi,mx with
   |none,some (.int _ j),none=>A.cut c j/\A.brk fun _=>C (.slice a (A.nat j) c) s
   |lo,hi,mx=>A.slc t (.slice a n c) lo hi mx fun a' n' c'=>C (.slice a' n' c') s
  |_,_,_,_=>False
 | .fieldAddr off x=>
  match ev s x with
  |some (.pointer (some a))=>
   match a.spot with
   |none=>C (.pointer (some ⟨a.block,A.addN a.off off,none⟩)) s
   |some x=>C (.pointer (some ⟨a.block,a.off+off,some x⟩)) s
  |_=>False
 | .fieldN off n x=>
  match ev s x with
  |some (.agg cs)=>match iS cs.toList off n with|some l=>C (.agg l.toArray) s|none=>False
  |_=>False
 | .field1 off x=>
  match ev s x with
  |some (.agg cs)=>match cs.toList[off]? with|some v=>C v s|none=>False
  |_=>False
 | .ixS n x i=>
  match ev s x,ev s i with
  |some (.slice a len _),some (.int _ i)=>∃b o,a=some ⟨b,o,none⟩/\A.inR i len/\C (.pointer (some ⟨b,A.place o i n,none⟩)) s
  |_,_=>False
 | .ixA len n x i=>
  match ev s x,ev s i with
  |some (.pointer (some a)),some (.int _ i)=>A.inR i len/\A.brk fun _=>C (.pointer (some ⟨a.block,A.place a.off i n,a.spot⟩)) s
  |_,_=>False
 | .lenS x=>
  match ev s x with
  |some (.slice _ n _)=>C (.int .i64 (A.ofNat n)) s
  |_=>False
 | .lenStr x=>
  match ev s x with
  |some (.string b)=>C (.int .i64 (A.slen b)) s
  |_=>False
def Fs(P:Program)(o:Op):Kw:=
 match o with
 | .alloc e=>
  match fS P e,bI P e with
  |some z,some n=>bif z.cells.toList.all aA then .new n z.cells.toList else .old o
  |_,_=>.old o
 | .box e x=>match bI P e with|some n=>.box n x|none=>.old o
 | .build t parts=>
  match fS P t,P.underlying t with
  |some z,some (.struct fs)=>
   bif fs.toList.all (fun f=>(P.info? f.type).isSome)then
    match lI (gN P fs.toList) parts.toList with
    |some l=>.build z.cells.toList l
    |none=>.old o
   else .old o
  |some z,some (.array _ e)=>
   match bI P e with
   |some n=>
    match lI (fun i=>some (i*n,n)) parts.toList with
    |some l=>.build z.cells.toList l
    |none=>.old o
   |none=>.old o
  |_,_=>.old o
 | .buildSlice t len parts=>
  match P.underlying t with
  |some (.slice e)=>
   match bI P e,fS P e with
   |some n,some z=>
    bif Nat.ble (len*n) 16777216 && Nat.beq z.cells.toList.length n && Nat.ble len 16777216 then
     match lI (fun i=>some (i*n,n)) parts.toList with
     |some l=>.buildSlice n len (aZ z.cells.toList len) l
     |none=>.old o
    else .old o
   |_,_=>.old o
  |_=>.old o
 | .load t x=>
  match gB P t with
  |some true=>match bI P t with|some n=>.load n (dJ (fun _=>P) 12 t) x|none=>.old o
  |some false=>.load1 (yB (P.underlying t)) x
  |none=>.old o
 | .store t x y=>match bI P t with|some n=>.store n x y|none=>.old o
 | .convert src dst x=>
  match P.underlying src,P.underlying dst with
  |some _,some (.int k)=>.convI k x
  |_,_=>.old o
 | .makeSlice t l c=>
  match P.underlying t with
  |some (.slice e)=>
   match bI P e,fS P e,m7 P e with
   |some n,some z,some by_=>bif Nat.ble by_ 16384 && Nat.beq z.cells.toList.length n && z.cells.toList.all aA then .mkSlice n z.cells.toList l c else .old o
   |_,_,_=>.old o
  |_=>.old o
 | .slice t x lo hi mx=>
  match P.underlying t with
  |some (.slice e)=>bif (bI P e).isSome then .cutS t x lo hi mx else .old o
  |_=>.old o
 | .fieldAddr t x f=>
  match P.underlying t with
  |some (.struct fs)=>
   match fs.toList[f]? with
   |some fd=>match bI P fd.type with|some n=>bif Nat.beq n 0 then .old o else .fieldAddr fd.offset x|none=>.old o
   |none=>.old o
  |_=>.old o
 | .field t x f=>
  match P.underlying t with
  |some (.struct fs)=>
   match fs.toList[f]? with
   |some fd=>
    match gB P fd.type with
    |some true=>match bI P fd.type with|some n=>.fieldN fd.offset n x|none=>.old o
    |some false=>.field1 fd.offset x
    |none=>.old o
   |none=>.old o
  |_=>.old o
 | .indexAddr t x i=>
  match P.underlying t with
  |some (.slice e)=>match bI P e with|some n=>.ixS n x i|none=>.old o
  |some (.array len e)=>match bI P e with|some n=>.ixA len n x i|none=>.old o
  |_=>.old o
 | .call { callee:=.builtin .len,args,argTypes }=>
  match args.toList,argTypes.toList with
  | [x],[t]=>
   match P.underlying t with
   |some (.slice _)=>.lenS x
   |some .string=>.lenStr x
   |_=>.old o
  |_,_=>.old o
 |_=>.old o
set_option maxHeartbeats 1000000 in
theorem zZ(P:Unit->Program)(A:bj)(mk:i7)(loc:Bool)(o:Op)(s:SS)(C:Value->SS->Prop):fR P A mk loc (Fs (P ()) o) s C=gC P A mk loc o s C:=by
 unfold Fs;split
 ·
  split
  ·rename_i z n hz hn
   cases hb:z.cells.toList.all aA with
   |false=>rfl
   |true=>simp only[cond_true,fR,gC,hz,hn,hb]
  ·rfl
 ·
  split
  ·rename_i n hn
   simp only[fR,gC,hn];cases ev s _<;>rfl
  ·rfl
 ·
  split
  ·rename_i z fs hz hu
   cases hb:fs.toList.all (fun f=>((P ()).info? f.type).isSome)with
   |false=>rfl
   |true=>
    simp only[cond_true];split
    ·rename_i l hl
     simp only[fR,gC,rg,hz,hu,hb,cond_true];rcases lg (s:=s) hl with ⟨h1,h2⟩|⟨lv,lv3,h1,h2,h3⟩
     ·rw[h1,h2]
     ·rw[h1,h2]
      simp only[h3];cases yZ z.cells.toList lv3<;>rfl
    ·rfl
  ·rename_i z x e hz hu
   split
   ·rename_i n hn
    split
    ·rename_i l hl
     simp only[fR,gC,rg,hz,hu,hn];rcases lg (s:=s) hl with ⟨h1,h2⟩|⟨lv,lv3,h1,h2,h3⟩
     ·rw[h1,h2]
     ·rw[h1,h2]
      simp only[h3];cases yZ z.cells.toList lv3<;>rfl
    ·rfl
   ·rfl
  ·rfl
 ·
  split
  ·rename_i e hu
   split
   ·rename_i n z hn hz
    cases hb:(Nat.ble (_*n) 16777216 && Nat.beq z.cells.toList.length n && Nat.ble _ 16777216)with
    |false=>rfl
    |true=>
     simp only[cond_true];split
     ·rename_i l hl
      simp only[fR,gC,jq,hu,hn,hz,hb,cond_true];rcases lg (s:=s) hl with ⟨h1,h2⟩|⟨lv,lv3,h1,h2,h3⟩
      ·rw[h1,h2]
      ·rw[h1,h2]
       simp only[h3];cases yZ _ lv3 with
       |none=>rfl
       |some cs=>
        refine congrArg (fun K=>bif cs.all aA then mk false n cs s K else False) (funext fun v=>funext fun s'=>?_);cases v with
        |pointer a=>cases a<;>rfl
        |_=>rfl
     ·rfl
   ·rfl
  ·rfl
 ·
  split
  ·rename_i ha
   split
   ·rename_i n hn
    simp only[fR,gC,nF,ha,hn];rfl
   ·rfl
  ·rename_i ha
   simp only[fR,gC,nF,ha];cases ev s _ with
   |none=>rfl
   |some v=>
    cases v with
    |pointer a=>
     cases a with
     |none=>rfl
     |some a=>
      refine congrArg (kp A s a 1 [yB ((P ()).underlying _)]) (funext fun l=>?_);cases l with
      |nil=>rfl
      |cons v r=>cases r<;>rfl
    |_=>rfl
  ·rfl
 ·
  split
  ·rename_i n hn
   simp only[fR,gC,sF,hn];cases ev s _ with
   |none=>rfl
   |some v=>
    cases ev s _ with
    |none=>
     cases v with
     |pointer a=>cases a<;>rfl
     |_=>rfl
    |some u=>
     cases v with
     |pointer a=>cases a<;>rfl
     |_=>rfl
  ·rfl
 ·
  split
  ·rename_i d k h1 h2
   simp only[fR,gC,wP,h1,h2];cases ev s _ with
   |none=>rfl
   |some v=>cases v<;>rfl
  ·rfl
 ·
  split
  ·rename_i e hu
   split
   ·rename_i n z by_ hn hz hy
    cases hb:(Nat.ble by_ 16384 && Nat.beq z.cells.toList.length n && z.cells.toList.all aA)with
    |false=>rfl
    |true=>
     simp only[cond_true,fR,gC,j7,hu,hn,hz,hy,hb];cases ev s _ with
     |none=>rfl
     |some v=>
      cases ev s _ with
      |none=>cases v<;>rfl
      |some u=>
       cases v with
       |int k l=>
        cases u with
        |int k' c=>
         simp only[hn,hz,hy,hb,cond_true];refine congrArg (fun K=>A.mkOK l c/\A.brk fun _=>mk false n (A.zeros z.cells.toList c) s K) (funext fun v=>funext fun s'=>?_);cases v with
         |pointer a=>cases a<;>rfl
         |_=>rfl
        |_=>rfl
       |_=>cases u<;>rfl
   ·rfl
  ·rfl
 ·
  split
  ·rename_i e hu
   cases hb:(bI (P ()) e).isSome with
   |false=>rfl
   |true=>
    simp only[cond_true,fR,gC,sK,hu,hb];cases ev s _ with
    |none=>rfl
    |some v=>
     cases nj s _ with
     |none=>cases v<;>rfl
     |some a=>
      cases nj s _ with
      |none=>cases v<;>rfl
      |some b=>
       cases nj s _ with
       |none=>cases v<;>rfl
       |some c=>
        cases v with
        |slice ad n cc=>
         simp only[hb,cond_true];cases a with
         |some a=>cases b<;>cases c<;>rfl
         |none=>
          cases b with
          |none=>cases c<;>rfl
          |some b=>
           cases c with
           |some c=>cases b<;>rfl
           |none=>cases b<;>rfl
        |_=>rfl
  ·rfl
 ·
  split
  ·rename_i fs hu
   split
   ·rename_i fd hf
    split
    ·rename_i n hn
     cases hb:Nat.beq n 0 with
     |true=>rfl
     |false=>
      simp only[cond_false,fR,gC,kh,hu,hf,hn,hb];cases ev s _ with
      |none=>rfl
      |some v=>
       cases v with
       |pointer a=>
        cases a with
        |none=>rfl
        |some a=>simp only[hf,hn,hb,cond_false];cases a.spot<;>rfl
       |_=>rfl
    ·rfl
   ·rfl
  ·rfl
 ·
  split
  ·rename_i fs hu
   split
   ·rename_i fd hf
    split
    ·rename_i ha
     split
     ·rename_i n hn
      simp only[fR,gC,qP,je,hu,hf,ha,hn];cases ev s _ with
      |none=>rfl
      |some v=>
       cases v with
       |agg cs=>simp only[hf,ha,hn];cases iS cs.toList fd.offset n<;>rfl
       |_=>rfl
     ·rfl
    ·rename_i ha
     simp only[fR,gC,qP,je,hu,hf,ha];cases ev s _ with
     |none=>rfl
     |some v=>
      cases v with
      |agg cs=>simp only[hf,ha];cases cs.toList[fd.offset]?<;>rfl
      |_=>rfl
    ·rfl
   ·rfl
  ·rfl
 ·
  split
  ·rename_i e hu
   split
   ·rename_i n hn
    simp only[fR,gC,iR,hu,hn];cases ev s _ with
    |none=>rfl
    |some v=>
     cases ev s _ with
     |none=>cases v<;>rfl
     |some u=>cases v<;>cases u<;>first|rfl|simp only[hn]
   ·rfl
  ·rename_i len e hu
   split
   ·rename_i n hn
    simp only[fR,gC,iR,hu,hn];cases ev s _ with
    |none=>rfl
    |some v=>
     cases ev s _ with
     |none=>
      cases v with
      |pointer a=>cases a<;>rfl
      |_=>rfl
     |some u=>
      cases v with
      |pointer a=>cases a<;>cases u<;>first|rfl|simp only[hn]
      |_=>cases u<;>rfl
   ·rfl
  ·rfl
 ·
  split
  ·rename_i args argTypes x t hx ht
   split
   ·rename_i e hu
    simp only[fR,gC,hx,ht,evs,tv,hu];cases ev s _ with
    |none=>rfl
    |some v=>simp only[tv,hu];cases v<;>rfl
   ·rename_i hu
    simp only[fR,gC,hx,ht,evs,tv,hu];cases ev s _ with
    |none=>rfl
    |some v=>simp only[tv,hu];cases v<;>rfl
   ·rfl
  ·rfl
 ·rfl
end Go.Sim
namespace Go.Sim
inductive VV where
 |agg (l:List Sv)
 |one (v:Sv)
inductive tO where
 |tup (l:List VV)
 |val (v:VV)
def HP:VV->(Value->Prop)->Prop
 | .agg l,C=>KO l fun l=>C (.agg l.toArray)
 | .one v,C=>KV v C
def CA:List VV->(List Value->Prop)->Prop
 | [],C=>C []
 |t :: r,C=>HP t fun v=>CA r fun l=>C (v :: l)
def Jw:tO->Value->(Value->Prop)->Prop
 | .tup l,v,C=>CA l fun l=>v=.tuple l.toArray/\C (.tuple l.toArray)
 | .val t,v,C=>HP t fun u=>v=u/\C u
def tD(w:Option tO)(v:Value)(C:Value->Prop):Prop:=
 match w with
 |none=>C v
 |some w=>Jw w v C
def GV(P:Program)(t:TypeId):VV:=
 match gB P t with
 |some true=>.agg (dJ (fun _=>P) 12 t)
 |_=>.one (yB (P.underlying t))
def Cq(P:Program)(t:TypeId):tO:=
 match P.underlying t with
 |some (.tuple ts)=>.tup (ts.toList.map (GV P))
 |_=>.val (GV P t)
theorem lA(P:Unit->Program):∀(d:Nat) (t:TypeId),dJ (fun _=>P ()) d t=dJ P d t
 |0,_=>rfl
 |d+1,t=>by
  unfold dJ;have ih:=lA P d;have ih':dJ (fun _=>P ()) d=dJ P d:=funext ih;rw[ih']
theorem xu(P:Unit->Program)(t:TypeId)(C:Value->Prop):HP (GV (P ()) t) C=Jx P t C:=by
 unfold GV Jx;cases gB (P ()) t with
 |none=>rfl
 |some b=>
  cases b with
  |false=>rfl
  |true=>simp only[HP,lA]
theorem zo(P:Unit->Program):∀(ts:List TypeId) (C:List Value->Prop),CA (ts.map (GV (P ()))) C=Gy P ts C
 | [],C=>rfl
 |t :: r,C=>by
  simp only[List.map_cons,CA,Gy,xu];exact congrArg _ (funext fun v=>zo P r _)
theorem Hc(P:Unit->Program)(t:TypeId)(v:Value)(C:Value->Prop):Jw (Cq (P ()) t) v C=GE P t v C:=by
 unfold Cq GE;cases(P ()).underlying t with
 |none=>exact xu P _ _
 |some d=>cases d<;>first|exact zo P _ _|exact xu P _ _
inductive La where
 |op (loc:Bool) (r:Kw)
 |call (x:Operand) (args:List Operand) (v:Option tO)
structure dM where
 dst:Option Nat
 guard:Option (Nat×Bool)
 act:La
def sI(yn:Nat->Nat)(s:SS)(x:Operand)(args:List Operand):Option (FuncId×List Value):=
 match ev s x,evs s args with
 |some (.func (.func f) first captured),some l=>bif l.all cP && Nat.blt f aN then some (f,first.toList++l++captured.toList)else none
 |some (.func (.yield y) _ _),some l=>bif l.all cP then some (yn y,l)else none
 |_,_=>none
def Ks(P:Unit->Program)(A:bj)(a:La)(s:SS)(C:Value->SS->Prop):Prop:=
 match a with
 | .op loc r=>fR P A (HT A) loc r s C
 | .call x args w=>
  match sI A.yn s x args with
  |some (g,l)=>A.call g l s.h fun v h'=>tD w v fun v=>C v { s with h:=h' }
  |none=>False
def rE(s:SS)(dst:Option Tmp)(v:Value)(C:SS->Prop):Prop:=
 match dst with
 |none=>C s
 |some d=>C { s with env:=(d,v) :: s.env }
def pO(g:Option (Nat×Bool))(s:SS)(go skip:SS->Prop):Prop:=
 match g with
 |none=>go s
 |some (d,want)=>
  match lk s.env d with
  |some (.bool b)=>
   match want with
   |true=>mh b (fun _=>go { s with env:=(d,.bool true) :: s.env }) (fun _=>skip { s with env:=(d,.bool false) :: s.env })
   |false=>mh b (fun _=>skip { s with env:=(d,.bool true) :: s.env }) (fun _=>go { s with env:=(d,.bool false) :: s.env })
  |some (.tuple vs)=>bif vs.toList.isEmpty then skip s else False
  |_=>False
def oT(P:Unit->Program)(A:bj):List dM->SS->(SS->Prop)->Prop
 | [],s,Q=>Q s
 |o :: rest,s,Q=>
  pO o.guard s
   (fun s=>Ks P A o.act s fun v s'=>rE s' o.dst v fun s''=>oT P A rest s'' Q)
   (fun s=>rE s o.dst undef fun s'=>oT P A rest s' Q)
def tN(ops:Array Oper)(o:Oper):Option (Option (Nat×Bool)):=
 match o.guard with
 |none=>some none
 |some (j,want)=>
  match (ops[j]?).bind (·.dst)with
  |some d=>some (some (d,want))
  |none=>none
def CU(P:Program)(H:bg)(f:FuncId)(o:Oper):La:=
 match dr o.op with
 |some c=>
  match c.callee with
  | .value x=>.call x c.args.toList (match o.dst with|none=>none|some _=>some (Cq P o.type))
  |_=>.op false (.old o.op)
 |none=>.op (dC H f o) (Fs P o.op)
def sM(P:Program)(H:bg)(f:FuncId)(nt:Nat)(ops:Array Oper)(o:Oper):Option dM:=
 match tN ops o with
 |some g=>bif (match o.dst with|none=>true|some d=>Nat.blt d nt)then some ⟨o.dst,g,CU P H f o⟩else none
 |none=>none
def nH(P:Program)(H:bg)(f:FuncId)(nt:Nat)(ops:Array Oper):List Oper->Option (List dM)
 | []=>some []
 |o :: r=>
  match sM P H f nt ops o with
  |some x=>
   match nH P H f nt ops r with
   |some l=>some (x :: l)
   |none=>none
  |none=>none
theorem pS{o:Op}{c:Call}(h:dr o=some c):∃x,c.callee=.value x:=by
 unfold dr at h;split at h
 ·split at h
  ·rename_i x hx;simp only[oi]at h;subst h;exact⟨x,hx⟩
  ·cases h
 ·cases h
theorem rD{ops:Array Oper}{o:Oper}{g:Option (Nat×Bool)}(h:tN ops o=some g)(s:SS)(go skip:SS->Prop):pO g s go skip=ml ops o s go skip:=by
 unfold tN at h;unfold ml;split at h
 ·rename_i hg
  simp only[oi]at h;subst h;rw[hg];rfl
 ·rename_i j want hg
  rw[hg];simp only[];split at h
  ·rename_i d hd
   simp only[oi]at h;subst h;rw[hd];simp only[pO];cases lk s.env d with
   |none=>rfl
   |some v=>cases v<;>first|rfl|(cases want<;>rfl)
  ·cases h
theorem Hg{nt:Nat}{s:SS}{dst:Option Tmp}{v:Value}{C:SS->Prop}(h:(match dst with|none=>true|some d=>Nat.blt d nt)=true):rE s dst v C=vE nt s dst v C:=by
 unfold rE vE;cases dst with
 |none=>rfl
 |some d=>simp only[]at h;simp only[h,cond_true]
theorem ta(P:Unit->Program)(dst:Option Tmp)(t:TypeId)(v:Value)(C:Value->Prop):tD (match dst with|none=>none|some _=>some (Cq (P ()) t)) v C=nS P dst t v C:=by
 unfold nS;cases dst with
 |none=>rfl
 |some d=>exact Hc P t v C
theorem wL{c:Call}{x:Operand}(h:c.callee=.value x)(yn:Nat->Nat)(s:SS):sI yn s x c.args.toList=iI yn s c:=by
 unfold iI sI;rw[h];simp only[];cases ev s x with
 |none=>rfl
 |some v=>
  cases v with
  |func fn first captured=>cases fn<;>cases evs s c.args.toList<;>rfl
  |_=>cases evs s c.args.toList<;>rfl
theorem Ff(P:Unit->Program)(H:bg)(A:bj)(f:FuncId)(o:Oper)(s:SS)(C:Value->SS->Prop):Ks P A (CU (P ()) H f o) s C=CY P H A f o s C:=by
 unfold CU CY;cases hc:dr o.op with
 |none=>exact zZ P A _ _ _ _ _
 |some c=>
  obtain⟨x,hx⟩:=pS hc;simp only[hx,Ks,wL hx,ta];cases iI A.yn s c<;>rfl
theorem rR(P:Unit->Program)(H:bg)(A:bj)(f:FuncId)(nt:Nat)(ops:Array Oper):∀(l:List Oper) (r:List dM),nH (P ()) H f nt ops l=some r->∀(s:SS) (Q:SS->Prop),oT P A r s Q=rP P H A f nt ops l s Q
 | [],r,h,s,Q=>by
  simp only[nH,oi]at h;subst h;rfl
 |o :: l,r,h,s,Q=>by
  simp only[nH]at h;split at h
  ·rename_i x hx
   split at h
   ·rename_i r' hr
    simp only[oi]at h;subst h;unfold sM at hx;split at hx
    ·rename_i g hg
     obtain⟨hb,hx⟩:=jM hx;subst hx;have ih:oT P A r'=rP P H A f nt ops l:=funext fun s=>funext fun Q=>rR P H A f nt ops l r' hr s Q
     simp only[oT,rP,rD hg,Hg hb,Ff,ih]
    ·cases hx
   ·cases h
  ·cases h
inductive FK where
 |none
 |new (loc:Bool)
 |blk (x:Operand)
 |cvt (x:Operand)
 |all
 |app (l:List Operand)
structure uf where
 o:dM
 p:Nat
 kind:FK
 pr:List Nat
 st:Bool
 sm:Bool
def J9(o:Op)(loc:Bool):FK:=
 bif bB o then .none else
 match o with
 | .alloc _ | .box _ _=>.new loc
 | .buildSlice _ _ _ | .makeSlice _ _ _=>.new false
 | .load _ x | .store _ x _=>.blk x
 | .convert _ _ x=>.cvt x
 | .call { callee:=.builtin .append,args,argTypes }=>.app args.toList
 |_=>.all
def Kv(k:FK)(id tag:Nat)(s:SS):FP:=
 match k with
 | .none=>.none
 | .new loc=>bif loc then .new true tag else .new false id
 | .blk x=>
  match ev s x with
  |some (.pointer (some a))=>.block a.spot.isSome a.block
  |_=>.all
 | .cvt x=>
  match ev s x with
  |some (.slice (some a) _ _)=>bif a.spot.isNone then .block false a.block else .none
  |_=>.none
 | .all=>.all
 | .app l=>.app (wo (Jm s l))
theorem Kj(o:Op)(loc:Bool)(id tag:Nat)(s:SS):Kv (J9 o loc) id tag s=Jr o loc id tag s:=by
 unfold J9 Jr;cases bB o with
 |true=>rfl
 |false=>
  simp only[cond_false];cases o with
  |load t x=>
   simp only[Kv];cases ev s x with
   |none=>rfl
   |some v=>cases v with
    |pointer a=>cases a<;>rfl
    |_=>rfl
  |store t x y=>
   simp only[Kv];cases ev s x with
   |none=>rfl
   |some v=>cases v with
    |pointer a=>cases a<;>rfl
    |_=>rfl
  |convert t u x=>
   simp only[Kv];cases ev s x with
   |none=>rfl
   |some v=>cases v with
    |slice a n c=>cases a<;>rfl
    |_=>rfl
  |call c=>
   obtain⟨callee,args,tys⟩:=c;cases callee with
   |builtin b=>cases b<;>rfl
   |_=>rfl
  |_=>rfl
abbrev EI:=List (Nat×List Nat×FP×Bool)
def kN(p:Nat)(pr:List Nat)(x:FP)(w:Bool)(l:EI):EI:=
 match x with
 | .none=>l
 |x=>(p,pr,x,w) :: l
def tJ(p:Nat)(pr:List Nat)(x:FP)(w:Bool)(acc:EI):EI:=
 match x with
 | .none=>acc
 |x=>acc++[(p,pr,x,w)]
theorem js(b:Bool)(X Y:Prop):mh b (fun _=>X) (fun _=>Y)=cond b X Y:=by cases b<;>rfl
def iF(P:Unit->Program)(A:bj)(base kbase:Nat):List uf->Nat->SS->EI->(SS->EI->Prop)->Prop
 | [],_,s,acc,Q=>Q s acc
 |d :: rest,i,s,acc,Q=>
  pO d.o.guard s
   (fun s=>
    match d.o.act with
    | .call x args w=>
     match sI A.yn s x args with
     |some (g,l)=>A.call g l (A.fresh s.h) fun v h'=>tD w v fun v=>
       rE { s with h:=A.lowered s.h h' } d.o.dst v fun s''=>iF P A base kbase rest (i+1) s'' (acc++[(d.p,d.pr,.all,A.wrote s.h h')]) Q
     |none=>False
    | .op loc r=>
     mh d.sm
      (fun _=>fR P A (qU A (A.addN base i) (kbase+i)) loc r s fun v s'=>
       rE s' d.o.dst v fun s''=>iF P A base kbase rest (i+1) s'' (tJ d.p d.pr (Kv d.kind (A.addN base i) (kbase+i) s) d.st acc) Q)
      (fun _=>fR P A (qU A (A.addN base i) (kbase+i)) loc r { s with h:=A.fresh s.h } fun v s'=>
       rE { s' with h:=A.lowered s.h s'.h } d.o.dst v fun s''=>iF P A base kbase rest (i+1) s'' (tJ d.p d.pr (Kv d.kind (A.addN base i) (kbase+i) s) (A.wrote s.h s'.h) acc) Q))
   (fun s=>rE s d.o.dst undef fun s'=>iF P A base kbase rest (i+1) s' acc Q)
def D5(q:Nat):List Nat->Bool
 | []=>false
 |a :: l=>bif Nat.beq q a then true else D5 q l
def gK(A:bj)(lim:Nat)(pr:List Nat)(x:FP)(wx:Bool):EI->Prop->Prop
 | [],C=>C
 |(q,_,y,wy) :: r,C=>mh (D5 q pr) (fun _=>gK A lim pr x wx r C) (fun _=>tx A lim x wx y wy (gK A lim pr x wx r C))
def oY(A:bj)(lim:Nat):EI->Prop->Prop
 | [],C=>C
 |(_,pr,x,wx) :: r,C=>gK A lim pr x wx r (oY A lim r C)
def CM(P:Unit->Program)(A:bj)(n:Nat)(ds:List uf)(s:SS)(Q:SS->Prop):Prop:=
 iF P A (A.next s.h) s.kn ds 0 { s with kn:=s.kn+n,h:=A.bump s.h n } [] fun s' fps=>oY A (A.addN (A.next s.h) n) fps (Q s')
def Iq(b:Array Nat)(n p:Nat):List Nat:=(List.range n).filter (fun q=>qT b p q)
def DU(P:Program)(H:bg)(f:FuncId)(nt:Nat)(ops:Array Oper)(b:Array Nat):List Nat->Option (List uf)
 | []=>some []
 |p :: r=>
  match ops[p]? with
  |some o=>
   match sM P H f nt ops o with
   |some x=>
    match DU P H f nt ops b r with
    |some l=>some (⟨x,p,J9 o.op (dC H f o),Iq b ops.size p,gp o.op,small o.op⟩ :: l)
    |none=>none
   |none=>none
  |none=>none
theorem yz(q:Nat):∀l:List Nat,D5 q l=decide (q∈l)
 | []=>by simp[D5]
 |a :: l=>by
  unfold D5;rw[yz q l];cases h:Nat.beq q a with
  |true=>have:=Nat.eq_of_beq_eq_true h;subst this;simp
  |false=>have:=Nat.ne_of_beq_eq_false h;simp[this]
theorem pC{b:Array Nat}{n p q:Nat}(h:q<n):D5 q (Iq b n p)=qT b p q:=by
 rw[yz];unfold Iq;simp only[List.mem_filter,List.mem_range,h,true_and];cases qT b p q<;>rfl
def tz(b:Array Nat)(n:Nat):List (Nat×FP×Bool)->EI
 | []=>[]
 |(p,x,w) :: l=>kN p (Iq b n p) x w (tz b n l)
theorem oG(A:bj)(ops:Array Oper)(lim p:Nat)(wx:Bool):∀(l:List (Nat×FP×Bool)) (C:Prop),gT A ops lim p .none wx l C=C
 | [],C=>rfl
 |(q,y,wy) :: l,C=>by
  unfold gT;rw[oG A ops lim p wx l C];cases qT (Region.before ops) p q<;>rfl
theorem zB(A:bj)(lim:Nat)(x:FP)(wx wy:Bool)(C:Prop):tx A lim x wx .none wy C=C:=by
 cases x<;>rfl
theorem iU(A:bj)(ops:Array Oper)(lim p:Nat)(x:FP)(wx:Bool):∀(l:List (Nat×FP×Bool)) (C:Prop),(∀e∈l,e.1<ops.size)->
  gK A lim (Iq (Region.before ops) ops.size p) x wx (tz (Region.before ops) ops.size l) C=gT A ops lim p x wx l C
 | [],C,_=>rfl
 |(q,y,wy) :: l,C,h=>by
  have hq:q<ops.size:=h (q,y,wy) List.mem_cons_self;have ih:=iU A ops lim p x wx l C (fun e he=>h e (List.mem_cons_of_mem _ he));unfold gT tz;cases y with
  |none=>
   simp only[kN,zB];rw[ih];cases qT (Region.before ops) p q<;>rfl
  |block l' b'=>simp only[kN,gK,js,pC hq,ih]
  |new l' b'=>simp only[kN,gK,js,pC hq,ih]
  |all=>simp only[kN,gK,js,pC hq,ih]
  |app c=>simp only[kN,gK,js,pC hq,ih]
theorem yC(A:bj)(ops:Array Oper)(lim:Nat):∀(l:List (Nat×FP×Bool)) (C:Prop),(∀e∈l,e.1<ops.size)->oY A lim (tz (Region.before ops) ops.size l) C=ot A ops lim l C
 | [],C,_=>rfl
 |(p,x,wx) :: l,C,h=>by
  have hl:∀e∈l,e.1<ops.size:=fun e he=>h e (List.mem_cons_of_mem _ he)
  have ih:=yC A ops lim l C hl;unfold ot tz;cases x with
  |none=>simp only[kN,oG];exact ih
  |block l' b'=>simp only[kN,oY,ih];exact iU A ops lim p _ wx l _ hl
  |new l' b'=>simp only[kN,oY,ih];exact iU A ops lim p _ wx l _ hl
  |all=>simp only[kN,oY,ih];exact iU A ops lim p _ wx l _ hl
  |app c=>simp only[kN,oY,ih];exact iU A ops lim p _ wx l _ hl
theorem CC(P:Unit->Program)(H:bg)(A:bj)(f:FuncId)(nt:Nat)(ops:Array Oper)(base kbase:Nat):∀(l:List Nat) (ds:List uf),DU (P ()) H f nt ops (Region.before ops) l=some ds->
  ∀(i:Nat) (s:SS) (acc:EI) (Q:SS->List (Nat×FP×Bool)->Prop) (Q':SS->EI->Prop),(∀r fps,(∀e∈fps,e.1<ops.size)->Q' r (acc++tz (Region.before ops) ops.size fps)=Q r fps)->
  iF P A base kbase ds i s acc Q'=iZ P H A f nt ops base kbase l i s Q
 | [],ds,h,i,s,acc,Q,Q',hq=>by
  simp only[DU,oi]at h;subst h;have:=hq s [] (fun e he=>by cases he);rw[tz,List.append_nil]at this;exact this
 |p :: l,ds,h,i,s,acc,Q,Q',hq=>by
  simp only[DU]at h;split at h
  ·rename_i o ho
   split at h
   ·rename_i x hx
    split at h
    ·rename_i r hr
     simp only[oi]at h;subst h;have hp:p<ops.size:=(Array.getElem?_eq_some_iff.1 ho).1;unfold sM at hx;split at hx
     ·rename_i g hg
      obtain⟨hb,hx⟩:=jM hx;subst hx;have ih:=CC P H A f nt ops base kbase l r hr;have app:∀(fp:FP) (w:Bool) (fps:EI),tJ p (Iq (Region.before ops) ops.size p) fp w acc++fps=acc++kN p (Iq (Region.before ops) ops.size p) fp w fps:=fun fp w fps=>by
       cases fp<;>simp[tJ,kN]
      have step:∀(s'':SS) (fp:FP) (w:Bool),iF P A base kbase r (i+1) s'' (tJ p (Iq (Region.before ops) ops.size p) fp w acc) Q'=iZ P H A f nt ops base kbase l (i+1) s'' (fun r fps=>Q r ((p,fp,w) :: fps)):=fun s'' fp w=>
       ih (i+1) s'' _ _ _ (fun r fps hf=>by
        rw[app];exact hq r ((p,fp,w) :: fps) (fun e he=>by
         rcases List.mem_cons.1 he with rfl|he
         ·exact hp
         ·exact hf e he))
      have skip:∀(s'':SS),iF P A base kbase r (i+1) s'' acc Q'=iZ P H A f nt ops base kbase l (i+1) s'' (fun r fps=>Q r ((p,.none,false) :: fps)):=fun s''=>step s'' .none false
      have all:∀(s'':SS) (w:Bool),iF P A base kbase r (i+1) s'' (acc++[(p,Iq (Region.before ops) ops.size p,.all,w)]) Q'=iZ P H A f nt ops base kbase l (i+1) s'' (fun r fps=>Q r ((p,.all,w) :: fps)):=fun s'' w=>step s'' .all w
      simp only[iF,iZ,js,ho,rD hg,Hg hb,skip,Kj,step,all];refine congrArg (fun K=>ml ops o s K _) (funext fun s=>?_);unfold CU;cases hc:dr o.op with
      |none=>simp only[zZ]
      |some c=>
       obtain⟨x,hx⟩:=pS hc;simp only[hx,wL hx,ta];cases iI A.yn s c<;>rfl
     ·cases hx
    ·cases h
   ·cases h
  ·cases h
inductive mD where
 |skip
 |ret
 |exit (id:Nat) (l:Option (List Tmp))
 |seq (a b:mD)
 |cond (x:Operand) (a b:mD)
 |block (id:Nat) (b:mD)
 |loop (key:Nat) (keep l:Option (List Tmp))
 |reg (l:Option (List Tmp)) (ops:List dM)
 |draw (l:Option (List Tmp)) (n:Nat) (ops:List uf)
 |range (key:Nat)
def Jf(keep:Option (List Tmp))(kn:Nat)(s:SS):Option SS:=
 match keep with
 |none=>some s
 |some l=>
  bif Nat.ble kn s.kn && l.all (fun t=>match lk s.env t with|some v=>px kn v|none=>false)then some { s with env:=mK s.env l,kn:=kn,K:=mK s.K (List.range kn) } else none
def rh(P:Unit->Program)(A:bj)(f:FuncId)(c:mD)(s:SS)(Q:Exit->SS->Prop):Prop:=
 match c with
 | .skip=>Q .normal s
 | .ret=>Q .ret s
 | .exit id l=>Q (.exit id) (pruned s l)
 | .seq a b=>rh P A f a s (En (fun s'=>rh P A f b s' Q) Q)
 | .cond x a b=>
  match ev s x with
  |some (.bool t)=>mh t (fun _=>rh P A f a s Q) (fun _=>rh P A f b s Q)
  |_=>False
 | .block id b=>rh P A f b s (BY id Q)
 | .loop key keep l=>
  match Jf keep s.kn s with
  |some s0=>A.head f key s.kn (pruned s0 l) Q
  |none=>False
 | .reg l ops=>mh (Nat.ble 10 ops.length) (fun _=>A.brk (fun _=>oT P A ops (pruned s l) (Q .normal))) (fun _=>oT P A ops (pruned s l) (Q .normal))
 | .draw l n ops=>A.brk fun _=>CM P A n ops (pruned s l) fun s'=>A.brk fun _=>Q .normal s'
 | .range key=>A.rng f key s Q
def dh(P:Program)(H:bg)(V:kR)(f:FuncId)(nt:Nat):Code->Option mD
 | .skip=>some .skip
 | .ret=>some .ret
 | .exit id=>some (.exit id (V.blk f id))
 | .seq a b=>
  match dh P H V f nt a,dh P H V f nt b with
  |some x,some y=>some (.seq x y)
  |_,_=>none
 | .cond c a b=>
  match dh P H V f nt a,dh P H V f nt b with
  |some x,some y=>some (.cond c x y)
  |_,_=>none
 | .block id b=>match dh P H V f nt b with|some x=>some (.block id x)|none=>none
 | .loop b=>some (.loop (cX b) (H.keep f (cX b)) (V.loop f (cX b)))
 | .region id ops draw=>
  bif draw then
   bif lj ops (dX ops)then
    match DU P H f nt ops (Region.before ops) (dX ops)with
    |some l=>some (.draw (V.reg f id) ops.size l)
    |none=>none
   else none
  else
   match nH P H f nt ops ops.toList with
   |some l=>some (.reg (V.reg f id) l)
   |none=>none
 | .rangeFunc _ _ as _=>some (.range (cX as))
 |_=>none
theorem uH(P:Unit->Program)(H:bg)(A:bj)(hbrk:∀f,A.brk f=f ())(V:kR)(f:FuncId)(nt:Nat):∀(c:Code) (r:mD),dh (P ()) H V f nt c=some r->∀(s:SS) (Q:Exit->SS->Prop),rh P A f r s Q=wM P H A V f nt c s Q:=by
 intro c
 induction c with
 |skip=>intro r h s Q;simp only[dh,oi]at h;subst h;rfl
 |ret=>intro r h s Q;simp only[dh,oi]at h;subst h;rfl
 |exit id=>intro r h s Q;simp only[dh,oi]at h;subst h;rfl
 |seq a b iha ihb=>
  intro r h s Q;simp only[dh]at h;split at h
  ·rename_i x y hx hy
   simp only[oi]at h;subst h;have eb:(fun s'=>rh P A f y s' Q)=(fun s'=>wM P H A V f nt b s' Q):=funext fun s'=>ihb y hy s' Q
   simp only[rh,wM];rw[eb];exact iha x hx s _
  ·cases h
 |cond c a b iha ihb=>
  intro r h s Q;simp only[dh]at h;split at h
  ·rename_i x y hx hy
   simp only[oi]at h;subst h;simp only[rh,wM];cases ev s c with
   |none=>rfl
   |some v=>
    cases v with
    |bool t=>simp only[iha x hx,ihb y hy]
    |_=>rfl
  ·cases h
 |block id b ih=>
  intro r h s Q;simp only[dh]at h;split at h
  ·rename_i x hx
   simp only[oi]at h;subst h;exact ih x hx s _
  ·cases h
 |loop b ih=>intro r h s Q;simp only[dh,oi]at h;subst h;rfl
 |region id ops draw=>
  intro r h s Q;simp only[dh]at h;cases draw with
  |true=>
   simp only[cond_true]at h;obtain⟨hb,h⟩:lj ops (dX ops)=true/\(match DU (P ()) H f nt ops (Region.before ops) (dX ops)with|some l=>some (mD.draw (V.reg f id) ops.size l)|none=>none)=some r:=by
    cases hb:lj ops (dX ops)with
    |false=>rw[hb]at h;cases h
    |true=>rw[hb]at h;exact⟨rfl,h⟩
   split at h
   ·rename_i l hl
    simp only[oi]at h;subst h;simp only[rh,wM,cond_true,xM,CM,hb,hbrk];exact CC P H A f nt ops _ _ (dX ops) l hl 0 _ [] _ _ (fun r fps hf=>by rw[List.nil_append];exact yC A ops _ fps _ hf)
   ·cases h
  |false=>
   simp only[cond_false]at h;split at h
   ·rename_i l hl
    simp only[oi]at h;subst h;simp only[rh,wM,cond_false,hbrk,js,Bool.cond_self];exact rR P H A f nt ops ops.toList l hl _ _
   ·cases h
 |rangeFunc x ps as bo _ _=>intro r h s Q;simp only[dh,oi]at h;subst h;rfl
 |_=>intro r h;cases h
inductive DH where
 |tmp (t:Tmp)
 |agg (t:Tmp) (n:Nat) (vs:List Sv)
 |one (t:Tmp) (v:Sv)
structure Co where
 keep:Option (List Tmp)
 l:Option (List Tmp)
 body:mD
structure A6 where
 x:Operand
 ps:List Tmp
 as:mD
 bo:mD
structure zN where
 body:mD
 res:List DH
 loops:List (Nat×Co)
 ranges:List (Nat×A6)
def mo(A:bj)(s:SS):List DH->(List Value->Prop)->Prop
 | [],C=>C []
 | .tmp t :: r,C=>
  match lk s.env t with
  |some v=>mo A s r fun l=>C (v :: l)
  |none=>False
 | .agg a n vs :: r,C=>
  match lk s.env a with
  |some (.pointer (some x))=>kp A s x n vs fun l=>mo A s r fun l'=>C (.agg l.toArray :: l')
  |_=>False
 | .one a v :: r,C=>
  match lk s.env a with
  |some (.pointer (some x))=>kp A s x 1 [v] fun l=>
   match l with
   | [v]=>mo A s r fun l'=>C (v :: l')
   |_=>False
  |_=>False
def nE(P:Program):List ResultVar->Option (List DH)
 | []=>some []
 | .tmp t :: r=>match nE P r with|some l=>some (.tmp t :: l)|none=>none
 | .cell a t :: r=>
  match nE P r with
  |some l=>
   match gB P t with
   |some true=>match bI P t with|some n=>some (.agg a n (dJ (fun _=>P) 12 t) :: l)|none=>none
   |some false=>some (.one a (yB (P.underlying t)) :: l)
   |none=>none
  |none=>none
theorem qZ(P:Unit->Program)(A:bj)(s:SS):∀(rs:List ResultVar) (l:List DH),nE (P ()) rs=some l->∀C,mo A s l C=mw P A s rs C
 | [],l,h,C=>by simp only[nE,oi]at h;subst h;rfl
 | .tmp t :: r,l,h,C=>by
  simp only[nE]at h;split at h
  ·rename_i l' hl
   simp only[oi]at h;subst h;simp only[mo,mw,qZ P A s r l' hl];cases lk s.env t<;>rfl
  ·cases h
 | .cell a t :: r,l,h,C=>by
  simp only[nE]at h;split at h
  ·rename_i l' hl
   have ih:=qZ P A s r l' hl;split at h
   ·rename_i ha
    split at h
    ·rename_i n hn
     simp only[oi]at h;subst h;simp only[mo,mw,ih,nF,ha,hn,lA];cases lk s.env a with
     |none=>rfl
     |some v=>
      cases v with
      |pointer x=>cases x<;>rfl
      |_=>rfl
    ·cases h
   ·rename_i ha
    simp only[oi]at h;subst h;simp only[mo,mw,ih,nF,ha];cases lk s.env a with
    |none=>rfl
    |some v=>
     cases v with
     |pointer x=>
      cases x with
      |none=>rfl
      |some x=>
       refine congrArg (kp A s x 1 [yB ((P ()).underlying t)]) (funext fun l=>?_);cases l with
       |nil=>rfl
       |cons v r=>cases r<;>rfl
     |_=>rfl
   ·cases h
  ·cases h
def nJ(P:Program)(H:bg)(V:kR)(f:FuncId)(nt:Nat):List Code->Option (List (Nat×Co))
 | []=>some []
 |b :: r=>
  match dh P H V f nt b,nJ P H V f nt r with
  |some x,some l=>bif (r.all fun c=>!(Nat.beq (cX c) (cX b)))then some ((cX b,⟨H.keep f (cX b),V.loop f (cX b),x⟩) :: l)else none
  |_,_=>none
def ou(P:Program)(H:bg)(V:kR)(f:FuncId)(nt:Nat):List (Operand×Array Tmp×Code×Code)->Option (List (Nat×A6))
 | []=>some []
 |(x,ps,as,bo) :: r=>
  match dh P H V f nt as,dh P H V f nt bo,ou P H V f nt r with
  |some a,some b,some l=>bif (r.all fun c=>!(Nat.beq (cX c.2.2.1) (cX as))) && aY as && aY bo && ps.toList.all (fun t=>Nat.blt t nt)then some ((cX as,⟨x,ps.toList,a,b⟩) :: l)else none
  |_,_,_=>none
def oW(P:Program)(H:bg)(V:kR)(f:FuncId)(fn:Func):Option zN:=
 match fn.body with
 |some c=>
  match dh P H V f fn.ntmps c,nE P fn.results.toList,nJ P H V f fn.ntmps (be c),ou P H V f fn.ntmps (bk c)with
  |some b,some r,some l,some g=>some ⟨b,r,l,g⟩
  |_,_,_,_=>none
 |none=>none
theorem my{P:Program}{H:bg}{V:kR}{f:FuncId}{nt:Nat}:∀{l:List (Operand×Array Tmp×Code×Code)} {ls:List (Nat×A6)},ou P H V f nt l=some ls->∀r∈l,tF r
 | [],ls,h,r,hr=>by cases hr
 |(x,ps,as,bo) :: l,ls,h,r,hr=>by
  simp only[ou]at h;split at h
  ·rename_i a b l' ha hb hl
   obtain⟨hc,h⟩:=jM h;simp only[Bool.and_eq_true]at hc;rcases List.mem_cons.1 hr with rfl|hr
   ·exact⟨hc.1.1.2,hc.1.2⟩
   ·exact my hl r hr
  ·cases h
def KX(A:bj)(rs:List DH)(Q:Value->af->Prop):Exit->SS->Prop
 | .normal,s=>mo A s rs fun l=>bif l.all cP then Q (ip l) s.h else False
 | .ret,s=>mo A s rs fun l=>bif l.all cP then Q (ip l) s.h else False
 |_,_=>False
def B5(P:Unit->Program)(A:bj)(g:FuncId)(r:zN)(args:List Value)(h:af)(Q:Value->af->Prop):Prop:=
 rh P A g r.body ⟨oM args 0 [],0,[],h⟩ (KX A r.res Q)
def yg(P:Unit->Program)(A:bj)(f:FuncId)(r:zN)(key kn:Nat)(s:SS)(Q:Exit->SS->Prop):Prop:=
 match lk r.loops key with
 |some b=>rh P A f b.body s (En (fun s'=>
   match Jf b.keep kn s' with
   |some s1=>A.head f key kn (pruned s1 b.l) Q
   |none=>False) Q)
 |none=>False
theorem IW(P:Unit->Program)(A:bj){rs:List ResultVar}{l:List DH}(h:nE (P ()) rs=some l)(Q:Value->af->Prop):KX A l Q=JH P A rs Q:=by
 funext x s
 cases x<;>first|rfl|exact qZ P A s rs l h _
theorem Ea{P:Unit->Program}{H:bg}{V:kR}{g:FuncId}{fn:Func}{r:zN}(h:oW (P ()) H V g fn=some r){A:bj}(hbrk:∀f,A.brk f=f ()){args:List Value}{hp:af}{Q:Value->af->Prop}(hw:B5 P A g r args hp Q):yM P H A V g fn args hp Q:=by
 unfold oW at h;unfold yM;split at h
 ·rename_i c hc
  rw[hc];simp only[];split at h
  ·rename_i b rs l gs hb hr hl hgs
   simp only[oi]at h;subst h;unfold B5 at hw;rw[IW P A hr]at hw;rw[uH P H A hbrk V g fn.ntmps c b hb]at hw;exact hw
  ·cases h
 ·cases h
theorem oQ{P:Program}{H:bg}{V:kR}{f:FuncId}{nt:Nat}:∀{l:List Code} {ls:List (Nat×Co)},nJ P H V f nt l=some ls->∀{key:Nat} {x:Co},lk ls key=some x->
  ∃b,l.filter (fun b=>Nat.beq (cX b) key)=[b]/\cX b=key/\dh P H V f nt b=some x.body/\x.keep=H.keep f key/\x.l=V.loop f key
 | [],ls,h,key,x,hx=>by
  simp only[nJ,oi]at h;subst h;cases hx
 |b :: r,ls,h,key,x,hx=>by
  simp only[nJ]at h;split at h
  ·rename_i y l hy hl
   obtain⟨hb,h⟩:=jM h;subst h;simp only[lk]at hx;cases hk:Nat.beq (cX b) key with
   |true=>
    rw[hk]at hx;simp only[cond_true,oi]at hx;subst hx;have e:=Nat.eq_of_beq_eq_true hk;refine⟨b,?_,e,hy,by rw[e],by rw[e]⟩;rw[List.filter_cons_of_pos (by simpa using hk)]
    congr 1
    rw[List.filter_eq_nil_iff];intro c hc;have:=List.all_eq_true.1 hb c hc;rw[<-e];have h9:Nat.beq (cX c) (cX b)=false:=by
     cases h8:Nat.beq (cX c) (cX b)with
     |false=>rfl
     |true=>rw[h8]at this;cases this
    rw[h9];exact Bool.false_ne_true
   |false=>
    rw[hk]at hx;simp only[cond_false]at hx;obtain⟨b',h1,h2⟩:=oQ hl hx;refine⟨b',?_,h2⟩;rw[List.filter_cons_of_neg (by rw[hk];exact Bool.false_ne_true)];exact h1
  ·cases h
theorem BI{P:Unit->Program}{H:bg}{V:kR}{f:FuncId}{fn:Func}{r:zN}(h:oW (P ()) H V f fn=some r){A:bj}(hbrk:∀f,A.brk f=f ()){key kn:Nat}{s:SS}{Q:Exit->SS->Prop}(hw:yg P A f r key kn s Q):wV P H A V f fn key kn s Q:=by
 unfold oW at h;unfold wV;split at h
 ·rename_i c hc
  rw[hc];simp only[];split at h
  ·rename_i b rs l gs hb hr hl hgs
   simp only[oi]at h;subst h;unfold yg at hw;simp only[]at hw;split at hw
   ·rename_i x hx
    obtain⟨b',h1,h2,h3,h4,h5⟩:=oQ hl hx;rw[h1];simp only[];unfold sB;rw[uH P H A hbrk V f fn.ntmps b' x.body h3]at hw;rw[h4,h5]at hw;subst h2;exact⟨my hgs,hw⟩
   ·exact hw.elim
  ·cases h
 ·cases h
theorem EF.bodyR{P:Unit->Program}{H:bg}{F:aM}{A:bj}(hA:EF P H F A){V:kR}{g:FuncId}{fn:Func}{r:zN}{args:List Value}{h:af}{Q:Value->af->Prop}(hf:(P ()).funcs[g]?=some fn)(hr:oW (P ()) H V g fn=some r)(hn:F g args h=none)(hl:h.low<=h.next)(hw:B5 P A g r args h Q)(hg:g<aN:=by decide):A.call g args h Q:=
 hA.body V hg hf hn hl (Ea hr (fun f=>by rw[hA.eq];rfl) hw)
theorem EF.roundR{P:Unit->Program}{H:bg}{F:aM}{A:bj}(hA:EF P H F A){V:kR}{f:FuncId}{fn:Func}{r:zN}(hfn:(P ()).funcs[f]?=some fn)(hr:oW (P ()) H V f fn=some r){key kn:Nat}{s:SS}{Q:Exit->SS->Prop}(hw:yg P A f r key kn s Q):A.head f key kn s Q:=
 hA.round V hfn (BI hr (fun f=>by rw[hA.eq];rfl) hw)
