import Derived.Test.YtdpbiegfljmhmaaSymB
set_option linter.unusedSimpArgs false
set_option linter.unusedVariables false
namespace Go.Sim
def Ro(a:Nat)(o:Kw):dM:=⟨some a,none,.op false o⟩
def Ol(a:Nat)(o:Op):dM:=⟨some a,none,.op false (.old o)⟩
def Mv(a b:Nat):dM:=⟨some a,none,.op false (.old (.move (.tmp b)))⟩
def As(a b:Nat):dM:=⟨some a,none,.op false (.old (.assign (.tmp b)))⟩
def Ac(a:Nat)(i:Int):dM:=⟨some a,none,.op false (.old (.assign (.const (.int .i64 i))))⟩
def Ld(a b:Nat):dM:=⟨some a,none,.op false (.load 2 [.int .i64,.int .i64] (.tmp b))⟩
def L1(a b:Nat):dM:=⟨some a,none,.op false (.load1 (.int .i64) (.tmp b))⟩
def Fa(a k b:Nat):dM:=⟨some a,none,.op false (.fieldAddr k (.tmp b))⟩
def Ix(a k b c:Nat):dM:=⟨some a,none,.op false (.ixS k (.tmp b) (.tmp c))⟩
def Ex(a b k:Nat):dM:=⟨some a,none,.op false (.old (.extract (.tmp b) k))⟩
def Bt(a:Nat)(o:BinOp)(t b c:Nat):dM:=⟨some a,none,.op false (.old (.binOp o t (.tmp b) (.tmp c) t))⟩
def Bc(a:Nat)(o:BinOp)(t b:Nat)(k:IntKind)(i:Int):dM:=⟨some a,none,.op false (.old (.binOp o t (.tmp b) (.const (.int k i)) t))⟩
def Ca(a f:Nat)(l:List Operand)(v:Option tO):dM:=⟨some a,none,.call (.func f) l v⟩
def Dr(o:dM)(p:Nat)(l:List Nat):uf:=⟨o,p,.none,l,false,true⟩
def Db(o:dM)(p b:Nat)(l:List Nat):uf:=⟨o,p,.blk (.tmp b),l,false,true⟩
def T(n:Nat):Operand:=.tmp n
def Ci(n:Int):Operand:=.const (.int .i64 n)
def vI:Option tO:=some (.val (.one (.int .i64)))
def vB:Option tO:=some (.val (.one .bool))
def s2:List Sv:=[.int .i64,.int .i64]
def s4:List Sv:=[.int .u64,.int .u64,.int .u64,.int .u64]
def z2:List Value:=[.int .i64 0,.int .i64 0]
def Sr(n a b:Nat):dM:=⟨none,none,.op false (.store n (.tmp a) (.tmp b))⟩
def Nw(a n:Nat)(l:List Value):dM:=⟨some a,none,.op true (.new n l)⟩
def Bo(a n b:Nat):dM:=⟨some a,none,.op true (.box n (.tmp b))⟩
def Gt(a b:Nat)(o:Op):dM:=⟨some a,some (b,true),.op false (.old o)⟩
def Gf(a b:Nat)(o:Op):dM:=⟨some a,some (b,false),.op false (.old o)⟩
def Ht(a b:Nat)(o:Kw):dM:=⟨some a,some (b,true),.op false o⟩
def Hf(a b:Nat)(o:Kw):dM:=⟨some a,some (b,false),.op false o⟩
def Rg(l:List Nat)(o:List dM):mD:=.reg (some l) o
