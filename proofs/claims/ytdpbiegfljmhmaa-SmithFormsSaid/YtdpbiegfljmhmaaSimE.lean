import Derived.Test.YtdpbiegfljmhmaaSimD
set_option linter.unusedSimpArgs false
set_option linter.unusedVariables false
namespace Go.Sim
open Go.RowKit
theorem VG.flat1_eq{g:Nat->Option Loc}{u v:Value}(hv:VG g u v)(hu:flat1 u=true):v=u:=by
 cases hv with
 |flat _ _=>rfl
 |junk=>simp[flat1]at hu
 |ptr=>simp[flat1]at hu
 |sliceX=>simp[flat1]at hu
 |sliceI=>simp[flat1]at hu
 |sliceE=>simp[flat1]at hu
 |sliceZ=>simp[flat1]at hu
 |mapR=>simp[flat1]at hu
 |yield=>simp[flat1]at hu
 |func=>simp[flat1]at hu
 |agg=>simp[flat1]at hu
 |tuple=>simp[flat1]at hu
