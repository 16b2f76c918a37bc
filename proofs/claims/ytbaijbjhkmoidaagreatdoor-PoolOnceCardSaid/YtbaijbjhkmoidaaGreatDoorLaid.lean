/- What the rows list of the package-level variables, as the contracts use it. -/
import Derived.Test.YtbaijbjhkmoidaaGreatDoorNum
import Derived.Test.YtbaijbjhkmoidaaGreatDoorRows
import Derived.Stop.LaidErr
set_option linter.unusedVariables false
set_option linter.unusedSimpArgs false
set_option linter.unusedSectionVars false
namespace Go.Proofs.YtbaijbjhkmoidaaGreatDoor
open Go Go.Ge Go.RowKit Go.ChangeShapes
def PW(P:Program)(t:TypeId):Array (String×TypeId):=match P.underlying t with|some (.interface ms)=>ms|_=>#[]
def PX(P:Program)(t:TypeId):Field:=match P.underlying t with|some (.struct a)=>a[0]! | _=>default
theorem IU:Rows.poolAsksRow.laid=[("math/bits.deBruijn32tab",Rows.laid_math_bits_deBruijn32tab),("math/bits.deBruijn64tab",Rows.laid_math_bits_deBruijn64tab),("internal/strconv.uint64pow10",Lib.tabData .u64 Lib.pow10Tab)]:=by kernel_rfl
theorem IV{W:World}(h:laidMet Tryz.prog Rows.poolAsksRow.laid W):mO bD W:=by
 rw[IU] at h;have a:Lib.TabIs Tryz.prog W "internal/strconv.uint64pow10" .u64 Lib.pow10Tab:=Lib.tabIs_of_head Oj (show(Tryz.prog.globals[1]?).map (·.type)=some 251 by kernel_rfl) (show Tryz.prog.underlying 251=some (.array 20 179) by kernel_rfl) (show Tryz.prog.underlying 179=some (.int .u64) by kernel_rfl) (by kernel_rfl) (by kernel_rfl) h.tail.tail;intro b Q c;obtain⟨rfl,rfl⟩:=c;exact DS Oj a
end Go.Proofs.YtbaijbjhkmoidaaGreatDoor
