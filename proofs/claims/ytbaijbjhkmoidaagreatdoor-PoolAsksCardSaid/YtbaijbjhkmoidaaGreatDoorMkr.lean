/- Functions that put their argument into a new variable, and give a function that has it. -/
import Derived.Test.YtbaijbjhkmoidaaGreatDoorChecked
import Derived.Test.YtbaijbjhkmoidaaGreatDoorRows
import Derived.Test.YtbaijbjhkmoidaaGreatDoorGeK
import Derived.Shelf.RegionOpenPlain
import Derived.Lib.Walk
import Derived.WalkKit
import Derived.Tactics
import Derived.Tactics2
set_option linter.unusedVariables false
set_option linter.unusedSimpArgs false
set_option linter.unusedSectionVars false
namespace Go.Proofs.YtbaijbjhkmoidaaGreatDoor
open Go Go.Ge Go.Shelf Go.RowKit Go.Lib
theorem S8:Tryz.prog.follows .mixedOrders=true:=by kernel_rfl
set_option maxHeartbeats 1000000 in
set_option maxRecDepth 100000 in
theorem HD:mP Tryz.prog 30 (.rG 50):=by
 refine⟨DG Tryz.func30 (by kernel_rfl) (by kernel_rfl),9,fun w v=>?_⟩
 go_enter Tryz.func30,Tryz.ntmps30
 go_wp2
 all_goals go_ret
 ·exact⟨rfl,rfl⟩
 ·rename_i hno;refine⟨rfl,?_⟩;cases v<;>first|rfl|exact(hno _ rfl).elim
end Go.Proofs.YtbaijbjhkmoidaaGreatDoor
