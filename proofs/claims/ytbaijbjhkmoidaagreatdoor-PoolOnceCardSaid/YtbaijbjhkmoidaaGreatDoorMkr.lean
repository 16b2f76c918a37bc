/- Functions that put their argument into a new variable, and give a function that has it. -/
import Derived.Test.YtbaijbjhkmoidaaGreatDoorChecked
import Derived.Test.YtbaijbjhkmoidaaGreatDoorRows
import Derived.Test.YtbaijbjhkmoidaaGreatDoorGeK
import Derived.Lib.Walk
import Derived.Tactics2
set_option linter.unusedVariables false
set_option linter.unusedSimpArgs false
set_option linter.unusedSectionVars false
namespace Go.Proofs.YtbaijbjhkmoidaaGreatDoor
open Go Go.Ge Go.Shelf Go.RowKit Go.Lib
theorem Q5:Tryz.prog.follows .mixedOrders=true:=by kernel_rfl
set_option maxHeartbeats 1000000 in
set_option maxRecDepth 100000 in
theorem F3:ko Tryz.prog 30 (.p7 50):=by
 refine⟨BS Tryz.func30 (by kernel_rfl)<|by kernel_rfl,9,λw v=>?_⟩
 go_enter Tryz.func30,Tryz.ntmps30
 go_wp2
 all_goals go_ret
 .exact⟨rfl,rfl⟩
 .rename_i a;refine⟨rfl,?_⟩;cases v<;>first|rfl|exact(a _ rfl).elim
end Go.Proofs.YtbaijbjhkmoidaaGreatDoor
