/- What the rows list of the package-level variables, as the contracts use it. -/
import Derived.Test.YtkgjcocemmnpjaaDoorNum
import Derived.Test.YtkgjcocemmnpjaaDoorRows
import Derived.Lib.LaidTab
import Derived.Stop.LaidErr
namespace Go.Proofs.YtkgjcocemmnpjaaDoor
open Go Go.Ge Go.RowKit Go.ChangeShapes
set_option linter.unusedVariables false

def ifaceMs (P : Program) (t : TypeId) : Array (String × TypeId) := match P.underlying t with | some (.interface ms) => ms | _ => #[]
def structF (P : Program) (t : TypeId) : Field := match P.underlying t with | some (.struct fs) => fs[0]! | _ => default
theorem laid_list : Rows.swapTempRow.laid = [("math/bits.deBruijn32tab", Rows.laid_math_bits_deBruijn32tab), ("math/bits.deBruijn64tab", Rows.laid_math_bits_deBruijn64tab), ("internal/strconv.uint64pow10", Lib.tabData .u64 Lib.pow10Tab)] := by kernel_rfl
theorem glob_laid {W : World} (h : laidMet Tryd.prog Rows.swapTempRow.laid W) : GlobOk glob W := by
  rw [laid_list] at h
  have htab : Lib.TabIs Tryd.prog W "internal/strconv.uint64pow10" .u64 Lib.pow10Tab := Lib.tabIs_of_head gTab (show (Tryd.prog.globals[0]?).map (·.type) = some 176 by kernel_rfl) (show Tryd.prog.underlying 176 = some (.array 20 167) by kernel_rfl) (show Tryd.prog.underlying 167 = some (.int .u64) by kernel_rfl) (by kernel_rfl) (by kernel_rfl) h.tail.tail
  intro b Q hb
  obtain ⟨rfl, rfl⟩ := hb
  exact glob_of_tab gTab htab
end Go.Proofs.YtkgjcocemmnpjaaDoor
