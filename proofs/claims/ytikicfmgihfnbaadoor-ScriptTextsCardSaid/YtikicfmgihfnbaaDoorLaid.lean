/- What the rows list of the package-level variables, as the contracts use it. -/
import Derived.Test.YtikicfmgihfnbaaDoorNum
import Derived.Test.YtikicfmgihfnbaaDoorRows
import Derived.Lib.LaidTab
import Derived.Stop.LaidErr
namespace Go.Proofs.YtikicfmgihfnbaaDoor
open Go Go.Ge Go.RowKit Go.ChangeShapes
set_option linter.unusedVariables false

def ifaceMs (P : Program) (t : TypeId) : Array (String × TypeId) := match P.underlying t with | some (.interface ms) => ms | _ => #[]
def structF (P : Program) (t : TypeId) : Field := match P.underlying t with | some (.struct fs) => fs[0]! | _ => default
theorem star_err : "*" ++ "errors.errorString" = "*errors.errorString" := by decide
theorem row_err (u : TypeId) (h : Tryd.prog.typeName? 3 u = some "*errors.errorString") : u = 132 :=
  typeName_ptr_named (nm := "errors.errorString") (by rw [star_err]; kernel_rfl) (by kernel_rfl) (by decide) u (by rw [star_err]; exact h)
theorem laid_list : Rows.scriptTextsRow.laid = [("math/bits.deBruijn32tab", Rows.laid_math_bits_deBruijn32tab), ("math/bits.deBruijn64tab", Rows.laid_math_bits_deBruijn64tab), ("internal/strconv.uint64pow10", Lib.tabData .u64 Lib.pow10Tab), ("unicode/utf8.acceptRanges", Rows.laid_unicode_utf8_acceptRanges), ("strconv.ErrRange", .iface "*errors.errorString" (.ptr (.agg [.lit (.string [118, 97, 108, 117, 101, 32, 111, 117, 116, 32, 111, 102, 32, 114, 97, 110, 103, 101])]))), ("strconv.ErrSyntax", .iface "*errors.errorString" (.ptr (.agg [.lit (.string [105, 110, 118, 97, 108, 105, 100, 32, 115, 121, 110, 116, 97, 120])]))), ("unicode/utf8.first", Rows.laid_unicode_utf8_first)] := by kernel_rfl
theorem glob_laid {W : World} (h : laidMet Tryd.prog Rows.scriptTextsRow.laid W) : GlobOk glob W := by
  rw [laid_list] at h
  have htab : Lib.TabIs Tryd.prog W "internal/strconv.uint64pow10" .u64 Lib.pow10Tab := Lib.tabIs_of_head gTab (show (Tryd.prog.globals[1]?).map (·.type) = some 119 by kernel_rfl) (show Tryd.prog.underlying 119 = some (.array 20 104) by kernel_rfl) (show Tryd.prog.underlying 104 = some (.int .u64) by kernel_rfl) (by kernel_rfl) (by kernel_rfl) h.tail.tail
  obtain ⟨a4, s4, hran, -, -, -⟩ := laid_sentinel h.tail.tail.tail.tail gRan (show (Tryd.prog.globals[3]?).map (·.type) = some 48 by kernel_rfl) (ms := (ifaceMs Tryd.prog 48)) (by kernel_rfl) row_err (show Tryd.prog.underlying 132 = some (.pointer 134) by kernel_rfl) (f := (structF Tryd.prog 134)) (by kernel_rfl) (ts := 9) (by kernel_rfl) (by kernel_rfl) (by kernel_rfl) (by kernel_rfl) (by kernel_rfl)
  obtain ⟨a5, s5, hsyn, -, -, -⟩ := laid_sentinel h.tail.tail.tail.tail.tail gSyn (show (Tryd.prog.globals[2]?).map (·.type) = some 48 by kernel_rfl) (ms := (ifaceMs Tryd.prog 48)) (by kernel_rfl) row_err (show Tryd.prog.underlying 132 = some (.pointer 134) by kernel_rfl) (f := (structF Tryd.prog 134)) (by kernel_rfl) (ts := 9) (by kernel_rfl) (by kernel_rfl) (by kernel_rfl) (by kernel_rfl) (by kernel_rfl)
  intro b Q hb
  rcases hb with ⟨rfl, rfl⟩ | ⟨rfl, rfl⟩ | ⟨rfl, rfl⟩
  · exact glob_of_tab gTab htab
  · exact glob_of_err gSyn hsyn
  · exact glob_of_err gRan hran
end Go.Proofs.YtikicfmgihfnbaaDoor
