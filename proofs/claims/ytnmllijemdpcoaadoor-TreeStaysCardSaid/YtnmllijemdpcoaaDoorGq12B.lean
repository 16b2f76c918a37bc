/- Texts without what stands at their ends, and the number of octal digits, in plain words. -/
import Derived.Test.YtnmllijemdpcoaaDoorGq12A
namespace Go.Ge
set_option linter.unusedVariables false
set_option linter.unusedSimpArgs false
set_option maxRecDepth 100000

/-! ### What stands at the end is let go -/
/-! ### Both noughts and blanks -/
/-! ### The left end -/
end Go.Ge
