/- Pairs of hexadecimal digits as bytes: the reference. -/
import Derived.Test.YtnmllijemdpcoaaDoorGq01B
namespace Go.Ge
set_option linter.unusedVariables false
set_option linter.unusedSimpArgs false

end Go.Ge
