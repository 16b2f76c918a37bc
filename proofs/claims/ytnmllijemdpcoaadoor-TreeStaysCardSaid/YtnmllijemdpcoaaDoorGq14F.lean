/- The reference's Put: in plain words. -/
import Derived.Test.YtnmllijemdpcoaaDoorGq14E
namespace Go.Ge
set_option linter.unusedVariables false
set_option linter.unusedSimpArgs false

end Go.Ge
