/- What the functions of layer 01 compute, as plain programs (written by a program from what the ghost interpreter comes to). -/
import Derived.Test.YtnmllijemdpcoaaDoorGpA
import Derived.Test.YtnmllijemdpcoaaDoorGp07
namespace Go.Ge
set_option linter.unusedVariables false
set_option maxRecDepth 100000

end Go.Ge
