/- The laws of layer 02 in plain words. -/
import Derived.Test.YtnmllijemdpcoaaDoorGq02C
namespace Go.Ge
set_option linter.unusedVariables false
set_option linter.unusedSimpArgs false

abbrev PartS := (Bool × List UInt8 × Int × Unit) × Strm × Strm × Unit

end Go.Ge
