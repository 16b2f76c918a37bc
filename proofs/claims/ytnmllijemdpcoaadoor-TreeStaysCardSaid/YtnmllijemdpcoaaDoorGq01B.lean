/- Pairs of hexadecimal digits as bytes, in plain words. -/
import Derived.Test.YtnmllijemdpcoaaDoorGq01A
namespace Go.Ge
set_option linter.unusedVariables false
set_option linter.unusedSimpArgs false

def hv (c : UInt8) : Int := Lib.indexByte hexT c
end Go.Ge
