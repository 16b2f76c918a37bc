/- The law TreeTells: a tree's text tells it: in plain words. -/
import Derived.Test.YtnmllijemdpcoaaDoorGq14H
namespace Go.Ge
set_option linter.unusedVariables false
set_option linter.unusedSimpArgs false

set_option synthInstance.maxHeartbeats 200000 in
set_option synthInstance.maxSize 4000 in
instance decNd : DecidableEq Nd := inferInstance

end Go.Ge
