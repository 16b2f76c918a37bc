/- What some functions of the library compute, as plain programs. -/
import Derived.Test.YtcahilmcckiaiaaDoorGeH
namespace Go.Ge

/-- Where a byte stands first in a text; -1: nowhere. -/
noncomputable def P_internal_stringslite_IndexByte : (Ty.pair .str (.pair (.int .u8) .unit)).den → Option (Ty.pair (.int .i64) .unit).den := fun x => some (Lib.indexByte x.1 (show Int from x.2.1).toNat.toUInt8, ())
end Go.Ge
