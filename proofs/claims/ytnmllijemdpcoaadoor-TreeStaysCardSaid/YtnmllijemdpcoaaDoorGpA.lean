/- What some functions of the library compute, as plain programs. -/
import Derived.Test.YtnmllijemdpcoaaDoorGeI
import Derived.Lib.Repeat
namespace Go.Ge

/-- Where a byte stands first in a text; -1: nowhere. -/
noncomputable def P_internal_stringslite_IndexByte : (Ty.pair .str (.pair (.int .u8) .unit)).den → Option (Ty.pair (.int .i64) .unit).den := fun x => some (Lib.indexByte x.1 (show Int from x.2.1).toNat.toUInt8, ())

/-- strings.Split at a separator of one byte, strings.Join. -/
noncomputable def P_strings_Split : (List UInt8) × (List UInt8) × Unit → Option ((List (List UInt8)) × Unit) := fun x => (S_split x.1 x.2.1).map fun y => (y, ())
noncomputable def P_strings_Join : (List (List UInt8)) × (List UInt8) × Unit → Option ((List UInt8) × Unit) := fun x => (S_join x.1 x.2.1).map fun y => (y, ())

end Go.Ge
