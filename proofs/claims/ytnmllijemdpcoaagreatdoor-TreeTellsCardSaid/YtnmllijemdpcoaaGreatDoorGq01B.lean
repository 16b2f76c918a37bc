/- Pairs of hexadecimal digits as bytes, in plain words. -/
import Derived.Test.YtnmllijemdpcoaaGreatDoorGq01A
namespace Go.Ge
set_option linter.unusedVariables false
set_option linter.unusedSimpArgs false

def hv (c : UInt8) : Int := Lib.indexByte hexT c
theorem hv_hx : ∀ n : Fin 16, hv (hx n.val) = (n.val : Int) := by decide +kernel

/-- The bytes of pairs of digits. -/
def unhexF : List UInt8 → Option (List UInt8)
  | [] => some []
  | [_] => none
  | a :: b :: r => if hv a < 0 ∨ hv b < 0 then none else (unhexF r).map (UInt8.ofNat (16 * (hv a).toNat + (hv b).toNat) :: ·)

end Go.Ge
