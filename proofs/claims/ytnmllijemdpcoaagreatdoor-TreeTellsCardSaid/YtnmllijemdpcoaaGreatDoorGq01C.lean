/- Pairs of hexadecimal digits as bytes: the reference. -/
import Derived.Test.YtnmllijemdpcoaaGreatDoorGq01B
namespace Go.Ge
set_option linter.unusedVariables false
set_option linter.unusedSimpArgs false

/-- What was told as digits is read as it was. -/
theorem unhex_hex : ∀ l : List UInt8, unhexF (hexF l) = some l := by
  intro l
  induction l with
  | nil => rfl
  | cons b r ih =>
    have hb := b.toNat_lt
    have h1 := hv_hx ⟨b.toNat / 16, by omega⟩
    have h2 := hv_hx ⟨b.toNat % 16, by omega⟩
    simp only at h1 h2
    simp only [hexF, unhexF, h1, h2, ih, Option.map_some]
    rw [if_neg (by omega)]
    congr 2
    rw [Int.toNat_natCast, Int.toNat_natCast, show 16 * (b.toNat / 16) + b.toNat % 16 = b.toNat by omega]
    simp
end Go.Ge
