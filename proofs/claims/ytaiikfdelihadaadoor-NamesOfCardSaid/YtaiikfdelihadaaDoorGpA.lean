/- What some functions of the library compute, as plain programs. -/
import Derived.Test.YtaiikfdelihadaaDoorGeH
import Derived.Lib.Repeat
namespace Go.Ge

/-- Where a byte stands first in a text; -1: nowhere. -/
noncomputable def P_internal_stringslite_IndexByte : (Ty.pair .str (.pair (.int .u8) .unit)).den → Option (Ty.pair (.int .i64) .unit).den := fun x => some (Lib.indexByte x.1 (show Int from x.2.1).toNat.toUInt8, ())

/-- strings.Repeat: none for a negative count, or where the result is longer than one allocation. -/
noncomputable def S_strings_Repeat (s : List UInt8) (c : Int) : Option (List UInt8) := if c < 0 ∨ 140737488355328 < s.length * c.toNat then none else some (Lib.repeatL s c.toNat)
noncomputable def P_strings_Repeat : (List UInt8) × Int × Unit → Option ((List UInt8) × Unit) := fun x => (S_strings_Repeat x.1 x.2.1).map fun y => (y, ())
theorem S_strings_Repeat_some {s : List UInt8} {c : Int} {y : List UInt8} (h : S_strings_Repeat s c = some y) : 0 ≤ c ∧ s.length * c.toNat ≤ 140737488355328 ∧ y = Lib.repeatL s c.toNat := by
  unfold S_strings_Repeat at h
  split at h
  · cases h
  · next hn =>
    have := Option.some.inj h
    exact ⟨by omega, by omega, this.symm⟩
theorem S_strings_Repeat_len {s : List UInt8} {c : Int} {y : List UInt8} (h : S_strings_Repeat s c = some y) : y.length ≤ maxLen := by
  obtain ⟨_, h2, rfl⟩ := S_strings_Repeat_some h
  rw [Lib.repeatL_length, Nat.mul_comm]
  exact Nat.le_trans h2 (by decide)

/-- strings.Split at a separator of one byte, strings.Join. -/
noncomputable def P_strings_Split : (List UInt8) × (List UInt8) × Unit → Option ((List (List UInt8)) × Unit) := fun x => (S_split x.1 x.2.1).map fun y => (y, ())
noncomputable def P_strings_Join : (List (List UInt8)) × (List UInt8) × Unit → Option ((List UInt8) × Unit) := fun x => (S_join x.1 x.2.1).map fun y => (y, ())

/-- Numbers' digits. -/
noncomputable def P_strconv_Itoa : Int × Unit → Option ((List UInt8) × Unit) := fun x => some (Lib.itoa x.1, ())
noncomputable def P_digits_Num : (List UInt8) × Unit → Option (Int × Bool × Unit) := fun x => if x.1.length ≤ 1048576 then some ((numF x.1).1, ((numF x.1).2, ())) else none
/-- The reference's digits, of a number that is not above 0: by how deep it calls itself. -/
noncomputable def P_ref01_below : Int × Unit → Option ((List UInt8) × Unit) := fun x => if -9223372036854775808 ≤ x.1 ∧ x.1 ≤ 0 then some (Lib.decDigits x.1.natAbs, ()) else none
noncomputable def S_ref01_below (k : Nat) : Int × Unit → Option ((List UInt8) × Unit) := fun x => if -9223372036854775808 ≤ x.1 ∧ x.1 ≤ 0 ∧ 0 < k ∧ x.1.natAbs < 10 ^ k then some (Lib.decDigits x.1.natAbs, ()) else none
end Go.Ge
