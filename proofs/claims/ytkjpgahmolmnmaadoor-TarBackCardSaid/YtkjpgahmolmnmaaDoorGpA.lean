/- What some functions of the library compute, as plain programs. -/
import Derived.Test.YtkjpgahmolmnmaaDoorGeH
import Derived.Lib.Repeat
namespace Go.Ge

/-- Where a byte stands first in a text; -1: nowhere. -/
noncomputable def P_internal_stringslite_IndexByte : (Ty.pair .str (.pair (.int .u8) .unit)).den → Option (Ty.pair (.int .i64) .unit).den := fun x => some (Lib.indexByte x.1 (show Int from x.2.1).toNat.toUInt8, ())

/-- strings.Repeat: none for a negative count, or where the result is longer than one allocation. -/
noncomputable def S_strings_Repeat (s : List UInt8) (c : Int) : Option (List UInt8) := if c < 0 ∨ 140737488355328 < s.length * c.toNat then none else some (Lib.repeatL s c.toNat)
noncomputable def P_strings_Repeat : (List UInt8) × Int × Unit → Option ((List UInt8) × Unit) := fun x => (S_strings_Repeat x.1 x.2.1).map fun y => (y, ())
theorem S_strings_Repeat_some {s : List UInt8} {c : Int} {y : List UInt8} (h : S_strings_Repeat s c = some y) : 0 ≤ c ∧ s.length * c.toNat ≤ 140737488355328 ∧ y = Lib.repeatL s c.toNat := by
  unfold S_strings_Repeat at h
  split at h
  · cases h
  · next hn =>
    have := Option.some.inj h
    exact ⟨by omega, by omega, this.symm⟩
theorem S_strings_Repeat_len {s : List UInt8} {c : Int} {y : List UInt8} (h : S_strings_Repeat s c = some y) : y.length ≤ maxLen := by
  obtain ⟨_, h2, rfl⟩ := S_strings_Repeat_some h
  rw [Lib.repeatL_length, Nat.mul_comm]
  exact Nat.le_trans h2 (by decide)

/-- strings.Split at a separator of one byte, strings.Join. -/
noncomputable def P_strings_Split : (List UInt8) × (List UInt8) × Unit → Option ((List (List UInt8)) × Unit) := fun x => (S_split x.1 x.2.1).map fun y => (y, ())
noncomputable def P_strings_Join : (List (List UInt8)) × (List UInt8) × Unit → Option ((List UInt8) × Unit) := fun x => (S_join x.1 x.2.1).map fun y => (y, ())
end Go.Ge
