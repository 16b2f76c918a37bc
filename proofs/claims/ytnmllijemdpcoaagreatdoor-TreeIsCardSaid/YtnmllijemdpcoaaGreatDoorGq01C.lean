/- Pairs of hexadecimal digits as bytes: the reference. -/
import Derived.Test.YtnmllijemdpcoaaGreatDoorGq01B
namespace Go.Ge
set_option linter.unusedVariables false
set_option linter.unusedSimpArgs false

theorem iadd_nat {a b : Nat} (h : a + b < 4611686018427387904) : iadd .i64 (a : Int) (b : Int) = ((a + b : Nat) : Int) := by
  rw [iadd_i64 (by omega) (by omega)]; omega

end Go.Ge
