/- Digests in plain words. -/
import Derived.Test.YtnmllijemdpcoaaDoorGq01C
namespace Go.Ge
set_option linter.unusedVariables false
set_option linter.unusedSimpArgs false

def preD : List UInt8 := [115, 104, 97, 50, 53, 54, 58]
def dgst (s : List UInt8) : List UInt8 := preD ++ hexF (intsBytes (sha s))
theorem length_dgst (s : List UInt8) : (dgst s).length = 71 := by
  unfold dgst
  rw [List.length_append, length_hexF]
  simp [intsBytes, length_sha, preD]

theorem sub_whole {α : Type} (l : List α) (n : Nat) (h : l.length = n) : sub l 0 (minus n 0) = l := by
  unfold sub minus
  rw [show ((0 : Int).toNat) = 0 from rfl, List.drop_zero, List.take_of_length_le (by omega)]

theorem of_val (s : List UInt8) (hs : s.length ≤ 1048576) : P_digest_Of (s, ()) = some (dgst s, ()) := by
  unfold P_digest_Of
  dsimp only
  rw [shaSum_val s hs, obind_some, inside_true (by decide) (by decide) (by decide), sel_true]
  dsimp only
  rw [show sub (sha s) 0 (minus 32 0) = sha s from sub_whole _ 32 (length_sha s), hex_val _ (by simp [intsBytes, length_sha]), obind_some]
  dsimp only
  rw [fits_true (by simp only [plus, len, length_hexF, intsBytes, List.length_map, length_sha, List.length_cons, List.length_nil]; omega), sel_true]
  rfl

end Go.Ge
