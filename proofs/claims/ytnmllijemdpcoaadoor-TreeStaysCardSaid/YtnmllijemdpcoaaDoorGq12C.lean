/- Headers: which ones may be; numbers and texts of fields, in plain words. -/
import Derived.Test.YtnmllijemdpcoaaDoorGq12B
namespace Go.Ge
set_option linter.unusedVariables false
set_option linter.unusedSimpArgs false

/-! ### Texts without noughts -/
def noNul (s : List UInt8) : Prop := ∀ x ∈ s, x ≠ 0
instance (s : List UInt8) : Decidable (noNul s) := inferInstanceAs (Decidable (∀ x ∈ s, x ≠ 0))

theorem index_nul : ∀ s : List UInt8, decide (Lib.indexByte s 0 < 0) = decide (noNul s) := by
  intro s
  induction s with
  | nil => rfl
  | cons b r ih =>
    unfold Lib.indexByte
    by_cases hb : b = 0
    · subst hb
      rw [if_pos (by rfl), decide_eq_false (by decide), decide_eq_false (fun h => h 0 (List.mem_cons_self ..) rfl)]
    · rw [if_neg (by simpa using hb)]
      by_cases hr : noNul r
      · rw [decide_eq_true hr] at ih
        have h1 : Lib.indexByte r 0 < 0 := of_decide_eq_true ih
        have h2 := (indexByte_range 0 r).1
        have h3 : Lib.indexByte r 0 = -1 := by omega
        rw [h3, if_pos (by rfl), decide_eq_true (by decide), decide_eq_true]
        intro x hx
        rcases List.mem_cons.1 hx with rfl | hx
        · exact hb
        · exact hr x hx
      · rw [decide_eq_false hr] at ih
        have h1 : ¬ Lib.indexByte r 0 < 0 := of_decide_eq_false ih
        rw [if_neg (by simp only [beq_iff_eq]; omega), decide_eq_false (by omega), decide_eq_false]
        intro h
        exact hr fun x hx => h x (List.mem_cons_of_mem _ hx)

/-! ### Which headers may be -/
abbrev Hd := List UInt8 × Int × Int × Int × Int × Int × Int × List UInt8 × Unit
def clr (s : List UInt8) (most : Int) : Prop := s ≠ [] ∧ (s.length : Int) ≤ most ∧ noNul s
instance (s : List UInt8) (most : Int) : Decidable (clr s most) := inferInstanceAs (Decidable (_ ∧ _ ∧ _))
def inN (n b : Int) : Prop := 0 ≤ n ∧ n < b
instance (n b : Int) : Decidable (inN n b) := inferInstanceAs (Decidable (_ ∧ _))
def kindOk (h : Hd) : Prop := (h.2.1 = 1 ∧ h.2.2.2.2.2.2.2.1 = []) ∨ (h.2.1 = 2 ∧ h.2.2.2.2.2.2.2.1 = [] ∧ h.2.2.2.2.2.1 = 0) ∨ (h.2.1 = 3 ∧ clr h.2.2.2.2.2.2.2.1 100 ∧ h.2.2.2.2.2.1 = 0)
instance (h : Hd) : Decidable (kindOk h) := inferInstanceAs (Decidable (_ ∨ _ ∨ _))
def okHd (h : Hd) (most : Int) : Prop := inN h.2.2.1 2097152 ∧ inN h.2.2.2.1 2097152 ∧ inN h.2.2.2.2.1 2097152 ∧ inN h.2.2.2.2.2.1 8589934592 ∧ inN h.2.2.2.2.2.2.1 8589934592 ∧ clr h.1 most ∧ kindOk h
instance (h : Hd) (most : Int) : Decidable (okHd h most) := inferInstanceAs (Decidable (_ ∧ _ ∧ _ ∧ _ ∧ _ ∧ _ ∧ _))

end Go.Ge
