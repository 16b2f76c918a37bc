/- The order of texts; two lists gone through side by side. -/
import Derived.Test.YtnmllijemdpcoaaDoorGqB
namespace Go.Ge
set_option linter.unusedVariables false
set_option linter.unusedSimpArgs false

theorem ltS_nil (y : List UInt8) : ltS [] y = decide (y ≠ []) := by cases y <;> simp [ltS, Op.bytesLess]
theorem ltS_nil' (x : List UInt8) : ltS x [] = false := by cases x <;> simp [ltS, Op.bytesLess]
theorem ltS_cons (a b : UInt8) (x y : List UInt8) : ltS (a :: x) (b :: y) = (decide (a < b) || (a == b && ltS x y)) := by simp [ltS, Op.bytesLess]

theorem u8_irrefl (a : UInt8) : ¬ a < a := UInt8.lt_irrefl a
theorem u8_tri (a b : UInt8) : a < b ∨ a = b ∨ b < a := by
  rcases Nat.lt_trichotomy a.toNat b.toNat with h | h | h
  · exact .inl h
  · exact .inr (.inl (UInt8.toNat_inj.1 h))
  · exact .inr (.inr h)

theorem ltS_irrefl : ∀ x : List UInt8, ltS x x = false := by
  intro x
  induction x with
  | nil => rfl
  | cons a x ih => rw [ltS_cons, ih]; simp [u8_irrefl]

theorem ltS_trans : ∀ {x y z : List UInt8}, ltS x y = true → ltS y z = true → ltS x z = true := by
  intro x
  induction x with
  | nil =>
    intro y z h k
    cases z with
    | nil => rw [ltS_nil'] at k; cases k
    | cons c z => rfl
  | cons a x ih =>
    intro y z h k
    cases y with
    | nil => rw [ltS_nil'] at h; cases h
    | cons b y =>
      cases z with
      | nil => rw [ltS_nil'] at k; cases k
      | cons c z =>
        rw [ltS_cons] at h k ⊢
        simp only [Bool.or_eq_true, decide_eq_true_eq, Bool.and_eq_true, beq_iff_eq] at h k ⊢
        rcases h with h | ⟨rfl, h⟩
        · rcases k with k | ⟨rfl, k⟩
          · exact .inl (UInt8.lt_trans h k)
          · exact .inl h
        · rcases k with k | ⟨rfl, k⟩
          · exact .inl k
          · exact .inr ⟨rfl, ih h k⟩

theorem ltS_tri : ∀ (x y : List UInt8), ltS x y = true ∨ x = y ∨ ltS y x = true := by
  intro x
  induction x with
  | nil => intro y; cases y <;> simp [ltS_nil]
  | cons a x ih =>
    intro y
    cases y with
    | nil => exact .inr (.inr rfl)
    | cons b y =>
      rw [ltS_cons, ltS_cons]
      simp only [Bool.or_eq_true, decide_eq_true_eq, Bool.and_eq_true, beq_iff_eq]
      rcases u8_tri a b with h | rfl | h
      · exact .inl (.inl h)
      · rcases ih y with h | rfl | h
        · exact .inl (.inr ⟨rfl, h⟩)
        · exact .inr (.inl rfl)
        · exact .inr (.inr (.inr ⟨rfl, h⟩))
      · exact .inr (.inr (.inl h))

theorem ltS_asymm {x y : List UInt8} (h : ltS x y = true) : ltS y x = false := by
  cases k : ltS y x with
  | false => rfl
  | true => have := ltS_trans h k; rw [ltS_irrefl] at this; cases this
theorem ltS_ne {x y : List UInt8} (h : ltS x y = true) : x ≠ y := fun e => by rw [e, ltS_irrefl] at h; cases h

/-- Greater: neither less nor the same. -/
theorem gtS_eq (x y : List UInt8) : nt (oor (ltS x y) (eqS x y)) = ltS y x := by
  rcases ltS_tri x y with h | rfl | h
  · rw [h, ltS_asymm h]; rfl
  · rw [eqS_self, ltS_irrefl]; rfl
  · rw [h, ltS_asymm h, eqS_false (fun e => ltS_ne h e.symm)]; rfl

/-- Of three numbers. -/
def cmpS (x y : List UInt8) : Int := if ltS x y = true then -1 else if x = y then 0 else 1

/-- Lists of texts in order. -/
def cmpL : List (List UInt8) → List (List UInt8) → Int
  | [], [] => 0
  | [], _ :: _ => -1
  | _ :: _, [] => 1
  | a :: x, b :: y => if a = b then cmpL x y else if ltS a b = true then -1 else 1

theorem cmpL_self : ∀ x, cmpL x x = 0 := by
  intro x
  induction x with
  | nil => rfl
  | cons a x ih => rw [cmpL, if_pos rfl]; exact ih
theorem cmpL_zero : ∀ {x y}, cmpL x y = 0 → x = y := by
  intro x
  induction x with
  | nil => intro y h; cases y with | nil => rfl | cons b y => cases h
  | cons a x ih =>
    intro y h
    cases y with
    | nil => cases h
    | cons b y =>
      rw [cmpL] at h
      split at h
      · rename_i e; rw [e, ih h]
      · split at h <;> cases h
theorem cmpL_neg : ∀ x y, cmpL x y = - cmpL y x := by
  intro x
  induction x with
  | nil => intro y; cases y <;> rfl
  | cons a x ih =>
    intro y
    cases y with
    | nil => rfl
    | cons b y =>
      rw [cmpL, cmpL]
      by_cases e : a = b
      · rw [if_pos e, if_pos e.symm, ih y]
      · have e' : ¬ b = a := fun q => e q.symm
        rw [if_neg e, if_neg e']
        rcases ltS_tri a b with h | h | h
        · rw [if_pos h, if_neg (by rw [ltS_asymm h]; simp)]
        · exact absurd h e
        · rw [if_neg (by rw [ltS_asymm h]; simp), if_pos h]; rfl
theorem cmpL_trans : ∀ {x y z}, cmpL x y < 0 → cmpL y z < 0 → cmpL x z < 0 := by
  intro x
  induction x with
  | nil =>
    intro y z h k
    cases z with
    | nil => cases y with | nil => exact absurd k (by simp [cmpL]) | cons b y => exact absurd k (by simp [cmpL])
    | cons c z => exact (by decide : (-1 : Int) < 0)
  | cons a x ih =>
    intro y z h k
    cases y with
    | nil => exact absurd h (by simp [cmpL])
    | cons b y =>
      cases z with
      | nil => exact absurd k (by simp [cmpL])
      | cons c z =>
        rw [cmpL] at h k ⊢
        by_cases e : a = b
        · subst e
          rw [if_pos rfl] at h
          by_cases e2 : a = c
          · subst e2
            rw [if_pos rfl] at k ⊢
            exact ih h k
          · rw [if_neg e2] at k ⊢
            exact k
        · rw [if_neg e] at h
          have hab : ltS a b = true := by
            cases q : ltS a b with
            | true => rfl
            | false => rw [q, if_neg (by simp)] at h; exact absurd h (by decide)
          by_cases e2 : b = c
          · subst e2
            rw [if_neg e]
            exact h
          · rw [if_neg e2] at k
            have hbc : ltS b c = true := by
              cases q : ltS b c with
              | true => rfl
              | false => rw [q, if_neg (by simp)] at k; exact absurd k (by decide)
            have hac := ltS_trans hab hbc
            rw [if_neg (ltS_ne hac), if_pos hac]
            decide
/-- What begins with all of another list stands behind it. -/
theorem cmpL_app (x r : List (List UInt8)) (h : r ≠ []) : cmpL x (x ++ r) = -1 := by
  induction x with
  | nil => cases r with | nil => exact absurd rfl h | cons a r => rfl
  | cons a x ih => rw [List.cons_append, cmpL, if_pos rfl]; exact ih

/-! ### Side by side -/
theorem zip_at {α β : Type} {x : List α} {y : List β} {i : Nat} {p : α × β} (h : (x.zip y)[i]? = some p) : x[i]? = some p.1 ∧ y[i]? = some p.2 := by
  rw [List.getElem?_zip_eq_some] at h
  exact h
theorem zip_same {α : Type} [DecidableEq α] : ∀ (x y : List α), (x.zip y).all (fun p => decide (p.1 = p.2)) = decide (x.take (min x.length y.length) = y.take (min x.length y.length)) := by
  intro x
  induction x with
  | nil => intro y; simp
  | cons a x ih =>
    intro y
    cases y with
    | nil => simp
    | cons b y =>
      rw [List.zip_cons_cons, List.all_cons, ih y]
      simp only [List.length_cons, Nat.add_min_add_right, List.take_succ_cons]
      by_cases e : a = b
      · subst e; simp
      · simp [e]
theorem zip_same_len {α : Type} [DecidableEq α] {x y : List α} (h : x.length = y.length) : (x.zip y).all (fun p => decide (p.1 = p.2)) = decide (x = y) := by
  rw [zip_same, h, Nat.min_self, List.take_length, ← h, List.take_length]
end Go.Ge
