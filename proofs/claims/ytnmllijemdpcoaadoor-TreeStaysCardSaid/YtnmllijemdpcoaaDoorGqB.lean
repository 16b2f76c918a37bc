/- Plain laws of loops that go through a list, of words in natural numbers. -/
import Derived.Test.YtnmllijemdpcoaaDoorGqA
namespace Go.Ge
set_option linter.unusedVariables false
set_option linter.unusedSimpArgs false

/-- A list gone through: on with a state, or out. -/
def runL {α σ R : Type} (step : Nat → σ → α → Option (σ ⊕ R)) (fin : Nat → σ → R) : List α → Nat → σ → Option R
  | [], i, s => some (fin i s)
  | x :: r, i, s => match step i s x with
    | none => none
    | some (.inl s') => runL step fin r (i + 1) s'
    | some (.inr y) => some y

theorem loop_run {α σ S R : Type} {f : S → Option (S ⊕ R)} (l : List α) (mk : σ → Nat → S) (step : Nat → σ → α → Option (σ ⊕ R)) (fin : Nat → σ → R) (Inv : Nat → σ → Prop)
    (hstep : ∀ s i x, l[i]? = some x → i < l.length → Inv i s → f (mk s i) = (step i s x).map (fun q => match q with | .inl s' => .inl (mk s' (i + 1)) | .inr y => .inr y))
    (hinv : ∀ s i x s', l[i]? = some x → Inv i s → step i s x = some (.inl s') → Inv (i + 1) s')
    (hfin : ∀ s, Inv l.length s → f (mk s l.length) = some (.inr (fin l.length s))) (hsome : ∀ s i x, l[i]? = some x → Inv i s → step i s x ≠ none) :
    ∀ s, Inv 0 s → Loop f (mk s 0) = runL step fin l 0 s := by
  have key : ∀ (rest pre : List α) (s : σ), l = pre ++ rest → Inv pre.length s → Loop f (mk s pre.length) = runL step fin rest pre.length s := by
    intro rest
    induction rest with
    | nil =>
      intro pre s hl hI
      rw [List.append_nil] at hl
      subst hl
      rw [Loop_eq, hfin s hI]
      rfl
    | cons x r ih =>
      intro pre s hl hI
      have hx : l[pre.length]? = some x := by rw [hl]; simp
      have hlt : pre.length < l.length := by rw [hl]; simp
      rw [Loop_eq, hstep s pre.length x hx hlt hI]
      unfold runL
      cases hs : step pre.length s x with
      | none => exact absurd hs (hsome s _ x hx hI)
      | some q =>
        cases q with
        | inr y => rfl
        | inl s' =>
          have := ih (pre ++ [x]) s' (by rw [hl]; simp) (by rw [List.length_append]; exact hinv s _ x s' hx hI hs)
          rw [List.length_append] at this
          exact this
  intro s hI
  exact key l [] s rfl hI

/-! ### Words in natural numbers -/
theorem ltI_len {α : Type} (i : Nat) (l : List α) : ltI (i : Int) (len l) = decide (i < l.length) := by simp [ltI, len]
theorem leI_len {α : Type} (i : Nat) (l : List α) : leI (len l) (i : Int) = decide (l.length ≤ i) := by simp [leI, len]
theorem ltI_lens {α β : Type} (l : List α) (m : List β) : ltI (len l) (len m) = decide (l.length < m.length) := by simp [ltI, len]
theorem leI_lens {α β : Type} (l : List α) (m : List β) : leI (len l) (len m) = decide (l.length ≤ m.length) := by simp [leI, len]
theorem eqI_lens {α β : Type} (l : List α) (m : List β) : eqI (len l) (len m) = decide (l.length = m.length) := by unfold eqI len; apply decide_eq_decide.2; omega
theorem fits_len2 {α β : Type} {l : List α} {m : List β} (h : l.length + m.length ≤ 4294967296) : fits (plus (len l) (len m)) = true := by
  apply fits_true; simp only [plus, len]; omega
theorem sel_if {α : Type} (c : Bool) (x y : α) : sel c x y = if c = true then x else y := by cases c <;> rfl
theorem sel_decide {α : Type} (p : Prop) [Decidable p] (x y : α) : sel (decide p) x y = if p then x else y := by by_cases h : p <;> simp [h, sel]
theorem eqS_iff {a b : List UInt8} : eqS a b = decide (a = b) := rfl
theorem eqS_false {a b : List UInt8} (h : a ≠ b) : eqS a b = false := by simp [eqS, h]
theorem eqS_true {a b : List UInt8} (h : a = b) : eqS a b = true := by simp [eqS, h]
theorem u8_eq {c : UInt8} {n : UInt8} : eqI (u8 c) (n.toNat : Int) = decide (c = n) := by
  unfold eqI u8
  by_cases h : c = n
  · simp [h]
  · have : c.toNat ≠ n.toNat := fun e => h (UInt8.toNat_inj.1 e)
    simp [h]; omega
theorem sub_take {α : Type} (l : List α) (n : Nat) : sub l 0 (minus (n : Int) 0) = l.take n := by
  unfold sub minus
  simp
theorem sub_take' {α β : Type} (l : List α) (m : List β) : sub l 0 (minus (len m) 0) = l.take m.length := sub_take l m.length
theorem sub_drop {α : Type} (l : List α) (n : Nat) (h : n ≤ l.length) : sub l (n : Int) (minus (len l) (n : Int)) = l.drop n := by
  unfold sub minus len
  rw [Int.toNat_natCast]
  apply List.take_of_length_le
  rw [List.length_drop]
  omega
theorem eqN_zero : eqN 0 0 = true := rfl
theorem eqN_one : eqN 1 0 = false := rfl

theorem getElem?_lt {α : Type} {l : List α} {i : Nat} {x : α} (h : l[i]? = some x) : i < l.length := (List.getElem?_eq_some_iff.1 h).1
theorem sub_one {α : Type} {l : List α} {i : Nat} {x : α} (h : l[i]? = some x) : sub l (i : Int) (minus ((i + 1 : Nat) : Int) (i : Int)) = [x] := by
  unfold sub minus
  rw [show ((i + 1 : Nat) : Int) - (i : Int) = 1 by omega, Int.toNat_natCast]
  obtain ⟨hi, rfl⟩ := List.getElem?_eq_some_iff.1 h
  rw [List.drop_eq_getElem_cons hi]
  rfl
theorem inside_nat {a b n : Nat} (h : a ≤ b) (k : b ≤ n) : inside (a : Int) (b : Int) (n : Int) = true := inside_true (by omega) (by omega) (by omega)
theorem inside_len {α : Type} {a b : Nat} {l : List α} (h : a ≤ b) (k : b ≤ l.length) : inside (a : Int) (b : Int) (len l) = true := inside_nat h k
theorem idx_some' {α : Type} {l : List α} {i : Nat} {x : α} (h : l[i]? = some x) : idx l (i : Int) = some x := by rw [idx_nat, h]
theorem ltI_len_true {α : Type} {l : List α} {i : Nat} (h : i < l.length) : ltI (i : Int) (len l) = true := by rw [ltI_len, decide_eq_true h]
theorem ltI_len_end {α : Type} {l : List α} : ltI (l.length : Int) (len l) = false := by rw [ltI_len, decide_eq_false (by omega)]
theorem app_eq {α : Type} (l m : List α) : app l m = l ++ m := rfl
theorem nt_eq (b : Bool) : nt b = !b := rfl
theorem len_eq {α : Type} (l : List α) : len l = (l.length : Int) := rfl
end Go.Ge
