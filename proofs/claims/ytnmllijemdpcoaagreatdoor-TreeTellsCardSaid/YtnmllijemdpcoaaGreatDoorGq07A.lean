/- Paths in plain words: their names, and what these are put together to. -/
import Derived.Test.YtnmllijemdpcoaaGreatDoorGqB
import Derived.Test.YtnmllijemdpcoaaGreatDoorGp07
import Derived.Test.YtnmllijemdpcoaaGreatDoorGq12C
namespace Go.Ge
set_option linter.unusedVariables false
set_option linter.unusedSimpArgs false

/-- A text at its strokes. -/
def splitS : List UInt8 → List (List UInt8)
  | [] => [[]]
  | b :: r => if b = 47 then [] :: splitS r else match splitS r with
    | h :: t => (b :: h) :: t
    | [] => [[b]]

theorem splitS_ne (s : List UInt8) : splitS s ≠ [] := by
  cases s with
  | nil => simp [splitS]
  | cons b r =>
    unfold splitS
    split
    · simp
    · split <;> simp

theorem splitS_cons {b : UInt8} (h : b ≠ 47) {r x : List UInt8} {t : List (List UInt8)} (e : splitS r = x :: t) : splitS (b :: r) = (b :: x) :: t := by
  rw [splitS, if_neg h, e]

/-- The names of a path. -/
def parts (p : List UInt8) : List (List UInt8) := if p = [] then [] else splitS p

theorem splitK_cons {b : UInt8} (h : b ≠ 47) : ∀ (k : Nat) (r x : List UInt8) (t : List (List UInt8)), Lib.splitK [47] 0 k r = x :: t → Lib.splitK [47] 0 k (b :: r) = (b :: x) :: t := by
  intro k r x t e
  cases k with
  | zero => simp [Lib.splitK] at e ⊢; exact ⟨by rw [e.1], e.2⟩
  | succ k =>
    have hix : Lib.index (b :: r) [47] = if Lib.index r [47] == -1 then -1 else Lib.index r [47] + 1 := by
      rw [Lib.index]
      have : ([47] : List UInt8).isPrefixOf (b :: r) = false := by simp [List.isPrefixOf, Ne.symm h]
      rw [this]; simp
    have hge := Lib.index_ge r [47]
    unfold Lib.splitK at e ⊢
    rw [hix]
    by_cases hm : (Lib.index r [47] == -1) = true
    · rw [if_pos hm] at e ⊢
      simp at e ⊢
      exact ⟨e.1, e.2⟩
    · rw [if_neg hm] at e ⊢
      have hm' : Lib.index r [47] ≠ -1 := fun q => hm (by rw [q]; rfl)
      have hn : ¬ ((Lib.index r [47] + 1 == -1) = true) := fun q => by have := beq_iff_eq.1 q; omega
      rw [if_neg hn]
      obtain ⟨j, hj⟩ : ∃ j : Nat, Lib.index r [47] = j := ⟨(Lib.index r [47]).toNat, by omega⟩
      have e1 : (Lib.index r [47] + 1).toNat = j + 1 := by omega
      have e2 : (Lib.index r [47]).toNat = j := by omega
      rw [e1]
      rw [e2] at e
      have := List.cons.inj e
      rw [show j + 1 + ([47] : List UInt8).length = (j + ([47] : List UInt8).length) + 1 by omega, List.drop_succ_cons, this.2]
      have e3 := this.1
      simp at e3 ⊢
      exact e3

theorem splitK_slash (k : Nat) (r : List UInt8) : Lib.splitK [47] 0 (k + 1) (47 :: r) = [] :: Lib.splitK [47] 0 k r := by
  have hix : Lib.index (47 :: r) [47] = 0 := by rw [Lib.index]; simp [List.isPrefixOf]
  rw [Lib.splitK, hix]
  simp

theorem splitK_eq : ∀ (s : List UInt8) (k : Nat), s.count 47 ≤ k → Lib.splitK [47] 0 k s = splitS s := by
  intro s
  induction s with
  | nil =>
    intro k _
    cases k with
    | zero => rfl
    | succ k => simp [Lib.splitK, splitS, Lib.index]
  | cons b r ih =>
    intro k hk
    by_cases h : b = 47
    · subst h
      obtain ⟨k', rfl⟩ : ∃ k', k = k' + 1 := ⟨k - 1, by rw [List.count_cons_self] at hk; omega⟩
      rw [splitK_slash, ih k' (by rw [List.count_cons_self] at hk; omega), splitS, if_pos rfl]
    · have := ih k (by rwa [List.count_cons_of_ne h] at hk)
      cases hs : splitS r with
      | nil => exact absurd hs (splitS_ne r)
      | cons x t =>
        rw [hs] at this
        rw [splitK_cons h k r x t this, splitS_cons h hs]

theorem split_eq (s : List UInt8) : Lib.split s [47] = splitS s := by
  unfold Lib.split
  exact splitK_eq s _ (by rw [Lib.count_one]; exact Nat.le_refl _)

theorem u8_47 (c : UInt8) : eqI (u8 c) 47 = decide (c = 47) := u8_eq (n := 47)
theorem parts_val (p : List UInt8) (hp : p.length ≤ 1048576) : P_paths_Parts (p, ()) = some (parts p, ()) := by
  unfold P_paths_Parts parts
  dsimp only
  by_cases h : p = []
  · rw [eqS_true h, sel_true, if_pos h]
  · rw [eqS_false h, sel_false, if_neg h]
    have : P_strings_Split (p, ([47], ())) = some (splitS p, ()) := by
      show (S_split p [47]).map (fun y => (y, ())) = _
      unfold S_split
      simp only
      rw [if_pos (by omega), split_eq]
      rfl
    rw [this, obind_some]

/-! ### Put together -/
def joinS : List (List UInt8) → List UInt8
  | [] => []
  | [x] => x
  | x :: y :: r => x ++ 47 :: joinS (y :: r)

theorem lib_join (l : List (List UInt8)) : Lib.join l [47] = joinS l := by
  induction l with
  | nil => rfl
  | cons x r ih =>
    cases r with
    | nil => simp [Lib.join_one, joinS]
    | cons y r =>
      rw [joinS, ← ih, Lib.join_cons, Lib.join_cons]
      simp [Lib.joinTail]

theorem joinS_splitS (s : List UInt8) : joinS (splitS s) = s := by
  induction s with
  | nil => rfl
  | cons b r ih =>
    by_cases h : b = 47
    · subst h
      rw [splitS, if_pos rfl]
      cases hs : splitS r with
      | nil => exact absurd hs (splitS_ne r)
      | cons x t => rw [joinS, ← hs, ih]; rfl
    · cases hs : splitS r with
      | nil => exact absurd hs (splitS_ne r)
      | cons x t =>
        rw [splitS_cons h hs]
        rw [hs] at ih
        cases t with
        | nil => rw [joinS] at ih ⊢; rw [ih]
        | cons y t => rw [joinS] at ih ⊢; rw [List.cons_append, ih]

theorem joinS_parts (p : List UInt8) : joinS (parts p) = p := by
  unfold parts
  by_cases h : p = []
  · rw [if_pos h, h]; rfl
  · rw [if_neg h, joinS_splitS]

theorem splitS_app (x : List UInt8) (hx : 47 ∉ x) (r : List UInt8) : splitS (x ++ 47 :: r) = x :: splitS r := by
  induction x with
  | nil => rw [List.nil_append, splitS, if_pos rfl]
  | cons b x ih =>
    simp only [List.mem_cons, not_or] at hx
    exact splitS_cons (fun e => hx.1 e.symm) (ih hx.2)
theorem splitS_plain (x : List UInt8) (hx : 47 ∉ x) : splitS x = [x] := by
  induction x with
  | nil => rfl
  | cons b x ih =>
    simp only [List.mem_cons, not_or] at hx
    exact splitS_cons (fun e => hx.1 e.symm) (ih hx.2)

theorem splitS_joinS (l : List (List UInt8)) (hne : l ≠ []) (h : ∀ x ∈ l, 47 ∉ x) : splitS (joinS l) = l := by
  induction l with
  | nil => exact absurd rfl hne
  | cons x r ih =>
    cases r with
    | nil => rw [joinS]; exact splitS_plain x (h x (List.mem_cons_self ..))
    | cons y r =>
      rw [joinS, splitS_app x (h x (List.mem_cons_self ..)), ih (by simp) (fun z hz => h z (List.mem_cons_of_mem _ hz))]

theorem splitS_mem (s : List UInt8) : ∀ x ∈ splitS s, 47 ∉ x ∧ x.length ≤ s.length := by
  induction s with
  | nil => intro x hx; simp [splitS] at hx; subst hx; simp
  | cons b r ih =>
    intro x hx
    by_cases h : b = 47
    · rw [splitS, if_pos h] at hx
      rcases List.mem_cons.1 hx with rfl | hx
      · simp
      · obtain ⟨h1, h2⟩ := ih x hx
        exact ⟨h1, by simp only [List.length_cons]; omega⟩
    · cases hs : splitS r with
      | nil => exact absurd hs (splitS_ne r)
      | cons y t =>
        rw [splitS_cons h hs] at hx
        rw [hs] at ih
        rcases List.mem_cons.1 hx with rfl | hx
        · obtain ⟨h1, h2⟩ := ih y (List.mem_cons_self ..)
          exact ⟨by simp only [List.mem_cons, not_or]; exact ⟨fun e => h e.symm, h1⟩, by simp only [List.length_cons]; omega⟩
        · obtain ⟨h1, h2⟩ := ih x (List.mem_cons_of_mem _ hx)
          exact ⟨h1, by simp only [List.length_cons]; omega⟩

theorem length_splitS (s : List UInt8) : (splitS s).length ≤ s.length + 1 := by
  induction s with
  | nil => simp [splitS]
  | cons b r ih =>
    by_cases h : b = 47
    · rw [splitS, if_pos h]; simp only [List.length_cons]; omega
    · cases hs : splitS r with
      | nil => exact absurd hs (splitS_ne r)
      | cons y t => rw [splitS_cons h hs]; rw [hs] at ih; simp only [List.length_cons] at ih ⊢; omega

theorem parts_mem (p : List UInt8) : ∀ x ∈ parts p, 47 ∉ x ∧ x.length ≤ p.length := by
  unfold parts
  by_cases h : p = []
  · rw [if_pos h]; intro x hx; cases hx
  · rw [if_neg h]; exact splitS_mem p
theorem length_parts (p : List UInt8) : (parts p).length ≤ p.length + 1 := by
  unfold parts
  by_cases h : p = []
  · rw [if_pos h]; simp
  · rw [if_neg h]; exact length_splitS p
/-- Names that may stand in a path. -/
theorem parts_joinS (l : List (List UInt8)) (h : ∀ x ∈ l, 47 ∉ x ∧ x ≠ []) : parts (joinS l) = l := by
  unfold parts
  cases l with
  | nil => rfl
  | cons x r =>
    have hne : joinS (x :: r) ≠ [] := by
      have := (h x (List.mem_cons_self ..)).2
      cases r with
      | nil => rw [joinS]; exact this
      | cons y r => rw [joinS]; simp
    rw [if_neg hne, splitS_joinS _ (by simp) (fun z hz => (h z hz).1)]
end Go.Ge
