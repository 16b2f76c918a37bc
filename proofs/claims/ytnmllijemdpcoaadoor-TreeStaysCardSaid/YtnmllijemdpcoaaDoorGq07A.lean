/- Paths in plain words: their names, and what these are put together to. -/
import Derived.Test.YtnmllijemdpcoaaDoorGqB
import Derived.Test.YtnmllijemdpcoaaDoorGp07
import Derived.Test.YtnmllijemdpcoaaDoorGq12C
namespace Go.Ge
set_option linter.unusedVariables false
set_option linter.unusedSimpArgs false

/-- A text at its strokes. -/
def splitS : List UInt8 → List (List UInt8)
  | [] => [[]]
  | b :: r => if b = 47 then [] :: splitS r else match splitS r with
    | h :: t => (b :: h) :: t
    | [] => [[b]]

theorem splitS_ne (s : List UInt8) : splitS s ≠ [] := by
  cases s with
  | nil => simp [splitS]
  | cons b r =>
    unfold splitS
    split
    · simp
    · split <;> simp

theorem splitS_cons {b : UInt8} (h : b ≠ 47) {r x : List UInt8} {t : List (List UInt8)} (e : splitS r = x :: t) : splitS (b :: r) = (b :: x) :: t := by
  rw [splitS, if_neg h, e]

/-- The names of a path. -/
def parts (p : List UInt8) : List (List UInt8) := if p = [] then [] else splitS p

theorem splitK_cons {b : UInt8} (h : b ≠ 47) : ∀ (k : Nat) (r x : List UInt8) (t : List (List UInt8)), Lib.splitK [47] 0 k r = x :: t → Lib.splitK [47] 0 k (b :: r) = (b :: x) :: t := by
  intro k r x t e
  cases k with
  | zero => simp [Lib.splitK] at e ⊢; exact ⟨by rw [e.1], e.2⟩
  | succ k =>
    have hix : Lib.index (b :: r) [47] = if Lib.index r [47] == -1 then -1 else Lib.index r [47] + 1 := by
      rw [Lib.index]
      have : ([47] : List UInt8).isPrefixOf (b :: r) = false := by simp [List.isPrefixOf, Ne.symm h]
      rw [this]; simp
    have hge := Lib.index_ge r [47]
    unfold Lib.splitK at e ⊢
    rw [hix]
    by_cases hm : (Lib.index r [47] == -1) = true
    · rw [if_pos hm] at e ⊢
      simp at e ⊢
      exact ⟨e.1, e.2⟩
    · rw [if_neg hm] at e ⊢
      have hm' : Lib.index r [47] ≠ -1 := fun q => hm (by rw [q]; rfl)
      have hn : ¬ ((Lib.index r [47] + 1 == -1) = true) := fun q => by have := beq_iff_eq.1 q; omega
      rw [if_neg hn]
      obtain ⟨j, hj⟩ : ∃ j : Nat, Lib.index r [47] = j := ⟨(Lib.index r [47]).toNat, by omega⟩
      have e1 : (Lib.index r [47] + 1).toNat = j + 1 := by omega
      have e2 : (Lib.index r [47]).toNat = j := by omega
      rw [e1]
      rw [e2] at e
      have := List.cons.inj e
      rw [show j + 1 + ([47] : List UInt8).length = (j + ([47] : List UInt8).length) + 1 by omega, List.drop_succ_cons, this.2]
      have e3 := this.1
      simp at e3 ⊢
      exact e3

theorem splitK_slash (k : Nat) (r : List UInt8) : Lib.splitK [47] 0 (k + 1) (47 :: r) = [] :: Lib.splitK [47] 0 k r := by
  have hix : Lib.index (47 :: r) [47] = 0 := by rw [Lib.index]; simp [List.isPrefixOf]
  rw [Lib.splitK, hix]
  simp

theorem splitK_eq : ∀ (s : List UInt8) (k : Nat), s.count 47 ≤ k → Lib.splitK [47] 0 k s = splitS s := by
  intro s
  induction s with
  | nil =>
    intro k _
    cases k with
    | zero => rfl
    | succ k => simp [Lib.splitK, splitS, Lib.index]
  | cons b r ih =>
    intro k hk
    by_cases h : b = 47
    · subst h
      obtain ⟨k', rfl⟩ : ∃ k', k = k' + 1 := ⟨k - 1, by rw [List.count_cons_self] at hk; omega⟩
      rw [splitK_slash, ih k' (by rw [List.count_cons_self] at hk; omega), splitS, if_pos rfl]
    · have := ih k (by rwa [List.count_cons_of_ne h] at hk)
      cases hs : splitS r with
      | nil => exact absurd hs (splitS_ne r)
      | cons x t =>
        rw [hs] at this
        rw [splitK_cons h k r x t this, splitS_cons h hs]

theorem split_eq (s : List UInt8) : Lib.split s [47] = splitS s := by
  unfold Lib.split
  exact splitK_eq s _ (by rw [Lib.count_one]; exact Nat.le_refl _)

theorem u8_47 (c : UInt8) : eqI (u8 c) 47 = decide (c = 47) := u8_eq (n := 47)
theorem parts_val (p : List UInt8) (hp : p.length ≤ 1048576) : P_paths_Parts (p, ()) = some (parts p, ()) := by
  unfold P_paths_Parts parts
  dsimp only
  by_cases h : p = []
  · rw [eqS_true h, sel_true, if_pos h]
  · rw [eqS_false h, sel_false, if_neg h]
    have : P_strings_Split (p, ([47], ())) = some (splitS p, ()) := by
      show (S_split p [47]).map (fun y => (y, ())) = _
      unfold S_split
      simp only
      rw [if_pos (by omega), split_eq]
      rfl
    rw [this, obind_some]

theorem refParts_val (p : List UInt8) (hp : p.length ≤ 1048576) : P_ref07_Parts (p, ()) = some (parts p, ()) := by
  unfold P_ref07_Parts parts
  dsimp only
  by_cases h : p = []
  · rw [eqS_true h, sel_true, if_pos h]
  · rw [eqS_false h, sel_false, if_neg h]
    have key := loop_run (f := P_ref07_Parts_L0 (p, ())) p (fun (s : List UInt8 × List (List UInt8)) i => (((), (s.1, ((i : Int), ()))), (s.2, ())))
      (fun i s x => some (.inl (if x = 47 then ([], s.2 ++ [s.1]) else (s.1 ++ [x], s.2)))) (fun i s => (((), (s.1, ((i : Int), ()))), (s.2, ()))) (fun i s => s.1.length ≤ i ∧ s.2.length ≤ i)
      (fun s i x hx hi hI => by
        unfold P_ref07_Parts_L0
        dsimp only
        rw [ltI_len_true hi, sel_true, idx_some' hx, obind_some, u8_47]
        by_cases hq : x = 47
        · rw [decide_eq_true hq, sel_true, fits_len2 (by simp only [List.length_cons, List.length_nil]; omega), sel_true, obind_some, iadd_one (by omega)]
          simp only [if_pos hq]
          rfl
        · rw [decide_eq_false hq, sel_false, iadd_one (by omega), inside_len (by omega) (by omega), sel_true, sub_one hx, fits_len2 (by simp only [List.length_cons, List.length_nil]; omega), sel_true, obind_some]
          simp only [if_neg hq]
          rfl)
      (fun s i x s' hx hI hs => by
        obtain rfl := Sum.inl.inj (Option.some.inj hs)
        by_cases hq : x = 47
        · simp only [if_pos hq, List.length_append, List.length_cons, List.length_nil]; omega
        · simp only [if_neg hq, List.length_append, List.length_cons, List.length_nil]; omega)
      (fun s hI => by
        unfold P_ref07_Parts_L0
        dsimp only
        rw [ltI_len_end, sel_false]
        rfl)
      (fun s i x _ _ h => by cases h) ([], []) ⟨Nat.le_refl _, Nat.le_refl _⟩
    have run : ∀ (r : List UInt8) (i : Nat) (a : List UInt8) (o : List (List UInt8)), ∃ a' o' j, runL (fun i (s : List UInt8 × List (List UInt8)) x => some (.inl (if x = 47 then ([], s.2 ++ [s.1]) else (s.1 ++ [x], s.2)))) (fun i (s : List UInt8 × List (List UInt8)) => (((), (s.1, ((i : Int), ()))), (s.2, ()))) r i (a, o) = some (((), (a', (j, ()))), (o', ())) ∧
        o' ++ [a'] = o ++ (match splitS r with | h :: t => (a ++ h) :: t | [] => [a]) ∧ o'.length ≤ o.length + r.length := by
      intro r
      induction r with
      | nil => intro i a o; exact ⟨a, o, _, rfl, by simp [splitS], by simp⟩
      | cons x r ih =>
        intro i a o
        by_cases hq : x = 47
        · obtain ⟨a', o', j, h1, h2, h3⟩ := ih (i + 1) [] (o ++ [a])
          refine ⟨a', o', j, ?_, ?_, ?_⟩
          · unfold runL
            simp only [if_pos hq]
            exact h1
          · rw [h2, splitS, if_pos hq]
            cases hs : splitS r with
            | nil => exact absurd hs (splitS_ne r)
            | cons h t => simp
          · simp only [List.length_append, List.length_cons, List.length_nil] at h3 ⊢; omega
        · obtain ⟨a', o', j, h1, h2, h3⟩ := ih (i + 1) (a ++ [x]) o
          refine ⟨a', o', j, ?_, ?_, ?_⟩
          · unfold runL
            simp only [if_neg hq]
            exact h1
          · rw [h2]
            cases hs : splitS r with
            | nil => exact absurd hs (splitS_ne r)
            | cons h t => rw [splitS_cons hq hs]; simp
          · simp only [List.length_cons] at h3 ⊢; omega
    obtain ⟨a', o', j, h1, h2, h3⟩ := run p 0 [] []
    have key' : Loop (P_ref07_Parts_L0 (p, ())) (((), (([] : List UInt8), ((0 : Int), ()))), (([] : List (List UInt8)), ())) = some (((), (a', (j, ()))), (o', ())) := key.trans h1
    rw [key', obind_some]
    dsimp only
    simp only [List.length_nil] at h3
    rw [fits_len2 (by simp only [List.length_cons, List.length_nil]; omega), sel_true, app_eq, h2]
    cases hs : splitS p with
    | nil => exact absurd hs (splitS_ne p)
    | cons h t => simp

/-! ### Put together -/
def joinS : List (List UInt8) → List UInt8
  | [] => []
  | [x] => x
  | x :: y :: r => x ++ 47 :: joinS (y :: r)

theorem lib_join (l : List (List UInt8)) : Lib.join l [47] = joinS l := by
  induction l with
  | nil => rfl
  | cons x r ih =>
    cases r with
    | nil => simp [Lib.join_one, joinS]
    | cons y r =>
      rw [joinS, ← ih, Lib.join_cons, Lib.join_cons]
      simp [Lib.joinTail]

theorem joinS_splitS (s : List UInt8) : joinS (splitS s) = s := by
  induction s with
  | nil => rfl
  | cons b r ih =>
    by_cases h : b = 47
    · subst h
      rw [splitS, if_pos rfl]
      cases hs : splitS r with
      | nil => exact absurd hs (splitS_ne r)
      | cons x t => rw [joinS, ← hs, ih]; rfl
    · cases hs : splitS r with
      | nil => exact absurd hs (splitS_ne r)
      | cons x t =>
        rw [splitS_cons h hs]
        rw [hs] at ih
        cases t with
        | nil => rw [joinS] at ih ⊢; rw [ih]
        | cons y t => rw [joinS] at ih ⊢; rw [List.cons_append, ih]

theorem joinS_parts (p : List UInt8) : joinS (parts p) = p := by
  unfold parts
  by_cases h : p = []
  · rw [if_pos h, h]; rfl
  · rw [if_neg h, joinS_splitS]

theorem splitS_app (x : List UInt8) (hx : 47 ∉ x) (r : List UInt8) : splitS (x ++ 47 :: r) = x :: splitS r := by
  induction x with
  | nil => rw [List.nil_append, splitS, if_pos rfl]
  | cons b x ih =>
    simp only [List.mem_cons, not_or] at hx
    exact splitS_cons (fun e => hx.1 e.symm) (ih hx.2)
theorem splitS_plain (x : List UInt8) (hx : 47 ∉ x) : splitS x = [x] := by
  induction x with
  | nil => rfl
  | cons b x ih =>
    simp only [List.mem_cons, not_or] at hx
    exact splitS_cons (fun e => hx.1 e.symm) (ih hx.2)

theorem splitS_joinS (l : List (List UInt8)) (hne : l ≠ []) (h : ∀ x ∈ l, 47 ∉ x) : splitS (joinS l) = l := by
  induction l with
  | nil => exact absurd rfl hne
  | cons x r ih =>
    cases r with
    | nil => rw [joinS]; exact splitS_plain x (h x (List.mem_cons_self ..))
    | cons y r =>
      rw [joinS, splitS_app x (h x (List.mem_cons_self ..)), ih (by simp) (fun z hz => h z (List.mem_cons_of_mem _ hz))]

theorem splitS_mem (s : List UInt8) : ∀ x ∈ splitS s, 47 ∉ x ∧ x.length ≤ s.length := by
  induction s with
  | nil => intro x hx; simp [splitS] at hx; subst hx; simp
  | cons b r ih =>
    intro x hx
    by_cases h : b = 47
    · rw [splitS, if_pos h] at hx
      rcases List.mem_cons.1 hx with rfl | hx
      · simp
      · obtain ⟨h1, h2⟩ := ih x hx
        exact ⟨h1, by simp only [List.length_cons]; omega⟩
    · cases hs : splitS r with
      | nil => exact absurd hs (splitS_ne r)
      | cons y t =>
        rw [splitS_cons h hs] at hx
        rw [hs] at ih
        rcases List.mem_cons.1 hx with rfl | hx
        · obtain ⟨h1, h2⟩ := ih y (List.mem_cons_self ..)
          exact ⟨by simp only [List.mem_cons, not_or]; exact ⟨fun e => h e.symm, h1⟩, by simp only [List.length_cons]; omega⟩
        · obtain ⟨h1, h2⟩ := ih x (List.mem_cons_of_mem _ hx)
          exact ⟨h1, by simp only [List.length_cons]; omega⟩

theorem length_splitS (s : List UInt8) : (splitS s).length ≤ s.length + 1 := by
  induction s with
  | nil => simp [splitS]
  | cons b r ih =>
    by_cases h : b = 47
    · rw [splitS, if_pos h]; simp only [List.length_cons]; omega
    · cases hs : splitS r with
      | nil => exact absurd hs (splitS_ne r)
      | cons y t => rw [splitS_cons h hs]; rw [hs] at ih; simp only [List.length_cons] at ih ⊢; omega

theorem parts_mem (p : List UInt8) : ∀ x ∈ parts p, 47 ∉ x ∧ x.length ≤ p.length := by
  unfold parts
  by_cases h : p = []
  · rw [if_pos h]; intro x hx; cases hx
  · rw [if_neg h]; exact splitS_mem p
theorem length_parts (p : List UInt8) : (parts p).length ≤ p.length + 1 := by
  unfold parts
  by_cases h : p = []
  · rw [if_pos h]; simp
  · rw [if_neg h]; exact length_splitS p
/-- Names that may stand in a path. -/
theorem parts_joinS (l : List (List UInt8)) (h : ∀ x ∈ l, 47 ∉ x ∧ x ≠ []) : parts (joinS l) = l := by
  unfold parts
  cases l with
  | nil => rfl
  | cons x r =>
    have hne : joinS (x :: r) ≠ [] := by
      have := (h x (List.mem_cons_self ..)).2
      cases r with
      | nil => rw [joinS]; exact this
      | cons y r => rw [joinS]; simp
    rw [if_neg hne, splitS_joinS _ (by simp) (fun z hz => (h z hz).1)]
end Go.Ge
