/- Paths in plain words: marks; the three laws of paths answer true. -/
import Derived.Test.YtnmllijemdpcoaaDoorGq07C
namespace Go.Ge
set_option linter.unusedVariables false
set_option linter.unusedSimpArgs false

/-! ### Beginnings -/
theorem prefix0_val (s p : List UInt8) : P_internal_stringslite_HasPrefix (s, (p, ())) = some (decide (s.take p.length = p), ()) := by
  unfold P_internal_stringslite_HasPrefix
  dsimp only
  rw [leI_lens]
  by_cases h : p.length ≤ s.length
  · rw [decide_eq_true h, sel_true, show inside 0 (len p) (len s) = true from inside_true (by decide) (by rw [len_eq]; omega) (by rw [len_eq, len_eq]; omega), sel_true, sub_take', obind_some]
    rfl
  · rw [decide_eq_false h, sel_false, obind_some, decide_eq_false]
    intro e
    have := congrArg List.length e
    rw [List.length_take] at this
    omega
theorem prefix_val (s p : List UInt8) : P_strings_HasPrefix (s, (p, ())) = some (decide (s.take p.length = p), ()) := by
  unfold P_strings_HasPrefix
  dsimp only
  rw [prefix0_val, obind_some]
theorem cutp_val (s p : List UInt8) : P_strings_CutPrefix (s, (p, ())) = some (if s.take p.length = p then (s.drop p.length, (true, ())) else (s, (false, ()))) := by
  unfold P_strings_CutPrefix P_internal_stringslite_CutPrefix
  dsimp only
  rw [prefix0_val, obind_some]
  dsimp only
  by_cases h : s.take p.length = p
  · have hl : p.length ≤ s.length := by
      have := congrArg List.length h
      rw [List.length_take] at this
      omega
    rw [decide_eq_true h, nt_true, sel_false, show inside (len p) (len s) (len s) = true from inside_true (by rw [len_eq]; omega) (by rw [len_eq, len_eq]; omega) (Int.le_refl _), sel_true, obind_some, if_pos h]
    rw [show sub s (len p) (minus (len s) (len p)) = s.drop p.length from sub_drop s p.length hl]
  · rw [decide_eq_false h, nt_false, sel_true, obind_some, if_neg h]

/-! ### In a list -/
theorem scontains_val (l : List (List UInt8)) (s : List UInt8) (hl : l.length ≤ 1048576) : P_slices_Contains_string_string (l, (s, ())) = some (decide (s ∈ l), ()) := by
  unfold P_slices_Contains_string_string P_slices_Index_string_string
  dsimp only
  have key := loop_run (f := P_slices_Index_string_string_L0 (l, (s, ()))) l (fun (_ : Unit) i => ((0, ((i : Int), ())), ()))
    (fun i _ x => some (if s = x then .inr (1, (((i : Int), ((i : Int), ())), ())) else .inl ())) (fun i _ => (0, ((0, ((i : Int), ())), ()))) (fun _ _ => True)
    (fun u i x hx hi _ => by
      unfold P_slices_Index_string_string_L0
      dsimp only
      rw [ltI_len_true hi, sel_true, idx_some' hx, obind_some]
      by_cases e : s = x
      · rw [eqS_true e, sel_true, if_pos e]; rfl
      · rw [eqS_false e, sel_false, if_neg e, iadd_one (by omega)]; rfl)
    (fun _ _ _ _ _ _ _ => trivial)
    (fun u _ => by
      unfold P_slices_Index_string_string_L0
      dsimp only
      rw [ltI_len_end, sel_false])
    (fun _ _ _ _ _ h => by cases h) () trivial
  have run : ∀ (r : List (List UInt8)) (i : Nat), ∃ q, runL (fun i (_ : Unit) x => some (if s = x then Sum.inr (1, (((i : Int), ((i : Int), ())), ())) else Sum.inl ())) (fun i _ => ((0 : Nat), (((0 : Int), ((i : Int), ())), ()))) r i () = some q ∧
      (if s ∈ r then q.1 = 1 ∧ 0 ≤ q.2.1.1 else q.1 = 0) := by
    intro r
    induction r with
    | nil => intro i; exact ⟨_, rfl, by simp⟩
    | cons x r ih =>
      intro i
      unfold runL
      by_cases h : s = x
      · simp only [if_pos h]
        refine ⟨_, rfl, ?_⟩
        rw [if_pos (by rw [h]; exact List.mem_cons_self ..)]
        exact ⟨rfl, by simp⟩
      · simp only [if_neg h]
        obtain ⟨q, h1, h2⟩ := ih (i + 1)
        refine ⟨q, h1, ?_⟩
        by_cases hm : s ∈ r
        · rw [if_pos (List.mem_cons_of_mem _ hm)]; rw [if_pos hm] at h2; exact h2
        · rw [if_neg (by simp [h, hm])]; rw [if_neg hm] at h2; exact h2
  obtain ⟨q, h1, h2⟩ := run l 0
  have key' : Loop (P_slices_Index_string_string_L0 (l, (s, ()))) ((0, ((0 : Int), ())), ()) = some q := key.trans h1
  rw [key', obind_some]
  by_cases h : s ∈ l
  · rw [if_pos h] at h2
    rw [h2.1, eqN_one, sel_false, obind_some, decide_eq_true h]
    dsimp only
    rw [leI_true h2.2]
  · rw [if_neg h] at h2
    rw [h2, eqN_zero, sel_true, obind_some, decide_eq_false h]
    rfl

/-! ### Marks -/
def wh : List UInt8 := [46, 119, 104, 46]
def markF (n : List UInt8) : Int × List UInt8 :=
  if n.take 4 = wh then (if n.drop 4 = [46, 119, 104, 46, 46, 111, 112, 113] then (2, []) else if (n.drop 4).take 4 = wh ∨ n.drop 4 = [] ∨ n.drop 4 = [46] ∨ n.drop 4 = [46, 46] then (3, []) else (1, n.drop 4)) else (0, n)

theorem mark_val (n : List UInt8) : P_paths_Mark (n, ()) = some ((markF n).1, ((markF n).2, ())) := by
  unfold P_paths_Mark markF
  dsimp only
  rw [show ([46, 119, 104, 46] : List UInt8) = wh from rfl, cutp_val, obind_some, show wh.length = 4 from rfl]
  by_cases h : n.take 4 = wh
  · have e : n = wh ++ n.drop 4 := by rw [← h, List.take_append_drop]
    rw [if_pos h, if_pos h]
    dsimp only
    rw [nt_true, sel_false]
    generalize n.drop 4 = r at e
    by_cases h1 : r = [46, 119, 104, 46, 46, 111, 112, 113]
    · rw [if_pos h1, eqS_true (by rw [e, h1]; rfl), sel_true]
    · rw [if_neg h1, eqS_false (by rw [e]; intro q; exact h1 (by simpa [wh] using q)), sel_false, prefix_val, obind_some]
      dsimp only
      rw [show wh.length = 4 from rfl]
      by_cases h2 : r.take 4 = wh
      · rw [if_pos (.inl h2), decide_eq_true h2, nt_true, sel_false, obind_some, sel_true]
      · rw [decide_eq_false h2, nt_false, sel_true, scontains_val _ _ (by decide), obind_some, obind_some, sel_decide]
        have : r ∈ ([[], [46], [46, 46]] : List (List UInt8)) ↔ (r = [] ∨ r = [46] ∨ r = [46, 46]) := by simp
        by_cases h3 : r = [] ∨ r = [46] ∨ r = [46, 46]
        · rw [if_pos (this.2 h3), if_pos (.inr h3)]
        · rw [if_neg (fun q => h3 (this.1 q)), if_neg (fun q => q.elim h2 h3)]
  · rw [if_neg h, if_neg h]
    rfl

/-! ### awake -/
theorem sel_and {a b : Bool} : sel a b false = (a && b) := by cases a <;> rfl

/-! ### What is clean stays as it is -/
theorem cleanF_ok {s : List UInt8} (h : (cleanF s).2 = 0) : cleanOk s = true ∧ (cleanF s).1 = joinS (names s) := by
  unfold cleanF at h ⊢
  cases hc : cleanOk s with
  | true => simp
  | false => rw [hc] at h; simp at h

/-- What holds of the names of a clean path. -/
theorem clean_names {s : List UInt8} (h : cleanOk s = true) : (names s).all isNm = true ∧ (names s).length ≤ 8 ∧ (joinS (names s)).length ≤ 96 := by
  unfold cleanOk at h
  simp only [Bool.and_eq_true, decide_eq_true_eq] at h
  exact ⟨h.1.1.1, h.1.2, h.2⟩

theorem head_joinS {l : List (List UInt8)} (h : ∀ x ∈ l, 47 ∉ x ∧ x ≠ []) : (joinS l).head? ≠ some 47 := by
  cases l with
  | nil => simp [joinS]
  | cons x r =>
    obtain ⟨h1, h2⟩ := h x (List.mem_cons_self ..)
    have e : (joinS (x :: r)).head? = x.head? := by
      cases x with
      | nil => exact absurd rfl h2
      | cons b x => cases r <;> simp [joinS]
    rw [e]
    cases x with
    | nil => exact absurd rfl h2
    | cons b x =>
      intro q
      have : b = 47 := Option.some.inj q
      exact h1 (by rw [this]; exact List.mem_cons_self ..)

end Go.Ge
