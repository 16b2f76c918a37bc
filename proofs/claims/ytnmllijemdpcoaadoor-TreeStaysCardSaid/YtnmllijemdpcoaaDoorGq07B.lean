/- Clean paths in plain words. -/
import Derived.Test.YtnmllijemdpcoaaDoorGq07A
namespace Go.Ge
set_option linter.unusedVariables false
set_option linter.unusedSimpArgs false

/-- What may be a name in a path. -/
def isNm (s : List UInt8) : Bool := decide (s ≠ [46] ∧ s ≠ [46, 46] ∧ 1 ≤ s.length ∧ s.length ≤ 32 ∧ 0 ∉ s)

theorem indexByte_nul (s : List UInt8) : decide (Lib.indexByte s 0 < 0) = decide (0 ∉ s) := by
  rw [index_nul]
  by_cases h : noNul s
  · rw [decide_eq_true h, decide_eq_true]
    intro hm; exact h 0 hm rfl
  · rw [decide_eq_false h, decide_eq_false]
    intro hm; exact h fun x hx e => hm (e ▸ hx)

theorem isName_val (s : List UInt8) : P_paths_isName (s, ()) = some (isNm s, ()) := by
  unfold P_paths_isName
  have one : ∀ i : Nat, i < 2 → P_paths_isName_L0 (s, ()) ((false, ((i : Int), ())), ()) = if eqS s (if i = 0 then [46] else [46, 46]) = true then some (.inr (1, ((false, ((i : Int), ())), ()))) else some (.inl ((false, (((i + 1 : Nat) : Int), ())), ())) := by
    intro i hi
    unfold P_paths_isName_L0
    dsimp only
    rw [ltI_true (by omega), sel_true, idx_nat]
    rcases (by omega : i = 0 ∨ i = 1) with rfl | rfl
    · rw [show ([[46], [46, 46]] : List (List UInt8))[0]? = some [46] from rfl, obind_some, sel_if]; rfl
    · rw [show ([[46], [46, 46]] : List (List UInt8))[1]? = some [46, 46] from rfl, obind_some, sel_if]; rfl
  by_cases h1 : s = [46]
  · rw [Loop_eq, show ((false, ((0 : Int), ())), ()) = ((false, (((0 : Nat) : Int), ())), ()) from rfl, one 0 (by omega), if_pos (by rw [if_pos rfl]; exact eqS_true h1)]
    subst h1; rfl
  · rw [Loop_eq, show ((false, ((0 : Int), ())), ()) = ((false, (((0 : Nat) : Int), ())), ()) from rfl, one 0 (by omega), if_neg (by rw [if_pos rfl, eqS_false h1]; simp)]
    by_cases h2 : s = [46, 46]
    · simp only [Option.bind]
      rw [Loop_eq, one 1 (by omega), if_pos (by rw [if_neg (by omega)]; exact eqS_true h2)]
      subst h2; rfl
    · simp only [Option.bind]
      rw [Loop_eq, one 1 (by omega), if_neg (by rw [if_neg (by omega), eqS_false h2]; simp)]
      simp only [Option.bind]
      rw [Loop_eq]
      have e : P_paths_isName_L0 (s, ()) ((false, (((1 + 1 : Nat) : Int), ())), ()) = some (.inr (0, ((false, ((2 : Int), ())), ()))) := rfl
      rw [e]
      simp only [Option.bind]
      rw [obind_some]
      dsimp only
      rw [eqN_zero, sel_true]
      have el : leI 1 (len s) = decide (1 ≤ s.length) := by unfold leI len; apply decide_eq_decide.2; omega
      have eh : leI (len s) 32 = decide (s.length ≤ 32) := leI_len 32 s
      rw [el, eh]
      have ei : P_strings_IndexByte (s, (0, ())) = some (Lib.indexByte s 0, ()) := rfl
      rw [ei, obind_some]
      dsimp only
      rw [show ltI (Lib.indexByte s 0) 0 = decide (0 ∉ s) from indexByte_nul s]
      unfold isNm
      by_cases a : 1 ≤ s.length
      · by_cases b : s.length ≤ 32
        · simp [a, b, sel, obind, h1, h2]
        · simp [a, b, sel, obind]
      · simp [a, sel, obind]

/-! ### Clean -/
def keepN (x : List UInt8) : Bool := decide (x ≠ [] ∧ x ≠ [46])
def names (s : List UInt8) : List (List UInt8) := (parts s).filter keepN
def cleanOk (s : List UInt8) : Bool := (names s).all isNm && decide (s.head? ≠ some 47) && decide ((names s).length ≤ 8) && decide ((joinS (names s)).length ≤ 96)
def cleanF (s : List UInt8) : List UInt8 × Int := if cleanOk s then (joinS (names s), 0) else ([], 2)

theorem names_mem (s : List UInt8) : ∀ x ∈ names s, 47 ∉ x ∧ x ≠ [] ∧ x.length ≤ s.length := by
  intro x hx
  obtain ⟨h1, h2⟩ := List.mem_filter.1 hx
  obtain ⟨h3, h4⟩ := parts_mem s x h1
  simp only [keepN, decide_eq_true_eq] at h2
  exact ⟨h3, h2.1, h4⟩
theorem length_names (s : List UInt8) : (names s).length ≤ s.length + 1 := Nat.le_trans (List.length_filter_le _ _) (length_parts s)
theorem parts_names (s : List UInt8) : parts (joinS (names s)) = names s := parts_joinS _ fun x hx => ⟨(names_mem s x hx).1, (names_mem s x hx).2.1⟩

theorem length_joinS_names (s : List UInt8) : (joinS (names s)).length ≤ s.length := by
  have gen : ∀ (l : List (List UInt8)), (joinS (l.filter keepN)).length ≤ (joinS l).length := by
    intro l
    induction l with
    | nil => simp [joinS]
    | cons x r ih =>
      by_cases hk : keepN x = true
      · rw [List.filter_cons_of_pos hk]
        cases hr : r.filter keepN with
        | nil =>
          cases r with
          | nil => exact Nat.le_refl _
          | cons y r => simp only [joinS, List.length_append, List.length_cons]; omega
        | cons y q =>
          rw [hr] at ih
          cases r with
          | nil => simp at hr
          | cons z r => simp only [joinS, List.length_append, List.length_cons] at ih ⊢; omega
      · rw [List.filter_cons_of_neg hk]
        cases r with
        | nil => simp [joinS]
        | cons z r => rw [joinS]; simp only [List.length_append, List.length_cons]; omega
  have := gen (parts s)
  rw [joinS_parts] at this
  exact this

theorem head_prefix (s : List UInt8) : P_strings_HasPrefix (s, ([47], ())) = some (decide (s.head? = some 47), ()) := by
  unfold P_strings_HasPrefix P_internal_stringslite_HasPrefix
  dsimp only
  cases s with
  | nil => rfl
  | cons b r =>
    have e : leI (len [(47 : UInt8)]) (len (b :: r)) = true := leI_true (by simp only [len, List.length_cons, List.length_nil]; omega)
    have e2 : inside 0 (len [(47 : UInt8)]) (len (b :: r)) = true := inside_true (by decide) (by decide) (by simp only [len, List.length_cons, List.length_nil]; omega)
    rw [e, sel_true, e2, sel_true, sub_take', obind_some, obind_some]
    simp [eqS]

theorem clean_val (s : List UInt8) (hs : s.length ≤ 4096) : P_paths_Clean (s, ()) = some ((cleanF s).1, ((cleanF s).2, ())) := by
  unfold P_paths_Clean
  dsimp only
  rw [parts_val s (by omega), obind_some]
  have hm := parts_mem s
  have hn := length_parts s
  have key := loop_run (f := P_paths_Clean_L0 (parts s, ())) (parts s) (fun (o : List (List UInt8)) i => ((([] : List UInt8), ((0 : Int), ((), ((i : Int), ())))), (o, ())))
    (fun i o x => some (if keepN x = false then .inl o else if isNm x = false then .inr (1, ((([] : List UInt8), ((2 : Int), ((), ((i : Int), ())))), (o, ()))) else .inl (o ++ [x]))) (fun i o => (0, ((([] : List UInt8), ((0 : Int), ((), ((i : Int), ())))), (o, ())))) (fun i o => o.length ≤ i)
    (fun o i x hx hi hI => by
      unfold P_paths_Clean_L0
      dsimp only
      rw [ltI_len_true hi, sel_true, idx_some' hx, obind_some]
      have hk : keepN x = (nt (eqS x []) && nt (eqS x [46])) := by simp [keepN, eqS, nt]
      by_cases a : x = []
      · rw [eqS_true a, nt_true, sel_false, sel_true, obind_some]
        dsimp only
        rw [eqN_zero, sel_true, iadd_one (by omega), if_pos (by rw [hk, eqS_true a]; rfl)]; rfl
      · by_cases b : x = [46]
        · rw [eqS_false a, nt_false, sel_true, eqS_true b, sel_true, obind_some]
          dsimp only
          rw [eqN_zero, sel_true, iadd_one (by omega), if_pos (by rw [hk, eqS_true b]; simp [nt])]; rfl
        · rw [eqS_false a, nt_false, sel_true, eqS_false b, sel_false, isName_val, obind_some]
          dsimp only
          have hk1 : keepN x = true := by rw [hk, eqS_false a, eqS_false b]; rfl
          cases h : isNm x with
          | false =>
            rw [nt_false, sel_true, obind_some]
            dsimp only
            rw [eqN_one, sel_false, if_neg (by rw [hk1]; simp), if_pos rfl]; rfl
          | true =>
            rw [nt_true, sel_false, fits_len2 (by simp only [List.length_cons, List.length_nil]; omega), sel_true, obind_some]
            dsimp only
            rw [eqN_zero, sel_true, iadd_one (by omega), if_neg (by rw [hk1]; simp), if_neg (by simp)]; rfl)
    (fun o i x o' hx hI hq => by
      have hq := Option.some.inj hq
      by_cases a : keepN x = false
      · rw [if_pos a] at hq; obtain rfl := Sum.inl.inj hq; omega
      · rw [if_neg a] at hq
        by_cases b : isNm x = false
        · rw [if_pos b] at hq; cases hq
        · rw [if_neg b] at hq; obtain rfl := Sum.inl.inj hq; simp only [List.length_append, List.length_cons, List.length_nil]; omega)
    (fun o _ => by
      unfold P_paths_Clean_L0
      dsimp only
      rw [ltI_len_end, sel_false])
    (fun _ _ _ _ _ h => by cases h) [] (Nat.le_refl _)
  have run : ∀ (r : List (List UInt8)) (i : Nat) (o : List (List UInt8)), ∃ q, runL (fun i (o : List (List UInt8)) x => some (if keepN x = false then Sum.inl o else if isNm x = false then Sum.inr (1, ((([] : List UInt8), ((2 : Int), ((), ((i : Int), ())))), (o, ()))) else Sum.inl (o ++ [x]))) (fun i o => ((0 : Nat), ((([] : List UInt8), ((0 : Int), ((), ((i : Int), ())))), (o, ())))) r i o = some q ∧
      (if (r.filter keepN).all isNm = true then q.1 = 0 ∧ q.2.2.1 = o ++ r.filter keepN else q.1 = 1 ∧ q.2.1.1 = [] ∧ q.2.1.2.1 = 2) := by
    intro r
    induction r with
    | nil => intro i o; exact ⟨_, rfl, by simp⟩
    | cons x r ih =>
      intro i o
      unfold runL
      cases hk : keepN x with
      | false =>
        obtain ⟨q, h1, h2⟩ := ih (i + 1) o
        refine ⟨q, h1, ?_⟩
        rw [List.filter_cons_of_neg (by simp [hk])]
        exact h2
      | true =>
        rw [List.filter_cons_of_pos hk]
        cases hx : isNm x with
        | false => exact ⟨_, rfl, by simp [hx]⟩
        | true =>
          obtain ⟨q, h1, h2⟩ := ih (i + 1) (o ++ [x])
          refine ⟨q, h1, ?_⟩
          simp only [List.all_cons, hx, Bool.true_and]
          rw [List.append_assoc] at h2
          exact h2
  obtain ⟨q, h1, h2⟩ := run (parts s) 0 []
  have key' : Loop (P_paths_Clean_L0 (parts s, ())) ((([] : List UInt8), ((0 : Int), ((), ((0 : Int), ())))), (([] : List (List UInt8)), ())) = some q := key.trans h1
  rw [key', obind_some]
  rw [show (parts s).filter keepN = names s from rfl, List.nil_append] at h2
  have hj := length_joinS_names s
  have hnn := length_names s
  unfold cleanF cleanOk
  cases ha : (names s).all isNm with
  | false =>
    rw [ha, if_neg (by simp)] at h2
    rw [h2.1, eqN_one, sel_false, h2.2.1, h2.2.2]
    rfl
  | true =>
    rw [ha, if_pos rfl] at h2
    rw [h2.1, eqN_zero, sel_true, h2.2]
    have ej : P_strings_Join (names s, ([47], ())) = some (joinS (names s), ()) := by
      show (S_join (names s) [47]).map (fun y => (y, ())) = _
      unfold S_join
      rw [lib_join, if_pos ⟨by omega, by omega⟩]
      rfl
    rw [ej, obind_some, head_prefix, obind_some]
    dsimp only
    have e8 : ltI 8 (len (names s)) = !decide ((names s).length ≤ 8) := by
      by_cases h : (names s).length ≤ 8
      · rw [ltI_false (by simp only [len]; omega)]; simp [h]
      · rw [ltI_true (by simp only [len]; omega)]; simp [h]
    have e96 : ltI 96 (len (joinS (names s))) = !decide ((joinS (names s)).length ≤ 96) := by
      by_cases h : (joinS (names s)).length ≤ 96
      · rw [ltI_false (by simp only [len]; omega)]; simp [h]
      · rw [ltI_true (by simp only [len]; omega)]; simp [h]
    rw [e8, e96]
    by_cases a : s.head? = some 47
    · simp [a, sel, nt]
    · by_cases b : (names s).length ≤ 8
      · by_cases c : (joinS (names s)).length ≤ 96 <;> simp [a, b, c, sel, nt]
      · simp [a, b, sel, nt]

end Go.Ge
