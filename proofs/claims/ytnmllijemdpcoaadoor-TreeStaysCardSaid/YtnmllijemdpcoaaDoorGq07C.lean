/- Paths in plain words: split, joined, under one another, compared, marks. -/
import Derived.Test.YtnmllijemdpcoaaDoorGq07B
import Derived.Test.YtnmllijemdpcoaaDoorGqC
namespace Go.Ge
set_option linter.unusedVariables false
set_option linter.unusedSimpArgs false

/-! ### Where the last stroke stands -/
def lastN (p : List UInt8) : Nat → Option Nat
  | 0 => none
  | n + 1 => if p[n]? = some 47 then some n else lastN p n

theorem lastByte_val (p : List UInt8) (hp : p.length ≤ 1048576) : P_internal_bytealg_LastIndexByteString (p, (47, ())) = some (match lastN p p.length with | some k => (k : Int) | none => -1, ()) := by
  unfold P_internal_bytealg_LastIndexByteString
  dsimp only
  have run : ∀ n, n ≤ p.length → ∃ q, Loop (P_internal_bytealg_LastIndexByteString_L0 (p, (47, ()))) ((0, (((n : Int) - 1), ())), ()) = some q ∧ (match lastN p n with | some k => q.1 = 1 ∧ q.2.1.1 = (k : Int) | none => q.1 = 0) := by
    intro n
    induction n with
    | zero =>
      intro _
      refine ⟨(0, ((0, (-1, ())), ())), ?_, rfl⟩
      rw [Loop_eq]; rfl
    | succ n ih =>
      intro hn
      obtain ⟨y, hy⟩ : ∃ y, p[n]? = some y := ⟨_, List.getElem?_eq_getElem (by omega)⟩
      have e : ((n + 1 : Nat) : Int) - 1 = (n : Int) := by omega
      rw [e, Loop_eq]
      have st : P_internal_bytealg_LastIndexByteString_L0 (p, (47, ())) ((0, ((n : Int), ())), ()) = if y = 47 then some (.inr (1, (((n : Int), ((n : Int), ())), ()))) else some (.inl ((0, ((n : Int) - 1, ())), ())) := by
        unfold P_internal_bytealg_LastIndexByteString_L0
        dsimp only
        rw [leI_true (by omega), sel_true, idx_some' hy, obind_some, u8_47, isub_i64 (by omega) (by omega), sel_decide]
      rw [st, lastN, hy]
      by_cases h : y = 47
      · rw [if_pos h, if_pos (by rw [h])]
        exact ⟨_, rfl, rfl, rfl⟩
      · rw [if_neg h, if_neg (fun q => h (Option.some.inj q))]
        exact ih (by omega)
  obtain ⟨q, h1, h2⟩ := run p.length (Nat.le_refl _)
  have e : isub .i64 (len p) 1 = (p.length : Int) - 1 := by rw [len_eq, isub_i64 (by omega) (by omega)]
  rw [e, h1, obind_some]
  cases hl : lastN p p.length with
  | none => rw [hl] at h2; rw [h2, eqN_zero, sel_true]
  | some k => rw [hl] at h2; rw [h2.1, h2.2, eqN_one, sel_false]

theorem lastN_some : ∀ {p : List UInt8} {n k : Nat}, lastN p n = some k → k < n ∧ p[k]? = some 47 ∧ ∀ j, k < j → j < n → p[j]? ≠ some 47 := by
  intro p n
  induction n with
  | zero => intro k h; cases h
  | succ n ih =>
    intro k h
    rw [lastN] at h
    split at h
    · rename_i hp
      obtain rfl := Option.some.inj h
      exact ⟨Nat.lt_succ_self _, hp, fun j h1 h2 => by omega⟩
    · rename_i hp
      obtain ⟨h1, h2, h3⟩ := ih h
      refine ⟨by omega, h2, fun j h4 h5 => ?_⟩
      by_cases e : j = n
      · rw [e]; exact hp
      · exact h3 j h4 (by omega)
theorem lastN_none : ∀ {p : List UInt8} {n : Nat}, lastN p n = none → ∀ j, j < n → p[j]? ≠ some 47 := by
  intro p n
  induction n with
  | zero => intro _ j h; omega
  | succ n ih =>
    intro h j hj
    rw [lastN] at h
    split at h
    · cases h
    · rename_i hp
      by_cases e : j = n
      · rw [e]; exact hp
      · exact ih h j (by omega)

/-- A path's directory and last name. -/
def splitF (p : List UInt8) : List UInt8 × List UInt8 := match lastN p p.length with | some k => (p.take k, p.drop (k + 1)) | none => ([], p)

theorem split_cases (p : List UInt8) : (47 ∉ p ∧ splitF p = ([], p)) ∨ ∃ a b, p = a ++ 47 :: b ∧ 47 ∉ b ∧ splitF p = (a, b) := by
  unfold splitF
  cases h : lastN p p.length with
  | none =>
    refine .inl ⟨fun hm => ?_, rfl⟩
    obtain ⟨j, hj, e⟩ := List.getElem_of_mem hm
    exact lastN_none h j hj (by rw [List.getElem?_eq_getElem hj, e])
  | some k =>
    obtain ⟨h1, h2, h3⟩ := lastN_some h
    refine .inr ⟨p.take k, p.drop (k + 1), ?_, fun hm => ?_, rfl⟩
    · obtain ⟨hk, e⟩ := List.getElem?_eq_some_iff.1 h2
      rw [← e, ← List.drop_eq_getElem_cons hk, List.take_append_drop]
    · obtain ⟨j, hj, e⟩ := List.getElem_of_mem hm
      rw [List.length_drop] at hj
      rw [List.getElem_drop] at e
      exact h3 (k + 1 + j) (by omega) (by omega) (by rw [List.getElem?_eq_getElem (by omega), e])

theorem psplit_val (p : List UInt8) (hp : p.length ≤ 1048576) : P_paths_Split (p, ()) = some ((splitF p).1, ((splitF p).2, ())) := by
  unfold P_paths_Split P_strings_LastIndex
  dsimp only
  rw [show eqI (len [(47 : UInt8)]) 0 = false from rfl, sel_false, show eqI (len [(47 : UInt8)]) 1 = true from rfl, sel_true, show idx [(47 : UInt8)] 0 = some 47 from rfl, obind_some]
  rw [show u8 47 = 47 from rfl, lastByte_val p hp, obind_some, obind_some]
  unfold splitF
  cases h : lastN p p.length with
  | none => rw [ltI_true (by decide), sel_true]
  | some k =>
    obtain ⟨h1, _, _⟩ := lastN_some h
    dsimp only
    rw [ltI_false (by omega), sel_false, show inside 0 (k : Int) (len p) = true from inside_true (by omega) (by omega) (by rw [len_eq]; omega), sel_true, iadd_one (by omega), inside_true (by omega) (by rw [len_eq]; omega) (Int.le_refl _), sel_true, sub_take, sub_drop p (k + 1) (by omega)]

theorem splitS_snoc (a b : List UInt8) (hb : 47 ∉ b) : splitS (a ++ 47 :: b) = splitS a ++ [b] := by
  induction a with
  | nil =>
    have e : splitS (47 :: b) = [] :: splitS b := by rw [splitS, if_pos rfl]
    rw [List.nil_append, e, splitS_plain b hb]; rfl
  | cons c a ih =>
    rw [List.cons_append]
    by_cases h : c = 47
    · rw [splitS, if_pos h, ih]
      conv => rhs; rw [splitS, if_pos h]
      rfl
    · cases hs : splitS a with
      | nil => exact absurd hs (splitS_ne a)
      | cons x t =>
        rw [hs] at ih
        rw [splitS_cons h hs, splitS_cons h (by rw [ih]; rfl)]
        rfl

/-! ### Put together -/
/-! ### Under one another -/
def underL (x y : List (List UInt8)) : Bool := decide (y.length < x.length ∧ x.take y.length = y)

/-- Whether all pairs of two lists are the same, by a loop's shape. -/
theorem pairs_run {α : Type} [DecidableEq α] (Q : Nat → Nat → Nat × (Bool × Int × Unit) × Unit) (hQ : ∀ i j, (Q i j).1 = j ∧ (Q i j).2.1.1 = false) : ∀ (r : List (α × α)) (i : Nat), ∃ q, runL (fun i (_ : Unit) p => some (if p.1 = p.2 then Sum.inl () else Sum.inr (Q i 1))) (fun i _ => Q i 0) r i () = some q ∧
      q.1 = (if r.all (fun p => decide (p.1 = p.2)) = true then 0 else 1) ∧ q.2.1.1 = false := by
  intro r
  induction r with
  | nil => intro i; exact ⟨_, rfl, (hQ _ _).1, (hQ _ _).2⟩
  | cons p r ih =>
    intro i
    unfold runL
    by_cases h : p.1 = p.2
    · simp only [if_pos h]
      obtain ⟨q, h1, h2, h3⟩ := ih (i + 1)
      exact ⟨q, h1, by rw [h2, List.all_cons, decide_eq_true h, Bool.true_and], h3⟩
    · simp only [if_neg h]
      exact ⟨_, rfl, by rw [(hQ _ _).1, List.all_cons, decide_eq_false h, Bool.false_and, if_neg (by simp)], (hQ _ _).2⟩

theorem equal_val (x y : List (List UInt8)) (hx : x.length ≤ 1048576) (hy : y.length ≤ 1048576) : P_slices_Equal_string_string (x, (y, ())) = some (decide (x = y), ()) := by
  unfold P_slices_Equal_string_string
  dsimp only
  rw [eqI_lens]
  by_cases hl : x.length = y.length
  · rw [decide_eq_true hl, nt_true, sel_false]
    have key := loop_run (f := P_slices_Equal_string_string_L0 (x, (y, ()))) (x.zip y) (fun (_ : Unit) i => ((false, ((i : Int), ())), ()))
      (fun i _ p => some (if p.1 = p.2 then .inl () else .inr (1, ((false, ((i : Int), ())), ())))) (fun i _ => (0, ((false, ((i : Int), ())), ()))) (fun _ _ => True)
      (fun u i p hp hi _ => by
        obtain ⟨h1, h2⟩ := zip_at hp
        have hlx := getElem?_lt h1
        unfold P_slices_Equal_string_string_L0
        dsimp only
        rw [ltI_len_true (getElem?_lt h1), sel_true, idx_some' h1, obind_some, idx_some' h2, obind_some]
        by_cases e : p.1 = p.2
        · rw [eqS_true e, nt_true, sel_false, iadd_one (by omega), if_pos e]; rfl
        · rw [eqS_false e, nt_false, sel_true, if_neg e]; rfl)
      (fun _ _ _ _ _ _ _ => trivial)
      (fun u _ => by
        have e : (x.zip y).length = x.length := by rw [List.length_zip, hl, Nat.min_self]
        unfold P_slices_Equal_string_string_L0
        dsimp only
        rw [e, ltI_len_end, sel_false])
      (fun _ _ _ _ _ h => by cases h) () trivial
    obtain ⟨q, h1, h2, h3⟩ := pairs_run (fun i j => (j, ((false, ((i : Int), ())), ()))) (fun _ _ => ⟨rfl, rfl⟩) (x.zip y) 0
    have key' : Loop (P_slices_Equal_string_string_L0 (x, (y, ()))) ((false, ((0 : Int), ())), ()) = some q := key.trans h1
    rw [key', obind_some, h2, h3, zip_same_len hl]
    by_cases e : x = y
    · rw [decide_eq_true e, if_pos rfl, eqN_zero, sel_true]
    · rw [decide_eq_false e, if_neg (by simp), eqN_one, sel_false]
  · rw [decide_eq_false hl, nt_false, sel_true, decide_eq_false (fun e => hl (by rw [e]))]

theorem sameTexts_val (x y : List (List UInt8)) (hx : x.length ≤ 1048576) (hy : y.length ≤ 1048576) : P_ref06_SameTexts (x, (y, ())) = some (decide (x = y), ()) := by
  unfold P_ref06_SameTexts
  dsimp only
  rw [eqI_lens]
  by_cases hl : x.length = y.length
  · rw [decide_eq_true hl, nt_true, sel_false]
    have key := loop_run (f := P_ref06_SameTexts_L0 (x, (y, ()))) (x.zip y) (fun (_ : Unit) i => ((false, ((i : Int), ())), ()))
      (fun i _ p => some (if p.1 = p.2 then .inl () else .inr (1, ((false, ((i : Int), ())), ())))) (fun i _ => (0, ((false, ((i : Int), ())), ()))) (fun _ _ => True)
      (fun u i p hp hi _ => by
        obtain ⟨h1, h2⟩ := zip_at hp
        have hlx := getElem?_lt h1
        unfold P_ref06_SameTexts_L0
        dsimp only
        rw [ltI_len_true (getElem?_lt h1), ltI_len_true (getElem?_lt h2), sel_true, sel_true, idx_some' h1, obind_some, idx_some' h2, obind_some]
        by_cases e : p.1 = p.2
        · rw [eqS_true e, nt_true, sel_false, iadd_one (by omega), if_pos e]; rfl
        · rw [eqS_false e, nt_false, sel_true, if_neg e]; rfl)
      (fun _ _ _ _ _ _ _ => trivial)
      (fun u _ => by
        have e : (x.zip y).length = x.length := by rw [List.length_zip, hl, Nat.min_self]
        unfold P_ref06_SameTexts_L0
        dsimp only
        rw [e, ltI_len_end, sel_false, sel_false])
      (fun _ _ _ _ _ h => by cases h) () trivial
    obtain ⟨q, h1, h2, h3⟩ := pairs_run (fun i j => (j, ((false, ((i : Int), ())), ()))) (fun _ _ => ⟨rfl, rfl⟩) (x.zip y) 0
    have key' : Loop (P_ref06_SameTexts_L0 (x, (y, ()))) ((false, ((0 : Int), ())), ()) = some q := key.trans h1
    rw [key', obind_some, h2, h3, zip_same_len hl]
    by_cases e : x = y
    · rw [decide_eq_true e, if_pos rfl, eqN_zero, sel_true]
    · rw [decide_eq_false e, if_neg (by simp), eqN_one, sel_false]
  · rw [decide_eq_false hl, nt_false, sel_true, decide_eq_false (fun e => hl (by rw [e]))]

theorem under_val (p d : List UInt8) (hp : p.length ≤ 4096) (hd : d.length ≤ 4096) : P_paths_Under (p, (d, ())) = some (underL (parts p) (parts d), ()) := by
  unfold P_paths_Under underL
  dsimp only
  have h1 := length_parts p
  have h2 := length_parts d
  rw [parts_val p (by omega), obind_some, parts_val d (by omega), obind_some]
  dsimp only
  rw [ltI_lens]
  by_cases h : (parts d).length < (parts p).length
  · rw [decide_eq_true h, sel_true, show inside 0 (len (parts d)) (len (parts p)) = true from inside_true (by decide) (by rw [len_eq]; omega) (by rw [len_eq, len_eq]; omega), sel_true, sub_take', equal_val _ _ (by rw [List.length_take]; omega) (by omega), obind_some, obind_some]
    simp [h]
  · rw [decide_eq_false h, sel_false, obind_some]
    simp [h]

theorem refUnder_val (p d : List UInt8) (hp : p.length ≤ 4096) (hd : d.length ≤ 4096) : P_ref07_Under (p, (d, ())) = some (underL (parts p) (parts d), ()) := by
  unfold P_ref07_Under underL
  dsimp only
  have h1 := length_parts p
  have h2 := length_parts d
  rw [refParts_val p (by omega), obind_some, refParts_val d (by omega), obind_some]
  dsimp only
  rw [leI_lens]
  generalize parts p = x at h1
  generalize parts d = y at h2
  by_cases h : y.length < x.length
  · rw [decide_eq_false (by omega), sel_false]
    have e : (x.zip y).length = y.length := by rw [List.length_zip]; omega
    have key := loop_run (f := P_ref07_Under_L0 (x, ()) (y, ())) (x.zip y) (fun (_ : Unit) i => ((false, ((i : Int), ())), ()))
      (fun i _ p => some (if p.1 = p.2 then .inl () else .inr (1, ((false, ((i : Int), ())), ())))) (fun i _ => (0, ((false, ((i : Int), ())), ()))) (fun _ _ => True)
      (fun u i p hp hi _ => by
        obtain ⟨h1, h2⟩ := zip_at hp
        have hlx := getElem?_lt h1
        unfold P_ref07_Under_L0
        dsimp only
        rw [ltI_len_true (getElem?_lt h1), ltI_len_true (getElem?_lt h2), sel_true, sel_true, idx_some' h1, obind_some, idx_some' h2, obind_some]
        by_cases e : p.1 = p.2
        · rw [eqS_true e, nt_true, sel_false, iadd_one (by omega), if_pos e]; rfl
        · rw [eqS_false e, nt_false, sel_true, if_neg e]; rfl)
      (fun _ _ _ _ _ _ _ => trivial)
      (fun u _ => by
        unfold P_ref07_Under_L0
        dsimp only
        rw [e, ltI_len_end, sel_false, sel_false])
      (fun _ _ _ _ _ h => by cases h) () trivial
    obtain ⟨q, k1, k2, k3⟩ := pairs_run (fun i j => (j, ((false, ((i : Int), ())), ()))) (fun _ _ => ⟨rfl, rfl⟩) (x.zip y) 0
    have key' : Loop (P_ref07_Under_L0 (x, ()) (y, ())) ((false, ((0 : Int), ())), ()) = some q := key.trans k1
    rw [key', obind_some, k2, k3, zip_same, show min x.length y.length = y.length by omega, List.take_length]
    by_cases a : x.take y.length = y
    · rw [decide_eq_true a, if_pos rfl, eqN_zero, sel_true]; simp [h, a]
    · rw [decide_eq_false a, if_neg (by simp), eqN_one, sel_false]; simp [a]
  · rw [decide_eq_true (by omega), sel_true]
    simp [h]

/-! ### Compared -/
theorem isNaN_val (x : List UInt8) : P_cmp_isNaN_string (x, ()) = some (false, ()) := by
  unfold P_cmp_isNaN_string
  rw [eqS_self]; rfl
theorem cmpS_val (x y : List UInt8) : P_cmp_Compare_string (x, (y, ())) = some (cmpS x y, ()) := by
  unfold P_cmp_Compare_string cmpS
  dsimp only
  rw [isNaN_val, obind_some, isNaN_val, obind_some]
  dsimp only
  rw [sel_false, sel_false, gtS_eq]
  rcases ltS_tri x y with h | rfl | h
  · rw [h, sel_true, if_pos rfl]
  · rw [ltS_irrefl, sel_false, sel_false, if_neg (by simp), if_pos rfl]
  · rw [ltS_asymm h, sel_false, h, sel_true, if_neg (by simp), if_neg (fun e => ltS_ne h e.symm)]

theorem compare_val (a b : List UInt8) (ha : a.length ≤ 4096) (hb : b.length ≤ 4096) : P_paths_Compare (a, (b, ())) = some (cmpL (parts a) (parts b), ()) := by
  unfold P_paths_Compare
  dsimp only
  have h1 := length_parts a
  have h2 := length_parts b
  rw [parts_val a (by omega), obind_some, parts_val b (by omega), obind_some]
  generalize parts a = x at h1
  generalize parts b = y at h2
  have run : ∀ (n i : Nat), x.length - i ≤ n → i ≤ x.length → i ≤ y.length → x.take i = y.take i → ∃ q, Loop (P_paths_Compare_L0 (x, ()) (y, ())) ((0, ((i : Int), ())), ()) = some q ∧
      (if q.1 = 0 then x.length ≤ y.length ∧ cmpL (x.drop i) (y.drop i) = (if x.length < y.length then -1 else 0) else q.1 = 1 ∧ q.2.1.1 = cmpL (x.drop i) (y.drop i)) := by
    intro n
    induction n with
    | zero =>
      intro i hn hx hy ht
      obtain rfl : i = x.length := by omega
      refine ⟨(0, ((0, ((x.length : Int), ())), ())), ?_, ?_⟩
      · rw [Loop_eq]
        have : P_paths_Compare_L0 (x, ()) (y, ()) ((0, ((x.length : Int), ())), ()) = some (.inr (0, ((0, ((x.length : Int), ())), ()))) := by
          unfold P_paths_Compare_L0
          dsimp only
          rw [ltI_len_end, sel_false]
        rw [this]; rfl
      · rw [if_pos rfl]
        refine ⟨hy, ?_⟩
        rw [List.drop_length]
        by_cases h : x.length < y.length
        · rw [if_pos h]
          cases hd : y.drop x.length with
          | nil => have := congrArg List.length hd; rw [List.length_drop] at this; simp only [List.length_nil] at this; omega
          | cons b r => rfl
        · rw [if_neg h, List.drop_of_length_le (by omega)]; rfl
    | succ n ih =>
      intro i hn hx hy ht
      by_cases hi : i < x.length
      · obtain ⟨u, hu⟩ : ∃ u, x[i]? = some u := ⟨_, List.getElem?_eq_getElem hi⟩
        obtain ⟨hu1, hu2⟩ := List.getElem?_eq_some_iff.1 hu
        have dx : x.drop i = u :: x.drop (i + 1) := by rw [List.drop_eq_getElem_cons hi, hu2]
        rw [Loop_eq]
        by_cases hj : i < y.length
        · obtain ⟨v, hv⟩ : ∃ v, y[i]? = some v := ⟨_, List.getElem?_eq_getElem hj⟩
          obtain ⟨hv1, hv2⟩ := List.getElem?_eq_some_iff.1 hv
          have dy : y.drop i = v :: y.drop (i + 1) := by rw [List.drop_eq_getElem_cons hj, hv2]
          have st : P_paths_Compare_L0 (x, ()) (y, ()) ((0, ((i : Int), ())), ()) = if u = v then some (.inl ((0, (((i + 1 : Nat) : Int), ())), ())) else some (.inr (1, ((cmpS u v, ((i : Int), ())), ()))) := by
            unfold P_paths_Compare_L0
            dsimp only
            rw [ltI_len_true hi, sel_true, idx_some' hu, obind_some, leI_len, decide_eq_false (by omega), sel_false, idx_some' hv, obind_some, cmpS_val, obind_some]
            dsimp only
            by_cases e : u = v
            · rw [if_pos e, show cmpS u v = 0 by unfold cmpS; rw [e, ltS_irrefl, if_neg (by simp), if_pos rfl], show nt (eqI 0 0) = false from rfl, sel_false, iadd_one (by omega)]
            · rw [if_neg e, show eqI (cmpS u v) 0 = false from eqI_false (by unfold cmpS; split <;> (try split) <;> first | decide | exact absurd (by assumption) e), nt_false, sel_true]
          rw [st, dx, dy, cmpL]
          by_cases e : u = v
          · rw [if_pos e, if_pos e]
            exact ih (i + 1) (by omega) (by omega) (by omega) (by rw [List.take_add_one, List.take_add_one, hu, hv, ht, e])
          · rw [if_neg e, if_neg e]
            refine ⟨_, rfl, ?_⟩
            rw [if_neg (by simp)]
            refine ⟨rfl, ?_⟩
            show cmpS u v = _
            unfold cmpS
            rw [if_neg e]
        · have st : P_paths_Compare_L0 (x, ()) (y, ()) ((0, ((i : Int), ())), ()) = some (.inr (1, ((1, ((i : Int), ())), ()))) := by
            unfold P_paths_Compare_L0
            dsimp only
            rw [ltI_len_true hi, sel_true, idx_some' hu, obind_some, leI_len, decide_eq_true (by omega), sel_true]
          rw [st]
          refine ⟨_, rfl, ?_⟩
          rw [if_neg (by simp), dx, show y.drop i = [] from List.drop_of_length_le (by omega)]
          exact ⟨rfl, rfl⟩
      · exact ih i (by omega) hx hy ht
  obtain ⟨q, k1, k2⟩ := run x.length 0 (by omega) (by omega) (by omega) rfl
  have k1' : Loop (P_paths_Compare_L0 (x, ()) (y, ())) ((0, ((0 : Int), ())), ()) = some q := k1
  rw [k1', obind_some]
  rw [List.drop_zero, List.drop_zero] at k2
  by_cases h : q.1 = 0
  · rw [if_pos h] at k2
    rw [h, eqN_zero, sel_true, ltI_lens, k2.2]
    by_cases l : x.length < y.length
    · rw [decide_eq_true l, sel_true, if_pos l]
    · rw [decide_eq_false l, sel_false, if_neg l]
  · rw [if_neg h] at k2
    rw [k2.1, eqN_one, sel_false, k2.2]

end Go.Ge
