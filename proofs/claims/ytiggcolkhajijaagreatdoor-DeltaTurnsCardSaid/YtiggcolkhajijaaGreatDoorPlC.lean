/- Plain laws of what the functions compute: part 3. -/
import Derived.Test.YtiggcolkhajijaaGreatDoorPlB
import Derived.Test.YtiggcolkhajijaaGreatDoorGeI
/- Paths in plain words: split, joined, under one another, compared, marks. -/
namespace Go.Ge
set_option linter.unusedVariables false
set_option linter.unusedSimpArgs false

/-! ### Where the last stroke stands -/
def lastN (p : List UInt8) : Nat → Option Nat
  | 0 => none
  | n + 1 => if p[n]? = some 47 then some n else lastN p n

theorem lastByte_val (p : List UInt8) (hp : p.length ≤ 1048576) : P_internal_bytealg_LastIndexByteString (p, (47, ())) = some (match lastN p p.length with | some k => (k : Int) | none => -1, ()) := by
  unfold P_internal_bytealg_LastIndexByteString
  dsimp only
  have run : ∀ n, n ≤ p.length → ∃ q, Loop (P_internal_bytealg_LastIndexByteString_L0 (p, (47, ()))) ((0, (((n : Int) - 1), ())), ()) = some q ∧ (match lastN p n with | some k => q.1 = 1 ∧ q.2.1.1 = (k : Int) | none => q.1 = 0) := by
    intro n
    induction n with
    | zero =>
      intro _
      refine ⟨(0, ((0, (-1, ())), ())), ?_, rfl⟩
      rw [Loop_eq]; rfl
    | succ n ih =>
      intro hn
      obtain ⟨y, hy⟩ : ∃ y, p[n]? = some y := ⟨_, List.getElem?_eq_getElem (by omega)⟩
      have e : ((n + 1 : Nat) : Int) - 1 = (n : Int) := by omega
      rw [e, Loop_eq]
      have st : P_internal_bytealg_LastIndexByteString_L0 (p, (47, ())) ((0, ((n : Int), ())), ()) = if y = 47 then some (.inr (1, (((n : Int), ((n : Int), ())), ()))) else some (.inl ((0, ((n : Int) - 1, ())), ())) := by
        unfold P_internal_bytealg_LastIndexByteString_L0
        dsimp only
        rw [leI_true (by omega), sel_true, idx_some' hy, obind_some, u8_47, isub_i64 (by omega) (by omega), sel_decide]
      rw [st, lastN, hy]
      by_cases h : y = 47
      · rw [if_pos h, if_pos (by rw [h])]
        exact ⟨_, rfl, rfl, rfl⟩
      · rw [if_neg h, if_neg (fun q => h (Option.some.inj q))]
        exact ih (by omega)
  obtain ⟨q, h1, h2⟩ := run p.length (Nat.le_refl _)
  have e : isub .i64 (len p) 1 = (p.length : Int) - 1 := by rw [len_eq, isub_i64 (by omega) (by omega)]
  rw [e, h1, obind_some]
  cases hl : lastN p p.length with
  | none => rw [hl] at h2; rw [h2, eqN_zero, sel_true]
  | some k => rw [hl] at h2; rw [h2.1, h2.2, eqN_one, sel_false]

theorem lastN_some : ∀ {p : List UInt8} {n k : Nat}, lastN p n = some k → k < n ∧ p[k]? = some 47 ∧ ∀ j, k < j → j < n → p[j]? ≠ some 47 := by
  intro p n
  induction n with
  | zero => intro k h; cases h
  | succ n ih =>
    intro k h
    rw [lastN] at h
    split at h
    · rename_i hp
      obtain rfl := Option.some.inj h
      exact ⟨Nat.lt_succ_self _, hp, fun j h1 h2 => by omega⟩
    · rename_i hp
      obtain ⟨h1, h2, h3⟩ := ih h
      refine ⟨by omega, h2, fun j h4 h5 => ?_⟩
      by_cases e : j = n
      · rw [e]; exact hp
      · exact h3 j h4 (by omega)
theorem lastN_none : ∀ {p : List UInt8} {n : Nat}, lastN p n = none → ∀ j, j < n → p[j]? ≠ some 47 := by
  intro p n
  induction n with
  | zero => intro _ j h; omega
  | succ n ih =>
    intro h j hj
    rw [lastN] at h
    split at h
    · cases h
    · rename_i hp
      by_cases e : j = n
      · rw [e]; exact hp
      · exact ih h j (by omega)

/-- A path's directory and last name. -/
def splitF (p : List UInt8) : List UInt8 × List UInt8 := match lastN p p.length with | some k => (p.take k, p.drop (k + 1)) | none => ([], p)

theorem split_cases (p : List UInt8) : (47 ∉ p ∧ splitF p = ([], p)) ∨ ∃ a b, p = a ++ 47 :: b ∧ 47 ∉ b ∧ splitF p = (a, b) := by
  unfold splitF
  cases h : lastN p p.length with
  | none =>
    refine .inl ⟨fun hm => ?_, rfl⟩
    obtain ⟨j, hj, e⟩ := List.getElem_of_mem hm
    exact lastN_none h j hj (by rw [List.getElem?_eq_getElem hj, e])
  | some k =>
    obtain ⟨h1, h2, h3⟩ := lastN_some h
    refine .inr ⟨p.take k, p.drop (k + 1), ?_, fun hm => ?_, rfl⟩
    · obtain ⟨hk, e⟩ := List.getElem?_eq_some_iff.1 h2
      rw [← e, ← List.drop_eq_getElem_cons hk, List.take_append_drop]
    · obtain ⟨j, hj, e⟩ := List.getElem_of_mem hm
      rw [List.length_drop] at hj
      rw [List.getElem_drop] at e
      exact h3 (k + 1 + j) (by omega) (by omega) (by rw [List.getElem?_eq_getElem (by omega), e])

theorem psplit_val (p : List UInt8) (hp : p.length ≤ 1048576) : P_paths_Split (p, ()) = some ((splitF p).1, ((splitF p).2, ())) := by
  unfold P_paths_Split P_strings_LastIndex
  dsimp only
  rw [show eqI (len [(47 : UInt8)]) 0 = false from rfl, sel_false, show eqI (len [(47 : UInt8)]) 1 = true from rfl, sel_true, show idx [(47 : UInt8)] 0 = some 47 from rfl, obind_some]
  rw [show u8 47 = 47 from rfl, lastByte_val p hp, obind_some, obind_some]
  unfold splitF
  cases h : lastN p p.length with
  | none => rw [ltI_true (by decide), sel_true]
  | some k =>
    obtain ⟨h1, _, _⟩ := lastN_some h
    dsimp only
    rw [ltI_false (by omega), sel_false, show inside 0 (k : Int) (len p) = true from inside_true (by omega) (by omega) (by rw [len_eq]; omega), sel_true, iadd_one (by omega), inside_true (by omega) (by rw [len_eq]; omega) (Int.le_refl _), sel_true, sub_take, sub_drop p (k + 1) (by omega)]

theorem splitS_snoc (a b : List UInt8) (hb : 47 ∉ b) : splitS (a ++ 47 :: b) = splitS a ++ [b] := by
  induction a with
  | nil =>
    have e : splitS (47 :: b) = [] :: splitS b := by rw [splitS, if_pos rfl]
    rw [List.nil_append, e, splitS_plain b hb]; rfl
  | cons c a ih =>
    rw [List.cons_append]
    by_cases h : c = 47
    · rw [splitS, if_pos h, ih]
      conv => rhs; rw [splitS, if_pos h]
      rfl
    · cases hs : splitS a with
      | nil => exact absurd hs (splitS_ne a)
      | cons x t =>
        rw [hs] at ih
        rw [splitS_cons h hs, splitS_cons h (by rw [ih]; rfl)]
        rfl

theorem refSplit_val (p : List UInt8) (hp : p.length ≤ 4096) : P_ref07_Split (p, ()) = some ((splitF p).1, ((splitF p).2, ())) := by
  unfold P_ref07_Split
  dsimp only
  rw [refParts_val p (by omega), obind_some]
  by_cases h0 : p = []
  · subst h0; rfl
  have hpp : parts p = splitS p := by unfold parts; rw [if_neg h0]
  rcases split_cases p with ⟨h1, h2⟩ | ⟨a, b, rfl, h1, h2⟩
  · rw [h2, hpp, splitS_plain p h1]
    dsimp only
    have e1 : P_ref07_join (sub [p] 0 (minus (isub .i64 (len [p]) 1) 0), ()) = some ([], ()) := by
      have e : sub [p] 0 (minus (isub .i64 (len [p]) 1) 0) = [] := rfl
      rw [e]
      exact refJoin_val [] (by simp) (by simp [joinS])
    rw [show eqI (len [p]) 0 = false from rfl, sel_false, show inside 0 (isub .i64 (len [p]) 1) (len [p]) = true from rfl, sel_true, e1, obind_some]
    rfl
  · rw [h2, hpp, splitS_snoc a b h1]
    dsimp only
    have hl := length_splitS a
    rw [List.length_append] at hp
    simp only [List.length_cons] at hp
    have e1 : isub .i64 (len (splitS a ++ [b])) 1 = (((splitS a).length : Nat) : Int) := by
      rw [len_eq, List.length_append, isub_i64 (by simp only [List.length_cons, List.length_nil]; omega) (by simp only [List.length_cons, List.length_nil]; omega)]
      simp only [List.length_cons, List.length_nil]; omega
    rw [e1, eqI_false (by rw [len_eq, List.length_append]; simp only [List.length_cons, List.length_nil]; omega), sel_false, inside_true (by omega) (by omega) (by rw [len_eq, List.length_append]; omega), sel_true, sub_take, List.take_left,
      refJoin_val _ (by omega) (by rw [joinS_splitS]; omega), joinS_splitS, obind_some, idx_nat]
    simp [obind]

/-! ### Put together -/
def joinP (d n : List UInt8) : List UInt8 := if d = [] ∨ n = [] then d ++ n else d ++ 47 :: n
theorem pjoin_val (d n : List UInt8) (hd : d.length ≤ 1048576) (hn : n.length ≤ 1048576) : P_paths_Join (d, (n, ())) = some (joinP d n, ()) := by
  unfold P_paths_Join joinP
  dsimp only
  by_cases a : d = []
  · rw [eqS_true a, nt_true, sel_false, sel_true, fits_len2 (by omega), sel_true, if_pos (.inl a)]; rfl
  · rw [eqS_false a, nt_false, sel_true]
    by_cases b : n = []
    · rw [eqS_true b, sel_true, fits_len2 (by omega), sel_true, if_pos (.inr b)]; rfl
    · rw [eqS_false b, sel_false, fits_len2 (by simp only [List.length_cons, List.length_nil]; omega), sel_true, fits_len2 (by simp only [app_eq, List.length_append, List.length_cons, List.length_nil]; omega), sel_true, if_neg (by simp [a, b])]
      simp [app]
/-! ### Under one another -/
def underL (x y : List (List UInt8)) : Bool := decide (y.length < x.length ∧ x.take y.length = y)

/-! ### Compared -/
theorem isNaN_val (x : List UInt8) : P_cmp_isNaN_string (x, ()) = some (false, ()) := by
  unfold P_cmp_isNaN_string
  rw [eqS_self]; rfl
theorem cmpS_val (x y : List UInt8) : P_cmp_Compare_string (x, (y, ())) = some (cmpS x y, ()) := by
  unfold P_cmp_Compare_string cmpS
  dsimp only
  rw [isNaN_val, obind_some, isNaN_val, obind_some]
  dsimp only
  rw [sel_false, sel_false, gtS_eq]
  rcases ltS_tri x y with h | rfl | h
  · rw [h, sel_true, if_pos rfl]
  · rw [ltS_irrefl, sel_false, sel_false, if_neg (by simp), if_pos rfl]
  · rw [ltS_asymm h, sel_false, h, sel_true, if_neg (by simp), if_neg (fun e => ltS_ne h e.symm)]

theorem compare_val (a b : List UInt8) (ha : a.length ≤ 4096) (hb : b.length ≤ 4096) : P_paths_Compare (a, (b, ())) = some (cmpL (parts a) (parts b), ()) := by
  unfold P_paths_Compare
  dsimp only
  have h1 := length_parts a
  have h2 := length_parts b
  rw [parts_val a (by omega), obind_some, parts_val b (by omega), obind_some]
  generalize parts a = x at h1
  generalize parts b = y at h2
  have run : ∀ (n i : Nat), x.length - i ≤ n → i ≤ x.length → i ≤ y.length → x.take i = y.take i → ∃ q, Loop (P_paths_Compare_L0 (x, ()) (y, ())) ((0, ((i : Int), ())), ()) = some q ∧
      (if q.1 = 0 then x.length ≤ y.length ∧ cmpL (x.drop i) (y.drop i) = (if x.length < y.length then -1 else 0) else q.1 = 1 ∧ q.2.1.1 = cmpL (x.drop i) (y.drop i)) := by
    intro n
    induction n with
    | zero =>
      intro i hn hx hy ht
      obtain rfl : i = x.length := by omega
      refine ⟨(0, ((0, ((x.length : Int), ())), ())), ?_, ?_⟩
      · rw [Loop_eq]
        have : P_paths_Compare_L0 (x, ()) (y, ()) ((0, ((x.length : Int), ())), ()) = some (.inr (0, ((0, ((x.length : Int), ())), ()))) := by
          unfold P_paths_Compare_L0
          dsimp only
          rw [ltI_len_end, sel_false]
        rw [this]; rfl
      · rw [if_pos rfl]
        refine ⟨hy, ?_⟩
        rw [List.drop_length]
        by_cases h : x.length < y.length
        · rw [if_pos h]
          cases hd : y.drop x.length with
          | nil => have := congrArg List.length hd; rw [List.length_drop] at this; simp only [List.length_nil] at this; omega
          | cons b r => rfl
        · rw [if_neg h, List.drop_of_length_le (by omega)]; rfl
    | succ n ih =>
      intro i hn hx hy ht
      by_cases hi : i < x.length
      · obtain ⟨u, hu⟩ : ∃ u, x[i]? = some u := ⟨_, List.getElem?_eq_getElem hi⟩
        obtain ⟨hu1, hu2⟩ := List.getElem?_eq_some_iff.1 hu
        have dx : x.drop i = u :: x.drop (i + 1) := by rw [List.drop_eq_getElem_cons hi, hu2]
        rw [Loop_eq]
        by_cases hj : i < y.length
        · obtain ⟨v, hv⟩ : ∃ v, y[i]? = some v := ⟨_, List.getElem?_eq_getElem hj⟩
          obtain ⟨hv1, hv2⟩ := List.getElem?_eq_some_iff.1 hv
          have dy : y.drop i = v :: y.drop (i + 1) := by rw [List.drop_eq_getElem_cons hj, hv2]
          have st : P_paths_Compare_L0 (x, ()) (y, ()) ((0, ((i : Int), ())), ()) = if u = v then some (.inl ((0, (((i + 1 : Nat) : Int), ())), ())) else some (.inr (1, ((cmpS u v, ((i : Int), ())), ()))) := by
            unfold P_paths_Compare_L0
            dsimp only
            rw [ltI_len_true hi, sel_true, idx_some' hu, obind_some, leI_len, decide_eq_false (by omega), sel_false, idx_some' hv, obind_some, cmpS_val, obind_some]
            dsimp only
            by_cases e : u = v
            · rw [if_pos e, show cmpS u v = 0 by unfold cmpS; rw [e, ltS_irrefl, if_neg (by simp), if_pos rfl], show nt (eqI 0 0) = false from rfl, sel_false, iadd_one (by omega)]
            · rw [if_neg e, show eqI (cmpS u v) 0 = false from eqI_false (by unfold cmpS; split <;> (try split) <;> first | decide | exact absurd (by assumption) e), nt_false, sel_true]
          rw [st, dx, dy, cmpL]
          by_cases e : u = v
          · rw [if_pos e, if_pos e]
            exact ih (i + 1) (by omega) (by omega) (by omega) (by rw [List.take_add_one, List.take_add_one, hu, hv, ht, e])
          · rw [if_neg e, if_neg e]
            refine ⟨_, rfl, ?_⟩
            rw [if_neg (by simp)]
            refine ⟨rfl, ?_⟩
            show cmpS u v = _
            unfold cmpS
            rw [if_neg e]
        · have st : P_paths_Compare_L0 (x, ()) (y, ()) ((0, ((i : Int), ())), ()) = some (.inr (1, ((1, ((i : Int), ())), ()))) := by
            unfold P_paths_Compare_L0
            dsimp only
            rw [ltI_len_true hi, sel_true, idx_some' hu, obind_some, leI_len, decide_eq_true (by omega), sel_true]
          rw [st]
          refine ⟨_, rfl, ?_⟩
          rw [if_neg (by simp), dx, show y.drop i = [] from List.drop_of_length_le (by omega)]
          exact ⟨rfl, rfl⟩
      · exact ih i (by omega) hx hy ht
  obtain ⟨q, k1, k2⟩ := run x.length 0 (by omega) (by omega) (by omega) rfl
  have k1' : Loop (P_paths_Compare_L0 (x, ()) (y, ())) ((0, ((0 : Int), ())), ()) = some q := k1
  rw [k1', obind_some]
  rw [List.drop_zero, List.drop_zero] at k2
  by_cases h : q.1 = 0
  · rw [if_pos h] at k2
    rw [h, eqN_zero, sel_true, ltI_lens, k2.2]
    by_cases l : x.length < y.length
    · rw [decide_eq_true l, sel_true, if_pos l]
    · rw [decide_eq_false l, sel_false, if_neg l]
  · rw [if_neg h] at k2
    rw [k2.1, eqN_one, sel_false, k2.2]

theorem refCompare_val (a b : List UInt8) (ha : a.length ≤ 4096) (hb : b.length ≤ 4096) : P_ref07_Compare (a, (b, ())) = some (cmpL (parts a) (parts b), ()) := by
  unfold P_ref07_Compare
  dsimp only
  have h1 := length_parts a
  have h2 := length_parts b
  rw [refParts_val a (by omega), obind_some, refParts_val b (by omega), obind_some]
  generalize parts a = x at h1
  generalize parts b = y at h2
  have run : ∀ (n i : Nat), x.length - i ≤ n → i ≤ x.length → i ≤ y.length → ∃ q, Loop (P_ref07_Compare_L0 (x, ()) (y, ())) ((0, ((i : Int), ())), ()) = some q ∧
      (if q.1 = 0 then cmpL (x.drop i) (y.drop i) = (if x.length < y.length then -1 else if y.length < x.length then 1 else 0) else q.1 = 1 ∧ q.2.1.1 = cmpL (x.drop i) (y.drop i)) := by
    intro n
    induction n with
    | zero =>
      intro i hn hx hy
      obtain rfl : i = x.length := by omega
      refine ⟨(0, ((0, ((x.length : Int), ())), ())), ?_, ?_⟩
      · rw [Loop_eq]
        have : P_ref07_Compare_L0 (x, ()) (y, ()) ((0, ((x.length : Int), ())), ()) = some (.inr (0, ((0, ((x.length : Int), ())), ()))) := by
          unfold P_ref07_Compare_L0
          dsimp only
          rw [ltI_len_end, sel_false, sel_false]
        rw [this]; rfl
      · rw [if_pos rfl, List.drop_length]
        by_cases h : x.length < y.length
        · rw [if_pos h]
          cases hd : y.drop x.length with
          | nil => have := congrArg List.length hd; rw [List.length_drop] at this; simp only [List.length_nil] at this; omega
          | cons b r => rfl
        · rw [if_neg h, List.drop_of_length_le (by omega), if_neg (by omega)]; rfl
    | succ n ih =>
      intro i hn hx hy
      by_cases hi : i < x.length
      · obtain ⟨u, hu⟩ : ∃ u, x[i]? = some u := ⟨_, List.getElem?_eq_getElem hi⟩
        obtain ⟨hu1, hu2⟩ := List.getElem?_eq_some_iff.1 hu
        have dx : x.drop i = u :: x.drop (i + 1) := by rw [List.drop_eq_getElem_cons hi, hu2]
        rw [Loop_eq]
        by_cases hj : i < y.length
        · obtain ⟨v, hv⟩ : ∃ v, y[i]? = some v := ⟨_, List.getElem?_eq_getElem hj⟩
          obtain ⟨hv1, hv2⟩ := List.getElem?_eq_some_iff.1 hv
          have dy : y.drop i = v :: y.drop (i + 1) := by rw [List.drop_eq_getElem_cons hj, hv2]
          have st : P_ref07_Compare_L0 (x, ()) (y, ()) ((0, ((i : Int), ())), ()) = if u = v then some (.inl ((0, (((i + 1 : Nat) : Int), ())), ())) else some (.inr (1, ((if ltS u v = true then -1 else 1, ((i : Int), ())), ()))) := by
            unfold P_ref07_Compare_L0
            dsimp only
            rw [ltI_len_true hi, ltI_len_true hj, sel_true, sel_true, idx_some' hu, obind_some, idx_some' hv, obind_some, obind_some, obind_some, gtS_eq]
            rcases ltS_tri u v with h | rfl | h
            · rw [h, sel_true, if_neg (ltS_ne h), if_pos rfl]
            · rw [ltS_irrefl, sel_false, sel_false, if_pos rfl, iadd_one (by omega)]
            · rw [ltS_asymm h, sel_false, h, sel_true, if_neg (fun e => ltS_ne h e.symm), if_neg (by simp)]
          rw [st, dx, dy, cmpL]
          by_cases e : u = v
          · rw [if_pos e, if_pos e]
            exact ih (i + 1) (by omega) (by omega) (by omega)
          · rw [if_neg e, if_neg e]
            refine ⟨_, rfl, ?_⟩
            rw [if_neg (by simp)]
            exact ⟨rfl, rfl⟩
        · have st : P_ref07_Compare_L0 (x, ()) (y, ()) ((0, ((i : Int), ())), ()) = some (.inr (0, ((0, ((i : Int), ())), ()))) := by
            unfold P_ref07_Compare_L0
            dsimp only
            rw [ltI_len_true hi, ltI_len, decide_eq_false hj, sel_true, sel_false]
          rw [st]
          refine ⟨_, rfl, ?_⟩
          rw [if_pos rfl, dx, show y.drop i = [] from List.drop_of_length_le (by omega), if_neg (by omega), if_pos (by omega)]
          rfl
      · exact ih i (by omega) hx hy
  obtain ⟨q, k1, k2⟩ := run x.length 0 (by omega) (by omega) (by omega)
  have k1' : Loop (P_ref07_Compare_L0 (x, ()) (y, ())) ((0, ((0 : Int), ())), ()) = some q := k1
  rw [k1', obind_some]
  rw [List.drop_zero, List.drop_zero] at k2
  by_cases h : q.1 = 0
  · rw [if_pos h] at k2
    rw [h, eqN_zero, sel_true, ltI_lens, ltI_lens, k2]
    by_cases l : x.length < y.length
    · rw [decide_eq_true l, sel_true, if_pos l]
    · rw [decide_eq_false l, sel_false, if_neg l]
      by_cases m : y.length < x.length
      · rw [decide_eq_true m, sel_true, if_pos m]
      · rw [decide_eq_false m, sel_false, if_neg m]
  · rw [if_neg h] at k2
    rw [k2.1, eqN_one, sel_false, k2.2]
end Go.Ge

/- Paths in plain words: marks; the three laws of paths answer true. -/
namespace Go.Ge
set_option linter.unusedVariables false
set_option linter.unusedSimpArgs false

/-! ### Beginnings -/
theorem prefix0_val (s p : List UInt8) : P_internal_stringslite_HasPrefix (s, (p, ())) = some (decide (s.take p.length = p), ()) := by
  unfold P_internal_stringslite_HasPrefix
  dsimp only
  rw [leI_lens]
  by_cases h : p.length ≤ s.length
  · rw [decide_eq_true h, sel_true, show inside 0 (len p) (len s) = true from inside_true (by decide) (by rw [len_eq]; omega) (by rw [len_eq, len_eq]; omega), sel_true, sub_take', obind_some]
    rfl
  · rw [decide_eq_false h, sel_false, obind_some, decide_eq_false]
    intro e
    have := congrArg List.length e
    rw [List.length_take] at this
    omega
theorem prefix_val (s p : List UInt8) : P_strings_HasPrefix (s, (p, ())) = some (decide (s.take p.length = p), ()) := by
  unfold P_strings_HasPrefix
  dsimp only
  rw [prefix0_val, obind_some]
theorem begins_val (s p : List UInt8) : P_ref07_begins (s, (p, ())) = some (decide (s.take p.length = p), ()) := by
  unfold P_ref07_begins
  dsimp only
  rw [leI_lens]
  by_cases h : p.length ≤ s.length
  · rw [decide_eq_true h, sel_true, show inside 0 (len p) (len s) = true from inside_true (by decide) (by rw [len_eq]; omega) (by rw [len_eq, len_eq]; omega), sel_true, sub_take', obind_some]
    rfl
  · rw [decide_eq_false h, sel_false, obind_some, decide_eq_false]
    intro e
    have := congrArg List.length e
    rw [List.length_take] at this
    omega
theorem cutp_val (s p : List UInt8) : P_strings_CutPrefix (s, (p, ())) = some (if s.take p.length = p then (s.drop p.length, (true, ())) else (s, (false, ()))) := by
  unfold P_strings_CutPrefix P_internal_stringslite_CutPrefix
  dsimp only
  rw [prefix0_val, obind_some]
  dsimp only
  by_cases h : s.take p.length = p
  · have hl : p.length ≤ s.length := by
      have := congrArg List.length h
      rw [List.length_take] at this
      omega
    rw [decide_eq_true h, nt_true, sel_false, show inside (len p) (len s) (len s) = true from inside_true (by rw [len_eq]; omega) (by rw [len_eq, len_eq]; omega) (Int.le_refl _), sel_true, obind_some, if_pos h]
    rw [show sub s (len p) (minus (len s) (len p)) = s.drop p.length from sub_drop s p.length hl]
  · rw [decide_eq_false h, nt_false, sel_true, obind_some, if_neg h]

/-! ### In a list -/
theorem scontains_val (l : List (List UInt8)) (s : List UInt8) (hl : l.length ≤ 1048576) : P_slices_Contains_string_string (l, (s, ())) = some (decide (s ∈ l), ()) := by
  unfold P_slices_Contains_string_string P_slices_Index_string_string
  dsimp only
  have key := loop_run (f := P_slices_Index_string_string_L0 (l, (s, ()))) l (fun (_ : Unit) i => ((0, ((i : Int), ())), ()))
    (fun i _ x => some (if s = x then .inr (1, (((i : Int), ((i : Int), ())), ())) else .inl ())) (fun i _ => (0, ((0, ((i : Int), ())), ()))) (fun _ _ => True)
    (fun u i x hx hi _ => by
      unfold P_slices_Index_string_string_L0
      dsimp only
      rw [ltI_len_true hi, sel_true, idx_some' hx, obind_some]
      by_cases e : s = x
      · rw [eqS_true e, sel_true, if_pos e]; rfl
      · rw [eqS_false e, sel_false, if_neg e, iadd_one (by omega)]; rfl)
    (fun _ _ _ _ _ _ _ => trivial)
    (fun u _ => by
      unfold P_slices_Index_string_string_L0
      dsimp only
      rw [ltI_len_end, sel_false])
    (fun _ _ _ _ _ h => by cases h) () trivial
  have run : ∀ (r : List (List UInt8)) (i : Nat), ∃ q, runL (fun i (_ : Unit) x => some (if s = x then Sum.inr (1, (((i : Int), ((i : Int), ())), ())) else Sum.inl ())) (fun i _ => ((0 : Nat), (((0 : Int), ((i : Int), ())), ()))) r i () = some q ∧
      (if s ∈ r then q.1 = 1 ∧ 0 ≤ q.2.1.1 else q.1 = 0) := by
    intro r
    induction r with
    | nil => intro i; exact ⟨_, rfl, by simp⟩
    | cons x r ih =>
      intro i
      unfold runL
      by_cases h : s = x
      · simp only [if_pos h]
        refine ⟨_, rfl, ?_⟩
        rw [if_pos (by rw [h]; exact List.mem_cons_self ..)]
        exact ⟨rfl, by simp⟩
      · simp only [if_neg h]
        obtain ⟨q, h1, h2⟩ := ih (i + 1)
        refine ⟨q, h1, ?_⟩
        by_cases hm : s ∈ r
        · rw [if_pos (List.mem_cons_of_mem _ hm)]; rw [if_pos hm] at h2; exact h2
        · rw [if_neg (by simp [h, hm])]; rw [if_neg hm] at h2; exact h2
  obtain ⟨q, h1, h2⟩ := run l 0
  have key' : Loop (P_slices_Index_string_string_L0 (l, (s, ()))) ((0, ((0 : Int), ())), ()) = some q := key.trans h1
  rw [key', obind_some]
  by_cases h : s ∈ l
  · rw [if_pos h] at h2
    rw [h2.1, eqN_one, sel_false, obind_some, decide_eq_true h]
    dsimp only
    rw [leI_true h2.2]
  · rw [if_neg h] at h2
    rw [h2, eqN_zero, sel_true, obind_some, decide_eq_false h]
    rfl

/-! ### Marks -/
def wh : List UInt8 := [46, 119, 104, 46]
def markF (n : List UInt8) : Int × List UInt8 :=
  if n.take 4 = wh then (if n.drop 4 = [46, 119, 104, 46, 46, 111, 112, 113] then (2, []) else if (n.drop 4).take 4 = wh ∨ n.drop 4 = [] ∨ n.drop 4 = [46] ∨ n.drop 4 = [46, 46] then (3, []) else (1, n.drop 4)) else (0, n)

theorem mark_val (n : List UInt8) : P_paths_Mark (n, ()) = some ((markF n).1, ((markF n).2, ())) := by
  unfold P_paths_Mark markF
  dsimp only
  rw [show ([46, 119, 104, 46] : List UInt8) = wh from rfl, cutp_val, obind_some, show wh.length = 4 from rfl]
  by_cases h : n.take 4 = wh
  · have e : n = wh ++ n.drop 4 := by rw [← h, List.take_append_drop]
    rw [if_pos h, if_pos h]
    dsimp only
    rw [nt_true, sel_false]
    generalize n.drop 4 = r at e
    by_cases h1 : r = [46, 119, 104, 46, 46, 111, 112, 113]
    · rw [if_pos h1, eqS_true (by rw [e, h1]; rfl), sel_true]
    · rw [if_neg h1, eqS_false (by rw [e]; intro q; exact h1 (by simpa [wh] using q)), sel_false, prefix_val, obind_some]
      dsimp only
      rw [show wh.length = 4 from rfl]
      by_cases h2 : r.take 4 = wh
      · rw [if_pos (.inl h2), decide_eq_true h2, nt_true, sel_false, obind_some, sel_true]
      · rw [decide_eq_false h2, nt_false, sel_true, scontains_val _ _ (by decide), obind_some, obind_some, sel_decide]
        have : r ∈ ([[], [46], [46, 46]] : List (List UInt8)) ↔ (r = [] ∨ r = [46] ∨ r = [46, 46]) := by simp
        by_cases h3 : r = [] ∨ r = [46] ∨ r = [46, 46]
        · rw [if_pos (this.2 h3), if_pos (.inr h3)]
        · rw [if_neg (fun q => h3 (this.1 q)), if_neg (fun q => q.elim h2 h3)]
  · rw [if_neg h, if_neg h]
    rfl

theorem refMark_val (n : List UInt8) : P_ref07_Mark (n, ()) = some ((markF n).1, ((markF n).2, ())) := by
  unfold P_ref07_Mark markF
  dsimp only
  rw [begins_val, begins_val]
  by_cases h : n.take 4 = wh
  · have e : n = wh ++ n.drop 4 := by rw [← h, List.take_append_drop]
    rw [if_pos h]
    generalize hr : n.drop 4 = r at e
    by_cases h1 : r = [46, 119, 104, 46, 46, 111, 112, 113]
    · rw [if_pos h1, eqS_true (by rw [e, h1]; rfl), sel_true]
    · rw [if_neg h1, eqS_false (by rw [e]; intro q; exact h1 (by simpa [wh] using q)), sel_false, obind_some]
      dsimp only
      have a1 : decide (n.take ([46, 119, 104, 46, 46, 119, 104, 46] : List UInt8).length = [46, 119, 104, 46, 46, 119, 104, 46]) = decide (r.take 4 = wh) := by
        rw [e]
        apply decide_eq_decide.2
        simp [wh]
      have a2 : eqS n [46, 119, 104, 46] = decide (r = []) := by
        rw [e]
        unfold eqS
        apply decide_eq_decide.2
        simp [wh]
      have a3 : eqS n [46, 119, 104, 46, 46] = decide (r = [46]) := by
        rw [e]
        unfold eqS
        apply decide_eq_decide.2
        simp [wh]
      have a4 : eqS n [46, 119, 104, 46, 46, 46] = decide (r = [46, 46]) := by
        rw [e]
        unfold eqS
        apply decide_eq_decide.2
        simp [wh]
      have a5 : decide (n.take ([46, 119, 104, 46] : List UInt8).length = [46, 119, 104, 46]) = true := decide_eq_true h
      rw [a1, a2, a3, a4, a5]
      have hs : sel (sel (nt (sel (nt (sel (nt (decide (r.take 4 = wh))) (decide (r = [])) true)) (decide (r = [46])) true)) (decide (r = [46, 46])) true) = fun (x y : Option (Int × List UInt8 × Unit)) => if r.take 4 = wh ∨ r = [] ∨ r = [46] ∨ r = [46, 46] then x else y := by
        funext x y
        by_cases b1 : r.take 4 = wh
        · rw [if_pos (.inl b1)]; simp [b1, sel, nt]
        · by_cases b2 : r = []
          · rw [if_pos (.inr (.inl b2))]; simp [b2, sel, nt]
          · by_cases b3 : r = [46]
            · rw [if_pos (.inr (.inr (.inl b3)))]; simp [b3, sel, nt]
            · by_cases b4 : r = [46, 46]
              · rw [if_pos (.inr (.inr (.inr b4)))]; simp [b4, sel, nt]
              · rw [if_neg (by simp [b1, b2, b3, b4])]; simp [b1, b2, b3, b4, sel, nt]
      rw [hs]
      dsimp only
      by_cases b : r.take 4 = wh ∨ r = [] ∨ r = [46] ∨ r = [46, 46]
      · rw [if_pos b, if_pos b]
      · rw [if_neg b, if_neg b, obind_some]
        dsimp only
        have hl : 4 ≤ n.length := by rw [e]; simp [wh]
        rw [sel_true, show inside 4 (len n) (len n) = true from inside_true (by decide) (by rw [len_eq]; omega) (Int.le_refl _), sel_true, show sub n 4 (minus (len n) 4) = n.drop 4 from sub_drop n 4 hl, hr]
  · rw [if_neg h]
    have n1 : n ≠ [46, 119, 104, 46, 46, 119, 104, 46, 46, 111, 112, 113] := fun q => h (by rw [q]; rfl)
    have n2 : n ≠ [46, 119, 104, 46] := fun q => h (by rw [q]; rfl)
    have n3 : n ≠ [46, 119, 104, 46, 46] := fun q => h (by rw [q]; rfl)
    have n4 : n ≠ [46, 119, 104, 46, 46, 46] := fun q => h (by rw [q]; rfl)
    have n5 : ¬ n.take ([46, 119, 104, 46, 46, 119, 104, 46] : List UInt8).length = [46, 119, 104, 46, 46, 119, 104, 46] := fun q => h (by
      have := congrArg (List.take 4) q
      rw [List.take_take] at this
      exact this)
    rw [eqS_false n1, sel_false, obind_some]
    dsimp only
    rw [decide_eq_false n5, eqS_false n2, eqS_false n3, eqS_false n4]
    rw [show sel (sel (nt (sel (nt (sel (nt false) false true)) false true)) false true) = fun (x y : Option (Int × List UInt8 × Unit)) => y from rfl]
    dsimp only
    rw [obind_some]
    dsimp only
    rw [decide_eq_false (by exact h), sel_false]

/-! ### awake -/
theorem sel_and {a b : Bool} : sel a b false = (a && b) := by cases a <;> rfl

/-! ### What is clean stays as it is -/
theorem cleanF_ok {s : List UInt8} (h : (cleanF s).2 = 0) : cleanOk s = true ∧ (cleanF s).1 = joinS (names s) := by
  unfold cleanF at h ⊢
  cases hc : cleanOk s with
  | true => simp
  | false => rw [hc] at h; simp at h

/-- What holds of the names of a clean path. -/
theorem clean_names {s : List UInt8} (h : cleanOk s = true) : (names s).all isNm = true ∧ (names s).length ≤ 8 ∧ (joinS (names s)).length ≤ 96 := by
  unfold cleanOk at h
  simp only [Bool.and_eq_true, decide_eq_true_eq] at h
  exact ⟨h.1.1.1, h.1.2, h.2⟩

theorem head_joinS {l : List (List UInt8)} (h : ∀ x ∈ l, 47 ∉ x ∧ x ≠ []) : (joinS l).head? ≠ some 47 := by
  cases l with
  | nil => simp [joinS]
  | cons x r =>
    obtain ⟨h1, h2⟩ := h x (List.mem_cons_self ..)
    have e : (joinS (x :: r)).head? = x.head? := by
      cases x with
      | nil => exact absurd rfl h2
      | cons b x => cases r <;> simp [joinS]
    rw [e]
    cases x with
    | nil => exact absurd rfl h2
    | cons b x =>
      intro q
      have : b = 47 := Option.some.inj q
      exact h1 (by rw [this]; exact List.mem_cons_self ..)

end Go.Ge

/- Trees: nodes, and what may be one, in plain words. -/
namespace Go.Ge
set_option linter.unusedVariables false
set_option linter.unusedSimpArgs false

abbrev Nd := List UInt8 × Int × Int × List UInt8 × List UInt8 × Unit

/-! ### Paths -/
theorem leI_iff {a b : Int} : (leI a b = true) ↔ a ≤ b := by
  constructor
  · intro h
    rcases Int.lt_or_le b a with g | g
    · rw [leI_false g] at h; cases h
    · exact g
  · exact leI_true
theorem leI_dec {a b : Int} : leI a b = decide (a ≤ b) := by
  rw [Bool.eq_iff_iff, leI_iff, decide_eq_true_eq]
theorem clean_same {p : List UInt8} (hp : p ≠ []) : ((cleanF p).2 = 0 ∧ (cleanF p).1 = p) ↔ ((parts p).all isNm = true ∧ (parts p).length ≤ 8 ∧ p.length ≤ 96) := by
  constructor
  · rintro ⟨h1, h2⟩
    obtain ⟨h3, h4⟩ := cleanF_ok h1
    obtain ⟨h5, h6, h7⟩ := clean_names h3
    have e : joinS (names p) = p := by rw [← h4, h2]
    have e2 : parts p = names p := by
      have := parts_names p
      rw [e] at this
      exact this
    rw [e2]
    refine ⟨h5, h6, ?_⟩
    rw [e] at h7
    exact h7
  · rintro ⟨h1, h2, h3⟩
    have hk : ∀ x ∈ parts p, keepN x = true := fun x hx => by
      have := List.all_eq_true.1 h1 x hx
      unfold isNm at this
      have := of_decide_eq_true this
      unfold keepN
      refine decide_eq_true ⟨fun e => ?_, this.1⟩
      subst e
      exact absurd this.2.2.1 (by decide)
    have hn : names p = parts p := List.filter_eq_self.2 hk
    have hj : joinS (names p) = p := by rw [hn, joinS_parts]
    have hh : p.head? ≠ some 47 := by
      rw [← hj]
      exact head_joinS fun x hx => ⟨(names_mem p x hx).1, (names_mem p x hx).2.1⟩
    have hc : cleanOk p = true := by
      unfold cleanOk
      rw [hj, hn]
      simp [h1, h2, h3, hh]
    unfold cleanF
    rw [if_pos hc]
    exact ⟨rfl, hj⟩

def okPath (p : List UInt8) : Bool := decide (p ≠ []) && (parts p).all isNm && decide ((parts p).length ≤ 8) && decide (p.length ≤ 92) && decide ((splitF p).2.length ≤ 28) && decide ((markF (splitF p).2).1 = 0)

theorem isPath_val (p : List UInt8) (hp : p.length ≤ 4096) : P_tree_isPath (p, ()) = some (okPath p, ()) := by
  unfold P_tree_isPath
  dsimp only
  rw [clean_val p hp, obind_some, psplit_val p (by omega), obind_some]
  dsimp only
  rw [mark_val, obind_some]
  dsimp only
  rw [sel_and, sel_and, sel_and, sel_and, sel_and]
  congr 2
  rw [Bool.eq_iff_iff]
  unfold okPath
  by_cases h0 : p = []
  · subst h0; simp [eqS, nt]
  · have hc := clean_same h0
    simp only [Bool.and_eq_true, decide_eq_true_eq, eqI, eqS, nt_eq, leI_iff, len, Bool.not_eq_true', decide_eq_false_iff_not]
    constructor
    · rintro ⟨⟨⟨⟨a1, a2⟩, a3⟩, a4, a5⟩, a6⟩
      obtain ⟨b1, b2, b3⟩ := hc.1 ⟨a1, a2⟩
      exact ⟨⟨⟨⟨⟨h0, b1⟩, b2⟩, by omega⟩, by omega⟩, a6⟩
    · rintro ⟨⟨⟨⟨⟨_, b1⟩, b2⟩, b3⟩, b4⟩, b5⟩
      obtain ⟨a1, a2⟩ := hc.2 ⟨b1, b2, by omega⟩
      exact ⟨⟨⟨⟨a1, a2⟩, h0⟩, by omega, by omega⟩, b5⟩

def kindF (n : Nd) : Bool := if n.2.1 = 1 then decide (n.2.2.2.2.1 = [] ∧ n.2.2.2.1.length ≤ 8192) else if n.2.1 = 2 then decide (n.2.2.2.2.1 = [] ∧ n.2.2.2.1 = []) else if n.2.1 = 3 then decide (n.2.2.2.1 = [] ∧ n.2.2.2.2.1 ≠ [] ∧ n.2.2.2.2.1.length ≤ 100 ∧ 0 ∉ n.2.2.2.2.1) else false
/-- What a node may be. -/
def mayF (n : Nd) : Bool := okPath n.1 && decide (0 ≤ n.2.2.1) && decide (n.2.2.1 ≤ 4095) && kindF n

theorem indexByte_val (s : List UInt8) (c : UInt8) : P_strings_IndexByte (s, (u8 c, ())) = some (Lib.indexByte s c, ()) := by
  have : (show Int from u8 c).toNat.toUInt8 = c := by simp [u8]
  unfold P_strings_IndexByte P_internal_stringslite_IndexByte
  dsimp only
  rw [this]
  rfl

theorem tis_val (n : Nd) (hp : n.1.length ≤ 4096) : P_tree_is (n, ()) = some (mayF n, ()) := by
  obtain ⟨p, k, m, d, l, u⟩ := n
  unfold P_tree_is mayF kindF
  dsimp only
  rw [isPath_val p hp, obind_some]
  dsimp only
  have e1 : ltI m 0 = !decide (0 ≤ m) := by unfold ltI; by_cases h : m < 0 <;> simp [h] <;> omega
  have e2 : ltI 4095 m = !decide (m ≤ 4095) := by unfold ltI; by_cases h : 4095 < m <;> simp [h] <;> omega
  rw [e1, e2]
  cases okPath p with
  | false => rfl
  | true =>
    cases decide (0 ≤ m) with
    | false => rfl
    | true =>
      cases decide (m ≤ 4095) with
      | false => rfl
      | true =>
        simp only [nt_true, nt_false, sel_true, sel_false, Bool.not_true, Bool.true_and]
        by_cases k1 : k = 1
        · subst k1
          simp only [eqI, decide_true, sel_true, if_true, eqS, leI_dec, len, sel_and]
          congr 2
          rw [Bool.eq_iff_iff]; simp; intro _; omega
        · rw [show eqI k 1 = false by simp [eqI, k1], sel_false, if_neg k1]
          by_cases k2 : k = 2
          · subst k2
            simp only [eqI, decide_true, sel_true, if_true, eqS, leI_dec, len, sel_and]
            congr 2
            rw [Bool.eq_iff_iff]; simp
          · rw [show eqI k 2 = false by simp [eqI, k2], sel_false, if_neg k2]
            by_cases k3 : k = 3
            · subst k3
              rw [show eqI 3 3 = true by rfl, sel_true, if_pos rfl, sel_and, sel_and, show ((l, ((0 : Int), ())) : List UInt8 × Int × Unit) = (l, (u8 0, ())) by rfl, indexByte_val, obind_some]
              dsimp only
              have e3 : ltI (Lib.indexByte l 0) 0 = decide (0 ∉ l) := indexByte_nul l
              rw [e3]
              by_cases hd : d = []
              · by_cases hl : l = []
                · subst hd hl; rfl
                · by_cases h1 : l.length ≤ 100
                  · simp [eqS, hd, hl, leI_dec, len, nt, sel, obind, h1, show (l.length : Int) ≤ 100 by omega]
                  · simp [eqS, hd, hl, leI_dec, len, nt, sel, obind, h1, show ¬ (l.length : Int) ≤ 100 by omega]
              · simp [eqS, hd, sel, obind]
            · rw [show eqI k 3 = false by simp [eqI, k3], sel_false, if_neg k3]

theorem isLink_val (s : List UInt8) (hs : s.length ≤ 1048576) : P_ref14_IsLink (s, ()) = some (decide (s ≠ [] ∧ s.length ≤ 100 ∧ 0 ∉ s), ()) := by
  unfold P_ref14_IsLink
  rcases srch (f := P_ref14_IsLink_L0 (s, ())) s (fun i => ((false, (i, ())), ())) (fun _ x => decide (x = 0)) (fun i x => (1, ((false, ((i : Int), ())), ()))) ((0 : Nat), ((false, ((s.length : Int), ())), ())) (by omega) (fun i x hx hi ha => by
      unfold P_ref14_IsLink_L0
      dsimp only
      rw [ltI_len_true hi, sel_true, idx_some' hx, obind_some, u8_0, sel_if, ha]
      by_cases h0 : x = 0 <;> simp [h0]) (by unfold P_ref14_IsLink_L0; dsimp only; rw [ltI_len_end, sel_false]) with ⟨i, x, hx, hp, _, h⟩ | ⟨hn, h⟩
  · rw [h, obind_some, eqN_one, sel_false]
    have : x = 0 := of_decide_eq_true hp
    subst this
    have hm : (0 : UInt8) ∈ s := mem_at.2 ⟨i, hx⟩
    rw [decide_eq_false (by rintro ⟨_, _, h⟩; exact h hm)]
  · rw [h, obind_some, eqN_zero, sel_true, sel_and]
    have hm : (0 : UInt8) ∉ s := fun hm => by
      obtain ⟨i, hi⟩ := mem_at.1 hm
      have := hn i 0 hi
      exact absurd this (by decide)
    congr 2
    rw [Bool.eq_iff_iff]
    simp only [Bool.and_eq_true, leI_iff, len, decide_eq_true_eq]
    constructor
    · rintro ⟨h1, h2⟩; exact ⟨fun e => by rw [e] at h1; simp at h1, by omega, hm⟩
    · rintro ⟨h1, h2, _⟩; exact ⟨by have := List.length_pos_iff.2 h1; omega, by omega⟩

theorem t14_may_val (n : Nd) (hp : n.1.length ≤ 4096) (hl : n.2.2.2.2.1.length ≤ 4096) : P_ref14_May (n, ()) = some (mayF n, ()) := by
  obtain ⟨p, k, m, d, l, u⟩ := n
  unfold P_ref14_May mayF kindF
  dsimp only at hp hl ⊢
  rw [refSplit_val p hp, obind_some]
  dsimp only
  rw [refMark_val, obind_some, refIs_val p (by omega), isLink_val l (by omega)]
  simp only [obind_some, sel_and]
  have e0 : (sel (nt (eqS p [])) (some ((parts p).all isNm && decide ((parts p).length ≤ 8) && decide (p.length ≤ 96))) (some false) : Option Bool) = some (decide (p ≠ []) && (parts p).all isNm && decide ((parts p).length ≤ 8) && decide (p.length ≤ 96)) := by
    by_cases h : p = []
    · subst h; rfl
    · simp [eqS, h, sel, nt]
  rw [e0, obind_some]
  have e1 : ((((((decide (p ≠ []) && (parts p).all isNm && decide ((parts p).length ≤ 8) && decide (p.length ≤ 96)) && leI (len p) 92) && leI (len (splitF p).2) 28) && eqI (markF (splitF p).2).1 0) && leI 0 m) && leI m 4095) = (okPath p && decide (0 ≤ m) && decide (m ≤ 4095)) := by
    rw [Bool.eq_iff_iff]
    unfold okPath
    simp only [Bool.and_eq_true, leI_iff, len, eqI, decide_eq_true_eq]
    constructor
    · rintro ⟨⟨⟨⟨⟨⟨⟨⟨a1, a2⟩, a3⟩, a4⟩, a5⟩, a6⟩, a7⟩, a8⟩, a9⟩
      exact ⟨⟨⟨⟨⟨⟨⟨a1, a2⟩, a3⟩, by omega⟩, by omega⟩, a7⟩, a8⟩, a9⟩
    · rintro ⟨⟨⟨⟨⟨⟨⟨a1, a2⟩, a3⟩, a5⟩, a6⟩, a7⟩, a8⟩, a9⟩
      exact ⟨⟨⟨⟨⟨⟨⟨⟨a1, a2⟩, a3⟩, by omega⟩, by omega⟩, by omega⟩, a7⟩, a8⟩, a9⟩
  simp only [e1]
  generalize (okPath p && decide (0 ≤ m) && decide (m ≤ 4095)) = c
  by_cases k1 : k = 1
  · subst k1
    rw [show eqI 1 1 = true by rfl, sel_true, if_pos rfl]
    congr 2
    rw [Bool.and_assoc]
    congr 1
    rw [Bool.eq_iff_iff]; simp [eqS, leI_dec, len]; intro _; omega
  · rw [show eqI k 1 = false by simp [eqI, k1], sel_false, if_neg k1]
    by_cases k2 : k = 2
    · subst k2
      rw [show eqI 2 2 = true by rfl, sel_true, if_pos rfl]
      congr 2
      rw [Bool.and_assoc]
      congr 1
      rw [Bool.eq_iff_iff]; simp [eqS]
    · rw [show eqI k 2 = false by simp [eqI, k2], sel_false, if_neg k2]
      by_cases k3 : k = 3
      · subst k3
        rw [show eqI 3 3 = true by rfl, sel_true, if_pos rfl]
        cases c with
        | false => rfl
        | true =>
          by_cases hd : d = []
          · simp [eqS, hd, sel, obind]
          · simp [eqS, hd, sel, obind]
      · rw [show eqI k 3 = false by simp [eqI, k3], sel_false, if_neg k3, Bool.and_false]
end Go.Ge

/- Trees: where a path lies, in plain words. -/
namespace Go.Ge
set_option linter.unusedVariables false
set_option linter.unusedSimpArgs false

/-- The sizes that matter. -/
def Sm (n : Nd) : Prop := n.1.length ≤ 200 ∧ n.2.2.2.2.1.length ≤ 200 ∧ n.2.2.2.1.length ≤ 1024
def SmL (l : List Nd) : Prop := l.length ≤ 4096 ∧ ∀ x ∈ l, Sm x

def key (n : Nd) : List (List UInt8) := parts n.1
def cmp (n : Nd) (p : List UInt8) : Int := cmpL (parts n.1) (parts p)

theorem SmL.at {l : List Nd} (h : SmL l) {i : Nat} {x : Nd} (hx : l[i]? = some x) : Sm x := h.2 x (List.mem_of_getElem? hx)
theorem SmL.take {l : List Nd} (h : SmL l) (k : Nat) : SmL (l.take k) := ⟨by rw [List.length_take]; have := h.1; omega, fun x hx => h.2 x (List.mem_of_mem_take hx)⟩

theorem placeC_val (n : Nd) (p : List UInt8) (hn : n.1.length ≤ 4096) (hp : p.length ≤ 4096) : P_tree_place_c1 (n, (p, ())) = some (cmp n p, ()) := by
  unfold P_tree_place_c1
  dsimp only
  rw [compare_val _ _ hn hp, obind_some]
  rfl

theorem mid_val {a b : Nat} (ha : a ≤ 1048576) (hb : b ≤ 1048576) : icv .i64 (ishr .u64 (icv .u64 (iadd .i64 (a : Int) (b : Int))) 1) = (((a + b) / 2 : Nat) : Int) := by
  rw [iadd_i64 (by omega) (by omega), icv_u64 (by omega) (by omega)]
  have e : ishr .u64 ((a : Int) + (b : Int)) 1 = (((a + b) / 2 : Nat) : Int) := by
    unfold ishr
    rw [show (1 : Int).toNat = 1 from rfl]
    have e2 : ((a : Int) + b).fdiv 2 = ((a : Int) + b) / 2 := Int.fdiv_eq_ediv_of_nonneg _ (by omega)
    have e3 : (2 : Int) ^ min 1 IntKind.u64.bits = 2 := by decide
    simp [e3, e2]
  rw [e, icv_i64 (by omega) (by omega)]

/-- Told by its end: those before are less, those after are not. -/
theorem place_run (l : List Nd) (p : List UInt8) (hl : SmL l) (hp : p.length ≤ 4096) : ∀ (n lo hi : Nat), hi - lo ≤ n → lo ≤ hi → hi ≤ l.length →
    ∃ k : Nat, lo ≤ k ∧ k ≤ hi ∧ Loop (P_tree_place_L0 (l, (p, ()))) (((lo : Int), ((hi : Int), ())), ()) = some (((k : Int), ((k : Int), ())), ()) ∧
      ((∀ (i j : Nat) (x y : Nd), i ≤ j → l[i]? = some x → l[j]? = some y → cmp y p < 0 → cmp x p < 0) → (∀ (j : Nat) (y : Nd), j < lo → l[j]? = some y → cmp y p < 0) → (∀ (j : Nat) (y : Nd), hi ≤ j → l[j]? = some y → ¬ cmp y p < 0) →
        (∀ (j : Nat) (y : Nd), j < k → l[j]? = some y → cmp y p < 0) ∧ (∀ (j : Nat) (y : Nd), k ≤ j → l[j]? = some y → ¬ cmp y p < 0)) := by
  intro n
  induction n with
  | zero =>
    intro lo hi h1 h2 h3
    obtain rfl : hi = lo := by omega
    refine ⟨hi, Nat.le_refl _, Nat.le_refl _, ?_, fun _ a b => ⟨a, b⟩⟩
    rw [Loop_eq]
    unfold P_tree_place_L0
    dsimp only
    rw [ltI_false (Int.le_refl _), sel_false]
    rfl
  | succ n ih =>
    intro lo hi h1 h2 h3
    by_cases h : hi = lo
    · subst h
      exact ih hi hi (by omega) (Nat.le_refl _) h3
    · have h4 := hl.1
      have hm : (lo + hi) / 2 < l.length := by omega
      obtain ⟨x, hx⟩ : ∃ x, l[(lo + hi) / 2]? = some x := ⟨_, List.getElem?_eq_getElem hm⟩
      have hstep : P_tree_place_L0 (l, (p, ())) (((lo : Int), ((hi : Int), ())), ()) = some (.inl (if cmp x p < 0 then (((((lo + hi) / 2 + 1 : Nat) : Int), ((hi : Int), ())), ()) else (((lo : Int), ((((lo + hi) / 2 : Nat) : Int), ())), ()))) := by
        unfold P_tree_place_L0
        dsimp only
        rw [ltI_true (by omega), sel_true, ltI_false (by decide), sel_false, mid_val (by omega) (by omega), idx_some' hx, obind_some, placeC_val x p (by have := (hl.at hx).1; omega) hp, obind_some]
        dsimp only
        rw [iadd_one (by omega)]
        by_cases hc : cmp x p < 0
        · rw [ltI_true hc, if_pos hc]; rfl
        · rw [ltI_false (by omega), if_neg hc]; rfl
      rw [Loop_eq, hstep]
      by_cases hc : cmp x p < 0
      · obtain ⟨k, k1, k2, k3, k4⟩ := ih ((lo + hi) / 2 + 1) hi (by omega) (by omega) h3
        refine ⟨k, by omega, k2, by rw [if_pos hc]; exact k3, fun a b c => k4 a (fun j y hj hy => ?_) c⟩
        exact a j ((lo + hi) / 2) y x (by omega) hy hx hc
      · obtain ⟨k, k1, k2, k3, k4⟩ := ih lo ((lo + hi) / 2) (by omega) (by omega) (by omega)
        refine ⟨k, k1, by omega, by rw [if_neg hc]; exact k3, fun a b c => k4 a b (fun j y hj hy hy2 => hc (a _ _ x y hj hx hy hy2))⟩

/-- Each less than the next. -/
def Ord (l : List Nd) : Prop := ∀ (i j : Nat) (x y : Nd), i < j → l[i]? = some x → l[j]? = some y → cmpL (key x) (key y) < 0

theorem Ord.mono {l : List Nd} (h : Ord l) (p : List UInt8) : ∀ (i j : Nat) (x y : Nd), i ≤ j → l[i]? = some x → l[j]? = some y → cmp y p < 0 → cmp x p < 0 := by
  intro i j x y hij hx hy hc
  rcases Nat.lt_or_ge i j with g | g
  · exact cmpL_trans (h i j x y g hx hy) hc
  · obtain rfl : i = j := by omega
    rw [hx] at hy
    obtain rfl := Option.some.inj hy
    exact hc
theorem Ord.take {l : List Nd} (h : Ord l) (k : Nat) : Ord (l.take k) := fun i j x y hij hx hy => by
  rw [List.getElem?_take] at hx hy
  split at hx
  · split at hy
    · exact h i j x y hij hx hy
    · cases hy
  · cases hx

/-- Where a path would lie, and whether it lies there. -/
structure Plc (l : List Nd) (p : List UInt8) (k : Nat) (b : Bool) : Prop where
  le : k ≤ l.length
  lo : ∀ (j : Nat) (y : Nd), j < k → l[j]? = some y → cmp y p < 0
  hi : ∀ (j : Nat) (y : Nd), k ≤ j → l[j]? = some y → ¬ cmp y p < 0
  is : b = true → ∃ x, l[k]? = some x ∧ x.1 = p
  no : b = false → ∀ x ∈ l, x.1 ≠ p

theorem cmp_zero {n : Nd} {p : List UInt8} (h : cmp n p = 0) : n.1 = p := by
  have := cmpL_zero h
  rw [← joinS_parts n.1, this, joinS_parts]
theorem cmp_same {n : Nd} {p : List UInt8} (h : n.1 = p) : cmp n p = 0 := by subst h; exact cmpL_self _

theorem place_val (l : List Nd) (p : List UInt8) (hl : SmL l) (hp : p.length ≤ 4096) : ∃ (k : Nat) (b : Bool), P_tree_place (l, (p, ())) = some ((k : Int), (b, ())) ∧ k ≤ l.length ∧ (b = true → k < l.length) ∧ (Ord l → Plc l p k b) := by
  obtain ⟨k, _, k2, k3, k4⟩ := place_run l p hl hp l.length 0 l.length (by omega) (by omega) (Nat.le_refl _)
  have k3' : Loop (P_tree_place_L0 (l, (p, ()))) ((0, (len l, ())), ()) = some (((k : Int), ((k : Int), ())), ()) := k3
  have lows := fun (h : Ord l) => k4 (h.mono p) (fun j y hj => by omega) (fun j y hj hy => by have := getElem?_lt hy; omega)
  by_cases hk : k < l.length
  · obtain ⟨x, hx⟩ : ∃ x, l[k]? = some x := ⟨_, List.getElem?_eq_getElem hk⟩
    refine ⟨k, decide (cmp x p = 0), ?_, k2, fun _ => hk, fun h => ⟨k2, (lows h).1, (lows h).2, fun hb => ⟨x, hx, cmp_zero (of_decide_eq_true hb)⟩, fun hb y hy e => ?_⟩⟩
    · unfold P_tree_place
      dsimp only
      rw [k3', obind_some]
      dsimp only
      rw [ltI_len_true hk, sel_true, idx_some' hx, obind_some, placeC_val x p (by have := (hl.at hx).1; omega) hp, obind_some]
      rfl
    · obtain ⟨j, hj⟩ := mem_at.1 hy
      have h0 := cmp_same e
      have hne := of_decide_eq_false hb
      rcases Nat.lt_trichotomy j k with g | g | g
      · have := (lows h).1 j y g hj; omega
      · subst g; rw [hx] at hj; obtain rfl := Option.some.inj hj; exact hne h0
      · have h1 := h k j x y g hx hj
        rw [show key y = parts p by unfold key; rw [e]] at h1
        exact (lows h).2 k x (Nat.le_refl _) hx h1
  · obtain rfl : k = l.length := by omega
    refine ⟨l.length, false, ?_, k2, fun h => (by cases h), fun h => ⟨k2, (lows h).1, (lows h).2, fun h => (by cases h), fun hb y hy e => ?_⟩⟩
    · unfold P_tree_place
      dsimp only
      rw [k3', obind_some]
      dsimp only
      rw [ltI_len_end, sel_false]
    · obtain ⟨j, hj⟩ := mem_at.1 hy
      have h0 := cmp_same e
      have := (lows h).1 j y (getElem?_lt hj) hj
      omega

/-! ### Up to the directory -/
/-- What is told of a directory. -/
def Dir (l : List Nd) (d : List UInt8) (e : Int) : Prop := (d = [] ∧ e = 0) ∨ (d ≠ [] ∧ (((∀ x ∈ l, x.1 ≠ d) ∧ e = 3) ∨ ∃ x ∈ l, x.1 = d ∧ ((x.2.1 = 2 ∧ e = 0) ∨ (x.2.1 ≠ 2 ∧ e = 12))))

theorem dir_val (l : List Nd) (d : List UInt8) (hl : SmL l) (hd : d.length ≤ 4096) : ∃ e, P_tree_dir (l, (d, ())) = some (e, ()) ∧ (Ord l → Dir l d e) := by
  unfold P_tree_dir
  dsimp only
  by_cases h0 : d = []
  · subst h0
    exact ⟨0, rfl, fun _ => .inl ⟨rfl, rfl⟩⟩
  · rw [eqS_false h0, sel_false]
    obtain ⟨k, b, h1, h2, h3, h4⟩ := place_val l d hl hd
    rw [h1, obind_some]
    dsimp only
    cases b with
    | false =>
      rw [nt_false, sel_true]
      exact ⟨3, rfl, fun h => .inr ⟨h0, .inl ⟨(h4 h).no rfl, rfl⟩⟩⟩
    | true =>
      have hk := h3 rfl
      obtain ⟨x, hx⟩ : ∃ x, l[k]? = some x := ⟨_, List.getElem?_eq_getElem hk⟩
      rw [nt_true, sel_false, idx_some' hx, obind_some]
      have hw : Ord l → x.1 = d := fun h => by
        obtain ⟨y, hy, e⟩ := (h4 h).is rfl
        rw [hx] at hy
        rw [Option.some.inj hy, e]
      by_cases hk2 : x.2.1 = 2
      · refine ⟨0, ?_, fun h => .inr ⟨h0, .inr ⟨x, List.mem_of_getElem? hx, hw h, .inl ⟨hk2, rfl⟩⟩⟩⟩
        rw [eqI_true hk2]; rfl
      · refine ⟨12, ?_, fun h => .inr ⟨h0, .inr ⟨x, List.mem_of_getElem? hx, hw h, .inr ⟨hk2, rfl⟩⟩⟩⟩
        rw [show eqI x.2.1 2 = false by simp [eqI, hk2]]; rfl

/-! ### The reference's search -/
theorem find_val (l : List Nd) (p : List UInt8) (hl : SmL l) : (∃ (i : Nat) (x : Nd), l[i]? = some x ∧ x.1 = p ∧ P_ref14_find (l, (p, ())) = some ((i : Int), ())) ∨ ((∀ x ∈ l, x.1 ≠ p) ∧ P_ref14_find (l, (p, ())) = some (-1, ())) := by
  unfold P_ref14_find
  rcases srch (f := P_ref14_find_L0 (l, (p, ()))) l (fun i => ((0, (i, ())), ())) (fun _ x => decide (x.1 = p)) (fun i x => (1, (((i : Int), ((i : Int), ())), ()))) ((0 : Nat), ((0, ((l.length : Int), ())), ())) (by have := hl.1; omega) (fun i x hx hi ha => by
      unfold P_ref14_find_L0
      dsimp only
      rw [ltI_len_true hi, sel_true, idx_some' hx, obind_some, eqS_iff, ha]
      by_cases h : x.1 = p <;> simp [h, sel]) (by unfold P_ref14_find_L0; dsimp only; rw [ltI_len_end, sel_false]) with ⟨i, x, hx, hp, _, h⟩ | ⟨hn, h⟩
  · left
    refine ⟨i, x, hx, of_decide_eq_true hp, ?_⟩
    rw [h]; rfl
  · right
    refine ⟨fun x hx e => ?_, by rw [h]; rfl⟩
    obtain ⟨i, hi⟩ := mem_at.1 hx
    have := hn i x hi
    simp [e] at this

theorem refDir_val (l : List Nd) (d : List UInt8) (hl : SmL l) : ∃ b, P_ref14_dir (l, (d, ())) = some (b, ()) ∧ (b = true → d = [] ∨ ∃ x ∈ l, x.1 = d ∧ x.2.1 = 2) ∧ (Ord l → b = false → d ≠ [] ∧ ∀ x ∈ l, x.1 = d → x.2.1 ≠ 2) := by
  unfold P_ref14_dir
  dsimp only
  by_cases h0 : d = []
  · subst h0
    rcases find_val l [] hl with ⟨i, x, hx, hxp, h⟩ | ⟨_, h⟩ <;> rw [h, obind_some] <;> exact ⟨true, rfl, fun _ => .inl rfl, fun _ h => by cases h⟩
  · rcases find_val l d hl with ⟨i, x, hx, hxp, h⟩ | ⟨hn, h⟩
    · rw [h, obind_some, eqS_false h0, nt_false, sel_true]
      dsimp only
      rw [leI_true (by omega), sel_true, idx_some' hx, obind_some, obind_some, obind_some]
      refine ⟨_, rfl, fun hb => .inr ⟨x, List.mem_of_getElem? hx, hxp, of_decide_eq_true hb⟩, fun ho hb => ⟨h0, fun y hy hyd hk => ?_⟩⟩
      have hne := of_decide_eq_false hb
      obtain ⟨j, hj⟩ := mem_at.1 hy
      have hkk : key x = key y := by unfold key; rw [hxp, hyd]
      rcases Nat.lt_trichotomy i j with g | g | g
      · have := ho i j x y g hx hj; rw [hkk, cmpL_self] at this; omega
      · subst g; rw [hx] at hj; obtain rfl := Option.some.inj hj; exact hne hk
      · have := ho j i y x g hj hx; rw [hkk, cmpL_self] at this; omega
    · rw [h, obind_some, eqS_false h0, nt_false, sel_true]
      exact ⟨false, rfl, fun h => (by cases h), fun _ _ => ⟨h0, fun x hx e => absurd e (hn x hx)⟩⟩
end Go.Ge

/- Trees as they may be. -/
namespace Go.Ge
set_option linter.unusedVariables false
set_option linter.unusedSimpArgs false

/-- A tree as it may be. -/
structure Valid (l : List Nd) : Prop where
  few : l.length ≤ 64
  ord : Ord l
  may : ∀ x ∈ l, mayF x = true
  up : ∀ x ∈ l, (splitF x.1).1 = [] ∨ ∃ y ∈ l, y.1 = (splitF x.1).1 ∧ y.2.1 = 2

theorem splitF_len (p : List UInt8) : (splitF p).1.length ≤ p.length := by
  rcases split_cases p with ⟨_, h⟩ | ⟨a, b, h1, _, h⟩
  · rw [h]; simp
  · rw [h, h1]; simp
theorem parent_key {p : List UInt8} (h : (splitF p).1 ≠ []) : parts p = parts (splitF p).1 ++ [(splitF p).2] := by
  rcases split_cases p with ⟨_, e⟩ | ⟨a, b, e1, e2, e⟩
  · rw [e] at h; exact absurd rfl h
  · rw [e] at h ⊢
    have hp : p ≠ [] := by rw [e1]; simp
    unfold parts
    rw [if_neg hp, if_neg h, e1]
    exact splitS_snoc a b e2

theorem Ord.uniq {l : List Nd} (h : Ord l) {x y : Nd} (hx : x ∈ l) (hy : y ∈ l) (e : x.1 = y.1) : x = y := by
  obtain ⟨i, hi⟩ := mem_at.1 hx
  obtain ⟨j, hj⟩ := mem_at.1 hy
  have hk : key x = key y := by unfold key; rw [e]
  rcases Nat.lt_trichotomy i j with g | g | g
  · have := h i j x y g hi hj; rw [hk, cmpL_self] at this; omega
  · subst g; rw [hi] at hj; exact Option.some.inj hj
  · have := h j i y x g hj hi; rw [hk, cmpL_self] at this; omega

theorem ord_of_adj {l : List Nd} (h : ∀ (k : Nat) (x y : Nd), l[k]? = some x → l[k + 1]? = some y → cmpL (key x) (key y) < 0) : Ord l := by
  have run : ∀ (d i : Nat) (x y : Nd), l[i]? = some x → l[i + 1 + d]? = some y → cmpL (key x) (key y) < 0 := by
    intro d
    induction d with
    | zero => intro i x y hx hy; exact h i x y hx hy
    | succ d ih =>
      intro i x y hx hy
      have hl := getElem?_lt hy
      obtain ⟨z, hz⟩ : ∃ z, l[i + 1 + d]? = some z := ⟨_, List.getElem?_eq_getElem (by omega)⟩
      exact cmpL_trans (ih i x z hx hz) (h (i + 1 + d) z y hz hy)
  intro i j x y hij hx hy
  exact run (j - i - 1) i x y hx (by rw [show i + 1 + (j - i - 1) = j by omega]; exact hy)

/-- Not less than the one before. -/
def prevC (l : List Nd) (i : Nat) (x : Nd) : Bool := match i with
  | 0 => false
  | k + 1 => match l[k]? with
    | some y => decide (0 ≤ cmpL (key y) (key x))
    | none => false

theorem prevC_succ {l : List Nd} {k : Nat} {x y : Nd} (hy : l[k]? = some y) : prevC l (k + 1) x = decide (0 ≤ cmpL (key y) (key x)) := by
  show (match l[k]? with | some y => decide (0 ≤ cmpL (key y) (key x)) | none => false) = _
  rw [hy]

noncomputable def dirE (l : List Nd) (d : List UInt8) : Int := match P_tree_dir (l, (d, ())) with
  | some y => y.1
  | none => 0
theorem dirE_val (l : List Nd) (d : List UInt8) (hl : SmL l) (hd : d.length ≤ 4096) : P_tree_dir (l, (d, ())) = some (dirE l d, ()) ∧ (Ord l → Dir l d (dirE l d)) := by
  obtain ⟨e, h1, h2⟩ := dir_val l d hl hd
  have : dirE l d = e := by unfold dirE; rw [h1]
  rw [this]; exact ⟨h1, h2⟩
noncomputable def rdirB (l : List Nd) (d : List UInt8) : Bool := match P_ref14_dir (l, (d, ())) with
  | some y => y.1
  | none => false
theorem rdirB_val (l : List Nd) (d : List UInt8) (hl : SmL l) : P_ref14_dir (l, (d, ())) = some (rdirB l d, ()) ∧ (rdirB l d = true → d = [] ∨ ∃ x ∈ l, x.1 = d ∧ x.2.1 = 2) ∧ (Ord l → rdirB l d = false → d ≠ [] ∧ ∀ x ∈ l, x.1 = d → x.2.1 ≠ 2) := by
  obtain ⟨e, h1, h2, h3⟩ := refDir_val l d hl
  have : rdirB l d = e := by unfold rdirB; rw [h1]
  rw [this]; exact ⟨h1, h2, h3⟩

theorem prevC_adj {l : List Nd} (h : ∀ (i : Nat) (x : Nd), l[i]? = some x → prevC l i x = false) : Ord l := ord_of_adj fun k x y hx hy => by
  have := h (k + 1) y hy
  rw [prevC_succ hx] at this
  have := of_decide_eq_false this
  omega
theorem prevC_ord {l : List Nd} (h : Ord l) {i : Nat} {x : Nd} (hx : l[i]? = some x) : prevC l i x = false := by
  cases i with
  | zero => rfl
  | succ k =>
    have hl := getElem?_lt hx
    obtain ⟨y, hy⟩ : ∃ y, l[k]? = some y := ⟨_, List.getElem?_eq_getElem (by omega)⟩
    rw [prevC_succ hy]
    have := h k (k + 1) y x (by omega) hy hx
    exact decide_eq_false (by omega)

/-- With an ordered tree a directory lies ahead of what lies in it. -/
theorem up_before {l : List Nd} (h : Ord l) {i : Nat} {x y : Nd} (hx : l[i]? = some x) (hy : y ∈ l) (hu : (splitF x.1).1 ≠ []) (e : y.1 = (splitF x.1).1) : y ∈ l.take i := by
  obtain ⟨j, hj⟩ := mem_at.1 hy
  have hc : cmpL (key y) (key x) = -1 := by
    unfold key
    rw [e, parent_key hu]
    exact cmpL_app _ _ (by simp)
  rcases Nat.lt_or_ge j i with g | g
  · exact List.mem_of_getElem? (i := j) (by rw [List.getElem?_take, if_pos g]; exact hj)
  · exfalso
    rcases Nat.lt_or_ge i j with g2 | g2
    · have := cmpL_trans (h i j x y g2 hx hj) (show cmpL (key y) (key x) < 0 by omega)
      rw [cmpL_self] at this; omega
    · obtain rfl : i = j := by omega
      rw [hx] at hj
      obtain rfl := Option.some.inj hj
      rw [cmpL_self] at hc; omega

theorem check_val' (l : List Nd) (hl : SmL l) : ∃ e, P_tree_Check (l, ()) = some (e, ()) ∧ (e = 0 ↔ Valid l) := by
  unfold P_tree_Check
  dsimp only
  have h64 : ltI 64 (len l) = decide (64 < l.length) := by unfold ltI len; apply decide_eq_decide.2; omega
  rw [h64]
  by_cases h0 : 64 < l.length
  · rw [decide_eq_true h0, sel_true]
    exact ⟨1, rfl, fun h => by omega, fun h => by have := h.few; omega⟩
  · rw [decide_eq_false h0, sel_false]
    have hsp : ∀ {i : Nat} {x : Nd}, l[i]? = some x → (splitF x.1).1.length ≤ 4096 := fun {i x} hx => by have := (hl.at hx).1; have := splitF_len x.1; omega
    rcases srch (f := P_tree_Check_L0 (l, ())) l (fun i => ((0, (i, ())), ())) (fun i x => !mayF x || prevC l i x || decide (dirE (l.take i) (splitF x.1).1 ≠ 0)) (fun i x => (1, ((1, ((i : Int), ())), ()))) ((0 : Nat), ((0, ((l.length : Int), ())), ())) (by have := hl.1; omega) (fun i x hx hi ha => by
        unfold P_tree_Check_L0
        dsimp only
        rw [ltI_len_true hi, sel_true, idx_some' hx, obind_some, psplit_val _ (by have := (hl.at hx).1; omega), obind_some, tis_val _ (by have := (hl.at hx).1; omega), obind_some]
        dsimp only
        cases hm : mayF x with
        | false => rfl
        | true =>
          rw [nt_true, sel_false]
          have hin : inside 0 (i : Int) (len l) = true := inside_len (a := 0) (Nat.zero_le _) (by omega)
          have hdir := (dirE_val (l.take i) (splitF x.1).1 (hl.take i) (hsp hx)).1
          rw [hin, sel_true, sub_take, hdir, obind_some, ha]
          dsimp only
          cases i with
          | zero =>
            rw [ltI_false (by simp), sel_false]
            generalize dirE (l.take 0) (splitF x.1).1 = e
            by_cases hz : e = 0
            · rw [eqI_true hz, nt_true, sel_false]; simp [prevC, hz]
            · rw [show eqI e 0 = false by simp [eqI, hz], nt_false, sel_true]; simp [prevC, hz]
          | succ k =>
            obtain ⟨y, hy⟩ : ∃ y, l[k]? = some y := ⟨_, List.getElem?_eq_getElem (by omega)⟩
            rw [ltI_true (by omega), sel_true, isub_i64 (by omega) (by omega), show (((k + 1 : Nat) : Int) - 1) = (k : Int) by omega, idx_some' hy, obind_some, compare_val _ _ (by have := (hl.at hy).1; omega) (by have := (hl.at hx).1; omega), obind_some]
            dsimp only
            rw [leI_dec]
            rw [prevC_succ hy]
            unfold key
            generalize dirE (l.take (k + 1)) (splitF x.1).1 = e
            by_cases hc : 0 ≤ cmpL (parts y.1) (parts x.1)
            · rw [decide_eq_true hc, sel_true]; simp
            · rw [decide_eq_false hc, sel_false]
              by_cases hz : e = 0
              · rw [eqI_true hz, nt_true, sel_false]; simp [hz]
              · rw [show eqI e 0 = false by simp [eqI, hz], nt_false, sel_true]; simp [hz]) (by unfold P_tree_Check_L0; dsimp only; rw [ltI_len_end, sel_false]) with ⟨i, x, hx, hp, _, h⟩ | ⟨hn, h⟩
    · rw [h, obind_some, eqN_one, sel_false]
      refine ⟨1, rfl, fun h => by omega, fun hv => ?_⟩
      rw [hv.may x (List.mem_of_getElem? hx), prevC_ord hv.ord hx] at hp
      simp only [Bool.not_true, Bool.false_or, decide_eq_true_eq] at hp
      have hd := (dirE_val (l.take i) (splitF x.1).1 (hl.take i) (hsp hx)).2 (hv.ord.take i)
      rcases hd with ⟨_, e⟩ | ⟨hne, hd⟩
      · exact absurd e hp
      · rcases hv.up x (List.mem_of_getElem? hx) with hu | ⟨y, hy, hy1, hy2⟩
        · exact absurd hu hne
        · have hyt := up_before hv.ord hx hy hne hy1
          rcases hd with ⟨hno, _⟩ | ⟨z, hz, hz1, ⟨_, e⟩ | ⟨hz2, _⟩⟩
          · exact absurd hy1 (hno y hyt)
          · exact absurd e hp
          · have := hv.ord.uniq (List.mem_of_mem_take hz) hy (by rw [hz1, hy1])
            subst this
            exact absurd hy2 hz2
    · rw [h, obind_some, eqN_zero, sel_true]
      have hn' : ∀ (i : Nat) (x : Nd), l[i]? = some x → mayF x = true ∧ prevC l i x = false ∧ dirE (l.take i) (splitF x.1).1 = 0 := fun i x hx => by
        have := hn i x hx
        simp only [Bool.or_eq_false_iff, Bool.not_eq_false', decide_eq_false_iff_not, Decidable.not_not] at this
        exact ⟨this.1.1, this.1.2, by simpa using this.2⟩
      have ho : Ord l := prevC_adj fun i x hx => (hn' i x hx).2.1
      refine ⟨0, rfl, fun _ => ⟨by omega, ho, fun x hx => ?_, fun x hx => ?_⟩, fun _ => rfl⟩
      · obtain ⟨i, hi⟩ := mem_at.1 hx
        exact (hn' i x hi).1
      · obtain ⟨i, hi⟩ := mem_at.1 hx
        have hd := (dirE_val (l.take i) (splitF x.1).1 (hl.take i) (hsp hi)).2 (ho.take i)
        rw [(hn' i x hi).2.2] at hd
        rcases hd with ⟨e, _⟩ | ⟨_, ⟨_, e⟩ | ⟨y, hy, hy1, ⟨hy2, _⟩ | ⟨_, e⟩⟩⟩
        · exact .inl e
        · omega
        · exact .inr ⟨y, List.mem_of_mem_take hy, hy1, hy2⟩
        · omega

theorem isTree_val (l : List Nd) (hl : SmL l) : ∃ b, P_ref14_Is (l, ()) = some (b, ()) ∧ (b = true ↔ Valid l) := by
  unfold P_ref14_Is
  dsimp only
  have h64 : ltI 64 (len l) = decide (64 < l.length) := by unfold ltI len; apply decide_eq_decide.2; omega
  rw [h64]
  by_cases h0 : 64 < l.length
  · rw [decide_eq_true h0, sel_true]
    exact ⟨false, rfl, fun h => (by cases h), fun h => by have := h.few; omega⟩
  · rw [decide_eq_false h0, sel_false]
    rcases srch (f := P_ref14_Is_L0 (l, ())) l (fun i => ((false, (i, ())), ())) (fun i x => !mayF x || !rdirB l (splitF x.1).1 || prevC l i x) (fun i x => (1, ((false, ((i : Int), ())), ()))) ((0 : Nat), ((false, ((l.length : Int), ())), ())) (by have := hl.1; omega) (fun i x hx hi ha => by
        unfold P_ref14_Is_L0
        dsimp only
        rw [ltI_len_true hi, sel_true, idx_some' hx, obind_some, refSplit_val _ (by have := (hl.at hx).1; omega), obind_some, obind_some, t14_may_val _ (by have := (hl.at hx).1; omega) (by have := (hl.at hx).2.1; omega), obind_some]
        dsimp only
        cases hm : mayF x with
        | false => rfl
        | true =>
          rw [nt_true, sel_false, (rdirB_val l (splitF x.1).1 hl).1, obind_some]
          dsimp only
          cases hr : rdirB l (splitF x.1).1 with
          | false => rfl
          | true =>
            rw [nt_true, sel_false, ha]
            cases i with
            | zero => rw [ltI_false (by simp), sel_false]; simp [prevC]
            | succ k =>
              obtain ⟨y, hy⟩ : ∃ y, l[k]? = some y := ⟨_, List.getElem?_eq_getElem (by omega)⟩
              rw [ltI_true (by omega), sel_true, isub_i64 (by omega) (by omega), show (((k + 1 : Nat) : Int) - 1) = (k : Int) by omega, idx_some' hy, obind_some, obind_some, refCompare_val _ _ (by have := (hl.at hy).1; omega) (by have := (hl.at hx).1; omega), obind_some]
              dsimp only
              rw [leI_dec]
              rw [prevC_succ hy]
              unfold key
              by_cases hc : 0 ≤ cmpL (parts y.1) (parts x.1)
              · rw [decide_eq_true hc, sel_true]; simp
              · rw [decide_eq_false hc, sel_false]; simp) (by unfold P_ref14_Is_L0; dsimp only; rw [ltI_len_end, sel_false]) with ⟨i, x, hx, hp, _, h⟩ | ⟨hn, h⟩
    · rw [h, obind_some, eqN_one, sel_false]
      refine ⟨false, rfl, fun h => (by cases h), fun hv => ?_⟩
      rw [hv.may x (List.mem_of_getElem? hx), prevC_ord hv.ord hx] at hp
      simp only [Bool.not_true, Bool.false_or, Bool.or_false, Bool.not_eq_true'] at hp
      obtain ⟨g1, g2⟩ := (rdirB_val l (splitF x.1).1 hl).2.2 hv.ord hp
      rcases hv.up x (List.mem_of_getElem? hx) with hu | ⟨y, hy, hy1, hy2⟩
      · exact absurd hu g1
      · exact absurd hy2 (g2 y hy hy1)
    · rw [h, obind_some, eqN_zero, sel_true]
      have hn' : ∀ (i : Nat) (x : Nd), l[i]? = some x → mayF x = true ∧ rdirB l (splitF x.1).1 = true ∧ prevC l i x = false := fun i x hx => by
        have := hn i x hx
        simp only [Bool.or_eq_false_iff, Bool.not_eq_false'] at this
        exact ⟨this.1.1, this.1.2, this.2⟩
      refine ⟨true, rfl, fun _ => ⟨by omega, prevC_adj fun i x hx => (hn' i x hx).2.2, fun x hx => ?_, fun x hx => ?_⟩, fun _ => rfl⟩
      · obtain ⟨i, hi⟩ := mem_at.1 hx
        exact (hn' i x hi).1
      · obtain ⟨i, hi⟩ := mem_at.1 hx
        exact (rdirB_val l (splitF x.1).1 hl).2.1 (hn' i x hi).2.1
end Go.Ge

/- Rows from which some are taken, and into which one is laid: in plain words. -/
namespace Go.Ge
set_option linter.unusedVariables false
set_option linter.unusedSimpArgs false

/-! ### Trees -/
/-- What goes with a path. -/
def gone (p : List UInt8) (x : Nd) : Bool := decide (x.1 = p) || underL (parts x.1) (parts p)
def restF (l : List Nd) (p : List UInt8) : List Nd := l.filter fun x => !gone p x

theorem Ord.filter {l : List Nd} (h : Ord l) (P : Nd → Bool) : Ord (l.filter P) := by
  have hp : l.Pairwise fun x y => cmpL (key x) (key y) < 0 := by
    rw [List.pairwise_iff_getElem]
    intro i j hi hj hij
    exact h i j _ _ hij (List.getElem?_eq_getElem hi) (List.getElem?_eq_getElem hj)
  have hq := hp.filter P
  rw [List.pairwise_iff_getElem] at hq
  intro i j x y hij hx hy
  obtain ⟨h1, h2⟩ := List.getElem?_eq_some_iff.1 hx
  obtain ⟨h3, h4⟩ := List.getElem?_eq_some_iff.1 hy
  rw [← h2, ← h4]
  exact hq i j h1 h3 hij
theorem SmL.filter {l : List Nd} (h : SmL l) (P : Nd → Bool) : SmL (l.filter P) := ⟨Nat.le_trans (List.length_filter_le _ _) h.1, fun x hx => h.2 x (List.mem_filter.1 hx).1⟩

end Go.Ge

/- A node put into a tree: in plain words. -/
namespace Go.Ge
set_option linter.unusedVariables false
set_option linter.unusedSimpArgs false

end Go.Ge

/- The reference's Put: in plain words. -/
namespace Go.Ge
set_option linter.unusedVariables false
set_option linter.unusedSimpArgs false

end Go.Ge

/- A tree's text, its nodes, its lists: in plain words. -/
namespace Go.Ge
set_option linter.unusedVariables false
set_option linter.unusedSimpArgs false

/-! ### The text -/
end Go.Ge

/- A tree's nodes, its lists; the law TreePuts: in plain words. -/
namespace Go.Ge
set_option linter.unusedVariables false
set_option linter.unusedSimpArgs false

def zeroN : Nd := ([], (0, (0, ([], ([], ())))))
def findF (l : List Nd) (p : List UInt8) : Nd × Bool × Unit := match l.find? fun x => decide (x.1 = p) with
  | some x => (x, (true, ()))
  | none => (zeroN, (false, ()))

theorem find_none' {l : List Nd} {p : List UInt8} (h : ∀ x ∈ l, x.1 ≠ p) : findF l p = (zeroN, (false, ())) := by
  unfold findF
  rw [List.find?_eq_none.2 (fun x hx => by simp [h x hx])]
theorem find_some' {l : List Nd} (ho : Ord l) {p : List UInt8} {x : Nd} (hx : x ∈ l) (e : x.1 = p) : findF l p = (x, (true, ())) := by
  unfold findF
  cases h : l.find? fun x => decide (x.1 = p) with
  | none => have := List.find?_eq_none.1 h x hx; simp [e] at this
  | some y =>
    have h1 := List.find?_some h
    have h2 := List.mem_of_find?_eq_some h
    have h1 : y.1 = p := by simpa using h1
    have := ho.uniq hx h2 (by rw [e, h1])
    subst this
    rfl

theorem tfind_val (l : List Nd) (p : List UInt8) (hl : SmL l) (hp : p.length ≤ 4096) (hv : Valid l) : P_tree_Find (l, (p, ())) = some (findF l p) := by
  obtain ⟨e, c1, c2⟩ := check_val' l hl
  obtain rfl := c2.2 hv
  obtain ⟨k, b, p1, p2, p3, p4⟩ := place_val l p hl hp
  have hpl := p4 hv.ord
  unfold P_tree_Find
  dsimp only
  rw [c1, obind_some]
  dsimp only
  rw [show nt (eqI 0 0) = false by rfl, sel_false, p1, obind_some]
  dsimp only
  cases b with
  | false => rw [nt_false, sel_true, find_none' (hpl.no rfl)]; rfl
  | true =>
    obtain ⟨x, hx, e⟩ := hpl.is rfl
    rw [nt_true, sel_false, idx_some' hx, obind_some, find_some' hv.ord (List.mem_of_getElem? hx) e]

/-! ### What may be, told by a program -/
def ordB : List Nd → Bool
  | a :: b :: r => decide (cmpL (key a) (key b) < 0) && ordB (b :: r)
  | _ => true
theorem ordB_ord : ∀ {l : List Nd}, ordB l = true → Ord l := by
  intro l h
  refine ord_of_adj ?_
  induction l with
  | nil => intro k x y hx; simp at hx
  | cons a r ih =>
    cases r with
    | nil => intro k x y hx hy; simp at hy
    | cons b r =>
      simp only [ordB, Bool.and_eq_true, decide_eq_true_eq] at h
      intro k x y hx hy
      cases k with
      | zero =>
        obtain rfl : a = x := by simpa using hx
        obtain rfl : b = y := by simpa using hy
        exact h.1
      | succ k => exact ih h.2 k x y hx hy
def validB (l : List Nd) : Bool := decide (l.length ≤ 64) && ordB l && l.all mayF && l.all fun x => decide ((splitF x.1).1 = []) || l.any fun y => decide (y.1 = (splitF x.1).1) && decide (y.2.1 = 2)
theorem validB_valid {l : List Nd} (h : validB l = true) : Valid l := by
  unfold validB at h
  simp only [Bool.and_eq_true, decide_eq_true_eq] at h
  refine ⟨h.1.1.1, ordB_ord h.1.1.2, fun x hx => List.all_eq_true.1 h.1.2 x hx, fun x hx => ?_⟩
  have := List.all_eq_true.1 h.2 x hx
  simp only [Bool.or_eq_true, decide_eq_true_eq, List.any_eq_true, Bool.and_eq_true] at this
  exact this
/-! ### awake -/
theorem sm2 {n m : Nd} (h : Sm n) (g : Sm m) : SmL [n, m] := ⟨by simp, fun x hx => by
  rw [List.mem_cons, List.mem_singleton] at hx
  rcases hx with rfl | rfl
  · exact h
  · exact g⟩

/-- Two trees that are the same. -/
theorem t14_same_self (l : List Nd) (hl : l.length ≤ 4294967296) : P_ref14_Same (l, (l, ())) = some (true, ()) := by
  unfold P_ref14_Same
  dsimp only
  rw [eqI_self, nt_true, sel_false]
  rcases srch (f := P_ref14_Same_L0 (l, (l, ()))) l (fun i => ((false, (i, ())), ())) (fun _ _ => false) (fun i x => (1, ((false, ((i : Int), ())), ()))) ((0 : Nat), ((false, ((l.length : Int), ())), ())) hl (fun i x hx hi ha => by
      unfold P_ref14_Same_L0
      dsimp only
      rw [ltI_len_true hi, sel_true, sel_true, idx_some' hx, obind_some, obind_some, eqS_self, eqS_self, eqS_self, eqI_self, eqI_self, ha]
      rfl) (by unfold P_ref14_Same_L0; dsimp only; rw [ltI_len_end, sel_false, sel_false]) with ⟨i, x, _, hp, _⟩ | ⟨hn, h⟩
  · cases hp
  · rw [h]; rfl

theorem few14_val (l : List Nd) (n : Nat) (c : Int) (hc : c = n) (hn : n ≤ 4096) : ∃ b, P_ref14_Few (l, (c, ())) = some (b, ()) ∧ (b = true → l.length ≤ n ∧ SmL l) := by
  subst hc
  unfold P_ref14_Few
  rcases srchTo (f := P_ref14_Few_L0 (l, ((n : Int), ()))) l n (fun i => ((false, (i, ())), ())) (fun _ x => decide (200 < x.1.length) || decide (200 < x.2.2.2.2.1.length) || decide (1024 < x.2.2.2.1.length)) (fun i x => (1, ((false, ((i : Int), ())), ()))) (fun m => (0, ((false, ((m : Int), ())), ()))) (by omega) (fun i x hx hi hin ha => by
      unfold P_ref14_Few_L0
      dsimp only
      have l1 : ∀ {m : List UInt8}, ltI 200 (len m) = decide (200 < m.length) := fun {m} => by unfold ltI len; apply decide_eq_decide.2; omega
      have l2 : ∀ {m : List UInt8}, ltI 1024 (len m) = decide (1024 < m.length) := fun {m} => by unfold ltI len; apply decide_eq_decide.2; omega
      rw [ltI_len_true hi, sel_true, ltI_true (show (i : Int) < n by omega), sel_true, idx_some' hx, obind_some, obind_some, obind_some, l1, l1, l2, ha]
      cases decide (200 < x.1.length) <;> cases decide (200 < x.2.2.2.2.1.length) <;> cases decide (1024 < x.2.2.2.1.length) <;> rfl) (by
      unfold P_ref14_Few_L0
      dsimp only
      have : sel (ltI ((min n l.length : Nat) : Int) (len l)) (ltI ((min n l.length : Nat) : Int) (n : Int)) false = false := by
        by_cases h : l.length ≤ n
        · rw [Nat.min_eq_right h, ltI_len_end, sel_false]
        · rw [Nat.min_eq_left (by omega), ltI_false (Int.le_refl _)]
          cases ltI (n : Int) (len l) <;> rfl
      rw [this, sel_false]) with ⟨i, x, hi, hx, hp, _, h⟩ | ⟨hn2, h⟩
  · rw [h]; exact ⟨false, rfl, fun h => (by cases h)⟩
  · rw [h]
    refine ⟨_, rfl, fun hb => ?_⟩
    dsimp only at hb
    rw [leI_len] at hb
    have h8 := of_decide_eq_true hb
    refine ⟨h8, by omega, fun x hx => ?_⟩
    obtain ⟨i, hi⟩ := mem_at.1 hx
    have := hn2 i x (by have := getElem?_lt hi; omega) hi
    simp only [Bool.or_eq_false_iff, decide_eq_false_iff_not, Nat.not_lt] at this
    exact ⟨this.1.1, this.1.2, this.2⟩

end Go.Ge

/- The law TreeTells: a tree's text tells it: in plain words. -/
namespace Go.Ge
set_option linter.unusedVariables false
set_option linter.unusedSimpArgs false

set_option synthInstance.maxHeartbeats 200000 in
set_option synthInstance.maxSize 4000 in
instance decNd : DecidableEq Nd := inferInstance

/-- Are two trees the same. -/
theorem same_val (l m : List Nd) (hl : l.length ≤ 4294967296) : P_ref14_Same (l, (m, ())) = some (decide (l = m), ()) := by
  by_cases e : l = m
  · subst e
    rw [t14_same_self l hl]; simp
  · unfold P_ref14_Same
    dsimp only
    rw [eqI_lens, decide_eq_false e]
    by_cases hlen : l.length = m.length
    · rw [decide_eq_true hlen, nt_true, sel_false]
      rcases srch (f := P_ref14_Same_L0 (l, (m, ()))) l (fun i => ((false, (i, ())), ())) (fun i x => match m[i]? with | some y => !decide (x = y) | none => false) (fun i x => (1, ((false, ((i : Int), ())), ()))) ((0 : Nat), ((false, ((l.length : Int), ())), ())) hl (fun i x hx hi ha => by
          unfold P_ref14_Same_L0
          dsimp only
          obtain ⟨y, hy⟩ : ∃ y, m[i]? = some y := ⟨_, List.getElem?_eq_getElem (by omega)⟩
          rw [ltI_len_true hi, ltI_len_true (show i < m.length by omega), sel_true, sel_true, idx_some' hx, obind_some, idx_some' hy, obind_some, ha, hy]
          have hq : an (eqS x.1 y.1) (an (eqI x.2.1 y.2.1) (an (eqI x.2.2.1 y.2.2.1) (an (eqS x.2.2.2.1 y.2.2.2.1) (an (eqS x.2.2.2.2.1 y.2.2.2.2.1) true)))) = decide (x = y) := by
            obtain ⟨x1, x2, x3, x4, x5, x6⟩ := x
            obtain ⟨y1, y2, y3, y4, y5, y6⟩ := y
            unfold an eqS eqI
            rw [Bool.eq_iff_iff]
            simp
          rw [hq]
          by_cases hxy : x = y
          · simp [hxy, sel, nt]
          · simp [hxy, sel, nt]) (by unfold P_ref14_Same_L0; dsimp only; rw [ltI_len_end, sel_false, sel_false]) with ⟨i, x, _, _, _, h⟩ | ⟨hn, h⟩
      · rw [h]; rfl
      · exfalso
        apply e
        apply List.ext_getElem?
        intro i
        by_cases hi : i < l.length
        · have hx : l[i]? = some l[i] := List.getElem?_eq_getElem hi
          have hy : m[i]? = some m[i] := List.getElem?_eq_getElem (by omega)
          have := hn i l[i] hx
          rw [hy] at this
          simp at this
          rw [hx, hy, this]
        · rw [List.getElem?_eq_none (by omega), List.getElem?_eq_none (by omega)]
    · rw [decide_eq_false hlen, nt_false, sel_true]

end Go.Ge

/- The law TreeIs: in plain words. -/
namespace Go.Ge
set_option linter.unusedVariables false
set_option linter.unusedSimpArgs false

/-! ### What goes -/
/-! ### What lies under -/
/-! ### The reference's text -/
/-! ### The reference's nodes and lists -/
end Go.Ge

/- What the functions of layer 14 compute, as plain programs (written by a program from what the ghost interpreter comes to). -/
namespace Go.Ge
set_option linter.unusedVariables false
set_option maxRecDepth 100000

end Go.Ge

/- What is put into a tree leaves a tree; the law TreeStays: in plain words. -/
namespace Go.Ge
set_option linter.unusedVariables false
set_option linter.unusedSimpArgs false

theorem ord_pairs {l : List Nd} : Ord l ↔ l.Pairwise fun x y => cmpL (key x) (key y) < 0 := by
  constructor
  · intro h
    rw [List.pairwise_iff_getElem]
    intro i j hi hj hij
    exact h i j _ _ hij (List.getElem?_eq_getElem hi) (List.getElem?_eq_getElem hj)
  · intro h i j x y hij hx hy
    rw [List.pairwise_iff_getElem] at h
    obtain ⟨h1, h2⟩ := List.getElem?_eq_some_iff.1 hx
    obtain ⟨h3, h4⟩ := List.getElem?_eq_some_iff.1 hy
    rw [← h2, ← h4]
    exact h i j h1 h3 hij

/-- What is left of a tree once a node is put into it. -/
def PutRest (l : List Nd) (n : Nd) (r : List Nd) : Prop :=
  (((∃ x ∈ l, x.1 = n.1 ∧ x.2.1 = 2) ∧ n.2.1 = 2) ∧ r = l.filter (fun x => !decide (x.1 = n.1))) ∨ ((¬ ((∃ x ∈ l, x.1 = n.1 ∧ x.2.1 = 2) ∧ n.2.1 = 2)) ∧ r = restF l n.1)

theorem PutRest.sub {l r : List Nd} {n : Nd} (h : PutRest l n r) : (∀ x ∈ r, x ∈ l ∧ x.1 ≠ n.1) ∧ ∃ P, r = l.filter P := by
  rcases h with ⟨_, rfl⟩ | ⟨_, rfl⟩
  · refine ⟨fun x hx => ?_, _, rfl⟩
    have := List.mem_filter.1 hx
    simpa using this
  · refine ⟨fun x hx => ?_, _, rfl⟩
    have := List.mem_filter.1 hx
    unfold gone at this
    simp at this
    exact ⟨this.1, this.2.1⟩

end Go.Ge

/- What changed between two trees: in plain words. -/
namespace Go.Ge
set_option linter.unusedVariables false
set_option linter.unusedSimpArgs false

abbrev Dl := Int × List UInt8 × Unit

/-- Two rows in order, gone through together. -/
def mrg : List Nd → List Nd → List Dl
  | [], [] => []
  | x :: a, [] => (3, (x.1, ())) :: mrg a []
  | [], y :: b => (1, (y.1, ())) :: mrg [] b
  | x :: a, y :: b =>
    if cmpL (key x) (key y) < 0 then (3, (x.1, ())) :: mrg a (y :: b)
    else if 0 < cmpL (key x) (key y) then (1, (y.1, ())) :: mrg (x :: a) b
    else (if x = y then [] else [(2, (x.1, ()))]) ++ mrg a b
  termination_by a b => a.length + b.length

theorem mrg_len : ∀ (n : Nat) (a b : List Nd), a.length + b.length ≤ n → (mrg a b).length ≤ a.length + b.length := by
  intro n
  induction n with
  | zero =>
    intro a b h
    obtain rfl := List.length_eq_zero_iff.1 (show a.length = 0 by omega)
    obtain rfl := List.length_eq_zero_iff.1 (show b.length = 0 by omega)
    simp [mrg]
  | succ n ih =>
    intro a b h
    cases a with
    | nil =>
      cases b with
      | nil => simp [mrg]
      | cons y b =>
        rw [mrg]
        have := ih [] b (by simp at h ⊢; omega)
        simp at this ⊢; omega
    | cons x a =>
      cases b with
      | nil =>
        rw [mrg]
        have := ih a [] (by simp at h ⊢; omega)
        simp at this ⊢; omega
      | cons y b =>
        rw [mrg]
        split
        · have := ih a (y :: b) (by simp at h ⊢; omega)
          simp at this ⊢; omega
        · split
          · have := ih (x :: a) b (by simp at h ⊢; omega)
            simp at this ⊢; omega
          · have := ih a b (by simp at h ⊢; omega)
            rw [List.length_append]
            split <;> simp <;> omega

theorem sub_rest {α : Type} (x : α) (r : List α) : sub (x :: r) 1 (minus (len (x :: r)) 1) = r := sub_drop (x :: r) 1 (by simp)

/-- Which comes first. -/
def ord3 (a b : List Nd) : Int := match a, b with
  | [], _ => 1
  | _ :: _, [] => -1
  | x :: _, y :: _ => cmpL (key x) (key y)

theorem ord3_val (a b : List Nd) (ha : SmL a) (hb : SmL b) :
    (obind (sel (eqI (len a) 0) (some (((1 : Int), ()), ())) (obind (sel (eqI (len b) 0) (some (((-1 : Int), ()), ())) (obind (idx a 0) (fun (y4 : Nd) => obind (idx b 0) (fun (y5 : Nd) => obind (P_paths_Compare (y4.1, (y5.1, ()))) (fun (y6 : Int × Unit) => some ((y6.1, ()), ())))))) (fun (y4 : (Int × Unit) × Unit) => some ((y4.1.1, ()), ())))) fun (y : (Int × Unit) × Unit) => some y) = some ((ord3 a b, ()), ()) := by
  cases a with
  | nil => rfl
  | cons x a =>
    have h0 : eqI (len (x :: a)) 0 = false := by unfold eqI len; exact decide_eq_false (by simp; omega)
    rw [h0, sel_false]
    cases b with
    | nil => rfl
    | cons y b =>
      have h1 : eqI (len (y :: b)) 0 = false := by unfold eqI len; exact decide_eq_false (by simp; omega)
      rw [h1, sel_false, show idx (x :: a) 0 = some x from rfl, show idx (y :: b) 0 = some y from rfl, obind_some, obind_some, compare_val _ _ (by have := (ha.2 x (by simp)).1; omega) (by have := (hb.2 y (by simp)).1; omega)]
      rfl

/-- What is noted where both lie. -/
def both2 (a b : List Nd) : List Dl := match a, b with
  | x :: _, y :: _ => if x = y then [] else [(2, (x.1, ()))]
  | _, _ => []

theorem both2_len (a b : List Nd) : (both2 a b).length ≤ 1 := by
  unfold both2
  split
  · split <;> simp
  · simp

/-- One round. -/
theorem changes_step (a b : List Nd) (acc : List Dl) (ha : SmL a) (hb : SmL b) (hne : a ≠ [] ∨ b ≠ []) (hf : ∀ c : Dl, fits (plus (len acc) (len [c])) = true) :
    P_delta_Changes_L0 ((a, (b, ())), ((), ((), (acc, ())))) = some (.inl (
      if ord3 a b < 0 then ((a.drop 1, (b, ())), ((), ((), (acc ++ (a.take 1).map (fun x => (3, (x.1, ()))), ()))))
      else if 0 < ord3 a b then ((a, (b.drop 1, ())), ((), ((), (acc ++ (b.take 1).map (fun y => (1, (y.1, ()))), ()))))
      else ((a.drop 1, (b.drop 1, ())), ((), ((), (acc ++ both2 a b, ())))))) := by
  have e1 : sel (nt (ltI 0 (len a))) (ltI 0 (len b)) true = true := by
    rw [ltI_len0, ltI_len0]
    cases a with
    | cons x a => simp [sel, nt]
    | nil =>
      cases b with
      | cons y b => simp [sel, nt]
      | nil => simp at hne
  have e2 := ord3_val a b ha hb
  have e3 : ∀ o : Option ((Int × Unit) × Unit), obind o (fun y => some y) = o := fun o => by cases o <;> rfl
  rw [e3] at e2
  unfold P_delta_Changes_L0
  dsimp only
  rw [e1, sel_true, e2, obind_some]
  dsimp only
  have hin : ∀ {x : Nd} {r : List Nd}, inside 1 (len (x :: r)) (len (x :: r)) = true := fun {x r} => inside_true (by omega) (by unfold len; simp; omega) (Int.le_refl _)
  by_cases h1 : ord3 a b < 0
  · rw [if_pos h1, ltI_true h1, sel_true, leI_true (by omega), sel_true, leI_false h1, sel_false]
    cases a with
    | nil => simp [ord3] at h1
    | cons x a =>
      rw [show idx (x :: a) 0 = some x from rfl, obind_some, hf, sel_true, hin, sel_true, sub_rest]
      rfl
  · rw [if_neg h1, ltI_false (by omega), sel_false]
    by_cases h2 : 0 < ord3 a b
    · rw [if_pos h2, ltI_true h2, sel_true, leI_false (by omega), sel_false, leI_true (by omega), sel_true]
      cases b with
      | nil => cases a <;> simp [ord3] at h2 hne
      | cons y b =>
        rw [show idx (y :: b) 0 = some y from rfl, obind_some, hf, sel_true, hin, sel_true, sub_rest]
        rfl
    · rw [if_neg h2, ltI_false (by omega), sel_false, leI_true (by omega), sel_true, leI_true (by omega), sel_true]
      cases a with
      | nil => simp [ord3] at h2
      | cons x a =>
        cases b with
        | nil => simp [ord3] at h1
        | cons y b =>
          have hq : an (eqS x.1 y.1) (an (eqI x.2.1 y.2.1) (an (eqI x.2.2.1 y.2.2.1) (an (eqS x.2.2.2.1 y.2.2.2.1) (an (eqS x.2.2.2.2.1 y.2.2.2.2.1) true)))) = decide (x = y) := by
            obtain ⟨x1, x2, x3, x4, x5, x6⟩ := x
            obtain ⟨y1, y2, y3, y4, y5, y6⟩ := y
            unfold an eqS eqI
            rw [Bool.eq_iff_iff]
            simp
          rw [show idx (x :: a) 0 = some x from rfl, show idx (y :: b) 0 = some y from rfl, obind_some, obind_some, hq, hf, hin, hin, sub_rest, sub_rest]
          by_cases e : x = y
          · rw [decide_eq_true e, nt_true, sel_false]
            unfold both2
            dsimp only
            rw [if_pos e, List.append_nil]
            rfl
          · rw [decide_eq_false e, nt_false, sel_true]
            unfold both2
            dsimp only
            rw [if_neg e]
            rfl

theorem mrg_step (a b : List Nd) (hne : a ≠ [] ∨ b ≠ []) : mrg a b =
    if ord3 a b < 0 then (a.take 1).map (fun x => ((3, (x.1, ())) : Dl)) ++ mrg (a.drop 1) b
    else if 0 < ord3 a b then (b.take 1).map (fun y => ((1, (y.1, ())) : Dl)) ++ mrg a (b.drop 1)
    else both2 a b ++ mrg (a.drop 1) (b.drop 1) := by
  cases a with
  | nil =>
    cases b with
    | nil => simp at hne
    | cons y b => rw [mrg, if_neg (by simp [ord3]), if_pos (by simp [ord3])]; rfl
  | cons x a =>
    cases b with
    | nil => rw [mrg, if_pos (by simp [ord3])]; rfl
    | cons y b =>
      rw [mrg]
      show _ = if cmpL (key x) (key y) < 0 then _ else if 0 < cmpL (key x) (key y) then _ else _
      split
      · rfl
      · split
        · rfl
        · rfl

theorem SmL.drop {l : List Nd} (h : SmL l) (k : Nat) : SmL (l.drop k) := ⟨by rw [List.length_drop]; have := h.1; omega, fun x hx => h.2 x (List.mem_of_mem_drop hx)⟩

theorem changes_loop : ∀ (n : Nat) (a b : List Nd) (acc : List Dl), a.length + b.length ≤ n → SmL a → SmL b → acc.length + a.length + b.length ≤ 100000 →
    ∃ s, Loop P_delta_Changes_L0 ((a, (b, ())), ((), ((), (acc, ())))) = some (s, ((), ((), (acc ++ mrg a b, ())))) := by
  have fin : ∀ acc : List Dl, P_delta_Changes_L0 (([], ([], ())), ((), ((), (acc, ())))) = some (.inr (([], ([], ())), ((), ((), (acc, ()))))) := fun acc => rfl
  intro n
  induction n with
  | zero =>
    intro a b acc h _ _ _
    obtain rfl := List.length_eq_zero_iff.1 (show a.length = 0 by omega)
    obtain rfl := List.length_eq_zero_iff.1 (show b.length = 0 by omega)
    refine ⟨([], ([], ())), ?_⟩
    rw [Loop_eq, fin, mrg, List.append_nil]
    rfl
  | succ n ih =>
    intro a b acc h ha hb hacc
    by_cases hne : a ≠ [] ∨ b ≠ []
    · have hst := changes_step a b acc ha hb hne (fun c => fits_len2 (by simp; omega))
      rw [Loop_eq, hst, mrg_step a b hne]
      have hda : a ≠ [] → (a.drop 1).length = a.length - 1 ∧ 0 < a.length := fun h => ⟨by simp, List.length_pos_iff.2 h⟩
      have hdb : b ≠ [] → (b.drop 1).length = b.length - 1 ∧ 0 < b.length := fun h => ⟨by simp, List.length_pos_iff.2 h⟩
      by_cases h1 : ord3 a b < 0
      · have hane : a ≠ [] := fun e => by subst e; simp [ord3] at h1
        have := hda hane
        obtain ⟨s, hs⟩ := ih (a.drop 1) b (acc ++ (a.take 1).map (fun x => (3, (x.1, ())))) (by omega) (ha.drop 1) hb (by simp at this ⊢; omega)
        refine ⟨s, ?_⟩
        rw [if_pos h1, if_pos h1, ← List.append_assoc]
        exact hs
      · by_cases h2 : 0 < ord3 a b
        · have hbne : b ≠ [] := fun e => by subst e; cases a <;> simp [ord3] at h2 hne
          have := hdb hbne
          obtain ⟨s, hs⟩ := ih a (b.drop 1) (acc ++ (b.take 1).map (fun y => (1, (y.1, ())))) (by omega) ha (hb.drop 1) (by simp at this ⊢; omega)
          refine ⟨s, ?_⟩
          rw [if_neg h1, if_neg h1, if_pos h2, if_pos h2, ← List.append_assoc]
          exact hs
        · have hane : a ≠ [] := fun e => by subst e; simp [ord3] at h2
          have hbne : b ≠ [] := fun e => by subst e; cases a <;> simp [ord3] at h1 hane
          have g1 := hda hane
          have g2 := hdb hbne
          obtain ⟨s, hs⟩ := ih (a.drop 1) (b.drop 1) (acc ++ both2 a b) (by omega) (ha.drop 1) (hb.drop 1) (by
            have := both2_len a b
            rw [List.length_append]
            omega)
          refine ⟨s, ?_⟩
          rw [if_neg h1, if_neg h1, if_neg h2, if_neg h2, ← List.append_assoc]
          exact hs
    · have : a = [] ∧ b = [] := by
        cases a with
        | nil => cases b with
          | nil => exact ⟨rfl, rfl⟩
          | cons y b => simp at hne
        | cons x a => simp at hne
      obtain ⟨rfl, rfl⟩ := this
      refine ⟨([], ([], ())), ?_⟩
      rw [Loop_eq, fin, mrg, List.append_nil]
      rfl
end Go.Ge

/- What changed, told one by one: the reference's way: in plain words. -/
namespace Go.Ge
set_option linter.unusedVariables false
set_option linter.unusedSimpArgs false

open Classical in
/-- What changed between two trees. -/
noncomputable def chgF (a b : List Nd) : List Dl × Int := if Valid a ∧ Valid b then (mrg a b, 0) else ([], 1)

theorem changes_val (a b : List Nd) (ha : SmL a) (hb : SmL b) : P_delta_Changes (a, (b, ())) = some ((chgF a b).1, ((chgF a b).2, ())) := by
  obtain ⟨e, c1, c2⟩ := check_val' a ha
  obtain ⟨f, d1, d2⟩ := check_val' b hb
  unfold P_delta_Changes
  dsimp only
  rw [c1, obind_some, d1]
  simp only [obind_some]
  by_cases hv : Valid a ∧ Valid b
  · obtain rfl := c2.2 hv.1
    obtain rfl := d2.2 hv.2
    have h := ha.1
    have h2 := hb.1
    obtain ⟨s, hs⟩ := changes_loop (a.length + b.length) a b [] (Nat.le_refl _) ha hb (by simp; omega)
    rw [show (sel (nt (nt (eqI 0 0))) (some (nt (eqI 0 0))) (some true) : Option Bool) = some false from rfl, obind_some, sel_false, hs, obind_some]
    unfold chgF
    rw [if_pos hv, List.nil_append]
  · have hh : (sel (nt (nt (eqI e 0))) (some (nt (eqI f 0))) (some true) : Option Bool) = some true := by
      by_cases h1 : e = 0
      · by_cases h2 : f = 0
        · exact absurd ⟨c2.1 h1, d2.1 h2⟩ hv
        · rw [show eqI f 0 = false by simp [eqI, h2]]
          cases nt (nt (eqI e 0)) <;> rfl
      · rw [show eqI e 0 = false by simp [eqI, h1]]; rfl
    rw [hh, obind_some, sel_true]
    unfold chgF
    rw [if_neg hv]

end Go.Ge

/- Rows of changes in order: in plain words. -/
namespace Go.Ge
set_option linter.unusedVariables false
set_option linter.unusedSimpArgs false

def ltC (x y : Dl) : Prop := cmpL (parts x.2.1) (parts y.2.1) < 0
instance decLtC (x y : Dl) : Decidable (ltC x y) := inferInstanceAs (Decidable (cmpL (parts x.2.1) (parts y.2.1) < 0))
def OrdC (l : List Dl) : Prop := l.Pairwise ltC

theorem ltC_irrefl (x : Dl) : ¬ ltC x x := by unfold ltC; rw [cmpL_self]; omega
theorem ltC_trans {x y z : Dl} (h : ltC x y) (g : ltC y z) : ltC x z := cmpL_trans h g

/-- Two rows in order with the same members are one. -/
theorem ordC_ext : ∀ {l m : List Dl}, OrdC l → OrdC m → (∀ c, c ∈ l ↔ c ∈ m) → l = m := by
  intro l
  induction l with
  | nil =>
    intro m _ _ h
    cases m with
    | nil => rfl
    | cons d m => exact absurd ((h d).2 (by simp)) (by simp)
  | cons c l ih =>
    intro m hl hm h
    cases m with
    | nil => exact absurd ((h c).1 (by simp)) (by simp)
    | cons d m =>
      unfold OrdC at hl hm
      rw [List.pairwise_cons] at hl hm
      have hcd : c = d := by
        have h1 : c = d ∨ c ∈ m := by simpa using (h c).1 (by simp)
        have h2 : d = c ∨ d ∈ l := by simpa using (h d).2 (by simp)
        rcases h1 with e | h1
        · exact e
        · rcases h2 with e | h2
          · exact e.symm
          · exact absurd (ltC_trans (hl.1 d h2) (hm.1 c h1)) (ltC_irrefl c)
      subst hcd
      rw [ih hl.2 hm.2 fun q => ?_]
      constructor
      · intro hq
        have : q = c ∨ q ∈ m := by simpa using (h q).1 (by simp [hq])
        rcases this with e | h1
        · subst e; exact absurd (hl.1 q hq) (ltC_irrefl q)
        · exact h1
      · intro hq
        have : q = c ∨ q ∈ l := by simpa using (h q).2 (by simp [hq])
        rcases this with e | h1
        · subst e; exact absurd (hm.1 q hq) (ltC_irrefl q)
        · exact h1

/-- What a change between two trees is. -/
def IsC (a b : List Nd) (c : Dl) : Prop :=
  (c.1 = 3 ∧ ∃ x ∈ a, x.1 = c.2.1 ∧ ∀ y ∈ b, y.1 ≠ x.1) ∨ (c.1 = 1 ∧ ∃ y ∈ b, y.1 = c.2.1 ∧ ∀ x ∈ a, x.1 ≠ y.1) ∨ (c.1 = 2 ∧ ∃ x ∈ a, ∃ y ∈ b, x.1 = y.1 ∧ x ≠ y ∧ x.1 = c.2.1)

theorem IsC.path {a b : List Nd} {c : Dl} (h : IsC a b c) : (∃ x ∈ a, x.1 = c.2.1) ∨ ∃ y ∈ b, y.1 = c.2.1 := by
  rcases h with ⟨_, x, hx, e, _⟩ | ⟨_, y, hy, e, _⟩ | ⟨_, x, hx, _, _, _, _, e⟩
  · exact .inl ⟨x, hx, e⟩
  · exact .inr ⟨y, hy, e⟩
  · exact .inl ⟨x, hx, e⟩

def PO (l : List Nd) : Prop := l.Pairwise fun x y => cmpL (key x) (key y) < 0

theorem key_ne {x y : Nd} (h : cmpL (key x) (key y) < 0) : x.1 ≠ y.1 := fun e => by
  unfold key at h
  rw [e, cmpL_self] at h
  omega
theorem key_eq {x y : Nd} (h1 : ¬ cmpL (key x) (key y) < 0) (h2 : ¬ 0 < cmpL (key x) (key y)) : x.1 = y.1 := by
  have := cmpL_zero (show cmpL (key x) (key y) = 0 by omega)
  unfold key at this
  rw [← joinS_parts x.1, this, joinS_parts]

theorem mrg_spec : ∀ (n : Nat) (a b : List Nd), a.length + b.length ≤ n → PO a → PO b → OrdC (mrg a b) ∧ ∀ c, c ∈ mrg a b ↔ IsC a b c := by
  -- the first one ahead of all
  have ahead : ∀ {a b : List Nd} {k : Int} {p : List UInt8} {r : List Dl}, OrdC r → (∀ c, c ∈ r ↔ IsC a b c) → (∀ x ∈ a, cmpL (parts p) (key x) < 0) → (∀ y ∈ b, cmpL (parts p) (key y) < 0) → OrdC (((k, (p, ())) : Dl) :: r) := by
    intro a b k p r hr hm h1 h2
    refine List.pairwise_cons.2 ⟨fun c hc => ?_, hr⟩
    show cmpL (parts p) (parts c.2.1) < 0
    rcases ((hm c).1 hc).path with ⟨x, hx, e⟩ | ⟨y, hy, e⟩
    · rw [← e]; exact h1 x hx
    · rw [← e]; exact h2 y hy
  intro n
  induction n with
  | zero =>
    intro a b h _ _
    obtain rfl := List.length_eq_zero_iff.1 (show a.length = 0 by omega)
    obtain rfl := List.length_eq_zero_iff.1 (show b.length = 0 by omega)
    rw [mrg]
    exact ⟨List.Pairwise.nil, fun c => by simp [IsC]⟩
  | succ n ih =>
    intro a b h ha hb
    cases a with
    | nil =>
      cases b with
      | nil => rw [mrg]; exact ⟨List.Pairwise.nil, fun c => by simp [IsC]⟩
      | cons y b =>
        have hb' := List.pairwise_cons.1 hb
        obtain ⟨i1, i2⟩ := ih [] b (by simp at h ⊢; omega) ha hb'.2
        rw [mrg]
        refine ⟨ahead i1 i2 (fun x hx => by cases hx) hb'.1, fun c => ?_⟩
        rw [List.mem_cons, i2]
        obtain ⟨c1, c2, u⟩ := c
        simp only [IsC, List.mem_cons, List.not_mem_nil, false_and, exists_false, and_false, or_false, false_or, Prod.mk.injEq, forall_const, false_implies, implies_true, and_true, exists_eq_or_imp]
        constructor
        · rintro (⟨rfl, rfl⟩ | ⟨rfl, y2, hy2, rfl⟩)
          · exact ⟨rfl, .inl rfl⟩
          · exact ⟨rfl, .inr ⟨y2, hy2, rfl⟩⟩
        · rintro ⟨rfl, rfl | ⟨y2, hy2, rfl⟩⟩
          · exact .inl ⟨rfl, rfl⟩
          · exact .inr ⟨rfl, y2, hy2, rfl⟩
    | cons x a =>
      have ha' := List.pairwise_cons.1 ha
      cases b with
      | nil =>
        obtain ⟨i1, i2⟩ := ih a [] (by simp at h ⊢; omega) ha'.2 hb
        rw [mrg]
        refine ⟨ahead i1 i2 ha'.1 (fun x hx => by cases hx), fun c => ?_⟩
        rw [List.mem_cons, i2]
        obtain ⟨c1, c2, u⟩ := c
        simp only [IsC, List.mem_cons, List.not_mem_nil, false_and, exists_false, and_false, or_false, false_or, Prod.mk.injEq, forall_const, false_implies, implies_true, and_true, exists_eq_or_imp]
        constructor
        · rintro (⟨rfl, rfl⟩ | ⟨rfl, y2, hy2, rfl⟩)
          · exact ⟨rfl, .inl rfl⟩
          · exact ⟨rfl, .inr ⟨y2, hy2, rfl⟩⟩
        · rintro ⟨rfl, rfl | ⟨y2, hy2, rfl⟩⟩
          · exact .inl ⟨rfl, rfl⟩
          · exact .inr ⟨rfl, y2, hy2, rfl⟩
      | cons y b =>
        have hb' := List.pairwise_cons.1 hb
        rw [mrg]
        split
        · rename_i hlt
          obtain ⟨i1, i2⟩ := ih a (y :: b) (by simp at h ⊢; omega) ha'.2 hb
          have hall : ∀ z ∈ y :: b, cmpL (key x) (key z) < 0 := fun z hz => by
            rcases List.mem_cons.1 hz with rfl | hz
            · exact hlt
            · exact cmpL_trans hlt (hb'.1 z hz)
          refine ⟨ahead i1 i2 ha'.1 hall, fun c => ?_⟩
          rw [List.mem_cons, i2]
          constructor
          · rintro (rfl | hc)
            · exact .inl ⟨rfl, x, by simp, rfl, fun z hz => (key_ne (hall z hz)).symm⟩
            · rcases hc with ⟨k, x2, hx2, e, hn⟩ | ⟨k, y2, hy2, e, hn⟩ | ⟨k, x2, hx2, y2, hy2, e1, e2, e3⟩
              · exact .inl ⟨k, x2, by simp [hx2], e, hn⟩
              · refine .inr (.inl ⟨k, y2, hy2, e, fun z hz => ?_⟩)
                rcases List.mem_cons.1 hz with rfl | hz
                · exact key_ne (hall y2 hy2)
                · exact hn z hz
              · exact .inr (.inr ⟨k, x2, by simp [hx2], y2, hy2, e1, e2, e3⟩)
          · rintro (⟨k, x2, hx2, e, hn⟩ | ⟨k, y2, hy2, e, hn⟩ | ⟨k, x2, hx2, y2, hy2, e1, e2, e3⟩)
            · rcases List.mem_cons.1 hx2 with rfl | hx2
              · exact .inl (by rw [e, ← k])
              · exact .inr (.inl ⟨k, x2, hx2, e, hn⟩)
            · exact .inr (.inr (.inl ⟨k, y2, hy2, e, fun z hz => hn z (by simp [hz])⟩))
            · rcases List.mem_cons.1 hx2 with rfl | hx2
              · exact absurd e1 (key_ne (hall y2 hy2))
              · exact .inr (.inr (.inr ⟨k, x2, hx2, y2, hy2, e1, e2, e3⟩))
        · rename_i hge
          split
          · rename_i hgt
            obtain ⟨i1, i2⟩ := ih (x :: a) b (by simp at h ⊢; omega) ha hb'.2
            have hyx : cmpL (key y) (key x) < 0 := by have := cmpL_neg (key y) (key x); omega
            have hall : ∀ z ∈ x :: a, cmpL (key y) (key z) < 0 := fun z hz => by
              rcases List.mem_cons.1 hz with rfl | hz
              · exact hyx
              · exact cmpL_trans hyx (ha'.1 z hz)
            refine ⟨ahead i1 i2 hall hb'.1, fun c => ?_⟩
            rw [List.mem_cons, i2]
            constructor
            · rintro (rfl | hc)
              · exact .inr (.inl ⟨rfl, y, by simp, rfl, fun z hz => (key_ne (hall z hz)).symm⟩)
              · rcases hc with ⟨k, x2, hx2, e, hn⟩ | ⟨k, y2, hy2, e, hn⟩ | ⟨k, x2, hx2, y2, hy2, e1, e2, e3⟩
                · refine .inl ⟨k, x2, hx2, e, fun z hz => ?_⟩
                  rcases List.mem_cons.1 hz with rfl | hz
                  · exact key_ne (hall x2 hx2)
                  · exact hn z hz
                · exact .inr (.inl ⟨k, y2, by simp [hy2], e, hn⟩)
                · exact .inr (.inr ⟨k, x2, hx2, y2, by simp [hy2], e1, e2, e3⟩)
            · rintro (⟨k, x2, hx2, e, hn⟩ | ⟨k, y2, hy2, e, hn⟩ | ⟨k, x2, hx2, y2, hy2, e1, e2, e3⟩)
              · exact .inr (.inl ⟨k, x2, hx2, e, fun z hz => hn z (by simp [hz])⟩)
              · rcases List.mem_cons.1 hy2 with rfl | hy2
                · exact .inl (by rw [e, ← k])
                · exact .inr (.inr (.inl ⟨k, y2, hy2, e, hn⟩))
              · rcases List.mem_cons.1 hy2 with rfl | hy2
                · exact absurd e1.symm (key_ne (hall x2 hx2))
                · exact .inr (.inr (.inr ⟨k, x2, hx2, y2, hy2, e1, e2, e3⟩))
          · rename_i hle
            obtain ⟨i1, i2⟩ := ih a b (by simp at h ⊢; omega) ha'.2 hb'.2
            have he : x.1 = y.1 := key_eq hge hle
            have hky : key x = key y := by unfold key; rw [he]
            have hxa : ∀ z ∈ a, x.1 ≠ z.1 := fun z hz => key_ne (ha'.1 z hz)
            have hyb : ∀ z ∈ b, x.1 ≠ z.1 := fun z hz => by rw [he]; exact key_ne (hb'.1 z hz)
            constructor
            · split
              · exact i1
              · exact ahead i1 i2 ha'.1 (fun z hz => by
                  show cmpL (key x) (key z) < 0
                  rw [hky]; exact hb'.1 z hz)
            · intro c
              rw [List.mem_append, i2]
              constructor
              · rintro (hc | hc)
                · split at hc
                  · cases hc
                  · rename_i hne
                    obtain rfl := List.mem_singleton.1 hc
                    exact .inr (.inr ⟨rfl, x, by simp, y, by simp, he, hne, rfl⟩)
                · rcases hc with ⟨k, x2, hx2, e, hn⟩ | ⟨k, y2, hy2, e, hn⟩ | ⟨k, x2, hx2, y2, hy2, e1, e2, e3⟩
                  · refine .inl ⟨k, x2, by simp [hx2], e, fun z hz => ?_⟩
                    rcases List.mem_cons.1 hz with rfl | hz
                    · rw [← he]; exact hxa x2 hx2
                    · exact hn z hz
                  · refine .inr (.inl ⟨k, y2, by simp [hy2], e, fun z hz => ?_⟩)
                    rcases List.mem_cons.1 hz with rfl | hz
                    · exact hyb y2 hy2
                    · exact hn z hz
                  · exact .inr (.inr ⟨k, x2, by simp [hx2], y2, by simp [hy2], e1, e2, e3⟩)
              · rintro (⟨k, x2, hx2, e, hn⟩ | ⟨k, y2, hy2, e, hn⟩ | ⟨k, x2, hx2, y2, hy2, e1, e2, e3⟩)
                · rcases List.mem_cons.1 hx2 with rfl | hx2
                  · exact absurd he.symm (hn y (by simp))
                  · exact .inr (.inl ⟨k, x2, hx2, e, fun z hz => hn z (by simp [hz])⟩)
                · rcases List.mem_cons.1 hy2 with rfl | hy2
                  · exact absurd he (hn x (by simp))
                  · exact .inr (.inr (.inl ⟨k, y2, hy2, e, fun z hz => hn z (by simp [hz])⟩))
                · rcases List.mem_cons.1 hx2 with rfl | hx2
                  · rcases List.mem_cons.1 hy2 with rfl | hy2
                    · left
                      rw [if_neg e2, List.mem_singleton, e3, ← k]
                    · exact absurd e1 (hyb y2 hy2)
                  · rcases List.mem_cons.1 hy2 with rfl | hy2
                    · exact absurd (he.trans e1.symm) (hxa x2 hx2)
                    · exact .inr (.inr (.inr ⟨k, x2, hx2, y2, hy2, e1, e2, e3⟩))
end Go.Ge

/- The reference's changes are the same: in plain words. -/
namespace Go.Ge
set_option linter.unusedVariables false
set_option linter.unusedSimpArgs false

/-- What the first loop tells. -/
def IsC1 (a b : List Nd) (c : Dl) : Prop :=
  (c.1 = 3 ∧ ∃ x ∈ a, x.1 = c.2.1 ∧ ∀ y ∈ b, y.1 ≠ x.1) ∨ (c.1 = 2 ∧ ∃ x ∈ a, ∃ y ∈ b, x.1 = y.1 ∧ x ≠ y ∧ x.1 = c.2.1)
theorem IsC1.path {a b : List Nd} {c : Dl} (h : IsC1 a b c) : ∃ x ∈ a, x.1 = c.2.1 := by
  rcases h with ⟨_, x, hx, e, _⟩ | ⟨_, x, hx, _, _, _, _, e⟩ <;> exact ⟨x, hx, e⟩
theorem fresh {l : List Nd} (ho : Ord l) {i : Nat} {x : Nd} (hx : l[i]? = some x) : ∀ z ∈ l.take i, z.1 ≠ x.1 := fun z hz => by
  obtain ⟨j, hj⟩ := mem_at.1 hz
  rw [List.getElem?_take] at hj
  split at hj
  · rename_i hji
    exact key_ne (ho j i z x hji hj hx)
  · cases hj

end Go.Ge

/- The reference's headers that may be; what a block is summed up to. -/
namespace Go.Ge
set_option linter.unusedVariables false
set_option linter.unusedSimpArgs false

/-! ### Sums -/
def sumAt (b : List UInt8) (k : Nat) : Nat := if 148 ≤ k ∧ k < 156 then 32 else (b.getD k 0).toNat
def sumTo (b : List UInt8) : Nat → Nat
  | 0 => 0
  | k + 1 => sumTo b k + sumAt b k
theorem sumAt_le (b : List UInt8) (k : Nat) : sumAt b k ≤ 255 := by
  unfold sumAt
  have := (b.getD k 0).toNat_lt
  split <;> omega
theorem sumTo_le (b : List UInt8) (k : Nat) : sumTo b k ≤ 255 * k := by
  induction k with
  | zero => exact Nat.le_refl _
  | succ k ih => have := sumAt_le b k; simp only [sumTo]; omega

theorem idx_fields : idx ([(0, (100, ())), (100, (8, ())), (108, (8, ())), (116, (8, ())), (124, (12, ())), (136, (12, ())), (148, (8, ())), (156, (1, ())), (157, (100, ())), (257, (8, ())), (345, (155, ()))] : List (Int × Int × Unit)) 6 = some (148, (8, ())) := rfl

theorem sum_val12 (b : List UInt8) (hb : b.length ≤ 1048576) : P_header_Sum (b, ()) = some ((sumTo b b.length : Int), ()) := by
  unfold P_header_Sum P_header_fields
  rw [obind_some]
  dsimp only
  rw [idx_fields, obind_some, fits_true (by simp only [len]; omega), sel_true]
  have key : Loop (P_header_Sum_L0 (b, ()) (148, (8, ()))) ((0, (0, ())), ()) = some (((sumTo b b.length : Int), ((b.length : Int), ())), ()) :=
    loop_seq (f := P_header_Sum_L0 (b, ()) (148, (8, ()))) (r := (((sumTo b b.length : Int), ((b.length : Int), ())), ())) b.length (fun k => (((sumTo b k : Int), ((k : Int), ())), ())) (fun k hk => by
      unfold P_header_Sum_L0
      dsimp only
      have h1 := sumTo_le b k
      have h2 := sumAt_le b k
      have hgd : b.getD k 0 = b[k] := by simp [List.getD_eq_getElem?_getD, hk]
      rw [len_bytes, ltI_true (by omega), sel_true, within_true (by omega) (by omega), sel_true, idx_bytes b hk, obind_some, way1_inl, iadd_one (by omega), show iadd .i64 148 8 = 156 from by decide]
      have hs : (sel (sel (leI 148 (k : Int)) (ltI (k : Int) 156) false) (((32 : Int), ()), ()) ((u8 b[k], ()), ())).1.1 = (sumAt b k : Int) := by
        unfold sumAt
        by_cases h : 148 ≤ k
        · by_cases h' : k < 156
          · rw [leI_true (by omega), sel_true, ltI_true (by omega), sel_true, if_pos ⟨h, h'⟩]; rfl
          · rw [leI_true (by omega), sel_true, ltI_false (by omega), sel_false, if_neg (fun e => h' e.2), hgd]; rfl
        · rw [leI_false (by omega), sel_false, sel_false, if_neg (fun e => h e.1), hgd]; rfl
      rw [hs, icv_i64 (by omega) (by omega), show iadd .i64 (sumTo b k : Int) (sumAt b k : Int) = ((sumTo b k + sumAt b k : Nat) : Int) from iadd_nat (by omega)]
      rfl) (by
      unfold P_header_Sum_L0
      dsimp only
      rw [len_bytes, ltI_false (by omega), sel_false, way1_inr])
  rw [key, obind_some]

end Go.Ge

/- A header's block, field by field. -/
namespace Go.Ge
set_option linter.unusedVariables false
set_option linter.unusedSimpArgs false

def nul (n : Nat) : List UInt8 := List.replicate n 0
theorem length_nul (n : Nat) : (nul n).length = n := List.length_replicate
def magic : List UInt8 := [117, 115, 116, 97, 114, 0, 48, 48]

theorem flat_split (fs : List (List UInt8)) (k : Nat) (hk : k < fs.length) : fs.flatten = (fs.take k).flatten ++ (fs[k] ++ (fs.drop (k + 1)).flatten) := by
  conv => lhs; rw [← List.take_append_drop k fs, List.drop_eq_getElem_cons hk]
  rw [List.flatten_append, List.flatten_cons]
theorem flat_set (fs : List (List UInt8)) (k : Nat) (hk : k < fs.length) (x : List UInt8) : (fs.set k x).flatten = (fs.take k).flatten ++ (x ++ (fs.drop (k + 1)).flatten) := by
  rw [List.set_eq_take_append_cons_drop, if_pos hk, List.flatten_append, List.flatten_cons]

theorem over_mid (A z R s : List UInt8) (off : Nat) (hA : A.length = off) (hs : s.length ≤ z.length) : over (bytesInts (A ++ (z ++ R))) (off : Int) (bytesInts s) = bytesInts (A ++ ((s ++ z.drop s.length) ++ R)) := by
  unfold over
  rw [Int.toNat_natCast, length_bytes]
  have h1 : (bytesInts (A ++ (z ++ R))).take off = bytesInts A := by rw [bytesInts_take, List.take_left' hA]
  have h2 : (bytesInts (A ++ (z ++ R))).drop (off + s.length) = bytesInts (z.drop s.length ++ R) := by
    have : (A ++ (z ++ R)).drop (off + s.length) = z.drop s.length ++ R := by
      rw [← hA, ← List.drop_drop, List.drop_left, List.drop_append_of_le_length hs]
    rw [← this]
    simp [bytesInts, List.map_drop]
  rw [h1, h2, ← bytesInts_app, ← bytesInts_app, List.append_assoc, List.append_assoc]

theorem ov (fs : List (List UInt8)) (k : Nat) (hk : k < fs.length) (s : List UInt8) (n l off : Nat) (hz : fs[k] = nul n) (hl : s.length = l) (hln : l ≤ n) (ho : (fs.take k).flatten.length = off) (h5 : off + l ≤ 512) :
    over (bytesInts fs.flatten) (off : Int) (ltake (bytesInts s) (minus 512 (off : Int))) = bytesInts (fs.set k (s ++ nul (n - l))).flatten := by
  have e : ltake (bytesInts s) (minus 512 (off : Int)) = bytesInts s := by
    unfold ltake minus
    rw [List.take_of_length_le]
    rw [length_bytes]; omega
  rw [e, flat_split fs k hk, over_mid _ _ _ _ off ho (by rw [hz, length_nul]; omega), flat_set fs k hk, hz, hl]
  simp [nul]

/-- The fields of a header's block, with what stands in the sum's. -/
def fldsOf (h : Hd) (m u g z t : Nat) (kd : UInt8) (sm : List UInt8) : List (List UInt8) := [h.1 ++ nul (100 - h.1.length), octF m 7 ++ nul 1, octF u 7 ++ nul 1, octF g 7 ++ nul 1, octF z 11 ++ nul 1, octF t 11 ++ nul 1, sm, [kd] ++ nul 0, h.2.2.2.2.2.2.2.1 ++ nul (100 - h.2.2.2.2.2.2.2.1.length), magic ++ nul 0, nul 80, nul 155, nul 12]

theorem flds_length {h : Hd} {m u g z t : Nat} {kd : UInt8} (h1 : h.1.length ≤ 100) (h2 : h.2.2.2.2.2.2.2.1.length ≤ 100) (sm : List UInt8) (hs : sm.length = 8) : (fldsOf h m u g z t kd sm).flatten.length = 512 := by
  simp only [fldsOf, magic, List.flatten_cons, List.flatten_nil, List.length_append, length_nul, length_octF, List.length_cons, List.length_nil, hs]
  omega
theorem ov0 {h : Hd} {m u g z t : Nat} {kd : UInt8} (h1 : h.1.length ≤ 100) (h2 : h.2.2.2.2.2.2.2.1.length ≤ 100) : over (bytesInts ([nul 100, nul 8, nul 8, nul 8, nul 12, nul 12, nul 8, nul 1, nul 100, nul 8, nul 80, nul 155, nul 12] : List (List UInt8)).flatten) 0 (ltake (bytesInts (h.1)) (minus 512 0)) = bytesInts ([h.1 ++ nul (100 - h.1.length), nul 8, nul 8, nul 8, nul 12, nul 12, nul 8, nul 1, nul 100, nul 8, nul 80, nul 155, nul 12] : List (List UInt8)).flatten :=
  ov [nul 100, nul 8, nul 8, nul 8, nul 12, nul 12, nul 8, nul 1, nul 100, nul 8, nul 80, nul 155, nul 12] 0 (by simp) (h.1) 100 (h.1.length) 0 rfl (by simp [length_octF, magic]) (by omega) (by simp [length_nul, length_octF]; try omega) (by omega)
theorem ov1 {h : Hd} {m u g z t : Nat} {kd : UInt8} (h1 : h.1.length ≤ 100) (h2 : h.2.2.2.2.2.2.2.1.length ≤ 100) : over (bytesInts ([h.1 ++ nul (100 - h.1.length), nul 8, nul 8, nul 8, nul 12, nul 12, nul 8, nul 1, nul 100, nul 8, nul 80, nul 155, nul 12] : List (List UInt8)).flatten) 100 (ltake (bytesInts (octF m 7)) (minus 512 100)) = bytesInts ([h.1 ++ nul (100 - h.1.length), octF m 7 ++ nul 1, nul 8, nul 8, nul 12, nul 12, nul 8, nul 1, nul 100, nul 8, nul 80, nul 155, nul 12] : List (List UInt8)).flatten :=
  ov [h.1 ++ nul (100 - h.1.length), nul 8, nul 8, nul 8, nul 12, nul 12, nul 8, nul 1, nul 100, nul 8, nul 80, nul 155, nul 12] 1 (by simp) (octF m 7) 8 (7) 100 rfl (by simp [length_octF, magic]) (by omega) (by simp [length_nul, length_octF]; try omega) (by omega)
theorem ov2 {h : Hd} {m u g z t : Nat} {kd : UInt8} (h1 : h.1.length ≤ 100) (h2 : h.2.2.2.2.2.2.2.1.length ≤ 100) : over (bytesInts ([h.1 ++ nul (100 - h.1.length), octF m 7 ++ nul 1, nul 8, nul 8, nul 12, nul 12, nul 8, nul 1, nul 100, nul 8, nul 80, nul 155, nul 12] : List (List UInt8)).flatten) 108 (ltake (bytesInts (octF u 7)) (minus 512 108)) = bytesInts ([h.1 ++ nul (100 - h.1.length), octF m 7 ++ nul 1, octF u 7 ++ nul 1, nul 8, nul 12, nul 12, nul 8, nul 1, nul 100, nul 8, nul 80, nul 155, nul 12] : List (List UInt8)).flatten :=
  ov [h.1 ++ nul (100 - h.1.length), octF m 7 ++ nul 1, nul 8, nul 8, nul 12, nul 12, nul 8, nul 1, nul 100, nul 8, nul 80, nul 155, nul 12] 2 (by simp) (octF u 7) 8 (7) 108 rfl (by simp [length_octF, magic]) (by omega) (by simp [length_nul, length_octF]; try omega) (by omega)
theorem ov3 {h : Hd} {m u g z t : Nat} {kd : UInt8} (h1 : h.1.length ≤ 100) (h2 : h.2.2.2.2.2.2.2.1.length ≤ 100) : over (bytesInts ([h.1 ++ nul (100 - h.1.length), octF m 7 ++ nul 1, octF u 7 ++ nul 1, nul 8, nul 12, nul 12, nul 8, nul 1, nul 100, nul 8, nul 80, nul 155, nul 12] : List (List UInt8)).flatten) 116 (ltake (bytesInts (octF g 7)) (minus 512 116)) = bytesInts ([h.1 ++ nul (100 - h.1.length), octF m 7 ++ nul 1, octF u 7 ++ nul 1, octF g 7 ++ nul 1, nul 12, nul 12, nul 8, nul 1, nul 100, nul 8, nul 80, nul 155, nul 12] : List (List UInt8)).flatten :=
  ov [h.1 ++ nul (100 - h.1.length), octF m 7 ++ nul 1, octF u 7 ++ nul 1, nul 8, nul 12, nul 12, nul 8, nul 1, nul 100, nul 8, nul 80, nul 155, nul 12] 3 (by simp) (octF g 7) 8 (7) 116 rfl (by simp [length_octF, magic]) (by omega) (by simp [length_nul, length_octF]; try omega) (by omega)
theorem ov4 {h : Hd} {m u g z t : Nat} {kd : UInt8} (h1 : h.1.length ≤ 100) (h2 : h.2.2.2.2.2.2.2.1.length ≤ 100) : over (bytesInts ([h.1 ++ nul (100 - h.1.length), octF m 7 ++ nul 1, octF u 7 ++ nul 1, octF g 7 ++ nul 1, nul 12, nul 12, nul 8, nul 1, nul 100, nul 8, nul 80, nul 155, nul 12] : List (List UInt8)).flatten) 124 (ltake (bytesInts (octF z 11)) (minus 512 124)) = bytesInts ([h.1 ++ nul (100 - h.1.length), octF m 7 ++ nul 1, octF u 7 ++ nul 1, octF g 7 ++ nul 1, octF z 11 ++ nul 1, nul 12, nul 8, nul 1, nul 100, nul 8, nul 80, nul 155, nul 12] : List (List UInt8)).flatten :=
  ov [h.1 ++ nul (100 - h.1.length), octF m 7 ++ nul 1, octF u 7 ++ nul 1, octF g 7 ++ nul 1, nul 12, nul 12, nul 8, nul 1, nul 100, nul 8, nul 80, nul 155, nul 12] 4 (by simp) (octF z 11) 12 (11) 124 rfl (by simp [length_octF, magic]) (by omega) (by simp [length_nul, length_octF]; try omega) (by omega)
theorem ov5 {h : Hd} {m u g z t : Nat} {kd : UInt8} (h1 : h.1.length ≤ 100) (h2 : h.2.2.2.2.2.2.2.1.length ≤ 100) : over (bytesInts ([h.1 ++ nul (100 - h.1.length), octF m 7 ++ nul 1, octF u 7 ++ nul 1, octF g 7 ++ nul 1, octF z 11 ++ nul 1, nul 12, nul 8, nul 1, nul 100, nul 8, nul 80, nul 155, nul 12] : List (List UInt8)).flatten) 136 (ltake (bytesInts (octF t 11)) (minus 512 136)) = bytesInts ([h.1 ++ nul (100 - h.1.length), octF m 7 ++ nul 1, octF u 7 ++ nul 1, octF g 7 ++ nul 1, octF z 11 ++ nul 1, octF t 11 ++ nul 1, nul 8, nul 1, nul 100, nul 8, nul 80, nul 155, nul 12] : List (List UInt8)).flatten :=
  ov [h.1 ++ nul (100 - h.1.length), octF m 7 ++ nul 1, octF u 7 ++ nul 1, octF g 7 ++ nul 1, octF z 11 ++ nul 1, nul 12, nul 8, nul 1, nul 100, nul 8, nul 80, nul 155, nul 12] 5 (by simp) (octF t 11) 12 (11) 136 rfl (by simp [length_octF, magic]) (by omega) (by simp [length_nul, length_octF]; try omega) (by omega)
theorem ov7 {h : Hd} {m u g z t : Nat} {kd : UInt8} (h1 : h.1.length ≤ 100) (h2 : h.2.2.2.2.2.2.2.1.length ≤ 100) : over (bytesInts ([h.1 ++ nul (100 - h.1.length), octF m 7 ++ nul 1, octF u 7 ++ nul 1, octF g 7 ++ nul 1, octF z 11 ++ nul 1, octF t 11 ++ nul 1, nul 8, nul 1, nul 100, nul 8, nul 80, nul 155, nul 12] : List (List UInt8)).flatten) 156 (ltake (bytesInts ([kd])) (minus 512 156)) = bytesInts ([h.1 ++ nul (100 - h.1.length), octF m 7 ++ nul 1, octF u 7 ++ nul 1, octF g 7 ++ nul 1, octF z 11 ++ nul 1, octF t 11 ++ nul 1, nul 8, [kd] ++ nul 0, nul 100, nul 8, nul 80, nul 155, nul 12] : List (List UInt8)).flatten :=
  ov [h.1 ++ nul (100 - h.1.length), octF m 7 ++ nul 1, octF u 7 ++ nul 1, octF g 7 ++ nul 1, octF z 11 ++ nul 1, octF t 11 ++ nul 1, nul 8, nul 1, nul 100, nul 8, nul 80, nul 155, nul 12] 7 (by simp) ([kd]) 1 (1) 156 rfl (by simp [length_octF, magic]) (by omega) (by simp [length_nul, length_octF]; try omega) (by omega)
theorem ov8 {h : Hd} {m u g z t : Nat} {kd : UInt8} (h1 : h.1.length ≤ 100) (h2 : h.2.2.2.2.2.2.2.1.length ≤ 100) : over (bytesInts ([h.1 ++ nul (100 - h.1.length), octF m 7 ++ nul 1, octF u 7 ++ nul 1, octF g 7 ++ nul 1, octF z 11 ++ nul 1, octF t 11 ++ nul 1, nul 8, [kd] ++ nul 0, nul 100, nul 8, nul 80, nul 155, nul 12] : List (List UInt8)).flatten) 157 (ltake (bytesInts (h.2.2.2.2.2.2.2.1)) (minus 512 157)) = bytesInts ([h.1 ++ nul (100 - h.1.length), octF m 7 ++ nul 1, octF u 7 ++ nul 1, octF g 7 ++ nul 1, octF z 11 ++ nul 1, octF t 11 ++ nul 1, nul 8, [kd] ++ nul 0, h.2.2.2.2.2.2.2.1 ++ nul (100 - h.2.2.2.2.2.2.2.1.length), nul 8, nul 80, nul 155, nul 12] : List (List UInt8)).flatten :=
  ov [h.1 ++ nul (100 - h.1.length), octF m 7 ++ nul 1, octF u 7 ++ nul 1, octF g 7 ++ nul 1, octF z 11 ++ nul 1, octF t 11 ++ nul 1, nul 8, [kd] ++ nul 0, nul 100, nul 8, nul 80, nul 155, nul 12] 8 (by simp) (h.2.2.2.2.2.2.2.1) 100 (h.2.2.2.2.2.2.2.1.length) 157 rfl (by simp [length_octF, magic]) (by omega) (by simp [length_nul, length_octF]; try omega) (by omega)
theorem ov9 {h : Hd} {m u g z t : Nat} {kd : UInt8} (h1 : h.1.length ≤ 100) (h2 : h.2.2.2.2.2.2.2.1.length ≤ 100) : over (bytesInts ([h.1 ++ nul (100 - h.1.length), octF m 7 ++ nul 1, octF u 7 ++ nul 1, octF g 7 ++ nul 1, octF z 11 ++ nul 1, octF t 11 ++ nul 1, nul 8, [kd] ++ nul 0, h.2.2.2.2.2.2.2.1 ++ nul (100 - h.2.2.2.2.2.2.2.1.length), nul 8, nul 80, nul 155, nul 12] : List (List UInt8)).flatten) 257 (ltake (bytesInts (magic)) (minus 512 257)) = bytesInts ([h.1 ++ nul (100 - h.1.length), octF m 7 ++ nul 1, octF u 7 ++ nul 1, octF g 7 ++ nul 1, octF z 11 ++ nul 1, octF t 11 ++ nul 1, nul 8, [kd] ++ nul 0, h.2.2.2.2.2.2.2.1 ++ nul (100 - h.2.2.2.2.2.2.2.1.length), magic ++ nul 0, nul 80, nul 155, nul 12] : List (List UInt8)).flatten :=
  ov [h.1 ++ nul (100 - h.1.length), octF m 7 ++ nul 1, octF u 7 ++ nul 1, octF g 7 ++ nul 1, octF z 11 ++ nul 1, octF t 11 ++ nul 1, nul 8, [kd] ++ nul 0, h.2.2.2.2.2.2.2.1 ++ nul (100 - h.2.2.2.2.2.2.2.1.length), nul 8, nul 80, nul 155, nul 12] 9 (by simp) (magic) 8 (8) 257 rfl (by simp [length_octF, magic]) (by omega) (by simp [length_nul, length_octF]; try omega) (by omega)
theorem ov6 {h : Hd} {m u g z t : Nat} {kd : UInt8} (h1 : h.1.length ≤ 100) (h2 : h.2.2.2.2.2.2.2.1.length ≤ 100) (q : Nat) : over (bytesInts ([h.1 ++ nul (100 - h.1.length), octF m 7 ++ nul 1, octF u 7 ++ nul 1, octF g 7 ++ nul 1, octF z 11 ++ nul 1, octF t 11 ++ nul 1, nul 8, [kd] ++ nul 0, h.2.2.2.2.2.2.2.1 ++ nul (100 - h.2.2.2.2.2.2.2.1.length), magic ++ nul 0, nul 80, nul 155, nul 12] : List (List UInt8)).flatten) 148 (ltake (bytesInts (octF q 6)) (minus 512 148)) = bytesInts (fldsOf h m u g z t kd (octF q 6 ++ nul 2)).flatten :=
  ov [h.1 ++ nul (100 - h.1.length), octF m 7 ++ nul 1, octF u 7 ++ nul 1, octF g 7 ++ nul 1, octF z 11 ++ nul 1, octF t 11 ++ nul 1, nul 8, [kd] ++ nul 0, h.2.2.2.2.2.2.2.1 ++ nul (100 - h.2.2.2.2.2.2.2.1.length), magic ++ nul 0, nul 80, nul 155, nul 12] 6 (by simp) (octF q 6) 8 6 148 rfl (by simp [length_octF]) (by omega) (by simp [length_nul, length_octF]; try omega) (by omega)
theorem flds0 : (List.replicate 512 (0 : Int)) = bytesInts ([nul 100, nul 8, nul 8, nul 8, nul 12, nul 12, nul 8, nul 1, nul 100, nul 8, nul 80, nul 155, nul 12] : List (List UInt8)).flatten := by kernel_rfl
end Go.Ge

/- What a header is put as. -/
namespace Go.Ge
set_option linter.unusedVariables false
set_option linter.unusedSimpArgs false

def hfields : List (Int × Int × Unit) := [(0, (100, ())), (100, (8, ())), (108, (8, ())), (116, (8, ())), (124, (12, ())), (136, (12, ())), (148, (8, ())), (156, (1, ())), (157, (100, ())), (257, (8, ())), (345, (155, ()))]
theorem fields_val : P_header_fields () = some (hfields, ()) := rfl
theorem fi0 : idx hfields 0 = some (0, (100, ())) := rfl
theorem fi1 : idx hfields 1 = some (100, (8, ())) := rfl
theorem fi2 : idx hfields 2 = some (108, (8, ())) := rfl
theorem fi3 : idx hfields 3 = some (116, (8, ())) := rfl
theorem fi4 : idx hfields 4 = some (124, (12, ())) := rfl
theorem fi5 : idx hfields 5 = some (136, (12, ())) := rfl
theorem fi6 : idx hfields 6 = some (148, (8, ())) := rfl
theorem fi7 : idx hfields 7 = some (156, (1, ())) := rfl
theorem fi8 : idx hfields 8 = some (157, (100, ())) := rfl
theorem fi9 : idx hfields 9 = some (257, (8, ())) := rfl
theorem oct7 (n : Nat) (h : n < 2097152) : P_digits_Octal ((n : Int), (7, ())) = some (octF n 7, (true, ())) := by
  rw [show P_digits_Octal ((n : Int), (7, ())) = _ from octal_val n 7 (by omega) (by omega) (by omega), if_pos (by omega)]
theorem oct11 (n : Nat) (h : n < 8589934592) : P_digits_Octal ((n : Int), (11, ())) = some (octF n 11, (true, ())) := by
  rw [show P_digits_Octal ((n : Int), (11, ())) = _ from octal_val n 11 (by omega) (by omega) (by omega), if_pos (by omega)]
theorem oct6 (n : Nat) (h : n < 262144) : P_digits_Octal ((n : Int), (6, ())) = some (octF n 6, (true, ())) := by
  rw [show P_digits_Octal ((n : Int), (6, ())) = _ from octal_val n 6 (by omega) (by omega) (by omega), if_pos (by omega)]
/-- What is told of a header that may be put. -/
structure Fits (h : Hd) (m u g z t : Nat) (kd : UInt8) : Prop where
  path : h.1.length ≤ 100
  link : h.2.2.2.2.2.2.2.1.length ≤ 100
  m : h.2.2.1 = (m : Int) ∧ m < 2097152
  u : h.2.2.2.1 = (u : Int) ∧ u < 2097152
  g : h.2.2.2.2.1 = (g : Int) ∧ g < 2097152
  z : h.2.2.2.2.2.1 = (z : Int) ∧ z < 8589934592
  t : h.2.2.2.2.2.2.1 = (t : Int) ∧ t < 8589934592
  kind : (h.2.1 = 1 ∧ kd = 48) ∨ (h.2.1 = 2 ∧ kd = 53) ∨ (h.2.1 = 3 ∧ kd = 50)

theorem fits_of {h : Hd} (ho : okHd h 100) : ∃ m u g z t kd, Fits h m u g z t kd := by
  obtain ⟨n1, n2, n3, n4, n5, c, k⟩ := ho
  obtain ⟨m, hm⟩ := Int.eq_ofNat_of_zero_le n1.1
  obtain ⟨u, hu⟩ := Int.eq_ofNat_of_zero_le n2.1
  obtain ⟨g, hg⟩ := Int.eq_ofNat_of_zero_le n3.1
  obtain ⟨z, hz⟩ := Int.eq_ofNat_of_zero_le n4.1
  obtain ⟨t, ht⟩ := Int.eq_ofNat_of_zero_le n5.1
  have b1 := n1.2; have b2 := n2.2; have b3 := n3.2; have b4 := n4.2; have b5 := n5.2
  have hp : h.1.length ≤ 100 := by have := c.2.1; omega
  have hl : h.2.2.2.2.2.2.2.1.length ≤ 100 := by
    rcases k with ⟨_, k⟩ | ⟨_, k, _⟩ | ⟨_, k, _⟩
    · rw [k]; exact Nat.zero_le _
    · rw [k]; exact Nat.zero_le _
    · have := k.2.1; omega
  rcases k with ⟨k, _⟩ | ⟨k, _⟩ | ⟨k, _⟩
  · exact ⟨m, u, g, z, t, 48, hp, hl, ⟨hm, by omega⟩, ⟨hu, by omega⟩, ⟨hg, by omega⟩, ⟨hz, by omega⟩, ⟨ht, by omega⟩, .inl ⟨k, rfl⟩⟩
  · exact ⟨m, u, g, z, t, 53, hp, hl, ⟨hm, by omega⟩, ⟨hu, by omega⟩, ⟨hg, by omega⟩, ⟨hz, by omega⟩, ⟨ht, by omega⟩, .inr (.inl ⟨k, rfl⟩)⟩
  · exact ⟨m, u, g, z, t, 50, hp, hl, ⟨hm, by omega⟩, ⟨hu, by omega⟩, ⟨hg, by omega⟩, ⟨hz, by omega⟩, ⟨ht, by omega⟩, .inr (.inr ⟨k, rfl⟩)⟩

theorem kind_val {h : Hd} {m u g z t : Nat} {kd : UInt8} (F : Fits h m u g z t kd) : inside (isub .i64 h.2.1 1) h.2.1 (len ([48, 53, 50] : List UInt8)) = true ∧ sub ([48, 53, 50] : List UInt8) (isub .i64 h.2.1 1) (minus h.2.1 (isub .i64 h.2.1 1)) = [kd] ∧
    idx ([[], [48], [53], [50]] : List (List UInt8)) h.2.1 = some [kd] := by
  rcases F.kind with ⟨k, rfl⟩ | ⟨k, rfl⟩ | ⟨k, rfl⟩ <;> rw [k] <;> exact ⟨rfl, rfl, rfl⟩

/-- What is put of a header. -/
def putF (h : Hd) (m u g z t : Nat) (kd : UInt8) : List UInt8 := (fldsOf h m u g z t kd (octF (sumTo (fldsOf h m u g z t kd (nul 8)).flatten 512) 6 ++ [0, 32])).flatten

theorem lset_sum (A R : List UInt8) (d : List UInt8) (hA : A.length = 148) (hd : d.length = 6) : lset (bytesInts (A ++ ((d ++ nul 2) ++ R))) 155 32 = bytesInts (A ++ ((d ++ [0, 32]) ++ R)) := by
  rw [show (155 : Int) = ((155 : Nat) : Int) from rfl, lset_nat, bytesInts_app, List.set_append_right _ _ (by rw [length_bytes]; omega), length_bytes, hA]
  rw [bytesInts_app, bytesInts_app A, bytesInts_app (d ++ [0, 32])]
  congr 1
  rw [List.set_append_left _ _ (by rw [length_bytes, List.length_append, length_nul]; omega), bytesInts_app, bytesInts_app]
  congr 1
  rw [List.set_append_right _ _ (by rw [length_bytes]; omega), length_bytes, hd]
  rfl

theorem put_val {h : Hd} {m u g z t : Nat} {kd : UInt8} (ho : okHd h 100) (F : Fits h m u g z t kd) : P_header_Put (h, ()) = some (putF h m u g z t kd, (0, ())) := by
  obtain ⟨k1, k2, k3⟩ := kind_val F
  unfold P_header_Put
  dsimp only
  rw [is_val12, decide_eq_true ho, obind_some]
  dsimp only
  rw [nt_true, sel_false, fields_val, obind_some]
  dsimp only
  rw [F.m.1, F.u.1, F.g.1, F.z.1, F.t.1, k1, k2]
  try dsimp only
  rw [show within 0 11 = true from rfl, sel_true, fi0, obind_some, show inside 0 512 512 = true from rfl, sel_true]
  try dsimp only
  rw [oct7 m F.m.2, obind_some, show within 1 11 = true from rfl, sel_true, fi1, obind_some, show inside 100 512 512 = true from rfl, sel_true]
  try dsimp only
  rw [oct7 u F.u.2, obind_some, show within 2 11 = true from rfl, sel_true, fi2, obind_some, show inside 108 512 512 = true from rfl, sel_true]
  try dsimp only
  rw [oct7 g F.g.2, obind_some, show within 3 11 = true from rfl, sel_true, fi3, obind_some, show inside 116 512 512 = true from rfl, sel_true]
  try dsimp only
  rw [oct11 z F.z.2, obind_some, show within 4 11 = true from rfl, sel_true, fi4, obind_some, show inside 124 512 512 = true from rfl, sel_true]
  try dsimp only
  rw [oct11 t F.t.2, obind_some, show within 5 11 = true from rfl, sel_true, fi5, obind_some, show inside 136 512 512 = true from rfl, sel_true]
  try dsimp only
  rw [sel_true, show within 7 11 = true from rfl, sel_true, fi7, obind_some, show inside 156 512 512 = true from rfl, sel_true]
  try dsimp only
  rw [show within 8 11 = true from rfl, sel_true, fi8, obind_some, show inside 157 512 512 = true from rfl, sel_true]
  try dsimp only
  rw [show within 9 11 = true from rfl, sel_true, fi9, obind_some, show inside 257 512 512 = true from rfl, sel_true]
  dsimp only
  rw [flds0, ov0 (m := m) (u := u) (g := g) (z := z) (t := t) (kd := kd) F.path F.link, ov1 (m := m) (u := u) (g := g) (z := z) (t := t) (kd := kd) F.path F.link, ov2 (m := m) (u := u) (g := g) (z := z) (t := t) (kd := kd) F.path F.link, ov3 (m := m) (u := u) (g := g) (z := z) (t := t) (kd := kd) F.path F.link, ov4 (m := m) (u := u) (g := g) (z := z) (t := t) (kd := kd) F.path F.link, ov5 (m := m) (u := u) (g := g) (z := z) (t := t) (kd := kd) F.path F.link, ov7 (m := m) (u := u) (g := g) (z := z) (t := t) (kd := kd) F.path F.link, ov8 (m := m) (u := u) (g := g) (z := z) (t := t) (kd := kd) F.path F.link,
    show ([117, 115, 116, 97, 114, 0, 48, 48] : List UInt8) = magic from rfl, ov9 (m := m) (u := u) (g := g) (z := z) (t := t) (kd := kd) F.path F.link]
  have hB : ∀ sm : List UInt8, sm.length = 8 → (fldsOf h m u g z t kd sm).flatten.length = 512 := fun sm => flds_length F.path F.link sm
  have hS := sumTo_le (fldsOf h m u g z t kd (nul 8)).flatten 512
  have e0 : ∀ B : List UInt8, B.length = 512 → sub (bytesInts B) 0 (minus 512 0) = bytesInts B := fun B hB => sub_whole _ 512 (by rw [length_bytes, hB])
  have hb0 := hB (nul 8) rfl
  have hb1 := hB (octF (sumTo (fldsOf h m u g z t kd (nul 8)).flatten 512) 6 ++ nul 2) (by rw [List.length_append, length_octF]; rfl)
  have hb2 := hB (octF (sumTo (fldsOf h m u g z t kd (nul 8)).flatten 512) 6 ++ [0, 32]) (by rw [List.length_append, length_octF]; rfl)
  rw [sel_true]
  have hov := ov6 F.path F.link (m := m) (u := u) (g := g) (z := z) (t := t) (kd := kd) (sumTo (fldsOf h m u g z t kd (nul 8)).flatten 512)
  generalize hq : (fldsOf h m u g z t kd (nul 8)).flatten = B at *
  have hq' : ([h.1 ++ nul (100 - h.1.length), octF m 7 ++ nul 1, octF u 7 ++ nul 1, octF g 7 ++ nul 1, octF z 11 ++ nul 1, octF t 11 ++ nul 1, nul 8, [kd] ++ nul 0, h.2.2.2.2.2.2.2.1 ++ nul (100 - h.2.2.2.2.2.2.2.1.length), magic ++ nul 0, nul 80, nul 155, nul 12] : List (List UInt8)).flatten = B := hq
  rw [hq'] at hov ⊢
  rw [e0 B hb0, intsBytes_bytes, sum_val12 B (by omega), obind_some]
  dsimp only
  rw [hb0, oct6 _ (by omega), obind_some, show within 6 11 = true from rfl, sel_true, fi6, obind_some]
  dsimp only
  rw [show inside 148 512 512 = true from rfl, sel_true, sel_true, obind_some]
  dsimp only
  rw [show iadd .i64 (iadd .i64 148 6) 1 = 155 from rfl, show within 155 512 = true from rfl, sel_true, hov]
  have hidx := idx_getD (bytesInts (fldsOf h m u g z t kd (octF (sumTo B 512) 6 ++ nul 2)).flatten) 0 (i := 155) (by rw [length_bytes, hb1]; omega)
  rw [show idx (bytesInts (fldsOf h m u g z t kd (octF (sumTo B 512) 6 ++ nul 2)).flatten) 155 = _ from hidx, obind_some, obind_some, obind_some, sel_true]
  have hls : lset (bytesInts (fldsOf h m u g z t kd (octF (sumTo B 512) 6 ++ nul 2)).flatten) 155 32 = bytesInts (fldsOf h m u g z t kd (octF (sumTo B 512) 6 ++ [0, 32])).flatten := by
    rw [flat_split (fldsOf h m u g z t kd (octF (sumTo B 512) 6 ++ nul 2)) 6 (by simp [fldsOf]), flat_split (fldsOf h m u g z t kd (octF (sumTo B 512) 6 ++ [0, 32])) 6 (by simp [fldsOf])]
    have h1 := F.path
    exact lset_sum _ _ (octF (sumTo B 512) 6) (by simp [fldsOf, length_nul, length_octF]; omega) (length_octF _ _)
  rw [hls, e0 _ hb2, intsBytes_bytes]
  unfold putF
  rw [hq]

theorem put_not {h : Hd} (ho : ¬ okHd h 100) : P_header_Put (h, ()) = some (([] : List UInt8), (1, ())) := by
  unfold P_header_Put
  dsimp only
  rw [is_val12, decide_eq_false ho, obind_some]
  rfl

end Go.Ge

/- What a block is taken as: of any block; of one that was put. -/
namespace Go.Ge
set_option linter.unusedVariables false
set_option linter.unusedSimpArgs false

/-! ### Any block -/
def fld (b : List UInt8) (a n : Nat) : List UInt8 := (b.drop a).take n
theorem of_val12 (b : List UInt8) (hb : b.length = 512) (k : Int) (a n : Nat) (hk : idx hfields k = some ((a : Int), ((n : Int), ()))) (h : a + n ≤ 512) : P_header_of (b, (k, ())) = some (fld b a n, ()) := by
  unfold P_header_of
  rw [fields_val, obind_some]
  dsimp only
  rw [hk, obind_some]
  dsimp only
  rw [show iadd .i64 (a : Int) (n : Int) = ((a + n : Nat) : Int) from iadd_nat (by omega), inside_true (by omega) (by omega) (by simp only [len]; omega), sel_true]
  unfold sub minus fld
  rw [Int.toNat_natCast, show (((a + n : Nat) : Int) - (a : Int)).toNat = n by omega]

section
variable (b : List UInt8)
theorem o0 (hb : b.length = 512) : P_header_of (b, (0, ())) = some (fld b 0 100, ()) := of_val12 b hb 0 0 100 rfl (by omega)
theorem o1 (hb : b.length = 512) : P_header_of (b, (1, ())) = some (fld b 100 8, ()) := of_val12 b hb 1 100 8 rfl (by omega)
theorem o2 (hb : b.length = 512) : P_header_of (b, (2, ())) = some (fld b 108 8, ()) := of_val12 b hb 2 108 8 rfl (by omega)
theorem o3 (hb : b.length = 512) : P_header_of (b, (3, ())) = some (fld b 116 8, ()) := of_val12 b hb 3 116 8 rfl (by omega)
theorem o4 (hb : b.length = 512) : P_header_of (b, (4, ())) = some (fld b 124 12, ()) := of_val12 b hb 4 124 12 rfl (by omega)
end

end Go.Ge

/- What is put is taken as it was; the laws of layer 12. -/
namespace Go.Ge
set_option linter.unusedVariables false
set_option linter.unusedSimpArgs false

section
variable {h : Hd} {m u g z t : Nat} {kd : UInt8}
theorem putF_length (F : Fits h m u g z t kd) : (putF h m u g z t kd).length = 512 := flds_length F.path F.link _ (by rw [List.length_append, length_octF]; rfl)

end
end Go.Ge

/- The laws of layer 12 in plain words. -/
namespace Go.Ge
set_option linter.unusedVariables false
set_option linter.unusedSimpArgs false

def hA : Hd := ([100, 47], (2, (493, (0, (0, (0, (1, ([], ()))))))))
def hC : Hd := ([100], (2, (0, (0, (0, (1, (0, ([], ()))))))))
/-! ### A byte changed -/
end Go.Ge
