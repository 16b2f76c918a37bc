/- Texts without what stands at their ends, and the number of octal digits, in plain words. -/
import Derived.Test.YtkjpgahmolmnmaaDoorGq12A
namespace Go.Ge
set_option linter.unusedVariables false
set_option linter.unusedSimpArgs false
set_option maxRecDepth 100000

/-! ### What stands at the end is let go -/
def rtrim (p : UInt8 → Bool) (s : List UInt8) : List UInt8 := (s.reverse.dropWhile p).reverse
theorem rtrim_snoc_yes {p : UInt8 → Bool} (s : List UInt8) {x : UInt8} (h : p x = true) : rtrim p (s ++ [x]) = rtrim p s := by
  simp [rtrim, List.dropWhile_cons, h]
theorem rtrim_snoc_no {p : UInt8 → Bool} (s : List UInt8) {x : UInt8} (h : p x = false) : rtrim p (s ++ [x]) = s ++ [x] := by
  simp [rtrim, List.dropWhile_cons, h]
theorem rtrim_nil (p : UInt8 → Bool) : rtrim p [] = [] := rfl
theorem rtrim_all {p : UInt8 → Bool} : ∀ (z s : List UInt8), (∀ x ∈ z, p x = true) → rtrim p (s ++ z) = rtrim p s := by
  intro z
  induction z with
  | nil => intro s _; rw [List.append_nil]
  | cons x r ih =>
    intro s h
    rw [show s ++ x :: r = (s ++ [x]) ++ r by simp, ih (s ++ [x]) (fun y hy => h y (List.mem_cons_of_mem _ hy)), rtrim_snoc_yes s (h x (List.mem_cons_self ..))]
theorem rtrim_id {p : UInt8 → Bool} {s : List UInt8} (h : ∀ x, s.getLast? = some x → p x = false) : rtrim p s = s := by
  rcases List.eq_nil_or_concat s with rfl | ⟨r, x, rfl⟩
  · rfl
  · have := h x (by simp)
    rw [List.concat_eq_append]
    exact rtrim_snoc_no r this

theorem last_idx (r : List UInt8) (x : UInt8) (hr : r.length ≤ 1048576) : isub .i64 (len (r ++ [x])) 1 = (r.length : Int) ∧ idx (r ++ [x]) (r.length : Int) = some x := by
  constructor
  · have : len (r ++ [x]) = ((r.length + 1 : Nat) : Int) := by simp [len]
    rw [this, isub_i64 (by omega) (by omega)]
    omega
  · rw [idx_nat]; simp

theorem trimByte_loop (c : Int) : ∀ (n : Nat) (s : List UInt8), s.length ≤ n → s.length ≤ 1048576 → ∀ q : List UInt8, Loop (P_strings_trimRightByte_L0 (q, (c, ()))) ((s, ()), ()) = some ((rtrim (fun x => eqI (u8 x) c) s, ()), ()) := by
  intro n
  induction n with
  | zero =>
    intro s h _ q
    obtain rfl : s = [] := List.length_eq_zero_iff.1 (by omega)
    rw [Loop_eq]
    rfl
  | succ n ih =>
    intro s h hb q
    rcases List.eq_nil_or_concat s with rfl | ⟨r, x, rfl⟩
    · rw [Loop_eq]; rfl
    · rw [List.concat_eq_append] at h hb ⊢
      rw [List.length_append] at h hb
      simp only [List.length_cons, List.length_nil] at h hb
      obtain ⟨e1, e2⟩ := last_idx r x (by omega)
      rw [Loop_eq]
      have e0 : P_strings_trimRightByte_L0 (q, (c, ())) ((r ++ [x], ()), ()) = if eqI (u8 x) c = true then some (.inl ((r, ()), ())) else some (.inr ((r ++ [x], ()), ())) := by
        unfold P_strings_trimRightByte_L0
        dsimp only
        rw [ltI_true (by simp only [len, List.length_append, List.length_cons, List.length_nil]; omega), sel_true, e1, e2, obind_some, obind_some]
        cases hx : eqI (u8 x) c with
        | true =>
          rw [sel_true, inside_true (by omega) (by omega) (by simp only [len, List.length_append]; omega), sel_true, way1_inl, show sub (r ++ [x]) 0 (minus (r.length : Int) 0) = r from by rw [sub_head]; simp, if_pos rfl]
        | false => rw [sel_false, way1_inr, if_neg (by simp)]
      rw [e0]
      cases hx : eqI (u8 x) c with
      | true =>
        rw [if_pos rfl, rtrim_snoc_yes r (p := fun x => eqI (u8 x) c) hx]
        exact ih r (by omega) (by omega) q
      | false =>
        rw [if_neg (by simp), rtrim_snoc_no r (p := fun x => eqI (u8 x) c) hx]
        rfl

theorem trimRightByte_val (s : List UInt8) (c : Int) (hs : s.length ≤ 1048576) : P_strings_trimRightByte (s, (c, ())) = some (rtrim (fun x => eqI (u8 x) c) s, ()) := by
  unfold P_strings_trimRightByte
  rw [trimByte_loop c s.length s (Nat.le_refl _) hs s, obind_some]

def isNul (x : UInt8) : Bool := eqI (u8 x) 0
theorem isNul_iff (x : UInt8) : isNul x = true ↔ x = 0 := by
  unfold isNul eqI
  rw [decide_eq_true_iff]
  constructor
  · intro h
    exact u8_inj (a := x) (b := 0) h
  · rintro rfl; rfl

theorem trimRight_nul (s : List UInt8) (hs : s.length ≤ 1048576) : P_strings_TrimRight (s, ([0], ())) = some (rtrim isNul s, ()) := by
  unfold P_strings_TrimRight
  dsimp only
  by_cases h : s = []
  · subst h
    rfl
  · rw [show eqS s [] = false from decide_eq_false h, nt_false, sel_true, show eqS [0] [] = false from rfl, sel_false, show eqI (len ([0] : List UInt8)) 1 = true from rfl, sel_true, show idx ([0] : List UInt8) 0 = some 0 from rfl, obind_some, obind_some, show ltI (u8 0) 128 = true from rfl, sel_true, obind_some,
      trimRightByte_val s _ hs, obind_some]
    rfl

/-! ### Both noughts and blanks -/
def setNB : List Bool := ((List.replicate 256 false).set 0 true).set 32 true
def isNB (x : UInt8) : Bool := setNB.getD x.toNat false
theorem length_setNB : setNB.length = 256 := by simp only [setNB, List.length_set, List.length_replicate]
theorem isNB_T : ∀ n : Fin 256, setNB.getD n.val false = (decide (n.val = 0) || decide (n.val = 32)) := by decide +kernel
theorem isNB_iff (x : UInt8) : isNB x = true ↔ x = 0 ∨ x = 32 := by
  unfold isNB
  rw [isNB_T ⟨x.toNat, x.toNat_lt⟩]
  simp only [Bool.or_eq_true, decide_eq_true_iff]
  constructor
  · rintro (h | h)
    · exact .inl (UInt8.toNat_inj.1 h)
    · exact .inr (UInt8.toNat_inj.1 h)
  · rintro (rfl | rfl)
    · exact .inl rfl
    · exact .inr rfl

theorem contains_val (x : UInt8) : P_strings_asciiSet_contains ((u8 x, ()), (setNB, ())) = some ((isNB x, ()), (setNB, ())) := by
  unfold P_strings_asciiSet_contains
  have hx := x.toNat_lt
  have e : u8 x = (x.toNat : Int) := rfl
  dsimp only
  rw [e, within_true (by omega) (by omega), sel_true, idx_getD setNB false (i := x.toNat) (by show _ < setNB.length; rw [length_setNB]; omega), obind_some]
  rfl

theorem makeSet_val : P_strings_makeASCIISet ([0, 32], ()) = some (setNB, (true, ())) := by
  unfold P_strings_makeASCIISet
  have key : Loop (P_strings_makeASCIISet_L0 ([0, 32], ())) ((false, (0, ())), (List.replicate 256 false, ())) = some (0, ((false, (2, ())), (setNB, ()))) := by
    rw [Loop_eq, show P_strings_makeASCIISet_L0 ([0, 32], ()) ((false, (0, ())), (List.replicate 256 false, ())) = some (.inl ((false, (1, ())), ((List.replicate 256 false).set 0 true, ()))) from rfl]
    show Loop (P_strings_makeASCIISet_L0 ([0, 32], ())) ((false, (1, ())), ((List.replicate 256 false).set 0 true, ())) = _
    rw [Loop_eq, show P_strings_makeASCIISet_L0 ([0, 32], ()) ((false, (1, ())), ((List.replicate 256 false).set 0 true, ())) = some (.inl ((false, (2, ())), (setNB, ()))) from rfl]
    show Loop (P_strings_makeASCIISet_L0 ([0, 32], ())) ((false, (2, ())), (setNB, ())) = _
    rw [Loop_eq]
    rfl
  exact (congrArg (obind · _) key).trans rfl

theorem trimNB_loop : ∀ (n : Nat) (s : List UInt8), s.length ≤ n → s.length ≤ 1048576 → Loop P_strings_trimRightASCII_L0 ((s, ()), (setNB, ())) = some ((rtrim isNB s, ()), (setNB, ())) := by
  intro n
  induction n with
  | zero =>
    intro s h _
    obtain rfl : s = [] := List.length_eq_zero_iff.1 (by omega)
    rw [Loop_eq]
    rfl
  | succ n ih =>
    intro s h hb
    rcases List.eq_nil_or_concat s with rfl | ⟨r, x, rfl⟩
    · rw [Loop_eq]; rfl
    · rw [List.concat_eq_append] at h hb ⊢
      rw [List.length_append] at h hb
      simp only [List.length_cons, List.length_nil] at h hb
      obtain ⟨e1, e2⟩ := last_idx r x (by omega)
      rw [Loop_eq]
      have e0 : P_strings_trimRightASCII_L0 ((r ++ [x], ()), (setNB, ())) = if isNB x = true then some (.inl ((r, ()), (setNB, ()))) else some (.inr ((r ++ [x], ()), (setNB, ()))) := by
        unfold P_strings_trimRightASCII_L0
        dsimp only
        rw [ltI_true (by simp only [len, List.length_append, List.length_cons, List.length_nil]; omega), sel_true, e1, e2, obind_some, contains_val, obind_some]
        dsimp only
        cases hx : isNB x with
        | true =>
          rw [nt_true, sel_false, inside_true (by omega) (by omega) (by simp only [len, List.length_append]; omega), sel_true, way1_inl, show sub (r ++ [x]) 0 (minus (r.length : Int) 0) = r from by rw [sub_head]; simp, if_pos rfl]
        | false => rw [nt_false, sel_true, way1_inr, if_neg (by simp)]
      rw [e0]
      cases hx : isNB x with
      | true =>
        rw [if_pos rfl, rtrim_snoc_yes r hx]
        exact ih r (by omega) (by omega)
      | false =>
        rw [if_neg (by simp), rtrim_snoc_no r hx]
        rfl

theorem trimRight_nb (s : List UInt8) (hs : s.length ≤ 1048576) : P_strings_TrimRight (s, ([0, 32], ())) = some (rtrim isNB s, ()) := by
  unfold P_strings_TrimRight
  dsimp only
  by_cases h : s = []
  · subst h
    rfl
  · rw [show eqS s [] = false from decide_eq_false h, nt_false, sel_true, show eqS [0, 32] [] = false from rfl, sel_false, show eqI (len ([0, 32] : List UInt8)) 1 = false from rfl, sel_false, obind_some, sel_false, makeSet_val, obind_some]
    dsimp only
    rw [sel_true]
    unfold P_strings_trimRightASCII
    dsimp only
    rw [trimNB_loop s.length s (Nat.le_refl _) hs]
    rfl

/-! ### The left end -/
theorem trimLeft_loop (c : Int) : ∀ (n : Nat) (s : List UInt8), s.length ≤ n → ∀ q : List UInt8, Loop (P_strings_trimLeftByte_L0 (q, (c, ()))) ((s, ()), ()) = some ((s.dropWhile (fun x => eqI (u8 x) c), ()), ()) := by
  intro n
  induction n with
  | zero =>
    intro s h q
    obtain rfl : s = [] := List.length_eq_zero_iff.1 (by omega)
    rw [Loop_eq]
    rfl
  | succ n ih =>
    intro s h q
    cases s with
    | nil => rw [Loop_eq]; rfl
    | cons x r =>
      simp only [List.length_cons] at h
      rw [Loop_eq]
      have e0 : P_strings_trimLeftByte_L0 (q, (c, ())) ((x :: r, ()), ()) = if eqI (u8 x) c = true then some (.inl ((r, ()), ())) else some (.inr ((x :: r, ()), ())) := by
        unfold P_strings_trimLeftByte_L0
        dsimp only
        rw [ltI_true (by simp only [len, List.length_cons]; omega), sel_true, show idx (x :: r) 0 = some x from rfl, obind_some, obind_some]
        cases hx : eqI (u8 x) c with
        | true =>
          rw [sel_true, inside_true (by decide) (by simp only [len, List.length_cons]; omega) (Int.le_refl _), sel_true, way1_inl, show sub (x :: r) 1 (minus (len (x :: r)) 1) = r from sub_tail (x :: r) 1 (by simp), if_pos rfl]
        | false => rw [sel_false, way1_inr, if_neg (by simp)]
      rw [e0, List.dropWhile_cons]
      cases hx : eqI (u8 x) c with
      | true =>
        rw [if_pos rfl, if_pos rfl]
        exact ih r (by omega) q
      | false =>
        rw [if_neg (by simp), if_neg (by simp)]
        rfl

theorem trimLeftByte_val (s : List UInt8) (c : Int) : P_strings_trimLeftByte (s, (c, ())) = some (s.dropWhile (fun x => eqI (u8 x) c), ()) := by
  unfold P_strings_trimLeftByte
  rw [trimLeft_loop c s.length s (Nat.le_refl _) s, obind_some]

theorem mem_while {p : UInt8 → Bool} {l : List UInt8} {x : UInt8} (h : x ∈ l.takeWhile p) : p x = true := List.all_eq_true.1 List.all_takeWhile x h

/-- What is left of a text without the noughts at its ends is empty if it has nothing but these. -/
theorem trim_nul (s : List UInt8) (hs : s.length ≤ 1048576) : P_strings_Trim (s, ([0], ())) = some ((rtrim isNul s).dropWhile isNul, ()) := by
  unfold P_strings_Trim
  dsimp only
  by_cases h : s = []
  · subst h
    rfl
  · rw [show eqS s [] = false from decide_eq_false h, nt_false, sel_true, show eqS [0] [] = false from rfl, sel_false, show eqI (len ([0] : List UInt8)) 1 = true from rfl, sel_true, show idx ([0] : List UInt8) 0 = some 0 from rfl, obind_some, obind_some, show ltI (u8 0) 128 = true from rfl, sel_true, obind_some,
      trimRightByte_val s _ hs, obind_some, obind_some, trimLeftByte_val, obind_some]
    rfl

theorem trim_empty (s : List UInt8) : (rtrim isNul s).dropWhile isNul = [] ↔ ∀ x ∈ s, x = 0 := by
  constructor
  · intro h
    have h1 : ∀ x ∈ rtrim isNul s, isNul x = true := by
      intro x hx
      have := List.takeWhile_append_dropWhile (p := isNul) (l := rtrim isNul s)
      rw [h, List.append_nil] at this
      rw [← this] at hx
      exact mem_while hx
    -- the trimmed text ends in no nought, so it is empty
    have h2 : rtrim isNul s = [] := by
      rcases List.eq_nil_or_concat (rtrim isNul s) with h2 | ⟨r, x, h2⟩
      · exact h2
      · exfalso
        have hx := h1 x (by rw [h2]; simp)
        unfold rtrim at h2
        have h3 : (s.reverse.dropWhile isNul) = x :: r.reverse := by
          have := congrArg List.reverse h2
          simpa using this
        have := List.head?_dropWhile_not isNul s.reverse
        rw [h3] at this
        simp [hx] at this
    intro x hx
    have h3 : s.reverse.dropWhile isNul = [] := by
      have := congrArg List.reverse h2
      simpa [rtrim] using this
    have := List.takeWhile_append_dropWhile (p := isNul) (l := s.reverse)
    rw [h3, List.append_nil] at this
    have hm : x ∈ s.reverse := List.mem_reverse.2 hx
    rw [← this] at hm
    exact (isNul_iff x).1 (mem_while hm)
  · intro h
    have : rtrim isNul s = [] := by
      have := rtrim_all (p := isNul) s [] (fun x hx => (isNul_iff x).2 (h x hx))
      rw [List.nil_append] at this
      exact this
    rw [this]
    rfl

theorem zero_val (b : List UInt8) (hb : b.length ≤ 1048576) : P_header_Zero (b, ()) = some (decide (b.length = 512 ∧ ∀ x ∈ b, x = 0), ()) := by
  unfold P_header_Zero
  dsimp only
  by_cases h : b.length = 512
  · rw [eqI_true (by simp only [len]; omega), sel_true, trim_nul b hb, obind_some, obind_some]
    congr 2
    unfold eqS
    dsimp only
    by_cases h2 : ∀ x ∈ b, x = 0
    · rw [decide_eq_true ((trim_empty b).2 h2), decide_eq_true ⟨h, h2⟩]
    · rw [decide_eq_false (fun e => h2 ((trim_empty b).1 e)), decide_eq_false (fun e => h2 e.2)]
  · rw [eqI_false (by simp only [len]; omega), sel_false, obind_some, decide_eq_false (fun e => h e.1)]
end Go.Ge
