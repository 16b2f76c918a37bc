/- Paths in plain words: marks; the three laws of paths answer true. -/
import Derived.Test.YtfbjmdbkjaldkaaDoorGq07C
namespace Go.Ge
set_option linter.unusedVariables false
set_option linter.unusedSimpArgs false

/-! ### Beginnings -/
theorem prefix0_val (s p : List UInt8) : P_internal_stringslite_HasPrefix (s, (p, ())) = some (decide (s.take p.length = p), ()) := by
  unfold P_internal_stringslite_HasPrefix
  dsimp only
  rw [leI_lens]
  by_cases h : p.length ≤ s.length
  · rw [decide_eq_true h, sel_true, show inside 0 (len p) (len s) = true from inside_true (by decide) (by rw [len_eq]; omega) (by rw [len_eq, len_eq]; omega), sel_true, sub_take', obind_some]
    rfl
  · rw [decide_eq_false h, sel_false, obind_some, decide_eq_false]
    intro e
    have := congrArg List.length e
    rw [List.length_take] at this
    omega
theorem prefix_val (s p : List UInt8) : P_strings_HasPrefix (s, (p, ())) = some (decide (s.take p.length = p), ()) := by
  unfold P_strings_HasPrefix
  dsimp only
  rw [prefix0_val, obind_some]
theorem begins_val (s p : List UInt8) : P_ref07_begins (s, (p, ())) = some (decide (s.take p.length = p), ()) := by
  unfold P_ref07_begins
  dsimp only
  rw [leI_lens]
  by_cases h : p.length ≤ s.length
  · rw [decide_eq_true h, sel_true, show inside 0 (len p) (len s) = true from inside_true (by decide) (by rw [len_eq]; omega) (by rw [len_eq, len_eq]; omega), sel_true, sub_take', obind_some]
    rfl
  · rw [decide_eq_false h, sel_false, obind_some, decide_eq_false]
    intro e
    have := congrArg List.length e
    rw [List.length_take] at this
    omega
theorem cutp_val (s p : List UInt8) : P_strings_CutPrefix (s, (p, ())) = some (if s.take p.length = p then (s.drop p.length, (true, ())) else (s, (false, ()))) := by
  unfold P_strings_CutPrefix P_internal_stringslite_CutPrefix
  dsimp only
  rw [prefix0_val, obind_some]
  dsimp only
  by_cases h : s.take p.length = p
  · have hl : p.length ≤ s.length := by
      have := congrArg List.length h
      rw [List.length_take] at this
      omega
    rw [decide_eq_true h, nt_true, sel_false, show inside (len p) (len s) (len s) = true from inside_true (by rw [len_eq]; omega) (by rw [len_eq, len_eq]; omega) (Int.le_refl _), sel_true, obind_some, if_pos h]
    rw [show sub s (len p) (minus (len s) (len p)) = s.drop p.length from sub_drop s p.length hl]
  · rw [decide_eq_false h, nt_false, sel_true, obind_some, if_neg h]

/-! ### In a list -/
theorem scontains_val (l : List (List UInt8)) (s : List UInt8) (hl : l.length ≤ 1048576) : P_slices_Contains_string_string (l, (s, ())) = some (decide (s ∈ l), ()) := by
  unfold P_slices_Contains_string_string P_slices_Index_string_string
  dsimp only
  have key := loop_run (f := P_slices_Index_string_string_L0 (l, (s, ()))) l (fun (_ : Unit) i => ((0, ((i : Int), ())), ()))
    (fun i _ x => some (if s = x then .inr (1, (((i : Int), ((i : Int), ())), ())) else .inl ())) (fun i _ => (0, ((0, ((i : Int), ())), ()))) (fun _ _ => True)
    (fun u i x hx hi _ => by
      unfold P_slices_Index_string_string_L0
      dsimp only
      rw [ltI_len_true hi, sel_true, idx_some' hx, obind_some]
      by_cases e : s = x
      · rw [eqS_true e, sel_true, if_pos e]; rfl
      · rw [eqS_false e, sel_false, if_neg e, iadd_one (by omega)]; rfl)
    (fun _ _ _ _ _ _ _ => trivial)
    (fun u _ => by
      unfold P_slices_Index_string_string_L0
      dsimp only
      rw [ltI_len_end, sel_false])
    (fun _ _ _ _ _ h => by cases h) () trivial
  have run : ∀ (r : List (List UInt8)) (i : Nat), ∃ q, runL (fun i (_ : Unit) x => some (if s = x then Sum.inr (1, (((i : Int), ((i : Int), ())), ())) else Sum.inl ())) (fun i _ => ((0 : Nat), (((0 : Int), ((i : Int), ())), ()))) r i () = some q ∧
      (if s ∈ r then q.1 = 1 ∧ 0 ≤ q.2.1.1 else q.1 = 0) := by
    intro r
    induction r with
    | nil => intro i; exact ⟨_, rfl, by simp⟩
    | cons x r ih =>
      intro i
      unfold runL
      by_cases h : s = x
      · simp only [if_pos h]
        refine ⟨_, rfl, ?_⟩
        rw [if_pos (by rw [h]; exact List.mem_cons_self ..)]
        exact ⟨rfl, by simp⟩
      · simp only [if_neg h]
        obtain ⟨q, h1, h2⟩ := ih (i + 1)
        refine ⟨q, h1, ?_⟩
        by_cases hm : s ∈ r
        · rw [if_pos (List.mem_cons_of_mem _ hm)]; rw [if_pos hm] at h2; exact h2
        · rw [if_neg (by simp [h, hm])]; rw [if_neg hm] at h2; exact h2
  obtain ⟨q, h1, h2⟩ := run l 0
  have key' : Loop (P_slices_Index_string_string_L0 (l, (s, ()))) ((0, ((0 : Int), ())), ()) = some q := key.trans h1
  rw [key', obind_some]
  by_cases h : s ∈ l
  · rw [if_pos h] at h2
    rw [h2.1, eqN_one, sel_false, obind_some, decide_eq_true h]
    dsimp only
    rw [leI_true h2.2]
  · rw [if_neg h] at h2
    rw [h2, eqN_zero, sel_true, obind_some, decide_eq_false h]
    rfl

/-! ### Marks -/
def wh : List UInt8 := [46, 119, 104, 46]
def markF (n : List UInt8) : Int × List UInt8 :=
  if n.take 4 = wh then (if n.drop 4 = [46, 119, 104, 46, 46, 111, 112, 113] then (2, []) else if (n.drop 4).take 4 = wh ∨ n.drop 4 = [] ∨ n.drop 4 = [46] ∨ n.drop 4 = [46, 46] then (3, []) else (1, n.drop 4)) else (0, n)

theorem mark_val (n : List UInt8) : P_paths_Mark (n, ()) = some ((markF n).1, ((markF n).2, ())) := by
  unfold P_paths_Mark markF
  dsimp only
  rw [show ([46, 119, 104, 46] : List UInt8) = wh from rfl, cutp_val, obind_some, show wh.length = 4 from rfl]
  by_cases h : n.take 4 = wh
  · have e : n = wh ++ n.drop 4 := by rw [← h, List.take_append_drop]
    rw [if_pos h, if_pos h]
    dsimp only
    rw [nt_true, sel_false]
    generalize n.drop 4 = r at e
    by_cases h1 : r = [46, 119, 104, 46, 46, 111, 112, 113]
    · rw [if_pos h1, eqS_true (by rw [e, h1]; rfl), sel_true]
    · rw [if_neg h1, eqS_false (by rw [e]; intro q; exact h1 (by simpa [wh] using q)), sel_false, prefix_val, obind_some]
      dsimp only
      rw [show wh.length = 4 from rfl]
      by_cases h2 : r.take 4 = wh
      · rw [if_pos (.inl h2), decide_eq_true h2, nt_true, sel_false, obind_some, sel_true]
      · rw [decide_eq_false h2, nt_false, sel_true, scontains_val _ _ (by decide), obind_some, obind_some, sel_decide]
        have : r ∈ ([[], [46], [46, 46]] : List (List UInt8)) ↔ (r = [] ∨ r = [46] ∨ r = [46, 46]) := by simp
        by_cases h3 : r = [] ∨ r = [46] ∨ r = [46, 46]
        · rw [if_pos (this.2 h3), if_pos (.inr h3)]
        · rw [if_neg (fun q => h3 (this.1 q)), if_neg (fun q => q.elim h2 h3)]
  · rw [if_neg h, if_neg h]
    rfl

theorem refMark_val (n : List UInt8) : P_ref07_Mark (n, ()) = some ((markF n).1, ((markF n).2, ())) := by
  unfold P_ref07_Mark markF
  dsimp only
  rw [begins_val, begins_val]
  by_cases h : n.take 4 = wh
  · have e : n = wh ++ n.drop 4 := by rw [← h, List.take_append_drop]
    rw [if_pos h]
    generalize hr : n.drop 4 = r at e
    by_cases h1 : r = [46, 119, 104, 46, 46, 111, 112, 113]
    · rw [if_pos h1, eqS_true (by rw [e, h1]; rfl), sel_true]
    · rw [if_neg h1, eqS_false (by rw [e]; intro q; exact h1 (by simpa [wh] using q)), sel_false, obind_some]
      dsimp only
      have a1 : decide (n.take ([46, 119, 104, 46, 46, 119, 104, 46] : List UInt8).length = [46, 119, 104, 46, 46, 119, 104, 46]) = decide (r.take 4 = wh) := by
        rw [e]
        apply decide_eq_decide.2
        simp [wh]
      have a2 : eqS n [46, 119, 104, 46] = decide (r = []) := by
        rw [e]
        unfold eqS
        apply decide_eq_decide.2
        simp [wh]
      have a3 : eqS n [46, 119, 104, 46, 46] = decide (r = [46]) := by
        rw [e]
        unfold eqS
        apply decide_eq_decide.2
        simp [wh]
      have a4 : eqS n [46, 119, 104, 46, 46, 46] = decide (r = [46, 46]) := by
        rw [e]
        unfold eqS
        apply decide_eq_decide.2
        simp [wh]
      have a5 : decide (n.take ([46, 119, 104, 46] : List UInt8).length = [46, 119, 104, 46]) = true := decide_eq_true h
      rw [a1, a2, a3, a4, a5]
      have hs : sel (sel (nt (sel (nt (sel (nt (decide (r.take 4 = wh))) (decide (r = [])) true)) (decide (r = [46])) true)) (decide (r = [46, 46])) true) = fun (x y : Option (Int × List UInt8 × Unit)) => if r.take 4 = wh ∨ r = [] ∨ r = [46] ∨ r = [46, 46] then x else y := by
        funext x y
        by_cases b1 : r.take 4 = wh
        · rw [if_pos (.inl b1)]; simp [b1, sel, nt]
        · by_cases b2 : r = []
          · rw [if_pos (.inr (.inl b2))]; simp [b2, sel, nt]
          · by_cases b3 : r = [46]
            · rw [if_pos (.inr (.inr (.inl b3)))]; simp [b3, sel, nt]
            · by_cases b4 : r = [46, 46]
              · rw [if_pos (.inr (.inr (.inr b4)))]; simp [b4, sel, nt]
              · rw [if_neg (by simp [b1, b2, b3, b4])]; simp [b1, b2, b3, b4, sel, nt]
      rw [hs]
      dsimp only
      by_cases b : r.take 4 = wh ∨ r = [] ∨ r = [46] ∨ r = [46, 46]
      · rw [if_pos b, if_pos b]
      · rw [if_neg b, if_neg b, obind_some]
        dsimp only
        have hl : 4 ≤ n.length := by rw [e]; simp [wh]
        rw [sel_true, show inside 4 (len n) (len n) = true from inside_true (by decide) (by rw [len_eq]; omega) (Int.le_refl _), sel_true, show sub n 4 (minus (len n) 4) = n.drop 4 from sub_drop n 4 hl, hr]
  · rw [if_neg h]
    have n1 : n ≠ [46, 119, 104, 46, 46, 119, 104, 46, 46, 111, 112, 113] := fun q => h (by rw [q]; rfl)
    have n2 : n ≠ [46, 119, 104, 46] := fun q => h (by rw [q]; rfl)
    have n3 : n ≠ [46, 119, 104, 46, 46] := fun q => h (by rw [q]; rfl)
    have n4 : n ≠ [46, 119, 104, 46, 46, 46] := fun q => h (by rw [q]; rfl)
    have n5 : ¬ n.take ([46, 119, 104, 46, 46, 119, 104, 46] : List UInt8).length = [46, 119, 104, 46, 46, 119, 104, 46] := fun q => h (by
      have := congrArg (List.take 4) q
      rw [List.take_take] at this
      exact this)
    rw [eqS_false n1, sel_false, obind_some]
    dsimp only
    rw [decide_eq_false n5, eqS_false n2, eqS_false n3, eqS_false n4]
    rw [show sel (sel (nt (sel (nt (sel (nt false) false true)) false true)) false true) = fun (x y : Option (Int × List UInt8 × Unit)) => y from rfl]
    dsimp only
    rw [obind_some]
    dsimp only
    rw [decide_eq_false (by exact h), sel_false]

/-! ### awake -/
theorem awake07 : P_law07_awake () = some (true, ()) := by
  unfold P_law07_awake
  rw [clean_val _ (by decide), obind_some, clean_val _ (by decide), obind_some, mark_val, obind_some, psplit_val _ (by decide), obind_some]
  dsimp only
  rw [under_val _ _ (by decide) (by decide), under_val _ _ (by decide) (by decide), compare_val _ _ (by decide) (by decide)]
  decide

theorem ifawake {c : Bool} {x : Option (Bool × Unit)} (h : c = false → x = some (true, ())) : sel c (obind (P_law07_awake ()) fun y => some (y.1, ())) x = some (true, ()) := by
  cases c with
  | true => rw [sel_true, awake07]; rfl
  | false => rw [sel_false]; exact h rfl

theorem long_false {s : List UInt8} (h : ltI 256 (len s) = false) : s.length ≤ 256 := by
  unfold ltI len at h
  simp at h
  omega

theorem sel_or {a b : Bool} : sel (nt a) b true = (a || b) := by cases a <;> rfl
theorem sel_and {a b : Bool} : sel a b false = (a && b) := by cases a <;> rfl

theorem pathsClean_val (s n : List UInt8) : P_law07_PathsClean (s, (n, ())) = some (true, ()) := by
  unfold P_law07_PathsClean
  dsimp only
  refine ifawake fun h => ?_
  rw [sel_or, Bool.or_eq_false_iff] at h
  have hs := long_false h.1
  rw [clean_val s (by omega), obind_some, refClean_val s (by omega), obind_some, mark_val, obind_some, refMark_val, obind_some]
  dsimp only
  rw [eqS_self, eqI_self, eqI_self, eqS_self, awake07]
  rfl

theorem pathsParts_val (a b : List UInt8) : P_law07_PathsParts (a, (b, ())) = some (true, ()) := by
  unfold P_law07_PathsParts
  dsimp only
  refine ifawake fun h => ?_
  rw [sel_or, Bool.or_eq_false_iff] at h
  have ha := long_false h.1
  have hb := long_false h.2
  have hpa := length_parts a
  rw [psplit_val a (by omega), obind_some, refSplit_val a (by omega), obind_some, parts_val a (by omega), obind_some, refParts_val a (by omega), obind_some]
  dsimp only
  rw [sameTexts_val _ _ (by omega) (by omega), obind_some]
  dsimp only
  rw [eqS_self, eqS_self, pjoin_val a b (by omega) (by omega), refpjoin_val a b (by omega) (by omega), under_val a b (by omega) (by omega), refUnder_val a b (by omega) (by omega), compare_val a b (by omega) (by omega), refCompare_val a b (by omega) (by omega), awake07]
  simp only [obind_some, eqS_self, eqB_self, eqI_self, decide_true, sel_true]

/-! ### What is clean stays as it is -/
theorem cleanF_ok {s : List UInt8} (h : (cleanF s).2 = 0) : cleanOk s = true ∧ (cleanF s).1 = joinS (names s) := by
  unfold cleanF at h ⊢
  cases hc : cleanOk s with
  | true => simp
  | false => rw [hc] at h; simp at h

/-- What holds of the names of a clean path. -/
theorem clean_names {s : List UInt8} (h : cleanOk s = true) : (names s).all isNm = true ∧ (names s).length ≤ 8 ∧ (joinS (names s)).length ≤ 96 := by
  unfold cleanOk at h
  simp only [Bool.and_eq_true, decide_eq_true_eq] at h
  exact ⟨h.1.1.1, h.1.2, h.2⟩

theorem head_joinS {l : List (List UInt8)} (h : ∀ x ∈ l, 47 ∉ x ∧ x ≠ []) : (joinS l).head? ≠ some 47 := by
  cases l with
  | nil => simp [joinS]
  | cons x r =>
    obtain ⟨h1, h2⟩ := h x (List.mem_cons_self ..)
    have e : (joinS (x :: r)).head? = x.head? := by
      cases x with
      | nil => exact absurd rfl h2
      | cons b x => cases r <;> simp [joinS]
    rw [e]
    cases x with
    | nil => exact absurd rfl h2
    | cons b x =>
      intro q
      have : b = 47 := Option.some.inj q
      exact h1 (by rw [this]; exact List.mem_cons_self ..)

theorem clean_again {s : List UInt8} (h : cleanOk s = true) : names (joinS (names s)) = names s ∧ cleanF (joinS (names s)) = (joinS (names s), 0) := by
  obtain ⟨h1, h2, h3⟩ := clean_names h
  have e : names (joinS (names s)) = names s := by
    show (parts (joinS (names s))).filter keepN = names s
    rw [parts_names]
    apply List.filter_eq_self.2
    intro x hx
    exact (List.mem_filter.1 hx).2
  refine ⟨e, ?_⟩
  unfold cleanF cleanOk
  rw [e, h1]
  have hh := head_joinS (l := names s) fun x hx => ⟨(names_mem s x hx).1, (names_mem s x hx).2.1⟩
  simp [hh, h2, h3]

theorem joinP_fold (l : List (List UInt8)) (a : List (List UInt8)) (h : ∀ x ∈ a ++ l, 47 ∉ x ∧ x ≠ []) : l.foldl joinP (joinS a) = joinS (a ++ l) := by
  induction l generalizing a with
  | nil => simp
  | cons x r ih =>
    have hx := h x (by simp)
    have e : joinP (joinS a) x = joinS (a ++ [x]) := by
      unfold joinP
      cases a with
      | nil => rw [joinS, if_pos (.inl rfl)]; rfl
      | cons y q =>
        have hne : joinS (y :: q) ≠ [] := by
          have := (h y (by simp)).2
          cases q with
          | nil => rw [joinS]; exact this
          | cons z q => rw [joinS]; simp
        rw [if_neg (by simp [hne, hx.2])]
        have gen : ∀ (y : List UInt8) (q : List (List UInt8)), joinS (y :: q ++ [x]) = joinS (y :: q) ++ 47 :: x := by
          intro y q
          induction q generalizing y with
          | nil => rfl
          | cons z q ih2 =>
            rw [List.cons_append, List.cons_append, joinS, ← List.cons_append, ih2 z]
            rw [joinS]
            simp
        exact (gen y q).symm
    rw [List.foldl_cons, e, ih (a ++ [x]) (by intro z hz; exact h z (by simpa using hz))]
    simp

theorem splitF_join {l : List (List UInt8)} (h : ∀ x ∈ l, 47 ∉ x ∧ x ≠ []) (hne : l ≠ []) : splitF (joinS l) = (joinS l.dropLast, l.getLast hne) := by
  have hs : splitS (joinS l) = l := splitS_joinS l hne fun x hx => (h x hx).1
  rcases split_cases (joinS l) with ⟨h1, h2⟩ | ⟨a, b, h0, h1, h2⟩
  · rw [splitS_plain _ h1] at hs
    rw [h2]
    generalize joinS l = p at hs
    subst hs
    rfl
  · rw [h2]
    rw [h0, splitS_snoc a b h1] at hs
    subst hs
    rw [List.dropLast_concat, List.getLast_concat, joinS_splitS]

theorem cmp_sign {x y : List (List UInt8)} : ltI (cmpL x y) 0 = decide (cmpL x y < 0) := rfl

theorem pathsBack_val (a b c : List UInt8) : P_law07_PathsBack (a, (b, (c, ()))) = some (true, ()) := by
  unfold P_law07_PathsBack
  dsimp only
  refine ifawake fun h => ?_
  rw [sel_or, sel_or, Bool.or_eq_false_iff, Bool.or_eq_false_iff] at h
  have ha := long_false h.1.1
  have hb := long_false h.1.2
  have hc := long_false h.2
  rw [clean_val a (by omega), obind_some, clean_val b (by omega), obind_some, clean_val c (by omega), obind_some]
  dsimp only
  refine ifawake fun h => ?_
  rw [sel_or, sel_or, Bool.or_eq_false_iff, Bool.or_eq_false_iff] at h
  have good : ∀ {s : List UInt8}, nt (eqI (cleanF s).2 0) = false → (cleanF s).2 = 0 := by
    intro s q
    unfold nt eqI at q
    simpa using q
  obtain ⟨oa, ea⟩ := cleanF_ok (good h.1.1)
  obtain ⟨ob, eb⟩ := cleanF_ok (good h.1.2)
  obtain ⟨oc, ec⟩ := cleanF_ok (good h.2)
  rw [ea, eb, ec]
  obtain ⟨_, a2, a3⟩ := clean_names oa
  obtain ⟨_, b2, b3⟩ := clean_names ob
  obtain ⟨_, c2, c3⟩ := clean_names oc
  obtain ⟨_, again⟩ := clean_again oa
  have na := names_mem a
  have pa := parts_names a
  have pb := parts_names b
  have pc := parts_names c
  generalize names a = x at *
  generalize names b = y at *
  generalize names c = z at *
  have nx : ∀ u ∈ x, 47 ∉ u ∧ u ≠ [] := fun u hu => ⟨(na u hu).1, (na u hu).2.1⟩
  rw [clean_val _ (by omega), obind_some, again]
  dsimp only
  rw [psplit_val _ (by omega), obind_some, parts_val _ (by omega), pa, obind_some]
  -- the parts, put together
  have lens : ∀ i, (joinS (x.take i)).length ≤ 1048576 := by
    intro i
    have : ∀ u ∈ x.take i, u.length ≤ 256 := fun u hu => by have := (na u (List.mem_of_mem_take hu)).2.2; omega
    have := length_joinS_le (x.take i) this
    have h2 : (x.take i).length ≤ 8 := by rw [List.length_take]; omega
    have h3 : (x.take i).length * 257 ≤ 8 * 257 := Nat.mul_le_mul_right _ h2
    omega
  have fold : Loop (P_law07_PathsBack_L0 (x, ())) ((([] : List UInt8), ((0 : Int), ())), ()) = some ((joinS x, ((x.length : Int), ())), ()) := by
    refine loop_seq (f := P_law07_PathsBack_L0 (x, ())) x.length (fun i => ((joinS (x.take i), ((i : Int), ())), ())) (fun i hi => ?_) ?_
    · obtain ⟨u, hu⟩ : ∃ u, x[i]? = some u := ⟨_, List.getElem?_eq_getElem hi⟩
      have hum := na u (List.mem_of_getElem? hu)
      unfold P_law07_PathsBack_L0
      dsimp only
      rw [ltI_len_true hi, sel_true, idx_some' hu, obind_some, pjoin_val _ _ (lens i) (by omega), obind_some]
      dsimp only
      rw [iadd_one (by omega)]
      have e : joinP (joinS (x.take i)) u = joinS (x.take (i + 1)) := by
        have := joinP_fold [u] (x.take i) (by
          intro v hv
          rcases List.mem_append.1 hv with hv | hv
          · exact nx v (List.mem_of_mem_take hv)
          · simp only [List.mem_cons, List.not_mem_nil, or_false] at hv; rw [hv]; exact ⟨hum.1, hum.2.1⟩)
        rw [List.foldl_cons, List.foldl_nil] at this
        rw [this, List.take_add_one, hu]; rfl
      rw [e]
      rfl
    · unfold P_law07_PathsBack_L0
      dsimp only
      rw [ltI_len_end, sel_false, List.take_length]
      rfl
  rw [fold, obind_some]
  dsimp only
  -- split, and joined again
  have hsp : (splitF (joinS x)).1.length ≤ 4096 ∧ (splitF (joinS x)).2.length ≤ 4096 ∧ joinP (splitF (joinS x)).1 (splitF (joinS x)).2 = joinS x ∧ (joinS x ≠ [] → underL x (parts (splitF (joinS x)).1) = true) := by
    cases hx : x with
    | nil => refine ⟨by decide, by decide, by decide, fun q => absurd rfl q⟩
    | cons u r =>
      have hne : x ≠ [] := by rw [hx]; simp
      rw [← hx, splitF_join nx hne]
      dsimp only
      have hdl : ∀ v ∈ x.dropLast, 47 ∉ v ∧ v ≠ [] := fun v hv => nx v (by rw [List.dropLast_eq_take] at hv; exact List.mem_of_mem_take hv)
      have e1 : x.dropLast ++ [x.getLast hne] = x := List.dropLast_concat_getLast hne
      have e2 : joinP (joinS x.dropLast) (x.getLast hne) = joinS x := by
        have := joinP_fold [x.getLast hne] x.dropLast (by rw [e1]; exact nx)
        rw [List.foldl_cons, List.foldl_nil, e1] at this
        exact this
      refine ⟨?_, ?_, e2, fun _ => ?_⟩
      · rw [List.dropLast_eq_take]; have := lens (x.length - 1)
        have h5 : ∀ u ∈ x.take (x.length - 1), u.length ≤ 256 := fun u hu => by have := (na u (List.mem_of_mem_take hu)).2.2; omega
        have h6 := length_joinS_le (x.take (x.length - 1)) h5
        have h7 : (x.take (x.length - 1)).length ≤ 8 := by rw [List.length_take]; omega
        have h8 : (x.take (x.length - 1)).length * 257 ≤ 8 * 257 := Nat.mul_le_mul_right _ h7
        omega
      · have := (na _ (List.getLast_mem hne)).2.2; omega
      · rw [parts_joinS _ hdl]
        unfold underL
        have hl : 0 < x.length := List.length_pos_iff.2 hne
        rw [List.length_dropLast, ← List.dropLast_eq_take]
        simp; omega
  obtain ⟨s1, s2, s3, s4⟩ := hsp
  rw [eqS_self, pjoin_val _ _ (by omega) (by omega), s3]
  rw [under_val _ _ (by omega) s1, pa]
  have hne4 : eqS (joinS x) [] = false → underL x (parts (splitF (joinS x)).1) = true := fun q => s4 fun e => by rw [e] at q; cases q
  rw [compare_val _ _ (by omega) (by omega), compare_val _ _ (by omega) (by omega), compare_val _ _ (by omega) (by omega), compare_val _ _ (by omega) (by omega), under_val _ _ (by omega) (by omega), under_val _ _ (by omega) (by omega), pa, pb, pc]
  simp only [obind_some, sel_true, sel_false, nt_true, nt_false, eqS_self, eqI_self]
  have e1 : obind (sel (nt (eqS (joinS x) [])) (some (nt (underL x (parts (splitF (joinS x)).1)))) (some false)) (fun (y9 : Bool) => some y9) = some false := by
    cases q : eqS (joinS x) [] with
    | true => rfl
    | false => rw [hne4 q]; rfl
  rw [e1]
  simp only [obind_some, sel_true, sel_false, nt_true, nt_false]
  have e2 : eqI (cmpL x y) (isub .i64 0 (cmpL y x)) = true := by
    have hr := cmpL_range y x
    rw [isub_i64 (by omega) (by omega), eqI_true (by rw [cmpL_neg x y]; omega)]
  rw [e2]
  simp only [obind_some, sel_true, sel_false, nt_true, nt_false]
  have e3 : eqB (eqI (cmpL x y) 0) (eqS (joinS x) (joinS y)) = true := by
    by_cases e : x = y
    · subst e; rw [cmpL_self, eqS_self]; rfl
    · have h1 : cmpL x y ≠ 0 := fun q => e (cmpL_zero q)
      have h2 : joinS x ≠ joinS y := fun q => e (by rw [← pa, q, pb])
      rw [eqI_false h1, eqS_false h2]; rfl
  rw [e3]
  simp only [obind_some, sel_true, sel_false, nt_true, nt_false, awake07]
  -- the order
  have t1 : ∀ (u v : Int), leI 0 u = decide (0 ≤ u) ∧ ltI u 0 = decide (u < 0) := fun u v => ⟨rfl, rfl⟩
  have under_split : ∀ {p d : List (List UInt8)}, underL p d = true → ∃ q, q ≠ [] ∧ p = d ++ q := by
    intro p d hu
    unfold underL at hu
    simp only [decide_eq_true_eq] at hu
    refine ⟨p.drop d.length, fun e => ?_, ?_⟩
    · have := congrArg List.length e
      rw [List.length_drop] at this
      simp only [List.length_nil] at this
      omega
    · conv => lhs; rw [← List.take_append_drop d.length p, hu.2]
  have under_mk : ∀ {p d q : List (List UInt8)}, q ≠ [] → p = d ++ q → underL p d = true := by
    intro p d q hq e
    subst e
    unfold underL
    have : 0 < q.length := List.length_pos_iff.2 hq
    simp; omega
  have hyx : underL y x = true → cmpL x y = -1 := fun hu => by
    obtain ⟨q, h1, h2⟩ := under_split hu
    rw [h2]; exact cmpL_app x q h1
  have last : underL y x = true → underL z x = false → cmpL x z < 0 → cmpL y z < 0 := fun hu hz hlt => by
    obtain ⟨q, h1, h2⟩ := under_split hu
    rw [h2]
    exact cmpL_under x q z hlt fun ⟨q', g1, g2⟩ => by rw [under_mk g1 g2] at hz; cases hz
  have tr : cmpL x y < 0 → cmpL y z < 0 → cmpL x z < 0 := cmpL_trans
  unfold ltI leI
  by_cases hxy : cmpL x y < 0
  · by_cases hyz : cmpL y z < 0
    · have hxz := tr hxy hyz
      rw [decide_eq_true hxy, decide_eq_true hyz, decide_eq_false (by omega : ¬ 0 ≤ cmpL x z), decide_eq_false (by omega : ¬ 0 ≤ cmpL x y)]
      cases underL y x <;> cases underL z x <;> rfl
    · rw [decide_eq_true hxy, decide_eq_false hyz, decide_eq_false (by omega : ¬ 0 ≤ cmpL x y)]
      cases hu : underL y x with
      | false => rfl
      | true =>
        cases hz : underL z x with
        | true => rfl
        | false =>
          have : ¬ cmpL x z < 0 := fun q => hyz (last hu hz q)
          rw [decide_eq_true (by omega : 0 ≤ cmpL x z)]
          rfl
  · rw [decide_eq_false hxy, decide_eq_true (by omega : 0 ≤ cmpL x y)]
    cases hu : underL y x with
    | false => rfl
    | true => have := hyx hu; omega
end Go.Ge
