/- Records with other names, in both texts; few records; the laws. -/
import Derived.Test.YtaiikfdelihadaaDoorGq17C
namespace Go.Ge
set_option linter.unusedVariables false
set_option linter.unusedSimpArgs false

/-- Does another record have one of the names? -/
def hitF (given : List Tx) (own : Int) (i : Nat) (x : Nm) : Bool := decide ((i : Int) ≠ own) && x.2.1.any (fun s => decide (s ∈ given))
def clashB (l : List Nm) (given : List Tx) (own : Int) : Bool := l.zipIdx.any fun p => hitF given own p.2 p.1
def freeI (l : List Nm) (id : Tx) (given : List Tx) : Int := if checkI given ≠ 0 then checkI given else if clashB l given (findI l id) = true then 8 else 0
def setI (l : List Nm) (id : Tx) (given : List Tx) : List Nm × Int × Unit :=
  if checkI given ≠ 0 then ([], (checkI given, ())) else if findI l id < 0 then ([], (3, ())) else if freeI l id given ≠ 0 then ([], (freeI l id given, ())) else (l.set (findI l id).toNat (id, (given, ())), (0, ()))

theorem clash_iff {l : List Nm} {given : List Tx} {own : Int} : clashB l given own = true ↔ ∃ i x, l[i]? = some x ∧ hitF given own i x = true := by
  unfold clashB
  rw [List.any_eq_true]
  constructor
  · rintro ⟨p, hp, h⟩
    obtain ⟨x, i⟩ := p
    exact ⟨i, x, List.mk_mem_zipIdx_iff_getElem?.1 hp, h⟩
  · rintro ⟨i, x, hx, h⟩
    exact ⟨(x, i), List.mk_mem_zipIdx_iff_getElem?.2 hx, h⟩
theorem clash_none {l : List Nm} {given : List Tx} {own : Int} (h : ∀ i x, l[i]? = some x → hitF given own i x = false) : clashB l given own = false := by
  rw [← Bool.not_eq_true, clash_iff]
  rintro ⟨i, x, hx, k⟩
  rw [h i x hx] at k; cases k

theorem findI_range {l : List Nm} {id : Tx} : findI l id = -1 ∨ ∃ i : Nat, findI l id = i ∧ i < l.length := by
  unfold findI
  split
  · rename_i i hi
    right
    rw [List.findIdx?_eq_some_iff_getElem] at hi
    obtain ⟨h, _⟩ := hi
    exact ⟨i, rfl, h⟩
  · exact .inl rfl

theorem names_free_val (l : List Nm) (id : Tx) (given : List Tx) (hl : Small l) (hg : given.length ≤ 4294967296) : P_names_Free (l, (id, (given, ()))) = some (freeI l id given, ()) := by
  unfold P_names_Free freeI
  dsimp only
  rw [check_val given hg, obind_some]
  dsimp only
  by_cases hc : checkI given = 0
  · rw [hc, eqI_true rfl, nt_true, sel_false, names_find_val l id hl.1, obind_some, if_neg (by simp)]
    generalize findI l id = own
    have inner : ∀ (y : Nm), y.2.1.length ≤ 4294967296 → (y.2.1.any (fun s => decide (s ∈ given)) = true ∧ ∃ (k : Nat) (q : Int × Unit), Loop (P_names_Free_L1 y) (((0 : Int), ((0 : Int), ())), (given, ())) = some (1, (((k : Int), q), (given, ())))) ∨
        (y.2.1.any (fun s => decide (s ∈ given)) = false ∧ ∃ q, Loop (P_names_Free_L1 y) (((0 : Int), ((0 : Int), ())), (given, ())) = some (0, (q, (given, ())))) := by
      intro y hy
      rcases srch (f := P_names_Free_L1 y) y.2.1 (fun i => (((0 : Int), (i, ())), (given, ()))) (fun _ s => decide (s ∈ given)) (fun i s => (1, (((i : Int), ((i : Int), ())), (given, ())))) (0, (((0 : Int), (len y.2.1, ())), (given, ()))) hy (fun i s hs hi ha => by
          unfold P_names_Free_L1
          dsimp only
          rw [ltI_len_true hi, sel_true, idx_some' hs, obind_some, contains_val given s hg, obind_some, sel_if, ha]
          by_cases h : s ∈ given <;> simp [h]) (by unfold P_names_Free_L1; dsimp only; rw [ltI_len_end, sel_false]; rfl) with ⟨i, s, hs, hp, hj, h⟩ | ⟨hn, h⟩
      · exact .inl ⟨List.any_eq_true.2 ⟨s, mem_at.2 ⟨i, hs⟩, hp⟩, i, _, h⟩
      · refine .inr ⟨?_, _, h⟩
        rw [List.any_eq_false]
        intro s hs
        obtain ⟨i, hi⟩ := mem_at.1 hs
        rw [hn i s hi]; simp
    rcases srch (f := P_names_Free_L0 (l, (id, (given, ()))) (own, ())) l (fun i => (((0 : Int), (i, ())), (given, ()))) (hitF given own) (fun i x => (1, (((8 : Int), ((i : Int), ())), (given, ())))) (0, (((0 : Int), (len l, ())), (given, ()))) hl.1 (fun i x hx hi ha => by
        unfold P_names_Free_L0
        dsimp only
        rw [ltI_len_true hi, sel_true, idx_some' hx, obind_some]
        unfold hitF
        by_cases ho : (i : Int) = own
        · rw [eqI_true ho, nt_true, sel_false, ha]
          simp [ho]
        · rw [eqI_false ho, nt_false, sel_true]
          rcases inner x (hl.2 x (mem_at.2 ⟨i, hx⟩)) with ⟨h1, k, q, h⟩ | ⟨h1, q, h⟩
          · rw [h, obind_some, h1]
            dsimp only
            rw [eqN_one, sel_false, leI_true (by omega), sel_true]
            simp [ho]
          · rw [h, obind_some, h1]
            dsimp only
            rw [eqN_zero, sel_true, show leI 0 (-1) = false from rfl, sel_false, ha]
            simp [ho]) (by unfold P_names_Free_L0; dsimp only; rw [ltI_len_end, sel_false]; rfl) with ⟨i, x, hx, hp, hj, h⟩ | ⟨hn, h⟩
    · rw [h, obind_some, if_pos (clash_iff.2 ⟨i, x, hx, hp⟩)]; rfl
    · rw [h, obind_some, clash_none hn]; rfl
  · rw [eqI_false hc, nt_false, sel_true, if_pos hc]

theorem ref_free_val (l : List Nm) (id : Tx) (given : List Tx) (hl : Small l) (hg : given.length ≤ 4294967296) (hgx : ∀ x ∈ given, x.length ≤ 4294967296) : P_ref17_Free (l, (id, (given, ()))) = some (freeI l id given, ()) := by
  unfold P_ref17_Free freeI
  dsimp only
  rw [refCheck_val given hg hgx, obind_some]
  dsimp only
  by_cases hc : checkI given = 0
  · rw [hc, eqI_true rfl, nt_true, sel_false, ref17_find_val l id hl.1, obind_some, if_neg (by simp)]
    generalize findI l id = own
    have inner : ∀ (i : Nat) (x : Nm), l[i]? = some x → (hitF given own i x = true ∧ ∃ q, Loop (P_ref17_Free_L1 (l, (id, (given, ()))) (own, ()) (((0 : Int), ((i : Int), ())), ())) (((0 : Int), ((0 : Int), ())), ()) = some (1, (((8 : Int), q), ()))) ∨
        (hitF given own i x = false ∧ ∃ q, Loop (P_ref17_Free_L1 (l, (id, (given, ()))) (own, ()) (((0 : Int), ((i : Int), ())), ())) (((0 : Int), ((0 : Int), ())), ()) = some (0, (((0 : Int), q), ()))) := by
      intro i x hx
      rcases srch (f := P_ref17_Free_L1 (l, (id, (given, ()))) (own, ()) (((0 : Int), ((i : Int), ())), ())) given (fun n => (((0 : Int), (n, ())), ())) (fun _ s => decide ((i : Int) ≠ own) && decide (s ∈ x.2.1)) (fun n s => (1, (((8 : Int), ((n : Int), ())), ()))) (0, (((0 : Int), (len given, ())), ())) hg (fun n s hs hn ha => by
          unfold P_ref17_Free_L1
          dsimp only
          rw [ltI_len_true hn, sel_true]
          by_cases ho : (i : Int) = own
          · rw [eqI_true ho, nt_true, sel_false, ha]
            simp [ho]
          · rw [eqI_false ho, nt_false, sel_true, idx_some' hx, obind_some, idx_some' hs, obind_some, ref17_has_val _ _ (hl.2 x (mem_at.2 ⟨i, hx⟩)), obind_some, sel_if, ha]
            by_cases h : s ∈ x.2.1 <;> simp [h, ho]) (by unfold P_ref17_Free_L1; dsimp only; rw [ltI_len_end, sel_false]; rfl) with ⟨n, s, hs, hp, hj, h⟩ | ⟨hn, h⟩
      · refine .inl ⟨?_, _, h⟩
        simp only [Bool.and_eq_true, decide_eq_true_eq] at hp
        unfold hitF
        simp only [Bool.and_eq_true, decide_eq_true_eq, List.any_eq_true]
        exact ⟨hp.1, s, hp.2, mem_at.2 ⟨n, hs⟩⟩
      · refine .inr ⟨?_, _, h⟩
        rw [← Bool.not_eq_true]
        unfold hitF
        simp only [Bool.and_eq_true, decide_eq_true_eq, List.any_eq_true]
        rintro ⟨h1, s, h2, h3⟩
        obtain ⟨n, hs⟩ := mem_at.1 h3
        have := hn n s hs
        rw [decide_eq_true h1, decide_eq_true h2] at this
        cases this
    rcases srch (f := P_ref17_Free_L0 (l, (id, (given, ()))) (own, ())) l (fun i => (((0 : Int), (i, ())), ())) (hitF given own) (fun i x => (1, (((8 : Int), ((i : Int), ())), ()))) (0, (((0 : Int), (len l, ())), ())) hl.1 (fun i x hx hi ha => by
        unfold P_ref17_Free_L0
        dsimp only
        rw [ltI_len_true hi, sel_true]
        rcases inner i x hx with ⟨h1, q, h⟩ | ⟨h1, q, h⟩
        · rw [h, obind_some, h1]; rfl
        · rw [h, obind_some, h1, ha]; rfl) (by unfold P_ref17_Free_L0; dsimp only; rw [ltI_len_end, sel_false]; rfl) with ⟨i, x, hx, hp, hj, h⟩ | ⟨hn, h⟩
    · rw [h, obind_some, if_pos (clash_iff.2 ⟨i, x, hx, hp⟩)]; rfl
    · rw [h, obind_some, clash_none hn]; rfl
  · rw [eqI_false hc, nt_false, sel_true, if_pos hc]

theorem clone_strs (l : List Tx) (h : l.length ≤ 4294967296) : P_slices_Clone_string_string (l, ()) = some (l, ()) := by
  unfold P_slices_Clone_string_string
  dsimp only
  rw [fits_len h]; rfl

theorem names_set_val (l : List Nm) (id : Tx) (given : List Tx) (hl : Small l) (hg : given.length ≤ 4294967296) : P_names_Set (l, (id, (given, ()))) = some (setI l id given) := by
  unfold P_names_Set setI
  dsimp only
  rw [names_find_val l id hl.1, obind_some, check_val given hg, obind_some]
  dsimp only
  by_cases hc : checkI given = 0
  · rw [hc, eqI_true rfl, nt_true, sel_false, if_neg (by simp)]
    rcases findI_range (l := l) (id := id) with hf | ⟨k, hf, hk⟩
    · rw [hf, ltI_true (by decide), sel_true]; rfl
    · rw [hf, ltI_false (by omega), sel_false, if_neg (by omega), names_free_val l id given hl hg, obind_some]
      dsimp only
      by_cases hq : freeI l id given = 0
      · have hkk : idx l (k : Int) = some l[k] := idx_some' (List.getElem?_eq_getElem hk)
        rw [hq, eqI_true rfl, nt_true, sel_false, if_neg (by simp), fits_len hl.1, sel_true, clone_strs given hg, obind_some, within_true (by omega) (by simp only [len]; omega), sel_true, hkk, obind_some, obind_some, obind_some, lset_nat]
        rfl
      · rw [eqI_false hq, nt_false, sel_true, if_pos hq]
  · rw [eqI_false hc, nt_false, sel_true, if_pos hc]

theorem ref_set_val (l : List Nm) (id : Tx) (given : List Tx) (hl : Small l) (hl2 : l.length ≤ 1000000) (hg : given.length ≤ 4294967296) (hgx : ∀ x ∈ given, x.length ≤ 4294967296) : P_ref17_Set (l, (id, (given, ()))) = some (setI l id given) := by
  unfold P_ref17_Set setI
  dsimp only
  rw [refCheck_val given hg hgx, obind_some]
  dsimp only
  by_cases hc : checkI given = 0
  · rw [hc, eqI_true rfl, nt_true, sel_false, if_neg (by simp), ref17_find_val l id hl.1, obind_some]
    dsimp only
    rcases findI_range (l := l) (id := id) with hf | ⟨k, hf, hk⟩
    · rw [hf, ltI_true (by decide), sel_true]; rfl
    · rw [hf, ltI_false (by omega), sel_false, if_neg (by omega), ref_free_val l id given hl hg hgx, obind_some]
      dsimp only
      by_cases hq : freeI l id given = 0
      · have h1 : inside 0 (k : Int) (len l) = true := inside_true (by decide) (by omega) (by simp only [len]; omega)
        have hk1 : iadd .i64 (k : Int) 1 = ((k + 1 : Nat) : Int) := iadd_one (by omega)
        have h2 : inside ((k + 1 : Nat) : Int) (len l) (len l) = true := inside_true (by omega) (by simp only [len]; omega) (Int.le_refl _)
        rw [hq, eqI_true rfl, nt_true, sel_false, if_neg (by simp), h1, sel_true, hk1, sub_take, sub_drop l (k + 1) (by omega)]
        have f1 : fits (plus (len ([] : List Nm)) (len (l.take k))) = true := fits_len2 (by simp; omega)
        have f2 : fits (plus (len (app ([] : List Nm) (l.take k))) (len [(id, (given, ()))])) = true := fits_len2 (by simp [app]; omega)
        have f3 : fits (plus (len (app (app ([] : List Nm) (l.take k)) [(id, (given, ()))])) (len (l.drop (k + 1)))) = true := fits_len2 (by simp [app]; omega)
        rw [f1, sel_true, f2, sel_true, h2, sel_true, f3, sel_true]
        have : app (app (app ([] : List Nm) (l.take k)) [(id, (given, ()))]) (l.drop (k + 1)) = l.set k (id, (given, ())) := by
          simp only [app, List.nil_append]
          rw [List.set_eq_take_append_cons_drop, if_pos hk]; simp
        rw [this]; rfl
      · rw [eqI_false hq, nt_false, sel_true, if_pos hq]
  · rw [eqI_false hc, nt_false, sel_true, if_pos hc]

theorem sameTexts_val (x y : List Tx) (hx : x.length ≤ 4294967296) : P_ref06_SameTexts (x, (y, ())) = some (decide (x = y), ()) := by
  unfold P_ref06_SameTexts
  dsimp only
  rw [eqI_lens]
  by_cases hl : x.length = y.length
  · rw [decide_eq_true hl, nt_true, sel_false]
    rcases srch (f := P_ref06_SameTexts_L0 (x, (y, ()))) x (fun i => ((false, (i, ())), ())) (fun i a => decide (y[i]? ≠ some a)) (fun i a => (1, ((false, ((i : Int), ())), ()))) (0, ((false, (len x, ())), ())) hx (fun i a ha hi hadd => by
        unfold P_ref06_SameTexts_L0
        dsimp only
        have hi2 : i < y.length := by omega
        rw [ltI_len_true hi, sel_true, ltI_len_true hi2, sel_true, idx_some' ha, obind_some, idx_some' (List.getElem?_eq_getElem hi2), obind_some, nt_eq, sel_if, hadd, List.getElem?_eq_getElem hi2]
        by_cases h : a = y[i]
        · simp [eqS, h]
        · have h' : ¬ y[i] = a := fun e => h e.symm
          simp [eqS, h, h']) (by unfold P_ref06_SameTexts_L0; dsimp only; rw [ltI_len_end, sel_false, sel_false]; rfl) with ⟨i, a, ha, hp, hj, h⟩ | ⟨hn, h⟩
    · rw [h, obind_some]
      have : x ≠ y := fun e => by subst e; rw [ha] at hp; simp at hp
      rw [decide_eq_false this]; rfl
    · rw [h, obind_some]
      have : x = y := by
        apply List.ext_getElem? 
        intro i
        cases hx2 : x[i]? with
        | none =>
          have : x.length ≤ i := List.getElem?_eq_none_iff.1 hx2
          exact (List.getElem?_eq_none_iff.2 (by omega)).symm
        | some a =>
          have := hn i a hx2
          simp at this
          exact this.symm
      rw [decide_eq_true this]; rfl
  · rw [decide_eq_false hl, nt_false, sel_true]
    have : x ≠ y := fun e => hl (by rw [e])
    rw [decide_eq_false this]

theorem nm_eq (a b : Nm) : (a = b) ↔ (a.1 = b.1 ∧ a.2.1 = b.2.1) := by
  obtain ⟨a1, a2, a3⟩ := a
  obtain ⟨b1, b2, b3⟩ := b
  simp

theorem same_val (x y : List Nm) (hx : Small x) : P_ref17_Same (x, (y, ())) = some (decide (x = y), ()) := by
  unfold P_ref17_Same
  dsimp only
  rw [eqI_lens]
  by_cases hl : x.length = y.length
  · rw [decide_eq_true hl, nt_true, sel_false]
    rcases srch (f := P_ref17_Same_L0 (x, (y, ()))) x (fun i => ((false, (i, ())), ())) (fun i a => decide (y[i]? ≠ some a)) (fun i a => (1, ((false, ((i : Int), ())), ()))) (0, ((false, (len x, ())), ())) hx.1 (fun i a ha hi hadd => by
        unfold P_ref17_Same_L0
        dsimp only
        have hi2 : i < y.length := by omega
        have hy := List.getElem?_eq_getElem hi2
        rw [ltI_len_true hi, sel_true, ltI_len_true hi2, sel_true, idx_some' ha, obind_some, idx_some' hy, obind_some, nt_eq, hadd, hy, obind_some, obind_some, sameTexts_val _ _ (hx.2 a (mem_at.2 ⟨i, ha⟩)), obind_some]
        by_cases h1 : a.1 = (y[i]).1
        · rw [eqS_true h1]
          by_cases h2 : a.2.1 = (y[i]).2.1
          · have : y[i] = a := ((nm_eq _ _).2 ⟨h1, h2⟩).symm
            simp [h2, this, sel, nt]
          · have : ¬ y[i] = a := fun e => h2 (by rw [e])
            simp [h2, this, sel, nt]
        · have : ¬ y[i] = a := fun e => h1 (by rw [e])
          rw [eqS_false h1]
          simp [this, sel, nt]) (by unfold P_ref17_Same_L0; dsimp only; rw [ltI_len_end, sel_false, sel_false]; rfl) with ⟨i, a, ha, hp, hj, h⟩ | ⟨hn, h⟩
    · rw [h, obind_some]
      have : x ≠ y := fun e => by subst e; rw [ha] at hp; simp at hp
      rw [decide_eq_false this]; rfl
    · rw [h, obind_some]
      have : x = y := by
        apply List.ext_getElem?
        intro i
        cases hx2 : x[i]? with
        | none =>
          have : x.length ≤ i := List.getElem?_eq_none_iff.1 hx2
          exact (List.getElem?_eq_none_iff.2 (by omega)).symm
        | some a =>
          have := hn i a hx2
          simp at this
          exact this.symm
      rw [decide_eq_true this]; rfl
  · rw [decide_eq_false hl, nt_false, sel_true]
    have : x ≠ y := fun e => hl (by rw [e])
    rw [decide_eq_false this]
end Go.Ge
