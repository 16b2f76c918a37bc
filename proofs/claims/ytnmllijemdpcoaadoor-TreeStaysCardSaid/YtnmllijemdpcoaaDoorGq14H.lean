/- A tree's nodes, its lists; the law TreePuts: in plain words. -/
import Derived.Test.YtnmllijemdpcoaaDoorGq14G
namespace Go.Ge
set_option linter.unusedVariables false
set_option linter.unusedSimpArgs false

def zeroN : Nd := ([], (0, (0, ([], ([], ())))))
def findF (l : List Nd) (p : List UInt8) : Nd × Bool × Unit := match l.find? fun x => decide (x.1 = p) with
  | some x => (x, (true, ()))
  | none => (zeroN, (false, ()))

theorem find_none' {l : List Nd} {p : List UInt8} (h : ∀ x ∈ l, x.1 ≠ p) : findF l p = (zeroN, (false, ())) := by
  unfold findF
  rw [List.find?_eq_none.2 (fun x hx => by simp [h x hx])]
theorem find_some' {l : List Nd} (ho : Ord l) {p : List UInt8} {x : Nd} (hx : x ∈ l) (e : x.1 = p) : findF l p = (x, (true, ())) := by
  unfold findF
  cases h : l.find? fun x => decide (x.1 = p) with
  | none => have := List.find?_eq_none.1 h x hx; simp [e] at this
  | some y =>
    have h1 := List.find?_some h
    have h2 := List.mem_of_find?_eq_some h
    have h1 : y.1 = p := by simpa using h1
    have := ho.uniq hx h2 (by rw [e, h1])
    subst this
    rfl

theorem tfind_val (l : List Nd) (p : List UInt8) (hl : SmL l) (hp : p.length ≤ 4096) (hv : Valid l) : P_tree_Find (l, (p, ())) = some (findF l p) := by
  obtain ⟨e, c1, c2⟩ := check_val' l hl
  obtain rfl := c2.2 hv
  obtain ⟨k, b, p1, p2, p3, p4⟩ := place_val l p hl hp
  have hpl := p4 hv.ord
  unfold P_tree_Find
  dsimp only
  rw [c1, obind_some]
  dsimp only
  rw [show nt (eqI 0 0) = false by rfl, sel_false, p1, obind_some]
  dsimp only
  cases b with
  | false => rw [nt_false, sel_true, find_none' (hpl.no rfl)]; rfl
  | true =>
    obtain ⟨x, hx, e⟩ := hpl.is rfl
    rw [nt_true, sel_false, idx_some' hx, obind_some, find_some' hv.ord (List.mem_of_getElem? hx) e]

def listF (l : List Nd) (d : List UInt8) : List (List UInt8) := (l.filter fun x => decide ((splitF x.1).1 = d)).map fun x => (splitF x.1).2

theorem list_loop (l : List Nd) (d : List UInt8) (hl : SmL l) : Loop (P_tree_List_L0 (l, (d, ()))) (((), ((0 : Int), ())), (([] : List (List UInt8)), ())) = some (((), ((l.length : Int), ())), (listF l d, ())) := by
  have hb := hl.1
  have hfm : ∀ m : List Nd, m.flatMap (fun x => if (splitF x.1).1 = d then [(splitF x.1).2] else []) = listF m d := by
    intro m
    unfold listF
    induction m with
    | nil => rfl
    | cons a r ih =>
      rw [List.flatMap_cons, ih, List.filter_cons]
      by_cases h : (splitF a.1).1 = d <;> simp [h]
  refine fold_app (f := P_tree_List_L0 (l, (d, ()))) l (fun a i => (((), (i, ())), (a, ()))) (fun x => if (splitF x.1).1 = d then [(splitF x.1).2] else []) _ (by omega) (fun i x hx hi ha => ?_) (by
      unfold P_tree_List_L0
      dsimp only
      rw [ltI_len_end, sel_false, hfm]
      rfl)
  have hlen : (listF (l.take i) d).length ≤ 4096 := by
    unfold listF
    rw [List.length_map]
    have := List.length_filter_le (fun x : Nd => decide ((splitF x.1).1 = d)) (l.take i)
    have := List.length_take_le i l
    have : (l.take i).length ≤ l.length := by rw [List.length_take]; omega
    omega
  rw [hfm]
  unfold P_tree_List_L0
  dsimp only
  rw [ltI_len_true hi, sel_true, idx_some' hx, obind_some, psplit_val _ (by have := (hl.at hx).1; omega), obind_some, ha, eqS_iff, fits_len2 (by simp only [List.length_singleton]; omega)]
  dsimp only
  by_cases h : (splitF x.1).1 = d
  · rw [decide_eq_true h, sel_true, sel_true, obind_some, if_pos h]; rfl
  · rw [decide_eq_false h, sel_false, obind_some, if_neg h, List.append_nil]; rfl

/-! ### What may be, told by a program -/
def ordB : List Nd → Bool
  | a :: b :: r => decide (cmpL (key a) (key b) < 0) && ordB (b :: r)
  | _ => true
theorem ordB_ord : ∀ {l : List Nd}, ordB l = true → Ord l := by
  intro l h
  refine ord_of_adj ?_
  induction l with
  | nil => intro k x y hx; simp at hx
  | cons a r ih =>
    cases r with
    | nil => intro k x y hx hy; simp at hy
    | cons b r =>
      simp only [ordB, Bool.and_eq_true, decide_eq_true_eq] at h
      intro k x y hx hy
      cases k with
      | zero =>
        obtain rfl : a = x := by simpa using hx
        obtain rfl : b = y := by simpa using hy
        exact h.1
      | succ k => exact ih h.2 k x y hx hy
def validB (l : List Nd) : Bool := decide (l.length ≤ 64) && ordB l && l.all mayF && l.all fun x => decide ((splitF x.1).1 = []) || l.any fun y => decide (y.1 = (splitF x.1).1) && decide (y.2.1 = 2)
theorem validB_valid {l : List Nd} (h : validB l = true) : Valid l := by
  unfold validB at h
  simp only [Bool.and_eq_true, decide_eq_true_eq] at h
  refine ⟨h.1.1.1, ordB_ord h.1.1.2, fun x hx => List.all_eq_true.1 h.1.2 x hx, fun x hx => ?_⟩
  have := List.all_eq_true.1 h.2 x hx
  simp only [Bool.or_eq_true, decide_eq_true_eq, List.any_eq_true, Bool.and_eq_true] at this
  exact this
def putB (l : List Nd) (n : Nd) : List Nd × Int :=
  if (splitF n.1).1 ≠ [] ∧ ∀ x ∈ l, x.1 ≠ (splitF n.1).1 then ([], 3) else
  if (splitF n.1).1 ≠ [] ∧ ∀ x ∈ l, x.1 = (splitF n.1).1 → x.2.1 ≠ 2 then ([], 12) else
  let r := if (∃ x ∈ l, x.1 = n.1 ∧ x.2.1 = 2) ∧ n.2.1 = 2 then l.filter (fun x => !decide (x.1 = n.1)) else restF l n.1
  if 64 ≤ r.length then ([], 5) else (insF r n, 0)
theorem putF_eq {l : List Nd} {n : Nd} (hv : Valid l) (hm : mayF n = true) : putF l n = putB l n := by
  unfold putF putB
  rw [if_neg (show ¬ (¬ Valid l ∨ mayF n = false) from fun h => h.elim (fun h => h hv) (fun h => by rw [hm] at h; cases h))]
theorem put_at {l : List Nd} {n : Nd} {r : List Nd} {e : Int} (hl : SmL l) (hn : Sm n) (hv : validB l = true) (hm : mayF n = true) (h : putB l n = (r, e)) : P_tree_Put (l, (n, ())) = some (r, (e, ())) := by
  rw [put_val l n hl hn, putF_eq (validB_valid hv) hm, h]

/-! ### awake -/
def nD : Nd := ([100], (2, (493, ([], ([], ())))))
def nA : Nd := ([100, 47, 97], (1, (420, ([120], ([], ())))))
def nE : Nd := ([101, 47, 97], (1, (420, ([120], ([], ())))))
def nY : Nd := ([100], (1, (420, ([121], ([], ())))))

theorem smN : Sm nD ∧ Sm nA ∧ Sm nE ∧ Sm nY := ⟨⟨by decide, by decide, by decide⟩, ⟨by decide, by decide, by decide⟩, ⟨by decide, by decide, by decide⟩, ⟨by decide, by decide, by decide⟩⟩
theorem sm0 : SmL [] := ⟨by decide, fun x hx => by cases hx⟩
theorem sm1 {n : Nd} (h : Sm n) : SmL [n] := ⟨by simp, fun x hx => by rw [List.mem_singleton] at hx; subst hx; exact h⟩
theorem sm2 {n m : Nd} (h : Sm n) (g : Sm m) : SmL [n, m] := ⟨by simp, fun x hx => by
  rw [List.mem_cons, List.mem_singleton] at hx
  rcases hx with rfl | rfl
  · exact h
  · exact g⟩

theorem mayN : mayF nD = true ∧ mayF nA = true ∧ mayF nE = true ∧ mayF nY = true := by decide +kernel
theorem valid1 : validB [] = true ∧ validB [nD] = true ∧ validB [nD, nA] = true := by decide +kernel
theorem put1 : putB [] nD = ([nD], 0) := by kernel_rfl
theorem put2 : putB [nD] nA = ([nD, nA], 0) := by kernel_rfl
theorem put3 : putB [nD, nA] nE = ([], 3) := by kernel_rfl
theorem put4 : putB [nD, nA] nY = ([nY], 0) := by kernel_rfl

/-- Two trees that are the same. -/
theorem same_self (l : List Nd) (hl : l.length ≤ 4294967296) : P_ref14_Same (l, (l, ())) = some (true, ()) := by
  unfold P_ref14_Same
  dsimp only
  rw [eqI_self, nt_true, sel_false]
  rcases srch (f := P_ref14_Same_L0 (l, (l, ()))) l (fun i => ((false, (i, ())), ())) (fun _ _ => false) (fun i x => (1, ((false, ((i : Int), ())), ()))) ((0 : Nat), ((false, ((l.length : Int), ())), ())) hl (fun i x hx hi ha => by
      unfold P_ref14_Same_L0
      dsimp only
      rw [ltI_len_true hi, sel_true, sel_true, idx_some' hx, obind_some, obind_some, eqS_self, eqS_self, eqS_self, eqI_self, eqI_self, ha]
      rfl) (by unfold P_ref14_Same_L0; dsimp only; rw [ltI_len_end, sel_false, sel_false]) with ⟨i, x, _, hp, _⟩ | ⟨hn, h⟩
  · cases hp
  · rw [h]; rfl

theorem text1 : textF [nD] = [100, 32, 48, 55, 53, 53, 32, 54, 52, 10] := by
  have h : modeF nD = [48, 55, 53, 53] := by decide +kernel
  have h2 : hexF nD.1 = [54, 52] := by decide +kernel
  have h3 : tailF nD = [] := by unfold tailF; rw [if_neg (by decide), if_pos (by decide)]
  have h4 : headC nD = 100 := by decide
  unfold textF lineF
  simp [h, h2, h3, h4]

theorem awake14 : P_law14_awake () = some (true, ()) := by
  obtain ⟨sD, sA, sE, sY⟩ := smN
  obtain ⟨mD, mA, mE, mY⟩ := mayN
  obtain ⟨v0, v1, v2⟩ := valid1
  have hv2 := validB_valid v2
  have hs2 := sm2 sD sA
  have e1 : P_law14_dir ([100], ()) = some (nD, ()) := rfl
  have e2 : P_law14_file ([100, 47, 97], ([120], ())) = some (nA, ()) := rfl
  have e3 : P_law14_file ([101, 47, 97], ([120], ())) = some (nE, ()) := rfl
  have e4 : P_law14_file ([100], ([121], ())) = some (nY, ()) := rfl
  unfold P_law14_awake
  rw [e1, obind_some]
  dsimp only
  rw [put_at sm0 sD v0 mD put1, obind_some, e2, obind_some]
  dsimp only
  rw [put_at (sm1 sD) sA v1 mA put2, obind_some, e3, obind_some]
  dsimp only
  rw [put_at hs2 sE v2 mE put3, obind_some, e4, obind_some]
  dsimp only
  rw [put_at hs2 sY v2 mY put4, obind_some, tfind_val _ _ hs2 (by decide) hv2, obind_some]
  have hf : findF [nD, nA] [100, 47, 97] = (nA, (true, ())) := by rfl
  rw [hf]
  obtain ⟨c, c1, c2⟩ := check_val' [nD, nA] hs2
  obtain rfl := c2.2 hv2
  obtain ⟨d, d1, d2⟩ := dir_val [nD, nA] [100] hs2 (by decide)
  have hd : d = 0 := by
    rcases d2 hv2.ord with ⟨h, _⟩ | ⟨_, ⟨h, _⟩ | ⟨x, hx, hx1, ⟨_, h⟩ | ⟨h, _⟩⟩⟩
    · cases h
    · exact absurd rfl (h nD (by simp))
    · exact h
    · rw [List.mem_cons, List.mem_singleton] at hx
      rcases hx with rfl | rfl
      · exact absurd rfl h
      · exact absurd hx1 (by decide)
  subst hd
  have hli : P_tree_List ([nD, nA], ([100], ())) = some ([[97]], (0, ())) := by
    unfold P_tree_List
    dsimp only
    rw [c1, obind_some]
    dsimp only
    rw [show nt (eqI 0 0) = false by rfl, sel_false, d1, obind_some]
    dsimp only
    rw [show nt (eqI 0 0) = false by rfl, sel_false, list_loop _ _ hs2, obind_some]
    rfl
  rw [hli]
  simp only [obind_some]
  rw [same_self [nY] (by simp), sameTexts_val [[97]] [[97]] (by simp) (by simp), c1, ttext_val [nD] (sm1 sD) (validB_valid v1), text1]
  rfl

theorem few14_val (l : List Nd) (n : Nat) (c : Int) (hc : c = n) (hn : n ≤ 4096) : ∃ b, P_ref14_Few (l, (c, ())) = some (b, ()) ∧ (b = true → l.length ≤ n ∧ SmL l) := by
  subst hc
  unfold P_ref14_Few
  rcases srchTo (f := P_ref14_Few_L0 (l, ((n : Int), ()))) l n (fun i => ((false, (i, ())), ())) (fun _ x => decide (200 < x.1.length) || decide (200 < x.2.2.2.2.1.length) || decide (1024 < x.2.2.2.1.length)) (fun i x => (1, ((false, ((i : Int), ())), ()))) (fun m => (0, ((false, ((m : Int), ())), ()))) (by omega) (fun i x hx hi hin ha => by
      unfold P_ref14_Few_L0
      dsimp only
      have l1 : ∀ {m : List UInt8}, ltI 200 (len m) = decide (200 < m.length) := fun {m} => by unfold ltI len; apply decide_eq_decide.2; omega
      have l2 : ∀ {m : List UInt8}, ltI 1024 (len m) = decide (1024 < m.length) := fun {m} => by unfold ltI len; apply decide_eq_decide.2; omega
      rw [ltI_len_true hi, sel_true, ltI_true (show (i : Int) < n by omega), sel_true, idx_some' hx, obind_some, obind_some, obind_some, l1, l1, l2, ha]
      cases decide (200 < x.1.length) <;> cases decide (200 < x.2.2.2.2.1.length) <;> cases decide (1024 < x.2.2.2.1.length) <;> rfl) (by
      unfold P_ref14_Few_L0
      dsimp only
      have : sel (ltI ((min n l.length : Nat) : Int) (len l)) (ltI ((min n l.length : Nat) : Int) (n : Int)) false = false := by
        by_cases h : l.length ≤ n
        · rw [Nat.min_eq_right h, ltI_len_end, sel_false]
        · rw [Nat.min_eq_left (by omega), ltI_false (Int.le_refl _)]
          cases ltI (n : Int) (len l) <;> rfl
      rw [this, sel_false]) with ⟨i, x, hi, hx, hp, _, h⟩ | ⟨hn2, h⟩
  · rw [h]; exact ⟨false, rfl, fun h => (by cases h)⟩
  · rw [h]
    refine ⟨_, rfl, fun hb => ?_⟩
    dsimp only at hb
    rw [leI_len] at hb
    have h8 := of_decide_eq_true hb
    refine ⟨h8, by omega, fun x hx => ?_⟩
    obtain ⟨i, hi⟩ := mem_at.1 hx
    have := hn2 i x (by have := getElem?_lt hi; omega) hi
    simp only [Bool.or_eq_false_iff, decide_eq_false_iff_not, Nat.not_lt] at this
    exact ⟨this.1.1, this.1.2, this.2⟩

end Go.Ge
