/- Rows from which some are taken, and into which one is laid: in plain words. -/
import Derived.Test.YtnmllijemdpcoaaDoorGq14C
namespace Go.Ge
set_option linter.unusedVariables false
set_option linter.unusedSimpArgs false

theorem takeWhile_eq {α : Type} {P : α → Bool} : ∀ {l : List α} {k : Nat}, k ≤ l.length → (∀ (j : Nat) (y : α), j < k → l[j]? = some y → P y = true) → (∀ y, l[k]? = some y → P y = false) → l.takeWhile P = l.take k ∧ l.dropWhile P = l.drop k := by
  intro l
  induction l with
  | nil => intro k hk _ _; simp
  | cons a r ih =>
    intro k hk h1 h2
    cases k with
    | zero =>
      have := h2 a rfl
      simp [List.takeWhile_cons, List.dropWhile_cons, this]
    | succ k =>
      have ha := h1 0 a (by omega) rfl
      obtain ⟨g1, g2⟩ := ih (k := k) (by simpa using hk) (fun j y hj hy => h1 (j + 1) y (by omega) hy) (fun y hy => h2 y hy)
      simp [List.takeWhile_cons, List.dropWhile_cons, ha, g1, g2]

/-- slices.DeleteFunc's second loop. -/
theorem del_loop {α S R : Type} {f : S → Option (S ⊕ R)} (l : List α) (gone : α → Bool) (mk : Int → Int → List α → S) (fin : Int → List α → R) (hl : l.length ≤ 4294967296)
    (hstep : ∀ (w j : Nat) (L : List α) (x : α), l[j]? = some x → L[j]? = some x → w ≤ j → j < L.length → iadd .i64 (w : Int) 1 = ((w + 1 : Nat) : Int) → iadd .i64 (j : Int) 1 = ((j + 1 : Nat) : Int) →
      f (mk (w : Int) (j : Int) L) = some (.inl (if gone x = true then mk (w : Int) ((j + 1 : Nat) : Int) L else mk ((w + 1 : Nat) : Int) ((j + 1 : Nat) : Int) (L.set w x))))
    (hfin : ∀ (w : Nat) (L : List α), f (mk (w : Int) (L.length : Int) L) = some (.inr (fin (w : Int) L))) :
    ∀ (n w j : Nat) (L : List α), l.length - j ≤ n → w ≤ j → j ≤ l.length → L.length = l.length → L.take w = (l.take j).filter (fun x => !gone x) → L.drop j = l.drop j →
      ∃ (w' : Nat) (L' : List α), Loop f (mk (w : Int) (j : Int) L) = some (fin (w' : Int) L') ∧ L'.length = l.length ∧ w' ≤ l.length ∧ L'.take w' = l.filter (fun x => !gone x) := by
  intro n
  induction n with
  | zero =>
    intro w j L hn hw hj hL ht hd
    obtain rfl : j = L.length := by omega
    refine ⟨w, L, ?_, hL, by omega, ?_⟩
    · rw [Loop_eq, hfin]; rfl
    · rw [ht, hL, List.take_length]
  | succ n ih =>
    intro w j L hn hw hj hL ht hd
    by_cases hjl : j = l.length
    · exact ih w j L (by omega) hw hj hL ht hd
    · have hjL : j < L.length := by omega
      have hx : l[j]? = some l[j] := List.getElem?_eq_getElem (by omega)
      have hxL : L[j]? = some l[j] := by
        have := congrArg (fun z => z[0]?) hd
        simpa [List.getElem?_drop, hx] using this
      have hd1 : L.drop (j + 1) = l.drop (j + 1) := by
        have := congrArg (List.drop 1) hd
        simpa [List.drop_drop] using this
      have ht1 : l.take (j + 1) = l.take j ++ [l[j]] := by rw [List.take_add_one, hx]; rfl
      rw [Loop_eq, hstep w j L l[j] hx hxL hw hjL (iadd_one (by omega)) (iadd_one (by omega))]
      by_cases hg : gone l[j] = true
      · rw [if_pos hg]
        exact ih w (j + 1) L (by omega) (by omega) (by omega) hL (by rw [ht, ht1, List.filter_append]; simp [hg]) hd1
      · rw [if_neg hg]
        refine ih (w + 1) (j + 1) (L.set w l[j]) (by omega) (by omega) (by omega) (by simpa using hL) ?_ ?_
        · rw [ht1, List.filter_append, ← ht, List.take_add_one, List.take_set_of_le (Nat.le_refl w)]
          simp [hg, show w < L.length by omega]
        · rw [List.drop_set_of_lt (by omega)]; exact hd1

theorem sub_over {α : Type} (L : List α) (w : Nat) (hw : w ≤ L.length) (m : List α) : sub (over L (w : Int) m) 0 (minus (w : Int) 0) = L.take w := by
  rw [sub_take]
  unfold over
  rw [Int.toNat_natCast, List.append_assoc, List.take_append_of_le_length (by rw [List.length_take]; omega), List.take_take, Nat.min_self]
theorem len_over {α : Type} (L : List α) (w : Nat) (hw : w ≤ L.length) (z : α) : len (over L (w : Int) (lrep (minus (len L) (w : Int)) z)) = (L.length : Int) := by
  unfold over lrep minus len
  simp
  omega

/-- What a filter leaves where one alone goes. -/
theorem filter_one {α : Type} {l : List α} {P : α → Bool} {k : Nat} {x : α} (hx : l[k]? = some x) (hP : P x = false) (h : ∀ (j : Nat) (y : α), j ≠ k → l[j]? = some y → P y = true) : l.filter P = l.take k ++ l.drop (k + 1) := by
  have hk := getElem?_lt hx
  have e : l = l.take k ++ x :: l.drop (k + 1) := by
    conv => lhs; rw [← List.take_append_drop k l, List.drop_eq_getElem_cons hk]
    rw [(List.getElem?_eq_some_iff.1 hx).2]
  conv => lhs; rw [e]
  rw [List.filter_append, List.filter_cons, hP]
  have h1 : (l.take k).filter P = l.take k := List.filter_eq_self.2 fun y hy => by
    obtain ⟨j, hj⟩ := mem_at.1 hy
    rw [List.getElem?_take] at hj
    split at hj
    · exact h j y (by omega) hj
    · cases hj
  have h2 : (l.drop (k + 1)).filter P = l.drop (k + 1) := List.filter_eq_self.2 fun y hy => by
    obtain ⟨j, hj⟩ := mem_at.1 hy
    rw [List.getElem?_drop] at hj
    exact h (k + 1 + j) y (by omega) hj
  rw [h1, h2]
  simp

/-! ### Trees -/
/-- A node laid into a tree. -/
def insF (l : List Nd) (n : Nd) : List Nd := l.takeWhile (fun x => decide (cmp x n.1 < 0)) ++ n :: l.dropWhile (fun x => decide (cmp x n.1 < 0))
/-- What goes with a path. -/
def gone (p : List UInt8) (x : Nd) : Bool := decide (x.1 = p) || underL (parts x.1) (parts p)
def restF (l : List Nd) (p : List UInt8) : List Nd := l.filter fun x => !gone p x

theorem Ord.filter {l : List Nd} (h : Ord l) (P : Nd → Bool) : Ord (l.filter P) := by
  have hp : l.Pairwise fun x y => cmpL (key x) (key y) < 0 := by
    rw [List.pairwise_iff_getElem]
    intro i j hi hj hij
    exact h i j _ _ hij (List.getElem?_eq_getElem hi) (List.getElem?_eq_getElem hj)
  have hq := hp.filter P
  rw [List.pairwise_iff_getElem] at hq
  intro i j x y hij hx hy
  obtain ⟨h1, h2⟩ := List.getElem?_eq_some_iff.1 hx
  obtain ⟨h3, h4⟩ := List.getElem?_eq_some_iff.1 hy
  rw [← h2, ← h4]
  exact hq i j h1 h3 hij
theorem SmL.filter {l : List Nd} (h : SmL l) (P : Nd → Bool) : SmL (l.filter P) := ⟨Nat.le_trans (List.length_filter_le _ _) h.1, fun x hx => h.2 x (List.mem_filter.1 hx).1⟩

theorem insF_at {l : List Nd} {n : Nd} {k : Nat} {b : Bool} (h : Plc l n.1 k b) : insF l n = l.take k ++ [n] ++ l.drop k := by
  obtain ⟨h1, h2⟩ := takeWhile_eq (P := fun x => decide (cmp x n.1 < 0)) h.le (fun j y hj hy => decide_eq_true (h.lo j y hj hy)) (fun y hy => decide_eq_false (h.hi k y (Nat.le_refl _) hy))
  unfold insF
  rw [h1, h2]
  simp

end Go.Ge
