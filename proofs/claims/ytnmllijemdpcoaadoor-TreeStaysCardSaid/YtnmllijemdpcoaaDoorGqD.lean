/- Plain laws of loops that look for something in a list. -/
import Derived.Test.YtnmllijemdpcoaaDoorGqC
namespace Go.Ge
set_option linter.unusedVariables false
set_option linter.unusedSimpArgs false

/-- The first place of a list that something is true of, or none. -/
theorem first_or {α : Type} (l : List α) (p : Nat → α → Bool) :
    (∃ i x, l[i]? = some x ∧ p i x = true ∧ ∀ j y, j < i → l[j]? = some y → p j y = false) ∨ ∀ i x, l[i]? = some x → p i x = false := by
  by_cases h : ∃ i x, l[i]? = some x ∧ p i x = true
  · left
    have key : ∀ n i x, i ≤ n → l[i]? = some x → p i x = true → ∃ i x, l[i]? = some x ∧ p i x = true ∧ ∀ j y, j < i → l[j]? = some y → p j y = false := by
      intro n
      induction n with
      | zero =>
        intro i x hi hx hp
        obtain rfl : i = 0 := by omega
        exact ⟨0, x, hx, hp, fun j y hj => by omega⟩
      | succ n ih =>
        intro i x hi hx hp
        by_cases k : ∃ j y, j < i ∧ l[j]? = some y ∧ p j y = true
        · obtain ⟨j, y, hj, hy, hq⟩ := k
          exact ih j y (by omega) hy hq
        · refine ⟨i, x, hx, hp, fun j y hj hy => ?_⟩
          cases hq : p j y with
          | false => rfl
          | true => exact absurd ⟨j, y, hj, hy, hq⟩ k
    obtain ⟨i, x, hx, hp⟩ := h
    exact key i i x (Nat.le_refl _) hx hp
  · right
    intro i x hx
    cases hq : p i x with
    | false => rfl
    | true => exact absurd ⟨i, x, hx, hq⟩ h

/-- A search through a list. -/
theorem srch {α S R : Type} {f : S → Option (S ⊕ R)} (l : List α) (mk : Int → S) (p : Nat → α → Bool) (hitS : Nat → α → R) (finS : R) (hl : l.length ≤ 4294967296)
    (hstep : ∀ i x, l[i]? = some x → i < l.length → iadd .i64 (i : Int) 1 = ((i + 1 : Nat) : Int) → f (mk (i : Int)) = some (if p i x = true then .inr (hitS i x) else .inl (mk ((i + 1 : Nat) : Int))))
    (hfin : f (mk (l.length : Int)) = some (.inr finS)) :
    (∃ i x, l[i]? = some x ∧ p i x = true ∧ (∀ j y, j < i → l[j]? = some y → p j y = false) ∧ Loop f (mk 0) = some (hitS i x)) ∨ ((∀ i x, l[i]? = some x → p i x = false) ∧ Loop f (mk 0) = some finS) := by
  have adv : ∀ i x, l[i]? = some x → p i x = false → f (mk (i : Int)) = some (.inl (mk ((i + 1 : Nat) : Int))) := fun i x hx hp => by
    have hi := getElem?_lt hx
    rw [hstep i x hx hi (iadd_one (by omega)), hp]; rfl
  rcases first_or l p with ⟨i, x, hx, hp, hj⟩ | hn
  · left
    refine ⟨i, x, hx, hp, hj, ?_⟩
    have hi := getElem?_lt hx
    refine loop_seq i (fun j : Nat => mk (j : Int)) (fun j hji => ?_) ?_
    · have hjl : j < l.length := by omega
      exact adv j l[j] (List.getElem?_eq_getElem hjl) (hj j _ hji (List.getElem?_eq_getElem hjl))
    · rw [hstep i x hx hi (iadd_one (by omega)), hp]; rfl
  · right
    refine ⟨hn, loop_seq l.length (fun j : Nat => mk (j : Int)) (fun j hj => ?_) hfin⟩
    exact adv j l[j] (List.getElem?_eq_getElem hj) (hn j _ (List.getElem?_eq_getElem hj))

/-- The same where it ends ahead of the list's end, at a bound of its own. -/
theorem srchTo {α S R : Type} {f : S → Option (S ⊕ R)} (l : List α) (n : Nat) (mk : Int → S) (p : Nat → α → Bool) (hitS : Nat → α → R) (finS : Nat → R) (hl : min n l.length ≤ 4294967296)
    (hstep : ∀ i x, l[i]? = some x → i < l.length → i < n → iadd .i64 (i : Int) 1 = ((i + 1 : Nat) : Int) → f (mk (i : Int)) = some (if p i x = true then .inr (hitS i x) else .inl (mk ((i + 1 : Nat) : Int))))
    (hfin : f (mk ((min n l.length : Nat) : Int)) = some (.inr (finS (min n l.length)))) :
    (∃ i x, i < n ∧ l[i]? = some x ∧ p i x = true ∧ (∀ j y, j < i → l[j]? = some y → p j y = false) ∧ Loop f (mk 0) = some (hitS i x)) ∨ ((∀ i x, i < n → l[i]? = some x → p i x = false) ∧ Loop f (mk 0) = some (finS (min n l.length))) := by
  have ht : ∀ i x, (l.take n)[i]? = some x ↔ (i < n ∧ l[i]? = some x) := fun i x => by
    rw [List.getElem?_take]
    by_cases h : i < n
    · simp [h]
    · simp [h]
  have hlen : (l.take n).length = min n l.length := List.length_take
  rcases srch (f := f) (l.take n) mk p hitS (finS (min n l.length)) (by rw [hlen]; exact hl) (fun i x hx hi hadd => by
      obtain ⟨h1, h2⟩ := (ht i x).1 hx
      exact hstep i x h2 (getElem?_lt h2) h1 hadd) (by rw [hlen]; exact hfin) with ⟨i, x, hx, hp, hj, h⟩ | ⟨hn, h⟩
  · obtain ⟨h1, h2⟩ := (ht i x).1 hx
    exact .inl ⟨i, x, h1, h2, hp, fun j y hji hy => hj j y hji ((ht j y).2 ⟨by omega, hy⟩), h⟩
  · exact .inr ⟨fun i x hi hx => hn i x ((ht i x).2 ⟨hi, hx⟩), h⟩

/-- A list gone through to its end. -/
theorem fold_loop {α σ S R : Type} {f : S → Option (S ⊕ R)} (l : List α) (mk : σ → Int → S) (step : σ → Nat → α → σ) (fin : σ → R) (Inv : σ → Nat → Prop) (hl : l.length ≤ 4294967296)
    (hstep : ∀ s i x, l[i]? = some x → i < l.length → iadd .i64 (i : Int) 1 = ((i + 1 : Nat) : Int) → Inv s i → f (mk s (i : Int)) = some (.inl (mk (step s i x) ((i + 1 : Nat) : Int))) ∧ Inv (step s i x) (i + 1))
    (hfin : ∀ s, Inv s l.length → f (mk s (l.length : Int)) = some (.inr (fin s))) (s : σ) (h0 : Inv s 0) : ∃ t, Inv t l.length ∧ Loop f (mk s 0) = some (fin t) ∧ t = (l.zipIdx).foldl (fun a p => step a p.2 p.1) s := by
  have key : ∀ (rest pre : List α) (s : σ), l = pre ++ rest → Inv s pre.length → ∃ t, Inv t l.length ∧ Loop f (mk s (pre.length : Int)) = some (fin t) ∧ t = (rest.zipIdx pre.length).foldl (fun a p => step a p.2 p.1) s := by
    intro rest
    induction rest with
    | nil =>
      intro pre s hl2 hI
      rw [List.append_nil] at hl2
      subst hl2
      exact ⟨s, hI, by rw [Loop_eq, hfin s hI]; rfl, rfl⟩
    | cons x r ih =>
      intro pre s hl2 hI
      have hx : l[pre.length]? = some x := by rw [hl2]; simp
      have hlt := getElem?_lt hx
      obtain ⟨h1, h2⟩ := hstep s pre.length x hx hlt (iadd_one (by omega)) hI
      obtain ⟨t, t1, t2, t3⟩ := ih (pre ++ [x]) (step s pre.length x) (by rw [hl2]; simp) (by rw [List.length_append]; exact h2)
      rw [List.length_append] at t2 t3
      exact ⟨t, t1, by rw [Loop_eq, h1]; exact t2, t3⟩
  exact key l [] s rfl h0

/-- A list gone through, of whose elements another one is made. -/
theorem fold_app {α β S R : Type} {f : S → Option (S ⊕ R)} (l : List α) (mk : List β → Int → S) (g : α → List β) (fin : R) (hl : l.length ≤ 4294967296)
    (hstep : ∀ i x, l[i]? = some x → i < l.length → iadd .i64 (i : Int) 1 = ((i + 1 : Nat) : Int) → f (mk ((l.take i).flatMap g) (i : Int)) = some (.inl (mk ((l.take i).flatMap g ++ g x) ((i + 1 : Nat) : Int))))
    (hfin : f (mk (l.flatMap g) (l.length : Int)) = some (.inr fin)) : Loop f (mk [] 0) = some fin := by
  refine loop_seq l.length (fun j : Nat => mk ((l.take j).flatMap g) (j : Int)) (fun j hj => ?_) (by simp only [List.take_length]; exact hfin)
  have hx : l[j]? = some l[j] := List.getElem?_eq_getElem hj
  have := hstep j l[j] hx hj (iadd_one (by omega))
  rw [this, List.take_add_one, hx, List.flatMap_append]
  simp
theorem fits_len {α : Type} {l : List α} (h : l.length ≤ 4294967296) : fits (len l) = true := fits_nat' h
theorem mem_at {α : Type} {l : List α} {x : α} : x ∈ l ↔ ∃ i : Nat, l[i]? = some x := by rw [List.mem_iff_getElem?]
end Go.Ge
