/- Layer 19 in plain words: roots and children together are all; who lies on a layer has it next. (For the third law, whose text is not there yet.) -/
import Derived.Test.YtcdhodfpemkbfaaPlainG
namespace Go.Proofs.Ytcdhodfpemkbfaa
open Go Go.Ge
set_option linter.unusedVariables false
set_option linter.unusedSimpArgs false

theorem sumL_add {α : Type} (f g : α → Nat) : ∀ l : List α, sumL (fun x => f x + g x) l = sumL f l + sumL g l := by
  intro l
  induction l with
  | nil => rfl
  | cons x r ih => simp only [sumL, ih]; omega

theorem sumL_congr {α : Type} {f g : α → Nat} : ∀ {l : List α}, (∀ x ∈ l, f x = g x) → sumL f l = sumL g l := by
  intro l
  induction l with
  | nil => intro _; rfl
  | cons x r ih => intro h; simp only [sumL]; rw [h x (List.mem_cons_self ..), ih fun y hy => h y (List.mem_cons_of_mem _ hy)]

theorem sumL_zero {α : Type} {f : α → Nat} : ∀ {l : List α}, (∀ x ∈ l, f x = 0) → sumL f l = 0 := by
  intro l
  induction l with
  | nil => intro _; rfl
  | cons x r ih => intro h; simp only [sumL]; rw [h x (List.mem_cons_self ..), ih fun y hy => h y (List.mem_cons_of_mem _ hy)]

/-- Of names no two of which are the same, one is the one that is there. -/
theorem count_one (p : Str) : ∀ {ks : List Ly}, ks.Pairwise (fun x y => x.1 ≠ y.1) → (∃ x ∈ ks, x.1 = p) → sumL (fun x => if x.1 = p then 1 else 0) ks = 1 := by
  intro ks
  induction ks with
  | nil => intro _ h; obtain ⟨x, hx, _⟩ := h; cases hx
  | cons k r ih =>
    intro hnd h
    obtain ⟨h1, h2⟩ := List.pairwise_cons.1 hnd
    simp only [sumL]
    by_cases hk : k.1 = p
    · rw [if_pos hk, sumL_zero]
      intro x hx
      rw [if_neg]
      intro e
      exact h1 x hx (hk.trans e.symm)
    · rw [if_neg hk, ih h2, Nat.zero_add]
      obtain ⟨x, hx, e⟩ := h
      rcases List.mem_cons.1 hx with hx | hx
      · subst hx; exact absurd e hk
      · exact ⟨x, hx, e⟩

theorem kidP_eq {id : Str} (hid : id ≠ []) (y : Ly) : kidP id y = decide (y.2.1 = id) := by
  unfold kidP
  have : eqS id [] = false := by simp [eqS, hid]
  rw [this]
  rfl

theorem count_from (l ks : List Ly) (hne : ∀ x ∈ ks, x.1 ≠ []) (hnd : ks.Pairwise (fun x y => x.1 ≠ y.1)) : ∀ ys : List Ly, (∀ y ∈ ys, y.2.1 = [] ∨ ∃ x ∈ ks, x.1 = y.2.1) →
    (ys.filter rootP).length + sumL (fun x => (ys.filter (kidP x.1)).length) ks = ys.length := by
  intro ys
  induction ys with
  | nil =>
    intro _
    have h0 : sumL (fun x : Ly => (([] : List Ly).filter (kidP x.1)).length) ks = 0 := sumL_zero fun x _ => rfl
    rw [h0]; rfl
  | cons y ys ih =>
    intro hp
    have ih := ih fun z hz => hp z (List.mem_cons_of_mem _ hz)
    have hsum : sumL (fun x => ((y :: ys).filter (kidP x.1)).length) ks = sumL (fun x => if x.1 = y.2.1 then 1 else 0) ks + sumL (fun x => (ys.filter (kidP x.1)).length) ks := by
      rw [← sumL_add]
      refine sumL_congr fun x hx => ?_
      rw [List.filter_cons, kidP_eq (hne x hx)]
      by_cases e : x.1 = y.2.1
      · rw [if_pos e, if_pos (by simp [e])]; simp; omega
      · rw [if_neg e, if_neg (by simp; exact fun h => e h.symm)]; omega
    rw [hsum, List.filter_cons]
    rcases hp y (List.mem_cons_self ..) with h | h
    · have h0 : sumL (fun x : Ly => if x.1 = y.2.1 then 1 else 0) ks = 0 := sumL_zero fun x hx => by rw [if_neg]; rw [h]; exact hne x hx
      have hr : rootP y = true := by simp [rootP, eqS, h]
      rw [h0, hr]
      simp only [if_true, List.length_cons]
      omega
    · have h1 := count_one y.2.1 hnd h
      have hr : rootP y = false := by
        obtain ⟨x, hx, e⟩ := h
        have := hne x hx
        rw [e] at this
        simp [rootP, eqS, this]
      rw [h1, hr]
      simp only [Bool.false_eq_true, if_false, List.length_cons]
      omega

/-- Roots and children together are all. -/
theorem count_all (l : List Ly) (hne : ∀ x ∈ l, x.1 ≠ []) (hnd : l.Pairwise (fun x y => x.1 ≠ y.1)) (hp : ∀ y ∈ l, y.2.1 = [] ∨ ∃ x ∈ l, x.1 = y.2.1) : (rootsP l).length + sumL (fun x => (kidsP l x.1).length) l = l.length := by
  have := count_from l l hne hnd l hp
  unfold rootsP kidsP
  simp only [List.length_map]
  exact this

/-- A layer whose chain is whole is a root, or lies on one that is there. -/
theorem parent_there (l : List Ly) (y : Ly) (hy : y ∈ l) (hnd : l.Pairwise (fun x y => x.1 ≠ y.1)) (hc : (chainP l 16 y.1 []).2 = 0) : ∃ r, (chainP l 16 y.1 []).1 = y :: r ∧ (y.2.1 = [] ∨ ∃ z r2, r = z :: r2 ∧ z ∈ l ∧ z.1 = y.2.1) := by
  obtain ⟨k, x, r, a1, a2, a3, a4⟩ := chain_head l 15 y.1 (chainP l 16 y.1 []).1 (by rw [← hc])
  obtain ⟨hk, b1, _⟩ := atP_some a1
  have hx : l[k] = x := by rw [List.getElem?_eq_getElem hk] at a2; exact Option.some.inj a2
  rw [hx] at b1
  have hxy : x = y := by
    obtain ⟨j, hj, ej⟩ := List.getElem_of_mem hy
    have e := eqS_true b1
    rw [List.pairwise_iff_getElem] at hnd
    rcases Nat.lt_trichotomy k j with h | h | h
    · exact absurd (by rw [hx, ej]; exact e) (hnd k j hk hj h)
    · subst h; rw [← hx, ← ej]
    · exact absurd (by rw [hx, ej]; exact e.symm) (hnd j k hj hk h)
  subst hxy
  refine ⟨r, a3, ?_⟩
  rcases a4 with ⟨h, _⟩ | ⟨h, h5⟩
  · exact .inl h
  · obtain ⟨k2, z, r2, t1, t2, t3, _⟩ := chain_head l 14 x.2.1 r h5
    obtain ⟨hk2, v1, _⟩ := atP_some t1
    have hz : l[k2] = z := by rw [List.getElem?_eq_getElem hk2] at t2; exact Option.some.inj t2
    rw [hz] at v1
    exact .inr ⟨z, r2, t3, List.mem_of_getElem? t2, eqS_true v1⟩
end Go.Proofs.Ytcdhodfpemkbfaa
