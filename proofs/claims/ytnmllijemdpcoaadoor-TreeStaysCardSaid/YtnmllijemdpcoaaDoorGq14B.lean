/- Trees: where a path lies, in plain words. -/
import Derived.Test.YtnmllijemdpcoaaDoorGq14A
namespace Go.Ge
set_option linter.unusedVariables false
set_option linter.unusedSimpArgs false

/-- The sizes that matter. -/
def Sm (n : Nd) : Prop := n.1.length ≤ 200 ∧ n.2.2.2.2.1.length ≤ 200 ∧ n.2.2.2.1.length ≤ 1024
def SmL (l : List Nd) : Prop := l.length ≤ 4096 ∧ ∀ x ∈ l, Sm x

def key (n : Nd) : List (List UInt8) := parts n.1
def cmp (n : Nd) (p : List UInt8) : Int := cmpL (parts n.1) (parts p)

theorem SmL.at {l : List Nd} (h : SmL l) {i : Nat} {x : Nd} (hx : l[i]? = some x) : Sm x := h.2 x (List.mem_of_getElem? hx)
theorem SmL.take {l : List Nd} (h : SmL l) (k : Nat) : SmL (l.take k) := ⟨by rw [List.length_take]; have := h.1; omega, fun x hx => h.2 x (List.mem_of_mem_take hx)⟩

theorem placeC_val (n : Nd) (p : List UInt8) (hn : n.1.length ≤ 4096) (hp : p.length ≤ 4096) : P_tree_place_c1 (n, (p, ())) = some (cmp n p, ()) := by
  unfold P_tree_place_c1
  dsimp only
  rw [compare_val _ _ hn hp, obind_some]
  rfl

theorem mid_val {a b : Nat} (ha : a ≤ 1048576) (hb : b ≤ 1048576) : icv .i64 (ishr .u64 (icv .u64 (iadd .i64 (a : Int) (b : Int))) 1) = (((a + b) / 2 : Nat) : Int) := by
  rw [iadd_i64 (by omega) (by omega), icv_u64 (by omega) (by omega)]
  have e : ishr .u64 ((a : Int) + (b : Int)) 1 = (((a + b) / 2 : Nat) : Int) := by
    unfold ishr
    rw [show (1 : Int).toNat = 1 from rfl]
    have e2 : ((a : Int) + b).fdiv 2 = ((a : Int) + b) / 2 := Int.fdiv_eq_ediv_of_nonneg _ (by omega)
    have e3 : (2 : Int) ^ min 1 IntKind.u64.bits = 2 := by decide
    simp [e3, e2]
  rw [e, icv_i64 (by omega) (by omega)]

/-- Told by its end: those before are less, those after are not. -/
theorem place_run (l : List Nd) (p : List UInt8) (hl : SmL l) (hp : p.length ≤ 4096) : ∀ (n lo hi : Nat), hi - lo ≤ n → lo ≤ hi → hi ≤ l.length →
    ∃ k : Nat, lo ≤ k ∧ k ≤ hi ∧ Loop (P_tree_place_L0 (l, (p, ()))) (((lo : Int), ((hi : Int), ())), ()) = some (((k : Int), ((k : Int), ())), ()) ∧
      ((∀ (i j : Nat) (x y : Nd), i ≤ j → l[i]? = some x → l[j]? = some y → cmp y p < 0 → cmp x p < 0) → (∀ (j : Nat) (y : Nd), j < lo → l[j]? = some y → cmp y p < 0) → (∀ (j : Nat) (y : Nd), hi ≤ j → l[j]? = some y → ¬ cmp y p < 0) →
        (∀ (j : Nat) (y : Nd), j < k → l[j]? = some y → cmp y p < 0) ∧ (∀ (j : Nat) (y : Nd), k ≤ j → l[j]? = some y → ¬ cmp y p < 0)) := by
  intro n
  induction n with
  | zero =>
    intro lo hi h1 h2 h3
    obtain rfl : hi = lo := by omega
    refine ⟨hi, Nat.le_refl _, Nat.le_refl _, ?_, fun _ a b => ⟨a, b⟩⟩
    rw [Loop_eq]
    unfold P_tree_place_L0
    dsimp only
    rw [ltI_false (Int.le_refl _), sel_false]
    rfl
  | succ n ih =>
    intro lo hi h1 h2 h3
    by_cases h : hi = lo
    · subst h
      exact ih hi hi (by omega) (Nat.le_refl _) h3
    · have h4 := hl.1
      have hm : (lo + hi) / 2 < l.length := by omega
      obtain ⟨x, hx⟩ : ∃ x, l[(lo + hi) / 2]? = some x := ⟨_, List.getElem?_eq_getElem hm⟩
      have hstep : P_tree_place_L0 (l, (p, ())) (((lo : Int), ((hi : Int), ())), ()) = some (.inl (if cmp x p < 0 then (((((lo + hi) / 2 + 1 : Nat) : Int), ((hi : Int), ())), ()) else (((lo : Int), ((((lo + hi) / 2 : Nat) : Int), ())), ()))) := by
        unfold P_tree_place_L0
        dsimp only
        rw [ltI_true (by omega), sel_true, ltI_false (by decide), sel_false, mid_val (by omega) (by omega), idx_some' hx, obind_some, placeC_val x p (by have := (hl.at hx).1; omega) hp, obind_some]
        dsimp only
        rw [iadd_one (by omega)]
        by_cases hc : cmp x p < 0
        · rw [ltI_true hc, if_pos hc]; rfl
        · rw [ltI_false (by omega), if_neg hc]; rfl
      rw [Loop_eq, hstep]
      by_cases hc : cmp x p < 0
      · obtain ⟨k, k1, k2, k3, k4⟩ := ih ((lo + hi) / 2 + 1) hi (by omega) (by omega) h3
        refine ⟨k, by omega, k2, by rw [if_pos hc]; exact k3, fun a b c => k4 a (fun j y hj hy => ?_) c⟩
        exact a j ((lo + hi) / 2) y x (by omega) hy hx hc
      · obtain ⟨k, k1, k2, k3, k4⟩ := ih lo ((lo + hi) / 2) (by omega) (by omega) (by omega)
        refine ⟨k, k1, by omega, by rw [if_neg hc]; exact k3, fun a b c => k4 a b (fun j y hj hy hy2 => hc (a _ _ x y hj hx hy hy2))⟩

/-- Each less than the next. -/
def Ord (l : List Nd) : Prop := ∀ (i j : Nat) (x y : Nd), i < j → l[i]? = some x → l[j]? = some y → cmpL (key x) (key y) < 0

theorem Ord.mono {l : List Nd} (h : Ord l) (p : List UInt8) : ∀ (i j : Nat) (x y : Nd), i ≤ j → l[i]? = some x → l[j]? = some y → cmp y p < 0 → cmp x p < 0 := by
  intro i j x y hij hx hy hc
  rcases Nat.lt_or_ge i j with g | g
  · exact cmpL_trans (h i j x y g hx hy) hc
  · obtain rfl : i = j := by omega
    rw [hx] at hy
    obtain rfl := Option.some.inj hy
    exact hc
theorem Ord.take {l : List Nd} (h : Ord l) (k : Nat) : Ord (l.take k) := fun i j x y hij hx hy => by
  rw [List.getElem?_take] at hx hy
  split at hx
  · split at hy
    · exact h i j x y hij hx hy
    · cases hy
  · cases hx

/-- Where a path would lie, and whether it lies there. -/
structure Plc (l : List Nd) (p : List UInt8) (k : Nat) (b : Bool) : Prop where
  le : k ≤ l.length
  lo : ∀ (j : Nat) (y : Nd), j < k → l[j]? = some y → cmp y p < 0
  hi : ∀ (j : Nat) (y : Nd), k ≤ j → l[j]? = some y → ¬ cmp y p < 0
  is : b = true → ∃ x, l[k]? = some x ∧ x.1 = p
  no : b = false → ∀ x ∈ l, x.1 ≠ p

theorem cmp_zero {n : Nd} {p : List UInt8} (h : cmp n p = 0) : n.1 = p := by
  have := cmpL_zero h
  rw [← joinS_parts n.1, this, joinS_parts]
theorem cmp_same {n : Nd} {p : List UInt8} (h : n.1 = p) : cmp n p = 0 := by subst h; exact cmpL_self _

theorem place_val (l : List Nd) (p : List UInt8) (hl : SmL l) (hp : p.length ≤ 4096) : ∃ (k : Nat) (b : Bool), P_tree_place (l, (p, ())) = some ((k : Int), (b, ())) ∧ k ≤ l.length ∧ (b = true → k < l.length) ∧ (Ord l → Plc l p k b) := by
  obtain ⟨k, _, k2, k3, k4⟩ := place_run l p hl hp l.length 0 l.length (by omega) (by omega) (Nat.le_refl _)
  have k3' : Loop (P_tree_place_L0 (l, (p, ()))) ((0, (len l, ())), ()) = some (((k : Int), ((k : Int), ())), ()) := k3
  have lows := fun (h : Ord l) => k4 (h.mono p) (fun j y hj => by omega) (fun j y hj hy => by have := getElem?_lt hy; omega)
  by_cases hk : k < l.length
  · obtain ⟨x, hx⟩ : ∃ x, l[k]? = some x := ⟨_, List.getElem?_eq_getElem hk⟩
    refine ⟨k, decide (cmp x p = 0), ?_, k2, fun _ => hk, fun h => ⟨k2, (lows h).1, (lows h).2, fun hb => ⟨x, hx, cmp_zero (of_decide_eq_true hb)⟩, fun hb y hy e => ?_⟩⟩
    · unfold P_tree_place
      dsimp only
      rw [k3', obind_some]
      dsimp only
      rw [ltI_len_true hk, sel_true, idx_some' hx, obind_some, placeC_val x p (by have := (hl.at hx).1; omega) hp, obind_some]
      rfl
    · obtain ⟨j, hj⟩ := mem_at.1 hy
      have h0 := cmp_same e
      have hne := of_decide_eq_false hb
      rcases Nat.lt_trichotomy j k with g | g | g
      · have := (lows h).1 j y g hj; omega
      · subst g; rw [hx] at hj; obtain rfl := Option.some.inj hj; exact hne h0
      · have h1 := h k j x y g hx hj
        rw [show key y = parts p by unfold key; rw [e]] at h1
        exact (lows h).2 k x (Nat.le_refl _) hx h1
  · obtain rfl : k = l.length := by omega
    refine ⟨l.length, false, ?_, k2, fun h => (by cases h), fun h => ⟨k2, (lows h).1, (lows h).2, fun h => (by cases h), fun hb y hy e => ?_⟩⟩
    · unfold P_tree_place
      dsimp only
      rw [k3', obind_some]
      dsimp only
      rw [ltI_len_end, sel_false]
    · obtain ⟨j, hj⟩ := mem_at.1 hy
      have h0 := cmp_same e
      have := (lows h).1 j y (getElem?_lt hj) hj
      omega

/-! ### Up to the directory -/
/-- What is told of a directory. -/
def Dir (l : List Nd) (d : List UInt8) (e : Int) : Prop := (d = [] ∧ e = 0) ∨ (d ≠ [] ∧ (((∀ x ∈ l, x.1 ≠ d) ∧ e = 3) ∨ ∃ x ∈ l, x.1 = d ∧ ((x.2.1 = 2 ∧ e = 0) ∨ (x.2.1 ≠ 2 ∧ e = 12))))

theorem dir_val (l : List Nd) (d : List UInt8) (hl : SmL l) (hd : d.length ≤ 4096) : ∃ e, P_tree_dir (l, (d, ())) = some (e, ()) ∧ (Ord l → Dir l d e) := by
  unfold P_tree_dir
  dsimp only
  by_cases h0 : d = []
  · subst h0
    exact ⟨0, rfl, fun _ => .inl ⟨rfl, rfl⟩⟩
  · rw [eqS_false h0, sel_false]
    obtain ⟨k, b, h1, h2, h3, h4⟩ := place_val l d hl hd
    rw [h1, obind_some]
    dsimp only
    cases b with
    | false =>
      rw [nt_false, sel_true]
      exact ⟨3, rfl, fun h => .inr ⟨h0, .inl ⟨(h4 h).no rfl, rfl⟩⟩⟩
    | true =>
      have hk := h3 rfl
      obtain ⟨x, hx⟩ : ∃ x, l[k]? = some x := ⟨_, List.getElem?_eq_getElem hk⟩
      rw [nt_true, sel_false, idx_some' hx, obind_some]
      have hw : Ord l → x.1 = d := fun h => by
        obtain ⟨y, hy, e⟩ := (h4 h).is rfl
        rw [hx] at hy
        rw [Option.some.inj hy, e]
      by_cases hk2 : x.2.1 = 2
      · refine ⟨0, ?_, fun h => .inr ⟨h0, .inr ⟨x, List.mem_of_getElem? hx, hw h, .inl ⟨hk2, rfl⟩⟩⟩⟩
        rw [eqI_true hk2]; rfl
      · refine ⟨12, ?_, fun h => .inr ⟨h0, .inr ⟨x, List.mem_of_getElem? hx, hw h, .inr ⟨hk2, rfl⟩⟩⟩⟩
        rw [show eqI x.2.1 2 = false by simp [eqI, hk2]]; rfl

/-! ### The reference's search -/
end Go.Ge
