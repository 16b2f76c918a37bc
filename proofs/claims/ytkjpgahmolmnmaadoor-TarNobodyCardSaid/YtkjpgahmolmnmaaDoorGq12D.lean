/- The reference's headers that may be; what a block is summed up to. -/
import Derived.Test.YtkjpgahmolmnmaaDoorGq12C
namespace Go.Ge
set_option linter.unusedVariables false
set_option linter.unusedSimpArgs false

theorem refClear_loop (s : List UInt8) (hs : s.length ≤ 1048576) (m : Int) : ∀ (n i : Nat), s.length - i ≤ n → i ≤ s.length → ∃ q, Loop (P_ref12_clear_L0 (s, (m, ()))) ((false, ((i : Int), ())), ()) = some q ∧ (if noNul (s.drop i) then q.1 = 0 else q.1 = 1 ∧ q.2.1.1 = false) := by
  intro n
  induction n with
  | zero =>
    intro i h hi
    have : i = s.length := by omega
    subst this
    rw [Loop_eq]
    refine ⟨(0, ((false, ((s.length : Int), ())), ())), ?_, ?_⟩
    · unfold P_ref12_clear_L0
      dsimp only
      rw [ltI_false (by simp only [len]; omega), sel_false]
      rfl
    · rw [List.drop_length, if_pos (by intro x hx; cases hx)]
  | succ n ih =>
    intro i h hi
    rw [Loop_eq]
    by_cases hlt : i < s.length
    · have hd : s.drop i = s[i] :: s.drop (i + 1) := List.drop_eq_getElem_cons hlt
      have e0 : P_ref12_clear_L0 (s, (m, ())) ((false, ((i : Int), ())), ()) = if s[i] = 0 then some (.inr (1, ((false, ((i : Int), ())), ()))) else some (.inl ((false, (((i + 1 : Nat) : Int), ())), ())) := by
        unfold P_ref12_clear_L0
        dsimp only
        rw [ltI_true (by simp only [len]; omega), sel_true, idx_str s hlt, obind_some]
        by_cases hz : s[i] = 0
        · rw [hz, show eqI (u8 0) 0 = true from rfl, sel_true, if_pos rfl]
        · rw [show eqI (u8 s[i]) 0 = false from eqI_false (fun e => hz (u8_inj (b := 0) e)), sel_false, if_neg hz, iadd_one (by omega)]
      rw [e0]
      by_cases hz : s[i] = 0
      · rw [if_pos hz]
        refine ⟨_, rfl, ?_⟩
        rw [if_neg (fun hn => hn s[i] (by rw [hd]; exact List.mem_cons_self ..) hz)]
        exact ⟨rfl, rfl⟩
      · rw [if_neg hz]
        obtain ⟨q, q1, q2⟩ := ih (i + 1) (by omega) (by omega)
        refine ⟨q, q1, ?_⟩
        have e : noNul (s.drop i) ↔ noNul (s.drop (i + 1)) := by
          rw [hd]
          constructor
          · intro h x hx; exact h x (List.mem_cons_of_mem _ hx)
          · intro h x hx
            rcases List.mem_cons.1 hx with rfl | hx
            · exact hz
            · exact h x hx
        by_cases hn : noNul (s.drop (i + 1))
        · rw [if_pos hn] at q2; rw [if_pos (e.2 hn)]; exact q2
        · rw [if_neg hn] at q2; rw [if_neg (fun k => hn (e.1 k))]; exact q2
    · have : i = s.length := by omega
      subst this
      refine ⟨(0, ((false, ((s.length : Int), ())), ())), ?_, ?_⟩
      · unfold P_ref12_clear_L0
        dsimp only
        rw [ltI_false (by simp only [len]; omega), sel_false]
        rfl
      · rw [List.drop_length, if_pos (by intro x hx; cases hx)]

theorem refClear_val (s : List UInt8) (hs : s.length ≤ 1048576) (m : Int) : P_ref12_clear (s, (m, ())) = some (decide (clr s m), ()) := by
  unfold P_ref12_clear
  dsimp only
  obtain ⟨q, q1, q2⟩ := refClear_loop s hs m s.length 0 (by omega) (by omega)
  rw [show Loop (P_ref12_clear_L0 (s, (m, ()))) ((false, (0, ())), ()) = some q from q1, obind_some]
  rw [List.drop_zero] at q2
  by_cases hn : noNul s
  · rw [if_pos hn] at q2
    rw [q2, show eqN 0 0 = true from rfl, sel_true]
    by_cases h : s = []
    · subst h
      rw [leI_false (by decide), sel_false, decide_eq_false (fun e => e.1 rfl)]
    · have := List.length_pos_iff.2 h
      rw [leI_true (by simp only [len]; omega), sel_true]
      unfold leI
      rw [show decide (len s ≤ m) = decide (clr s m) from decide_eq_decide.2 ⟨fun e => ⟨h, e, hn⟩, fun e => e.2.1⟩]
  · rw [if_neg hn] at q2
    rw [q2.1, show eqN 1 0 = false from rfl, sel_false, q2.2, decide_eq_false (fun e => hn e.2.2)]

theorem refIn_val (n b : Int) : P_ref12_in (n, (b, ())) = some (decide (inN n b), ()) := in_val n b

theorem may_val (h : Hd) (m : Int) (h1 : h.1.length ≤ 1048576) (h2 : h.2.2.2.2.2.2.2.1.length ≤ 1048576) : P_ref12_may (h, (m, ())) = some (decide (okHd h m), ()) := by
  unfold P_ref12_may
  dsimp only
  have hlink : (sel (eqI h.2.1 3) (obind (P_ref12_clear (h.2.2.2.2.2.2.2.1, (100, ()))) fun y1 => some ((y1.1, ()), ())) (some ((eqS h.2.2.2.2.2.2.2.1 [], ()), ()))) =
      some ((decide ((h.2.1 = 3 ∧ clr h.2.2.2.2.2.2.2.1 100) ∨ (h.2.1 ≠ 3 ∧ h.2.2.2.2.2.2.2.1 = [])), ()), ()) := by
    by_cases k3 : h.2.1 = 3
    · rw [k3, eqI_self, sel_true, refClear_val _ h2, obind_some]
      rw [show decide (clr h.2.2.2.2.2.2.2.1 100) = decide (((3 : Int) = 3 ∧ clr h.2.2.2.2.2.2.2.1 100) ∨ ((3 : Int) ≠ 3 ∧ h.2.2.2.2.2.2.2.1 = [])) from decide_eq_decide.2 (by simp)]
    · rw [eqI_false k3, sel_false]
      unfold eqS
      rw [show decide (h.2.2.2.2.2.2.2.1 = []) = decide ((h.2.1 = 3 ∧ clr h.2.2.2.2.2.2.2.1 100) ∨ (h.2.1 ≠ 3 ∧ h.2.2.2.2.2.2.2.1 = [])) from decide_eq_decide.2 (by simp [k3])]
  rw [hlink, obind_some, refClear_val _ h1, obind_some]
  dsimp only
  have hno : ∀ {p : Prop} [Decidable p], ¬ p → decide p = false := fun {p} _ h => decide_eq_false h
  by_cases h6 : clr h.1 m
  case neg => rw [decide_eq_false h6, sel_false, sel_false, sel_false, obind_some, sel_false, obind_some, sel_false, obind_some, sel_false, obind_some, sel_false, obind_some, sel_false, sel_false, decide_eq_false (fun e => h6 e.2.2.2.2.2.1)]
  rw [decide_eq_true h6, sel_true]
  have hkk : okHd h m → 1 ≤ h.2.1 ∧ h.2.1 ≤ 3 := fun e => by
    rcases e.2.2.2.2.2.2 with k | k | k <;> omega
  by_cases k1 : 1 ≤ h.2.1
  case neg => rw [leI_false (by omega), sel_false, sel_false, obind_some, sel_false, obind_some, sel_false, obind_some, sel_false, obind_some, sel_false, obind_some, sel_false, sel_false, decide_eq_false (fun e => k1 (hkk e).1)]
  rw [leI_true k1, sel_true]
  by_cases k2 : h.2.1 ≤ 3
  case neg => rw [leI_false (by omega), sel_false, obind_some, sel_false, obind_some, sel_false, obind_some, sel_false, obind_some, sel_false, obind_some, sel_false, sel_false, decide_eq_false (fun e => k2 (hkk e).2)]
  rw [leI_true k2, sel_true, refIn_val, obind_some, obind_some]
  by_cases n1 : inN h.2.2.1 2097152
  case neg => rw [decide_eq_false n1, sel_false, obind_some, sel_false, obind_some, sel_false, obind_some, sel_false, obind_some, sel_false, sel_false, decide_eq_false (fun e => n1 e.1)]
  rw [decide_eq_true n1, sel_true, refIn_val, obind_some, obind_some]
  by_cases n2 : inN h.2.2.2.1 2097152
  case neg => rw [decide_eq_false n2, sel_false, obind_some, sel_false, obind_some, sel_false, obind_some, sel_false, sel_false, decide_eq_false (fun e => n2 e.2.1)]
  rw [decide_eq_true n2, sel_true, refIn_val, obind_some, obind_some]
  by_cases n3 : inN h.2.2.2.2.1 2097152
  case neg => rw [decide_eq_false n3, sel_false, obind_some, sel_false, obind_some, sel_false, sel_false, decide_eq_false (fun e => n3 e.2.2.1)]
  rw [decide_eq_true n3, sel_true, refIn_val, obind_some, obind_some]
  by_cases n4 : inN h.2.2.2.2.2.1 8589934592
  case neg => rw [decide_eq_false n4, sel_false, obind_some, sel_false, sel_false, decide_eq_false (fun e => n4 e.2.2.2.1)]
  rw [decide_eq_true n4, sel_true, refIn_val, obind_some, obind_some]
  by_cases n5 : inN h.2.2.2.2.2.2.1 8589934592
  case neg => rw [decide_eq_false n5, sel_false, sel_false, decide_eq_false (fun e => n5 e.2.2.2.2.1)]
  rw [decide_eq_true n5, sel_true]
  have hk : decide (okHd h m) = decide (kindOk h) := decide_eq_decide.2 ⟨fun e => e.2.2.2.2.2.2, fun e => ⟨n1, n2, n3, n4, n5, h6, e⟩⟩
  rw [hk]
  have hk3 : h.2.1 = 1 ∨ h.2.1 = 2 ∨ h.2.1 = 3 := by omega
  by_cases hz : h.2.2.2.2.2.1 = 0
  · rw [eqI_true hz, nt_true, sel_false, sel_true]
    rw [show decide ((h.2.1 = 3 ∧ clr h.2.2.2.2.2.2.2.1 100) ∨ (h.2.1 ≠ 3 ∧ h.2.2.2.2.2.2.2.1 = [])) = decide (kindOk h) from decide_eq_decide.2 (by
      unfold kindOk
      rcases hk3 with k | k | k <;> simp [k, hz])]
  · rw [eqI_false hz, nt_false, sel_true]
    by_cases ko : h.2.1 = 1
    · rw [eqI_true ko, sel_true]
      rw [show decide ((h.2.1 = 3 ∧ clr h.2.2.2.2.2.2.2.1 100) ∨ (h.2.1 ≠ 3 ∧ h.2.2.2.2.2.2.2.1 = [])) = decide (kindOk h) from decide_eq_decide.2 (by unfold kindOk; simp [ko])]
    · rw [eqI_false ko, sel_false]
      rw [show decide (kindOk h) = false from decide_eq_false (by unfold kindOk; simp [ko, hz])]

/-! ### Sums -/
def sumAt (b : List UInt8) (k : Nat) : Nat := if 148 ≤ k ∧ k < 156 then 32 else (b.getD k 0).toNat
def sumTo (b : List UInt8) : Nat → Nat
  | 0 => 0
  | k + 1 => sumTo b k + sumAt b k
theorem sumAt_le (b : List UInt8) (k : Nat) : sumAt b k ≤ 255 := by
  unfold sumAt
  have := (b.getD k 0).toNat_lt
  split <;> omega
theorem sumTo_le (b : List UInt8) (k : Nat) : sumTo b k ≤ 255 * k := by
  induction k with
  | zero => exact Nat.le_refl _
  | succ k ih => have := sumAt_le b k; simp only [sumTo]; omega

theorem idx_fields : idx ([(0, (100, ())), (100, (8, ())), (108, (8, ())), (116, (8, ())), (124, (12, ())), (136, (12, ())), (148, (8, ())), (156, (1, ())), (157, (100, ())), (257, (8, ())), (345, (155, ()))] : List (Int × Int × Unit)) 6 = some (148, (8, ())) := rfl

theorem sum_val12 (b : List UInt8) (hb : b.length ≤ 1048576) : P_header_Sum (b, ()) = some ((sumTo b b.length : Int), ()) := by
  unfold P_header_Sum P_header_fields
  rw [obind_some]
  dsimp only
  rw [idx_fields, obind_some, fits_true (by simp only [len]; omega), sel_true]
  have key : Loop (P_header_Sum_L0 (b, ()) (148, (8, ()))) ((0, (0, ())), ()) = some (((sumTo b b.length : Int), ((b.length : Int), ())), ()) :=
    loop_seq (f := P_header_Sum_L0 (b, ()) (148, (8, ()))) (r := (((sumTo b b.length : Int), ((b.length : Int), ())), ())) b.length (fun k => (((sumTo b k : Int), ((k : Int), ())), ())) (fun k hk => by
      unfold P_header_Sum_L0
      dsimp only
      have h1 := sumTo_le b k
      have h2 := sumAt_le b k
      have hgd : b.getD k 0 = b[k] := by simp [List.getD_eq_getElem?_getD, hk]
      rw [len_bytes, ltI_true (by omega), sel_true, within_true (by omega) (by omega), sel_true, idx_bytes b hk, obind_some, way1_inl, iadd_one (by omega), show iadd .i64 148 8 = 156 from by decide]
      have hs : (sel (sel (leI 148 (k : Int)) (ltI (k : Int) 156) false) (((32 : Int), ()), ()) ((u8 b[k], ()), ())).1.1 = (sumAt b k : Int) := by
        unfold sumAt
        by_cases h : 148 ≤ k
        · by_cases h' : k < 156
          · rw [leI_true (by omega), sel_true, ltI_true (by omega), sel_true, if_pos ⟨h, h'⟩]; rfl
          · rw [leI_true (by omega), sel_true, ltI_false (by omega), sel_false, if_neg (fun e => h' e.2), hgd]; rfl
        · rw [leI_false (by omega), sel_false, sel_false, if_neg (fun e => h e.1), hgd]; rfl
      rw [hs, icv_i64 (by omega) (by omega), show iadd .i64 (sumTo b k : Int) (sumAt b k : Int) = ((sumTo b k + sumAt b k : Nat) : Int) from iadd_nat (by omega)]
      rfl) (by
      unfold P_header_Sum_L0
      dsimp only
      rw [len_bytes, ltI_false (by omega), sel_false, way1_inr])
  rw [key, obind_some]

theorem refSum_val12 (b : List UInt8) (hb : b.length ≤ 1048576) : P_ref12_Sum (b, ()) = some ((sumTo b b.length : Int), ()) := by
  unfold P_ref12_Sum
  have key : Loop (P_ref12_Sum_L0 (b, ())) ((0, (0, ())), ()) = some (((sumTo b b.length : Int), ((b.length : Int), ())), ()) :=
    loop_seq (f := P_ref12_Sum_L0 (b, ())) (r := (((sumTo b b.length : Int), ((b.length : Int), ())), ())) b.length (fun k => (((sumTo b k : Int), ((k : Int), ())), ())) (fun k hk => by
      unfold P_ref12_Sum_L0
      dsimp only
      have h1 := sumTo_le b k
      have h2 := sumAt_le b k
      have hgd : b.getD k 0 = b[k] := by simp [List.getD_eq_getElem?_getD, hk]
      have hu := b[k].toNat_lt
      have e : ∀ v : Nat, v = sumAt b k → iadd .i64 (sumTo b k : Int) (v : Int) = ((sumTo b (k + 1) : Nat) : Int) := fun v hv => by
        rw [hv, iadd_nat (by omega)]
        rfl
      rw [ltI_true (by simp only [len]; omega), sel_true]
      unfold sumAt at e
      by_cases h : 148 ≤ k
      · by_cases h' : k < 156
        · rw [leI_true (by omega), sel_true, ltI_true (by omega), sel_true, obind_some, way1_inl, iadd_one (by omega)]
          dsimp only
          rw [show iadd .i64 (sumTo b k : Int) 32 = _ from e 32 (by rw [if_pos ⟨h, h'⟩])]
        · rw [leI_true (by omega), sel_true, ltI_false (by omega), sel_false, idx_str b hk, obind_some, obind_some, way1_inl, iadd_one (by omega)]
          dsimp only
          rw [show icv .i64 (u8 b[k]) = (b[k].toNat : Int) from icv_i64 (by unfold u8; omega) (by unfold u8; omega), e b[k].toNat (by rw [if_neg (fun e => h' e.2), hgd])]
      · rw [leI_false (by omega), sel_false, sel_false, idx_str b hk, obind_some, obind_some, way1_inl, iadd_one (by omega)]
        dsimp only
        rw [show icv .i64 (u8 b[k]) = (b[k].toNat : Int) from icv_i64 (by unfold u8; omega) (by unfold u8; omega), e b[k].toNat (by rw [if_neg (fun e => h e.1), hgd])]) (by
      unfold P_ref12_Sum_L0
      dsimp only
      rw [ltI_false (by simp only [len]; omega), sel_false, way1_inr])
  rw [key, obind_some]

/-- One byte changed changes the sum. -/
theorem sumTo_set (b : List UInt8) (i : Nat) (v : UInt8) (hi : i < b.length) (ho : ¬ (148 ≤ i ∧ i < 156)) : ∀ n, n ≤ b.length → (sumTo (b.set i v) n : Int) = (sumTo b n : Int) + (if i < n then (v.toNat : Int) - (b[i].toNat : Int) else 0) := by
  intro n
  induction n with
  | zero => intro _; rw [if_neg (by omega)]; rfl
  | succ n ih =>
    intro hn
    have := ih (by omega)
    simp only [sumTo]
    by_cases e : i = n
    · subst e
      rw [if_neg (by omega)] at this
      rw [if_pos (by omega)]
      have e1 : sumAt (b.set i v) i = v.toNat := by unfold sumAt; rw [if_neg ho]; simp [List.getD_eq_getElem?_getD, hi]
      have e2 : sumAt b i = b[i].toNat := by unfold sumAt; rw [if_neg ho]; simp [List.getD_eq_getElem?_getD, hi]
      rw [e1, e2]
      omega
    · have e1 : sumAt (b.set i v) n = sumAt b n := by
        unfold sumAt
        split
        · rfl
        · simp [List.getD_eq_getElem?_getD, List.getElem?_set, e]
      rw [e1]
      by_cases hlt : i < n
      · rw [if_pos hlt] at this; rw [if_pos (by omega)]; omega
      · rw [if_neg hlt] at this; rw [if_neg (by omega)]; omega
end Go.Ge
