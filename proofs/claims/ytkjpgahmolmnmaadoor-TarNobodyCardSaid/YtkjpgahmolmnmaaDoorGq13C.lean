/- A reader that nobody made reads nothing. -/
import Derived.Test.YtkjpgahmolmnmaaDoorGq13B
namespace Go.Ge
set_option linter.unusedVariables false
set_option linter.unusedSimpArgs false

/-- A reader that nobody made. -/
def rd0 : Rd := (false, ([], (0, (false, (false, ())))))

theorem next_0 : P_tar_Reader_Next ((), (rd0, ())) = some ((zeroPt, (false, ())), (rd0, ())) := by
  unfold P_tar_Reader_Next rd0
  rfl

theorem bad_0 : P_tar_Reader_Bad ((), (rd0, ())) = some ((false, ()), (rd0, ())) := rfl

abbrev Ns := (Bool × Int × Unit) × (Unit × Unit × Unit) × Rd × Unit
def ns (k : Int) : Ns := ((false, (k, ())), (((), ((), ())), (rd0, ())))

theorem nob_step (t : Int) (i k : Int) (hi : i = 0 ∨ i = 1) : P_law13_TarNobody_L1 (t, ()) (ns i) (ns k) = sel (leI k (icv .i64 (iand .u8 t 3))) (some (.inl (ns (iadd .i64 k 1)))) (some (.inr (0, ns k))) := by
  unfold P_law13_TarNobody_L1 ns
  dsimp only
  rcases hi with rfl | rfl
  · rw [show eqI 0 0 = true from rfl, sel_true]
    rfl
  · rw [show eqI 1 0 = false from rfl, show eqI 1 1 = true from rfl, sel_false, sel_true, next_0, obind_some]
    dsimp only
    rw [sel_false, sel_true, bad_0, obind_some]
    rfl

theorem and3 (t : Int) (h0 : 0 ≤ t) (h1 : t ≤ 255) : ∃ m : Nat, m ≤ 3 ∧ icv .i64 (iand .u8 t 3) = m := by
  obtain ⟨n, rfl⟩ : ∃ n : Nat, t = n := ⟨t.toNat, by omega⟩
  have hn : n < 256 := by omega
  have key : ∀ n : Fin 256, ∃ m : Fin 4, icv .i64 (iand .u8 ((n.val : Nat) : Int) 3) = ((m.val : Nat) : Int) := by decide +kernel
  obtain ⟨m, hm⟩ := key ⟨n, hn⟩
  exact ⟨m.val, by omega, hm⟩

theorem nob_loop (t : Int) (h0 : 0 ≤ t) (h1 : t ≤ 255) (i : Int) (hi : i = 0 ∨ i = 1) : ∃ k : Int, Loop (P_law13_TarNobody_L1 (t, ()) (ns i)) (ns 0) = some (0, ns k) := by
  obtain ⟨m, hm, he⟩ := and3 t h0 h1
  refine ⟨((m + 1 : Nat) : Int), ?_⟩
  refine loop_seq (m + 1) (fun k => ns (k : Int)) (fun k hk => ?_) ?_
  · rw [nob_step t i _ hi, he, show leI (k : Int) (m : Int) = true by simp [leI]; omega, sel_true]
    rw [iadd_one (by omega)]
  · rw [nob_step t i _ hi, he, show leI ((m + 1 : Nat) : Int) (m : Int) = false by simp [leI]; omega, sel_false]

theorem nob_out (t : Int) (h0 : 0 ≤ t) (h1 : t ≤ 255) (i : Int) (hi : i = 0 ∨ i = 1) : P_law13_TarNobody_L0 (t, ()) (ns i) = some (.inl (ns (i + 1))) := by
  obtain ⟨k, hk⟩ := nob_loop t h0 h1 i hi
  have e : P_law13_TarNobody_L0 (t, ()) (ns i) = sel (ltI i 2) (obind (Loop (P_law13_TarNobody_L1 (t, ()) (ns i)) (ns 0)) (fun y2 => sel (eqN y2.1 0)
      (some (.inl ((y2.2.1.1, (iadd .i64 i 1, ())), (((), ((), y2.2.2.1.2.2)), (y2.2.2.2.1, ()))))) (some (.inr (1, ((y2.2.1.1, (i, ())), (((), ((), y2.2.2.1.2.2)), (y2.2.2.2.1, ())))))))) (some (.inr (0, ns i))) := rfl
  rw [e, hk, obind_some]
  rcases hi with rfl | rfl
  · rfl
  · rfl

theorem tarNobody_val (t : Int) (h0 : 0 ≤ t) (h1 : t ≤ 255) : P_law13_TarNobody (t, ()) = some (true, ()) := by
  have hl : Loop (P_law13_TarNobody_L0 (t, ())) (ns 0) = some (0, ns 2) := by
    refine loop_seq 2 (fun k => ns (k : Int)) (fun k hk => ?_) ?_
    · rw [nob_out t h0 h1 _ (by omega)]
      rfl
    · rfl
  have e : P_law13_TarNobody (t, ()) = obind (Loop (P_law13_TarNobody_L0 (t, ())) (ns 0)) (fun y1 => sel (eqN y1.1 0) (obind (P_law13_awake ()) (fun y2 => some (y2.1, ()))) (some (y1.2.1.1, ()))) := rfl
  rw [e, hl, obind_some]
  dsimp only
  rw [show eqN 0 0 = true from rfl, sel_true, awake13, obind_some]
end Go.Ge
