/- SHA-256 in plain words: sums, the program's and the reference's. -/
import Derived.Test.YtnmllijemdpcoaaDoorGq02B
namespace Go.Ge
set_option linter.unusedVariables false
set_option linter.unusedSimpArgs false

/-- Add, whatever comes. -/
theorem add_loop : ∀ (n : Nat) (part all : List UInt8) (st : Strm), part.length ≤ n → Inv st all → all.length + part.length < 1152921504606846976 →
    ∃ st', Loop P_sha_Stream_Add_L0 ((part, ()), (st, ())) = some (([], ()), (st', ())) ∧ Inv st' (all ++ part) := by
  intro n
  induction n with
  | zero =>
    intro part all st hn hI hb
    obtain rfl : part = [] := List.eq_nil_of_length_eq_zero (by omega)
    refine ⟨st, ?_, by rw [List.append_nil]; exact hI⟩
    rw [Loop_eq]
    have : P_sha_Stream_Add_L0 (([], ()), (st, ())) = some (.inr (([], ()), (st, ()))) := by
      unfold P_sha_Stream_Add_L0
      dsimp only
      rw [show nt (eqS [] []) = false from rfl, sel_false, way1_inr]
    rw [this]; rfl
  | succ n ih =>
    intro part all st hn hI hb
    by_cases hp : part = []
    · subst hp; exact ih [] all st (by simp) hI hb
    · obtain ⟨st1, h1, h2⟩ := add_step part all st hp hI hb
      have hlt : all.length % 64 < 64 := Nat.mod_lt _ (by decide)
      have hpl : 0 < part.length := by cases part with | nil => exact absurd rfl hp | cons => simp
      obtain ⟨st', h3, h4⟩ := ih (part.drop (64 - all.length % 64)) _ st1 (by rw [List.length_drop]; omega) h2 (by rw [List.length_append, List.length_take, List.length_drop]; omega)
      refine ⟨st', ?_, by rw [List.append_assoc, List.take_append_drop] at h4; exact h4⟩
      rw [Loop_eq, h1]; exact h3

theorem add_val (part all : List UInt8) (st : Strm) (hI : Inv st all) (hb : all.length + part.length < 1152921504606846976) : ∃ st', P_sha_Stream_Add ((part, ()), (st, ())) = some ((), (st', ())) ∧ Inv st' (all ++ part) := by
  obtain ⟨st', h1, h2⟩ := add_loop part.length part all st (Nat.le_refl _) hI hb
  refine ⟨st', ?_, h2⟩
  unfold P_sha_Stream_Add
  dsimp only
  rw [h1, obind_some]

/-! ### What stands behind the bytes -/
def zs (n : Nat) : Nat := (119 - n % 64) % 64
def lenF (n k : Nat) : Int := icv .u8 (ishr .u64 (imul .u64 (icv .u64 (n : Int)) 8) ((8 * k : Nat) : Int))
def lenL (n : Nat) : List Int := [lenF n 7, lenF n 6, lenF n 5, lenF n 4, lenF n 3, lenF n 2, lenF n 1, lenF n 0]
def pad (s : List UInt8) : List UInt8 := s ++ [128] ++ List.replicate (zs s.length) 0 ++ intsBytes (lenL s.length)
theorem length_pad (s : List UInt8) : (pad s).length = s.length + 1 + zs s.length + 8 := by simp [pad, intsBytes, lenL]; omega
theorem pad_mod (s : List UInt8) : (pad s).length % 64 = 0 := by rw [length_pad]; unfold zs; omega

theorem intsBytes_bytes (s : List UInt8) : intsBytes (bytesInts s) = s := by
  unfold intsBytes bytesInts
  rw [List.map_map]
  conv => rhs; rw [← List.map_id s]
  apply List.map_congr_left
  intro x _
  simp
/-! ### The reference -/
/-! ### The bytes of the sum -/
def outF (h : List Int) (i : Nat) : Int := icv .u8 (ishr .u32 (h.getD (i / 4) 0) ((24 - 8 * (i % 4) : Nat) : Int))
def outW (h : List Int) : Nat → List Int
  | 0 => zeros 32
  | i + 1 => (outW h i).set i (outF h i)
theorem length_outW (h : List Int) (i : Nat) : (outW h i).length = 32 := by
  induction i with
  | zero => rfl
  | succ i ih => simp [outW, ih]
theorem zeros32 : ([0, 0, 0, 0, 0, 0, 0, 0, 0, 0, 0, 0, 0, 0, 0, 0, 0, 0, 0, 0, 0, 0, 0, 0, 0, 0, 0, 0, 0, 0, 0, 0] : List Int) = zeros 32 := rfl

theorem iquo_nat {a : Nat} (h : a < 4611686018427387904) : iquo .i64 (a : Int) 4 = ((a / 4 : Nat) : Int) := by
  have e : ((a : Int).tdiv 4) = ((a / 4 : Nat) : Int) := by rw [Int.tdiv_eq_ediv_of_nonneg (by omega)]; exact (Int.natCast_ediv a 4).symm
  unfold iquo
  rw [e]
  have := icv_i64 (a := ((a / 4 : Nat) : Int)) (by omega) (by omega)
  unfold icv at this
  exact this

theorem out_step {h o : List Int} (hh : h.length = 8) (ho : o.length = 32) (i : Nat) (hi : i < 32) : iquo .i64 (i : Int) 4 = ((i / 4 : Nat) : Int) ∧ isub .i64 24 (imul .i64 8 (irem (i : Int) 4)) = ((24 - 8 * (i % 4) : Nat) : Int) := by
  refine ⟨iquo_nat (by omega), ?_⟩
  rw [show (4 : Int) = ((4 : Nat) : Int) from rfl, irem_nat, imul_i64 (by omega) (by omega), isub_i64 (by omega) (by omega)]
  omega

theorem sum_out (h w : List Int) (hh : h.length = 8) (bg : Bool) (n : Int) (a b c d e : Unit) (r : Unit) : Loop (P_sha_Stream_Sum_L2 (r, (((bg, h, a), w, n, b), c))) ((0, ()), (zeros 32, ())) = some (((32 : Int), ()), (outW h 32, ())) := by
  refine loop_seq (f := P_sha_Stream_Sum_L2 (r, (((bg, h, a), w, n, b), c))) 32 (fun i => (((i : Int), ()), (outW h i, ()))) (fun i hi => ?_) ?_
  · have hl := length_outW h i
    obtain ⟨e1, e2⟩ := out_step hh hl i hi
    unfold P_sha_Stream_Sum_L2
    dsimp only
    rw [ltI_true (by omega), sel_true, eqI_false (by decide), sel_false, e1, within_true (by omega) (by omega), sel_true, idx_getD h 0 (by omega), obind_some, sel_false, e2, ltI_false (by omega), sel_false, within_true (by omega) (by omega), sel_true,
      idx_getD _ 0 (by omega), obind_some, obind_some, obind_some, way1_inl, iadd_one (by omega), lset_nat]
    rfl
  · unfold P_sha_Stream_Sum_L2
    dsimp only
    rw [ltI_false (by omega), sel_false, way1_inr]
    rfl

/-- The sum of bytes. -/
def sha (s : List UInt8) : List Int := outW (hsB (pad s) ((pad s).length / 64)) 32
theorem length_sha (s : List UInt8) : (sha s).length = 32 := length_outW _ _

/-! ### The program -/
theorem sum_zeros (s : List UInt8) (hn : s.length ≤ 1152921504606840000) (st : Strm) (hI : Inv st (s ++ [128])) : ∃ st', Loop P_sha_Stream_Sum_L0 ((), (st, ())) = some ((), (st', ())) ∧ Inv st' (s ++ [128] ++ List.replicate (zs s.length) 0) := by
  have hz : zs s.length < 64 := Nat.mod_lt _ (by decide)
  have key : ∀ (m j : Nat) (st : Strm), j + m = zs s.length → Inv st (s ++ [128] ++ List.replicate j 0) → ∃ st', Loop P_sha_Stream_Sum_L0 ((), (st, ())) = some ((), (st', ())) ∧ Inv st' (s ++ [128] ++ List.replicate (zs s.length) 0) := by
    intro m
    induction m with
    | zero =>
      intro j st hj hI
      obtain rfl : j = zs s.length := by omega
      refine ⟨st, ?_, hI⟩
      obtain ⟨wait, rfl, h1, h2⟩ := hI
      rw [Loop_eq]
      have : P_sha_Stream_Sum_L0 ((), (((decide (64 ≤ (s ++ [128] ++ List.replicate (zs s.length) 0).length), (if 64 ≤ (s ++ [128] ++ List.replicate (zs s.length) 0).length then hsB (s ++ [128] ++ List.replicate (zs s.length) 0) ((s ++ [128] ++ List.replicate (zs s.length) 0).length / 64) else zeros 8), ()), wait, ((s ++ [128] ++ List.replicate (zs s.length) 0).length : Int), ()), ())) = some (.inr ((), (((decide (64 ≤ (s ++ [128] ++ List.replicate (zs s.length) 0).length), (if 64 ≤ (s ++ [128] ++ List.replicate (zs s.length) 0).length then hsB (s ++ [128] ++ List.replicate (zs s.length) 0) ((s ++ [128] ++ List.replicate (zs s.length) 0).length / 64) else zeros 8), ()), wait, ((s ++ [128] ++ List.replicate (zs s.length) 0).length : Int), ()), ()))) := by
        have hl : (s ++ [128] ++ List.replicate (zs s.length) (0 : UInt8)).length = s.length + 1 + zs s.length := by simp; omega
        unfold P_sha_Stream_Sum_L0
        dsimp only
        rw [eqI_false (by decide), sel_false, hl, show ((64 : Int)) = ((64 : Nat) : Int) from rfl, irem_nat, eqI_true (by unfold zs; omega), show nt true = false from rfl, sel_false, way1_inr]
      rw [this]; rfl
    | succ m ih =>
      intro j st hj hI
      obtain ⟨st1, g1, g2⟩ := add_val [0] _ st hI (by simp; omega)
      obtain ⟨st', k1, k2⟩ := ih (j + 1) st1 (by omega) (by
        rw [List.append_assoc, show List.replicate j (0 : UInt8) ++ [0] = List.replicate (j + 1) 0 from by rw [List.replicate_succ']] at g2; exact g2)
      refine ⟨st', ?_, k2⟩
      rw [Loop_eq]
      have hn' : st.2.2.1 = ((s.length + 1 + j : Nat) : Int) := by
        obtain ⟨wait, rfl, h1, h2⟩ := hI
        simp; omega
      have : P_sha_Stream_Sum_L0 ((), (st, ())) = some (.inl ((), (st1, ()))) := by
        unfold P_sha_Stream_Sum_L0
        dsimp only
        rw [eqI_false (by decide), sel_false, hn', show ((64 : Int)) = ((64 : Nat) : Int) from rfl, irem_nat, eqI_false (by unfold zs at hj; omega), show nt false = true from rfl, sel_true, g1, obind_some, way1_inl]
      rw [this]; exact k1
  exact key (zs s.length) 0 st (by omega) (by simpa using hI)

theorem sum_last (n : Nat) (hn : n ≤ 1152921504606840000) (st : Strm) (hst : st.2.2.1 = (n : Int)) (u v : Unit) : Loop (P_sha_Stream_Sum_L1 (u, (st, v))) ((0, ()), (zeros 8, ())) = some (((8 : Int), ()), (lenL n, ())) := by
  obtain ⟨hw, wt, m, q⟩ := st
  dsimp only at hst
  subst hst
  have step : ∀ (k : Nat) (c : List Int), k < 8 → c.length = 8 → P_sha_Stream_Sum_L1 (u, ((hw, wt, (n : Int), q), v)) (((k : Int), ()), (c, ())) = some (.inl ((((k + 1 : Nat) : Int), ()), (c.set (7 - k) (lenF n k), ()))) := by
    intro k c hk hc
    unfold P_sha_Stream_Sum_L1
    dsimp only
    have e8 : imul .i64 8 (k : Int) = ((8 * k : Nat) : Int) := by rw [imul_i64 (by omega) (by omega)]; omega
    have e7 : isub .i64 7 (k : Int) = ((7 - k : Nat) : Int) := by rw [isub_i64 (by omega) (by omega)]; omega
    rw [ltI_true (by omega), sel_true, e8, ltI_false (by omega), sel_false, e7, within_true (by omega) (by omega), sel_true, idx_getD c 0 (by omega), obind_some, obind_some, obind_some, way1_inl, iadd_one (by omega), lset_nat]
    rfl
  have := loop_seq (f := P_sha_Stream_Sum_L1 (u, ((hw, wt, (n : Int), q), v))) (r := (((8 : Int), ()), (lenL n, ()))) 8 (fun k => (((k : Int), ()), ((match k with
    | 0 => zeros 8
    | 1 => [0, 0, 0, 0, 0, 0, 0, lenF n 0]
    | 2 => [0, 0, 0, 0, 0, 0, lenF n 1, lenF n 0]
    | 3 => [0, 0, 0, 0, 0, lenF n 2, lenF n 1, lenF n 0]
    | 4 => [0, 0, 0, 0, lenF n 3, lenF n 2, lenF n 1, lenF n 0]
    | 5 => [0, 0, 0, lenF n 4, lenF n 3, lenF n 2, lenF n 1, lenF n 0]
    | 6 => [0, 0, lenF n 5, lenF n 4, lenF n 3, lenF n 2, lenF n 1, lenF n 0]
    | 7 => [0, lenF n 6, lenF n 5, lenF n 4, lenF n 3, lenF n 2, lenF n 1, lenF n 0]
    | _ => lenL n : List Int), ()))) (fun k hk => by
      rcases (by omega : k = 0 ∨ k = 1 ∨ k = 2 ∨ k = 3 ∨ k = 4 ∨ k = 5 ∨ k = 6 ∨ k = 7) with rfl | rfl | rfl | rfl | rfl | rfl | rfl | rfl <;> exact (step _ _ (by omega) rfl).trans rfl)
    (by
      unfold P_sha_Stream_Sum_L1
      dsimp only
      rw [ltI_false (by omega), sel_false, way1_inr]
      rfl)
  exact this

theorem sum_val (s : List UInt8) (hn : s.length ≤ 1048576) (st : Strm) (hI : Inv st s) (u v : Unit) : P_sha_Stream_Sum (u, (st, v)) = some ((sha s, ()), (st, ())) := by
  have hz : zs s.length < 64 := Nat.mod_lt _ (by decide)
  have hst : st.2.2.1 = (s.length : Int) := by obtain ⟨wait, rfl, _⟩ := hI; rfl
  obtain ⟨st1, a1, a2⟩ := add_val [128] s st hI (by simp; omega)
  obtain ⟨st2, b1, b2⟩ := sum_zeros s (by omega) st1 a2
  obtain ⟨st3, c1, c2⟩ := add_val (intsBytes (lenL s.length)) _ st2 b2 (by simp [intsBytes, lenL]; omega)
  unfold P_sha_Stream_Sum
  dsimp only
  rw [zeros32, show intsBytes ([128] : List Int) = [128] from rfl, a1, obind_some]
  dsimp only
  rw [b1, obind_some]
  dsimp only
  rw [show ([0, 0, 0, 0, 0, 0, 0, 0] : List Int) = zeros 8 from rfl, sum_last s.length (by omega) st hst, obind_some, inside_true (by decide) (by decide) (by decide), sel_true]
  dsimp only
  rw [show sub (lenL s.length) 0 (minus 8 0) = lenL s.length from rfl, c1, obind_some]
  have c2' : Inv st3 (pad s) := c2
  obtain ⟨wait, rfl, h1, h2⟩ := c2'
  have h64 : 64 ≤ (pad s).length := by have := pad_mod s; rw [length_pad] at this ⊢; omega
  simp only [h64, decide_true, if_true]
  rw [sum_out _ _ (length_hsB _ _) _ _ () () () () () (), obind_some]
  dsimp only [sha]

theorem shaSum_val (s : List UInt8) (hn : s.length ≤ 1048576) : P_sha_Sum (s, ()) = some (sha s, ()) := by
  obtain ⟨st1, a1, a2⟩ := add_val s [] strm0 inv0 (by simp; omega)
  unfold P_sha_Sum
  dsimp only
  rw [show ((false, ([0, 0, 0, 0, 0, 0, 0, 0] : List Int), ()), ([0, 0, 0, 0, 0, 0, 0, 0, 0, 0, 0, 0, 0, 0, 0, 0, 0, 0, 0, 0, 0, 0, 0, 0, 0, 0, 0, 0, 0, 0, 0, 0, 0, 0, 0, 0, 0, 0, 0, 0, 0, 0, 0, 0, 0, 0, 0, 0, 0, 0, 0, 0, 0, 0, 0, 0, 0, 0, 0, 0, 0, 0, 0, 0] : List Int), (0 : Int), ()) = strm0 from rfl, a1, obind_some]
  dsimp only
  rw [sum_val s hn st1 (by simpa using a2), obind_some]
end Go.Ge
