/- Plain laws of what the functions compute: part 3. -/
import Derived.Test.YtpipdmfkbnbchaaGreatDoorPlB
/- SHA-256 in plain words: sums, the program's and the reference's. -/
namespace Go.Ge
set_option linter.unusedVariables false
set_option linter.unusedSimpArgs false

/-- Add, whatever comes. -/
theorem add_loop : ∀ (n : Nat) (part all : List UInt8) (st : Strm), part.length ≤ n → Inv st all → all.length + part.length < 1152921504606846976 →
    ∃ st', Loop P_sha_Stream_Add_L0 ((part, ()), (st, ())) = some (([], ()), (st', ())) ∧ Inv st' (all ++ part) := by
  intro n
  induction n with
  | zero =>
    intro part all st hn hI hb
    obtain rfl : part = [] := List.eq_nil_of_length_eq_zero (by omega)
    refine ⟨st, ?_, by rw [List.append_nil]; exact hI⟩
    rw [Loop_eq]
    have : P_sha_Stream_Add_L0 (([], ()), (st, ())) = some (.inr (([], ()), (st, ()))) := by
      unfold P_sha_Stream_Add_L0
      dsimp only
      rw [show nt (eqS [] []) = false from rfl, sel_false, way1_inr]
    rw [this]; rfl
  | succ n ih =>
    intro part all st hn hI hb
    by_cases hp : part = []
    · subst hp; exact ih [] all st (by simp) hI hb
    · obtain ⟨st1, h1, h2⟩ := add_step part all st hp hI hb
      have hlt : all.length % 64 < 64 := Nat.mod_lt _ (by decide)
      have hpl : 0 < part.length := by cases part with | nil => exact absurd rfl hp | cons => simp
      obtain ⟨st', h3, h4⟩ := ih (part.drop (64 - all.length % 64)) _ st1 (by rw [List.length_drop]; omega) h2 (by rw [List.length_append, List.length_take, List.length_drop]; omega)
      refine ⟨st', ?_, by rw [List.append_assoc, List.take_append_drop] at h4; exact h4⟩
      rw [Loop_eq, h1]; exact h3

theorem add_val (part all : List UInt8) (st : Strm) (hI : Inv st all) (hb : all.length + part.length < 1152921504606846976) : ∃ st', P_sha_Stream_Add ((part, ()), (st, ())) = some ((), (st', ())) ∧ Inv st' (all ++ part) := by
  obtain ⟨st', h1, h2⟩ := add_loop part.length part all st (Nat.le_refl _) hI hb
  refine ⟨st', ?_, h2⟩
  unfold P_sha_Stream_Add
  dsimp only
  rw [h1, obind_some]

/-! ### What stands behind the bytes -/
def zs (n : Nat) : Nat := (119 - n % 64) % 64
def lenF (n k : Nat) : Int := icv .u8 (ishr .u64 (imul .u64 (icv .u64 (n : Int)) 8) ((8 * k : Nat) : Int))
def lenL (n : Nat) : List Int := [lenF n 7, lenF n 6, lenF n 5, lenF n 4, lenF n 3, lenF n 2, lenF n 1, lenF n 0]
def pad (s : List UInt8) : List UInt8 := s ++ [128] ++ List.replicate (zs s.length) 0 ++ intsBytes (lenL s.length)
theorem length_pad (s : List UInt8) : (pad s).length = s.length + 1 + zs s.length + 8 := by simp [pad, intsBytes, lenL]; omega
theorem pad_mod (s : List UInt8) : (pad s).length % 64 = 0 := by rw [length_pad]; unfold zs; omega

theorem intsBytes_bytes (s : List UInt8) : intsBytes (bytesInts s) = s := by
  unfold intsBytes bytesInts
  rw [List.map_map]
  conv => rhs; rw [← List.map_id s]
  apply List.map_congr_left
  intro x _
  simp
theorem intsBytes_app (a b : List Int) : intsBytes (a ++ b) = intsBytes a ++ intsBytes b := by simp [intsBytes]

/-! ### The reference -/
theorem whole_zeros (s : List UInt8) (hn : s.length ≤ 1048576) : Loop P_ref02_whole_L0 (((), ()), (bytesInts s ++ [128], ())) = some (((), ()), (bytesInts s ++ [128] ++ zeros (zs s.length), ())) := by
  have hz : zs s.length < 64 := Nat.mod_lt _ (by decide)
  have := loop_seq (f := P_ref02_whole_L0) (r := (((), ()), (bytesInts s ++ [128] ++ zeros (zs s.length), ()))) (zs s.length) (fun j => (((), ()), (bytesInts s ++ [128] ++ zeros j, ()))) (fun j hj => by
    unfold P_ref02_whole_L0
    dsimp only
    have el : len (bytesInts s ++ [128] ++ zeros j) = ((s.length + 1 + j : Nat) : Int) := by unfold len; simp [bytesInts, zeros]; omega
    rw [eqI_false (by decide), sel_false, el, show ((64 : Int)) = ((64 : Nat) : Int) from rfl, irem_nat, eqI_false (by unfold zs at hj; omega), show nt false = true from rfl, sel_true, fits_true (by simp only [plus, len, List.length_singleton]; omega), sel_true, way1_inl]
    congr 4
    show bytesInts s ++ [128] ++ zeros j ++ [0] = _
    rw [List.append_assoc, show zeros j ++ [0] = zeros (j + 1) from by simp [zeros, List.replicate_succ']])
    (by
      unfold P_ref02_whole_L0
      dsimp only
      have el : len (bytesInts s ++ [128] ++ zeros (zs s.length)) = ((s.length + 1 + zs s.length : Nat) : Int) := by unfold len; simp [bytesInts, zeros]; omega
      rw [eqI_false (by decide), sel_false, el, show ((64 : Int)) = ((64 : Nat) : Int) from rfl, irem_nat, eqI_true (by unfold zs; omega), show nt true = false from rfl, sel_false, way1_inr])
  have h0 : bytesInts s ++ [128] ++ zeros 0 = bytesInts s ++ [128] := by simp [zeros]
  simp only [h0] at this
  exact this

theorem whole_len (s : List UInt8) (b : List Int) (hn : s.length ≤ 1048576) (hb : b.length ≤ 2097152) (u : Unit) : Loop (P_ref02_whole_L1 (s, u)) (((), (7, ())), (b, ())) = some (((), (-1, ())), (b ++ lenL s.length, ())) := by
  have step : ∀ (k : Nat) (c : List Int), k ≤ 7 → c.length ≤ 2097160 → P_ref02_whole_L1 (s, u) (((), ((k : Int), ())), (c, ())) = some (.inl (((), ((k : Int) - 1, ())), (c ++ [lenF s.length k], ()))) := by
    intro k c hk hc
    unfold P_ref02_whole_L1
    dsimp only
    have e8 : imul .i64 8 (k : Int) = ((8 * k : Nat) : Int) := by rw [imul_i64 (by omega) (by omega)]; omega
    rw [leI_true (by omega), sel_true, e8, ltI_false (by omega), sel_false, fits_true (by simp only [plus, len, List.length_singleton]; omega), sel_true, isub_i64 (by omega) (by omega), way1_inl]
    rfl
  have hend : ∀ c : List Int, P_ref02_whole_L1 (s, u) (((), ((-1 : Int), ())), (c, ())) = some (.inr (((), (-1, ())), (c, ()))) := by
    intro c
    unfold P_ref02_whole_L1
    dsimp only
    rw [leI_false (by decide), sel_false, way1_inr]
  have L : ∀ (k : Nat) (c : List Int), k ≤ 7 → c.length ≤ 2097160 → Loop (P_ref02_whole_L1 (s, u)) (((), ((k : Int), ())), (c, ())) = Loop (P_ref02_whole_L1 (s, u)) (((), ((k : Int) - 1, ())), (c ++ [lenF s.length k], ())) := by
    intro k c hk hc
    rw [Loop_eq, step k c hk hc]; rfl
  have l7 := L 7 b (by omega) (by omega)
  have l6 := L 6 (b ++ [lenF s.length 7]) (by omega) (by simp; omega)
  have l5 := L 5 (b ++ [lenF s.length 7] ++ [lenF s.length 6]) (by omega) (by simp; omega)
  have l4 := L 4 (b ++ [lenF s.length 7] ++ [lenF s.length 6] ++ [lenF s.length 5]) (by omega) (by simp; omega)
  have l3 := L 3 (b ++ [lenF s.length 7] ++ [lenF s.length 6] ++ [lenF s.length 5] ++ [lenF s.length 4]) (by omega) (by simp; omega)
  have l2 := L 2 (b ++ [lenF s.length 7] ++ [lenF s.length 6] ++ [lenF s.length 5] ++ [lenF s.length 4] ++ [lenF s.length 3]) (by omega) (by simp; omega)
  have l1 := L 1 (b ++ [lenF s.length 7] ++ [lenF s.length 6] ++ [lenF s.length 5] ++ [lenF s.length 4] ++ [lenF s.length 3] ++ [lenF s.length 2]) (by omega) (by simp; omega)
  have l0 := L 0 (b ++ [lenF s.length 7] ++ [lenF s.length 6] ++ [lenF s.length 5] ++ [lenF s.length 4] ++ [lenF s.length 3] ++ [lenF s.length 2] ++ [lenF s.length 1]) (by omega) (by simp; omega)
  refine l7.trans (l6.trans (l5.trans (l4.trans (l3.trans (l2.trans (l1.trans (l0.trans ?_)))))))
  have : b ++ [lenF s.length 7] ++ [lenF s.length 6] ++ [lenF s.length 5] ++ [lenF s.length 4] ++ [lenF s.length 3] ++ [lenF s.length 2] ++ [lenF s.length 1] ++ [lenF s.length 0] = b ++ lenL s.length := by simp [lenL]
  rw [this]
  show Loop (P_ref02_whole_L1 (s, u)) (((), (-1, ())), (b ++ lenL s.length, ())) = _
  rw [Loop_eq, hend]; rfl

theorem whole_val (s : List UInt8) (hn : s.length ≤ 1048576) : P_ref02_whole (s, ()) = some (pad s, ()) := by
  have hz : zs s.length < 64 := Nat.mod_lt _ (by decide)
  unfold P_ref02_whole
  dsimp only
  rw [fits_true (by unfold len; omega), sel_true, fits_true (by simp only [plus, len, List.length_singleton, length_bytes]; omega), sel_true, show app (bytesInts s) ([128] : List Int) = bytesInts s ++ [128] from rfl, whole_zeros s hn, obind_some]
  dsimp only
  rw [whole_len s _ hn (by simp [length_bytes, zeros]; omega), obind_some]
  dsimp only
  rw [intsBytes_app, intsBytes_app, intsBytes_app, intsBytes_bytes]
  unfold pad
  have : intsBytes (zeros (zs s.length)) = List.replicate (zs s.length) 0 := by unfold intsBytes zeros; rw [List.map_replicate]; rfl
  rw [this]
  rfl

theorem ref_blocks (t : List UInt8) (hm : t.length % 64 = 0) (hn : t.length ≤ 2097152) (u : Unit) : Loop (P_ref02_Sum_L0 (t, u)) ((0, ()), (H0, ())) = some (((t.length : Int), ()), (hsB t (t.length / 64), ())) := by
  have := loop_seq (f := P_ref02_Sum_L0 (t, u)) (r := (((t.length : Int), ()), (hsB t (t.length / 64), ()))) (t.length / 64) (fun j => ((((64 * j : Nat) : Int), ()), (hsB t j, ()))) (fun j hj => by
    unfold P_ref02_Sum_L0
    dsimp only
    have hjl : 64 * j + 64 ≤ t.length := by omega
    rw [iadd_i64 (by omega) (by omega), leI_true (by unfold len; omega), sel_true, inside_true (by omega) (by omega) (by unfold len; omega), sel_true]
    have hs : sub t ((64 * j : Nat) : Int) (minus (((64 * j : Nat) : Int) + 64) ((64 * j : Nat) : Int)) = (t.drop (64 * j)).take 64 := by
      unfold sub minus
      rw [Int.toNat_natCast, show (((64 * j : Nat) : Int) + 64 - ((64 * j : Nat) : Int)).toNat = 64 by omega]
    rw [hs, ref_block _ (length_hsB t j) _ (by rw [List.length_take, List.length_drop]; omega), obind_some, way1_inl]
    rw [show (((64 * j : Nat) : Int) + 64) = ((64 * (j + 1) : Nat) : Int) by omega]
    rfl)
    (by
      unfold P_ref02_Sum_L0
      dsimp only
      have hjl : 64 * (t.length / 64) = t.length := by omega
      rw [hjl, iadd_i64 (by omega) (by omega), leI_false (by unfold len; omega), sel_false, way1_inr])
  exact this

/-! ### The bytes of the sum -/
def outF (h : List Int) (i : Nat) : Int := icv .u8 (ishr .u32 (h.getD (i / 4) 0) ((24 - 8 * (i % 4) : Nat) : Int))
def outW (h : List Int) : Nat → List Int
  | 0 => zeros 32
  | i + 1 => (outW h i).set i (outF h i)
theorem length_outW (h : List Int) (i : Nat) : (outW h i).length = 32 := by
  induction i with
  | zero => rfl
  | succ i ih => simp [outW, ih]
theorem zeros32 : ([0, 0, 0, 0, 0, 0, 0, 0, 0, 0, 0, 0, 0, 0, 0, 0, 0, 0, 0, 0, 0, 0, 0, 0, 0, 0, 0, 0, 0, 0, 0, 0] : List Int) = zeros 32 := rfl

theorem iquo_nat {a : Nat} (h : a < 4611686018427387904) : iquo .i64 (a : Int) 4 = ((a / 4 : Nat) : Int) := by
  have e : ((a : Int).tdiv 4) = ((a / 4 : Nat) : Int) := by rw [Int.tdiv_eq_ediv_of_nonneg (by omega)]; exact (Int.natCast_ediv a 4).symm
  unfold iquo
  rw [e]
  have := icv_i64 (a := ((a / 4 : Nat) : Int)) (by omega) (by omega)
  unfold icv at this
  exact this

theorem out_step {h o : List Int} (hh : h.length = 8) (ho : o.length = 32) (i : Nat) (hi : i < 32) : iquo .i64 (i : Int) 4 = ((i / 4 : Nat) : Int) ∧ isub .i64 24 (imul .i64 8 (irem (i : Int) 4)) = ((24 - 8 * (i % 4) : Nat) : Int) := by
  refine ⟨iquo_nat (by omega), ?_⟩
  rw [show (4 : Int) = ((4 : Nat) : Int) from rfl, irem_nat, imul_i64 (by omega) (by omega), isub_i64 (by omega) (by omega)]
  omega

theorem ref_out (h : List Int) (hh : h.length = 8) (q : Int × Unit) (u : Unit) : Loop (P_ref02_Sum_L1 (q, (h, u))) ((0, ()), (zeros 32, ())) = some (((32 : Int), ()), (outW h 32, ())) := by
  refine loop_seq (f := P_ref02_Sum_L1 (q, (h, u))) 32 (fun i => (((i : Int), ()), (outW h i, ()))) (fun i hi => ?_) ?_
  · have hl := length_outW h i
    obtain ⟨e1, e2⟩ := out_step hh hl i hi
    unfold P_ref02_Sum_L1
    dsimp only
    rw [ltI_true (by omega), sel_true, eqI_false (by decide), sel_false, e1, within_true (by omega) (by omega), sel_true, idx_getD h 0 (by omega), obind_some, sel_false, e2, ltI_false (by omega), sel_false, within_true (by omega) (by omega), sel_true,
      idx_getD _ 0 (by omega), obind_some, obind_some, obind_some, way1_inl, iadd_one (by omega), lset_nat]
    rfl
  · unfold P_ref02_Sum_L1
    dsimp only
    rw [ltI_false (by omega), sel_false, way1_inr]
    rfl

theorem sum_out (h w : List Int) (hh : h.length = 8) (bg : Bool) (n : Int) (a b c d e : Unit) (r : Unit) : Loop (P_sha_Stream_Sum_L2 (r, (((bg, h, a), w, n, b), c))) ((0, ()), (zeros 32, ())) = some (((32 : Int), ()), (outW h 32, ())) := by
  refine loop_seq (f := P_sha_Stream_Sum_L2 (r, (((bg, h, a), w, n, b), c))) 32 (fun i => (((i : Int), ()), (outW h i, ()))) (fun i hi => ?_) ?_
  · have hl := length_outW h i
    obtain ⟨e1, e2⟩ := out_step hh hl i hi
    unfold P_sha_Stream_Sum_L2
    dsimp only
    rw [ltI_true (by omega), sel_true, eqI_false (by decide), sel_false, e1, within_true (by omega) (by omega), sel_true, idx_getD h 0 (by omega), obind_some, sel_false, e2, ltI_false (by omega), sel_false, within_true (by omega) (by omega), sel_true,
      idx_getD _ 0 (by omega), obind_some, obind_some, obind_some, way1_inl, iadd_one (by omega), lset_nat]
    rfl
  · unfold P_sha_Stream_Sum_L2
    dsimp only
    rw [ltI_false (by omega), sel_false, way1_inr]
    rfl

/-- The sum of bytes. -/
def sha (s : List UInt8) : List Int := outW (hsB (pad s) ((pad s).length / 64)) 32
theorem length_sha (s : List UInt8) : (sha s).length = 32 := length_outW _ _

theorem refSum_val (s : List UInt8) (hn : s.length ≤ 1048576) : P_ref02_Sum (s, ()) = some (sha s, ()) := by
  have hz : zs s.length < 64 := Nat.mod_lt _ (by decide)
  unfold P_ref02_Sum
  rw [ref_begin_val, obind_some]
  dsimp only
  rw [whole_val s hn, obind_some, ref_blocks _ (pad_mod s) (by rw [length_pad]; omega), obind_some, zeros32, ref_out _ (length_hsB _ _), obind_some]
  dsimp only [sha]

/-! ### The program -/
theorem sum_zeros (s : List UInt8) (hn : s.length ≤ 1152921504606840000) (st : Strm) (hI : Inv st (s ++ [128])) : ∃ st', Loop P_sha_Stream_Sum_L0 ((), (st, ())) = some ((), (st', ())) ∧ Inv st' (s ++ [128] ++ List.replicate (zs s.length) 0) := by
  have hz : zs s.length < 64 := Nat.mod_lt _ (by decide)
  have key : ∀ (m j : Nat) (st : Strm), j + m = zs s.length → Inv st (s ++ [128] ++ List.replicate j 0) → ∃ st', Loop P_sha_Stream_Sum_L0 ((), (st, ())) = some ((), (st', ())) ∧ Inv st' (s ++ [128] ++ List.replicate (zs s.length) 0) := by
    intro m
    induction m with
    | zero =>
      intro j st hj hI
      obtain rfl : j = zs s.length := by omega
      refine ⟨st, ?_, hI⟩
      obtain ⟨wait, rfl, h1, h2⟩ := hI
      rw [Loop_eq]
      have : P_sha_Stream_Sum_L0 ((), (((decide (64 ≤ (s ++ [128] ++ List.replicate (zs s.length) 0).length), (if 64 ≤ (s ++ [128] ++ List.replicate (zs s.length) 0).length then hsB (s ++ [128] ++ List.replicate (zs s.length) 0) ((s ++ [128] ++ List.replicate (zs s.length) 0).length / 64) else zeros 8), ()), wait, ((s ++ [128] ++ List.replicate (zs s.length) 0).length : Int), ()), ())) = some (.inr ((), (((decide (64 ≤ (s ++ [128] ++ List.replicate (zs s.length) 0).length), (if 64 ≤ (s ++ [128] ++ List.replicate (zs s.length) 0).length then hsB (s ++ [128] ++ List.replicate (zs s.length) 0) ((s ++ [128] ++ List.replicate (zs s.length) 0).length / 64) else zeros 8), ()), wait, ((s ++ [128] ++ List.replicate (zs s.length) 0).length : Int), ()), ()))) := by
        have hl : (s ++ [128] ++ List.replicate (zs s.length) (0 : UInt8)).length = s.length + 1 + zs s.length := by simp; omega
        unfold P_sha_Stream_Sum_L0
        dsimp only
        rw [eqI_false (by decide), sel_false, hl, show ((64 : Int)) = ((64 : Nat) : Int) from rfl, irem_nat, eqI_true (by unfold zs; omega), show nt true = false from rfl, sel_false, way1_inr]
      rw [this]; rfl
    | succ m ih =>
      intro j st hj hI
      obtain ⟨st1, g1, g2⟩ := add_val [0] _ st hI (by simp; omega)
      obtain ⟨st', k1, k2⟩ := ih (j + 1) st1 (by omega) (by
        rw [List.append_assoc, show List.replicate j (0 : UInt8) ++ [0] = List.replicate (j + 1) 0 from by rw [List.replicate_succ']] at g2; exact g2)
      refine ⟨st', ?_, k2⟩
      rw [Loop_eq]
      have hn' : st.2.2.1 = ((s.length + 1 + j : Nat) : Int) := by
        obtain ⟨wait, rfl, h1, h2⟩ := hI
        simp; omega
      have : P_sha_Stream_Sum_L0 ((), (st, ())) = some (.inl ((), (st1, ()))) := by
        unfold P_sha_Stream_Sum_L0
        dsimp only
        rw [eqI_false (by decide), sel_false, hn', show ((64 : Int)) = ((64 : Nat) : Int) from rfl, irem_nat, eqI_false (by unfold zs at hj; omega), show nt false = true from rfl, sel_true, g1, obind_some, way1_inl]
      rw [this]; exact k1
  exact key (zs s.length) 0 st (by omega) (by simpa using hI)

theorem sum_last (n : Nat) (hn : n ≤ 1152921504606840000) (st : Strm) (hst : st.2.2.1 = (n : Int)) (u v : Unit) : Loop (P_sha_Stream_Sum_L1 (u, (st, v))) ((0, ()), (zeros 8, ())) = some (((8 : Int), ()), (lenL n, ())) := by
  obtain ⟨hw, wt, m, q⟩ := st
  dsimp only at hst
  subst hst
  have step : ∀ (k : Nat) (c : List Int), k < 8 → c.length = 8 → P_sha_Stream_Sum_L1 (u, ((hw, wt, (n : Int), q), v)) (((k : Int), ()), (c, ())) = some (.inl ((((k + 1 : Nat) : Int), ()), (c.set (7 - k) (lenF n k), ()))) := by
    intro k c hk hc
    unfold P_sha_Stream_Sum_L1
    dsimp only
    have e8 : imul .i64 8 (k : Int) = ((8 * k : Nat) : Int) := by rw [imul_i64 (by omega) (by omega)]; omega
    have e7 : isub .i64 7 (k : Int) = ((7 - k : Nat) : Int) := by rw [isub_i64 (by omega) (by omega)]; omega
    rw [ltI_true (by omega), sel_true, e8, ltI_false (by omega), sel_false, e7, within_true (by omega) (by omega), sel_true, idx_getD c 0 (by omega), obind_some, obind_some, obind_some, way1_inl, iadd_one (by omega), lset_nat]
    rfl
  have := loop_seq (f := P_sha_Stream_Sum_L1 (u, ((hw, wt, (n : Int), q), v))) (r := (((8 : Int), ()), (lenL n, ()))) 8 (fun k => (((k : Int), ()), ((match k with
    | 0 => zeros 8
    | 1 => [0, 0, 0, 0, 0, 0, 0, lenF n 0]
    | 2 => [0, 0, 0, 0, 0, 0, lenF n 1, lenF n 0]
    | 3 => [0, 0, 0, 0, 0, lenF n 2, lenF n 1, lenF n 0]
    | 4 => [0, 0, 0, 0, lenF n 3, lenF n 2, lenF n 1, lenF n 0]
    | 5 => [0, 0, 0, lenF n 4, lenF n 3, lenF n 2, lenF n 1, lenF n 0]
    | 6 => [0, 0, lenF n 5, lenF n 4, lenF n 3, lenF n 2, lenF n 1, lenF n 0]
    | 7 => [0, lenF n 6, lenF n 5, lenF n 4, lenF n 3, lenF n 2, lenF n 1, lenF n 0]
    | _ => lenL n : List Int), ()))) (fun k hk => by
      rcases (by omega : k = 0 ∨ k = 1 ∨ k = 2 ∨ k = 3 ∨ k = 4 ∨ k = 5 ∨ k = 6 ∨ k = 7) with rfl | rfl | rfl | rfl | rfl | rfl | rfl | rfl <;> exact (step _ _ (by omega) rfl).trans rfl)
    (by
      unfold P_sha_Stream_Sum_L1
      dsimp only
      rw [ltI_false (by omega), sel_false, way1_inr]
      rfl)
  exact this

theorem sum_val (s : List UInt8) (hn : s.length ≤ 1048576) (st : Strm) (hI : Inv st s) (u v : Unit) : P_sha_Stream_Sum (u, (st, v)) = some ((sha s, ()), (st, ())) := by
  have hz : zs s.length < 64 := Nat.mod_lt _ (by decide)
  have hst : st.2.2.1 = (s.length : Int) := by obtain ⟨wait, rfl, _⟩ := hI; rfl
  obtain ⟨st1, a1, a2⟩ := add_val [128] s st hI (by simp; omega)
  obtain ⟨st2, b1, b2⟩ := sum_zeros s (by omega) st1 a2
  obtain ⟨st3, c1, c2⟩ := add_val (intsBytes (lenL s.length)) _ st2 b2 (by simp [intsBytes, lenL]; omega)
  unfold P_sha_Stream_Sum
  dsimp only
  rw [zeros32, show intsBytes ([128] : List Int) = [128] from rfl, a1, obind_some]
  dsimp only
  rw [b1, obind_some]
  dsimp only
  rw [show ([0, 0, 0, 0, 0, 0, 0, 0] : List Int) = zeros 8 from rfl, sum_last s.length (by omega) st hst, obind_some, inside_true (by decide) (by decide) (by decide), sel_true]
  dsimp only
  rw [show sub (lenL s.length) 0 (minus 8 0) = lenL s.length from rfl, c1, obind_some]
  have c2' : Inv st3 (pad s) := c2
  obtain ⟨wait, rfl, h1, h2⟩ := c2'
  have h64 : 64 ≤ (pad s).length := by have := pad_mod s; rw [length_pad] at this ⊢; omega
  simp only [h64, decide_true, if_true]
  rw [sum_out _ _ (length_hsB _ _) _ _ () () () () () (), obind_some]
  dsimp only [sha]

theorem shaSum_val (s : List UInt8) (hn : s.length ≤ 1048576) : P_sha_Sum (s, ()) = some (sha s, ()) := by
  obtain ⟨st1, a1, a2⟩ := add_val s [] strm0 inv0 (by simp; omega)
  unfold P_sha_Sum
  dsimp only
  rw [show ((false, ([0, 0, 0, 0, 0, 0, 0, 0] : List Int), ()), ([0, 0, 0, 0, 0, 0, 0, 0, 0, 0, 0, 0, 0, 0, 0, 0, 0, 0, 0, 0, 0, 0, 0, 0, 0, 0, 0, 0, 0, 0, 0, 0, 0, 0, 0, 0, 0, 0, 0, 0, 0, 0, 0, 0, 0, 0, 0, 0, 0, 0, 0, 0, 0, 0, 0, 0, 0, 0, 0, 0, 0, 0, 0, 0] : List Int), (0 : Int), ()) = strm0 from rfl, a1, obind_some]
  dsimp only
  rw [sum_val s hn st1 (by simpa using a2), obind_some]
end Go.Ge

/- The laws of layer 02 in plain words. -/
namespace Go.Ge
set_option linter.unusedVariables false
set_option linter.unusedSimpArgs false

abbrev PartS := (Bool × List UInt8 × Int × Unit) × Strm × Strm × Unit

end Go.Ge

/- Bytes as hexadecimal digits, and back, in plain words. -/
namespace Go.Ge
set_option linter.unusedVariables false
set_option linter.unusedSimpArgs false

def hexT : List UInt8 := [48, 49, 50, 51, 52, 53, 54, 55, 56, 57, 97, 98, 99, 100, 101, 102]
def hx (n : Nat) : UInt8 := hexT.getD n 0
def hexF : List UInt8 → List UInt8
  | [] => []
  | b :: r => hx (b.toNat / 16) :: hx (b.toNat % 16) :: hexF r
theorem length_hexF (l : List UInt8) : (hexF l).length = 2 * l.length := by
  induction l with
  | nil => rfl
  | cons b r ih => simp only [hexF, List.length_cons, ih]; omega
theorem hexF_app (a b : List UInt8) : hexF (a ++ b) = hexF a ++ hexF b := by
  induction a with
  | nil => rfl
  | cons x r ih => simp only [List.cons_append, hexF, ih]

theorem hexT_hi : ∀ n : Fin 256, idx hexT (ishr .u8 (n.val : Int) 4) = some (hx (n.val / 16)) := by decide +kernel
theorem hexT_lo : ∀ n : Fin 256, idx hexT (iand .u8 (n.val : Int) 15) = some (hx (n.val % 16)) := by decide +kernel
theorem hex_hi (b : UInt8) : idx hexT (ishr .u8 (u8 b) 4) = some (hx (b.toNat / 16)) := hexT_hi ⟨b.toNat, b.toNat_lt⟩
theorem hex_lo (b : UInt8) : idx hexT (iand .u8 (u8 b) 15) = some (hx (b.toNat % 16)) := hexT_lo ⟨b.toNat, b.toNat_lt⟩

theorem idx_bytes (s : List UInt8) {k : Nat} (h : k < s.length) : idx (bytesInts s) (k : Int) = some (u8 s[k]) := by
  rw [idx_nat]; simp [bytesInts, u8, h]
theorem idx_str (s : List UInt8) {k : Nat} (h : k < s.length) : idx s (k : Int) = some s[k] := by
  rw [idx_nat]; simp [h]
theorem len_bytes (s : List UInt8) : len (bytesInts s) = (s.length : Int) := by simp [len, bytesInts]
theorem take_succ_at (s : List UInt8) {k : Nat} (h : k < s.length) : s.take (k + 1) = s.take k ++ [s[k]] := by
  rw [List.take_add_one, List.getElem?_eq_getElem h]; rfl

theorem hexStep (s : List UInt8) {k : Nat} (h : k < s.length) : bytesInts (hexF (s.take (k + 1))) = (bytesInts (hexF (s.take k)) ++ [u8 (hx (s[k].toNat / 16))]) ++ [u8 (hx (s[k].toNat % 16))] := by
  rw [take_succ_at s h, hexF_app, bytesInts_app, List.append_assoc]
  rfl

theorem hexLen (s : List UInt8) (hs : s.length ≤ 1048576) {k : Nat} (h : k < s.length) (x y : Int) :
    fits (plus (len (bytesInts (hexF (s.take k)))) (len [x])) = true ∧ fits (plus (len (bytesInts (hexF (s.take k)) ++ [x])) (len [y])) = true := by
  constructor
  · apply fits_true
    rw [len_bytes, length_hexF]
    simp only [List.length_take, plus, len, List.length_cons, List.length_nil]
    omega
  · apply fits_true
    have : (bytesInts (hexF (s.take k)) ++ [x]).length = 2 * min k s.length + 1 := by
      rw [List.length_append, length_bytes, length_hexF, List.length_take]; rfl
    simp only [plus, len, this, List.length_cons, List.length_nil]
    omega

theorem hex_val (s : List UInt8) (hs : s.length ≤ 1048576) : P_digits_Hex (s, ()) = some (hexF s, ()) := by
  unfold P_digits_Hex
  dsimp only
  rw [fits_true (by simp only [len]; omega), sel_true]
  have key : Loop (P_digits_Hex_L0 (s, ())) ((0, ()), (((), ((), ())), ([], ()))) = some (((s.length : Int), ()), (((), ((), ())), (bytesInts (hexF s), ()))) := by
    have := loop_seq (f := P_digits_Hex_L0 (s, ())) (r := (((s.length : Int), ()), (((), ((), ())), (bytesInts (hexF s), ())))) s.length (fun k => (((k : Int), ()), (((), ((), ())), (bytesInts (hexF (s.take k)), ())))) (fun k hk => by
      unfold P_digits_Hex_L0
      dsimp only
      obtain ⟨f1, f2⟩ := hexLen s hs hk (u8 (hx (s[k].toNat / 16))) (u8 (hx (s[k].toNat % 16)))
      rw [len_bytes, ltI_true (by omega), sel_true, within_true (by omega) (by omega), sel_true, idx_bytes s hk, obind_some, ltI_false (by decide), sel_false]
      rw [show ([48, 49, 50, 51, 52, 53, 54, 55, 56, 57, 97, 98, 99, 100, 101, 102] : List UInt8) = hexT from rfl, hex_hi, obind_some, f1, sel_true, hex_lo, obind_some]
      unfold app
      rw [f2, sel_true, way1_inl, iadd_one (by omega), hexStep s hk]) (by
      unfold P_digits_Hex_L0
      dsimp only
      rw [len_bytes, ltI_false (by omega), sel_false, way1_inr, List.take_length])
    exact this
  rw [key, obind_some]
  dsimp only
  rw [intsBytes_bytes]

/-! ### The reference's digits -/
theorem digT : ∀ n : Fin 16, P_ref01_digit ((n.val : Int), ()) = some (u8 (hx n.val), ()) := by decide +kernel
theorem dig_val {n : Nat} (h : n < 16) : P_ref01_digit ((n : Int), ()) = some (u8 (hx n), ()) := digT ⟨n, h⟩
theorem byte_div : ∀ n : Fin 256, iquo .i64 (icv .i64 (n.val : Int)) 16 = ((n.val / 16 : Nat) : Int) := by decide +kernel
theorem byte_mod : ∀ n : Fin 256, irem (icv .i64 (n.val : Int)) 16 = ((n.val % 16 : Nat) : Int) := by decide +kernel
theorem u8_div (b : UInt8) : iquo .i64 (icv .i64 (u8 b)) 16 = ((b.toNat / 16 : Nat) : Int) := byte_div ⟨b.toNat, b.toNat_lt⟩
theorem u8_mod (b : UInt8) : irem (icv .i64 (u8 b)) 16 = ((b.toNat % 16 : Nat) : Int) := byte_mod ⟨b.toNat, b.toNat_lt⟩

theorem refHex_val (s : List UInt8) (hs : s.length ≤ 1048576) : P_ref01_Hex (s, ()) = some (hexF s, ()) := by
  unfold P_ref01_Hex
  have key : Loop (P_ref01_Hex_L0 (s, ())) (((), (0, ())), ([], ())) = some (((), ((s.length : Int), ())), (bytesInts (hexF s), ())) := by
    have := loop_seq (f := P_ref01_Hex_L0 (s, ())) (r := (((), ((s.length : Int), ())), (bytesInts (hexF s), ()))) s.length (fun k => (((), ((k : Int), ())), (bytesInts (hexF (s.take k)), ()))) (fun k hk => by
      unfold P_ref01_Hex_L0
      dsimp only
      obtain ⟨f1, f2⟩ := hexLen s hs hk (u8 (hx (s[k].toNat / 16))) (u8 (hx (s[k].toNat % 16)))
      have hb := s[k].toNat_lt
      rw [show len s = (s.length : Int) from rfl, ltI_true (by omega), sel_true, idx_str s hk, obind_some, eqI_false (by decide), sel_false, u8_div, dig_val (by omega), obind_some]
      dsimp only
      rw [f1, sel_true, obind_some, sel_false, u8_mod, dig_val (by omega), obind_some]
      dsimp only
      unfold app
      rw [f2, sel_true, way1_inl, iadd_one (by omega), hexStep s hk]) (by
      unfold P_ref01_Hex_L0
      dsimp only
      rw [show len s = (s.length : Int) from rfl, ltI_false (by omega), sel_false, way1_inr, List.take_length])
    exact this
  rw [key, obind_some]
  dsimp only
  rw [intsBytes_bytes]
end Go.Ge

/- Pairs of hexadecimal digits as bytes, in plain words. -/
namespace Go.Ge
set_option linter.unusedVariables false
set_option linter.unusedSimpArgs false

def hv (c : UInt8) : Int := Lib.indexByte hexT c
end Go.Ge

/- Pairs of hexadecimal digits as bytes: the reference. -/
namespace Go.Ge
set_option linter.unusedVariables false
set_option linter.unusedSimpArgs false

end Go.Ge

/- Digests in plain words. -/
namespace Go.Ge
set_option linter.unusedVariables false
set_option linter.unusedSimpArgs false

def preD : List UInt8 := [115, 104, 97, 50, 53, 54, 58]
def dgst (s : List UInt8) : List UInt8 := preD ++ hexF (intsBytes (sha s))
theorem sub_whole {α : Type} (l : List α) (n : Nat) (h : l.length = n) : sub l 0 (minus n 0) = l := by
  unfold sub minus
  rw [show ((0 : Int).toNat) = 0 from rfl, List.drop_zero, List.take_of_length_le (by omega)]

theorem of_val (s : List UInt8) (hs : s.length ≤ 1048576) : P_digest_Of (s, ()) = some (dgst s, ()) := by
  unfold P_digest_Of
  dsimp only
  rw [shaSum_val s hs, obind_some, inside_true (by decide) (by decide) (by decide), sel_true]
  dsimp only
  rw [show sub (sha s) 0 (minus 32 0) = sha s from sub_whole _ 32 (length_sha s), hex_val _ (by simp [intsBytes, length_sha]), obind_some]
  dsimp only
  rw [fits_true (by simp only [plus, len, length_hexF, intsBytes, List.length_map, length_sha, List.length_cons, List.length_nil]; omega), sel_true]
  rfl

theorem refOf_val (s : List UInt8) (hs : s.length ≤ 1048576) : P_ref03_Of (s, ()) = some (dgst s, ()) := by
  unfold P_ref03_Of
  dsimp only
  rw [refSum_val s hs, obind_some, inside_true (by decide) (by decide) (by decide), sel_true]
  dsimp only
  rw [show sub (sha s) 0 (minus 32 0) = sha s from sub_whole _ 32 (length_sha s), refHex_val _ (by simp [intsBytes, length_sha]), obind_some]
  dsimp only
  rw [fits_true (by simp only [plus, len, length_hexF, intsBytes, List.length_map, length_sha, List.length_cons, List.length_nil]; omega), sel_true]
  rfl

end Go.Ge

/- What names may be: bytes of a set, no name twice, few of them. -/
namespace Go.Ge
set_option linter.unusedVariables false
set_option linter.unusedSimpArgs false
set_option maxRecDepth 100000

abbrev Tx := List UInt8

def allowed : Tx := [97, 98, 99, 100, 101, 102, 103, 104, 105, 106, 107, 108, 109, 110, 111, 112, 113, 114, 115, 116, 117, 118, 119, 120, 121, 122, 48, 49, 50, 51, 52, 53, 54, 55, 56, 57, 46, 95, 45]
def isCh (c : UInt8) : Bool := allowed.contains c
def isNameB (s : Tx) : Bool := decide (1 ≤ s.length) && decide (s.length ≤ 32) && s.all isCh

/-- A set of bytes as a row. -/
def setOf (a : Tx) (t0 : List Bool) : List Bool := (a.zipIdx).foldl (fun t p => lset t (u8 p.1) true) t0
def falses : List Bool := List.replicate 256 false

theorem u8_lt (c : UInt8) : u8 c < 256 := by unfold u8; have := c.toNat_lt; omega
theorem u8_ge (c : UInt8) : 0 ≤ u8 c := by unfold u8; omega
theorem within_u8 (c : UInt8) : within (u8 c) 256 = true := within_true (u8_ge c) (u8_lt c)
theorem idx_u8 {t : List Bool} (h : t.length = 256) (c : UInt8) : idx t (u8 c) = some (t.getD c.toNat false) := idx_at t false (k := c.toNat) rfl (by have := c.toNat_lt; omega)

theorem makeSet_val (a : Tx) (ha : a.length ≤ 4294967296) (h7 : ∀ c ∈ a, c < 128) : P_strings_makeASCIISet (a, ()) = some (setOf a falses, (true, ())) := by
  unfold P_strings_makeASCIISet
  obtain ⟨t, h1, h2, h3⟩ := fold_loop (f := P_strings_makeASCIISet_L0 (a, ())) a (fun (t : List Bool) i => ((false, (i, ())), (t, ()))) (fun t i x => lset t (u8 x) true) (fun t => (0, ((false, (len a, ())), (t, ())))) (fun t _ => t.length = 256) ha
    (fun t i x hx hi hadd ht => by
      refine ⟨?_, by simp [lset, ht]⟩
      unfold P_strings_makeASCIISet_L0
      dsimp only
      have hx7 : x < 128 := h7 x (mem_at.2 ⟨i, hx⟩)
      have hx7' : u8 x < 128 := by unfold u8; have : x.toNat < 128 := hx7; omega
      rw [ltI_len_true hi, sel_true, idx_some' hx, obind_some, leI_false hx7', sel_false, within_u8, sel_true, idx_u8 ht, obind_some, obind_some, obind_some, hadd])
    (fun t ht => by unfold P_strings_makeASCIISet_L0; dsimp only; rw [ltI_len_end, sel_false]; rfl) falses (by simp [falses])
  have h2' : Loop (P_strings_makeASCIISet_L0 (a, ())) ((false, ((0 : Int), ())), (falses, ())) = _ := h2
  show obind (Loop (P_strings_makeASCIISet_L0 (a, ())) ((false, ((0 : Int), ())), (falses, ()))) _ = _
  rw [h2', obind_some]
  show some (t, (true, ())) = _
  rw [h3]; rfl

theorem set_at (c : UInt8) : (setOf allowed falses).getD c.toNat false = isCh c := by
  have key : ∀ n : Fin 256, (setOf allowed falses).getD n.val false = isCh (UInt8.ofNat n.val) := by decide +kernel
  have := key ⟨c.toNat, c.toNat_lt⟩
  rw [this]
  congr 1
  simp

theorem set_len : (setOf allowed falses).length = 256 := by decide +kernel

theorem setHas_val {t : List Bool} (ht : t.length = 256) (c : UInt8) : P_strings_asciiSet_contains ((u8 c, ()), (t, ())) = some ((t.getD c.toNat false, ()), (t, ())) := by
  unfold P_strings_asciiSet_contains
  dsimp only
  rw [within_u8, sel_true, idx_u8 ht, obind_some]

/-- What is left of a text whose head of a set is taken away. -/
theorem trimLeft_val {t : List Bool} (ht : t.length = 256) : ∀ (s : Tx), P_strings_trimLeftASCII ((s, ()), (t, ())) = some ((s.dropWhile (fun c => t.getD c.toNat false), ()), (t, ())) := by
  have key : ∀ s : Tx, Loop P_strings_trimLeftASCII_L0 ((s, ()), (t, ())) = some ((s.dropWhile (fun c => t.getD c.toNat false), ()), (t, ())) := by
    intro s
    induction s with
    | nil =>
      rw [Loop_eq]
      unfold P_strings_trimLeftASCII_L0
      dsimp only
      rw [ltI_len0, show decide (0 < ([] : Tx).length) = false from rfl, sel_false]
      rfl
    | cons c r ih =>
      rw [Loop_eq]
      unfold P_strings_trimLeftASCII_L0
      dsimp only
      have hi : idx (c :: r) (0 : Int) = some c := rfl
      rw [ltI_len0, show decide (0 < (c :: r).length) = true from by simp, sel_true, hi, obind_some, setHas_val ht, obind_some, List.dropWhile_cons]
      dsimp only
      cases hc : t.getD c.toNat false with
      | false => rfl
      | true =>
        rw [nt_true, sel_false, inside_true (by decide) (by simp [len]; omega) (Int.le_refl _), sel_true]
        have hs : sub (c :: r) (1 : Int) (minus (len (c :: r)) 1) = r := by
          have := sub_drop (c :: r) 1 (by simp)
          simpa using this
        rw [hs]
        show Loop P_strings_trimLeftASCII_L0 ((r, ()), (t, ())) = _
        rw [ih]; rfl
  intro s
  unfold P_strings_trimLeftASCII
  dsimp only
  rw [key, obind_some]

theorem isub_len {α : Type} {l : List α} (h : l.length ≤ 4294967296) : isub .i64 (len l) 1 = (l.length : Int) - 1 := isub_i64 (by simp only [len]; omega) (by simp only [len]; omega)

theorem trimRight_val {t : List Bool} (ht : t.length = 256) : ∀ (n : Nat) (s : Tx), s.length = n → n ≤ 4294967296 → P_strings_trimRightASCII ((s, ()), (t, ())) = some (((s.reverse.dropWhile (fun c => t.getD c.toNat false)).reverse, ()), (t, ())) := by
  have key : ∀ (n : Nat) (s : Tx), s.length = n → n ≤ 4294967296 → Loop P_strings_trimRightASCII_L0 ((s, ()), (t, ())) = some (((s.reverse.dropWhile (fun c => t.getD c.toNat false)).reverse, ()), (t, ())) := by
    intro n
    induction n with
    | zero =>
      intro s hs _
      obtain rfl := List.length_eq_zero_iff.1 hs
      rw [Loop_eq]
      unfold P_strings_trimRightASCII_L0
      dsimp only
      rw [ltI_len0, show decide (0 < ([] : Tx).length) = false from rfl, sel_false]
      rfl
    | succ n ih =>
      intro s hs hn
      obtain ⟨r, c, rfl⟩ : ∃ r c, s = r ++ [c] := ⟨s.dropLast, s.getLast (by intro e; rw [e] at hs; simp at hs), (List.dropLast_concat_getLast _).symm⟩
      have hr : r.length = n := by simpa using hs
      rw [Loop_eq]
      unfold P_strings_trimRightASCII_L0
      dsimp only
      have hlen : isub .i64 (len (r ++ [c])) 1 = (r.length : Int) := by rw [isub_len (by omega)]; simp
      have hi : idx (r ++ [c]) (r.length : Int) = some c := by rw [idx_nat]; simp
      rw [ltI_len0, show decide (0 < (r ++ [c]).length) = true from by simp, sel_true, hlen, hi, obind_some, setHas_val ht, obind_some, List.reverse_append, List.reverse_singleton, List.singleton_append, List.dropWhile_cons]
      dsimp only
      cases hc : t.getD c.toNat false with
      | false => simp [nt, sel, way1]
      | true =>
        have h0 : inside 0 (r.length : Int) (len (r ++ [c])) = true := inside_true (by decide) (by omega) (by simp only [len, List.length_append, List.length_singleton]; omega)
        rw [nt_true, sel_false, h0, sel_true]
        have hs2 : sub (r ++ [c]) (0 : Int) (minus (r.length : Int) 0) = r := by rw [sub_take]; simp
        rw [hs2]
        show Loop P_strings_trimRightASCII_L0 ((r, ()), (t, ())) = _
        rw [ih r hr (by omega)]; rfl
  intro n s hs hn
  unfold P_strings_trimRightASCII
  dsimp only
  rw [key n s hs hn, obind_some]

theorem dropWhile_nil {α : Type} {p : α → Bool} {l : List α} : l.dropWhile p = [] ↔ l.all p = true := by
  induction l with
  | nil => simp
  | cons a r ih =>
    rw [List.dropWhile_cons, List.all_cons]
    cases h : p a with
    | true => simpa using ih
    | false => simp

/-- A text is nothing but bytes of a set if nothing is left of it. -/
theorem trim_nil {p : UInt8 → Bool} (s : Tx) : ((s.reverse.dropWhile p).reverse.dropWhile p = []) ↔ s.all p = true := by
  constructor
  · intro h
    rw [dropWhile_nil, List.all_reverse] at h
    have h2 : s.reverse.all p = true := by
      have e : s.reverse.takeWhile p ++ s.reverse.dropWhile p = s.reverse := List.takeWhile_append_dropWhile
      rw [← e, List.all_append, h]
      have : (s.reverse.takeWhile p).all p = true := List.all_takeWhile
      simp [this]
    rwa [List.all_reverse] at h2
  · intro h
    have : s.reverse.dropWhile p = [] := by rw [dropWhile_nil, List.all_reverse]; exact h
    rw [this]; rfl

theorem isName_val (s : Tx) : P_record_IsName (s, ()) = some (isNameB s, ()) := by
  unfold P_record_IsName isNameB
  dsimp only
  have e1 : leI 1 (len s) = decide (1 ≤ s.length) := by unfold leI len; apply decide_eq_decide.2; omega
  have e2 : leI (len s) 32 = decide (s.length ≤ 32) := by unfold leI len; apply decide_eq_decide.2; omega
  rw [e1, e2]
  by_cases h1 : 1 ≤ s.length
  · rw [decide_eq_true h1, sel_true]
    by_cases h2 : s.length ≤ 32
    · rw [decide_eq_true h2, sel_true, show ([97, 98, 99, 100, 101, 102, 103, 104, 105, 106, 107, 108, 109, 110, 111, 112, 113, 114, 115, 116, 117, 118, 119, 120, 121, 122, 48, 49, 50, 51, 52, 53, 54, 55, 56, 57, 46, 95, 45] : Tx) = allowed from rfl]
      unfold P_strings_Trim
      dsimp only
      have hs : s ≠ [] := by intro e; rw [e] at h1; simp at h1
      rw [eqS_false hs, nt_false, sel_true, eqS_false (show allowed ≠ [] by decide), sel_false, show eqI (len allowed) 1 = false from rfl, sel_false, obind_some, sel_false, makeSet_val allowed (by decide) (by decide), obind_some]
      dsimp only
      rw [sel_true, trimRight_val set_len s.length s rfl (by omega), obind_some]
      dsimp only
      rw [trimLeft_val set_len, obind_some, obind_some, obind_some]
      have hp : (fun c : UInt8 => (setOf allowed falses).getD c.toNat false) = isCh := funext set_at
      rw [hp]
      show some (eqS _ [], ()) = _
      have := trim_nil (p := isCh) s
      by_cases ha : s.all isCh = true
      · rw [eqS_true (this.2 ha), ha]; rfl
      · rw [eqS_false fun e => ha (this.1 e)]
        simp at ha
        simp [ha]
    · rw [decide_eq_false h2, sel_false, obind_some]; simp
  · rw [decide_eq_false h1, sel_false, sel_false, obind_some]; simp

/-- The reference's test of a byte. -/
def badCh (c : UInt8) : Bool := sel (sel (sel (sel (sel (nt (ltI (u8 c) 97)) (ltI 122 (u8 c)) true) (sel (nt (ltI (u8 c) 48)) (ltI 57 (u8 c)) true) false) (nt (eqI (u8 c) 46)) false) (nt (eqI (u8 c) 95)) false) (nt (eqI (u8 c) 45)) false
theorem badCh_eq (c : UInt8) : badCh c = !isCh c := by
  have key : ∀ n : Fin 256, badCh (UInt8.ofNat n.val) = !isCh (UInt8.ofNat n.val) := by decide +kernel
  have := key ⟨c.toNat, c.toNat_lt⟩
  simpa using this

theorem refIsName_val (s : Tx) (hl : s.length ≤ 4294967296) : P_ref06_IsName (s, ()) = some (isNameB s, ()) := by
  unfold P_ref06_IsName isNameB
  rcases srch (f := P_ref06_IsName_L0 (s, ())) s (fun i => ((false, (i, ())), ())) (fun _ x => badCh x) (fun i x => (1, ((false, ((i : Int), ())), ()))) (0, ((false, (len s, ())), ())) hl (fun i x hx hi ha => by
      unfold P_ref06_IsName_L0
      dsimp only
      rw [ltI_len_true hi, sel_true, idx_some' hx, obind_some, ha]
      show sel (badCh x) _ _ = _
      cases badCh x <;> rfl) (by unfold P_ref06_IsName_L0; dsimp only; rw [ltI_len_end, sel_false]; rfl) with ⟨i, x, hx, hp, hj, h⟩ | ⟨hn, h⟩
  · rw [h, obind_some]
    have : s.all isCh = false := by
      rw [List.all_eq_false]
      refine ⟨x, mem_at.2 ⟨i, hx⟩, ?_⟩
      rw [badCh_eq] at hp
      simpa using hp
    rw [this, Bool.and_false]; rfl
  · rw [h, obind_some]
    have : s.all isCh = true := by
      rw [List.all_eq_true]
      intro x hx
      obtain ⟨i, hi⟩ := mem_at.1 hx
      have := hn i x hi
      rw [badCh_eq] at this
      simpa using this
    rw [this, Bool.and_true]
    have e1 : leI 1 (len s) = decide (1 ≤ s.length) := by unfold leI len; apply decide_eq_decide.2; omega
    have e2 : leI (len s) 32 = decide (s.length ≤ 32) := by unfold leI len; apply decide_eq_decide.2; omega
    show some (sel (leI 1 (len s)) (leI (len s) 32) false, ()) = _
    rw [e1, e2]
    cases decide (1 ≤ s.length) <;> rfl
end Go.Ge

/- Items of an image: what is got, what is put: in plain words. -/
namespace Go.Ge
set_option linter.unusedVariables false
set_option linter.unusedSimpArgs false

abbrev It := Tx × Tx × Tx × Unit
/-- Where a key stands first. -/
def keyI (l : List It) (p : Tx) : Option Nat := l.findIdx? fun x => decide (x.1 = p)

theorem keyI_some {l : List It} {p : Tx} {i : Nat} {x : It} (hx : l[i]? = some x) (hp : x.1 = p) (hj : ∀ j y, j < i → l[j]? = some y → y.1 ≠ p) : keyI l p = some i := by
  unfold keyI
  rw [List.findIdx?_eq_some_iff_getElem]
  have hi := getElem?_lt hx
  refine ⟨hi, ?_, fun j hji => ?_⟩
  · rw [List.getElem?_eq_getElem hi] at hx
    rw [Option.some.inj hx]; simpa using hp
  · have := hj j l[j] hji (List.getElem?_eq_getElem (by omega))
    simpa using this
theorem keyI_none {l : List It} {p : Tx} (h : ∀ (i : Nat) (x : It), l[i]? = some x → x.1 ≠ p) : keyI l p = none := by
  unfold keyI
  rw [List.findIdx?_eq_none_iff]
  intro x hx
  obtain ⟨i, hi⟩ := mem_at.1 hx
  simpa using h i x hi

def getF (l : List It) (p : Tx) : Tx × Int := match l.find? fun x => decide (x.1 = p) with | some x => (x.2.2.1, 0) | none => ([], 3)

theorem getF_some {l : List It} {p : Tx} {i : Nat} {x : It} (hx : l[i]? = some x) (hp : x.1 = p) (hj : ∀ j y, j < i → l[j]? = some y → y.1 ≠ p) : getF l p = (x.2.2.1, 0) := by
  unfold getF
  have hi := getElem?_lt hx
  have : l.find? (fun x => decide (x.1 = p)) = some x := by
    rw [List.find?_eq_some_iff_getElem]
    refine ⟨by simpa using hp, i, hi, ?_, fun j hji => ?_⟩
    · rw [List.getElem?_eq_getElem hi] at hx; exact Option.some.inj hx
    · have := hj j l[j] hji (List.getElem?_eq_getElem (by omega))
      simpa using this
  rw [this]
theorem getF_none {l : List It} {p : Tx} (h : ∀ (i : Nat) (x : It), l[i]? = some x → x.1 ≠ p) : getF l p = ([], 3) := by
  unfold getF
  have : l.find? (fun x => decide (x.1 = p)) = none := by
    rw [List.find?_eq_none]
    intro x hx
    obtain ⟨i, hi⟩ := mem_at.1 hx
    simpa using h i x hi
  rw [this]

theorem dec_ne {α : Type} [DecidableEq α] {a b : α} (h : decide (a = b) = false) : a ≠ b := by simpa using h

theorem getItem_val (l : List It) (p : Tx) (hl : l.length ≤ 100000) : P_images_GetItem (l, (p, ())) = some ((getF l p).1, ((getF l p).2, ())) := by
  unfold P_images_GetItem
  dsimp only
  rcases srch (f := P_images_GetItem_L0 (l, (p, ()))) l (fun i => ((((0 : Int), (i, ())), ((), (p, ()))))) (fun _ x => decide (x.1 = p)) (fun i _ => (1, (((i : Int), ((i : Int), ())), ((), (p, ()))))) (0, (((0 : Int), ((l.length : Int), ())), ((), (p, ())))) (by omega) (fun i x hx hi hadd => by
      unfold P_images_GetItem_L0 P_images_key
      dsimp only
      rw [ltI_len_true hi, sel_true, idx_some' hx, obind_some, obind_some, hadd, eqS_iff]
      cases decide (x.1 = p) <;> rfl) (by
      unfold P_images_GetItem_L0
      dsimp only
      rw [ltI_len_end, sel_false]) with ⟨i, x, hx, hp, hj, h⟩ | ⟨hn, h⟩
  · rw [h, obind_some]
    dsimp only
    rw [show eqN 1 0 = false from rfl, sel_false, ltI_false (by omega), sel_false, idx_some' hx, obind_some, getF_some hx (of_decide_eq_true hp) (fun j y hji hy => dec_ne (hj j y hji hy))]
  · rw [h, obind_some]
    dsimp only
    rw [show eqN 0 0 = true from rfl, sel_true, ltI_true (by decide), sel_true, getF_none fun i x hx => dec_ne (hn i x hx)]

theorem refGetItem_val (l : List It) (p : Tx) (hl : l.length ≤ 100000) : P_ref22_GetItem (l, (p, ())) = some ((getF l p).1, ((getF l p).2, ())) := by
  unfold P_ref22_GetItem
  rcases srch (f := P_ref22_GetItem_L0 (l, (p, ()))) l (fun i => ((([] : Tx), ((0 : Int), (i, ()))), ())) (fun _ x => decide (x.1 = p)) (fun i x => (1, ((x.2.2.1, ((0 : Int), ((i : Int), ()))), ()))) (0, ((([] : Tx), ((0 : Int), ((l.length : Int), ()))), ())) (by omega) (fun i x hx hi hadd => by
      unfold P_ref22_GetItem_L0
      dsimp only
      rw [ltI_len_true hi, sel_true, idx_some' hx, obind_some, obind_some, hadd, eqS_iff]
      cases decide (x.1 = p) <;> rfl) (by
      unfold P_ref22_GetItem_L0
      dsimp only
      rw [ltI_len_end, sel_false]) with ⟨i, x, hx, hp, hj, h⟩ | ⟨hn, h⟩
  · rw [h, obind_some]
    dsimp only
    rw [show eqN 1 0 = false from rfl, sel_false, getF_some hx (of_decide_eq_true hp) (fun j y hji hy => dec_ne (hj j y hji hy))]
  · rw [h, obind_some]
    dsimp only
    rw [show eqN 0 0 = true from rfl, sel_true, getF_none fun i x hx => dec_ne (hn i x hx)]

theorem sameItems_self (l : List It) (hl : l.length ≤ 100000) : P_ref06_SameItems (l, (l, ())) = some (true, ()) := by
  unfold P_ref06_SameItems
  dsimp only
  rw [eqI_true rfl, nt_true, sel_false]
  rcases srch (f := P_ref06_SameItems_L0 (l, (l, ()))) l (fun i => ((false, (i, ())), ())) (fun _ _ => false) (fun i _ => (1, ((false, ((i : Int), ())), ()))) (0, ((false, ((l.length : Int), ())), ())) (by omega) (fun i x hx hi ha => by
      unfold P_ref06_SameItems_L0
      dsimp only
      rw [ltI_len_true hi, sel_true, sel_true, idx_some' hx, obind_some, obind_some, eqS_true rfl, eqS_true rfl, eqS_true rfl, ha]
      rfl) (by unfold P_ref06_SameItems_L0; dsimp only; rw [ltI_len_end, sel_false, sel_false]) with ⟨i, x, _, hp, _⟩ | ⟨hn, h⟩
  · cases hp
  · rw [h]; rfl

/-- A list without the first that has a key; with something in its place of the order. -/
def rmI (l : List It) (p : Tx) : List It := match keyI l p with | some i => l.take i ++ l.drop (i + 1) | none => l
def insI (l : List It) (x : It) : List It := l.takeWhile (fun y => ltS y.1 x.1) ++ [x] ++ l.dropWhile (fun y => ltS y.1 x.1)
def putF22 (l : List It) (p d : Tx) : List It × Int :=
  if isNameB p = true ∧ d.length ≤ 64 then (if keyI l p = none ∧ 4 ≤ l.length then ([], 5) else (insI (rmI l p) (p, (dgst d, (d, ()))), 0)) else ([], 1)

theorem rmI_len (l : List It) (p : Tx) : (rmI l p).length ≤ l.length := by
  unfold rmI
  split
  · rw [List.length_append, List.length_take, List.length_drop]; omega
  · exact Nat.le_refl _

/-- Where something stands in the order. -/
theorem place_at {l : List It} {p : Tx} {k : Nat} (hk : k ≤ l.length) (h1 : ∀ j y, j < k → l[j]? = some y → ltS y.1 p = true) (h2 : ∀ y, l[k]? = some y → ltS y.1 p = false) :
    l.takeWhile (fun y => ltS y.1 p) = l.take k ∧ l.dropWhile (fun y => ltS y.1 p) = l.drop k := by
  induction l generalizing k with
  | nil => simp
  | cons a r ih =>
    cases k with
    | zero =>
      have := h2 a rfl
      simp [List.takeWhile_cons, List.dropWhile_cons, this]
    | succ k =>
      have ha := h1 0 a (by omega) rfl
      obtain ⟨e1, e2⟩ := ih (k := k) (by simpa using hk) (fun j y hj hy => h1 (j + 1) y (by omega) (by simpa using hy)) (fun y hy => h2 y (by simpa using hy))
      simp only [List.takeWhile_cons, List.dropWhile_cons, ha, if_true, List.take_succ_cons, List.drop_succ_cons, e1, e2]
      exact ⟨trivial, trivial⟩
end Go.Ge

/- Items of an image: what putting one comes to: in plain words. -/
namespace Go.Ge
set_option linter.unusedVariables false
set_option linter.unusedSimpArgs false

abbrev KS := (Int × Int × Unit) × Unit × Tx × Unit
abbrev PS' := (Int × Int × Unit) × Unit × It × Unit

/-- What a search for a key ends with. -/
def keyR (l : List It) (p : Tx) : Nat × (Int × Int × Unit) × Unit × Tx × Unit := match keyI l p with
  | some i => (1, (((i : Int), ((i : Int), ())), ((), (p, ()))))
  | none => (0, (((0 : Int), ((l.length : Int), ())), ((), (p, ()))))
/-- What a search for a place ends with. -/
def placeN (m : List It) (p : Tx) : Nat := (m.takeWhile fun y => ltS y.1 p).length
def posR (m : List It) (it : It) : Nat × (Int × Int × Unit) × Unit × It × Unit := if placeN m it.1 < m.length then (1, (((placeN m it.1 : Int), ((placeN m it.1 : Int), ())), ((), (it, ())))) else (0, (((0 : Int), ((m.length : Int), ())), ((), (it, ()))))

theorem keyLoop {f : KS → Option (KS ⊕ (Nat × KS))} (l : List It) (p : Tx) (hl : l.length ≤ 100000)
    (hs : ∀ (i : Nat) (x : It), l[i]? = some x → f (((0 : Int), ((i : Int), ())), ((), (p, ()))) = some (if decide (x.1 = p) = true then .inr (1, (((i : Int), ((i : Int), ())), ((), (p, ())))) else .inl (((0 : Int), (((i + 1 : Nat) : Int), ())), ((), (p, ())))))
    (he : f (((0 : Int), ((l.length : Int), ())), ((), (p, ()))) = some (.inr (0, (((0 : Int), ((l.length : Int), ())), ((), (p, ())))))) :
    Loop f (((0 : Int), ((0 : Int), ())), ((), (p, ()))) = some (keyR l p) := by
  unfold keyR
  rcases srch (f := f) l (fun i => ((((0 : Int), (i, ())), ((), (p, ()))))) (fun _ x => decide (x.1 = p)) (fun i _ => (1, (((i : Int), ((i : Int), ())), ((), (p, ()))))) (0, (((0 : Int), ((l.length : Int), ())), ((), (p, ())))) (by omega) (fun i x hx hi hadd => hs i x hx) he with ⟨i, x, hx, hp, hj, h⟩ | ⟨hn, h⟩
  · rw [h, keyI_some hx (of_decide_eq_true hp) (fun j y hji hy => dec_ne (hj j y hji hy))]
  · rw [h, keyI_none fun i x hx => dec_ne (hn i x hx)]

theorem takeWhile_of {m : List It} {p : Tx} {k : Nat} (hk : k ≤ m.length) (h1 : ∀ j y, j < k → m[j]? = some y → ltS y.1 p = true) (h2 : ∀ y, m[k]? = some y → ltS y.1 p = false) : placeN m p = k := by
  unfold placeN
  rw [(place_at hk h1 h2).1, List.length_take]; omega

theorem posLoop {f : PS' → Option (PS' ⊕ (Nat × PS'))} (m : List It) (it : It) (hl : m.length ≤ 100000)
    (hs : ∀ (i : Nat) (x : It), m[i]? = some x → f (((0 : Int), ((i : Int), ())), ((), (it, ()))) = some (if nt (ltS x.1 it.1) = true then .inr (1, (((i : Int), ((i : Int), ())), ((), (it, ())))) else .inl (((0 : Int), (((i + 1 : Nat) : Int), ())), ((), (it, ())))))
    (he : f (((0 : Int), ((m.length : Int), ())), ((), (it, ()))) = some (.inr (0, (((0 : Int), ((m.length : Int), ())), ((), (it, ())))))) :
    Loop f (((0 : Int), ((0 : Int), ())), ((), (it, ()))) = some (posR m it) := by
  unfold posR
  have lt_of : ∀ {x : It}, nt (ltS x.1 it.1) = false → ltS x.1 it.1 = true := fun {x} h => by
    cases hh : ltS x.1 it.1 with
    | true => rfl
    | false => rw [hh] at h; cases h
  rcases srch (f := f) m (fun i => ((((0 : Int), (i, ())), ((), (it, ()))))) (fun _ x => nt (ltS x.1 it.1)) (fun i _ => (1, (((i : Int), ((i : Int), ())), ((), (it, ()))))) (0, (((0 : Int), ((m.length : Int), ())), ((), (it, ())))) (by omega) (fun i x hx hi hadd => hs i x hx) he with ⟨i, x, hx, hp, hj, h⟩ | ⟨hn, h⟩
  · have hi := getElem?_lt hx
    have e := takeWhile_of (m := m) (p := it.1) (k := i) (by omega) (fun j y hji hy => lt_of (hj j y hji hy)) (fun y hy => by
      rw [hx] at hy
      obtain rfl := Option.some.inj hy
      cases hh : ltS x.1 it.1 with
      | false => rfl
      | true => rw [hh] at hp; cases hp)
    rw [h, e, if_pos hi]
  · have e := takeWhile_of (m := m) (p := it.1) (k := m.length) (Nat.le_refl _) (fun j y hji hy => lt_of (hn j y hy)) (fun y hy => by
      rw [List.getElem?_eq_none (Nat.le_refl _)] at hy; cases hy)
    rw [h, e, if_neg (by omega)]

theorem ins_place (m : List It) (it : It) (hm : m.length ≤ 100000) : insL m ((placeN m it.1 : Nat) : Int) [it] = some (insI m it) := by
  have hk : placeN m it.1 ≤ m.length := by
    unfold placeN
    have := congrArg List.length (List.takeWhile_append_dropWhile (p := fun y : It => ltS y.1 it.1) (l := m))
    rw [List.length_append] at this; omega
  unfold insL insI
  rw [show inside 0 ((placeN m it.1 : Nat) : Int) (len m) = true from inside_true (by decide) (by omega) (by unfold len; omega), fits_len2 (by simp only [List.length_cons, List.length_nil]; omega)]
  have e := List.takeWhile_append_dropWhile (p := fun y : It => ltS y.1 it.1) (l := m)
  have e1 : m.take (placeN m it.1) = m.takeWhile (fun y => ltS y.1 it.1) := by
    unfold placeN
    conv => lhs; rw [← e]
    rw [List.take_left']
    rw [e]
  have e2 : m.drop (placeN m it.1) = m.dropWhile (fun y => ltS y.1 it.1) := by
    unfold placeN
    conv => lhs; rw [← e]
    rw [List.drop_left']
    rw [e]
  rw [Int.toNat_natCast, e1, e2]
  rfl

theorem tail22 (m : List It) (it : It) (hm : m.length ≤ 100000) {f : PS' → Option (PS' ⊕ (Nat × PS'))} (h : Loop f (((0 : Int), ((0 : Int), ())), ((), (it, ()))) = some (posR m it)) :
    (obind (Loop f (((0 : Int), ((0 : Int), ())), ((), (it, ())))) (fun (y7 : Nat × (Int × Int × Unit) × Unit × ((List (UInt8)) × (List (UInt8)) × (List (UInt8)) × Unit) × Unit) => sel (eqN y7.1 (0 : Nat))
  (obind (P_slices_Insert_api_Item_api_Item m (((sel (ltI (-1 : Int) (0 : Int))
  ((@len ((List (UInt8)) × (List (UInt8)) × (List (UInt8)) × Unit) m, ()), ())
  (((-1 : Int), ()), ())).1).1, (([y7.2.2.2.1] : List ((List (UInt8)) × (List (UInt8)) × (List (UInt8)) × Unit)), ()))) (fun (y8 : List ((List (UInt8)) × (List (UInt8)) × (List (UInt8)) × Unit)) => some (y8, ((0 : Int), ()))))
  (obind (P_slices_Insert_api_Item_api_Item m (((sel (ltI y7.2.1.1 (0 : Int))
  ((@len ((List (UInt8)) × (List (UInt8)) × (List (UInt8)) × Unit) m, ()), ())
  ((y7.2.1.1, ()), ())).1).1, (([y7.2.2.2.1] : List ((List (UInt8)) × (List (UInt8)) × (List (UInt8)) × Unit)), ()))) (fun (y8 : List ((List (UInt8)) × (List (UInt8)) × (List (UInt8)) × Unit)) => some (y8, ((0 : Int), ())))))) = some (insI m it, ((0 : Int), ())) := by
  rw [h, obind_some]
  unfold posR P_slices_Insert_api_Item_api_Item
  have hp := ins_place m it hm
  by_cases hk : placeN m it.1 < m.length
  · rw [if_pos hk]
    dsimp only
    rw [show eqN 1 0 = false from rfl, sel_false, ltI_false (by omega), sel_false]
    dsimp only
    rw [hp, obind_some]
  · rw [if_neg hk]
    dsimp only
    have hk2 : placeN m it.1 = m.length := by
      have : placeN m it.1 ≤ m.length := by
        unfold placeN
        have := congrArg List.length (List.takeWhile_append_dropWhile (p := fun y : It => ltS y.1 it.1) (l := m))
        rw [List.length_append] at this; omega
      omega
    rw [show eqN 0 0 = true from rfl, sel_true, ltI_true (by decide), sel_true]
    dsimp only
    rw [len_eq, ← hk2, hp, obind_some]

theorem mid22 (l : List It) (p d g : Tx) (hl : l.length ≤ 100000) {f1 : KS → Option (KS ⊕ (Nat × KS))} {g2 g3 : (Unit × Unit) × (List It) × Unit → PS' → Option (PS' ⊕ (Nat × PS'))}
    (h1 : Loop f1 (((0 : Int), ((0 : Int), ())), ((), (p, ()))) = some (keyR l p))
    (h2 : ∀ (m : List It) (it : It), m.length ≤ 100000 → Loop (g2 (((), ()), (m, ()))) (((0 : Int), ((0 : Int), ())), ((), (it, ()))) = some (posR m it))
    (h3 : ∀ (m : List It) (it : It), m.length ≤ 100000 → Loop (g3 (((), ()), (m, ()))) (((0 : Int), ((0 : Int), ())), ((), (it, ()))) = some (posR m it)) :
    (sel (fits (@len ((List (UInt8)) × (List (UInt8)) × (List (UInt8)) × Unit) l))
  (obind (Loop f1 (((0 : Int), ((0 : Int), ())), ((), (p, ())))) (fun (y5 : Nat × (Int × Int × Unit) × Unit × (List (UInt8)) × Unit) => sel (eqN y5.1 (0 : Nat))
  (obind (sel (leI (0 : Int) (-1 : Int))
  (obind (P_slices_Delete_api_Item_api_Item l ((-1 : Int), (iadd IntKind.i64 (-1 : Int) (1 : Int), ()))) (fun (y6 : List ((List (UInt8)) × (List (UInt8)) × (List (UInt8)) × Unit)) => some (((), ()), (y6, ()))))
  (some (((), ()), (l, ())))) (fun (y6 : (Unit × Unit) × (List ((List (UInt8)) × (List (UInt8)) × (List (UInt8)) × Unit)) × Unit) => obind (Loop (g2 y6) (((0 : Int), ((0 : Int), ())), ((), ((p, (g, (d, ()))), ())))) (fun (y7 : Nat × (Int × Int × Unit) × Unit × ((List (UInt8)) × (List (UInt8)) × (List (UInt8)) × Unit) × Unit) => sel (eqN y7.1 (0 : Nat))
  (obind (P_slices_Insert_api_Item_api_Item y6.2.1 (((sel (ltI (-1 : Int) (0 : Int))
  ((@len ((List (UInt8)) × (List (UInt8)) × (List (UInt8)) × Unit) y6.2.1, ()), ())
  (((-1 : Int), ()), ())).1).1, (([y7.2.2.2.1] : List ((List (UInt8)) × (List (UInt8)) × (List (UInt8)) × Unit)), ()))) (fun (y8 : List ((List (UInt8)) × (List (UInt8)) × (List (UInt8)) × Unit)) => some (y8, ((0 : Int), ()))))
  (obind (P_slices_Insert_api_Item_api_Item y6.2.1 (((sel (ltI y7.2.1.1 (0 : Int))
  ((@len ((List (UInt8)) × (List (UInt8)) × (List (UInt8)) × Unit) y6.2.1, ()), ())
  ((y7.2.1.1, ()), ())).1).1, (([y7.2.2.2.1] : List ((List (UInt8)) × (List (UInt8)) × (List (UInt8)) × Unit)), ()))) (fun (y8 : List ((List (UInt8)) × (List (UInt8)) × (List (UInt8)) × Unit)) => some (y8, ((0 : Int), ())))))))
  (obind (sel (leI (0 : Int) y5.2.1.1)
  (obind (P_slices_Delete_api_Item_api_Item l (y5.2.1.1, (iadd IntKind.i64 y5.2.1.1 (1 : Int), ()))) (fun (y6 : List ((List (UInt8)) × (List (UInt8)) × (List (UInt8)) × Unit)) => some (((), ()), (y6, ()))))
  (some (((), ()), (l, ())))) (fun (y6 : (Unit × Unit) × (List ((List (UInt8)) × (List (UInt8)) × (List (UInt8)) × Unit)) × Unit) => obind (Loop (g3 y6) (((0 : Int), ((0 : Int), ())), ((), ((p, (g, (d, ()))), ())))) (fun (y7 : Nat × (Int × Int × Unit) × Unit × ((List (UInt8)) × (List (UInt8)) × (List (UInt8)) × Unit) × Unit) => sel (eqN y7.1 (0 : Nat))
  (obind (P_slices_Insert_api_Item_api_Item y6.2.1 (((sel (ltI (-1 : Int) (0 : Int))
  ((@len ((List (UInt8)) × (List (UInt8)) × (List (UInt8)) × Unit) y6.2.1, ()), ())
  (((-1 : Int), ()), ())).1).1, (([y7.2.2.2.1] : List ((List (UInt8)) × (List (UInt8)) × (List (UInt8)) × Unit)), ()))) (fun (y8 : List ((List (UInt8)) × (List (UInt8)) × (List (UInt8)) × Unit)) => some (y8, ((0 : Int), ()))))
  (obind (P_slices_Insert_api_Item_api_Item y6.2.1 (((sel (ltI y7.2.1.1 (0 : Int))
  ((@len ((List (UInt8)) × (List (UInt8)) × (List (UInt8)) × Unit) y6.2.1, ()), ())
  ((y7.2.1.1, ()), ())).1).1, (([y7.2.2.2.1] : List ((List (UInt8)) × (List (UInt8)) × (List (UInt8)) × Unit)), ()))) (fun (y8 : List ((List (UInt8)) × (List (UInt8)) × (List (UInt8)) × Unit)) => some (y8, ((0 : Int), ())))))))))
  (none : Option ((List ((List (UInt8)) × (List (UInt8)) × (List (UInt8)) × Unit)) × Int × Unit))) = some (insI (rmI l p) (p, (g, (d, ()))), ((0 : Int), ())) := by
  rw [fits_len (by omega), sel_true, h1, obind_some]
  unfold keyR rmI P_slices_Delete_api_Item_api_Item
  cases hk : keyI l p with
  | none =>
    dsimp only
    rw [show eqN 0 0 = true from rfl, sel_true, leI_false (by decide), sel_false, obind_some]
    dsimp only
    exact tail22 l _ hl (h2 l _ hl)
  | some i =>
    dsimp only
    have hi : i < l.length := by
      unfold keyI at hk
      rw [List.findIdx?_eq_some_iff_getElem] at hk
      exact hk.1
    have hlen : (l.take i ++ l.drop (i + 1)).length ≤ 100000 := by rw [List.length_append, List.length_take, List.length_drop]; omega
    rw [show eqN 1 0 = false from rfl, sel_false, leI_true (by omega), sel_true, iadd_one (by omega)]
    unfold delL
    rw [inside_len (l := l) (a := i) (b := i + 1) (by omega) (by omega), Int.toNat_natCast, Int.toNat_natCast]
    simp only [cond_true, obind_some]
    exact tail22 _ _ hlen (h3 _ _ hlen)

theorem keyI_lt {l : List It} {p : Tx} {i : Nat} (h : keyI l p = some i) : i < l.length := by
  unfold keyI at h
  rw [List.findIdx?_eq_some_iff_getElem] at h
  exact h.1

theorem putItem_val (l : List It) (p d : Tx) (hl : l.length ≤ 100000) (hd : d.length ≤ 1048576) : P_images_PutItem (l, (p, (d, ()))) = some ((putF22 l p d).1, ((putF22 l p d).2, ())) := by
  have k0 : Loop (P_images_PutItem_L0 (l, (p, (d, ())))) (((0 : Int), ((0 : Int), ())), ((), (p, ()))) = some (keyR l p) := keyLoop l p hl (fun i x hx => by
    have hi := getElem?_lt hx
    unfold P_images_PutItem_L0 P_images_key
    dsimp only
    rw [ltI_len_true hi, sel_true, idx_some' hx, obind_some, obind_some, iadd_one (by omega), eqS_iff]
    cases decide (x.1 = p) <;> rfl) (by unfold P_images_PutItem_L0; dsimp only; rw [ltI_len_end, sel_false])
  have k1 : Loop (P_images_PutItem_L1 (l, (p, (d, ())))) (((0 : Int), ((0 : Int), ())), ((), (p, ()))) = some (keyR l p) := keyLoop l p hl (fun i x hx => by
    have hi := getElem?_lt hx
    unfold P_images_PutItem_L1 P_images_key
    dsimp only
    rw [ltI_len_true hi, sel_true, idx_some' hx, obind_some, obind_some, iadd_one (by omega), eqS_iff]
    cases decide (x.1 = p) <;> rfl) (by unfold P_images_PutItem_L1; dsimp only; rw [ltI_len_end, sel_false])
  have k4 : Loop (P_images_PutItem_L4 (l, (p, (d, ())))) (((0 : Int), ((0 : Int), ())), ((), (p, ()))) = some (keyR l p) := keyLoop l p hl (fun i x hx => by
    have hi := getElem?_lt hx
    unfold P_images_PutItem_L4 P_images_key
    dsimp only
    rw [ltI_len_true hi, sel_true, idx_some' hx, obind_some, obind_some, iadd_one (by omega), eqS_iff]
    cases decide (x.1 = p) <;> rfl) (by unfold P_images_PutItem_L4; dsimp only; rw [ltI_len_end, sel_false])
  have q2 : ∀ (m : List It) (it : It), m.length ≤ 100000 → Loop (P_images_PutItem_L2 (((), ()), (m, ()))) (((0 : Int), ((0 : Int), ())), ((), (it, ()))) = some (posR m it) := fun m it hm => posLoop m it hm (fun i x hx => by
    have hi := getElem?_lt hx
    unfold P_images_PutItem_L2 P_images_key
    dsimp only
    rw [ltI_len_true hi, sel_true, within_true (by omega) (show (i : Int) < len m by unfold len; omega), sel_true, idx_some' hx, obind_some, obind_some, obind_some, iadd_one (by omega)]
    cases nt (ltS x.1 it.1) <;> rfl) (by unfold P_images_PutItem_L2; dsimp only; rw [ltI_len_end, sel_false])
  have q3 : ∀ (m : List It) (it : It), m.length ≤ 100000 → Loop (P_images_PutItem_L3 (((), ()), (m, ()))) (((0 : Int), ((0 : Int), ())), ((), (it, ()))) = some (posR m it) := fun m it hm => posLoop m it hm (fun i x hx => by
    have hi := getElem?_lt hx
    unfold P_images_PutItem_L3 P_images_key
    dsimp only
    rw [ltI_len_true hi, sel_true, within_true (by omega) (show (i : Int) < len m by unfold len; omega), sel_true, idx_some' hx, obind_some, obind_some, obind_some, iadd_one (by omega)]
    cases nt (ltS x.1 it.1) <;> rfl) (by unfold P_images_PutItem_L3; dsimp only; rw [ltI_len_end, sel_false])
  have q5 : ∀ (m : List It) (it : It), m.length ≤ 100000 → Loop (P_images_PutItem_L5 (((), ()), (m, ()))) (((0 : Int), ((0 : Int), ())), ((), (it, ()))) = some (posR m it) := fun m it hm => posLoop m it hm (fun i x hx => by
    have hi := getElem?_lt hx
    unfold P_images_PutItem_L5 P_images_key
    dsimp only
    rw [ltI_len_true hi, sel_true, within_true (by omega) (show (i : Int) < len m by unfold len; omega), sel_true, idx_some' hx, obind_some, obind_some, obind_some, iadd_one (by omega)]
    cases nt (ltS x.1 it.1) <;> rfl) (by unfold P_images_PutItem_L5; dsimp only; rw [ltI_len_end, sel_false])
  have q6 : ∀ (m : List It) (it : It), m.length ≤ 100000 → Loop (P_images_PutItem_L6 (((), ()), (m, ()))) (((0 : Int), ((0 : Int), ())), ((), (it, ()))) = some (posR m it) := fun m it hm => posLoop m it hm (fun i x hx => by
    have hi := getElem?_lt hx
    unfold P_images_PutItem_L6 P_images_key
    dsimp only
    rw [ltI_len_true hi, sel_true, within_true (by omega) (show (i : Int) < len m by unfold len; omega), sel_true, idx_some' hx, obind_some, obind_some, obind_some, iadd_one (by omega)]
    cases nt (ltS x.1 it.1) <;> rfl) (by unfold P_images_PutItem_L6; dsimp only; rw [ltI_len_end, sel_false])
  unfold P_images_PutItem putF22
  dsimp only
  rw [isName_val, obind_some]
  have hlt : ltI 64 (len d) = decide (64 < d.length) := by unfold ltI len; apply decide_eq_decide.2; omega
  have hle : leI 4 (len l) = decide (4 ≤ l.length) := by unfold leI len; apply decide_eq_decide.2; omega
  dsimp only
  rw [hlt]
  by_cases hv : isNameB p = true ∧ d.length ≤ 64
  · rw [if_pos hv, hv.1, decide_eq_false (show ¬ 64 < d.length by omega), show sel (sel (nt (nt true)) false true) = sel false from rfl, sel_false, k0, obind_some, of_val d hd]
    simp only [obind_some]
    unfold P_images_key
    simp only [obind_some]
    cases hk : keyI l p with
    | none =>
      have e : keyR l p = (0, (((0 : Int), ((l.length : Int), ())), ((), (p, ())))) := by unfold keyR; rw [hk]
      rw [e]
      dsimp only
      rw [show eqN 0 0 = true from rfl, sel_true, ltI_true (by decide), sel_true, hle]
      by_cases h4 : 4 ≤ l.length
      · rw [decide_eq_true h4, sel_true, if_pos ⟨rfl, h4⟩]
      · rw [decide_eq_false h4, sel_false, if_neg (fun h => h4 h.2)]
        exact mid22 l p d (dgst d) hl k1 (fun m it hm => q2 m it hm) (fun m it hm => q3 m it hm)
    | some i =>
      have e : keyR l p = (1, (((i : Int), ((i : Int), ())), ((), (p, ())))) := by unfold keyR; rw [hk]
      rw [e]
      dsimp only
      rw [show eqN 1 0 = false from rfl, sel_false, ltI_false (by omega), sel_false, sel_false, if_neg (fun h => by cases h.1)]
      exact mid22 l p d (dgst d) hl k4 (fun m it hm => q5 m it hm) (fun m it hm => q6 m it hm)
  · rw [if_neg hv]
    have : sel (sel (nt (nt (isNameB p))) (decide (64 < d.length)) true) = sel (α := Option (List It × Int × Unit)) true := by
      cases hn : isNameB p with
      | false => rfl
      | true =>
        by_cases h64 : d.length ≤ 64
        · exact absurd ⟨hn, h64⟩ hv
        · rw [decide_eq_true (show 64 < d.length by omega)]; rfl
    rw [this, sel_true]
end Go.Ge

/- Items of an image: the reference's putting, and which items may be: in plain words. -/
namespace Go.Ge
set_option linter.unusedVariables false
set_option linter.unusedSimpArgs false

/-- The reference looks for a key from behind. -/
theorem refKey (l : List It) (p d : Tx) (hl : l.length ≤ 100000) : Loop (P_ref22_PutItem_L0 (l, (p, (d, ())))) (((-1 : Int), (isub .i64 (len l) 1, ())), ()) = some (((match keyI l p with | some i => (i : Int) | none => -1), ((-1 : Int), ())), ()) := by
  have key : ∀ (n : Nat) (k : Int), n ≤ l.length → (k = match (keyI (l.drop n) p) with | some i => ((n + i : Nat) : Int) | none => -1) →
      Loop (P_ref22_PutItem_L0 (l, (p, (d, ())))) ((k, ((n : Int) - 1, ())), ()) = some (((match keyI l p with | some i => (i : Int) | none => -1), ((-1 : Int), ())), ()) := by
    intro n
    induction n with
    | zero =>
      intro k hn hk
      rw [Loop_eq]
      unfold P_ref22_PutItem_L0
      dsimp only
      rw [leI_false (by omega), sel_false]
      rw [hk]
      simp only [List.drop_zero, Nat.zero_add]
      rfl
    | succ n ih =>
      intro k hn hk
      have hx : l[n]? = some l[n] := List.getElem?_eq_getElem (by omega)
      rw [Loop_eq]
      unfold P_ref22_PutItem_L0
      dsimp only
      have e : ((n + 1 : Nat) : Int) - 1 = (n : Int) := by omega
      rw [e, leI_true (by omega), sel_true, idx_some' hx, obind_some, isub_i64 (by omega) (by omega)]
      have hd : l.drop n = l[n] :: l.drop (n + 1) := List.drop_eq_getElem_cons (by omega)
      refine (ih _ (by omega) ?_)
      rw [hd]
      unfold keyI
      rw [List.findIdx?_cons]
      by_cases hp : l[n].1 = p
      · rw [eqS_true hp, sel_true, decide_eq_true hp]
        simp
      · rw [eqS_false hp, sel_false, decide_eq_false hp]
        dsimp only
        rw [hk]
        unfold keyI
        cases List.findIdx? (fun x => decide (x.1 = p)) (l.drop (n + 1)) with
        | none => rfl
        | some i => exact congrArg (fun a : Nat => (a : Int)) (show n + 1 + i = n + (i + 1) by omega)
  have h := key l.length (-1) (Nat.le_refl _) (by rw [List.drop_length]; rfl)
  rw [isub_i64 (by unfold len; omega) (by unfold len; omega)]
  exact h

theorem cut_snoc1 {α : Type} (m : List α) (x : α) {k : Nat} (h : m.length = k) : (m ++ [x]).take k ++ (m ++ [x]).drop (k + 1) = m.take k ++ m.drop (k + 1) := by
  subst h
  rw [List.take_append, List.drop_append]
  simp
theorem cut_snoc2 {α : Type} (m : List α) (x : α) {k : Nat} (h : m.length ≠ k) : (m ++ [x]).take k ++ (m ++ [x]).drop (k + 1) = m.take k ++ m.drop (k + 1) ++ [x] := by
  rw [List.take_append, List.drop_append]
  by_cases hk : k < m.length
  · have e1 : k - m.length = 0 := by omega
    have e2 : k + 1 - m.length = 0 := by omega
    rw [e1, e2]
    simp
  · obtain ⟨d, hd⟩ : ∃ d, k = m.length + 1 + d := ⟨k - m.length - 1, by omega⟩
    subst hd
    have e1 : m.length + 1 + d - m.length = d + 1 := by omega
    have e2 : m.length + 1 + d + 1 - m.length = d + 2 := by omega
    rw [e1, e2, List.take_of_length_le (by omega), List.drop_of_length_le (by omega)]
    simp

theorem refRm (l : List It) (p d : Tx) (hl : l.length ≤ 100000) (q : Int) (hq : q = match keyI l p with | some i => (i : Int) | none => -1) :
    Loop (P_ref22_PutItem_L1 (l, (p, (d, ()))) ((q, ((-1 : Int), ())), ())) (((), ((0 : Int), ())), (([] : List It), ())) = some (((), ((l.length : Int), ())), (rmI l p, ())) := by
  obtain ⟨t, ht, h1, h2⟩ := fold_loop (f := P_ref22_PutItem_L1 (l, (p, (d, ()))) ((q, ((-1 : Int), ())), ())) l (fun (t : List It) i => (((), (i, ())), (t, ()))) (fun t i x => if (i : Int) = q then t else t ++ [x]) (fun t => (((), ((l.length : Int), ())), (t, ())))
    (fun t i => t = (match keyI l p with | some k => (l.take i).take k ++ (l.take i).drop (k + 1) | none => l.take i)) (by omega) (fun t i x hx hi hadd hI => by
      have htl : t.length ≤ l.length := by
        rw [hI]
        split
        · rw [List.length_append, List.length_take, List.length_drop, List.length_take]; omega
        · rw [List.length_take]; omega
      constructor
      · unfold P_ref22_PutItem_L1
        dsimp only
        rw [ltI_len_true hi, sel_true, idx_some' hx, obind_some, hadd]
        by_cases e : (i : Int) = q
        · rw [eqI_true e, nt_true, sel_false, obind_some, if_pos e, way1_inl]
        · rw [eqI_false e, nt_false, sel_true, fits_len2 (by simp only [List.length_cons, List.length_nil]; omega), sel_true, obind_some, if_neg e, way1_inl]; rfl
      · have hta : l.take (i + 1) = l.take i ++ [x] := by rw [List.take_add_one, hx]; rfl
        have hil : (l.take i).length = i := by rw [List.length_take]; omega
        rw [hI, hq]
        cases hk : keyI l p with
        | none => dsimp only; rw [if_neg (by omega), hta]
        | some k =>
          dsimp only
          rw [hta]
          by_cases e : i = k
          · rw [if_pos (by omega), cut_snoc1 _ x (by omega)]
          · rw [if_neg (by omega), cut_snoc2 _ x (by omega)]) (fun t _ => by
      unfold P_ref22_PutItem_L1
      dsimp only
      rw [ltI_len_end, sel_false]
      rfl) [] (by cases keyI l p <;> simp)
  rw [h1, ht]
  unfold rmI
  rw [List.take_length]
  all_goals (cases keyI l p <;> rfl)

theorem refPlace (l m : List It) (p d : Tx) (n : Int) (hm : m.length ≤ 100000) : Loop (P_ref22_PutItem_L2 (l, (p, (d, ()))) (((), (n, ())), (m, ()))) (((0 : Int), ()), ()) = some (((placeN m p : Int), ()), ()) := by
  rcases srch (f := P_ref22_PutItem_L2 (l, (p, (d, ()))) (((), (n, ())), (m, ()))) m (fun i => ((i, ()), ())) (fun _ x => nt (ltS x.1 p)) (fun i _ => (((i : Int), ()), ())) (((m.length : Int), ()), ()) (by omega) (fun i x hx hi hadd => by
      unfold P_ref22_PutItem_L2
      dsimp only
      rw [ltI_len_true hi, sel_true, within_true (by omega) (show (i : Int) < len m by unfold len; omega), sel_true, idx_some' hx, obind_some, obind_some, hadd]
      cases ltS x.1 p <;> rfl) (by
      unfold P_ref22_PutItem_L2
      dsimp only
      rw [ltI_len_end, sel_false, obind_some]; rfl) with ⟨i, x, hx, hp, hj, h⟩ | ⟨hn, h⟩
  all_goals
    have lt_of : ∀ {x : It}, nt (ltS x.1 p) = false → ltS x.1 p = true := fun {x} h => by
      cases hh : ltS x.1 p with
      | true => rfl
      | false => rw [hh] at h; cases h
  · have hi := getElem?_lt hx
    rw [h, takeWhile_of (m := m) (p := p) (k := i) (by omega) (fun j y hji hy => lt_of (hj j y hji hy)) (fun y hy => by
      rw [hx] at hy
      obtain rfl := Option.some.inj hy
      cases hh : ltS x.1 p with
      | false => rfl
      | true => rw [hh] at hp; cases hp)]
  · rw [h, takeWhile_of (m := m) (p := p) (k := m.length) (Nat.le_refl _) (fun j y hji hy => lt_of (hn j y hy)) (fun y hy => by
      rw [List.getElem?_eq_none (Nat.le_refl _)] at hy; cases hy)]

theorem insI_parts (m : List It) (it : It) : m.take (placeN m it.1) ++ [it] ++ m.drop (placeN m it.1) = insI m it := by
  unfold insI
  have e := List.takeWhile_append_dropWhile (p := fun y : It => ltS y.1 it.1) (l := m)
  have e1 : m.take (placeN m it.1) = m.takeWhile (fun y => ltS y.1 it.1) := by
    unfold placeN
    conv => lhs; rw [← e]
    rw [List.take_left']
    rw [e]
  have e2 : m.drop (placeN m it.1) = m.dropWhile (fun y => ltS y.1 it.1) := by
    unfold placeN
    conv => lhs; rw [← e]
    rw [List.drop_left']
    rw [e]
  rw [e1, e2]

theorem refPutItem_val (l : List It) (p d : Tx) (hl : l.length ≤ 100000) (hp : p.length ≤ 4294967296) (hd : d.length ≤ 1048576) : P_ref22_PutItem (l, (p, (d, ()))) = some ((putF22 l p d).1, ((putF22 l p d).2, ())) := by
  unfold P_ref22_PutItem putF22
  dsimp only
  rw [refIsName_val p hp, obind_some]
  have hlt : ltI 64 (len d) = decide (64 < d.length) := by unfold ltI len; apply decide_eq_decide.2; omega
  have hle : leI 4 (len l) = decide (4 ≤ l.length) := by unfold leI len; apply decide_eq_decide.2; omega
  dsimp only
  rw [hlt]
  by_cases hv : isNameB p = true ∧ d.length ≤ 64
  · rw [if_pos hv, hv.1, decide_eq_false (show ¬ 64 < d.length by omega), show sel (sel (nt (nt true)) false true) = sel false from rfl, sel_false, refKey l p d hl, obind_some]
    dsimp only
    rw [refRm l p d hl _ rfl, obind_some, hle]
    dsimp only
    have hrm := rmI_len l p
    rw [refPlace l (rmI l p) p d _ (by omega), obind_some, refOf_val d hd, obind_some]
    dsimp only
    have hk : placeN (rmI l p) p ≤ (rmI l p).length := by
      unfold placeN
      have := congrArg List.length (List.takeWhile_append_dropWhile (p := fun y : It => ltS y.1 p) (l := rmI l p))
      rw [List.length_append] at this; omega
    have hins2 := insI_parts (rmI l p) (p, (dgst d, (d, ())))
    rw [sub_take, sub_drop _ _ hk]
    have ht : ((rmI l p).take (placeN (rmI l p) p)).length ≤ 100000 := by rw [List.length_take]; omega
    have hdr : ((rmI l p).drop (placeN (rmI l p) p)).length ≤ 100000 := by rw [List.length_drop]; omega
    rw [show inside 0 ((placeN (rmI l p) p : Nat) : Int) (len (rmI l p)) = true from inside_true (by decide) (by omega) (by unfold len; omega), sel_true, fits_len2 (by simp only [List.length_nil]; omega), sel_true, fits_len2 (by simp only [app_eq, List.nil_append, List.length_cons, List.length_nil]; omega), sel_true]
    rw [show inside ((placeN (rmI l p) p : Nat) : Int) (len (rmI l p)) (len (rmI l p)) = true from inside_true (by omega) (by unfold len; omega) (Int.le_refl _), sel_true, fits_len2 (by simp only [app_eq, List.nil_append, List.length_append, List.length_cons, List.length_nil]; omega), sel_true]
    rw [show app (app (app [] ((rmI l p).take (placeN (rmI l p) p))) [(p, (dgst d, (d, ())))]) ((rmI l p).drop (placeN (rmI l p) p)) = insI (rmI l p) (p, (dgst d, (d, ()))) from hins2]
    cases hk : keyI l p with
    | none =>
      dsimp only
      rw [ltI_true (by decide), sel_true]
      by_cases h4 : 4 ≤ l.length
      · rw [decide_eq_true h4, sel_true, if_pos ⟨rfl, h4⟩]
      · rw [decide_eq_false h4, sel_false, if_neg (fun h => h4 h.2)]
    | some i =>
      dsimp only
      rw [ltI_false (Int.natCast_nonneg i), sel_false, sel_false, if_neg (fun h => by cases h.1)]
  · rw [if_neg hv]
    have : sel (sel (nt (nt (isNameB p))) (decide (64 < d.length)) true) = sel (α := Option (List It × Int × Unit)) true := by
      cases hn : isNameB p with
      | false => rfl
      | true =>
        by_cases h64 : d.length ≤ 64
        · exact absurd ⟨hn, h64⟩ hv
        · rw [decide_eq_true (show 64 < d.length by omega)]; rfl
    rw [this, sel_true]
end Go.Ge
